import PyProof.Rows.All
import Wide.All
import OpenK.AllK
import HandS.EndTab
import HandS.Words
import HandS.Head0
import HandS.Head1
import HandS.Head2
import HandS.HeadEnd
import HandS.HeadHook1
import HandS.HeadHook2
import HandS.HeadHook4
import HandS.NestedK
import KE.KExcInit
import Wide.FinOn
import HandS.ForMost
import HandS.ForExc
import HandS.Property
import HandS.ClsMeth
import HandS.Style
import HandS.TupAny
import HandS.TupMul
import HandS.Deep
import HandS.Zip
import HandS.Lambda
import HandS.Defaults
import HandS.IsInst
import HandS.Flow
import KE.GoesEnum
import HandS.SortInts
import HandS.Codes
import HandS.Small
import HandS.CallSlots
import HandS.CallLocal
import KE.KStateDown
import HandS.Star
import KE.KDictPairs
import HandS.SortRule
import HandS.NoneIn
import KE.KExcSuper
import KE.KExcLine
import HandS.ExcOwn
import HandS.TryMany
import HandS.ExcInit
import KE.KTryMore
import HandS.ExcIs
import KE.KExcIs
import HandS.ExcField
import HandS.HotCalls
import PyProof.ExcBaseAll.ValueError
import PyProof.ExcBaseAll.LookupError
import PyProof.ExcBaseAll.ArithmeticError
import PyProof.InstStoreFacts
import PyProof.ReprRoads
import PyProof.ReprLen
import HandS.SetFor
import HandS.Strs
import PyProof.ListRange
import HandS.NamedTupGet
import PyProof.FactsAll.dict
import KE.KDictZip
import HandS.OwnEq
import PyProof.CollectWalk
import HandS.SlotsOwn
import HandS.More
import PyProof.DictUpdate
import PySem.Challenge.RW_pinkwash_k23_known_comparings
set_option Elab.async false
set_option linter.all false
set_option maxRecDepth 100000
set_option maxHeartbeats 0
/-! The data layer, part E0: what a head's run names. -/
namespace Pk
open PySem PySem.Spec PyProof.Rows L2
inductive Ty where
  | int | str | tup | lst | bool | dict
  deriving DecidableEq
def Ty.nm : Ty → String
  | .int => "int" | .str => "str" | .tup => "tuple" | .lst => "list" | .bool => "bool" | .dict => "dict"
/-- what the text's names stand for -/
structure Tab where
  ca : Nat → Addr
  fn : Nat → List Str
  tb : List (Addr × Str) := []
/-- a def by a path to its object -/
structure DefP where
  pth : PySem.W.Frag → Addr
  name : Str
  qual : Str
  params : Arguments
  body : List Stmt
  scope : Scope
  dfl : List He.Dv := []
def fnAt (K : PySem.W.Frag) (a : Addr) : He.FnW := match K.lookup a with
  | some ob => match ob.data with
    | .func fd => some (fd.name, fd.qualname, fd.params, fd.body, fd.scope, fd.globals, fd.closure, fd.builtins)
    | _ => none
  | none => none
def DefP.val (d : DefP) : He.FnW := some (d.name, d.qual, d.params, .stmts d.body, d.scope, mainGlobals, [], builtinsNs)
def codeD (K : PySem.W.Frag) (d : DefP) : Bool := match K.lookup (d.pth K) with
  | some ob => match ob.data with
    | .func fd => PySem.W.codeIn K fd.code d.qual && He.dflB K fd.defaults (d.dfl.map (He.Dv.v K))
    | _ => false
  | none => false
def DefP.chk (K : PySem.W.Frag) (d : DefP) : Bool := PySem.W.keepIn K (.ref (d.pth K)) && codeD K d
def obsP (fs : List (PySem.W.Frag → Bool)) (fn : List DefP) (K : PySem.W.Frag) : Bool × List He.FnW := (fs.all (fun f => f K) && fn.all (fun d => d.chk K), fn.map fun d => fnAt K (d.pth K))
def SaysP (fs : List (PySem.W.Frag → Bool)) (fn : List DefP) (K : PySem.W.Frag) : Prop := obsP fs fn K = (true, fn.map DefP.val)
abbrev pG (x : Str) : PySem.W.Frag → Addr := fun K => He.ga K x
abbrev pM (x m : Str) : PySem.W.Frag → Addr := fun K => He.ma K (He.ga K x) m
/-- the function under a property, a classmethod -/
def undr (K : PySem.W.Frag) (p : Addr) (T : String) : Addr := match PySem.W.recIn K p T with
  | some (.ref g :: _) => g
  | _ => 0
abbrev pP (x m : Str) : PySem.W.Frag → Addr := fun K => undr K (He.ma K (He.ga K x) m) "property"
def recB (K : PySem.W.Frag) (p : Addr) (T : String) : Bool := match PySem.W.recIn K p T with
  | some (.ref _ :: _) => true
  | _ => false
def fProp (x m : Str) : PySem.W.Frag → Bool := fun K => He.eqO (PySem.W.findIn K (.ref (He.ga K x)) m) (some (some (.ref (pM x m K)))) && (He.eqO (PySem.W.specialIn K (.ref (pM x m K)) "__get__") (some (some (.builtin "property.__get__"))) && (decide (PySem.W.takesIn K (.ref (pM x m K)) = some true) && recB K (pM x m K) "property"))
def tys : List Ty := [.int, .str, .tup, .lst, .bool, .dict]
def fIsi (x : Str) : PySem.W.Frag → Bool := fun K => He.eqO (PySem.W.findIn K (.ref (He.ga K x)) "__class__") (some (some (.builtin "object.__class__"))) && (He.eqO (PySem.W.specialIn K (.builtin "object.__class__") "__get__") (some (some (.builtin "getset_descriptor.__get__"))) &&
  (decide (PySem.W.takesIn K (.builtin "object.__class__") = some true) && (decide (PySem.W.mroIn K (He.ga K x) (.type "object") = some true) && (decide (PySem.W.kitOne K (.ref (He.ga K x)) (.ref (He.ga K x)) = some true) &&
  (decide (PySem.W.kitOne K (.type "NoneType") (.ref (He.ga K x)) = some false) && tys.all fun t => decide (PySem.W.kitOne K (.type t.nm) (.ref (He.ga K x)) = some false))))))
abbrev fa (f : He.Fa) : PySem.W.Frag → Bool := fun K => f.ok K
abbrev PartP := List (PySem.W.Frag → Bool) × List DefP
def valPart (p : PartP) : Bool × List He.FnW := (true, p.2.map DefP.val)
/-- the i-th default is an empty tuple -/
def emB (K : PySem.W.Frag) (a : Addr) : Bool := match K.lookup a with
  | some o => match o.data with
    | .seq its _ => decide (o.cls = .type "tuple") && Nat.beq its.size 0
    | _ => false
  | none => false
def fEm (q : Str × Option Str) (i : Nat) : PySem.W.Frag → Bool := fun K => emB K (He.dflAt q i K)
def clsBody : Stmt → List Stmt
  | .ClassDef (body := b) .. => b
  | _ => []
def nth (l : List Stmt) (i : Nat) : Stmt := l.getD i (.Pass ⟨0, 0, 0, 0⟩)
def memB (c : Nat) : List Nat → Bool
  | [] => false
  | x :: r => match Nat.beq x c with
    | true => true
    | false => memB c r
/-- the name of a lambda of the def x -/
def lamQ (x : Str) : Str := (x ++ ".<locals>.") ++ "<lambda>"
/-- the tables of the defs xs -/
def tbOf (K : PySem.W.Frag) (xs : List Str) : List (Addr × Str) := xs.map fun x => ((He.cT K (x, none)).2, lamQ x)
def apart : List Addr → Bool
  | [] => true
  | a :: r => r.all (fun b => !Nat.beq b a) && apart r
/-- what the head tells of the tables -/
structure TabX (K : PySem.W.Frag) (xs : List Str) (h : Heap) : Prop where
  hd : ∀ x ∈ xs, PySem.W.codeHdIn K (He.cT K (x, none)).1 (He.cT K (x, none)).2 = true
  out : ∀ x ∈ xs, K.lookup (He.cT K (x, none)).2 = none
  em : ∀ x ∈ xs, h.get? (He.cT K (x, none)).2 = some { cls := .none, data := .fields #[] }
def tabX (g : Addr → Option Obj) (xs : List Str) (K : PySem.W.Frag) : Bool := He.tabsB g (xs.map fun x => (x, none)) K
theorem tabX_ok {n : Nat} {h : Heap} {xs : List Str} (e : tabX h.get? xs (He.frT h.get? (List.range n)) = true) : TabX (He.frT h.get? (List.range n)) xs h := by
  have each : ∀ x ∈ xs, PySem.W.codeHdIn (He.frT h.get? (List.range n)) (He.cT (He.frT h.get? (List.range n)) (x, none)).1 (He.cT (He.frT h.get? (List.range n)) (x, none)).2 = true ∧ ∃ o, h.get? (He.cT (He.frT h.get? (List.range n)) (x, none)).2 = some o ∧ He.emptyTab o = true := fun x hx => by
    have q := List.all_eq_true.mp e (x, none) (List.mem_map.mpr ⟨x, hx, rfl⟩)
    obtain ⟨q1, q2⟩ := Bool.and_eq_true_iff.mp q
    refine ⟨q1, ?_⟩
    split at q2
    · rename_i o ho
      exact ⟨o, ho, q2⟩
    · cases q2
  refine ⟨fun x hx => (each x hx).1, fun x hx => ?_, fun x hx => ?_⟩
  · obtain ⟨_, o, h1, h2⟩ := each x hx
    exact He.frT_none h1 h2
  · obtain ⟨_, o, h1, h2⟩ := each x hx
    rw [h1, He.emptyTab_eq h2]
/-- the built-in class behind an own error -/
inductive EB where
  | v | l | a
def EB.n : EB → String
  | .v => "ValueError"
  | .l => "LookupError"
  | .a => "ArithmeticError"
def EB.nw : EB → String
  | .v => "ValueError.__new__"
  | .l => "LookupError.__new__"
  | .a => "ArithmeticError.__new__"
def EB.ini : EB → String
  | .v => "ValueError.__init__"
  | .l => "LookupError.__init__"
  | .a => "ArithmeticError.__init__"
def EB.bm (b : EB) : List Value := [.type b.n, .type "Exception", .type "BaseException", .type "object"]
def allT : List Bool → Bool
  | [] => true
  | b :: r => b && allT r
def errCB (K : PySem.W.Frag) (C : Addr) (b : EB) : Bool := allT [PySem.W.excInitIn K C b.bm b.nw, PySem.W.excOver K C b.bm, decide (PySem.W.subIn K (.ref C) (.type b.n) = some true), decide (PySem.W.mroIn K C (.ref C) = some true), He.eqO (PySem.W.ks_superIn K C C "__init__") (some (some (.builtin b.ini))),
  He.eqO (PySem.W.findIn K (.ref C) "__setattr__") (some (some (.builtin "object.__setattr__"))), decide (PySem.W.subIn K (.ref C) (.type "BaseException") = some true), decide (PySem.W.typeIn K (.ref C) = some (.type "type")), PySem.W.keepIn K (.ref C), PySem.W.hasDictIn K C, He.eqO (PySem.W.nsIn K cStatics "thirdparty.any") (some none)]
structure ErrP where
  cls : Str
  params : Arguments
  body : List Stmt
  scope : Scope
  fs : List Str
def fnAt0 (K : PySem.W.Frag) (a : Addr) : He.FnW := match fnAt K a with
  | some (n, q, ps, b, s, g, cl, bl) => some (n, q, ps, b, s, g, cl.map fun x => (x.1, 0), bl)
  | none => none
def ErrP.val (e : ErrP) : He.FnW := some ("__init__", e.cls ++ ".__init__", e.params, .stmts e.body, e.scope, mainGlobals, [("__class__", 0)], builtinsNs)
def ErrP.at (K : PySem.W.Frag) (e : ErrP) : Addr := He.ma K (He.ga K e.cls) "__init__"
def cellB (K : PySem.W.Frag) (C : Addr) : List (Str × Addr) → Bool
  | [(_, cc)] => match K.lookup cc with
    | some ob => match ob.data with
      | .cell (some (.ref c)) => Nat.beq c C
      | _ => false
    | none => false
  | _ => false
def fileB (K : PySem.W.Frag) (f0 : Str) : Value → Bool
  | .ref c => match K.lookup c with
    | some ob => match ob.data with
      | .fields vs => match (vs[2]? : Option Value) with
        | some (.str f _) => f0 == f
        | _ => false
      | _ => false
    | none => false
  | _ => false
def noneV : Value → Bool
  | .none => true
  | _ => false
def errFB (K : PySem.W.Frag) (f0 : Str) (e : ErrP) : Bool := He.eqO (PySem.W.findIn K (.ref (He.ga K e.cls)) "__init__") (some (some (.ref (e.at K)))) && (decide (PySem.W.typeIn K (.ref (e.at K)) = some (.type "function")) && ((e.fs.all fun f => decide (PySem.W.takerIn K (He.ga K e.cls) f = some none)) &&
  (match K.lookup (e.at K) with
    | some ob => match ob.data with
      | .func fd => PySem.W.codeIn K fd.code fd.qualname && (noneV fd.defaults && (cellB K (He.ga K e.cls) fd.closure && fileB K f0 fd.code))
      | _ => false
    | none => false)))
def fErr (x : Str) (b : EB) : PySem.W.Frag → Bool := fun K => errCB K (He.ga K x) b
def eachN (f : Nat → Bool) : List Nat → Bool
  | [] => true
  | c :: r => f c && eachN f r
/-- which of the errors a clause takes -/
def fExm (T : PySem.W.Frag → Tab) (all : List Nat) (cs : PySem.W.Frag → List Value) (ns : List Nat) : PySem.W.Frag → Bool := fun K => eachN (fun c => decide (PySem.W.exmAny K (.ref ((T K).ca c)) (cs K) = some (memB c ns))) all
def errQB (K : PySem.W.Frag) (D : Addr) : Bool := allT [He.eqO (PySem.W.findIn K (.ref D) "__getattribute__") (some (some (.builtin "BaseException.__getattribute__"))), He.eqO (PySem.W.findIn K (.ref D) "__getattr__") (some none), decide (PySem.W.subIn K (.ref D) (.type "BaseException") = some true), PySem.W.hasDictIn K D,
  He.eqO (PySem.W.findIn K (.ref D) "__class__") (some (some (.builtin "object.__class__"))), He.eqO (PySem.W.specialIn K (.builtin "object.__class__") "__get__") (some (some (.builtin "getset_descriptor.__get__"))), decide (PySem.W.takesIn K (.builtin "object.__class__") = some true), decide (PySem.W.mroIn K D (.type "object") = some true)]
def fErQ (T : PySem.W.Frag → Tab) (all : List Nat) : PySem.W.Frag → Bool := fun K => eachN (fun c => errQB K ((T K).ca c)) all
/-- isinstance(e, t) -/
def fKit (T : PySem.W.Frag → Tab) (all : List Nat) (t : PySem.W.Frag → Value) (ns : List Nat) : PySem.W.Frag → Bool := fun K => eachN (fun c => decide (PySem.W.kitOne K (.ref ((T K).ca c)) (t K) = some (memB c ns))) all
/-- e.f -/
def fErf (T : PySem.W.Frag → Tab) (ns : List Nat) (f : Str) : PySem.W.Frag → Bool := fun K => eachN (fun c => He.eqO (PySem.W.findIn K (.ref ((T K).ca c)) f) (some none)) ns
abbrev AlE : Type := ((Bool × List He.FnW) × Bool) × List He.FnW
def obsE (n : Nat) (p : PartP) (xs : List Str) (es : List ErrP) (g : Addr → Option Obj) : AlE := ((obsP p.1 p.2 (He.frT g (List.range n)), tabX g xs (He.frT g (List.range n))), es.map fun e => fnAt0 (He.frT g (List.range n)) (e.at (He.frT g (List.range n))))
structure SaysE (p : PartP) (xs : List Str) (es : List ErrP) (h : Heap) (K : PySem.W.Frag) : Prop where
  kin : K.In h
  c : SaysP p.1 p.2 K
  t : TabX K xs h
  e : ∀ x ∈ es, fnAt0 K (x.at K) = x.val
def hookE (n : Nat) (p : PartP) (xs : List Str) (es : List ErrP) : PySem.W.Hook where
  α := AlE
  obs := fun s => obsE n p xs es s.heap.get?
  val := fun _ => ((valPart p, true), es.map ErrP.val)
  says := fun _ h => ∃ K : PySem.W.Frag, SaysE p xs es h K
  of := fun _ s e => ⟨He.frT s.heap.get? (List.range n), He.frT_in, congrArg (fun z : AlE => z.1.1) e, tabX_ok (congrArg (fun z : AlE => z.1.2) e), List.map_inj_left.mp (congrArg (fun z : AlE => z.2) e)⟩
  keeps := fun _ _ _ ⟨K, a⟩ k => ⟨K, PySem.W.Frag.In.keeps a.kin k, a.c, ⟨a.t.hd, a.t.out, fun x hx => k _ _ (a.t.em x hx)⟩, a.e⟩
def obE (n : Nat) (p : PartP) (xs : List Str) (es : List ErrP) (s : PySem.W.SharedT) : AlE := obsE n p xs es (HandSHeadRun.getT s)
theorem obE_eq (n : Nat) (p : PartP) (xs : List Str) (es : List ErrP) (s : PySem.W.SharedT) : obE n p xs es s = (hookE n p xs es).obs s.abs := by
  have e : HandSHeadRun.getT s = s.abs.heap.get? := funext (HandSHeadRun.getT_eq s)
  unfold obE
  rw [e] <;> rfl
end Pk

namespace Pk
open PySem PySem.Spec PyProof.Rows L2
/-- != of a class is that of object -/
def fNe (x : Str) : PySem.W.Frag → Bool := fun K => He.eqO (PySem.W.findIn K (.ref (He.ga K x)) "__ne__") (some (some (.builtin "object.__ne__"))) && decide (PySem.W.mroIn K (He.ga K x) (.type "object") = some true)
def NeF (K : PySem.W.Frag) (C : Addr) : Prop := PySem.W.findIn K (.ref C) "__ne__" = some (some (.builtin "object.__ne__")) ∧ PySem.W.mroIn K C (.type "object") = some true
theorem fNe_ok {K : PySem.W.Frag} {x : Str} (c : fNe x K = true) : NeF K (He.ga K x) := by
  obtain ⟨c1, c2⟩ := Bool.and_eq_true_iff.mp c
  exact ⟨He.eqO_ok c1, of_decide_eq_true c2⟩
end Pk

namespace K23
open PySem PySem.Spec PyProof.Rows L2 Pk
abbrev top (i : Nat) : Stmt := nth PySem.Challenge.pw_pinkwash_k23_known_comparings.main.body i
def lams : List Str := ["_law_right", "_law_sock_right"]
def tab (K : PySem.W.Frag) : Tab := ⟨fun n => match n with | 0 => He.ga K "Book" | 1 => He.ga K "Walk" | 20 => He.ga K "Contradicts" | _ => 0, fun n => match n with | 0 => ["clothes", "told", "parsed", "walk"] | 1 => ["owners", "life_rows", "tally_row", "load_rows", "look_rows", "span_rows"] | 20 => ["given"] | _ => [], tbOf K lams⟩
abbrev f0 : Str := PySem.Challenge.pw_pinkwash_k23_known_comparings.main.file
abbrev s_Contradicts_init : Stmt := nth (clsBody (top 26)) 0
abbrev e_Contradicts : ErrP := ⟨"Contradicts", defArgs s_Contradicts_init, defBody s_Contradicts_init, defScope s_Contradicts_init, ["given"]⟩
def errs : List ErrP := [e_Contradicts]
abbrev s__law_dab : Stmt := top 76
abbrev s_is_name : Stmt := top 34
abbrev s_is_integer : Stmt := top 32
abbrev s_is_between : Stmt := top 33
abbrev s_is_garment : Stmt := top 45
abbrev s_check_garments : Stmt := top 46
abbrev s_parted_at : Stmt := top 49
abbrev s_dyes_in : Stmt := top 48
abbrev s_are_different : Stmt := top 50
abbrev s_names_in : Stmt := top 47
abbrev s_wash_in : Stmt := top 51
abbrev s_entry_in : Stmt := top 52
abbrev s_check_lines : Stmt := top 53
abbrev s_Walk_wash : Stmt := nth (clsBody (top 56)) 2
abbrev s_Walk_go : Stmt := nth (clsBody (top 56)) 1
abbrev s_Walk_init : Stmt := nth (clsBody (top 56)) 0
abbrev s_Book_init : Stmt := nth (clsBody (top 57)) 0
abbrev s_check_book : Stmt := top 58
abbrev s_Book_garments : Stmt := nth (clsBody (top 57)) 2
abbrev s_Book_entries : Stmt := nth (clsBody (top 57)) 7
abbrev s_washes_of : Stmt := top 65
abbrev s_check_kin : Stmt := top 66
abbrev s_Book_lives : Stmt := nth (clsBody (top 57)) 5
abbrev s_garment_of : Stmt := top 59
abbrev s_top_of : Stmt := top 60
abbrev s_Book_looks : Stmt := nth (clsBody (top 57)) 6
abbrev s_Book_spans : Stmt := nth (clsBody (top 57)) 8
abbrev s_tops_of : Stmt := top 62
abbrev s_fits_tops : Stmt := top 63
abbrev s_without_look : Stmt := top 67
abbrev s_reading_between : Stmt := top 68
abbrev s_says_all : Stmt := top 69
abbrev s_parting : Stmt := top 71
abbrev s_alike : Stmt := top 70
abbrev s_Book_lines : Stmt := nth (clsBody (top 57)) 3
abbrev s_Book_dyes : Stmt := nth (clsBody (top 57)) 4
abbrev s_joined_line : Stmt := top 72
abbrev s_joined : Stmt := top 73
abbrev s_Book___eq__ : Stmt := nth (clsBody (top 57)) 14
abbrev s__law_sort : Stmt := top 77
abbrev s__law_kept : Stmt := top 78
abbrev s__law_told : Stmt := top 79
abbrev s__law_sock_right : Stmt := top 80
abbrev s__law_right : Stmt := top 81
abbrev s__law_rinse : Stmt := top 75
abbrev s_law : Stmt := top 82
end K23

/-! The data layer, part E1: the head's run in two, each of less memory. -/
namespace Pk
open PySem PySem.Spec PyProof.Rows L2
/-- the run that tells of the defs alone -/
def RunF (r : PySem.W.OpenRow) (n : Nat) (fn : List DefP) (M : Nat) (w : World) : Prop :=
  ∀ os : OsState, (HandSHeadRun.endF (HandSHeadRun.stepQ (HandSHeadRun.denQ HandSHeadRun.tabQ) r.prog w) M r.prog w os).map (fun s => obsP [] fn (He.frT (HandSHeadRun.getT s) (List.range n))) = some (true, fn.map DefP.val)
theorem obsP_two {fs : List (PySem.W.Frag → Bool)} {fn : List DefP} {K : PySem.W.Frag} (h1 : obsP fs [] K = (true, ([] : List DefP).map DefP.val)) (h2 : obsP [] fn K = (true, fn.map DefP.val)) : obsP fs fn K = (true, fn.map DefP.val) := by
  have a1 : (fs.all (fun f => f K) && true) = true := congrArg (fun z : Bool × List He.FnW => z.1) h1
  have a2 : (true && fn.all fun d => d.chk K) = true := congrArg (fun z : Bool × List He.FnW => z.1) h2
  have a3 : fn.map (fun d => fnAt K (d.pth K)) = fn.map DefP.val := congrArg (fun z : Bool × List He.FnW => z.2) h2
  show (fs.all (fun f => f K) && fn.all (fun d => d.chk K), fn.map fun d => fnAt K (d.pth K)) = _
  rw [Bool.and_true] at a1
  rw [Bool.true_and] at a2
  rw [a1, a2, a3]
  rfl
theorem runE_two {r : PySem.W.OpenRow} {q : Program} {n : Nat} {fs : List (PySem.W.Frag → Bool)} {fn : List DefP} {xs : List Str} {es : List ErrP} {M : Nat} {loose : List PySem.Str} {w : World}
    (h1 : HandSHeadRun.RunEq r q (hookE n (fs, []) xs es) (obE n (fs, []) xs es) M loose w) (h2 : RunF r n fn M w) : HandSHeadRun.RunEq r q (hookE n (fs, fn) xs es) (obE n (fs, fn) xs es) M loose w := by
  intro os
  obtain ⟨s, e1, e2⟩ := Option.map_eq_some_iff.mp (h2 os)
  have e3 := h1 os
  rw [e1] at e3 ⊢
  have e4 := Option.some.inj e3
  injection e4 with h4 h5
  injection h5 with h5 h6
  have h6 : ((obsP fs [] (He.frT (HandSHeadRun.getT s) (List.range n)), tabX (HandSHeadRun.getT s) xs (He.frT (HandSHeadRun.getT s) (List.range n))), es.map fun e => fnAt0 (He.frT (HandSHeadRun.getT s) (List.range n)) (e.at (He.frT (HandSHeadRun.getT s) (List.range n)))) = (((true, ([] : List DefP).map DefP.val), true), es.map ErrP.val) := h6
  injection h6 with h6 h9
  injection h6 with h7 h8
  show some (_, _, ((obsP fs fn (He.frT (HandSHeadRun.getT s) (List.range n)), tabX (HandSHeadRun.getT s) xs (He.frT (HandSHeadRun.getT s) (List.range n))), es.map fun e => fnAt0 (He.frT (HandSHeadRun.getT s) (List.range n)) (e.at (He.frT (HandSHeadRun.getT s) (List.range n))))) = some (_, _, ((valPart (fs, fn), true), es.map ErrP.val))
  rw [h4, h5, h8, h9, obsP_two h7 e2]
  rfl
end Pk

namespace K23
open PySem PySem.Spec PyProof.Rows L2 Pk
def fs0_0 : List (PySem.W.Frag → Bool) := [fa (.glo "law"),
  fa (.free "len"),
  fa (.free "min"),
  fa (.free "max"),
  fa (.free "range"),
  fa (.glo "_law_rinse"),
  fa (.glo "_law_right"),
  fa (.glo "_law_dab"),
  fa (.mkr "Book"),
  fa (.glo "Book"),
  fa (.glo "says_all"),
  fa (.glo "parting"),
  fa (.glo "joined"),
  fa (.glo "alike"),
  fa (.free "tuple"),
  fa (.free "isinstance"),
  fa (.meth "Book" "__eq__"),
  fNe "Book",
  fa (.glo "_law_told"),
  fa (.glo "_law_sock_right"),
  fa (.free "int"),
  fa (.free "divmod"),
  fa (.glo "check_garments"),
  fa (.glo "check_lines"),
  fa (.cls "Book"),
  fa (.noat "Book" "clothes"),
  fa (.noat "Book" "told"),
  fa (.noat "Book" "parsed"),
  fa (.glo "entry_in"),
  fa (.noat "Book" "walk")]
def fs0_1 : List (PySem.W.Frag → Bool) := [fa (.mkr "Walk"),
  fa (.glo "Walk"),
  fa (.free "enumerate"),
  fa (.int "MOST_GARMENTS" (8)),
  fa (.glo "is_garment"),
  fa (.glo "is_name"),
  fa (.int "MOST_WASHES" (12)),
  fa (.glo "is_between"),
  fa (.free "str"),
  fa (.str "LETTERS" "abcdefghijklmnopqrstuvwxyz"),
  fa (.free "all"),
  fa (.glo "is_integer"),
  fa (.free "bool"),
  fa (.int "MOST_LINES" (30)),
  fa (.str "WASH" "wash"),
  fa (.glo "wash_in"),
  fa (.str "RENEW" "renew"),
  fa (.glo "names_in"),
  fa (.str "SKIPPED" "?"),
  fa (.glo "parted_at"),
  fa (.str "SEEN" "+"),
  fa (.glo "dyes_in"),
  fa (.glo "are_different"),
  fa (.free "dict"),
  fa (.free "list"),
  fa (.cls "Walk"),
  fa (.noat "Walk" "owners"),
  fa (.noat "Walk" "life_rows"),
  fa (.noat "Walk" "tally_row"),
  fa (.noat "Walk" "load_rows")]
def fs0_2 : List (PySem.W.Frag → Bool) := [fa (.noat "Walk" "look_rows"),
  fa (.noat "Walk" "span_rows"),
  fa (.meth "Walk" "go"),
  fa (.meth "Walk" "wash"),
  fa (.free "sorted"),
  fa (.glo "check_kin"),
  fa (.glo "reading_between"),
  fa (.glo "check_book"),
  fProp "Book" "garments",
  fa (.glo "washes_of"),
  fIsi "Book",
  fProp "Book" "entries",
  fa (.glo "tops_of"),
  fa (.glo "fits_tops"),
  fProp "Book" "looks",
  fProp "Book" "spans",
  fa (.free "zip"),
  fa (.glo "without_look"),
  fProp "Book" "lives",
  fa (.glo "top_of"),
  fa (.glo "garment_of"),
  fa (.free "any"),
  fProp "Book" "lines",
  fErr "Contradicts" .a,
  fun K => errFB K f0 e_Contradicts,
  fa (.free "super"),
  fa (.glo "Contradicts"),
  fa (.glo "joined_line"),
  fProp "Book" "dyes",
  fExm tab [20] (fun K => [.ref (He.ga K "NotRight"), .ref (He.ga K "NotThere"), .ref (He.ga K "CannotBe")]) [20]]
def fs0_3 : List (PySem.W.Frag → Bool) := [fa (.glo "NotRight"),
  fa (.glo "NotThere"),
  fa (.glo "CannotBe"),
  fa (.glo "_law_kept"),
  fa (.glo "_law_sort"),
  fErQ tab [20],
  fErf tab (([] : List (Nat × Nat)).map (·.1)) "index",
  fErf tab (([] : List (Nat × Nat)).map (·.1)) "most",
  fErf tab (([(20, 0)] : List (Nat × Nat)).map (·.1)) "given",
  fa (.glo "InvalidLife"),
  fKit tab [20] (fun K => .ref (He.ga K "InvalidLife")) [],
  fa (.glo "InvalidLine"),
  fKit tab [20] (fun K => .ref (He.ga K "InvalidLine")) [],
  fa (.glo "InvalidText"),
  fKit tab [20] (fun K => .ref (He.ga K "InvalidText")) [],
  fa (.glo "InvalidReading"),
  fKit tab [20] (fun K => .ref (He.ga K "InvalidReading")) [],
  fa (.glo "InvalidName"),
  fKit tab [20] (fun K => .ref (He.ga K "InvalidName")) [],
  fa (.glo "InvalidLook"),
  fKit tab [20] (fun K => .ref (He.ga K "InvalidLook")) [],
  fa (.glo "InvalidNumber"),
  fKit tab [20] (fun K => .ref (He.ga K "InvalidNumber")) [],
  fa (.glo "InvalidPlace"),
  fKit tab [20] (fun K => .ref (He.ga K "InvalidPlace")) [],
  fa (.glo "InvalidClaim"),
  fKit tab [20] (fun K => .ref (He.ga K "InvalidClaim")) [],
  fa (.glo "InvalidWish"),
  fKit tab [20] (fun K => .ref (He.ga K "InvalidWish")) [],
  fa (.glo "InvalidLines")]
def fs0_4 : List (PySem.W.Frag → Bool) := [fKit tab [20] (fun K => .ref (He.ga K "InvalidLines")) [],
  fa (.glo "InvalidGarments"),
  fKit tab [20] (fun K => .ref (He.ga K "InvalidGarments")) [],
  fa (.glo "NotABook"),
  fKit tab [20] (fun K => .ref (He.ga K "NotABook")) [],
  fa (.glo "InvalidWishes"),
  fKit tab [20] (fun K => .ref (He.ga K "InvalidWishes")) [],
  fa (.glo "InvalidLoads"),
  fKit tab [20] (fun K => .ref (He.ga K "InvalidLoads")) [],
  fa (.glo "InvalidLoad"),
  fKit tab [20] (fun K => .ref (He.ga K "InvalidLoad")) [],
  fa (.glo "InUse"),
  fKit tab [20] (fun K => .ref (He.ga K "InUse")) [],
  fa (.glo "UnknownName"),
  fKit tab [20] (fun K => .ref (He.ga K "UnknownName")) [],
  fa (.glo "InvalidChanges"),
  fKit tab [20] (fun K => .ref (He.ga K "InvalidChanges")) [],
  fKit tab [20] (fun K => .ref (He.ga K "Contradicts")) [20],
  fa (.glo "OtherBook"),
  fKit tab [20] (fun K => .ref (He.ga K "OtherBook")) [],
  fa (.glo "Impossible"),
  fKit tab [20] (fun K => .ref (He.ga K "Impossible")) [],
  fa (.glo "Broken"),
  fKit tab [20] (fun K => .ref (He.ga K "Broken")) [],
  fa (.glo "NothingToUndo"),
  fKit tab [20] (fun K => .ref (He.ga K "NothingToUndo")) [],
  fa (.glo "TooMany"),
  fKit tab [20] (fun K => .ref (He.ga K "TooMany")) [],
  fKit tab [20] (fun K => .ref (He.ga K "CannotBe")) [20],
  fKit tab [20] (fun K => .ref (He.ga K "NotThere")) []]
def fs0_5 : List (PySem.W.Frag → Bool) := [fKit tab [20] (fun K => .ref (He.ga K "NotRight")) [],
  fa (.free "ArithmeticError"),
  fKit tab [20] (fun K => .type "ArithmeticError") [20],
  fa (.free "LookupError"),
  fKit tab [20] (fun K => .type "LookupError") [],
  fa (.free "ValueError"),
  fKit tab [20] (fun K => .type "ValueError") [],
  fa (.free "abs"),
  fEm ("fits_tops", none) 0,
  fEm ("tops_of", none) 0,
  fun K => apart (lams.map fun x => (He.cT K (x, none)).2)]
def fs0 : List (PySem.W.Frag → Bool) := fs0_0 ++ (fs0_1 ++ (fs0_2 ++ (fs0_3 ++ (fs0_4 ++ (fs0_5)))))
def fn0_0 : List DefP := [⟨pG "_law_dab", "_law_dab", "_law_dab", defArgs s__law_dab, defBody s__law_dab, defScope s__law_dab, []⟩,
  ⟨pG "is_name", "is_name", "is_name", defArgs s_is_name, defBody s_is_name, defScope s_is_name, []⟩,
  ⟨pG "is_integer", "is_integer", "is_integer", defArgs s_is_integer, defBody s_is_integer, defScope s_is_integer, []⟩,
  ⟨pG "is_between", "is_between", "is_between", defArgs s_is_between, defBody s_is_between, defScope s_is_between, []⟩,
  ⟨pG "is_garment", "is_garment", "is_garment", defArgs s_is_garment, defBody s_is_garment, defScope s_is_garment, []⟩,
  ⟨pG "check_garments", "check_garments", "check_garments", defArgs s_check_garments, defBody s_check_garments, defScope s_check_garments, []⟩,
  ⟨pG "parted_at", "parted_at", "parted_at", defArgs s_parted_at, defBody s_parted_at, defScope s_parted_at, []⟩,
  ⟨pG "dyes_in", "dyes_in", "dyes_in", defArgs s_dyes_in, defBody s_dyes_in, defScope s_dyes_in, []⟩,
  ⟨pG "are_different", "are_different", "are_different", defArgs s_are_different, defBody s_are_different, defScope s_are_different, []⟩,
  ⟨pG "names_in", "names_in", "names_in", defArgs s_names_in, defBody s_names_in, defScope s_names_in, []⟩,
  ⟨pG "wash_in", "wash_in", "wash_in", defArgs s_wash_in, defBody s_wash_in, defScope s_wash_in, []⟩,
  ⟨pG "entry_in", "entry_in", "entry_in", defArgs s_entry_in, defBody s_entry_in, defScope s_entry_in, []⟩,
  ⟨pG "check_lines", "check_lines", "check_lines", defArgs s_check_lines, defBody s_check_lines, defScope s_check_lines, []⟩,
  ⟨pM "Walk" "wash", "wash", "Walk.wash", defArgs s_Walk_wash, defBody s_Walk_wash, defScope s_Walk_wash, []⟩,
  ⟨pM "Walk" "go", "go", "Walk.go", defArgs s_Walk_go, defBody s_Walk_go, defScope s_Walk_go, []⟩,
  ⟨pM "Walk" "__init__", "__init__", "Walk.__init__", defArgs s_Walk_init, defBody s_Walk_init, defScope s_Walk_init, []⟩,
  ⟨pM "Book" "__init__", "__init__", "Book.__init__", defArgs s_Book_init, defBody s_Book_init, defScope s_Book_init, [He.Dv.adr (He.dflAt ("Book", some "__init__") 0)]⟩,
  ⟨pG "check_book", "check_book", "check_book", defArgs s_check_book, defBody s_check_book, defScope s_check_book, []⟩,
  ⟨pP "Book" "garments", "garments", "Book.garments", defArgs s_Book_garments, defBody s_Book_garments, defScope s_Book_garments, []⟩,
  ⟨pP "Book" "entries", "entries", "Book.entries", defArgs s_Book_entries, defBody s_Book_entries, defScope s_Book_entries, []⟩,
  ⟨pG "washes_of", "washes_of", "washes_of", defArgs s_washes_of, defBody s_washes_of, defScope s_washes_of, []⟩,
  ⟨pG "check_kin", "check_kin", "check_kin", defArgs s_check_kin, defBody s_check_kin, defScope s_check_kin, []⟩,
  ⟨pP "Book" "lives", "lives", "Book.lives", defArgs s_Book_lives, defBody s_Book_lives, defScope s_Book_lives, []⟩,
  ⟨pG "garment_of", "garment_of", "garment_of", defArgs s_garment_of, defBody s_garment_of, defScope s_garment_of, []⟩,
  ⟨pG "top_of", "top_of", "top_of", defArgs s_top_of, defBody s_top_of, defScope s_top_of, []⟩,
  ⟨pP "Book" "looks", "looks", "Book.looks", defArgs s_Book_looks, defBody s_Book_looks, defScope s_Book_looks, []⟩,
  ⟨pP "Book" "spans", "spans", "Book.spans", defArgs s_Book_spans, defBody s_Book_spans, defScope s_Book_spans, []⟩,
  ⟨pG "tops_of", "tops_of", "tops_of", defArgs s_tops_of, defBody s_tops_of, defScope s_tops_of, [He.Dv.adr (He.dflAt ("tops_of", none) 0)]⟩,
  ⟨pG "fits_tops", "fits_tops", "fits_tops", defArgs s_fits_tops, defBody s_fits_tops, defScope s_fits_tops, [He.Dv.adr (He.dflAt ("fits_tops", none) 0)]⟩,
  ⟨pG "without_look", "without_look", "without_look", defArgs s_without_look, defBody s_without_look, defScope s_without_look, []⟩]
def fn0_1 : List DefP := [⟨pG "reading_between", "reading_between", "reading_between", defArgs s_reading_between, defBody s_reading_between, defScope s_reading_between, []⟩,
  ⟨pG "says_all", "says_all", "says_all", defArgs s_says_all, defBody s_says_all, defScope s_says_all, []⟩,
  ⟨pG "parting", "parting", "parting", defArgs s_parting, defBody s_parting, defScope s_parting, []⟩,
  ⟨pG "alike", "alike", "alike", defArgs s_alike, defBody s_alike, defScope s_alike, []⟩,
  ⟨pP "Book" "lines", "lines", "Book.lines", defArgs s_Book_lines, defBody s_Book_lines, defScope s_Book_lines, []⟩,
  ⟨pP "Book" "dyes", "dyes", "Book.dyes", defArgs s_Book_dyes, defBody s_Book_dyes, defScope s_Book_dyes, []⟩,
  ⟨pG "joined_line", "joined_line", "joined_line", defArgs s_joined_line, defBody s_joined_line, defScope s_joined_line, []⟩,
  ⟨pG "joined", "joined", "joined", defArgs s_joined, defBody s_joined, defScope s_joined, []⟩,
  ⟨pM "Book" "__eq__", "__eq__", "Book.__eq__", defArgs s_Book___eq__, defBody s_Book___eq__, defScope s_Book___eq__, []⟩,
  ⟨pG "_law_sort", "_law_sort", "_law_sort", defArgs s__law_sort, defBody s__law_sort, defScope s__law_sort, []⟩,
  ⟨pG "_law_kept", "_law_kept", "_law_kept", defArgs s__law_kept, defBody s__law_kept, defScope s__law_kept, []⟩,
  ⟨pG "_law_told", "_law_told", "_law_told", defArgs s__law_told, defBody s__law_told, defScope s__law_told, []⟩,
  ⟨pG "_law_sock_right", "_law_sock_right", "_law_sock_right", defArgs s__law_sock_right, defBody s__law_sock_right, defScope s__law_sock_right, []⟩,
  ⟨pG "_law_right", "_law_right", "_law_right", defArgs s__law_right, defBody s__law_right, defScope s__law_right, []⟩,
  ⟨pG "_law_rinse", "_law_rinse", "_law_rinse", defArgs s__law_rinse, defBody s__law_rinse, defScope s__law_rinse, []⟩,
  ⟨pG "law", "law", "law", defArgs s_law, defBody s_law, defScope s_law, []⟩]
def fn0 : List DefP := fn0_0 ++ (fn0_1)
def nms_0 : List PySem.Str := ["_wall",
  "NotRight",
  "InvalidText",
  "InvalidLine",
  "InvalidLife",
  "InvalidReading",
  "InvalidNumber",
  "InvalidLook",
  "InvalidName",
  "InvalidWish",
  "InvalidClaim",
  "InvalidPlace",
  "NotABook",
  "InvalidGarments",
  "InvalidLines",
  "InvalidLoad",
  "InvalidLoads",
  "InvalidWishes",
  "InvalidChanges",
  "NotThere",
  "UnknownName",
  "InUse",
  "CannotBe",
  "Impossible",
  "OtherBook",
  "Contradicts",
  "TooMany",
  "NothingToUndo",
  "Broken",
  "LETTERS"]
def nms_1 : List PySem.Str := ["is_integer",
  "is_between",
  "is_name",
  "MOST_GARMENTS",
  "MOST_WASHES",
  "MOST_LINES",
  "WASH",
  "RENEW",
  "GARMENT",
  "SEEN",
  "SKIPPED",
  "DIGITS",
  "is_garment",
  "check_garments",
  "names_in",
  "dyes_in",
  "parted_at",
  "are_different",
  "wash_in",
  "entry_in",
  "check_lines",
  "garment_in",
  "rows_parted",
  "Walk",
  "Book",
  "check_book",
  "garment_of",
  "top_of",
  "tops_of",
  "fits_tops"]
def nms_2 : List PySem.Str := ["washes_of",
  "check_kin",
  "without_look",
  "reading_between",
  "says_all",
  "alike",
  "parting",
  "joined_line",
  "joined",
  "_law_rinse",
  "_law_dab",
  "_law_sort",
  "_law_kept",
  "_law_told",
  "_law_sock_right",
  "_law_right"]
def nms : List PySem.Str := nms_0 ++ (nms_1 ++ (nms_2))
abbrev R : PySem.W.OpenRow := PySem.W.OpenLaw.row PySem.Challenge.rw_pinkwash_k23_known_comparings
def pt : PartP := (fs0, fn0)
theorem runA (w : World) : HandSHeadRun.RunEq R (PySem.W.view R.prog [82]) (hookE 1200 (fs0, []) lams errs) (obE 1200 (fs0, []) lams errs) 30000 nms w := by
  intro os
  kernel_rfl
theorem runB (w : World) : RunF R 1200 fn0 30000 w := by
  intro os
  kernel_rfl
theorem run (w : World) : HandSHeadRun.RunEq R (PySem.W.view R.prog [82]) (hookE 1200 pt lams errs) (obE 1200 pt lams errs) 30000 nms w := runE_two (runA w) (runB w)
end K23

/-! The data layer, part A: data, how they lie, states, the judgements. -/
namespace Pk
open PySem PySem.Spec PyProof.Rows L2

abbrev Tx := List Nat
inductive DK where
  | ki (i : Int) | ks (s : Tx)
  deriving DecidableEq
/-- data: scr is the script; ins an instance that changes no more; mref a thing of the store -/
inductive D where
  | non | bl (b : Bool) | int (i : Int) | str (s : Tx)
  | tup (xs : List D) | lst (xs : List D) | dct (kvs : List (DK × D)) | scr (xs : List Int)
  | ins (c : Nat) (fs : List D) | mref (k : Nat) | cls (c : Nat) | ty (t : Ty)
  /-- a tuple that has no dict of its own -/
  | ptp (xs : List D)
  /-- a tuple that stands by itself; a dict whose keys are such tuples, and changes no more: its keys, its values -/
  | ttp (xs : List D)
  /-- an error that was caught: its class, what it keeps -/
  | err (c : Nat) (fs : List D)
  | dcp (ks : List (List DK)) (xs : List D)
  /-- a dict that changes no more, but stands as it stood -/
  | dco (kvs : List (DK × D))
/-- things that change -/
inductive MO where
  | lst (xs : List D) | dct (kvs : List (DK × D)) | ins (c : Nat) (fs : List D) | fz (d : D) | gone
  | dtp (kvs : List (List DK × D))
def MO.isFz : MO → Bool
  | .fz _ => true
  | _ => false
abbrev Sto := List MO
abbrev Slots := List (Option D)
structure Exc where
  c : Nat
  fs : List D
def tx (s : Tx) : Str := ⟨s.toArray⟩
def DK.key : DK → Key
  | .ki i => .inl i
  | .ks s => .inr (tx s)
/-- the keys of the dict object o are tuples of F -/
def KeyAt (F : Hp) (o : Obj) (ks : List (List Key)) : Prop := ∃ es ep, o.data = .dict es ep ∧ ∀ (i : Nat) (k : List Key), ks[i]? = some k → ∃ (en : DictEntry) (q : Addr), es[i]? = some en ∧ en.key = .ref q ∧ F q = some (.tup (k.map kV))
theorem KeyAt.mono {F F' : Hp} {o : Obj} {ks : List (List Key)} (s : Same F F') (h : KeyAt F o ks) : KeyAt F' o ks := by
  obtain ⟨es, ep, e, q⟩ := h
  exact ⟨es, ep, e, fun i k hk => by
    obtain ⟨en, a, h1, h2, h3⟩ := q i k hk
    exact ⟨en, a, h1, h2, s _ _ h3⟩⟩
def keysK (ks : List (List DK)) : List (List Key) := ks.map fun k => k.map DK.key
/-- the object of a caught error -/
def excH (a C : Addr) (d : Option Addr) : HO := .ext fun h => ∃ (oe : Obj) (vs : Array Value), h.get? a = some oe ∧ oe.cls = .ref C ∧ oe.dict = d ∧ oe.data = .fields vs
/-- what it keeps -/
def ErrF (F : Hp) (d : Option Addr) (fn : List Str) (vs : List V) : Prop := (fn = [] ∧ vs = [] ∧ d = none) ∨ ∃ dd, d = some dd ∧ F dd = some (.xd (fn.zip vs)) ∧ fn.length = vs.length
theorem ErrF.mono {F F' : Hp} {d : Option Addr} {fn : List Str} {vs : List V} (s : Same F F') (h : ErrF F d fn vs) : ErrF F' d fn vs := by
  rcases h with h | ⟨dd, e, h, l⟩
  · exact .inl h
  · exact .inr ⟨dd, e, s _ _ h, l⟩
/-- what stays where it is -/
def fxO : HO → Bool
  | .own _ => false
  | .tbl _ => false
  | _ => true
/-- tables only grow, and tell of code objects that stay -/
theorem tabs_of {T : List (Addr × Str)} {H H' : Hp} (t : LamX.Tabs T H) (e : ∀ b o, H b = some o → (∃ ps, o = .tbl ps) ∨ (∃ c q, o = LamX.CodeO c q) → H' b = some o) : LamX.Tabs T H' := fun p hp => by
  obtain ⟨ps, h1, h2, h3⟩ := t p hp
  refine ⟨ps, e _ _ h1 (.inl ⟨_, rfl⟩), h2, fun pos cv hc => ?_⟩
  obtain ⟨c, e1, e2⟩ := h3 pos cv hc
  exact ⟨c, e1, e _ _ e2 (.inr ⟨_, _, rfl⟩)⟩
theorem tabs_upd {T : List (Addr × Str)} {H : Hp} {p : Addr} {o u : HO} (t : LamX.Tabs T H) (h : H p = some u) (m : Mut (some u)) (n : ∀ φ, u ≠ .ext φ) : LamX.Tabs T (upd H p o) := tabs_of t fun b v e w => by
  rw [upd_ne fun z => ?_]
  · exact e
  · rw [z, h] at e
    have e := Option.some.inj e
    subst e
    rcases w with ⟨ps, w⟩ | ⟨c, q, w⟩
    · rw [w] at m
      exact m
    · exact n _ w
section
variable (K : PySem.W.Frag) (T : Tab)
mutual
inductive Rep (F : Hp) (m : List Addr) : D → V → Prop
  | non : Rep F m .non .non
  | bl {b} : Rep F m (.bl b) (.bl b)
  | int {i} : Rep F m (.int i) (.int i)
  | str {s} : Rep F m (.str s) (.str (tx s))
  | tup {ds vs a} : SqT K F a vs → Reps F m ds vs → Rep F m (.tup ds) (.ref a)
  | lst {ds vs a} : F a = some (.lst vs) → Reps F m ds vs → Rep F m (.lst ds) (.ref a)
  | dct {ds vs a o} : F a = some (.frz o (.dK vs)) → RepK F m ds vs → Rep F m (.dct ds) (.ref a)
  | scr {xs a} : SqL K F a (xs.map V.int) → Rep F m (.scr xs) (.ref a)
  | ins {c ds vs a dx} : F a = some (.ins (T.ca c) dx ((T.fn c).zip vs)) → F dx = some (.own a) → Reps F m ds vs → Rep F m (.ins c ds) (.ref a)
  | mref {k a} : m[k]? = some a → Rep F m (.mref k) (.ref a)
  | cls {c} : Rep F m (.cls c) (.ref (T.ca c))
  | ty {t} : Rep F m (.ty t) (.ty t.nm)
  | ptp {ds vs a o} : F a = some (.frz o (.tup vs)) → o.dict = none → Reps F m ds vs → Rep F m (.ptp ds) (.ref a)
  | ttp {ds vs a} : F a = some (.tup vs) → Reps F m ds vs → Rep F m (.ttp ds) (.ref a)
  | err {c ds vs a d} : F a = some (excH a (T.ca c) d) → ErrF F d (T.fn c) vs → Reps F m ds vs → Rep F m (.err c ds) (.ref a)
  | dcp {ks ds vs a o} : F a = some (.frz o (.dT ((keysK ks).zip vs))) → KeyAt F o (keysK ks) → ks.length = ds.length → Reps F m ds vs → Rep F m (.dcp ks ds) (.ref a)
  | dco {ds vs a} : F a = some (.dK vs) → RepK F m ds vs → Rep F m (.dco ds) (.ref a)
inductive Reps (F : Hp) (m : List Addr) : List D → List V → Prop
  | nil : Reps F m [] []
  | cons {d v ds vs} : Rep F m d v → Reps F m ds vs → Reps F m (d :: ds) (v :: vs)
inductive RepK (F : Hp) (m : List Addr) : List (DK × D) → List (Key × V) → Prop
  | nil : RepK F m [] []
  | cons {k d v ds vs} : Rep F m d v → RepK F m ds vs → RepK F m ((k, d) :: ds) ((k.key, v) :: vs)
end
/-- pairs of a dict whose keys are tuples -/
inductive RepP (F : Hp) (m : List Addr) : List (List DK × D) → List (List Key × V) → Prop
  | nil : RepP F m [] []
  | cons {k d v ds vs} : Rep K T F m d v → RepP F m ds vs → RepP F m ((k, d) :: ds) ((k.map DK.key, v) :: vs)
end

/-- what is frozen, where the store's things lie: both only grow -/
structure Gr (F : Hp) (m : List Addr) (F' : Hp) (m' : List Addr) : Prop where
  fr : Same F F'
  mem : ∃ r, m' = m ++ r
theorem Gr.refl (F : Hp) (m : List Addr) : Gr F m F m := ⟨Same.refl F, [], by simp⟩
theorem Gr.trans {F F1 F2 : Hp} {m m1 m2 : List Addr} (a : Gr F m F1 m1) (b : Gr F1 m1 F2 m2) : Gr F m F2 m2 := by
  obtain ⟨h1, r1, e1⟩ := a
  obtain ⟨h2, r2, e2⟩ := b
  exact ⟨h1.trans h2, r1 ++ r2, by rw [e2, e1, List.append_assoc]⟩
def isTb : HO → Bool
  | .tbl _ => true
  | _ => false
/-- the tables, none of which is frozen -/
structure TabF (T : List (Addr × Str)) (F H : Hp) : Prop where
  tb : LamX.Tabs T H
  nt : ∀ b o, F b = some o → isTb o = false
theorem TabF.ext {T : List (Addr × Str)} {F H H' : Hp} (t : TabF T F H) (e : ∀ b o, H b = some o → H' b = some o) : TabF T F H' := ⟨t.tb.ext e, t.nt⟩
theorem TabF.fr {T : List (Addr × Str)} {F F' H : Hp} (t : TabF T F H) (n : ∀ b o, F' b = some o → isTb o = false) : TabF T F' H := ⟨t.tb, n⟩
theorem TabF.grow {T : List (Addr × Str)} {F H : Hp} {p : Addr} {o : HO} (t : TabF T F H) (n : isTb o = false) : ∀ b u, upd F p o b = some u → isTb u = false := fun b u e => by
  by_cases q : b = p
  · rw [q, upd_same] at e
    cases e
    exact n
  · rw [upd_ne q] at e
    exact t.nt b u e
theorem TabF.put {T : List (Addr × Str)} {F H : Hp} {p : Addr} {o : HO} (t : TabF T F H) (n : isTb o = false) : TabF T (L2.upd F p o) H := t.fr (t.grow n)
/-- something stands at b, no table -/
def Here (H : Hp) (b : Addr) : Prop := ∃ o, H b = some o ∧ isTb o = false
theorem Here.ne {H : Hp} {b : Addr} (h : Here H b) (e : H b = none) : False := by
  obtain ⟨o, e1, _⟩ := h
  rw [e] at e1
  cases e1
theorem isTb_mut {u : HO} (h : Mut (some u)) : isTb u = false := by cases u <;> first | rfl | exact h.elim
/-- nothing but tables goes, an instance's dict stays its own -/
def Up (H H' : Hp) : Prop := ∀ b, (∀ a, H b = some (.own a) → H' b = some (.own a)) ∧ (Here H b → Here H' b)
theorem Up.refl (H : Hp) : Up H H := fun _ => ⟨fun _ h => h, fun h => h⟩
theorem Up.trans {H H1 H2 : Hp} (x : Up H H1) (y : Up H1 H2) : Up H H2 := fun b => ⟨fun a h => (y b).1 a ((x b).1 a h), fun h => (y b).2 ((x b).2 h)⟩
theorem Up.upd {H : Hp} {p : Addr} {o : HO} (h : ∀ a, H p ≠ some (.own a)) (ht : H p = none ∨ isTb o = false) : Up H (L2.upd H p o) := fun b => ⟨fun a e => by
  rw [upd_ne fun q => ?_]
  · exact e
  · subst q
    exact h a e, fun e => by
  by_cases q : b = p
  · rcases ht with ht | ht
    · exact (e.ne (by rw [q]; exact ht)).elim
    · exact ⟨o, by rw [q, upd_same], ht⟩
  · obtain ⟨v, e1, e2⟩ := e
    exact ⟨v, by rw [upd_ne q]; exact e1, e2⟩⟩
theorem Up.keep {H H' : Hp} (k : ∀ b u, H b = some u → H' b = some u) : Up H H' := fun b => ⟨fun a e => k b _ e, fun ⟨o, e1, e2⟩ => ⟨o, k b o e1, e2⟩⟩
/-- .. and what is neither stays as it is -/
structure Ext (F : Hp) (m : List Addr) (H F' : Hp) (m' : List Addr) (H' : Hp) : Prop where
  gr : Gr F m F' m'
  frm : ∀ b o, H b = some o → fxO o = true → F b = none → b ∉ m → H' b = some o ∧ F' b = none ∧ b ∉ m'
  up : Up H H'
theorem Ext.refl (F : Hp) (m : List Addr) (H : Hp) : Ext F m H F m H := ⟨Gr.refl F m, fun _ _ e _ n h => ⟨e, n, h⟩, Up.refl H⟩
theorem Ext.trans {F F1 F2 H H1 H2 : Hp} {m m1 m2 : List Addr} (a : Ext F m H F1 m1 H1) (b : Ext F1 m1 H1 F2 m2 H2) : Ext F m H F2 m2 H2 :=
  ⟨a.gr.trans b.gr, fun c o e w n h => by
    obtain ⟨e1, n1, h1⟩ := a.frm c o e w n h
    exact b.frm c o e1 w n1 h1, a.up.trans b.up⟩
theorem Same.sqt {K : PySem.W.Frag} {H H' : Hp} {a : Addr} {xs : List V} (e : Same H H') (h : SqT K H a xs) : SqT K H' a xs := by
  rcases h with (h | ⟨o, h⟩) | h
  · exact .inl (.inl (e _ _ h))
  · exact .inl (.inr ⟨o, e _ _ h⟩)
  · exact .inr h
section
variable {K : PySem.W.Frag} {T : Tab} {F F' : Hp} {m m' : List Addr}
mutual
theorem Rep.mono (x : Gr F m F' m') : ∀ {d : D} {v : V}, Rep K T F m d v → Rep K T F' m' d v
  | _, _, .non => .non
  | _, _, .bl => .bl
  | _, _, .int => .int
  | _, _, .str => .str
  | _, _, .tup h r => .tup (Same.sqt x.fr h) (Reps.mono x r)
  | _, _, .lst h r => .lst (x.fr _ _ h) (Reps.mono x r)
  | _, _, .dct h r => .dct (x.fr _ _ h) (RepK.mono x r)
  | _, _, .scr h => .scr (x.fr.seq h)
  | _, _, .ins h h2 r => .ins (x.fr _ _ h) (x.fr _ _ h2) (Reps.mono x r)
  | _, _, .mref h => .mref (by
    obtain ⟨r, e⟩ := x.mem
    rw [e]
    exact List.getElem?_append_left (List.getElem?_eq_some_iff.mp h).1 ▸ h)
  | _, _, .cls => .cls
  | _, _, .ty => .ty
  | _, _, .ptp h e r => .ptp (x.fr _ _ h) e (Reps.mono x r)
  | _, _, .ttp h r => .ttp (x.fr _ _ h) (Reps.mono x r)
  | _, _, .err h q r => .err (x.fr _ _ h) (q.mono x.fr) (Reps.mono x r)
  | _, _, .dcp h q l r => .dcp (x.fr _ _ h) (q.mono x.fr) l (Reps.mono x r)
  | _, _, .dco h r => .dco (x.fr _ _ h) (RepK.mono x r)
theorem Reps.mono (x : Gr F m F' m') : ∀ {ds : List D} {vs : List V}, Reps K T F m ds vs → Reps K T F' m' ds vs
  | _, _, .nil => .nil
  | _, _, .cons h r => .cons (Rep.mono x h) (Reps.mono x r)
theorem RepK.mono (x : Gr F m F' m') : ∀ {ds : List (DK × D)} {vs : List (Key × V)}, RepK K T F m ds vs → RepK K T F' m' ds vs
  | _, _, .nil => .nil
  | _, _, .cons h r => .cons (Rep.mono x h) (RepK.mono x r)
end
theorem RepP.mono (x : Gr F m F' m') : ∀ {ds : List (List DK × D)} {vs : List (List Key × V)}, RepP K T F m ds vs → RepP K T F' m' ds vs
  | _, _, .nil => .nil
  | _, _, .cons h r => .cons (Rep.mono x h) (RepP.mono x r)
theorem RepP.length : ∀ {ds : List (List DK × D)} {vs : List (List Key × V)}, RepP K T F m ds vs → ds.length = vs.length
  | _, _, .nil => rfl
  | _, _, .cons _ r => congrArg (· + 1) (RepP.length r)
theorem Reps.length : ∀ {ds : List D} {vs : List V}, Reps K T F m ds vs → ds.length = vs.length
  | _, _, .nil => rfl
  | _, _, .cons _ r => congrArg (· + 1) (Reps.length r)
theorem RepK.length : ∀ {ds : List (DK × D)} {vs : List (Key × V)}, RepK K T F m ds vs → ds.length = vs.length
  | _, _, .nil => rfl
  | _, _, .cons _ r => congrArg (· + 1) (RepK.length r)
theorem Reps.append : ∀ {ds es : List D} {vs us : List V}, Reps K T F m ds vs → Reps K T F m es us → Reps K T F m (ds ++ es) (vs ++ us)
  | _, _, _, _, .nil, s => s
  | _, _, _, _, .cons h r, s => .cons h (Reps.append r s)
theorem Reps.get : ∀ {ds : List D} {vs : List V} {i : Nat} {d : D}, Reps K T F m ds vs → ds[i]? = some d → ∃ v, vs[i]? = some v ∧ Rep K T F m d v
  | _, _, _, _, .nil, e => by simp at e
  | _, _, 0, _, .cons h _, e => by
    simp at e
    subst e
    exact ⟨_, rfl, h⟩
  | _, _, i + 1, d, .cons _ r, e => by
    obtain ⟨v, h1, h2⟩ := Reps.get (i := i) (d := d) r (by simpa using e)
    exact ⟨v, by simpa using h1, h2⟩
theorem Reps.set {d : D} {v : V} (h : Rep K T F m d v) : ∀ {ds : List D} {vs : List V} (i : Nat), Reps K T F m ds vs → Reps K T F m (ds.set i d) (vs.set i v)
  | _, _, _, .nil => .nil
  | _, _, 0, .cons _ r => .cons h r
  | _, _, i + 1, .cons q r => .cons q (Reps.set h i r)
theorem Reps.take : ∀ {ds : List D} {vs : List V} (n : Nat), Reps K T F m ds vs → Reps K T F m (ds.take n) (vs.take n)
  | _, _, 0, _ => .nil
  | _, _, _ + 1, .nil => .nil
  | _, _, n + 1, .cons h r => .cons h (Reps.take n r)
theorem Reps.drop : ∀ {ds : List D} {vs : List V} (n : Nat), Reps K T F m ds vs → Reps K T F m (ds.drop n) (vs.drop n)
  | _, _, 0, r => r
  | _, _, _ + 1, .nil => .nil
  | _, _, n + 1, .cons _ r => Reps.drop n r
end

section
variable (K : PySem.W.Frag) (T : Tab)
/-- a thing of the store as it lies -/
def MRep (F : Hp) (m : List Addr) (H : Hp) (a : Addr) : MO → Prop
  | .lst ds => ∃ vs, H a = some (.lst vs) ∧ Reps K T F m ds vs
  | .dct ds => ∃ vs, H a = some (.dK vs) ∧ RepK K T F m ds vs
  | .ins c ds => ∃ dx vs, H a = some (.ins (T.ca c) dx ((T.fn c).zip vs)) ∧ H dx = some (.own a) ∧ True ∧ ds.length ≤ (T.fn c).length ∧ Reps K T F m ds vs
  | .fz d => Rep K T F m d (.ref a)
  | .gone => True
  | .dtp ds => ∃ vs, H a = some (.dT vs) ∧ RepP K T F m ds vs
structure Sim (F0 : Hp) (m0 : List Addr) (H0 : Hp) (F : Hp) (m : List Addr) (μ : Sto) (ρ : Slots) (σ : L2.St) (H : Hp) : Prop where
  ext : Ext F0 m0 H0 F m H
  same : Same F H
  len : m.length = μ.length
  nd : m.Nodup
  al : ∀ a, a ∈ m → Here H a
  sto : ∀ (k : Nat) (a : Addr) (o : MO), m[k]? = some a → μ[k]? = some o → o ≠ .gone → (o.isFz = false → F a = none) ∧ MRep K T F m H a o
  sl : ρ.length = σ.length
  slot : ∀ (i : Nat) (d : D), ρ[i]? = some (some d) → ∃ v, σ[i]? = some (some v) ∧ Rep K T F m d v
  tabs : TabF T.tb F H
/-- an exception's class and own dict -/
def XRep (F : Hp) (m : List Addr) (_ : Hp) (x : Exc) (cls : Value) (d : Option Addr) : Prop :=
  cls = .ref (T.ca x.c) ∧ ∃ vs, ErrF F d (T.fn x.c) vs ∧ Reps K T F m x.fs vs
end
end Pk

/-! The data layer, part B: what states keep, the judgements, names, constants, operators. -/
namespace Pk
open PySem PySem.Spec PyProof.Rows L2

structure Zx where
  T : Tab
  F0 : Hp
  m0 : List Addr
  H0 : Hp
abbrev SimZ (K : PySem.W.Frag) (z : Zx) := Sim K z.T z.F0 z.m0 z.H0
abbrev QD := D → Sto → Prop
abbrev QX := Exc → Sto → Prop
abbrev WE := Slots → Sto → QD → QX → Prop
abbrev WXd := Exc → Slots → Sto → Prop

section
variable {K : PySem.W.Frag} {T : Tab} {F0 F F' H0 : Hp} {m0 m m' : List Addr} {μ μ' : Sto} {ρ : Slots} {σ : L2.St} {H H' : Hp} {p a : Addr} {ds : List D} {vs : List V}
/-- every thing of the store lies in H -/
theorem MRep.at {o : MO} (h : MRep K T F m H a o) (n : o ≠ .gone) (nf : o.isFz = false) : ∃ u, H a = some u ∧ Mut (some u) := by
  cases o with
  | lst ds => obtain ⟨vs, e, _⟩ := h; exact ⟨_, e, trivial⟩
  | dct ds => obtain ⟨vs, e, _⟩ := h; exact ⟨_, e, trivial⟩
  | ins c ds => obtain ⟨dx, vs, e, _⟩ := h; exact ⟨_, e, trivial⟩
  | fz d => cases nf
  | gone => exact absurd rfl n
  | dtp ds => obtain ⟨vs, e, _⟩ := h; exact ⟨_, e, trivial⟩
theorem MRep.mono {o : MO} (x : Gr F m F' m') (k : ∀ b u, H b = some u → H' b = some u) (kn : ∀ b, H b ≠ none → F b = none → F' b = none) (h : MRep K T F m H a o) : MRep K T F' m' H' a o := by
  cases o with
  | lst ds => obtain ⟨vs, e, r⟩ := h; exact ⟨vs, k _ _ e, r.mono x⟩
  | dct ds => obtain ⟨vs, e, r⟩ := h; exact ⟨vs, k _ _ e, r.mono x⟩
  | ins c ds => obtain ⟨dx, vs, e, e2, n, l, r⟩ := h; exact ⟨dx, vs, k _ _ e, k _ _ e2, trivial, l, r.mono x⟩
  | fz d => exact Rep.mono x h
  | gone => trivial
  | dtp ds => obtain ⟨vs, e, r⟩ := h; exact ⟨vs, k _ _ e, r.mono x⟩
theorem upd_keep {o : HO} (hp : H p = none) : ∀ b u, H b = some u → upd H p o b = some u := fun b u e => by
  rw [upd_ne (ne_of_none e hp)]
  exact e
/-- frozen things grow, the heap grows, nothing else is touched -/
theorem Sim.grow (S : Sim K T F0 m0 H0 F m μ ρ σ H) (x : Same F F') (s : Same F' H') (k : ∀ b u, H b = some u → H' b = some u) (kn : ∀ b, H b ≠ none → F b = none → F' b = none) (hn : ∀ b o, F' b = some o → isTb o = false) : Sim K T F0 m0 H0 F' m μ ρ σ H' where
  ext := S.ext.trans ⟨⟨x, [], by simp⟩, fun b o e _ n h => ⟨k b o e, kn b (by rw [e]; simp) n, h⟩, Up.keep k⟩
  same := s
  len := S.len
  nd := S.nd
  al := fun a h => by
    obtain ⟨o, e1, e2⟩ := S.al a h
    exact ⟨o, k a o e1, e2⟩
  sto := fun i b o e1 e2 n => by
    obtain ⟨h1, h2⟩ := S.sto i b o e1 e2 n
    exact ⟨fun nf => by
      obtain ⟨u, hu, _⟩ := MRep.at h2 n nf
      exact kn b (by rw [hu]; simp) (h1 nf), MRep.mono ⟨x, [], by simp⟩ k kn h2⟩
  sl := S.sl
  slot := fun i d e => by
    obtain ⟨v, h1, h2⟩ := S.slot i d e
    exact ⟨v, h1, h2.mono ⟨x, [], by simp⟩⟩
  tabs := (S.tabs.ext k).fr hn
theorem Sim.fNone (S : Sim K T F0 m0 H0 F m μ ρ σ H) (hp : H p = none) : F p = none := S.same.free hp
/-- a new frozen thing -/
theorem Sim.new (S : Sim K T F0 m0 H0 F m μ ρ σ H) (hp : H p = none) (o : HO) (ho : isTb o = false := by rfl) : Ext F m H (upd F p o) m (upd H p o) ∧ Sim K T F0 m0 H0 (upd F p o) m μ ρ σ (upd H p o) := by
  have hf := S.fNone hp
  have x : Same F (upd F p o) := upd_keep hf
  refine ⟨⟨⟨x, [], by simp⟩, fun b u e _ n h => ⟨upd_keep hp b u e, by rw [upd_ne (ne_of_none e hp)]; exact n, h⟩, Up.upd (fun a z => by rw [hp] at z; cases z) (.inl hp)⟩, S.grow x (fun b u e => ?_) (upd_keep hp) (fun b hb hn => ?_) (S.tabs.grow ho)⟩
  · by_cases q : b = p
    · rw [q, upd_same] at e
      rw [q, upd_same]
      exact e
    · rw [upd_ne q] at e
      rw [upd_ne q]
      exact S.same b u e
  · have q : b ≠ p := fun e => hb (by rw [e]; exact hp)
    rw [upd_ne q]
    exact hn
/-- the slots are set -/
theorem Sim.set (S : Sim K T F0 m0 H0 F m μ ρ σ H) {i : Nat} {d : D} {v : V} (r : Rep K T F m d v) : Sim K T F0 m0 H0 F m μ (ρ.set i (some d)) (σ.set i (some v)) H where
  ext := S.ext
  same := S.same
  len := S.len
  nd := S.nd
  al := S.al
  sto := S.sto
  sl := by simpa using S.sl
  slot := fun j e h => by
    by_cases hj : i = j
    · subst hj
      have hl : i < ρ.length := by
        have := (List.getElem?_eq_some_iff.mp h).1
        simpa using this
      rw [List.getElem?_set_self hl] at h
      cases h
      exact ⟨v, by rw [List.getElem?_set_self (by rw [← S.sl]; exact hl)], r⟩
    · rw [List.getElem?_set_ne hj] at h
      obtain ⟨v', h1, h2⟩ := S.slot j e h
      exact ⟨v', by rw [List.getElem?_set_ne hj]; exact h1, h2⟩
  tabs := S.tabs
/-- other slots, known by less -/
theorem Sim.slots {ρ' : Slots} {σ' : L2.St} (S : Sim K T F0 m0 H0 F m μ ρ σ H) (hl : ρ'.length = σ'.length) (h : ∀ (i : Nat) (d : D), ρ'[i]? = some (some d) → ∃ v, σ'[i]? = some (some v) ∧ Rep K T F m d v) : Sim K T F0 m0 H0 F m μ ρ' σ' H :=
  ⟨S.ext, S.same, S.len, S.nd, S.al, S.sto, hl, h, S.tabs⟩
end

/-- a mref's thing, as data -/
def look (μ : Sto) : D → D
  | .mref k => match μ[k]? with
    | some (.lst ds) => .lst ds
    | some (.dct ds) => .dct ds
    | some (.ins c fs) => .ins c fs
    | some (.fz d) => d
    | some (.dtp kvs) => .dcp (kvs.map (·.1)) (kvs.map (·.2))
    | _ => .mref k
  | .ptp xs => .tup xs
  | .ttp xs => .tup xs
  | .dco kvs => .dct kvs
  | d => d
/-- what is to be read now at v: frozen, or of the store -/
inductive Vw (K : PySem.W.Frag) (T : Tab) (F : Hp) (m : List Addr) (H : Hp) : D → V → Prop
  | of {d v} : Rep K T F m d v → Vw K T F m H d v
  | lst {ds vs a} : H a = some (.lst vs) → Reps K T F m ds vs → Vw K T F m H (.lst ds) (.ref a)
  | dct {ds vs a} : H a = some (.dK vs) → RepK K T F m ds vs → Vw K T F m H (.dct ds) (.ref a)
  | ins {c ds vs a dx} : H a = some (.ins (T.ca c) dx ((T.fn c).zip vs)) → Reps K T F m ds vs → Vw K T F m H (.ins c ds) (.ref a)
  | dcp {ks ds vs a} : H a = some (.dT ((keysK ks).zip vs)) → ks.length = ds.length → Reps K T F m ds vs → Vw K T F m H (.dcp ks ds) (.ref a)
section
variable {K : PySem.W.Frag} {T : Tab} {F : Hp} {m : List Addr}
theorem RepP.two : ∀ {ds : List (List DK × D)} {vs : List (List Key × V)}, RepP K T F m ds vs → (keysK (ds.map (·.1))).zip (vs.map (·.2)) = vs ∧ vs.map (·.1) = keysK (ds.map (·.1)) ∧ Reps K T F m (ds.map (·.2)) (vs.map (·.2))
  | _, _, .nil => ⟨rfl, rfl, .nil⟩
  | _, _, .cons (k := k) h r => by
    obtain ⟨h1, h2, h3⟩ := r.two
    refine ⟨?_, ?_, .cons h h3⟩
    · have : ∀ (a : List Key) (b : V) as bs, ((a :: as : List (List Key)).zip (b :: bs)) = (a, b) :: as.zip bs := fun _ _ _ _ => rfl
      simp only [List.map_cons, keysK, this] at h1 ⊢
      rw [h1]
    · simp only [List.map_cons, keysK] at h2 ⊢
      rw [h2]
end
section
variable {K : PySem.W.Frag} {T : Tab} {F0 F F' H0 : Hp} {m0 m m' : List Addr} {μ μ' : Sto} {ρ : Slots} {σ : L2.St} {H H' : Hp} {p a : Addr} {ds : List D} {vs : List V} {d : D} {v : V}
theorem Sim.view (S : Sim K T F0 m0 H0 F m μ ρ σ H) (r : Rep K T F m d v) : Vw K T F m H (look μ d) v := by
  cases d with
  | mref k =>
    cases r with
    | mref e =>
      cases q : μ[k]? with
      | none =>
        simp only [look, q]
        exact .of (.mref e)
      | some o =>
        cases o with
        | lst ds =>
          obtain ⟨_, vs, h1, h2⟩ := S.sto k _ _ e q (fun z => nomatch z)
          simp only [look, q]
          exact .lst h1 h2
        | dct ds =>
          obtain ⟨_, vs, h1, h2⟩ := S.sto k _ _ e q (fun z => nomatch z)
          simp only [look, q]
          exact .dct h1 h2
        | ins c ds =>
          obtain ⟨_, dx, vs, h1, h2, _, _, h3⟩ := S.sto k _ _ e q (fun z => nomatch z)
          simp only [look, q]
          exact .ins h1 h3
        | fz d =>
          obtain ⟨_, h1⟩ := S.sto k _ _ e q (fun z => nomatch z)
          simp only [look, q]
          exact .of h1
        | gone =>
          simp only [look, q]
          exact .of (.mref e)
        | dtp ds =>
          obtain ⟨_, vs, h1, h2⟩ := S.sto k _ _ e q (fun z => nomatch z)
          obtain ⟨e1, _, e3⟩ := h2.two
          simp only [look, q]
          exact .dcp (by rw [e1]; exact h1) (by rw [List.length_map, List.length_map]) e3
  | ptp xs => cases r with | ptp h e q => exact .of (.tup (.inl (.inr ⟨_, h⟩)) q)
  | ttp xs => cases r with | ttp h q => exact .of (.tup (SqT.of h) q)
  | dco kvs => cases r with | dco h q => exact .dct (S.same _ _ h) q
  | _ => exact .of r
theorem Vw.int {i : Int} (r : Vw K T F m H (.int i) v) : v = .int i := by cases r with | of r => cases r; rfl
theorem Vw.str {s : Tx} (r : Vw K T F m H (.str s) v) : v = .str (tx s) := by cases r with | of r => cases r; rfl
theorem Vw.bl {b : Bool} (r : Vw K T F m H (.bl b) v) : v = .bl b := by cases r with | of r => cases r; rfl
theorem Vw.non (r : Vw K T F m H .non v) : v = .non := by cases r with | of r => cases r; rfl
theorem Vw.ty {t : Ty} (r : Vw K T F m H (.ty t) v) : v = .ty t.nm := by cases r with | of r => cases r; rfl
theorem Vw.cls {c : Nat} (r : Vw K T F m H (.cls c) v) : v = .ref (T.ca c) := by cases r with | of r => cases r; rfl
theorem Vw.tup (s : Same F H) (r : Vw K T F m H (.tup ds) v) : ∃ a vs, v = .ref a ∧ SqT K H a vs ∧ Reps K T F m ds vs := by
  cases r with | of r => cases r with | tup h q => exact ⟨_, _, rfl, Same.sqt s h, q⟩
theorem Vw.scr {xs : List Int} (s : Same F H) (r : Vw K T F m H (.scr xs) v) : ∃ a, v = .ref a ∧ SqL K H a (xs.map V.int) := by
  cases r with | of r => cases r with | scr h => exact ⟨_, rfl, s.seq h⟩
theorem Vw.list (s : Same F H) (r : Vw K T F m H (.lst ds) v) : ∃ a vs, v = .ref a ∧ H a = some (.lst vs) ∧ Reps K T F m ds vs := by
  cases r with
  | of r => cases r with | lst h q => exact ⟨_, _, rfl, s _ _ h, q⟩
  | lst h q => exact ⟨_, _, rfl, h, q⟩
theorem Vw.dict {kvs : List (DK × D)} (s : Same F H) (r : Vw K T F m H (.dct kvs) v) : ∃ a vs, v = .ref a ∧ Rd H a (.dK vs) ∧ RepK K T F m kvs vs := by
  cases r with
  | of r => cases r with | dct h q => exact ⟨_, _, rfl, .inr ⟨_, s _ _ h⟩, q⟩
  | dct h q => exact ⟨_, _, rfl, .inl h, q⟩
theorem Vw.dictP {ks : List (List DK)} (s : Same F H) (r : Vw K T F m H (.dcp ks ds) v) : ∃ a vs, v = .ref a ∧ Rd H a (.dT ((keysK ks).zip vs)) ∧ ks.length = ds.length ∧ Reps K T F m ds vs := by
  cases r with
  | of r => cases r with | dcp h h2 l q => exact ⟨_, _, rfl, .inr ⟨_, s _ _ h⟩, l, q⟩
  | dcp h l q => exact ⟨_, _, rfl, .inl h, l, q⟩
theorem Vw.inst {c : Nat} (s : Same F H) (r : Vw K T F m H (.ins c ds) v) : ∃ a dx vs, v = .ref a ∧ H a = some (.ins (T.ca c) dx ((T.fn c).zip vs)) ∧ Reps K T F m ds vs := by
  cases r with
  | of r => cases r with | ins h _ q => exact ⟨_, _, _, rfl, s _ _ h, q⟩
  | ins h q => exact ⟨_, _, _, rfl, h, q⟩
end

/-! ### the judgements -/
/-- what follows, at the level of values -/
def Fin (K : PySem.W.Frag) (z : Zx) (F : Hp) (m : List Addr) (H : Hp) (ρ : Slots) (σ : L2.St) (Qd : QD) (Q : VK) : Prop :=
  ∀ F' m' μ' d v H', Ext F m H F' m' H' → SimZ K z F' m' μ' ρ σ H' → Rep K z.T F' m' d v → Qd d μ' → Q v H'
def tD (K : PySem.W.Frag) (z : Zx) (Wd : WXd) (w : WE) : TE := fun σ H Q => ∃ F m μ ρ Qd, SimZ K z F m μ ρ σ H ∧ w ρ μ Qd (fun x μ' => Wd x ρ μ') ∧ Fin K z F m H ρ σ Qd Q
def XW (K : PySem.W.Frag) (z : Zx) (Wd : WXd) : WX := fun cls d σ H => ∃ F m μ ρ x, SimZ K z F m μ ρ σ H ∧ XRep K z.T F m H x cls d ∧ Wd x ρ μ
def DE (X : Cx) (z : Zx) (e : Expr) (w : WE) : Prop := ∀ Wd, Takes X (XW X.K z Wd) → PE X e (tD X.K z Wd w)
theorem peI {X : Cx} {e : Expr} {t t' : TE} (h : PE X e t) (f : ∀ σ H Q, t' σ H Q → t σ H Q) : PE X e t' := ⟨fun pins s σ H Q I q => h.run pins s σ H Q I (f _ _ _ q)⟩

/-! ### names, constants -/
def wVar (i : Nat) : WE := fun ρ μ Q _ => match ρ[i]? with
  | some (some d) => Q d μ
  | _ => False
def wC (d : D) : WE := fun _ μ Q _ => Q d μ
section
variable {X : Cx} {z : Zx} {pos : Pos} {a b c e : Expr} {wa wb wc : WE}
theorem de_var {i : Nat} {x : Str} (hN : X.N[i]? = some x) (hv : Vis X.env.scope x) (hd : (x == ("__debug__" : Str)) = false := by decide) (hcd : (x == ("__classdict__" : Str)) = false := by decide) : DE X z (.Name x pos) (wVar i) := fun Wd tk =>
  peI (pe_var hN hv hd hcd) fun σ H Q ⟨F, m, μ, ρ, Qd, S, h, k⟩ => by
    unfold wVar at h
    split at h
    · rename_i d e
      obtain ⟨v, h1, h2⟩ := S.slot i d e
      exact ⟨v, h1, k F m μ d v H (Ext.refl _ _ _) S h2 h⟩
    · exact h.elim
theorem de_const {t : V} {d : D} (h : PE X e (tC t)) (r : ∀ K T F m, Rep K T F m d t) : DE X z e (wC d) := fun Wd tk =>
  peI h fun σ H Q ⟨F, m, μ, ρ, Qd, S, h, k⟩ => k F m μ d t H (Ext.refl _ _ _) S (r _ _ _ _) h
theorem de_int {i j} : DE X z (.Constant (.int i) j pos) (wC (.int i)) := de_const pe_int fun _ _ _ _ => .int
theorem de_bl {i j} : DE X z (.Constant (.bool i) j pos) (wC (.bl i)) := de_const pe_bl fun _ _ _ _ => .bl
theorem de_non {j} : DE X z (.Constant .none j pos) (wC .non) := de_const pe_non fun _ _ _ _ => .non
theorem de_str {x : Str} {j} {s : Tx} (h : x.cps.toList = s) : DE X z (.Constant (.str x) j pos) (wC (.str s)) := de_const pe_str fun _ _ _ _ => by
  have e : x = tx s := by
    obtain ⟨c⟩ := x
    unfold tx
    rw [← h] <;> rfl
  rw [e]
  exact .str
/-- a module's constant -/
theorem de_gint {x : Str} {i : Int} (hg : Gl X x) (hm : ∃ t, X.mg x = some (.int i t)) (hd : (x == ("__debug__" : Str)) = false := by decide) : DE X z (.Name x pos) (wC (.int i)) := by
  obtain ⟨t, hm⟩ := hm
  exact de_const (pe_glob (v := .int i) hg hm ⟨t, rfl⟩ hd) fun _ _ _ _ => .int
theorem de_gstr {x y : Str} {s : Tx} (hg : Gl X x) (hm : ∃ t, X.mg x = some (.str y t)) (h : y.cps.toList = s) (hd : (x == ("__debug__" : Str)) = false := by decide) : DE X z (.Name x pos) (wC (.str s)) := by
  obtain ⟨t, hm⟩ := hm
  have e : y = tx s := by
    obtain ⟨c⟩ := y
    unfold tx
    rw [← h] <;> rfl
  exact de_const (pe_glob (v := .str y) hg hm ⟨t, rfl⟩ hd) fun _ _ _ _ => by rw [e]; exact .str
theorem de_gcls {x : Str} {c : Nat} (hg : Gl X x) (hm : X.mg x = some (.ref (z.T.ca c))) (hd : (x == ("__debug__" : Str)) = false := by decide) : DE X z (.Name x pos) (wC (.cls c)) := fun Wd tk =>
  peI (pe_glob (v := .ref (z.T.ca c)) hg hm rfl hd) fun σ H Q ⟨F, m, μ, ρ, Qd, S, h, k⟩ => k F m μ _ _ H (Ext.refl _ _ _) S .cls h
theorem de_bty {x : Str} {t : Ty} (hg : Gl X x) (hm : X.mg x = none) (hv : bootBuiltins x = some (.type t.nm)) (hn : x ≠ "__name__" := by decide) (hd : (x == ("__debug__" : Str)) = false := by decide) : DE X z (.Name x pos) (wC (.ty t)) :=
  de_const (pe_bltn (v := .ty t.nm) hg hm hv rfl hn hd) fun _ _ _ _ => .ty

/-! ### operators -/
/-- by values, from views; f tells the answer, where there is one -/
def OpD (X : Cx) (z : Zx) (r : R2) (f : D → D → Option D) : Prop :=
  ∀ F m μ ρ σ H x y v u d (Qd : QD) (Q : VK), SimZ X.K z F m μ ρ σ H → Vw X.K z.T F m H x v → Vw X.K z.T F m H y u → f x y = some d → Qd d μ → Fin X.K z F m H ρ σ Qd Q → r v u H Q
def w2 (f : D → D → Option D) (wa wb : WE) : WE := fun ρ μ Q E => wa ρ μ (fun x μ1 => wb ρ μ1 (fun y μ2 => match f (look μ2 x) (look μ2 y) with
  | some d => Q d μ2
  | none => False) E) E
theorem op_run {r : R2} {f : D → D → Option D} {Wd : WXd} (ok : OpD X z r f) {σ : L2.St} {H : Hp} {Q : VK} (h : tD X.K z Wd (w2 f wa wb) σ H Q) : tD X.K z Wd wa σ H fun x H1 => tD X.K z Wd wb σ H1 fun y H2 => r x y H2 Q := by
  obtain ⟨F, m, μ, ρ, Qd, S, h, k⟩ := h
  refine ⟨F, m, μ, ρ, _, S, h, fun F1 m1 μ1 d1 v1 H1 x1 S1 r1 q1 => ⟨F1, m1, μ1, ρ, _, S1, q1, fun F2 m2 μ2 d2 v2 H2 x2 S2 r2 q2 => ?_⟩⟩
  cases e : f (look μ2 d1) (look μ2 d2) with
  | none =>
    rw [e] at q2
    exact q2.elim
  | some d =>
    rw [e] at q2
    exact ok F2 m2 μ2 ρ σ H2 _ _ _ _ d Qd Q S2 (S2.view (r1.mono x2.gr)) (S2.view r2) e q2 fun F3 m3 μ3 d3 v3 H3 x3 => k F3 m3 μ3 d3 v3 H3 (x1.trans (x2.trans x3))
theorem de_op {op : Operator} {r : R2} {f : D → D → Option D} (ho : OpR X (binaryOp op) r) (ok : OpD X z r f) (ha : DE X z a wa) (hb : DE X z b wb) : DE X z (.BinOp a op b pos) (w2 f wa wb) := fun Wd tk =>
  peI (pe_op ho (ha Wd tk) (hb Wd tk)) fun σ H Q h => op_run ok h
theorem de_cmp {op : CmpOp} {r : R2} {f : D → D → Option D} (ho : OpR X (compareOp op) r) (ok : OpD X z r f) (hm : behindInMarks op b = false) (ha : DE X z a wa) (hb : DE X z b wb) : DE X z (.Compare a [op] [b] pos) (w2 f wa wb) := fun Wd tk =>
  peI (pe_cmpR ho (ha Wd tk) (hb Wd tk) hm) fun σ H Q h => op_run ok h
theorem OpD.or {r r' : R2} {f f' : D → D → Option D} (h : OpD X z r f) (h' : OpD X z r' f') : OpD X z (fun x y H Q => r x y H Q ∨ r' x y H Q) (fun x y => match f x y with | some d => some d | none => f' x y) := by
  intro F m μ ρ σ H x y v u d Qd Q S vx vy e q k
  cases q1 : f x y with
  | some d1 =>
    simp only [q1, Option.some.injEq] at e
    subst e
    exact .inl (h _ _ _ _ _ _ _ _ _ _ _ Qd Q S vx vy q1 q k)
  | none =>
    simp only [q1] at e
    exact .inr (h' _ _ _ _ _ _ _ _ _ _ _ Qd Q S vx vy e q k)
theorem OpD.imp {r : R2} {f f' : D → D → Option D} (h : OpD X z r f) (e : ∀ x y d, f' x y = some d → f x y = some d) : OpD X z r f' :=
  fun F m μ ρ σ H x y v u d Qd Q S vx vy q => h F m μ ρ σ H x y v u d Qd Q S vx vy (e _ _ _ q)
theorem Fin.now {F : Hp} {m : List Addr} {μ : Sto} {ρ : Slots} {σ : L2.St} {H : Hp} {Qd : QD} {Q : VK} {d : D} {v : V} (k : Fin X.K z F m H ρ σ Qd Q) (S : SimZ X.K z F m μ ρ σ H) (r : Rep X.K z.T F m d v) (q : Qd d μ) : Q v H := k F m μ d v H (Ext.refl _ _ _) S r q
/-- a new tuple, list -/
theorem Fin.tup {F : Hp} {m : List Addr} {μ : Sto} {ρ : Slots} {σ : L2.St} {H : Hp} {Qd : QD} {Q : VK} {ds : List D} {vs : List V} {p : Addr} (k : Fin X.K z F m H ρ σ Qd Q) (S : SimZ X.K z F m μ ρ σ H) (hp : H p = none) (r : Reps X.K z.T F m ds vs) (q : Qd (.tup ds) μ) : Q (.ref p) (upd H p (.tup vs)) := by
  obtain ⟨x, S'⟩ := S.new hp (.tup vs)
  exact k _ m μ _ _ _ x S' (.tup (SqT.of upd_same) (r.mono x.gr)) q
theorem Fin.lst {F : Hp} {m : List Addr} {μ : Sto} {ρ : Slots} {σ : L2.St} {H : Hp} {Qd : QD} {Q : VK} {ds : List D} {vs : List V} {p : Addr} (k : Fin X.K z F m H ρ σ Qd Q) (S : SimZ X.K z F m μ ρ σ H) (hp : H p = none) (r : Reps X.K z.T F m ds vs) (q : Qd (.lst ds) μ) : Q (.ref p) (upd H p (.lst vs)) := by
  obtain ⟨x, S'⟩ := S.new hp (.lst vs)
  exact k _ m μ _ _ _ x S' (.lst upd_same (r.mono x.gr)) q
theorem Fin.dct {F : Hp} {m : List Addr} {μ : Sto} {ρ : Slots} {σ : L2.St} {H : Hp} {Qd : QD} {Q : VK} {ds : List (DK × D)} {vs : List (Key × V)} {p : Addr} {o : Obj} (k : Fin X.K z F m H ρ σ Qd Q) (S : SimZ X.K z F m μ ρ σ H) (hp : H p = none) (r : RepK X.K z.T F m ds vs) (q : Qd (.dct ds) μ) : Q (.ref p) (upd H p (.frz o (.dK vs))) := by
  obtain ⟨x, S'⟩ := S.new hp (.frz o (.dK vs))
  exact k _ m μ _ _ _ x S' (.dct upd_same (r.mono x.gr)) q
end
end Pk

/-! The data layer, part C: operators on data. -/
namespace Pk
open PySem PySem.Spec PyProof.Rows L2

/-! ### texts, keys -/
def eqTx : Tx → Tx → Bool
  | [], [] => true
  | a :: s, b :: t => match Nat.beq a b with
    | true => eqTx s t
    | false => false
  | _, _ => false
theorem eqTx_iff : ∀ {s t : Tx}, eqTx s t = true ↔ s = t
  | [], [] => by simp [eqTx]
  | [], _ :: _ => by simp [eqTx]
  | _ :: _, [] => by simp [eqTx]
  | a :: s, b :: t => by
    unfold eqTx
    cases h : Nat.beq a b with
    | true =>
      have e := Nat.eq_of_beq_eq_true h
      subst e
      simpa using eqTx_iff (s := s) (t := t)
    | false =>
      have e : a ≠ b := Nat.ne_of_beq_eq_false h
      simp [e]
theorem eqTx_dec (s t : Tx) : eqTx s t = decide (s = t) := by
  rw [Bool.eq_iff_iff, eqTx_iff, decide_eq_true_iff]
theorem tx_inj {s t : Tx} : tx s = tx t ↔ s = t := by
  unfold tx
  constructor
  · intro e
    injection e with e
    simpa using congrArg Array.toList e
  · intro e
    rw [e]
theorem tx_len (s : Tx) : (tx s).length = s.length := by
  unfold tx Str.length
  simp
def eqDK : DK → DK → Bool
  | .ki i, .ki j => decide (i = j)
  | .ks s, .ks t => eqTx s t
  | _, _ => false
theorem eqDK_iff {a b : DK} : eqDK a b = true ↔ a = b := by
  cases a <;> cases b <;> simp [eqDK, eqTx_iff]
theorem key_inj {a b : DK} : a.key = b.key ↔ a = b := by
  cases a <;> cases b <;> simp [DK.key, tx_inj]
def getK : List (DK × D) → DK → Option D
  | [], _ => none
  | (k, d) :: r, x => match eqDK k x with
    | true => some d
    | false => getK r x
def toK : D → Option DK
  | .int i => some (.ki i)
  | .str s => some (.ks s)
  | _ => none

/-! ### data that is compared by == -/
mutual
def pureD : Nat → D → Bool
  | _, .non => true
  | _, .bl _ => true
  | _, .int _ => true
  | _, .str s => s.all fun c => Nat.blt c 1114112
  | 0, .tup _ => false
  | 0, .lst _ => false
  | 0, .ttp _ => false
  | n + 1, .tup xs => pureDs n xs
  | n + 1, .ttp xs => pureDs n xs
  | n + 1, .lst xs => pureDs n xs
  | _, _ => false
def pureDs : Nat → List D → Bool
  | _, [] => true
  | n, x :: xs => match pureD n x with
    | true => pureDs n xs
    | false => false
end
mutual
def toPy : D → PyData
  | .bl b => .bool b
  | .int i => .int i
  | .str s => .str (tx s)
  | .tup xs => .tuple (toPys xs)
  | .ttp xs => .tuple (toPys xs)
  | .lst xs => .list (toPys xs)
  | _ => .none
def toPys : List D → List PyData
  | [] => []
  | x :: xs => toPy x :: toPys xs
end
def b2 (b : Bool) : Int := match b with
  | true => 1
  | false => 0
mutual
def eqD : D → D → Bool
  | .bl a, .bl b => match a with
    | true => b
    | false => !b
  | .bl a, .int j => decide (b2 a = j)
  | .int i, .bl b => decide (i = b2 b)
  | .int i, .int j => decide (i = j)
  | .str s, .str t => eqTx s t
  | .tup xs, .tup ys => eqDs xs ys
  | .tup xs, .ttp ys => eqDs xs ys
  | .ttp xs, .tup ys => eqDs xs ys
  | .ttp xs, .ttp ys => eqDs xs ys
  | .lst xs, .lst ys => eqDs xs ys
  | .non, .non => true
  | _, _ => false
def eqDs : List D → List D → Bool
  | [], [] => true
  | x :: xs, y :: ys => match eqD x y with
    | true => eqDs xs ys
    | false => false
  | _, _ => false
end
mutual
theorem canLay_of : ∀ (n : Nat) (d : D), pureD n d = true → (toPy d).canLay0 = true ∧ (toPy d).depth ≤ n
  | n, .non, _ => ⟨rfl, Nat.zero_le _⟩
  | n, .bl _, _ => ⟨rfl, Nat.zero_le _⟩
  | n, .int _, _ => ⟨rfl, Nat.zero_le _⟩
  | n, .str s, h => ⟨by
      unfold pureD at h
      show PySem.PyData.strOk (tx s) = true
      unfold PySem.PyData.strOk tx
      simp only [List.all_toArray]
      rw [List.all_eq_true] at h ⊢
      intro c hc
      have := h c hc
      rw [decide_eq_true_iff]
      have h2 := Nat.le_of_ble_eq_true (show Nat.ble (c + 1) 1114112 = true from this)
      omega, Nat.zero_le _⟩
  | 0, .tup _, h => by simp [pureD] at h
  | 0, .lst _, h => by simp [pureD] at h
  | 0, .ttp _, h => by simp [pureD] at h
  | n + 1, .ttp xs, h => by
    obtain ⟨h1, h2⟩ := canLays_of n xs (by simpa [pureD] using h)
    exact ⟨h1, Nat.succ_le_succ h2⟩
  | n + 1, .tup xs, h => by
    obtain ⟨h1, h2⟩ := canLays_of n xs (by simpa [pureD] using h)
    exact ⟨h1, Nat.succ_le_succ h2⟩
  | n + 1, .lst xs, h => by
    obtain ⟨h1, h2⟩ := canLays_of n xs (by simpa [pureD] using h)
    exact ⟨h1, Nat.succ_le_succ h2⟩
  | n, .dct _, h => by cases n <;> simp [pureD] at h
  | n, .scr _, h => by cases n <;> simp [pureD] at h
  | n, .ins _ _, h => by cases n <;> simp [pureD] at h
  | n, .mref _, h => by cases n <;> simp [pureD] at h
  | n, .cls _, h => by cases n <;> simp [pureD] at h
  | n, .ty _, h => by cases n <;> simp [pureD] at h
  | n, .ptp _, h => by cases n <;> simp [pureD] at h
  | n, .dcp _ _, h => by cases n <;> simp [pureD] at h
  | n, .dco _, h => by cases n <;> simp [pureD] at h
  | n, .err _ _, h => by cases n <;> simp [pureD] at h
theorem canLays_of : ∀ (n : Nat) (ds : List D), pureDs n ds = true → PyData.canLayAll0 (toPys ds) = true ∧ PyData.depthAll (toPys ds) ≤ n
  | n, [], _ => ⟨rfl, Nat.zero_le _⟩
  | n, d :: ds, h => by
    unfold pureDs at h
    cases q : pureD n d with
    | false => simp [q] at h
    | true =>
      obtain ⟨h1, h2⟩ := canLay_of n d q
      obtain ⟨h3, h4⟩ := canLays_of n ds (by simpa [q] using h)
      refine ⟨?_, ?_⟩
      · show (PyData.canLay0 (toPy d) && PyData.canLayAll0 (toPys ds)) = true
        rw [h1, h3]
        rfl
      · show max (toPy d).depth (PyData.depthAll (toPys ds)) ≤ n
        omega
end
mutual
theorem eqD_py : ∀ (n k : Nat) (d e : D), pureD n d = true → pureD k e = true → eqD d e = PyData.eqv (toPy d) (toPy e)
  | n, k, d, e, hd, he => by
    cases d with
    | tup xs =>
      cases n with
      | zero => simp [pureD] at hd
      | succ n =>
        cases e with
        | tup ys =>
          cases k with
          | zero => simp [pureD] at he
          | succ k => exact eqDs_py n k xs ys (by simpa [pureD] using hd) (by simpa [pureD] using he)
        | ttp ys =>
          cases k with
          | zero => simp [pureD] at he
          | succ k => exact eqDs_py n k xs ys (by simpa [pureD] using hd) (by simpa [pureD] using he)
        | _ => first | rfl | (cases k <;> simp [pureD] at he)
    | ttp xs =>
      cases n with
      | zero => simp [pureD] at hd
      | succ n =>
        cases e with
        | tup ys =>
          cases k with
          | zero => simp [pureD] at he
          | succ k => exact eqDs_py n k xs ys (by simpa [pureD] using hd) (by simpa [pureD] using he)
        | ttp ys =>
          cases k with
          | zero => simp [pureD] at he
          | succ k => exact eqDs_py n k xs ys (by simpa [pureD] using hd) (by simpa [pureD] using he)
        | _ => first | rfl | (cases k <;> simp [pureD] at he)
    | lst xs =>
      cases n with
      | zero => simp [pureD] at hd
      | succ n =>
        cases e with
        | lst ys =>
          cases k with
          | zero => simp [pureD] at he
          | succ k => exact eqDs_py n k xs ys (by simpa [pureD] using hd) (by simpa [pureD] using he)
        | _ => first | rfl | (cases k <;> simp [pureD] at he)
    | non => cases e <;> first | rfl | (cases k <;> simp [pureD] at he)
    | bl a =>
      cases e with
      | bl b => cases a <;> cases b <;> rfl
      | int j => cases a <;> simp [eqD, b2, toPy, PyData.eqv] <;> rfl
      | _ => first | rfl | (cases k <;> simp [pureD] at he)
    | int i =>
      cases e with
      | bl b => cases b <;> simp [eqD, b2, toPy, PyData.eqv] <;> rfl
      | int j => simp [eqD, toPy, PyData.eqv] <;> rfl
      | _ => first | rfl | (cases k <;> simp [pureD] at he)
    | str s =>
      cases e with
      | str t =>
        show eqTx s t = (tx s == tx t)
        rw [eqTx_dec, Bool.eq_iff_iff, decide_eq_true_iff, beq_iff_eq, tx_inj]
      | _ => first | rfl | (cases k <;> simp [pureD] at he)
    | _ => cases n <;> simp [pureD] at hd
theorem eqDs_py : ∀ (n k : Nat) (ds es : List D), pureDs n ds = true → pureDs k es = true → eqDs ds es = PyData.eqvAll (toPys ds) (toPys es)
  | n, k, [], [], _, _ => rfl
  | n, k, [], _ :: _, _, _ => rfl
  | n, k, _ :: _, [], _, _ => rfl
  | n, k, d :: ds, e :: es, hd, he => by
    unfold pureDs at hd he
    cases q1 : pureD n d with
    | false => simp [q1] at hd
    | true =>
      cases q2 : pureD k e with
      | false => simp [q2] at he
      | true =>
        have h1 := eqD_py n k d e q1 q2
        have h2 := eqDs_py n k ds es (by simpa [q1] using hd) (by simpa [q2] using he)
        show (match eqD d e with | true => eqDs ds es | false => false) = (PyData.eqv (toPy d) (toPy e) && PyData.eqvAll (toPys ds) (toPys es))
        rw [h1, h2]
        cases PyData.eqv (toPy d) (toPy e) <;> rfl
end
section
variable {K : PySem.W.Frag} {T : Tab} {F : Hp} {m : List Addr} {H : Hp}
mutual
theorem Rep.dp (s : Same F H) : ∀ {n : Nat} {d : D} {v : V}, Rep K T F m d v → pureD n d = true → Dp K H v (toPy d)
  | _, _, _, .non, _ => .non
  | _, _, _, .bl, _ => .bl _
  | _, _, _, .int, _ => .int _
  | _, _, _, .str, _ => .str _
  | 0, _, _, .tup _ _, h => by simp [pureD] at h
  | 0, _, _, .lst _ _, h => by simp [pureD] at h
  | 0, _, _, .ttp _ _, h => by simp [pureD] at h
  | n + 1, _, _, .ttp h r, q => .tup (SqT.of (s _ _ h)) (Reps.dp s r (by simpa [pureD] using q))
  | n + 1, _, _, .tup h r, q => .tup (Same.sqt s h) (Reps.dp s r (by simpa [pureD] using q))
  | n + 1, _, _, .lst h r, q => .lst (SqL.of (s _ _ h)) (Reps.dp s r (by simpa [pureD] using q))
  | n, _, _, .dct _ _, h => by cases n <;> simp [pureD] at h
  | n, _, _, .scr _, h => by cases n <;> simp [pureD] at h
  | n, _, _, .ins _ _ _, h => by cases n <;> simp [pureD] at h
  | n, _, _, .mref _, h => by cases n <;> simp [pureD] at h
  | n, _, _, .cls, h => by cases n <;> simp [pureD] at h
  | n, _, _, .ty, h => by cases n <;> simp [pureD] at h
  | n, _, _, .ptp _ _ _, h => by cases n <;> simp [pureD] at h
  | n, _, _, .dcp _ _ _ _, h => by cases n <;> simp [pureD] at h
  | n, _, _, .dco _ _, h => by cases n <;> simp [pureD] at h
  | n, _, _, .err _ _ _, h => by cases n <;> simp [pureD] at h
theorem Reps.dp (s : Same F H) : ∀ {n : Nat} {ds : List D} {vs : List V}, Reps K T F m ds vs → pureDs n ds = true → DpAll K H vs (toPys ds)
  | _, _, _, .nil, _ => .nil
  | n, _, _, .cons (d := d) r rs, h => by
    unfold pureDs at h
    cases q : pureD n d with
    | false => simp [q] at h
    | true => exact .cons (Rep.dp s r q) (Reps.dp s rs (by simpa [q] using h))
end
theorem Vw.dp (s : Same F H) {n : Nat} {d : D} {v : V} (r : Vw K T F m H d v) (h : pureD n d = true) : Dp K H v (toPy d) := by
  cases r with
  | of r => exact r.dp s h
  | lst e r =>
    cases n with
    | zero => simp [pureD] at h
    | succ n => exact .lst (SqL.of e) (r.dp s (by simpa [pureD] using h))
  | dct e r => cases n <;> simp [pureD] at h
  | ins e r => cases n <;> simp [pureD] at h
  | dcp e l r => cases n <;> simp [pureD] at h
end
theorem shaped_of {n : Nat} {d : D} (h : pureD n d = true) (hn : n ≤ 64) : PySem.SeqAt.shaped (toPy d) = true := by
  obtain ⟨h1, h2⟩ := canLay_of n d h
  unfold PySem.SeqAt.shaped
  rw [h1, decide_eq_true (Nat.le_trans h2 hn)]
  rfl

/-! ### the operators -/
def lineB (n : Nat) : Bool := Nat.ble n 16777216
theorem lineB_le {n : Nat} (h : lineB n = true) : n ≤ sizeLine := by
  rw [sizeLine_eq]
  exact Nat.le_of_ble_eq_true h
def addD : D → D → Option D
  | .int i, .int j => some (.int (i + j))
  | .str s, .str t => match lineB (s.length + t.length) with
    | true => some (.str (s ++ t))
    | false => none
  | .lst a, .lst b => match lineB (a.length + b.length) with
    | true => some (.lst (a ++ b))
    | false => none
  | .tup a, .tup b => match lineB (a.length + b.length) with
    | true => some (.tup (a ++ b))
    | false => none
  | _, _ => none
def subD : D → D → Option D
  | .int i, .int j => some (.int (i - j))
  | _, _ => none
def smallI : Int → Bool
  | .ofNat n => Nat.blt n 18446744073709551616
  | .negSucc n => Nat.blt (n + 1) 18446744073709551616
theorem smallI_of {i : Int} (h1 : -18446744073709551616 < i) (h2 : i < 18446744073709551616) : smallI i = true := by
  cases i with
  | ofNat n => exact Nat.ble_eq_true_of_le (by have : (n : Int) < 18446744073709551616 := h2; omega)
  | negSucc n => exact Nat.ble_eq_true_of_le (by omega)
def repD (n : Nat) (xs : List D) : List D := (List.replicate n xs).flatten
def mulD : D → D → Option D
  | .int i, .int j => match smallI i || smallI j with
    | true => some (.int (i * j))
    | false => none
  | .lst a, .int k => match smallI (k * 4) && lineB (a.length * k.toNat) with
    | true => some (.lst (repD k.toNat a))
    | false => none
  | _, _ => none
def fdivD : D → D → Option D
  | .int i, .int j => match decide (0 < j) && decide (j < 1073741824) with
    | true => some (.int (i / j))
    | false => none
  | _, _ => none
def modD : D → D → Option D
  | .int i, .int j => match decide (0 < j) with
    | true => some (.int (i % j))
    | false => none
  | _, _ => none
def eqqD (x y : D) : Option D := match pureD 60 x && pureD 60 y with
  | true => some (.bl (eqD x y))
  | false => none
def neqD (x y : D) : Option D := match pureD 60 x && pureD 60 y with
  | true => some (.bl (!eqD x y))
  | false => none
def leD : D → D → Option D
  | .int i, .int j => some (.bl (decide (i ≤ j)))
  | _, _ => none
def ltD : D → D → Option D
  | .int i, .int j => some (.bl (decide (i < j)))
  | _, _ => none
def geD : D → D → Option D
  | .int i, .int j => some (.bl (decide (j ≤ i)))
  | _, _ => none
def gtD : D → D → Option D
  | .int i, .int j => some (.bl (decide (j < i)))
  | _, _ => none
def isNonD : D → Bool
  | .non => true
  | _ => false
def eqB (a b : Bool) : Bool := match a with
  | true => b
  | false => !b
theorem eqB_dec (a b : Bool) : decide (a = b) = eqB a b := by cases a <;> cases b <;> rfl
def isD : D → D → Option D
  | x, .non => some (.bl (isNonD x))
  | .bl a, .bl b => some (.bl (eqB a b))
  | _, _ => none
def isnotD : D → D → Option D
  | x, .non => some (.bl (!isNonD x))
  | .bl a, .bl b => some (.bl (!eqB a b))
  | _, _ => none
def anyEq (x : D) : List D → Bool
  | [] => false
  | y :: r => match eqD y x with
    | true => true
    | false => anyEq x r
def memTx (c : Nat) : Tx → Bool
  | [] => false
  | d :: r => match Nat.beq d c with
    | true => true
    | false => memTx c r
def flatD : D → Bool
  | .non => true
  | .bl _ => true
  | .int _ => true
  | .str _ => true
  | _ => false
def inD? : D → D → Option Bool
  | x, .lst ys => match pureD 60 x && pureD 60 (.lst ys) with
    | true => some (anyEq x ys)
    | false => none
  | x, .tup ys => match flatD x && ys.all flatD with
    | true => some (anyEq x ys)
    | false => none
  | .str [c], .str t => some (memTx c t)
  | x, .dct kvs => match toK x with
    | some k => some (getK kvs k).isSome
    | none => none
  | _, _ => none
def inD (x y : D) : Option D := match inD? x y with
  | some b => some (.bl b)
  | none => none
def ninD (x y : D) : Option D := match inD? x y with
  | some b => some (.bl !b)
  | none => none
end Pk

/-! The data layer, part D: the operators' rules. -/
namespace Pk
open PySem PySem.Spec PyProof.Rows L2
section
variable {X : Cx} {z : Zx}

theorem tx_app (s t : Tx) : tx s ++ tx t = tx (s ++ t) := by
  show (⟨s.toArray ++ t.toArray⟩ : Str) = ⟨(s ++ t).toArray⟩
  simp
theorem okAdd : OpD X z (fun x y H Q => rI0 (fun i j => V.int (i + j)) x y H Q ∨ (∃ i j, x = .str i ∧ y = .str j ∧ i.length + j.length ≤ sizeLine ∧ Q (.str (i ++ j)) H) ∨ rCat x y H Q ∨ rCatA X.K x y H Q) addD := by
  intro F m μ ρ σ H x y v u d Qd Q S vx vy e q k
  unfold addD at e
  split at e
  · injection e with e
    subst e
    have e1 := vx.int
    have e2 := vy.int
    subst e1 e2
    exact .inl ⟨_, _, rfl, rfl, k.now S .int q⟩
  · split at e
    · rename_i s t hl
      injection e with e
      subst e
      have e1 := vx.str
      have e2 := vy.str
      subst e1 e2
      refine .inr (.inl ⟨_, _, rfl, rfl, ?_, ?_⟩)
      · rw [tx_len, tx_len]
        exact lineB_le hl
      · rw [tx_app]
        exact k.now S .str q
    · cases e
  · split at e
    · rename_i s t hl
      injection e with e
      subst e
      obtain ⟨a, xs, rfl, h1, r1⟩ := vx.list S.same
      obtain ⟨b, ys, rfl, h2, r2⟩ := vy.list S.same
      refine .inr (.inr (.inl ⟨a, b, xs, ys, rfl, rfl, h1, h2, ?_, fun p hp => k.lst S hp (r1.append r2) q⟩))
      rw [← r1.length, ← r2.length]
      exact lineB_le hl
    · cases e
  · split at e
    · rename_i s t _ hl
      injection e with e
      subst e
      obtain ⟨a, xs, rfl, h1, r1⟩ := vx.tup S.same
      obtain ⟨b, ys, rfl, h2, r2⟩ := vy.tup S.same
      refine .inr (.inr (.inr ⟨a, b, xs, ys, rfl, rfl, h1, h2, ?_, fun e => ?_, fun n e => ?_, fun n1 n2 p hp => k.tup S hp (r1.append r2) q⟩))
      · rw [← r1.length, ← r2.length]
        exact lineB_le hl
      · subst e
        have : s = [] := List.length_eq_zero_iff.mp (by rw [r1.length]; rfl)
        subst this
        cases vy with | of vy => exact k.now S vy q
      · subst e
        have : t = [] := List.length_eq_zero_iff.mp (by rw [r2.length]; rfl)
        subst this
        rw [List.append_nil] at q
        cases vx with | of vx => exact k.now S vx q
    · cases e
  · cases e
theorem orAdd : OpR X (binaryOp .Add) (fun x y H Q => rI0 (fun i j => V.int (i + j)) x y H Q ∨ (∃ i j, x = .str i ∧ y = .str j ∧ i.length + j.length ≤ sizeLine ∧ Q (.str (i ++ j)) H) ∨ rCat x y H Q ∨ rCatA X.K x y H Q) :=
  op_add.or (op_add_str.or (op_cat.or op_catA))
theorem okSub : OpD X z (rI0 fun i j => V.int (i - j)) subD := by
  intro F m μ ρ σ H x y v u d Qd Q S vx vy e q k
  unfold subD at e
  split at e
  · injection e with e
    subst e
    have e1 := vx.int
    have e2 := vy.int
    subst e1 e2
    exact ⟨_, _, rfl, rfl, k.now S .int q⟩
  · cases e
theorem smallI_ok {i : Int} (h : smallI i = true) : -(2 ^ 64) < i ∧ i < 2 ^ 64 := by
  cases i with
  | ofNat n =>
    have := Nat.le_of_ble_eq_true (show Nat.ble (n + 1) 18446744073709551616 = true from h)
    simp only [Int.ofNat_eq_natCast]
    omega
  | negSucc n =>
    have := Nat.le_of_ble_eq_true (show Nat.ble (n + 1 + 1) 18446744073709551616 = true from h)
    omega
theorem Reps.replicate {K : PySem.W.Frag} {T : Tab} {F : Hp} {m : List Addr} {ds : List D} {vs : List V} (r : Reps K T F m ds vs) : ∀ n : Nat, Reps K T F m (repD n ds) (List.replicate n vs).flatten
  | 0 => .nil
  | n + 1 => by
    unfold repD
    rw [List.replicate_succ, List.flatten_cons, List.replicate_succ, List.flatten_cons]
    exact r.append (Reps.replicate r n)
theorem okMul : OpD X z (fun x y H Q => rI CMul (fun i j => V.int (i * j)) x y H Q ∨ rRep x y H Q) mulD := by
  intro F m μ ρ σ H x y v u d Qd Q S vx vy e q k
  unfold mulD at e
  split at e
  · split at e
    · rename_i i j hl
      injection e with e
      subst e
      have e1 := vx.int
      have e2 := vy.int
      subst e1 e2
      refine .inl ⟨_, _, rfl, rfl, ?_, k.now S .int q⟩
      rcases Bool.or_eq_true_iff.mp hl with h | h
      · exact .inl (smallI_ok h)
      · exact .inr (smallI_ok h)
    · cases e
  · split at e
    · rename_i a n _ hl
      injection e with e
      subst e
      obtain ⟨a, xs, rfl, h1, r1⟩ := vx.list S.same
      have e2 := vy.int
      subst e2
      obtain ⟨g1, g2⟩ := Bool.and_eq_true_iff.mp hl
      have g3 := smallI_ok g1
      refine .inr ⟨a, n, xs, rfl, rfl, h1, by omega, by omega, ?_, fun p hp => k.lst S hp (r1.replicate _) q⟩
      rw [← r1.length]
      exact lineB_le g2
    · cases e
  · cases e
theorem orMul : OpR X (binaryOp .Mult) (fun x y H Q => rI CMul (fun i j => V.int (i * j)) x y H Q ∨ rRep x y H Q) := op_mul.or op_rep
theorem okFdiv : OpD X z (rI CDiv fun i j => V.int (i / j)) fdivD := by
  intro F m μ ρ σ H x y v u d Qd Q S vx vy e q k
  unfold fdivD at e
  split at e
  · split at e
    · rename_i i j hl
      injection e with e
      subst e
      have e1 := vx.int
      have e2 := vy.int
      subst e1 e2
      obtain ⟨g1, g2⟩ := Bool.and_eq_true_iff.mp hl
      exact ⟨_, _, rfl, rfl, ⟨of_decide_eq_true g1, of_decide_eq_true g2⟩, k.now S .int q⟩
    · cases e
  · cases e
theorem okMod : OpD X z (rI (fun _ j => 0 < j) fun i j => V.int (i % j)) modD := by
  intro F m μ ρ σ H x y v u d Qd Q S vx vy e q k
  unfold modD at e
  split at e
  · split at e
    · rename_i i j hl
      injection e with e
      subst e
      have e1 := vx.int
      have e2 := vy.int
      subst e1 e2
      exact ⟨_, _, rfl, rfl, of_decide_eq_true hl, k.now S .int q⟩
    · cases e
  · cases e
theorem okEq : OpD X z (rEqD X.K) eqqD := by
  intro F m μ ρ σ H x y v u d Qd Q S vx vy e q k
  unfold eqqD at e
  split at e
  · rename_i hl
    injection e with e
    subst e
    obtain ⟨g1, g2⟩ := Bool.and_eq_true_iff.mp hl
    refine ⟨_, _, vx.dp S.same g1, vy.dp S.same g2, shaped_of g1 (by decide), shaped_of g2 (by decide), ?_⟩
    rw [← eqD_py 60 60 x y g1 g2]
    exact k.now S .bl q
  · cases e
theorem okNe : OpD X z (rNeD X.K) neqD := by
  intro F m μ ρ σ H x y v u d Qd Q S vx vy e q k
  unfold neqD at e
  split at e
  · rename_i hl
    injection e with e
    subst e
    obtain ⟨g1, g2⟩ := Bool.and_eq_true_iff.mp hl
    refine ⟨_, _, vx.dp S.same g1, vy.dp S.same g2, shaped_of g1 (by decide), shaped_of g2 (by decide), ?_⟩
    rw [← eqD_py 60 60 x y g1 g2]
    exact k.now S .bl q
  · cases e
theorem okLe : OpD X z (rI0 fun i j => V.bl (decide (i ≤ j))) leD := by
  intro F m μ ρ σ H x y v u d Qd Q S vx vy e q k
  unfold leD at e
  split at e
  · injection e with e
    subst e
    have e1 := vx.int
    have e2 := vy.int
    subst e1 e2
    exact ⟨_, _, rfl, rfl, k.now S .bl q⟩
  · cases e
theorem okLt : OpD X z (rI0 fun i j => V.bl (decide (i < j))) ltD := by
  intro F m μ ρ σ H x y v u d Qd Q S vx vy e q k
  unfold ltD at e
  split at e
  · injection e with e
    subst e
    have e1 := vx.int
    have e2 := vy.int
    subst e1 e2
    exact ⟨_, _, rfl, rfl, k.now S .bl q⟩
  · cases e
theorem okGe : OpD X z (rI0 fun i j => V.bl (decide (j ≤ i))) geD := by
  intro F m μ ρ σ H x y v u d Qd Q S vx vy e q k
  unfold geD at e
  split at e
  · injection e with e
    subst e
    have e1 := vx.int
    have e2 := vy.int
    subst e1 e2
    exact ⟨_, _, rfl, rfl, k.now S .bl q⟩
  · cases e
theorem okGt : OpD X z (rI0 fun i j => V.bl (decide (j < i))) gtD := by
  intro F m μ ρ σ H x y v u d Qd Q S vx vy e q k
  unfold gtD at e
  split at e
  · injection e with e
    subst e
    have e1 := vx.int
    have e2 := vy.int
    subst e1 e2
    exact ⟨_, _, rfl, rfl, k.now S .bl q⟩
  · cases e
theorem isNon_v {K : PySem.W.Frag} {T : Tab} {F : Hp} {m : List Addr} {H : Hp} {d : D} {v : V} (r : Vw K T F m H d v) : decide (v = .non) = isNonD d := by
  cases r with
  | of r => cases r <;> simp [isNonD]
  | lst _ _ => simp [isNonD]
  | dct _ _ => simp [isNonD]
  | ins _ _ => simp [isNonD]
  | dcp _ _ _ => simp [isNonD]
theorem okIs : OpD X z (fun x y H Q => (y = .non ∧ Q (.bl (decide (x = .non))) H) ∨ ∃ a b, x = V.bl a ∧ y = .bl b ∧ Q (.bl (decide (a = b))) H) isD := by
  intro F m μ ρ σ H x y v u d Qd Q S vx vy e q k
  unfold isD at e
  split at e
  · injection e with e
    subst e
    refine .inl ⟨vy.non, ?_⟩
    rw [isNon_v vx]
    exact k.now S .bl q
  · injection e with e
    subst e
    rename_i a b
    refine .inr ⟨a, b, vx.bl, vy.bl, ?_⟩
    rw [eqB_dec]
    exact k.now S .bl q
  · cases e
theorem okIsnot : OpD X z (fun x y H Q => (y = .non ∧ Q (.bl (!decide (x = .non))) H) ∨ ∃ a b, x = V.bl a ∧ y = .bl b ∧ Q (.bl (!decide (a = b))) H) isnotD := by
  intro F m μ ρ σ H x y v u d Qd Q S vx vy e q k
  unfold isnotD at e
  split at e
  · injection e with e
    subst e
    refine .inl ⟨vy.non, ?_⟩
    rw [isNon_v vx]
    exact k.now S .bl q
  · injection e with e
    subst e
    rename_i a b
    refine .inr ⟨a, b, vx.bl, vy.bl, ?_⟩
    rw [eqB_dec]
    exact k.now S .bl q
  · cases e
theorem orIs : OpR X (compareOp .Is) (fun x y H Q => (y = .non ∧ Q (.bl (decide (x = .non))) H) ∨ ∃ a b, x = V.bl a ∧ y = .bl b ∧ Q (.bl (decide (a = b))) H) := op_isN.or op_isBl
theorem orIsnot : OpR X (compareOp .IsNot) (fun x y H Q => (y = .non ∧ Q (.bl (!decide (x = .non))) H) ∨ ∃ a b, x = V.bl a ∧ y = .bl b ∧ Q (.bl (!decide (a = b))) H) := op_notN.or op_notBl
end
end Pk

/-! The data layer, part F: in, subscripts, slices, tests, and / or / not, displays. -/
namespace Pk
open PySem PySem.Spec PyProof.Rows L2
section
variable {X : Cx} {z : Zx} {pos : Pos} {a b c e : Expr} {wa wb wc : WE}

/-! ### in -/
def rDIn (f : Bool → Bool) : R2 := fun y x H Q => ∃ a o, x = .ref a ∧ DGet H a y o ∧ Q (.bl (f o.isSome)) H
theorem op_inDict (hu : X.A.units + 1 < cLine) : OpR X (compareOp .In) (rDIn fun b => b) := by
  intro pins s σ H x y v u Q I rx ry ⟨a, o, e, g, q⟩
  subst e
  obtain rfl : u = Value.ref a := ry
  exact d_in hu I g rx fun s3 I3 => ⟨.bl o.isSome, H, I3, rfl, q⟩
theorem op_ninDict (hu : X.A.units + 1 < cLine) : OpR X (compareOp .NotIn) (rDIn fun b => !b) := by
  intro pins s σ H x y v u Q I rx ry ⟨a, o, e, g, q⟩
  subst e
  obtain rfl : u = Value.ref a := ry
  exact d_notIn hu I g rx fun s3 I3 => ⟨.bl (!o.isSome), H, I3, rfl, q⟩
def rInAll (K : PySem.W.Frag) (f : Bool → Bool) : R2 := fun x y H Q =>
  (∃ d ds, Dp K H x d ∧ Dp K H y (.list ds) ∧ PySem.SeqAt.shaped d = true ∧ PySem.SeqAt.shaped (.list ds) = true ∧ Q (.bl (f (ds.any fun z => PyData.eqv z d))) H) ∨
  (∃ p xs, y = .ref p ∧ (SqL K H p xs ∨ SqT K H p xs) ∧ flatV x = true ∧ xs.all flatV = true ∧ Q (.bl (f (inV x xs))) H) ∨
  (∃ (c : Nat) (z : Str), x = .str ⟨#[c]⟩ ∧ y = .str z ∧ Q (.bl (f (decide (c ∈ z.cps.toList)))) H) ∨ rDIn f x y H Q
theorem orIn (hu : X.A.units + 65 < cLine) : OpR X (compareOp .In) (rInAll X.K fun b => b) := by
  have h := (op_inD hu).or (op_in_seq.or (op_in_sign.or (op_inDict (X := X) (by omega))))
  intro pins s σ H x y v u Q I rx ry q
  exact h pins s σ H x y v u Q I rx ry q
theorem orNin (hu : X.A.units + 65 < cLine) : OpR X (compareOp .NotIn) (rInAll X.K fun b => !b) := by
  have h := (op_notInD hu).or (op_notIn_seq.or (op_notIn_sign.or (op_ninDict (X := X) (by omega))))
  intro pins s σ H x y v u Q I rx ry q
  exact h pins s σ H x y v u Q I rx ry q
theorem anyEq_py {n k : Nat} {d : D} (hd : pureD k d = true) : ∀ {ds : List D}, pureDs n ds = true → ((toPys ds).any fun z => PyData.eqv z (toPy d)) = anyEq d ds
  | [], _ => rfl
  | x :: xs, h => by
    unfold pureDs at h
    cases q : pureD n x with
    | false => simp [q] at h
    | true =>
      show (PyData.eqv (toPy x) (toPy d) || (toPys xs).any fun z => PyData.eqv z (toPy d)) = (match eqD x d with | true => true | false => anyEq d xs)
      rw [anyEq_py hd (by simpa [q] using h), eqD_py n k x d q hd]
      cases PyData.eqv (toPy x) (toPy d) <;> rfl
theorem flat_V {K : PySem.W.Frag} {T : Tab} {F : Hp} {m : List Addr} {d : D} {v : V} (r : Rep K T F m d v) (h : flatD d = true) : flatV v = true := by
  cases r <;> first | rfl | simp [flatD] at h
theorem flats_V {K : PySem.W.Frag} {T : Tab} {F : Hp} {m : List Addr} : ∀ {ds : List D} {vs : List V}, Reps K T F m ds vs → ds.all flatD = true → vs.all flatV = true
  | _, _, .nil, _ => rfl
  | _, _, .cons r rs, h => by
    rw [List.all_cons, Bool.and_eq_true] at h ⊢
    exact ⟨flat_V r h.1, flats_V rs h.2⟩
theorem eqFlat {K : PySem.W.Frag} {T : Tab} {F : Hp} {m : List Addr} {d e : D} {v u : V} (r : Rep K T F m d v) (q : Rep K T F m e u) (hd : flatD d = true) (he : flatD e = true) : eqV v u = eqD d e := by
  have st : ∀ s t : Tx, (tx s == tx t) = eqTx s t := fun s t => by rw [eqTx_dec, Bool.eq_iff_iff, decide_eq_true_iff, beq_iff_eq, tx_inj]
  cases r <;> first | (simp [flatD] at hd; done) | skip
  all_goals (cases q <;> first | (simp [flatD] at he; done) | skip)
  all_goals first
    | rfl
    | exact st _ _
    | (rename_i b b'; cases b <;> cases b' <;> rfl)
    | (rename_i b i; cases b <;> (simp [eqV, eqD, b2]; try rfl))
    | (rename_i i b; cases b <;> (simp [eqV, eqD, b2]; try rfl))
    | (simp [eqV, eqD]; try rfl)
theorem anyFlat {K : PySem.W.Frag} {T : Tab} {F : Hp} {m : List Addr} {d : D} {v : V} (r : Rep K T F m d v) (hd : flatD d = true) : ∀ {ds : List D} {vs : List V}, Reps K T F m ds vs → ds.all flatD = true → inV v vs = anyEq d ds
  | _, _, .nil, _ => rfl
  | _, _, .cons (d := x) (v := u) q rs, h => by
    rw [List.all_cons, Bool.and_eq_true] at h
    show (eqV u v || inV v _) = (match eqD x d with | true => true | false => anyEq d _)
    rw [anyFlat r hd rs h.2, eqFlat q r h.1 hd]
    cases eqD x d <;> rfl
theorem memTx_iff (c : Nat) : ∀ s : Tx, decide (c ∈ s) = memTx c s
  | [] => rfl
  | d :: s => by
    unfold memTx
    cases h : Nat.beq d c with
    | true =>
      have e := Nat.eq_of_beq_eq_true h
      subst e
      simp
    | false =>
      have e : d ≠ c := Nat.ne_of_beq_eq_false h
      show decide (c ∈ d :: s) = memTx c s
      rw [← memTx_iff c s]
      simp [Ne.symm e]
theorem toK_V {K : PySem.W.Frag} {T : Tab} {F : Hp} {m : List Addr} {H : Hp} {d : D} {v : V} {k : DK} (r : Vw K T F m H d v) (h : toK d = some k) : v = kV k.key := by
  cases d with
  | int i =>
    injection h with h
    subst h
    exact r.int
  | str s =>
    injection h with h
    subst h
    exact r.str
  | _ => cases h
theorem getK_V {K : PySem.W.Frag} {T : Tab} {F : Hp} {m : List Addr} {k : DK} : ∀ {ds : List (DK × D)} {vs : List (Key × V)}, RepK K T F m ds vs →
    (∀ d, getK ds k = some d → ∃ v, valV vs k.key = some v ∧ Rep K T F m d v) ∧ (getK ds k = none → valV vs k.key = none)
  | _, _, .nil => ⟨(fun d h => by cases h), (fun _ => rfl)⟩
  | _, _, .cons (k := j) (d := x) (v := u) r rs => by
    have ih := getK_V (k := k) rs
    unfold getK
    cases q : eqDK j k with
    | true =>
      have e := eqDK_iff.mp q
      subst e
      refine ⟨fun d h => ?_, (fun h => by cases h)⟩
      injection h with h
      subst h
      exact ⟨_, valV_pos rfl, r⟩
    | false =>
      have e : ¬ j.key = k.key := fun e => by
        have := eqDK_iff.mpr (key_inj.mp e)
        rw [q] at this
        cases this
      rw [valV_neg e]
      exact ih
theorem getK_some {K : PySem.W.Frag} {T : Tab} {F : Hp} {m : List Addr} {k : DK} {ds : List (DK × D)} {vs : List (Key × V)} (r : RepK K T F m ds vs) : (valV vs k.key).isSome = (getK ds k).isSome := by
  obtain ⟨h1, h2⟩ := getK_V (k := k) r
  cases q : getK ds k with
  | none => rw [h2 q] <;> rfl
  | some d =>
    obtain ⟨v, h3, _⟩ := h1 d q
    rw [h3] <;> rfl
theorem okIn (f : Bool → Bool) {g : D → D → Option D} (hg : ∀ x y d, g x y = some d → ∃ b, inD? x y = some b ∧ d = .bl (f b)) : OpD X z (rInAll X.K f) g := by
  intro F m μ ρ σ H x y v u d Qd Q S vx vy e q k
  obtain ⟨b, e', rfl⟩ := hg x y d e
  clear e
  have e := e'
  clear e'
  unfold inD? at e
  split at e
  · split at e
    · rename_i ys _ hl
      injection e with e
      subst e
      obtain ⟨g1, g2⟩ := Bool.and_eq_true_iff.mp hl
      have g3 : pureDs 59 ys = true := by simpa [pureD] using g2
      refine .inl ⟨_, _, vx.dp S.same g1, vy.dp S.same g2, shaped_of g1 (by decide), shaped_of g2 (by decide), ?_⟩
      rw [anyEq_py g1 g3]
      exact k.now S .bl q
    · cases e
  · split at e
    · rename_i ys _ hl
      injection e with e
      subst e
      obtain ⟨g1, g2⟩ := Bool.and_eq_true_iff.mp hl
      obtain ⟨a, xs, rfl, h1, r1⟩ := vy.tup S.same
      have vx' : Rep X.K z.T F m x v := by
        cases vx with
        | of r => exact r
        | _ => simp [flatD] at g1
      refine .inr (.inl ⟨a, xs, rfl, .inr h1, flat_V vx' g1, flats_V r1 g2, ?_⟩)
      rw [anyFlat vx' g1 r1 g2]
      exact k.now S .bl q
    · cases e
  · injection e with e
    subst e
    refine .inr (.inr (.inl ⟨_, _, vx.str, vy.str, ?_⟩))
    have e2 : ∀ t : Tx, (tx t).cps.toList = t := fun t => by simp [tx]
    rw [e2, memTx_iff]
    exact k.now S .bl q
  · split at e
    · rename_i kvs _ kk hk
      injection e with e
      subst e
      obtain ⟨a, vs, rfl, h1, r1⟩ := vy.dict S.same
      refine .inr (.inr (.inr ⟨a, _, rfl, .inl ⟨vs, kk.key, h1, toK_V vx hk, rfl⟩, ?_⟩))
      rw [getK_some r1]
      exact k.now S .bl q
    · cases e
  · cases e
/-! ### one item -/
def rIxD : R2 := fun x y H Q => ∃ a kvs k v, x = .ref a ∧ Rd H a (.dK kvs) ∧ y = kV k ∧ valV kvs k = some v ∧ Q v H
theorem ix_dict (hu : X.A.units + 1 < cLine) : IxR X rIxD := by
  intro value slice pins s σ H x y v u Q I rx ry ⟨a, kvs, k, w, e, ea, ey, ev, q⟩ hs
  subst e
  obtain rfl : v = Value.ref a := rx
  have g : DGet H a y (some w) := .inl ⟨kvs, k, ea, ey, ev.symm⟩
  exact tail_any (dict_typeIs I g) PySem.F.slot_dict_getitem.lookup (d_getItem hu I g ry fun w' s3 I3 rw' => ⟨w, H, I3, rw', q⟩) hs
theorem IxR.or {r r' : R2} (h : IxR X r) (h' : IxR X r') : IxR X (fun x y H Q => r x y H Q ∨ r' x y H Q) := by
  intro value slice pins s σ H x y v u Q I rx ry q hs
  rcases q with q | q
  · exact h value slice pins s σ H x y v u Q I rx ry q hs
  · exact h' value slice pins s σ H x y v u Q I rx ry q hs
def nthG {α : Type} : List α → Nat → Option α
  | [], _ => none
  | x :: _, 0 => some x
  | _ :: r, n + 1 => nthG r n
theorem nthG_eq {α : Type} : ∀ (xs : List α) (n : Nat), nthG xs n = xs[n]?
  | [], _ => by simp [nthG]
  | x :: r, 0 => by simp [nthG]
  | x :: r, n + 1 => by simpa [nthG] using nthG_eq r n
/-- xs[i], i of any sign -/
def atG {α : Type} (xs : List α) (i : Int) : Option α := match i with
  | .ofNat n => nthG xs n
  | .negSucc n => match Nat.ble (n + 1) xs.length with
    | true => nthG xs (xs.length - (n + 1))
    | false => none
theorem atG_eq {α : Type} {xs : List α} {i : Int} {x : α} (h : atG xs i = some x) : atI xs i = some x := by
  unfold atG at h
  split at h
  · rename_i n
    rw [nthG_eq] at h
    exact atI_nat h
  · rename_i n
    split at h
    · rename_i hb
      have hle := Nat.le_of_ble_eq_true hb
      rw [nthG_eq] at h
      unfold atI ixN
      have e0 : ¬ (0 : Int) ≤ Int.negSucc n := by omega
      have e1 : -((xs.length : Nat) : Int) ≤ Int.negSucc n := by omega
      have e2 : (Int.negSucc n + (xs.length : Int)).toNat = xs.length - (n + 1) := by omega
      rw [if_neg e0, if_pos e1, e2]
      exact h
    · cases h
/-- d[t], t a tuple -/
def rIxP (K : PySem.W.Frag) : R2 := fun x y H Q => ∃ a kvs b k v, x = .ref a ∧ Rd H a (.dT kvs) ∧ y = .ref b ∧ SqT K H b (k.map kV) ∧ valV kvs k = some v ∧ Q v H
theorem ix_dictP (hu : X.A.units + 1 < cLine) : IxR X (rIxP X.K) := by
  intro value slice pins s σ H x y v u Q I rx ry ⟨a, kvs, b, k, w, e, ea, ey, eb, ev, q⟩ hs
  subst e
  obtain rfl : v = Value.ref a := rx
  subst ey
  obtain rfl : u = Value.ref b := ry
  obtain ⟨z, hd, xs, rel, dd⟩ := dt_rd I.hok ea
  obtain ⟨its, r, ⟨o, h1, h2, n, h3⟩, hz⟩ := I.tuple eb
  have key : (tupleKind (mixKind X.prog X.w)).is s.heap k b := ⟨o, its.toArray, n, h1, h2, h3, by simpa using items_are r⟩
  obtain ⟨w', hw, rw'⟩ := RelO.some_of (v := w) (o := (atKey xs k).map (·.2)) (by rw [← ev]; exact rel.val k)
  obtain ⟨p, hp, hp2⟩ := Option.map_eq_some_iff.mp hw
  refine tail_any dd.typeIs PySem.F.slot_dict_getitem.lookup (wpAny_getItem_heap (tupleKind_room_in1 hu) key dd hp ?_) hs
  rw [hp2]
  exact ⟨w, H, I.tok _, rw', q⟩
def toKs : List D → Option (List DK)
  | [] => some []
  | x :: r => match toK x, toKs r with
    | some k, some ks => some (k :: ks)
    | _, _ => none
def getP : List (List DK) → List D → List DK → Option D
  | k :: ks, d :: ds, q => match decide (k = q) with
    | true => some d
    | false => getP ks ds q
  | _, _, _ => none
theorem keys_inj : ∀ {a b : List DK}, a.map DK.key = b.map DK.key → a = b
  | [], [], _ => rfl
  | [], _ :: _, h => by cases h
  | _ :: _, [], h => by cases h
  | x :: a, y :: b, h => by
    injection h with h1 h2
    rw [key_inj.mp h1, keys_inj h2]
theorem getP_V {K : PySem.W.Frag} {T : Tab} {F : Hp} {m : List Addr} {q : List DK} {d : D} : ∀ {ks : List (List DK)} {ds : List D} {vs : List V}, Reps K T F m ds vs → getP ks ds q = some d → ∃ v, valV ((keysK ks).zip vs) (q.map DK.key) = some v ∧ Rep K T F m d v
  | [], _, _, _, e => by simp [getP] at e
  | _ :: _, [], _, _, e => by simp [getP] at e
  | k :: ks, _, _, .cons (d := x) (v := v) (vs := vs) h r, e => by
    unfold getP at e
    have z : (keysK (k :: ks)).zip (v :: vs) = (k.map DK.key, v) :: (keysK ks).zip vs := rfl
    rw [z]
    by_cases w : k = q
    · subst w
      simp only [decide_true, Option.some.injEq] at e
      subst e
      exact ⟨v, valV_pos rfl, h⟩
    · simp only [w, decide_false] at e
      rw [valV_neg (fun z => w (keys_inj z))]
      exact getP_V r e
theorem toKs_V {K : PySem.W.Frag} {T : Tab} {F : Hp} {m : List Addr} {H : Hp} : ∀ {ds : List D} {vs : List V} {ks : List DK}, Reps K T F m ds vs → toKs ds = some ks → vs = (ks.map DK.key).map kV
  | _, _, ks, .nil, e => by
    injection e with e
    subst e
    rfl
  | _, _, ks, .cons h r, e => by
    unfold toKs at e
    split at e
    · rename_i k ks' h1 h2
      injection e with e
      subst e
      rw [toK_V (H := H) (.of h) h1, toKs_V (H := H) r h2]
      rfl
    · cases e
def ixD : D → D → Option D
  | .lst xs, .int i => atG xs i
  | .tup xs, .int i => atG xs i
  | .str s, .int i => match lineB s.length, atG s i with
    | true, some c => some (.str [c])
    | _, _ => none
  | .scr xs, .int i => match atG xs i with
    | some k => some (.int k)
    | none => none
  | .dct kvs, k => match toK k with
    | some k => getK kvs k
    | none => none
  | .dcp ks ds, .tup xs => match toKs xs with
    | some q => getP ks ds q
    | none => none
  | _, _ => none
def rIxAll (K : PySem.W.Frag) : R2 := fun x y H Q => rIxL K x y H Q ∨ rIxT K x y H Q ∨ rIxS x y H Q ∨ rIxD x y H Q ∨ rIxP K x y H Q
theorem ixAll (hu : X.A.units + 1 < cLine) : IxR X (rIxAll X.K) := IxR.or ix_list (IxR.or ix_tup (IxR.or ix_str (IxR.or (ix_dict hu) (ix_dictP hu))))
theorem Reps.at_ {K : PySem.W.Frag} {T : Tab} {F : Hp} {m : List Addr} {ds : List D} {vs : List V} {i : Int} {d : D} (r : Reps K T F m ds vs) (h : atG ds i = some d) : ∃ v, atI vs i = some v ∧ Rep K T F m d v := by
  have h2 := atG_eq h
  unfold atI at h2 ⊢
  rw [← r.length]
  cases q : ixN ds.length i with
  | none => rw [q] at h2; cases h2
  | some j =>
    rw [q] at h2
    exact r.get h2
theorem okIx : OpD X z (rIxAll X.K) ixD := by
  intro F m μ ρ σ H x y v u d Qd Q S vx vy e q k
  unfold ixD at e
  split at e
  · obtain ⟨a, xs, rfl, h1, r1⟩ := vx.list S.same
    obtain ⟨w, h2, r2⟩ := r1.at_ e
    exact .inl ⟨a, xs, _, w, rfl, vy.int, SqL.of h1, h2, k.now S r2 q⟩
  · obtain ⟨a, xs, rfl, h1, r1⟩ := vx.tup S.same
    obtain ⟨w, h2, r2⟩ := r1.at_ e
    exact .inr (.inl ⟨a, xs, _, w, rfl, vy.int, h1, h2, k.now S r2 q⟩)
  · rename_i s i
    split at e
    · rename_i c h1 h2
      injection e with e
      subst e
      refine .inr (.inr (.inl ⟨_, i, c, vx.str, vy.int, by rw [tx_len]; exact lineB_le h1, ?_, k.now S .str q⟩))
      have e2 : (tx s).cps.toList = s := by simp [tx]
      rw [e2]
      exact atG_eq h2
    · cases e
  · split at e
    · rename_i xs i _ j h1
      injection e with e
      subst e
      obtain ⟨a, rfl, h2⟩ := vx.scr S.same
      refine .inl ⟨a, _, i, .int j, rfl, vy.int, h2, ?_, k.now S .int q⟩
      have h3 := atG_eq h1
      unfold atI at h3 ⊢
      rw [List.length_map]
      cases q1 : ixN xs.length i with
      | none => rw [q1] at h3; cases h3
      | some j' =>
        rw [q1] at h3
        show (xs.map V.int)[j']? = some (.int j)
        rw [List.getElem?_map]
        have h4 : xs[j']? = some j := h3
        rw [h4] <;> rfl
    · cases e
  · split at e
    · rename_i kvs _ kk hk
      obtain ⟨a, vs, rfl, h1, r1⟩ := vx.dict S.same
      obtain ⟨w, h2, r2⟩ := (getK_V (k := kk) r1).1 d e
      exact .inr (.inr (.inr (.inl ⟨a, vs, _, w, rfl, h1, toK_V vy hk, h2, k.now S r2 q⟩)))
    · cases e
  · split at e
    · rename_i ks ds xs q hq
      obtain ⟨a, vs, rfl, h1, _, r1⟩ := vx.dictP S.same
      obtain ⟨b, us, rfl, h2, r2⟩ := vy.tup S.same
      obtain ⟨w, h3, r3⟩ := getP_V r1 e
      have h4 := toKs_V (H := H) r2 hq
      subst h4
      exact .inr (.inr (.inr (.inr ⟨a, _, b, _, w, rfl, h1, rfl, h2, h3, k.now S r3 (by assumption)⟩)))
    · cases e
  · cases e
theorem de_ix (hu : X.A.units + 1 < cLine) (ha : DE X z a wa) (hb : DE X z b wb) (hs : PlainIx b := by exact fun _ _ => rfl) : DE X z (.Subscript a b pos) (w2 ixD wa wb) := fun Wd tk =>
  peI (pe_ix (ixAll hu) (ha Wd tk) (hb Wd tk) hs) fun σ H Q h => op_run okIx h
end
end Pk

/-! The data layer, part G: tests, and / or / not, slices, displays, arguments. -/
namespace Pk
open PySem PySem.Spec PyProof.Rows L2

/-! ### truth -/
def nilB {α : Type} : List α → Bool
  | [] => true
  | _ => false
def truD : D → Option Bool
  | .non => some false
  | .bl b => some b
  | .int i => some (!decide (i = 0))
  | .str s => match lineB s.length with
    | true => some (!nilB s)
    | false => none
  | .lst xs => some (!nilB xs)
  | .tup xs => some (!nilB xs)
  | _ => none
section
variable {K : PySem.W.Frag} {T : Tab} {F : Hp} {m : List Addr} {H : Hp}
theorem Reps.emp {ds : List D} {vs : List V} (r : Reps K T F m ds vs) : nilB ds = vs.isEmpty := by cases r <;> rfl
theorem RepK.emp {ds : List (DK × D)} {vs : List (Key × V)} (r : RepK K T F m ds vs) : nilB ds = vs.isEmpty := by cases r <;> rfl
theorem truV_of (s : Same F H) {d : D} {v : V} {k : Bool} (r : Vw K T F m H d v) (h : truD d = some k) : TruV K v H k := by
  unfold truD at h
  split at h
  · injection h with h
    subst h
    rw [r.non]
    exact rfl
  · injection h with h
    subst h
    rw [r.bl]
    exact rfl
  · injection h with h
    subst h
    rename_i i
    rw [r.int]
    show (!decide (i = 0)) = (i != 0)
    rw [bne, Bool.beq_eq_decide_eq]
  · split at h
    · rename_i s _ hl
      injection h with h
      subst h
      rw [r.str]
      refine ⟨by rw [tx_len]; exact lineB_le hl, ?_⟩
      rw [tx_len]
      cases s with
      | nil => rfl
      | cons c s =>
        show true = ((((c :: s).length : Nat) : Int) != 0)
        have : (((c :: s).length : Nat) : Int) ≠ 0 := by simp only [List.length_cons]; omega
        simpa using this
    · cases h
  · injection h with h
    subst h
    obtain ⟨a, vs, rfl, h1, r1⟩ := r.list s
    exact .inl ⟨vs, SqL.of h1, by rw [r1.emp]⟩
  · injection h with h
    subst h
    obtain ⟨a, vs, rfl, h1, r1⟩ := r.tup s
    exact .inr (.inl ⟨vs, h1, by rw [r1.emp]⟩)
  · cases h
end

/-! ### tests -/
abbrev WT := Slots → Sto → (Bool → Sto → Prop) → QX → Prop
def tDT (K : PySem.W.Frag) (z : Zx) (Wd : WXd) (w : WT) : TT := fun σ H Q => ∃ F m μ ρ Qd, SimZ K z F m μ ρ σ H ∧ w ρ μ Qd (fun x μ' => Wd x ρ μ') ∧
  ∀ F' m' μ' b H', Ext F m H F' m' H' → SimZ K z F' m' μ' ρ σ H' → Qd b μ' → Q b H'
def DT (X : Cx) (z : Zx) (e : Expr) (w : WT) : Prop := ∀ Wd, Takes X (XW X.K z Wd) → PT X e (tDT X.K z Wd w)
def DW (X : Cx) (z : Zx) (e : Expr) (w : WT) : Prop := ∀ Wd, Takes X (XW X.K z Wd) → PW X e (tDT X.K z Wd w)
theorem ptI {X : Cx} {e : Expr} {t t' : TT} (h : PT X e t) (f : ∀ σ H Q, t' σ H Q → t σ H Q) : PT X e t' := ⟨fun pins s σ H Q I q => h.run pins s σ H Q I (f _ _ _ q)⟩
theorem pwI {X : Cx} {e : Expr} {t t' : TT} (h : PW X e t) (f : ∀ σ H Q, t' σ H Q → t σ H Q) : PW X e t' := ⟨fun wh pins s σ H Q I q => h.run wh pins s σ H Q I (f _ _ _ q)⟩
/-- a value as a test -/
def tTru (w : WE) : WT := fun ρ μ Q E => w ρ μ (fun x μ1 => match truD (look μ1 x) with
  | some b => Q b μ1
  | none => False) E
/-- an answer True or False as a test -/
def tBl (w : WE) : WT := fun ρ μ Q E => w ρ μ (fun x μ1 => match x with
  | .bl b => Q b μ1
  | _ => False) E
def tAn (t u : WT) : WT := fun ρ μ Q E => t ρ μ (fun b μ1 => match b with
  | true => u ρ μ1 Q E
  | false => Q false μ1) E
def tOr' (t u : WT) : WT := fun ρ μ Q E => t ρ μ (fun b μ1 => match b with
  | true => Q true μ1
  | false => u ρ μ1 Q E) E
def tNo (t : WT) : WT := fun ρ μ Q E => t ρ μ (fun b μ1 => Q (!b) μ1) E
def wAnd (wa wb : WE) : WE := fun ρ μ Q E => wa ρ μ (fun x μ1 => match truD (look μ1 x) with
  | some true => wb ρ μ1 Q E
  | some false => Q x μ1
  | none => False) E
def wOr (wa wb : WE) : WE := fun ρ μ Q E => wa ρ μ (fun x μ1 => match truD (look μ1 x) with
  | some true => Q x μ1
  | some false => wb ρ μ1 Q E
  | none => False) E
def wNot (wa : WE) : WE := fun ρ μ Q E => wa ρ μ (fun x μ1 => match truD (look μ1 x) with
  | some b => Q (.bl (!b)) μ1
  | none => False) E
def wIf (t : WT) (wa wb : WE) : WE := fun ρ μ Q E => t ρ μ (fun b μ1 => match b with
  | true => wa ρ μ1 Q E
  | false => wb ρ μ1 Q E) E
def wCh (f g : D → D → Option D) (wa wb wc : WE) : WE := fun ρ μ Q E => wa ρ μ (fun x μ1 => wb ρ μ1 (fun y μ2 => match f (look μ2 x) (look μ2 y) with
  | some (.bl true) => wc ρ μ2 (fun u μ3 => match g (look μ3 y) (look μ3 u) with
    | some d => Q d μ3
    | none => False) E
  | some (.bl false) => Q (.bl false) μ2
  | _ => False) E) E
section
variable {X : Cx} {z : Zx} {pos : Pos} {a b c e : Expr} {wa wb wc w : WE} {t u : WT} {rest : List Expr}
theorem dt_truth (h : DE X z e w) (he : ∀ whole, isTrue e X.env whole = (do let v ← whole; standAt e.pos; holding [v] (truthy v)) := by intro _; rfl) : DT X z e (tTru w) := fun Wd tk =>
  ptI (pt_truth (h Wd tk) he) fun σ H Q ⟨F, m, μ, ρ, Qd, S, h, k⟩ => ⟨F, m, μ, ρ, _, S, h, fun F1 m1 μ1 d1 v1 H1 x1 S1 r1 q1 => by
    cases q : truD (look μ1 d1) with
    | none =>
      rw [q] at q1
      exact q1.elim
    | some b =>
      rw [q] at q1
      exact ⟨b, truV_of S1.same (S1.view r1) q, k _ _ _ _ _ x1 S1 q1⟩⟩
theorem test_run {r : R2} {f : D → D → Option D} {Wd : WXd} (ok : OpD X z r f) {σ : L2.St} {H : Hp} {Q : Bool → Hp → Prop} (h : tDT X.K z Wd (tBl (w2 f wa wb)) σ H Q) : tTest (tOp r (tD X.K z Wd wa) (tD X.K z Wd wb)) σ H Q := by
  obtain ⟨F, m, μ, ρ, Qd, S, h, k⟩ := h
  refine op_run ok ⟨F, m, μ, ρ, _, S, h, fun F1 m1 μ1 d1 v1 H1 x1 S1 r1 q1 => ?_⟩
  cases r1 with
  | bl => exact ⟨_, rfl, k _ _ _ _ _ x1 S1 q1⟩
  | _ => exact q1.elim
theorem dt_cmp {op : CmpOp} {r : R2} {f : D → D → Option D} (ho : OpR X (compareOp op) r) (ok : OpD X z r f) (hm : behindInMarks op b = false) (ha : DE X z a wa) (hb : DE X z b wb) : DT X z (.Compare a [op] [b] pos) (tBl (w2 f wa wb)) := fun Wd tk =>
  ptI (pt_cmpR ho (ha Wd tk) (hb Wd tk) hm) fun σ H Q h => test_run ok h
theorem okIn1 : OpD X z (rInAll X.K fun b => b) inD := okIn (fun b => b) fun x y d e => by
  unfold inD at e
  split at e
  · rename_i b h
    injection e with e
    exact ⟨b, h, e.symm⟩
  · cases e
theorem okNin1 : OpD X z (rInAll X.K fun b => !b) ninD := okIn (fun b => !b) fun x y d e => by
  unfold ninD at e
  split at e
  · rename_i b h
    injection e with e
    exact ⟨b, h, e.symm⟩
  · cases e
theorem DW.dt (h : DW X z e t) : DT X z e t := fun Wd tk => (h Wd tk).pt
theorem dw_and1 (ha : DT X z a t) : DW X z (.BoolOp .And [a] pos) t := fun Wd tk => pw_and1 (ha Wd tk)
theorem dw_or1 (ha : DT X z a t) : DW X z (.BoolOp .Or [a] pos) t := fun Wd tk => pw_or1 (ha Wd tk)
theorem dw_and (ha : DT X z a t) (hb : DW X z (.BoolOp .And (b :: rest) pos) u) : DW X z (.BoolOp .And (a :: b :: rest) pos) (tAn t u) := fun Wd tk =>
  pwI (pw_and (ha Wd tk) (hb Wd tk)) fun σ H Q ⟨F, m, μ, ρ, Qd, S, h, k⟩ => ⟨F, m, μ, ρ, _, S, h, fun F1 m1 μ1 b H1 x1 S1 q1 => by
    cases b with
    | true =>
      rw [if_pos rfl]
      exact ⟨F1, m1, μ1, ρ, Qd, S1, q1, fun F2 m2 μ2 b H2 x2 => k F2 m2 μ2 b H2 (x1.trans x2)⟩
    | false =>
      rw [if_neg (by decide)]
      exact k _ _ _ _ _ x1 S1 q1⟩
theorem dw_or (ha : DT X z a t) (hb : DW X z (.BoolOp .Or (b :: rest) pos) u) : DW X z (.BoolOp .Or (a :: b :: rest) pos) (tOr' t u) := fun Wd tk =>
  pwI (pw_or (ha Wd tk) (hb Wd tk)) fun σ H Q ⟨F, m, μ, ρ, Qd, S, h, k⟩ => ⟨F, m, μ, ρ, _, S, h, fun F1 m1 μ1 b H1 x1 S1 q1 => by
    cases b with
    | false =>
      rw [if_neg (by decide)]
      exact ⟨F1, m1, μ1, ρ, Qd, S1, q1, fun F2 m2 μ2 b H2 x2 => k F2 m2 μ2 b H2 (x1.trans x2)⟩
    | true =>
      rw [if_pos rfl]
      exact k _ _ _ _ _ x1 S1 q1⟩
theorem dt_not (ha : DT X z a t) : DT X z (.UnaryOp .Not a pos) (tNo t) := fun Wd tk =>
  ptI (pt_not (ha Wd tk)) fun σ H Q ⟨F, m, μ, ρ, Qd, S, h, k⟩ => ⟨F, m, μ, ρ, _, S, h, fun F1 m1 μ1 b H1 x1 S1 q1 => k _ _ _ _ _ x1 S1 q1⟩
theorem de_one {op} (h : DE X z a w) : DE X z (.BoolOp op [a] pos) w := fun Wd tk => pe_one (h Wd tk)
theorem de_and (ha : DE X z a wa) (hb : DE X z (.BoolOp .And (b :: rest) pos) wb) : DE X z (.BoolOp .And (a :: b :: rest) pos) (wAnd wa wb) := fun Wd tk =>
  peI (pe_andT (ha Wd tk) (hb Wd tk)) fun σ H Q ⟨F, m, μ, ρ, Qd, S, h, k⟩ => ⟨F, m, μ, ρ, _, S, h, fun F1 m1 μ1 d1 v1 H1 x1 S1 r1 q1 => by
    cases q : truD (look μ1 d1) with
    | none => rw [q] at q1; exact q1.elim
    | some b =>
      rw [q] at q1
      refine ⟨b, truV_of S1.same (S1.view r1) q, ?_⟩
      cases b with
      | true =>
        rw [if_pos rfl]
        exact ⟨F1, m1, μ1, ρ, Qd, S1, q1, fun F2 m2 μ2 d v H2 x2 => k F2 m2 μ2 d v H2 (x1.trans x2)⟩
      | false =>
        rw [if_neg (by decide)]
        exact k _ _ _ _ _ _ x1 S1 r1 q1⟩
theorem de_or (ha : DE X z a wa) (hb : DE X z (.BoolOp .Or (b :: rest) pos) wb) : DE X z (.BoolOp .Or (a :: b :: rest) pos) (wOr wa wb) := fun Wd tk =>
  peI (pe_orT (ha Wd tk) (hb Wd tk)) fun σ H Q ⟨F, m, μ, ρ, Qd, S, h, k⟩ => ⟨F, m, μ, ρ, _, S, h, fun F1 m1 μ1 d1 v1 H1 x1 S1 r1 q1 => by
    cases q : truD (look μ1 d1) with
    | none => rw [q] at q1; exact q1.elim
    | some b =>
      rw [q] at q1
      refine ⟨b, truV_of S1.same (S1.view r1) q, ?_⟩
      cases b with
      | false =>
        rw [if_neg (by decide)]
        exact ⟨F1, m1, μ1, ρ, Qd, S1, q1, fun F2 m2 μ2 d v H2 x2 => k F2 m2 μ2 d v H2 (x1.trans x2)⟩
      | true =>
        rw [if_pos rfl]
        exact k _ _ _ _ _ _ x1 S1 r1 q1⟩
theorem de_not (ha : DE X z a wa) : DE X z (.UnaryOp .Not a pos) (wNot wa) := fun Wd tk =>
  peI (pe_notT (ha Wd tk)) fun σ H Q ⟨F, m, μ, ρ, Qd, S, h, k⟩ => ⟨F, m, μ, ρ, _, S, h, fun F1 m1 μ1 d1 v1 H1 x1 S1 r1 q1 => by
    cases q : truD (look μ1 d1) with
    | none => rw [q] at q1; exact q1.elim
    | some b =>
      rw [q] at q1
      exact ⟨b, truV_of S1.same (S1.view r1) q, k _ _ _ _ _ _ x1 S1 .bl q1⟩⟩
theorem de_if (hc : DT X z c t) (ha : DE X z a wa) (hb : DE X z b wb) : DE X z (.IfExp c a b pos) (wIf t wa wb) := fun Wd tk =>
  peI (pe_ifExp (hc Wd tk) (ha Wd tk) (hb Wd tk)) fun σ H Q ⟨F, m, μ, ρ, Qd, S, h, k⟩ => ⟨F, m, μ, ρ, _, S, h, fun F1 m1 μ1 b H1 x1 S1 q1 => by
    cases b with
    | true =>
      rw [if_pos rfl]
      exact ⟨F1, m1, μ1, ρ, Qd, S1, q1, fun F2 m2 μ2 d v H2 x2 => k F2 m2 μ2 d v H2 (x1.trans x2)⟩
    | false =>
      rw [if_neg (by decide)]
      exact ⟨F1, m1, μ1, ρ, Qd, S1, q1, fun F2 m2 μ2 d v H2 x2 => k F2 m2 μ2 d v H2 (x1.trans x2)⟩⟩
theorem chain_run {r r' : R2} {f g : D → D → Option D} {Wd : WXd} (ok : OpD X z r f) (ok' : OpD X z r' g) {σ : L2.St} {H : Hp} {Q : VK} (h : tD X.K z Wd (wCh f g wa wb wc) σ H Q) :
    tChain r r' (tD X.K z Wd wa) (tD X.K z Wd wb) (tD X.K z Wd wc) σ H Q := by
  obtain ⟨F, m, μ, ρ, Qd, S, h, k⟩ := h
  refine ⟨F, m, μ, ρ, _, S, h, fun F1 m1 μ1 d1 v1 H1 x1 S1 r1 q1 => ⟨F1, m1, μ1, ρ, _, S1, q1, fun F2 m2 μ2 d2 v2 H2 x2 S2 r2 q2 => ?_⟩⟩
  cases e : f (look μ2 d1) (look μ2 d2) with
  | none => rw [e] at q2; exact q2.elim
  | some d =>
    rw [e] at q2
    have q3 : (match d with
      | .bl true => wc ρ μ2 (fun u μ3 => match g (look μ3 d2) (look μ3 u) with | some d => Qd d μ3 | none => False) (fun x μ' => Wd x ρ μ')
      | .bl false => Qd (.bl false) μ2
      | _ => False) := by
      cases d with
      | bl b => cases b <;> exact q2
      | _ => exact q2
    refine ok F2 m2 μ2 ρ σ H2 _ _ _ _ d (fun d' μ' => d' = d ∧ μ' = μ2) _ S2 (S2.view (r1.mono x2.gr)) (S2.view r2) e ⟨rfl, rfl⟩ fun F3 m3 μ3 d3 v3 H3 x3 S3 r3 q4 => ?_
    obtain ⟨e1, e2⟩ := q4
    subst e1 e2
    cases r3 with
    | bl =>
      rename_i b
      refine ⟨b, rfl, ?_⟩
      cases b with
      | true =>
        rw [if_pos rfl]
        refine ⟨F3, m3, _, ρ, _, S3, q3, fun F4 m4 μ4 d4 v4 H4 x4 S4 r4 q5 => ?_⟩
        cases e3 : g (look μ4 d2) (look μ4 d4) with
        | none => rw [e3] at q5; exact q5.elim
        | some d5 =>
          rw [e3] at q5
          exact ok' F4 m4 μ4 ρ σ H4 _ _ _ _ d5 Qd Q S4 (S4.view (r2.mono (x3.trans x4).gr)) (S4.view r4) e3 q5 fun F5 m5 μ5 d5 v5 H5 x5 => k F5 m5 μ5 d5 v5 H5 (x1.trans (x2.trans (x3.trans (x4.trans x5))))
      | false =>
        rw [if_neg (by decide)]
        exact k _ _ _ _ _ _ (x1.trans (x2.trans x3)) S3 .bl q3
    | _ => exact q3.elim
theorem de_chain {op op' : CmpOp} {r r' : R2} {f g : D → D → Option D} (ho : OpR X (compareOp op) r) (ok : OpD X z r f) (ho' : OpR X (compareOp op') r') (ok' : OpD X z r' g) (ha : DE X z a wa) (hb : DE X z b wb) (hc : DE X z c wc)
    (hm : lastMarks [op, op'] [b, c] = false := by with_unfolding_all rfl) : DE X z (.Compare a [op, op'] [b, c] pos) (wCh f g wa wb wc) := fun Wd tk =>
  peI (pe_chain ho ho' (ha Wd tk) (hb Wd tk) (hc Wd tk) hm) fun σ H Q h => chain_run ok ok' h
theorem dt_chain {op op' : CmpOp} {r r' : R2} {f g : D → D → Option D} (ho : OpR X (compareOp op) r) (ok : OpD X z r f) (ho' : OpR X (compareOp op') r') (ok' : OpD X z r' g) (ha : DE X z a wa) (hb : DE X z b wb) (hc : DE X z c wc)
    (hm : lastMarks [op, op'] [b, c] = false := by with_unfolding_all rfl) : DT X z (.Compare a [op, op'] [b, c] pos) (tBl (wCh f g wa wb wc)) := fun Wd tk =>
  ptI (pt_chain ho ho' (ha Wd tk) (hb Wd tk) (hc Wd tk) hm) fun σ H Q ⟨F, m, μ, ρ, Qd, S, h, k⟩ => chain_run ok ok' ⟨F, m, μ, ρ, _, S, h, fun F1 m1 μ1 d1 v1 H1 x1 S1 r1 q1 => by
    cases r1 with
    | bl => exact ⟨_, rfl, k _ _ _ _ _ x1 S1 q1⟩
    | _ => exact q1.elim⟩

/-! ### slices -/
abbrev WO := Slots → Sto → (Option Int → Sto → Prop) → QX → Prop
def tDO (K : PySem.W.Frag) (z : Zx) (Wd : WXd) (w : WO) : TO := fun σ H Q => ∃ F m μ ρ Qd, SimZ K z F m μ ρ σ H ∧ w ρ μ Qd (fun x μ' => Wd x ρ μ') ∧
  ∀ F' m' μ' o H', Ext F m H F' m' H' → SimZ K z F' m' μ' ρ σ H' → Qd o μ' → Q o H'
def DO (X : Cx) (z : Zx) (e : Option Expr) (w : WO) : Prop := ∀ Wd, Takes X (XW X.K z Wd) → PO X e (tDO X.K z Wd w)
theorem poI {X : Cx} {e : Option Expr} {t t' : TO} (h : PO X e t) (f : ∀ σ H Q, t' σ H Q → t σ H Q) : PO X e t' := ⟨fun pins s σ H Q I q => h.run pins s σ H Q I (f _ _ _ q)⟩
def oNo : WO := fun _ μ Q _ => Q none μ
def oYes (w : WE) : WO := fun ρ μ Q E => w ρ μ (fun x μ1 => match x with
  | .int i => Q (some i) μ1
  | _ => False) E
theorem do_none : DO X z none oNo := fun Wd tk => poI po_none fun σ H Q ⟨F, m, μ, ρ, Qd, S, h, k⟩ => k _ _ _ _ _ (Ext.refl _ _ _) S h
theorem do_some (h : DE X z e w) : DO X z (some e) (oYes w) := fun Wd tk => poI (po_some (h Wd tk)) fun σ H Q ⟨F, m, μ, ρ, Qd, S, h, k⟩ => ⟨F, m, μ, ρ, _, S, h, fun F1 m1 μ1 d1 v1 H1 x1 S1 r1 q1 => by
  cases r1 with
  | int => exact ⟨_, rfl, k _ _ _ _ _ x1 S1 q1⟩
  | _ => exact q1.elim⟩
def cutG {α : Type} (xs : List α) (lo hi : Option Int) : List α := (xs.drop (HT.sIx xs.length 0 lo)).take (HT.sIx xs.length xs.length hi - HT.sIx xs.length 0 lo)
def slD : D → Option Int → Option Int → Option D
  | .lst xs, lo, hi => some (.lst (cutG xs lo hi))
  | .tup xs, lo, hi => some (.tup (cutG xs lo hi))
  | .scr xs, lo, hi => some (.lst ((cutG xs lo hi).map .int))
  | _, _, _ => none
def wSl (w : WE) (wl wh : WO) : WE := fun ρ μ Q E => w ρ μ (fun x μ1 => wl ρ μ1 (fun lo μ2 => wh ρ μ2 (fun hi μ3 => match slD (look μ3 x) lo hi with
  | some d => Q d μ3
  | none => False) E) E) E
theorem Reps.cut {K : PySem.W.Frag} {T : Tab} {F : Hp} {m : List Addr} {ds : List D} {vs : List V} (r : Reps K T F m ds vs) (lo hi : Option Int) : Reps K T F m (cutG ds lo hi) (cutV vs lo hi) := by
  unfold cutG cutV
  rw [r.length]
  exact (r.drop _).take _
theorem cut_whole {α : Type} {xs : List α} {lo hi : Option Int} (h1 : HT.sIx xs.length 0 lo = 0) (h2 : HT.sIx xs.length xs.length hi = xs.length) : cutG xs lo hi = xs := by
  unfold cutG
  rw [h1, h2]
  simp
theorem reps_ints {K : PySem.W.Frag} {T : Tab} {F : Hp} {m : List Addr} : ∀ ns : List Int, Reps K T F m (ns.map .int) (ns.map V.int)
  | [] => .nil
  | n :: r => .cons .int (reps_ints r)
theorem cut_map {ns : List Int} {lo hi : Option Int} : cutV (ns.map V.int) lo hi = (cutG ns lo hi).map V.int := by
  unfold cutV cutG
  rw [List.length_map, ← List.map_drop, ← List.map_take]
theorem de_slice {lo hi : Option Expr} {wl wh : WO} {p2 : Pos} (h : DE X z e w) (hl : DO X z lo wl) (hh : DO X z hi wh) : DE X z (.Subscript e (.Slice lo hi none p2) pos) (wSl w wl wh) := fun Wd tk =>
  peI (pe_slice (sl_list.or sl_tupA) (h Wd tk) (hl Wd tk) (hh Wd tk)) fun σ H Q ⟨F, m, μ, ρ, Qd, S, h, k⟩ =>
    ⟨F, m, μ, ρ, _, S, h, fun F1 m1 μ1 d1 v1 H1 x1 S1 r1 q1 => ⟨F1, m1, μ1, ρ, _, S1, q1, fun F2 m2 μ2 lo H2 x2 S2 q2 => ⟨F2, m2, μ2, ρ, _, S2, q2, fun F3 m3 μ3 hi H3 x3 S3 q3 => by
      have r3 := S3.view (r1.mono (x2.trans x3).gr)
      have kk : Fin X.K z F3 m3 H3 ρ σ Qd Q := fun F4 m4 μ4 d4 v4 H4 x4 => k F4 m4 μ4 d4 v4 H4 (x1.trans (x2.trans (x3.trans x4)))
      cases e : slD (look μ3 d1) lo hi with
      | none => rw [e] at q3; exact q3.elim
      | some d =>
        rw [e] at q3
        generalize look μ3 d1 = dd at *
        unfold slD at e
        split at e
        · injection e with e
          subst e
          obtain ⟨a, vs, rfl, h1, r4⟩ := r3.list S3.same
          exact .inl ⟨a, vs, rfl, SqL.of h1, fun p hp => kk.lst S3 hp (r4.cut lo hi) q3⟩
        · injection e with e
          subst e
          obtain ⟨a, vs, rfl, h1, r4⟩ := r3.tup S3.same
          refine .inr ⟨a, vs, rfl, h1, fun ⟨e1, e2⟩ => ?_, fun _ p hp => kk.tup S3 hp (r4.cut lo hi) q3⟩
          rw [← r4.length] at e1 e2
          rw [cut_whole e1 e2] at q3
          cases r3 with | of r3 => exact kk.now S3 r3 q3
        · injection e with e
          subst e
          obtain ⟨a, rfl, h1⟩ := r3.scr S3.same
          refine .inl ⟨a, _, rfl, h1, fun p hp => ?_⟩
          rw [cut_map]
          exact kk.lst S3 hp (reps_ints _) q3
        · cases e⟩⟩⟩

/-! ### arguments, displays -/
abbrev WA := Slots → Sto → (List D → Sto → Prop) → QX → Prop
def tDA (K : PySem.W.Frag) (z : Zx) (Wd : WXd) (w : WA) : TA := fun σ H Q => ∃ F m μ ρ Qd, SimZ K z F m μ ρ σ H ∧ w ρ μ Qd (fun x μ' => Wd x ρ μ') ∧
  ∀ F' m' μ' ds vs H', Ext F m H F' m' H' → SimZ K z F' m' μ' ρ σ H' → Reps K z.T F' m' ds vs → Qd ds μ' → Q vs H'
def DA (X : Cx) (z : Zx) (es : List Expr) (w : WA) : Prop := ∀ Wd, Takes X (XW X.K z Wd) → PA X es (tDA X.K z Wd w)
theorem paI {X : Cx} {e : List Expr} {t t' : TA} (h : PA X e t) (f : ∀ σ H Q, t' σ H Q → t σ H Q) : PA X e t' := ⟨fun pos pins s σ H Q I q => h.run pos pins s σ H Q I (f _ _ _ q)⟩
def aNil : WA := fun _ μ Q _ => Q [] μ
def aCons (w : WE) (r : WA) : WA := fun ρ μ Q E => w ρ μ (fun x μ1 => r ρ μ1 (fun xs μ2 => Q (x :: xs) μ2) E) E
variable {es : List Expr} {wr : WA}
theorem da_nil : DA X z [] aNil := fun Wd tk => paI pa_nil fun σ H Q ⟨F, m, μ, ρ, Qd, S, h, k⟩ => k _ _ _ _ _ _ (Ext.refl _ _ _) S .nil h
theorem da_cons (h : DE X z e w) (hr : DA X z es wr) (hs : starEach (e :: es) X.env = (false, eval e X.env) :: starEach es X.env := by rfl) : DA X z (e :: es) (aCons w wr) := fun Wd tk =>
  paI (pa_cons (h Wd tk) (hr Wd tk) hs) fun σ H Q ⟨F, m, μ, ρ, Qd, S, h, k⟩ => ⟨F, m, μ, ρ, _, S, h, fun F1 m1 μ1 d1 v1 H1 x1 S1 r1 q1 => ⟨F1, m1, μ1, ρ, _, S1, q1, fun F2 m2 μ2 ds vs H2 x2 S2 r2 q2 =>
    k _ _ _ _ _ _ (x1.trans x2) S2 (.cons (r1.mono x2.gr) r2) q2⟩⟩
def wTup (w : WA) : WE := fun ρ μ Q E => w ρ μ (fun xs μ1 => match lineB xs.length with
  | true => Q (.tup xs) μ1
  | false => False) E
def wLst (w : WA) : WE := fun ρ μ Q E => w ρ μ (fun xs μ1 => match lineB xs.length with
  | true => Q (.lst xs) μ1
  | false => False) E
theorem de_tup {x1} (h : DA X z es wr) : DE X z (.Tuple es x1 pos) (wTup wr) := fun Wd tk =>
  peI (pe_tup (h Wd tk)) fun σ H Q ⟨F, m, μ, ρ, Qd, S, h, k⟩ => ⟨F, m, μ, ρ, _, S, h, fun F1 m1 μ1 ds vs H1 x1 S1 r1 q1 => by
    cases e : lineB ds.length with
    | false => rw [e] at q1; exact q1.elim
    | true =>
      rw [e] at q1
      refine ⟨by rw [← r1.length]; exact lineB_le e, fun p hp => ?_⟩
      have kk : Fin X.K z F1 m1 H1 ρ σ Qd Q := fun F4 m4 μ4 d4 v4 H4 x4 => k F4 m4 μ4 d4 v4 H4 (x1.trans x4)
      exact kk.tup S1 hp r1 q1⟩
theorem de_lst (h : DA X z es wr) : DE X z (.List es pos) (wLst wr) := fun Wd tk =>
  peI (pe_lst (h Wd tk)) fun σ H Q ⟨F, m, μ, ρ, Qd, S, h, k⟩ => ⟨F, m, μ, ρ, _, S, h, fun F1 m1 μ1 ds vs H1 x1 S1 r1 q1 => by
    cases e : lineB ds.length with
    | false => rw [e] at q1; exact q1.elim
    | true =>
      rw [e] at q1
      refine ⟨by rw [← r1.length]; exact lineB_le e, fun p hp => ?_⟩
      have kk : Fin X.K z F1 m1 H1 ρ σ Qd Q := fun F4 m4 μ4 d4 v4 H4 x4 => k F4 m4 μ4 d4 v4 H4 (x1.trans x4)
      exact kk.lst S1 hp r1 q1⟩
end
end Pk

/-! The data layer, part H: statements, targets, loops, comprehensions. -/
namespace Pk
open PySem PySem.Spec PyProof.Rows L2

/-! ### ends, statements -/
structure DEnds where
  nx : Slots → Sto → Prop
  rt : QD
  bk : Slots → Sto → Prop
  ct : Slots → Sto → Prop
  ex : WXd
abbrev WS := DEnds → Slots → Sto → Prop
structure FinS (K : PySem.W.Frag) (z : Zx) (F : Hp) (m : List Addr) (H : Hp) (De : DEnds) (Dd : Ends) : Prop where
  nx : ∀ F' m' μ' ρ' σ' H', Ext F m H F' m' H' → SimZ K z F' m' μ' ρ' σ' H' → De.nx ρ' μ' → Dd.nx σ' H'
  rt : ∀ F' m' μ' ρ' σ' d v H', Ext F m H F' m' H' → SimZ K z F' m' μ' ρ' σ' H' → Rep K z.T F' m' d v → De.rt d μ' → Dd.rt v H'
  bk : ∀ F' m' μ' ρ' σ' H', Ext F m H F' m' H' → SimZ K z F' m' μ' ρ' σ' H' → De.bk ρ' μ' → Dd.bk σ' H'
  ct : ∀ F' m' μ' ρ' σ' H', Ext F m H F' m' H' → SimZ K z F' m' μ' ρ' σ' H' → De.ct ρ' μ' → Dd.ct σ' H'
theorem FinS.on {K : PySem.W.Frag} {z : Zx} {F F' : Hp} {m m' : List Addr} {H H' : Hp} {De : DEnds} {Dd : Ends} (k : FinS K z F m H De Dd) (x : Ext F m H F' m' H') : FinS K z F' m' H' De Dd :=
  ⟨fun _ _ _ _ _ _ y => k.nx _ _ _ _ _ _ (x.trans y), fun _ _ _ _ _ _ _ _ y => k.rt _ _ _ _ _ _ _ _ (x.trans y), fun _ _ _ _ _ _ y => k.bk _ _ _ _ _ _ (x.trans y), fun _ _ _ _ _ _ y => k.ct _ _ _ _ _ _ (x.trans y)⟩
def tDS (K : PySem.W.Frag) (z : Zx) (Wd : WXd) (w : WS) : TS := fun Dd σ H => ∃ F m μ ρ De, SimZ K z F m μ ρ σ H ∧ w De ρ μ ∧ De.ex = Wd ∧ FinS K z F m H De Dd
def DS (X : Cx) (z : Zx) (st : Stmt) (w : WS) : Prop := ∀ Wd, Takes X (XW X.K z Wd) → PS X st (tDS X.K z Wd w)
def DSs (X : Cx) (z : Zx) (st : List Stmt) (w : WS) : Prop := ∀ Wd, Takes X (XW X.K z Wd) → PSs X st (tDS X.K z Wd w)
theorem psI {X : Cx} {e : Stmt} {t t' : TS} (h : PS X e t) (f : ∀ D σ H, t' D σ H → t D σ H) : PS X e t' := ⟨fun pins s σ H D I q => h.run pins s σ H D I (f _ _ _ q)⟩
theorem pssI {X : Cx} {e : List Stmt} {t t' : TS} (h : PSs X e t) (f : ∀ D σ H, t' D σ H → t D σ H) : PSs X e t' := ⟨fun pins s σ H D I q => h.run pins s σ H D I (f _ _ _ q)⟩
def sNil : WS := fun De ρ μ => De.nx ρ μ
def sSeq (a b : WS) : WS := fun De ρ μ => a { De with nx := b De } ρ μ
def sRet (w : WE) : WS := fun De ρ μ => w ρ μ De.rt (fun x μ' => De.ex x ρ μ')
def sExpr (w : WE) : WS := fun De ρ μ => w ρ μ (fun _ μ1 => De.nx ρ μ1) (fun x μ' => De.ex x ρ μ')
def sIf (t : WT) (a b : WS) : WS := fun De ρ μ => t ρ μ (fun c μ1 => match c with
  | true => a De ρ μ1
  | false => b De ρ μ1) (fun x μ' => De.ex x ρ μ')
def sNever : WS := fun _ _ _ => False
section
variable {X : Cx} {z : Zx} {st : Stmt} {rest : List Stmt} {a b : WS} {e : Expr} {w : WE} {pos : Pos}
theorem dss_nil : DSs X z [] sNil := fun Wd tk => pssI pss_nil fun D σ H ⟨F, m, μ, ρ, De, S, h, _, k⟩ => k.nx _ _ _ _ _ _ (Ext.refl _ _ _) S h
theorem dss_cons (h1 : DS X z st a) (h2 : DSs X z rest b) : DSs X z (st :: rest) (sSeq a b) := fun Wd tk => pssI (pss_cons (h1 Wd tk) (h2 Wd tk)) fun D σ H ⟨F, m, μ, ρ, De, S, h, ex, k⟩ =>
  ⟨F, m, μ, ρ, _, S, h, ex, ⟨fun F' m' μ' ρ' σ' H' x S' q => ⟨F', m', μ', ρ', De, S', q, ex, k.on x⟩, k.rt, k.bk, k.ct⟩⟩
theorem dss_one (h1 : DS X z st a) : DSs X z [st] a := fun Wd tk => pssI (pss_one (h1 Wd tk)) fun _ _ _ h => h
theorem ds_ret (h : DE X z e w) : DS X z (.Return (some e) pos) (sRet w) := fun Wd tk => psI (ps_ret (h Wd tk)) fun D σ H ⟨F, m, μ, ρ, De, S, h, ex, k⟩ =>
  ⟨F, m, μ, ρ, _, S, by rw [← ex]; exact h, fun F' m' μ' d v H' x S' r q => k.rt _ _ _ _ _ _ _ _ x S' r q⟩
theorem ds_expr (h : DE X z e w) (hs : swapsWith e none pos.line X.env = pure false := by rfl) : DS X z (.Expr e pos) (sExpr w) := fun Wd tk => psI (ps_expr (h Wd tk) hs) fun D σ H ⟨F, m, μ, ρ, De, S, h, ex, k⟩ =>
  ⟨F, m, μ, ρ, _, S, by rw [← ex]; exact h, fun F' m' μ' d v H' x S' r q => k.nx _ _ _ _ _ _ x S' q⟩
theorem ds_if {c : Expr} {p q : List Stmt} {t : WT} (hc : DT X z c t) (ha : DSs X z p a) (hb : DSs X z q b) : DS X z (.If c p q pos) (sIf t a b) := fun Wd tk => psI (ps_if (hc Wd tk) (ha Wd tk) (hb Wd tk)) fun D σ H ⟨F, m, μ, ρ, De, S, h, ex, k⟩ =>
  ⟨F, m, μ, ρ, (fun c μ1 => match c with | true => a De ρ μ1 | false => b De ρ μ1), S, by rw [← ex]; exact h, fun F' m' μ' c H' x S' q => by
    cases c with
    | true =>
      rw [if_pos rfl]
      exact ⟨F', m', μ', ρ, De, S', q, ex, k.on x⟩
    | false =>
      rw [if_neg (by decide)]
      exact ⟨F', m', μ', ρ, De, S', q, ex, k.on x⟩⟩
theorem ds_never : DS X z st sNever := fun Wd tk => psI ps_never fun D σ H ⟨F, m, μ, ρ, De, S, h, _, k⟩ => h
end

/-! ### targets -/
abbrev GF := D → Slots → Option Slots
def Off (js : List Nat) (σ σ' : L2.St) : Prop := σ'.length = σ.length ∧ ∀ i, i ∉ js → σ'[i]? = σ[i]?
def tGD (K : PySem.W.Frag) (z : Zx) (g : GF) (js : List Nat) : TG := fun v σ H Q => ∃ F m μ ρ d ρ', SimZ K z F m μ ρ σ H ∧ Rep K z.T F m d v ∧ g d ρ = some ρ' ∧ ∀ σ', SimZ K z F m μ ρ' σ' H → Off js σ σ' → Q σ' H
def DG (X : Cx) (z : Zx) (tg : Expr) (g : GF) (js : List Nat) : Prop := PG X tg (tGD X.K z g js)
def gEach : List GF → List D → Slots → Option Slots
  | [], [], ρ => some ρ
  | g :: gs, d :: ds, ρ => match g d ρ with
    | some ρ1 => gEach gs ds ρ1
    | none => none
  | _, _, _ => none
def tGs (K : PySem.W.Frag) (z : Zx) (gs : List GF) (js : List Nat) : TGs := fun vs σ H Q => ∃ F m μ ρ ds ρ', SimZ K z F m μ ρ σ H ∧ Reps K z.T F m ds vs ∧ gEach gs ds ρ = some ρ' ∧ ∀ σ', SimZ K z F m μ ρ' σ' H → Off js σ σ' → Q σ' H
def DGs (X : Cx) (z : Zx) (es : List Expr) (gs : List GF) (js : List Nat) : Prop := PGs X es (tGs X.K z gs js)
def gN (i : Nat) : GF := fun d ρ => some (ρ.set i (some d))
def gT (gs : List GF) : GF := fun d ρ => match d with
  | .tup ds => gEach gs ds ρ
  | _ => none
section
variable {X : Cx} {z : Zx} {pos : Pos}
theorem pgI {X : Cx} {e : Expr} {t t' : TG} (h : PG X e t) (f : ∀ v σ H Q, t' v σ H Q → t v σ H Q) : PG X e t' := ⟨fun pins s σ H v u Q I r q => h.run pins s σ H v u Q I r (f _ _ _ _ q)⟩
theorem pgsI {X : Cx} {e : List Expr} {t t' : TGs} (h : PGs X e t) (f : ∀ v σ H Q, t' v σ H Q → t v σ H Q) : PGs X e t' := ⟨fun pins s σ H vs us Q I r q => h.run pins s σ H vs us Q I r (f _ _ _ _ q)⟩
theorem dg_name {i : Nat} {x : Str} (hN : X.N.Nodup) (hi : X.N[i]? = some x) (hx : Loc X.env.scope x) (hf : X.fn x = true ∨ X.env.scope.names.lookup x = some .local := by first | exact .inl rfl | exact .inr rfl | assumption) : DG X z (.Name x pos) (gN i) [i] :=
  pgI (pg_name hN hi hx hf) fun v σ H Q ⟨F, m, μ, ρ, d, ρ', S, r, e, k⟩ => by
    injection e with e
    subst e
    refine k _ (S.set r) ⟨by simp, fun j hj => ?_⟩
    rw [List.getElem?_set_ne]
    intro e
    exact hj (by simp [e])
theorem dgs_nil : DGs X z [] [] [] := pgsI pgs_nil fun vs σ H Q ⟨F, m, μ, ρ, ds, ρ', S, r, e, k⟩ => by
  cases r with
  | nil =>
    injection e with e
    subst e
    exact ⟨rfl, k _ S ⟨rfl, fun _ _ => rfl⟩⟩
  | cons _ _ => cases e
theorem dgs_cons {e : Expr} {es : List Expr} {g : GF} {gs : List GF} {j js : List Nat} (h1 : DG X z e g j) (h2 : DGs X z es gs js) (hs : (assignEach (e :: es) X.env).map (·.2) = assign e X.env :: (assignEach es X.env).map (·.2) := by rfl) : DGs X z (e :: es) (g :: gs) (j ++ js) :=
  pgsI (pgs_cons h1 h2 hs) fun vs σ H Q ⟨F, m, μ, ρ, ds, ρ', S, r, e, k⟩ => by
    cases r with
    | nil => cases e
    | @cons d v ds vs r rs =>
      unfold gEach at e
      cases q : g d ρ with
      | none =>
        rw [q] at e
        cases e
      | some ρ1 =>
        rw [q] at e
        refine ⟨v, vs, rfl, F, m, μ, ρ, d, ρ1, S, r, q, fun σ1 S1 o1 => ⟨F, m, μ, ρ1, ds, ρ', S1, rs, e, fun σ2 S2 o2 => k σ2 S2 ⟨o2.1.trans o1.1, fun i hi => ?_⟩⟩⟩
        rw [List.mem_append, not_or] at hi
        rw [o2.2 i hi.2, o1.2 i hi.1]
theorem dg_tup {es : List Expr} {k : Nat} {gs : List GF} {js : List Nat} {n : Nat} (hc : X.calm = true) (h : DGs X z es gs js) (hl : gs.length = n := by rfl)
    (hn : (assignEach es X.env).length = n := by rfl) (hst : (assignEach es X.env).findIdx? (·.1) = none := by rfl) : DG X z (.Tuple es k pos) (gT gs) js :=
  pgI (pg_tup hc h hn hst) fun v σ H Q ⟨F, m, μ, ρ, d, ρ', S, r, e, k⟩ => by
    unfold gT at e
    split at e
    · rename_i ds
      cases r with
      | tup hq rs =>
        have len : ∀ (gs : List GF) (ds : List D) (ρ ρ' : Slots), gEach gs ds ρ = some ρ' → gs.length = ds.length := by
          intro gs
          induction gs with
          | nil => intro ds ρ ρ' e; cases ds with
            | nil => rfl
            | cons _ _ => cases e
          | cons g gs ih => intro ds ρ ρ' e; cases ds with
            | nil => cases e
            | cons d ds =>
              unfold gEach at e
              split at e
              · exact congrArg (· + 1) (ih _ _ _ e)
              · cases e
        exact ⟨_, _, rfl, Same.sqt S.same hq, by rw [← rs.length, ← len _ _ _ _ e]; exact hl, F, m, μ, ρ, _, ρ', S, rs, e, k⟩
    · cases e

/-! ### assignments -/
def sAsg (w : WE) (g : GF) : WS := fun De ρ μ => w ρ μ (fun d μ1 => match g d ρ with
  | some ρ1 => De.nx ρ1 μ1
  | none => False) (fun x μ' => De.ex x ρ μ')
variable {e tg : Expr} {w : WE} {g : GF} {js : List Nat}
theorem asg_run {Wd : WXd} {D : Ends} {σ : L2.St} {H : Hp} (h : tDS X.K z Wd (sAsg w g) D σ H) : tAsg (tD X.K z Wd w) (tGD X.K z g js) D σ H := by
  obtain ⟨F, m, μ, ρ, De, S, h, ex, k⟩ := h
  refine ⟨F, m, μ, ρ, _, S, by rw [← ex]; exact h, fun F' m' μ' d v H' x S' r q => ?_⟩
  cases e : g d ρ with
  | none =>
    rw [e] at q
    exact q.elim
  | some ρ1 =>
    rw [e] at q
    exact ⟨F', m', μ', ρ, d, ρ1, S', r, e, fun σ2 S2 _ => k.nx _ _ _ _ _ _ x S2 q⟩
theorem ds_asg (he : DE X z e w) (hg : DG X z tg g js) (hs : swapsWithSole [tg] e pos.line X.env = pure false := by rfl) (hw : swappedStores [tg] e X.env = pure none := by rfl)
    (h1 : (assignEach [tg] X.env).map (·.2) = [assign tg X.env] := by rfl) : DS X z (.Assign [tg] e pos) (sAsg w g) := fun Wd tk => psI (ps_asg (he Wd tk) hg hs hw h1) fun D σ H h => asg_run h
/-- a, b = x, y: no tuple is made -/
def sPar2 (i j : Nat) (wa : WA) : WS := fun De ρ μ => wa ρ μ (fun ds μ1 => match ds with
  | [a, b] => De.nx ((ρ.set i (some a)).set j (some b)) μ1
  | _ => False) (fun x μ' => De.ex x ρ μ')
theorem ds_par {i j : Nat} {x y : Str} {a b : Expr} {wa : WA} {px py pt : Pos} {kt k2 pt2} (hc : X.calm = true) (hN : X.N.Nodup) (hi : X.N[i]? = some x) (hj : X.N[j]? = some y) (hij : i ≠ j)
    (hx : X.env.scope.names.lookup x = some .local) (hy : X.env.scope.names.lookup y = some .local) (ha : DA X z [a, b] wa)
    (hw : swappedStores [.Tuple [.Name x px, .Name y py] kt pt] (.Tuple [a, b] k2 pt2) X.env = pure (some [x, y])) (hs : swapsWithSole [.Tuple [.Name x px, .Name y py] kt pt] (.Tuple [a, b] k2 pt2) pos.line X.env = pure false := by rfl) :
    DS X z (.Assign [.Tuple [.Name x px, .Name y py] kt pt] (.Tuple [a, b] k2 pt2) pos) (sPar2 i j wa) := fun Wd tk => psI (ps_par hc hN hi hj hij hx hy (ha Wd tk) hw hs) fun D σ H ⟨F, m, μ, ρ, De, S, h, ex, k⟩ =>
  ⟨F, m, μ, ρ, (fun ds μ1 => match ds with | [a, b] => De.nx ((ρ.set i (some a)).set j (some b)) μ1 | _ => False), S, by rw [← ex]; exact h, fun F' m' μ' ds vs H' x S' r q => by
    cases r with
    | nil => exact q.elim
    | @cons d1 v1 ds vs r1 r =>
      cases r with
      | nil => exact q.elim
      | @cons d2 v2 ds vs r2 r =>
        cases r with
        | nil => exact ⟨v1, v2, rfl, k.nx _ _ _ _ _ _ x ((S'.set r1).set r2) q⟩
        | cons _ _ => exact q.elim⟩
/-! ### what a for walks -/
abbrev WI := Slots → Sto → (List D → Sto → Prop) → QX → Prop
/-- J gives these -/
structure JOk (K : PySem.W.Frag) (T : Tab) (F : Hp) (m : List Addr) (J : It) (ds : List D) : Prop where
  go : ∀ i H d, Same F H → ds[i]? = some d → J.go i H
  stop : ∀ i H, Same F H → ds.length ≤ i → J.stop i H
  yld : ∀ i H x H' d, Same F H → ds[i]? = some d → J.yld i H x H' → (H' = H ∧ Rep K T F m d x) ∨ ∃ es t vs, d = .tup es ∧ x = .ref t ∧ H t = none ∧ H' = upd H t (.tup vs) ∧ Reps K T F m es vs
def tDI (K : PySem.W.Frag) (z : Zx) (Wd : WXd) (w : WI) : TI := fun σ H R => ∃ F m μ ρ Qd, SimZ K z F m μ ρ σ H ∧ w ρ μ Qd (fun x μ' => Wd x ρ μ') ∧
  ∀ F' m' μ' ds J H', Ext F m H F' m' H' → SimZ K z F' m' μ' ρ σ H' → JOk K z.T F' m' J ds → Qd ds μ' → R J H'
def DI (X : Cx) (z : Zx) (tg iter : Expr) (w : WI) : Prop := ∀ Wd, Takes X (XW X.K z Wd) → PI X tg iter (tDI X.K z Wd w)
theorem piI {X : Cx} {tg e : Expr} {t t' : TI} (h : PI X tg e t) (f : ∀ σ H Q, t' σ H Q → t σ H Q) : PI X tg e t' := ⟨fun pins s σ H R I q => h.run pins s σ H R I (f _ _ _ q)⟩
def forW (g : GF) (wb : WS) : List D → WS
  | [], De, ρ, μ => De.nx ρ μ
  | d :: r, De, ρ, μ => match g d ρ with
    | some ρ1 => wb ⟨fun ρ2 μ2 => forW g wb r De ρ2 μ2, De.rt, De.nx, fun ρ2 μ2 => forW g wb r De ρ2 μ2, De.ex⟩ ρ1 μ
    | none => False
def sFor (wi : WI) (g : GF) (wb : WS) : WS := fun De ρ μ => wi ρ μ (fun ds μ1 => forW g wb ds De ρ μ1) (fun x μ' => De.ex x ρ μ')
/-- the next item is taken -/
theorem JOk.next {J : It} {K : PySem.W.Frag} {F F1 : Hp} {m m1 : List Addr} {ds : List D} {μ : Sto} {ρ : Slots} {σ : L2.St} {H H' : Hp} {i : Nat} {d : D} {x : V} (j : JOk K z.T F m J ds) (gr : Gr F m F1 m1) (S : SimZ K z F1 m1 μ ρ σ H)
    (e : ds[i]? = some d) (y : J.yld i H x H') : ∃ F2, Ext F1 m1 H F2 m1 H' ∧ SimZ K z F2 m1 μ ρ σ H' ∧ Rep K z.T F2 m1 d x := by
  rcases j.yld i H x H' d (gr.fr.trans S.same) e y with ⟨e, r⟩ | ⟨es, t, vs, e1, e2, n, e3, r⟩
  · subst e
    exact ⟨F1, Ext.refl _ _ _, S, r.mono gr⟩
  · subst e1 e2 e3
    obtain ⟨x2, S2⟩ := S.new n (.tup vs)
    exact ⟨_, x2, S2, .tup (SqT.of upd_same) (r.mono (gr.trans x2.gr))⟩
theorem ds_for {iter : Expr} {body : List Stmt} {wi : WI} {wb : WS} (hp : PassesOwn (model X.prog X.w) X.A X.env X.xe) (hc : X.calm = true) (hi : DI X z tg iter wi) (hg : DG X z tg g js) (hb : DSs X z body wb) (hs : ∀ x, foldedSetIterable iter X.env x = pure x := by intro _; rfl) : DS X z (.For tg iter body [] pos) (sFor wi g wb) := fun Wd tk =>
  psI (ps_for hp hc (hi Wd tk) hg (hb Wd tk) hs) fun Dd σ H ⟨F, m, μ, ρ, De, S, h, ex, k⟩ =>
    ⟨F, m, μ, ρ, (fun ds μ1 => forW g wb ds De ρ μ1), S, by rw [← ex]; exact h, fun F' m' μ' ds J H' x S' j q => by
      have k' := k.on x
      refine ⟨fun i mm σ H => mm + i = ds.length ∧ ∃ F1 m1 μ1 ρ1, Ext F' m' H' F1 m1 H ∧ SimZ X.K z F1 m1 μ1 ρ1 σ H ∧ forW g wb (ds.drop i) De ρ1 μ1, ⟨ds.length, rfl, F', m', μ', ρ, Ext.refl _ _ _, S', q⟩, fun i mm σ1 H1 ⟨hm, F1, m1, μ1, ρ1, x1, S1, q1⟩ => ?_⟩
      cases e : ds[i]? with
      | none =>
        have hl : ds.length ≤ i := List.getElem?_eq_none_iff.mp e
        rw [List.drop_eq_nil_of_le hl] at q1
        exact .inl ⟨j.stop i H1 (x1.gr.fr.trans S1.same) hl, k'.nx _ _ _ _ _ _ x1 S1 q1⟩
      | some d =>
        obtain ⟨hl, ed⟩ := List.getElem?_eq_some_iff.mp e
        rw [List.drop_eq_getElem_cons hl, ed] at q1
        refine .inr ⟨j.go i H1 d (x1.gr.fr.trans S1.same) e, fun σ H => ∃ F1 m1 μ1 ρ1, Ext F' m' H' F1 m1 H ∧ SimZ X.K z F1 m1 μ1 ρ1 σ H ∧ forW g wb (ds.drop (i + 1)) De ρ1 μ1, fun σ' H' h => ⟨mm - 1, by omega, by omega, h⟩, fun y H2 hy => ?_⟩
        obtain ⟨F2, x2, S2, r2⟩ := j.next x1.gr S1 e hy
        unfold forW at q1
        cases eg : g d ρ1 with
        | none =>
          rw [eg] at q1
          exact q1.elim
        | some ρ2 =>
          rw [eg] at q1
          have x12 := x1.trans x2
          exact ⟨F2, m1, μ1, ρ1, d, ρ2, S2, r2, eg, fun σ3 S3 _ => ⟨F2, m1, μ1, ρ2, _, S3, q1, ex, ⟨fun F4 m4 μ4 ρ4 σ4 H4 x4 S4 q4 => ⟨F4, m4, μ4, ρ4, x12.trans x4, S4, q4⟩,
            fun F4 m4 μ4 ρ4 σ4 d4 v4 H4 x4 => k'.rt _ _ _ _ _ _ _ _ (x12.trans x4), fun F4 m4 μ4 ρ4 σ4 H4 x4 => k'.nx _ _ _ _ _ _ (x12.trans x4),
            fun F4 m4 μ4 ρ4 σ4 H4 x4 S4 q4 => ⟨F4, m4, μ4, ρ4, x12.trans x4, S4, q4⟩⟩⟩⟩⟩
end
end Pk

/-! The data layer, part I1: enumerate over a tuple. -/
namespace Pk
open PySem PySem.Spec PyProof.Rows L2
set_option maxHeartbeats 1000000 in
theorem meets_enum1 {v : Value} {o : Obj} {H : Heap → Prop} (B : Begins v o H) : Meets (Builtin.«enumerate.__new__» ⟨[.type "enumerate", v], []⟩)
    (fun _ R s => H s.heap ∧ R (.ok (.ret (.ref (s.heap.push o).objs.size))) { s with heap := (s.heap.push o).push { cls := .type "enumerate", data := .fields #[.none, .bool false, .ref s.heap.objs.size, rawInt 0, .none, .none] } }) :=
  .of_wp fun prog w A R s hh => by
    obtain ⟨hp, g, d, tk, os⟩ := s
    obtain ⟨h1, hR⟩ := hh
    have hsub := sub_enumerate
    have qq : ∀ {A' : Around} {E : Value → Shared → Prop} {Q : Value → Shared → Prop}, Q (.ref hp.objs.size) ⟨hp.push o, g, d, tk, os⟩ → wpAny (model prog w) A' (pyIter v) Q E ⟨hp, g, d, tk, os⟩ :=
      fun q => B.iter prog w _ _ ⟨hp, g, d, tk, os⟩ _ h1 q
    wp_walk using qq
    refine wpAny_stack_any fun st => wpAny_pure ?_
    split
    · rename_i c _ _ _ _ _
      cases (c == Value.type "enumerate") <;> (wp_walk using qq) <;> exact ⟨_, rfl, hR⟩
    · wp_walk using qq
      exact ⟨_, rfl, hR⟩
end Pk

/-! The data layer, part I2: what a for walks. -/
namespace Pk
open PySem PySem.Spec PyProof.Rows L2
/-- enumerate of a tuple that stands -/
def IteT (K : PySem.W.Frag) (a : Addr) : It := ⟨fun i H => ∃ (xs : List V) (x : V), SqT K H a xs ∧ xs[i]? = some x,
  fun i H v H' => ∃ t x, v = .ref t ∧ H t = none ∧ H' = upd H t (.tup [.int (i : Nat), x]) ∧ ∀ xs, SqT K H a xs → xs[i]? = some x,
  fun i H => ∃ xs : List V, SqT K H a xs ∧ xs.length ≤ i⟩
theorem turn_enumT {P : Program} {w : World} {K : PySem.W.Frag} {elts : List Expr} {kk : Nat} {tpos : Pos} (a e it : Addr) (hea : e ≠ it) (hia : a ≠ it) (haa : a ≠ e) :
    Turn P w K (.Tuple elts kk tpos) (IteT K a) [e, it] e (fun i h => (∃ old, IsEnum h e it ((i : Nat) : Int) old) ∧ h.IsTupleIter it a i) where
  mem := by simp
  obj := fun i h st b hb => by
    obtain ⟨⟨old, he⟩, ⟨o, ho, hc, hd⟩⟩ := st
    have e' : b = e ∨ b = it := by simpa using hb
    rcases e' with r | r
    · rw [r]
      exact ⟨_, he, fun v q => by cases q⟩
    · rw [r]
      exact ⟨o, ho, fun v q => by rw [hd] at q; cases q⟩
  keep := fun i h h' st k => by
    obtain ⟨⟨old, he⟩, hi⟩ := st
    exact ⟨⟨old, k e (by simp) _ he⟩, hi.at fun o q => k it (by simp) o q⟩
  item := by
    intro X hP hw hK hc i pins s σ H E I hf st hg
    subst hP hw hK
    obtain ⟨⟨old, he⟩, hit⟩ := st
    obtain ⟨xs, x, hq, hx⟩ := hg
    obtain ⟨its, rv, p, hz⟩ := I.tuple hq
    obtain ⟨u, hu, ru⟩ := rv.get hx
    have hel : e < s.heap.objs.size := Heap.lt_size he
    have hil : it < s.heap.objs.size := by
      obtain ⟨_, q, _⟩ := hit
      exact Heap.lt_size q
    have hlt : i < its.toArray.size := by
      have := (List.getElem?_eq_some_iff.mp hu).1
      simpa using this
    have hD := Draws.tuple (prog := X.prog) (w := X.w) (A := X.A.in1) (I.ok.hd hc) it a hia its.toArray
    refine wpAny_pyNext_enum_itemD hD he ⟨hit, p⟩ hlt hea (by simp only [List.mem_cons, List.not_mem_nil, or_false, not_or]; exact ⟨hea, Ne.symm haa⟩) fun y h' tk hy ho hst hT hsz hk => ?_
    have ey : y = u := by
      have h2 : its.toArray[i]? = some u := by simpa using hu
      rw [h2] at hy
      exact (Option.some.inj hy).symm
    subst ey
    refine ⟨_, rfl, wpAny_letOwnedTupleGo_enum (s := { s with heap := h', toks := tk + 1 }) ho fun h'' he' sb => ?_⟩
    have hT2 : h''.get? s.heap.objs.size = some { cls := .type "tuple", data := .seq #[.int i tk, y] } := (sb.2 _ (Nat.ne_of_gt hel)).trans hT
    have new : ObjOk X.prog X.w (upd H s.heap.objs.size (.tup [.int (i : Nat), x])) h'' s.heap.objs.size (.tup [.int (i : Nat), x]) :=
      ⟨by show 2 ≤ sizeLine; decide, [.int i tk, y], .cons ⟨_, rfl⟩ (.cons ru .nil), ⟨_, hT2, rfl, _, rfl⟩⟩
    have I1 : Inv X pins σ (upd H s.heap.objs.size (.tup [.int (i : Nat), x])) { s with heap := h'', toks := tk + 1 } :=
      I.turnedNew (ch := [e, it]) (fun b ob hb q => (sb.2 b (fun r => hb (by simp [r]))).trans (hk b ob (fun r => hb (by simp [r])) (fun r => hb (by simp [r])) q)) hf (Nat.le_refl _) new
    refine ⟨.ref s.heap.objs.size, _, I1, rfl, ⟨_, x, rfl, I.hok.fresh (Nat.le_refl _), rfl, fun ys hy => by rw [I.tuple_inj hy hq]; exact hx⟩, ⟨⟨y, ?_⟩, hst.1.at fun o q => (sb.2 it (Ne.symm hea)).trans q⟩, fun b hb => ?_⟩
    · have e1 : ((i + 1 : Nat) : Int) = (i : Int) + 1 := by omega
      rw [e1]
      exact he'
    · have hb' : b < s.heap.objs.size := by
        have e' : b = e ∨ b = it := by simpa using hb
        rcases e' with r | r
        · rw [r]; exact hel
        · rw [r]; exact hil
      rw [upd_ne (Nat.ne_of_lt hb')]
      exact (hf b hb).1
  done := by
    intro X hP hw hK hc i pins s σ H E I hf st hg
    subst hP hw hK
    obtain ⟨⟨old, he⟩, hit⟩ := st
    obtain ⟨xs, hq, hx⟩ := hg
    obtain ⟨its, rv, p, hz⟩ := I.tuple hq
    obtain ⟨f0, f1, f2, f3, f4, f5⟩ := hf it (by simp)
    have hl := rv.length
    have hhd := I.ok.hd hc
    have none_ : its.toArray[i]? = none := by
      rw [List.getElem?_toArray]
      exact List.getElem?_eq_none (by omega)
    have hT : s.TypeIs (.ref e) "enumerate" := ⟨_, he, rfl⟩
    unfold pyNext
    refine wpAny_bind (wpAny_attempt (wpAny_callSpecial?_slot (name := Str.ofString "__next__") hT F.slot_enumerate_next
      (wpAny_call_entry F.slot_enumerate_next hT F.entry_enumerate_next ?_ (F.args_enumerate_next_1 _))))
    show wpAny _ _ (field (.ref e) 2 >>= _) _ _ _
    refine wpAny_bind (wpAny_field he rfl (x := .ref it) rfl ?_)
    refine wpAny_bind (wpAny_nextOf_tuple_end (A := X.A.in1) hhd hit p none_ fun h' x he' hx' => ?_)
    obtain ⟨o, ho, hc⟩ := hx'
    refine wpAny_bind (wpAny_isInstance (T := "StopIteration") (b := true) ⟨o, ho, hc⟩ isSubtype_stop ?_)
    exact wpAny_pure ⟨rfl, I.turned (t' := s.toks) (fun b o hb q => he' b o hb q) f0 f1 f3 f4 f5⟩
  self := fun A i s Q E st h => wpAny_pyIter_enum st.1.choose_spec h
end Pk

/-! The data layer, part I3: sources of loops. -/
namespace Pk
open PySem PySem.Spec PyProof.Rows L2 RZ
def signs : Tx → List D
  | [] => []
  | c :: r => .str [c] :: signs r
/-- what is walked, if it stands still -/
def seqD : D → Option (List D)
  | .lst xs => some xs
  | .tup xs => some xs
  | .ptp xs => some xs
  | .ttp xs => some xs
  | .str s => some (signs s)
  | .scr xs => some (xs.map .int)
  | _ => none
def enumD : Nat → List D → List D
  | _, [] => []
  | n, d :: r => .tup [.int n, d] :: enumD (n + 1) r
def zipD : List D → List D → List D
  | a :: r, b :: s => .tup [a, b] :: zipD r s
  | _, _ => []
def rngD : Int → Nat → List D
  | _, 0 => []
  | i, n + 1 => .int i :: rngD (i + 1) n
theorem signs_at : ∀ (s : Tx) (i : Nat), (signs s)[i]? = (s[i]?).map fun c => .str [c]
  | [], i => by simp [signs]
  | c :: r, 0 => by simp [signs]
  | c :: r, i + 1 => by simpa [signs] using signs_at r i
theorem enumD_at : ∀ (n : Nat) (ds : List D) (i : Nat), (enumD n ds)[i]? = (ds[i]?).map fun d => .tup [.int ((n + i : Nat) : Int), d]
  | n, [], i => by simp [enumD]
  | n, d :: r, 0 => by simp [enumD]
  | n, d :: r, i + 1 => by
    have h := enumD_at (n + 1) r i
    simp only [enumD, List.getElem?_cons_succ, h]
    congr 1
    funext d
    rw [show n + 1 + i = n + (i + 1) by omega]
theorem zipD_at : ∀ (xs ys : List D) (i : Nat), (zipD xs ys)[i]? = match xs[i]?, ys[i]? with
    | some x, some y => some (.tup [x, y])
    | _, _ => none
  | [], _, i => by simp [zipD]
  | _ :: _, [], i => by
    simp only [zipD, List.getElem?_nil]
    split <;> simp_all
  | a :: r, b :: s, 0 => by simp [zipD]
  | a :: r, b :: s, i + 1 => by simpa [zipD] using zipD_at r s i
theorem rngD_at : ∀ (n : Nat) (a : Int) (i : Nat), (rngD a n)[i]? = if i < n then some (.int (a + i)) else none
  | 0, a, i => by simp [rngD]
  | n + 1, a, 0 => by simp [rngD]
  | n + 1, a, i + 1 => by
    have h := rngD_at n (a + 1) i
    simp only [rngD, List.getElem?_cons_succ, h]
    by_cases q : i < n
    · rw [if_pos q, if_pos (by omega)]
      congr 2
      omega
    · rw [if_neg q, if_neg (by omega)]
theorem enumD_len (n : Nat) (ds : List D) : (enumD n ds).length = ds.length := by
  induction ds generalizing n with
  | nil => rfl
  | cons d r ih => exact congrArg (· + 1) (ih _)
theorem rngD_len (n : Nat) (a : Int) : (rngD a n).length = n := by
  induction n generalizing a with
  | zero => rfl
  | succ n ih => exact congrArg (· + 1) (ih _)
theorem signs_len (s : Tx) : (signs s).length = s.length := by
  induction s with
  | nil => rfl
  | cons c r ih => exact congrArg (· + 1) ih
section
variable {K : PySem.W.Frag} {T : Tab} {F : Hp} {m : List Addr} {a b : Addr} {ds es : List D} {vs us : List V}
theorem Same.sql {K : PySem.W.Frag} {H H' : Hp} {a : Addr} {xs : List V} (e : Same H H') (h : SqL K H a xs) : SqL K H' a xs := e.seq h
theorem none_of {ds : List D} {vs : List V} {i : Nat} (r : Reps K T F m ds vs) (h : ds.length ≤ i) : vs.length ≤ i := by rw [← r.length]; exact h
theorem jok_list (h : SqL K F a vs) (r : Reps K T F m ds vs) : JOk K T F m (Itl K a) ds where
  go := fun i H d s e => by
    obtain ⟨v, h1, _⟩ := r.get e
    exact ⟨vs, v, s.seq h, h1⟩
  stop := fun i H s hl => ⟨vs, s.seq h, none_of r hl⟩
  yld := fun i H x H' d s e y => by
    obtain ⟨v, h1, h2⟩ := r.get e
    obtain ⟨e1, e2⟩ := y
    have := e2 vs (s.seq h)
    rw [h1] at this
    cases this
    exact .inl ⟨e1, h2⟩
theorem jok_tup (h : SqT K F a vs) (r : Reps K T F m ds vs) : JOk K T F m (Itt K a) ds where
  go := fun i H d s e => by
    obtain ⟨v, h1, _⟩ := r.get e
    exact ⟨vs, v, Same.sqt s h, h1⟩
  stop := fun i H s hl => ⟨vs, Same.sqt s h, none_of r hl⟩
  yld := fun i H x H' d s e y => by
    obtain ⟨v, h1, h2⟩ := r.get e
    obtain ⟨e1, e2⟩ := y
    have := e2 vs (Same.sqt s h)
    rw [h1] at this
    cases this
    exact .inl ⟨e1, h2⟩
theorem jok_str (s : Tx) : JOk K T F m (Its (tx s)) (signs s) where
  go := fun i H d _ e => by
    have := (List.getElem?_eq_some_iff.mp e).1
    rw [signs_len] at this
    show i < (tx s).cps.size
    simpa [tx] using this
  stop := fun i H _ hl => by
    rw [signs_len] at hl
    show (tx s).cps.size ≤ i
    simpa [tx] using hl
  yld := fun i H x H' d _ e y => by
    obtain ⟨e1, c, e2, e3⟩ := y
    rw [signs_at] at e
    have e4 : s[i]? = some c := by simpa [tx] using e2
    rw [e4] at e
    cases e
    subst e3
    exact .inl ⟨e1, .str⟩
theorem jok_enumL (h : SqL K F a vs) (r : Reps K T F m ds vs) : JOk K T F m (Ite K a) (enumD 0 ds) where
  go := fun i H d s e => by
    rw [enumD_at] at e
    cases q : ds[i]? with
    | none => rw [q] at e; cases e
    | some d =>
      obtain ⟨v, h1, _⟩ := r.get q
      exact ⟨vs, v, s.seq h, h1⟩
  stop := fun i H s hl => ⟨vs, s.seq h, none_of r (by rw [enumD_len] at hl; exact hl)⟩
  yld := fun i H x H' d s e y => by
    rw [enumD_at] at e
    obtain ⟨t, u, e1, n, e2, e3⟩ := y
    cases q : ds[i]? with
    | none => rw [q] at e; cases e
    | some d' =>
      rw [q] at e
      cases e
      obtain ⟨v, h1, h2⟩ := r.get q
      have := e3 vs (s.seq h)
      rw [h1] at this
      cases this
      refine .inr ⟨_, t, _, rfl, e1, n, e2, .cons ?_ (.cons h2 .nil)⟩
      rw [Nat.zero_add]
      exact .int
theorem jok_enumT (h : SqT K F a vs) (r : Reps K T F m ds vs) : JOk K T F m (IteT K a) (enumD 0 ds) where
  go := fun i H d s e => by
    rw [enumD_at] at e
    cases q : ds[i]? with
    | none => rw [q] at e; cases e
    | some d =>
      obtain ⟨v, h1, _⟩ := r.get q
      exact ⟨vs, v, Same.sqt s h, h1⟩
  stop := fun i H s hl => ⟨vs, Same.sqt s h, none_of r (by rw [enumD_len] at hl; exact hl)⟩
  yld := fun i H x H' d s e y => by
    rw [enumD_at] at e
    obtain ⟨t, u, e1, n, e2, e3⟩ := y
    cases q : ds[i]? with
    | none => rw [q] at e; cases e
    | some d' =>
      rw [q] at e
      cases e
      obtain ⟨v, h1, h2⟩ := r.get q
      have := e3 vs (Same.sqt s h)
      rw [h1] at this
      cases this
      refine .inr ⟨_, t, _, rfl, e1, n, e2, .cons ?_ (.cons h2 .nil)⟩
      rw [Nat.zero_add]
      exact .int
theorem zip_some {xs ys : List D} {i : Nat} {d : D} (e : (zipD xs ys)[i]? = some d) : ∃ x y, xs[i]? = some x ∧ ys[i]? = some y ∧ d = .tup [x, y] := by
  rw [zipD_at] at e
  split at e
  · rename_i x y h1 h2
    injection e with e
    exact ⟨x, y, h1, h2, e.symm⟩
  · cases e
theorem zip_none {xs ys : List D} {i : Nat} (e : (zipD xs ys).length ≤ i) : xs.length ≤ i ∨ ys.length ≤ i := by
  have h := List.getElem?_eq_none_iff.mpr e
  rw [zipD_at] at h
  cases q1 : xs[i]? with
  | none => exact .inl (List.getElem?_eq_none_iff.mp q1)
  | some x =>
    cases q2 : ys[i]? with
    | none => exact .inr (List.getElem?_eq_none_iff.mp q2)
    | some y => simp [q1, q2] at h
theorem jok_zipL (h : SqL K F a vs) (r : Reps K T F m ds vs) (h' : SqL K F b us) (r' : Reps K T F m es us) : JOk K T F m (Itz K a b) (zipD ds es) where
  go := fun i H d s e => by
    obtain ⟨x, y, e1, e2, _⟩ := zip_some e
    obtain ⟨v, h1, _⟩ := r.get e1
    obtain ⟨u, h2, _⟩ := r'.get e2
    exact ⟨vs, us, v, u, s.seq h, s.seq h', h1, h2⟩
  stop := fun i H s hl => ⟨vs, us, s.seq h, s.seq h', (zip_none hl).imp (none_of r) (none_of r')⟩
  yld := fun i H x H' d s e y => by
    obtain ⟨d1, d2, e1, e2, e3⟩ := zip_some e
    obtain ⟨v, h1, g1⟩ := r.get e1
    obtain ⟨u, h2, g2⟩ := r'.get e2
    obtain ⟨t, x1, y1, q1, n, q2, q3, q4⟩ := y
    have z1 := q3 vs (s.seq h)
    have z2 := q4 us (s.seq h')
    rw [h1] at z1
    rw [h2] at z2
    cases z1
    cases z2
    exact .inr ⟨_, t, _, e3, q1, n, q2, .cons g1 (.cons g2 .nil)⟩
theorem jok_zipT (h : SqT K F a vs) (r : Reps K T F m ds vs) (h' : SqT K F b us) (r' : Reps K T F m es us) : JOk K T F m (ItzT K a b) (zipD ds es) where
  go := fun i H d s e => by
    obtain ⟨x, y, e1, e2, _⟩ := zip_some e
    obtain ⟨v, h1, _⟩ := r.get e1
    obtain ⟨u, h2, _⟩ := r'.get e2
    exact ⟨vs, us, v, u, Same.sqt s h, Same.sqt s h', h1, h2⟩
  stop := fun i H s hl => ⟨vs, us, Same.sqt s h, Same.sqt s h', (zip_none hl).imp (none_of r) (none_of r')⟩
  yld := fun i H x H' d s e y => by
    obtain ⟨d1, d2, e1, e2, e3⟩ := zip_some e
    obtain ⟨v, h1, g1⟩ := r.get e1
    obtain ⟨u, h2, g2⟩ := r'.get e2
    obtain ⟨t, x1, y1, q1, n, q2, q3, q4⟩ := y
    have z1 := q3 vs (Same.sqt s h)
    have z2 := q4 us (Same.sqt s h')
    rw [h1] at z1
    rw [h2] at z2
    cases z1
    cases z2
    exact .inr ⟨_, t, _, e3, q1, n, q2, .cons g1 (.cons g2 .nil)⟩
theorem jok_rng (lo : Int) (n : Nat) : JOk K T F m (Itr lo n) (rngD lo n) where
  go := fun i H d _ e => by
    have := (List.getElem?_eq_some_iff.mp e).1
    rw [rngD_len] at this
    exact this
  stop := fun i H _ hl => by
    rw [rngD_len] at hl
    exact hl
  yld := fun i H x H' d _ e y => by
    obtain ⟨e1, e2⟩ := y
    rw [rngD_at] at e
    split at e
    · cases e
      subst e2
      exact .inl ⟨e1, .int⟩
    · cases e
end
end Pk

/-! The data layer, part I4: loops over sequences, ranges, enumerate, zip. -/
namespace Pk
open PySem PySem.Spec PyProof.Rows L2 RZ
def iSeq (w : WE) : WI := fun ρ μ Q E => w ρ μ (fun d μ1 => match seqD d with
  | some ds => Q ds μ1
  | none => False) E
def iEnm (w : WE) : WI := fun ρ μ Q E => w ρ μ (fun d μ1 => match d with
  | .lst ds => Q (enumD 0 ds) μ1
  | .tup ds => Q (enumD 0 ds) μ1
  | _ => False) E
def iZp (wa wb : WE) : WI := fun ρ μ Q E => wa ρ μ (fun d μ1 => wb ρ μ1 (fun e μ2 => match d, e with
  | .lst ds, .lst es => Q (zipD ds es) μ2
  | .tup ds, .tup es => Q (zipD ds es) μ2
  | _, _ => False) E) E
def rgOk : Int → Bool
  | .ofNat n => Nat.blt n 4611686018427387904
  | .negSucc n => Nat.blt n 4611686018427387904
theorem rgOk_of {i : Int} (h1 : -4611686018427387904 ≤ i) (h2 : i < 4611686018427387904) : rgOk i = true := by
  cases i with
  | ofNat n => exact Nat.ble_eq_true_of_le (by have : (n : Int) < 4611686018427387904 := h2; omega)
  | negSucc n => exact Nat.ble_eq_true_of_le (by omega)
def iRg1 (w : WE) : WI := fun ρ μ Q E => w ρ μ (fun d μ1 => match d with
  | .int j => match rgOk j with
    | true => Q (rngD 0 j.toNat) μ1
    | false => False
  | _ => False) E
/-- a list, a tuple or a text, walked -/
def iAny (K : PySem.W.Frag) (t : TE) : TI := fun σ H R => t σ H fun x H1 => (∃ a, x = .ref a ∧ (∃ xs, SqL K H1 a xs) ∧ R (Itl K a) H1) ∨ (∃ a, x = .ref a ∧ (∃ xs, SqT K H1 a xs) ∧ R (Itt K a) H1) ∨ ∃ s, x = .str s ∧ R (Its s) H1
section
variable {X : Cx} {z : Zx} {pos : Pos} {tg e e2 : Expr} {w wa wb : WE}
theorem pi_any {t : TE} (he : PE X e t) : PI X tg e (iAny X.K t) := by
  refine ⟨fun pins s σ H R I h => ?_⟩
  refine thn (he.run pins s σ H _ I h) fun v s1 hh => ?_
  obtain ⟨x, H1, I1, r1, q⟩ := hh
  rcases q with ⟨a, e, ⟨xs, hq⟩, q⟩ | ⟨a, e, ⟨xs, hq⟩, q⟩ | ⟨s, e, q⟩
  · subst e
    cases r1
    obtain ⟨its, rv, p, hz⟩ := I1.list hq
    exact wpAny_pyIter_list p.isList (pi_one (tk := s1.toks) I1 _ (turn_list a _) ⟨_, Heap.get?_push_size _ rfl, rfl, rfl⟩ q)
  · subst e
    cases r1
    obtain ⟨its, rv, p, hz⟩ := I1.tuple hq
    exact wpAny_pyIter_tuple (show s1.heap.IsTuple a its.toArray from p) (pi_one (tk := s1.toks) I1 _ (turn_tuple a _) ⟨_, Heap.get?_push_size _ rfl, rfl, rfl⟩ q)
  · subst e
    obtain ⟨t, rfl⟩ := r1
    cases ha : s.cps.all (· < 128)
    · exact wpAny_pyIter_wide ha (pi_one (tk := s1.toks) I1 _ (turn_str _ s t "str_iterator" (.inr rfl)) ⟨_, Heap.get?_push_size _ rfl, rfl, rfl⟩ q)
    · exact wpAny_pyIter_ascii ha (pi_one (tk := s1.toks) I1 _ (turn_str _ s t "str_ascii_iterator" (.inl rfl)) ⟨_, Heap.get?_push_size _ rfl, rfl, rfl⟩ q)
theorem di_seq (h : DE X z e w) : DI X z tg e (iSeq w) := fun Wd tk => piI (pi_any (h Wd tk)) fun σ H R ⟨F, m, μ, ρ, Qd, S, h, k⟩ =>
  ⟨F, m, μ, ρ, (fun d μ1 => match seqD d with | some ds => Qd ds μ1 | none => False), S, h, fun F1 m1 μ1 d1 v1 H1 x1 S1 r1 q1 => by
    cases e : seqD d1 with
    | none => simp only [e] at q1
    | some ds =>
      simp only [e] at q1
      cases r1 with
      | tup h r =>
        cases e
        exact .inr (.inl ⟨_, rfl, ⟨_, Same.sqt S1.same h⟩, k _ _ _ _ _ _ x1 S1 (jok_tup h r) q1⟩)
      | lst h r =>
        cases e
        exact .inl ⟨_, rfl, ⟨_, SqL.of (S1.same _ _ h)⟩, k _ _ _ _ _ _ x1 S1 (jok_list (SqL.of h) r) q1⟩
      | ptp h hn r =>
        cases e
        have hq : SqT X.K F1 _ _ := .inl (.inr ⟨_, h⟩)
        exact .inr (.inl ⟨_, rfl, ⟨_, Same.sqt S1.same hq⟩, k _ _ _ _ _ _ x1 S1 (jok_tup hq r) q1⟩)
      | ttp h r =>
        cases e
        have hq : SqT X.K F1 _ _ := SqT.of h
        exact .inr (.inl ⟨_, rfl, ⟨_, Same.sqt S1.same hq⟩, k _ _ _ _ _ _ x1 S1 (jok_tup hq r) q1⟩)
      | scr h =>
        cases e
        exact .inl ⟨_, rfl, ⟨_, S1.same.seq h⟩, k _ _ _ _ _ _ x1 S1 (jok_list h (reps_ints _)) q1⟩
      | str =>
        cases e
        exact .inr (.inr ⟨_, rfl, k _ _ _ _ _ _ x1 S1 (jok_str _) q1⟩)
      | _ => cases e⟩
/-- enumerate(e), e a list or a tuple -/
def iEnA (K : PySem.W.Frag) (ta : TA) : TI := fun σ H R => ta σ H fun vs H1 => ∃ a, vs = [.ref a] ∧ ((∃ xs, SqL K H1 a xs ∧ R (Ite K a) H1) ∨ ∃ xs, SqT K H1 a xs ∧ R (IteT K a) H1)
theorem pi_enA {ta : TA} {p tpos : Pos} {elts : List Expr} {kk : Nat} (hg : Gl X "enumerate") (hm : X.mg "enumerate" = none) (ha : PA X [e] ta) (hs : starEach [e] X.env = [(false, eval e X.env)] := by rfl) : PI X (.Tuple elts kk tpos) (.Call (.Name "enumerate" p) [e] [] pos) (iEnA X.K ta) := by
  refine ⟨fun pins s σ H R I h => ?_⟩
  refine Call_ (ld_blt I hg hm boot_enumerate (PyProof.Rows.callWith_type1 (thn (ha.run pos pins s σ H _ I h) fun us s1 hh => ?_) hs rfl))
  obtain ⟨vs, H1, I1, r1, a, ex, q⟩ := hh
  subst ex
  cases r1 with
  | cons r rr =>
    cases rr
    cases r
    have fp2 : ∀ (b : Addr), b ∈ [s1.heap.objs.size + 1, s1.heap.objs.size] → FpOk X pins H1 b := fun b hb => by
      have hle : s1.heap.objs.size ≤ b := by
        have e' : b = s1.heap.objs.size + 1 ∨ b = s1.heap.objs.size := by simpa using hb
        rcases e' with r | r
        · rw [r]; exact Nat.le_add_right _ _
        · rw [r]; exact Nat.le_refl _
      exact I1.fpOk hle (I1.hok.fresh hle)
    rcases q with ⟨xs, hq, q⟩ | ⟨xs, hq, q⟩
    · obtain ⟨its, rv, p', hz⟩ := I1.list hq
      refine call_enumerate_list p'.isList fun h' he hit hsz hk => wpAny_pyIter_enum he ?_
      have I2 : Inv X pins σ H1 { s1 with heap := h' } := I1.kept (t' := s1.toks) hk
      exact ⟨s1.heap.objs.size + 1, [s1.heap.objs.size + 1, s1.heap.objs.size], _, _, H1, rfl, I2, turn_enum a (s1.heap.objs.size + 1) s1.heap.objs.size, ⟨⟨.none, he⟩, hit, Nat.succ_ne_self _⟩, fp2, q⟩
    · obtain ⟨its, rv, p', hz⟩ := I1.tuple hq
      have hal : a < s1.heap.objs.size := p'.lt
      have hB := begins_tuple a its.toArray
      refine callType_new F.called_enumerate (by decide) (F.typeCall_enumerate_1 _) (F.newCall_enumerate_1 _) (fun obj => F.args_object_init_2 obj _) F.entry_enumerate_new (meets_enum1 hB) ⟨p', ?_⟩
      generalize ho : ({ cls := .type "tuple_iterator", data := .fields #[.ref a, .int 0 0] } : Obj) = o
      have hz1 : (s1.heap.push o).objs.size = s1.heap.objs.size + 1 := Heap.size_push ..
      show _ ∧ _
      rw [hz1]
      have he : IsEnum ((s1.heap.push o).push { cls := .type "enumerate", data := .fields #[.none, .bool false, .ref s1.heap.objs.size, rawInt 0, .none, .none] }) (s1.heap.objs.size + 1) s1.heap.objs.size 0 .none := by
        have := Heap.get?_push_size (s1.heap.push o) (o := { cls := .type "enumerate", data := .fields #[.none, .bool false, .ref s1.heap.objs.size, rawInt 0, .none, .none] }) rfl
        rw [hz1] at this
        exact this
      refine ⟨⟨_, he, rfl⟩, wpAny_pyIter_enum he ?_⟩
      have hk : ∀ b u, s1.heap.get? b = some u → ((s1.heap.push o).push { cls := .type "enumerate", data := .fields #[.none, .bool false, .ref s1.heap.objs.size, rawInt 0, .none, .none] }).get? b = some u := fun b u x => Heap.get?_push_of_some _ (Heap.get?_push_of_some _ x)
      have I2 : Inv X pins σ H1 { s1 with heap := (s1.heap.push o).push { cls := .type "enumerate", data := .fields #[.none, .bool false, .ref s1.heap.objs.size, rawInt 0, .none, .none] } } := I1.kept (t' := s1.toks) hk
      have hit : ((s1.heap.push o).push { cls := .type "enumerate", data := .fields #[.none, .bool false, .ref s1.heap.objs.size, rawInt 0, .none, .none] }).IsTupleIter s1.heap.objs.size a 0 :=
        ⟨o, Heap.get?_push_of_some _ (Heap.get?_push_size _ (by rw [← ho]; rfl)), by rw [← ho], by rw [← ho]; rfl⟩
      exact ⟨s1.heap.objs.size + 1, [s1.heap.objs.size + 1, s1.heap.objs.size], _, _, H1, rfl, I2, turn_enumT a (s1.heap.objs.size + 1) s1.heap.objs.size (Nat.succ_ne_self _) (Nat.ne_of_lt hal) (Nat.ne_of_lt (Nat.lt_succ_of_lt hal)), ⟨⟨.none, he⟩, hit⟩, fp2, q⟩
theorem di_enum {p tpos : Pos} {elts : List Expr} {kk : Nat} (hg : Gl X "enumerate") (hm : X.mg "enumerate" = none) (h : DE X z e w) (hs : starEach [e] X.env = [(false, eval e X.env)] := by rfl) : DI X z (.Tuple elts kk tpos) (.Call (.Name "enumerate" p) [e] [] pos) (iEnm w) := fun Wd tk =>
  piI (pi_enA hg hm (da_cons h da_nil hs Wd tk) hs) fun σ H R ⟨F, m, μ, ρ, Qd, S, h, k⟩ =>
    ⟨F, m, μ, ρ, (fun ds μ1 => match ds with | [.lst ds] => Qd (enumD 0 ds) μ1 | [.tup ds] => Qd (enumD 0 ds) μ1 | _ => False), S, by
      refine cast (congrArg (fun f => w ρ μ f fun x μ' => Wd x ρ μ') ?_) h
      funext d μ1
      cases d <;> rfl, fun F1 m1 μ1 ds vs H1 x1 S1 r1 q1 => by
      cases r1 with
      | nil => exact q1.elim
      | cons r rs =>
        cases rs with
        | cons _ _ => cases r <;> exact q1.elim
        | nil =>
          cases r with
          | tup h r => exact ⟨_, rfl, .inr ⟨_, Same.sqt S1.same h, k _ _ _ _ _ _ x1 S1 (jok_enumT h r) q1⟩⟩
          | lst h r => exact ⟨_, rfl, .inl ⟨_, SqL.of (S1.same _ _ h), k _ _ _ _ _ _ x1 S1 (jok_enumL (SqL.of h) r) q1⟩⟩
          | _ => exact q1.elim⟩
theorem di_zip {p tpos : Pos} {elts : List Expr} {kk : Nat} (hg : Gl X "zip") (hm : X.mg "zip" = none) (h : DE X z e wa) (h2 : DE X z e2 wb) (hs : starEach [e, e2] X.env = (false, eval e X.env) :: starEach [e2] X.env := by rfl) (hs2 : starEach [e2] X.env = (false, eval e2 X.env) :: starEach [] X.env := by rfl)
    (hpl : (backTo pos (starEach [e2] X.env)).any (·.1) = false := by rfl) : DI X z (.Tuple elts kk tpos) (.Call (.Name "zip" p) [e, e2] [] pos) (iZp wa wb) := fun Wd tk =>
  piI (pi_zipA hg hm (da_cons h (da_cons h2 da_nil hs2) hs Wd tk) hs hpl) fun σ H R ⟨F, m, μ, ρ, Qd, S, h, k⟩ =>
    ⟨F, m, μ, ρ, (fun ds μ1 => match ds with | [.lst ds, .lst es] => Qd (zipD ds es) μ1 | [.tup ds, .tup es] => Qd (zipD ds es) μ1 | _ => False), S, by
      refine cast (congrArg (fun f => wa ρ μ f fun x μ' => Wd x ρ μ') ?_) h
      funext d μ1
      refine congrArg (fun f => wb ρ μ1 f fun x μ' => Wd x ρ μ') ?_
      funext e μ2
      cases d <;> cases e <;> rfl, fun F1 m1 μ1 ds vs H1 x1 S1 r1 q1 => by
      cases r1 with
      | nil => exact q1.elim
      | cons r rs =>
        cases rs with
        | nil => cases r <;> exact q1.elim
        | cons r' rs =>
          cases rs with
          | cons _ _ => cases r <;> cases r' <;> exact q1.elim
          | nil =>
            cases r with
            | tup h r =>
              cases r' with
              | tup h' r' => exact ⟨_, _, _, _, rfl, .inr ⟨Same.sqt S1.same h, Same.sqt S1.same h', k _ _ _ _ _ _ x1 S1 (jok_zipT h r h' r') q1⟩⟩
              | _ => exact q1.elim
            | lst h r =>
              cases r' with
              | lst h' r' => exact ⟨_, _, _, _, rfl, .inl ⟨SqL.of (S1.same _ _ h), SqL.of (S1.same _ _ h'), k _ _ _ _ _ _ x1 S1 (jok_zipL (SqL.of h) r (SqL.of h') r') q1⟩⟩
              | _ => exact q1.elim
            | _ => cases r' <;> exact q1.elim⟩
theorem rgOk_ok {i : Int} (h : rgOk i = true) : -(2 ^ 62) ≤ i ∧ i < 2 ^ 62 := by
  cases i with
  | ofNat n =>
    have := Nat.le_of_ble_eq_true (show Nat.ble (n + 1) 4611686018427387904 = true from h)
    simp only [Int.ofNat_eq_natCast]
    omega
  | negSucc n =>
    have := Nat.le_of_ble_eq_true (show Nat.ble (n + 1) 4611686018427387904 = true from h)
    omega
theorem di_range1 {p : Pos} (hg : Gl X "range") (hm : X.mg "range" = none) (h : DE X z e w) (hs : starEach [e] X.env = [(false, eval e X.env)] := by rfl) : DI X z tg (.Call (.Name "range" p) [e] [] pos) (iRg1 w) := fun Wd tk =>
  piI (pi_range1 hg hm (da_cons h da_nil hs Wd tk) hs) fun σ H R ⟨F, m, μ, ρ, Qd, S, h, k⟩ =>
    ⟨F, m, μ, ρ, (fun ds μ1 => match ds with | [.int j] => (match rgOk j with | true => Qd (rngD 0 j.toNat) μ1 | false => False) | _ => False), S, by
      refine cast (congrArg (fun f => w ρ μ f fun x μ' => Wd x ρ μ') ?_) h
      funext d μ1
      cases d <;> rfl, fun F1 m1 μ1 ds vs H1 x1 S1 r1 q1 => by
      cases r1 with
      | nil => exact q1.elim
      | cons r rs =>
        cases rs with
        | cons _ _ => cases r <;> exact q1.elim
        | nil =>
          cases r with
          | @int j =>
            cases e : rgOk j with
            | false => simp only [e] at q1
            | true =>
              simp only [e] at q1
              obtain ⟨g1, g2⟩ := rgOk_ok e
              exact ⟨_, rfl, g1, g2, k _ _ _ _ _ _ x1 S1 (jok_rng 0 _) q1⟩
          | _ => exact q1.elim⟩
end
end Pk

/-! The data layer, part J: comprehensions, new lists of one's own. -/
namespace Pk
open PySem PySem.Spec PyProof.Rows L2

/-- a new list: frozen, or of the store -/
def giveL (own : Bool) (ds : List D) (μ : Sto) (Q : QD) : Prop := match own with
  | false => Q (.lst ds) μ
  | true => Q (.mref μ.length) (μ ++ [.lst ds])
section
variable {K : PySem.W.Frag} {T : Tab} {F0 F F' H0 : Hp} {m0 m m' : List Addr} {μ μ' : Sto} {ρ : Slots} {σ : L2.St} {H H' : Hp} {p a : Addr} {ds : List D} {vs : List V}
theorem Sim.notIn (S : Sim K T F0 m0 H0 F m μ ρ σ H) (hp : H p = none) : p ∉ m := fun h => (S.al p h).ne hp
/-- the heap grows by what is not tracked -/
theorem Sim.more (S : Sim K T F0 m0 H0 F m μ ρ σ H) (hp : H p = none) (o : HO) : Ext F m H F m (upd H p o) ∧ Sim K T F0 m0 H0 F m μ ρ σ (upd H p o) :=
  ⟨⟨Gr.refl F m, fun b u e w n h => ⟨upd_keep hp b u e, n, h⟩, Up.upd (fun a z => by rw [hp] at z; cases z) (.inl hp)⟩, S.grow (Same.refl F) (fun b u e => upd_keep hp b u (S.same b u e)) (upd_keep hp) (fun _ _ n => n) S.tabs.nt⟩
/-- p is younger than the entry -/
def Yng (F0 : Hp) (m0 : List Addr) (H0 : Hp) (p : Addr) : Prop := ∀ o, H0 p = some o → fxO o = true → F0 p = none → p ∉ m0 → False
theorem Sim.yng (S : Sim K T F0 m0 H0 F m μ ρ σ H) (hp : H p = none) : Yng F0 m0 H0 p := fun o e w n h => by
  rw [(S.ext.frm p o e w n h).1] at hp
  cases hp
/-- a list that nobody tracks is changed -/
theorem Sim.poke (S : Sim K T F0 m0 H0 F m μ ρ σ H) (hp : H p = some (.lst vs)) (hf : F p = none) (hm : p ∉ m) (y : Yng F0 m0 H0 p) (us : List V) : Sim K T F0 m0 H0 F m μ ρ σ (upd H p (.lst us)) where
  ext := ⟨S.ext.gr, fun b o e w n h => by
    obtain ⟨e1, n1, h1⟩ := S.ext.frm b o e w n h
    refine ⟨?_, n1, h1⟩
    rw [upd_ne fun q => ?_]
    · exact e1
    · subst q
      exact y o e w n h, S.ext.up.trans (Up.upd (fun a z => by rw [hp] at z; cases z) (.inr rfl))⟩
  same := fun b o e => by
    rw [upd_ne (ne_of_none e hf)]
    exact S.same b o e
  len := S.len
  nd := S.nd
  al := fun a h => by
    have q : a ≠ p := fun e => hm (e ▸ h)
    obtain ⟨o, e1, e2⟩ := S.al a h
    exact ⟨o, by rw [upd_ne q]; exact e1, e2⟩
  sto := fun i b o e1 e2 n => by
    obtain ⟨h1, h2⟩ := S.sto i b o e1 e2 n
    have q : b ≠ p := fun e => hm (e ▸ List.mem_of_getElem? e1)
    refine ⟨h1, ?_⟩
    cases o with
    | lst ds => obtain ⟨vs, e, r⟩ := h2; exact ⟨vs, by rw [upd_ne q]; exact e, r⟩
    | dct ds => obtain ⟨vs, e, r⟩ := h2; exact ⟨vs, by rw [upd_ne q]; exact e, r⟩
    | ins c ds =>
      obtain ⟨dx, vs, e, e2, n, l, r⟩ := h2
      have q2 : dx ≠ p := ne_of e2 hp (by intro z; cases z)
      exact ⟨dx, vs, by rw [upd_ne q]; exact e, by rw [upd_ne q2]; exact e2, n, l, r⟩
    | fz d => exact h2
    | gone => trivial
    | dtp ds => obtain ⟨vs, e, r⟩ := h2; exact ⟨vs, by rw [upd_ne q]; exact e, r⟩
  sl := S.sl
  slot := S.slot
  tabs := ⟨tabs_upd S.tabs.tb hp trivial (fun _ z => nomatch z), S.tabs.nt⟩
/-- .. is frozen -/
theorem Sim.freeze (S : Sim K T F0 m0 H0 F m μ ρ σ H) (hp : H p = some (.lst vs)) (hf : F p = none) (hm : p ∉ m) (y : Yng F0 m0 H0 p) : Sim K T F0 m0 H0 (upd F p (.lst vs)) m μ ρ σ H := by
  have x : Same F (upd F p (.lst vs)) := upd_keep hf
  refine ⟨⟨⟨S.ext.gr.fr.trans x, S.ext.gr.mem⟩, fun b o e w n h => ?_, S.ext.up⟩, fun b o e => ?_, S.len, S.nd, S.al, fun i b o e1 e2 n => ?_, S.sl, fun i d e => ?_, S.tabs.put rfl⟩
  · obtain ⟨e1, n1, h1⟩ := S.ext.frm b o e w n h
    have q : b ≠ p := fun q => by
      subst q
      exact y o e w n h
    exact ⟨e1, by rw [upd_ne q]; exact n1, h1⟩
  · by_cases q : b = p
    · rw [q, upd_same] at e
      rw [q, hp]
      exact e
    · rw [upd_ne q] at e
      exact S.same b o e
  · obtain ⟨h1, h2⟩ := S.sto i b o e1 e2 n
    have q : b ≠ p := fun e => hm (e ▸ List.mem_of_getElem? e1)
    refine ⟨fun nf => by rw [upd_ne q]; exact h1 nf, ?_⟩
    cases o with
    | lst ds => obtain ⟨vs, e, r⟩ := h2; exact ⟨vs, e, r.mono ⟨x, [], by simp⟩⟩
    | dct ds => obtain ⟨vs, e, r⟩ := h2; exact ⟨vs, e, r.mono ⟨x, [], by simp⟩⟩
    | ins c ds =>
      obtain ⟨dx, vs, e, e2, n, l, r⟩ := h2
      have q2 : dx ≠ p := ne_of e2 hp (by intro z; cases z)
      exact ⟨dx, vs, e, e2, n, l, r.mono ⟨x, [], by simp⟩⟩
    | fz d => exact Rep.mono ⟨x, [], by simp⟩ h2
    | gone => trivial
    | dtp ds => obtain ⟨vs, e, r⟩ := h2; exact ⟨vs, e, r.mono ⟨x, [], by simp⟩⟩
  · obtain ⟨v, h1, h2⟩ := S.slot i d e
    exact ⟨v, h1, h2.mono ⟨x, [], by simp⟩⟩
/-- .. goes into the store -/
theorem Sim.keep {mo : MO} (S : Sim K T F0 m0 H0 F m μ ρ σ H) (hf : F p = none) (hm : p ∉ m) (y : Yng F0 m0 H0 p) (hr : MRep K T F m H p mo) (hg : mo ≠ .gone) (hz : mo.isFz = false := by rfl) : Sim K T F0 m0 H0 F (m ++ [p]) (μ ++ [mo]) ρ σ H := by
  have g : Gr F m F (m ++ [p]) := ⟨Same.refl F, [p], rfl⟩
  have mm : ∀ {a : Addr} {o : MO}, MRep K T F m H a o → MRep K T F (m ++ [p]) H a o := fun {a o} h => MRep.mono g (fun _ _ e => e) (fun _ _ n => n) h
  refine ⟨⟨S.ext.gr.trans g, fun b o e w n h => ?_, S.ext.up⟩, S.same, by simp [S.len], ?_, fun a h => ?_, fun i b o e1 e2 n => ?_, S.sl, fun i d e => ?_, S.tabs⟩
  · obtain ⟨e1, n1, h1⟩ := S.ext.frm b o e w n h
    refine ⟨e1, n1, fun q => ?_⟩
    rcases List.mem_append.mp q with q | q
    · exact h1 q
    · rw [List.mem_singleton.mp q] at e n h
      exact y o e w n h
  · rw [List.nodup_append]
    refine ⟨S.nd, by simp, fun a h b q => ?_⟩
    rw [List.mem_singleton.mp q]
    exact fun e => hm (e ▸ h)
  · rcases List.mem_append.mp h with h | h
    · exact S.al a h
    · rw [List.mem_singleton.mp h]
      obtain ⟨u, hu, hm⟩ := hr.at hg hz
      exact ⟨u, hu, isTb_mut hm⟩
  · by_cases q : i < m.length
    · rw [List.getElem?_append_left q] at e1
      rw [List.getElem?_append_left (by rw [← S.len]; exact q)] at e2
      obtain ⟨h1, h2⟩ := S.sto i b o e1 e2 n
      exact ⟨h1, mm h2⟩
    · have q2 : i = m.length := by
        have := (List.getElem?_eq_some_iff.mp e1).1
        simp only [List.length_append, List.length_singleton] at this
        omega
      subst q2
      rw [List.getElem?_append_right (Nat.le_refl _), Nat.sub_self] at e1
      rw [S.len, List.getElem?_append_right (Nat.le_refl _), Nat.sub_self] at e2
      simp only [List.getElem?_cons_zero, Option.some.injEq] at e1 e2
      subst e1 e2
      exact ⟨fun _ => hf, mm hr⟩
  · obtain ⟨v, h1, h2⟩ := S.slot i d e
    exact ⟨v, h1, h2.mono g⟩
end
section
variable {X : Cx} {z : Zx}
/-- a new list that stands already -/
theorem give_run {F F1 : Hp} {m m1 : List Addr} {μ1 : Sto} {ρ : Slots} {σ : L2.St} {H H1 : Hp} {Qd : QD} {Q : VK} {own : Bool} {ds : List D} {vs : List V} {p : Addr} (k : Fin X.K z F m H ρ σ Qd Q) (hn : H p = none) (x : Ext F m H F1 m1 H1) (S : SimZ X.K z F1 m1 μ1 ρ σ H1)
    (hp : H1 p = some (.lst vs)) (hf : F1 p = none) (hm : p ∉ m1) (y : Yng z.F0 z.m0 z.H0 p) (r : Reps X.K z.T F1 m1 ds vs) (q : giveL own ds μ1 Qd) : Q (.ref p) H1 := by
  have np : ∀ b o, H b = some o → b ≠ p := fun b o e q => by rw [q, hn] at e; cases e
  cases own with
  | false =>
    have S2 := S.freeze hp hf hm y
    have g : Same F1 (upd F1 p (.lst vs)) := upd_keep hf
    refine k _ _ _ _ _ _ ⟨x.gr.trans ⟨g, [], by simp⟩, fun b o e w n h => ?_, x.up⟩ S2 (.lst upd_same (r.mono ⟨g, [], by simp⟩)) q
    obtain ⟨e1, n1, h1⟩ := x.frm b o e w n h
    exact ⟨e1, by rw [upd_ne (np b o e)]; exact n1, h1⟩
  | true =>
    have S2 := S.keep hf hm y (mo := .lst ds) ⟨vs, hp, r⟩ (fun z => by cases z)
    have g : Gr F1 m1 F1 (m1 ++ [p]) := ⟨Same.refl F1, [p], rfl⟩
    refine k _ _ _ _ _ _ ⟨x.gr.trans g, fun b o e w n h => ?_, x.up⟩ S2 (.mref ?_) q
    · obtain ⟨e1, n1, h1⟩ := x.frm b o e w n h
      refine ⟨e1, n1, fun q => ?_⟩
      rcases List.mem_append.mp q with q | q
      · exact h1 q
      · exact np b o e (List.mem_singleton.mp q)
    · rw [← S.len, List.getElem?_append_right (Nat.le_refl _), Nat.sub_self]
      rfl
theorem give_new {F : Hp} {m : List Addr} {μ : Sto} {ρ : Slots} {σ : L2.St} {H : Hp} {Qd : QD} {Q : VK} {own : Bool} {ds : List D} {vs : List V} {p : Addr} (k : Fin X.K z F m H ρ σ Qd Q) (S : SimZ X.K z F m μ ρ σ H) (hn : H p = none)
    (r : Reps X.K z.T F m ds vs) (q : giveL own ds μ Qd) : Q (.ref p) (upd H p (.lst vs)) := by
  obtain ⟨x, S1⟩ := S.more hn (.lst vs)
  exact give_run k hn x S1 upd_same (S.fNone hn) (S.notIn hn) (S.yng hn) r q

/-! ### comprehensions -/
def wipeD (ρ : Slots) : List Nat → Slots
  | [] => ρ
  | v :: vs => (wipeD ρ vs).set v none
def lcW (g : GF) (wt : WT) (we : WE) : List D → Slots → Sto → (List D → Sto → Prop) → Prop
  | [], _, μ, Q => Q [] μ
  | d :: r, ρ, μ, Q => match g d ρ with
    | some ρ1 => wt ρ1 μ (fun b μ1 => match b with
      | true => we ρ1 μ1 (fun y μ2 => lcW g wt we r ρ μ2 fun ys μ3 => Q (y :: ys) μ3) (fun _ _ => False)
      | false => lcW g wt we r ρ μ1 Q) (fun _ _ => False)
    | none => False
def tAll : WT := fun _ μ Q _ => Q true μ
def wLc (own : Bool) (wi : WI) (g : GF) (wt : WT) (we : WE) (vs : List Nat) : WE := fun ρ μ Q E => wi ρ μ (fun ds μ1 => match Nat.blt ds.length 16777216 with
  | true => lcW g wt we ds (wipeD ρ vs) μ1 fun ys μ2 => giveL own ys μ2 Q
  | false => False) E
theorem wipe_at (σ : L2.St) : ∀ (vs : List Nat) (i : Nat), (wipe σ vs)[i]? = if i ∈ vs ∧ i < σ.length then some none else σ[i]?
  | [], i => by simp [wipe]
  | v :: vs, i => by
    unfold wipe
    by_cases h : v = i
    · subst h
      by_cases hl : v < σ.length
      · rw [List.getElem?_set_self (by rw [wipe_length]; exact hl), if_pos ⟨List.mem_cons_self, hl⟩]
      · rw [if_neg (fun q => hl q.2), List.getElem?_eq_none (by rw [List.length_set, wipe_length]; omega), List.getElem?_eq_none (by omega)]
    · rw [List.getElem?_set_ne h, wipe_at σ vs i]
      have : (i ∈ v :: vs) ↔ i ∈ vs := by simp [Ne.symm h]
      simp only [this]
theorem wipe_off {js vs : List Nat} {σ σ' : L2.St} (o : Off js (wipe σ vs) σ') (hj : ∀ j, j ∈ js → j ∈ vs) : wipe σ' vs = wipe σ vs := by
  have hl : σ'.length = σ.length := o.1.trans (wipe_length σ vs)
  apply List.ext_getElem?
  intro i
  rw [wipe_at, wipe_at, hl]
  by_cases h : i ∈ vs ∧ i < σ.length
  · rw [if_pos h, if_pos h]
  · rw [if_neg h, if_neg h]
    by_cases hi : i ∈ vs
    · have hz : ¬ i < σ.length := fun q => h ⟨hi, q⟩
      rw [List.getElem?_eq_none (by omega), List.getElem?_eq_none (by omega)]
    · rw [o.2 i fun q => hi (hj i q), wipe_at, if_neg fun q => hi q.1]
theorem wipeD_len (ρ : Slots) : ∀ vs : List Nat, (wipeD ρ vs).length = ρ.length
  | [] => rfl
  | v :: vs => by unfold wipeD; rw [List.length_set, wipeD_len ρ vs]
theorem wipeD_some {ρ : Slots} {i : Nat} {d : D} : ∀ {vs : List Nat}, (wipeD ρ vs)[i]? = some (some d) → ρ[i]? = some (some d) ∧ i ∉ vs
  | [], h => ⟨h, by simp⟩
  | v :: vs, h => by
    unfold wipeD at h
    by_cases hi : v = i
    · subst hi
      by_cases hv : v < (wipeD ρ vs).length
      · rw [List.getElem?_set_self hv] at h
        cases h
      · rw [List.getElem?_eq_none (by simpa using hv)] at h
        cases h
    · rw [List.getElem?_set_ne hi] at h
      obtain ⟨h1, h2⟩ := wipeD_some h
      exact ⟨h1, by simp only [List.mem_cons, not_or]; exact ⟨fun e => hi e.symm, h2⟩⟩
theorem Sim.wiped {K : PySem.W.Frag} {F : Hp} {m : List Addr} {μ : Sto} {ρ : Slots} {σ : L2.St} {H : Hp} (S : SimZ K z F m μ ρ σ H) (vs : List Nat) : SimZ K z F m μ (wipeD ρ vs) (wipe σ vs) H :=
  S.slots (by rw [wipeD_len, wipe_length]; exact S.sl) fun i d e => by
    obtain ⟨h1, h2⟩ := wipeD_some e
    obtain ⟨v, h3, h4⟩ := S.slot i d h1
    exact ⟨v, by rw [wipe_at, if_neg fun q => h2 q.1]; exact h3, h4⟩
theorem iteY {p q : Prop} (h : p) : if true = true then p else q := by rw [if_pos rfl]; exact h
theorem iteN {p q : Prop} (h : q) : if false = true then p else q := by rw [if_neg (by decide)]; exact h
theorem lc_run {own : Bool} {ow : List (Str × Nat)} {wi : WI} {g : GF} {js : List Nat} {wt : WT} {we : WE} {Wd : WXd} {σ : L2.St} {H : Hp} {Q : VK} (hj : ∀ j, j ∈ js → j ∈ ow.map (·.2)) (h : tD X.K z Wd (wLc own wi g wt we (ow.map (·.2))) σ H Q) :
    tLc (tDI X.K z Wd wi) (tGD X.K z g js) (tDT X.K z (fun _ _ _ => False) wt) (tD X.K z (fun _ _ _ => False) we) (ow.map (·.2)) σ H Q := by
  obtain ⟨F, m, μ, ρ, Qd, S, h, k⟩ := h
  exact
    ⟨F, m, μ, ρ, (fun ds μ1 => match Nat.blt ds.length 16777216 with | true => lcW g wt we ds (wipeD ρ (ow.map (·.2))) μ1 fun ys μ2 => giveL own ys μ2 Qd | false => False), S, h, fun F' m' μ' ds J H' x S' j q Dd hD => by
      have k' : Fin X.K z F' m' H' ρ σ Qd Q := fun F4 m4 μ4 d4 v4 H4 x4 => k F4 m4 μ4 d4 v4 H4 (x.trans x4)
      cases hlen : Nat.blt ds.length 16777216 with
      | false => simp only [hlen] at q
      | true =>
        simp only [hlen] at q
        have hlt : ds.length < sizeLine := by rw [sizeLine_eq]; exact Nat.le_of_ble_eq_true hlen
        obtain ⟨x0, S0⟩ := S'.more hD (.lst [])
        refine ⟨fun i mm Hc => mm + i = ds.length ∧ ∃ F1 m1 μ1 acc vs, Ext F' m' H' F1 m1 Hc ∧ SimZ X.K z F1 m1 μ1 ρ σ Hc ∧ Hc Dd = some (.lst vs) ∧ F1 Dd = none ∧ Dd ∉ m1 ∧ Reps X.K z.T F1 m1 acc vs ∧ vs.length ≤ i ∧ lcW g wt we (ds.drop i) (wipeD ρ (ow.map (·.2))) μ1 fun ys μ2 => giveL own (acc ++ ys) μ2 Qd,
          ⟨ds.length, rfl, F', m', μ', [], [], x0, S0, upd_same, S'.fNone hD, S'.notIn hD, .nil, Nat.zero_le _, q⟩, fun i mm Hc ⟨hm, F1, m1, μ1, acc, vs, x1, S1, hDd, hfD, hmD, racc, hvl, q1⟩ => ?_⟩
        cases e : ds[i]? with
        | none =>
          have hl : ds.length ≤ i := List.getElem?_eq_none_iff.mp e
          rw [List.drop_eq_nil_of_le hl] at q1
          have q2 : giveL own acc μ1 Qd := by
            have : giveL own (acc ++ []) μ1 Qd := q1
            rw [List.append_nil] at this
            exact this
          exact .inl ⟨j.stop i Hc (x1.gr.fr.trans S1.same) hl, give_run k' hD x1 S1 hDd hfD hmD (S'.yng hD) racc q2⟩
        | some d =>
          obtain ⟨hl, ed⟩ := List.getElem?_eq_some_iff.mp e
          rw [List.drop_eq_getElem_cons hl, ed] at q1
          refine .inr ⟨j.go i Hc d (x1.gr.fr.trans S1.same) e, fun Hn => ∃ F1 m1 μ1 acc vs, Ext F' m' H' F1 m1 Hn ∧ SimZ X.K z F1 m1 μ1 ρ σ Hn ∧ Hn Dd = some (.lst vs) ∧ F1 Dd = none ∧ Dd ∉ m1 ∧ Reps X.K z.T F1 m1 acc vs ∧ vs.length ≤ i + 1 ∧
            lcW g wt we (ds.drop (i + 1)) (wipeD ρ (ow.map (·.2))) μ1 fun ys μ2 => giveL own (acc ++ ys) μ2 Qd, fun Hn h => ⟨mm - 1, by omega, by omega, h⟩, fun y H2 hy => ?_⟩
          obtain ⟨F2, x2, S2, r2⟩ := j.next x1.gr S1 e hy
          unfold lcW at q1
          cases eg : g d (wipeD ρ (ow.map (·.2))) with
          | none =>
            rw [eg] at q1
            exact q1.elim
          | some ρ2 =>
            rw [eg] at q1
            obtain ⟨hD2, hf2, hm2⟩ := x2.frm Dd _ hDd rfl hfD hmD
            refine ⟨F2, m1, μ1, _, d, ρ2, S2.wiped _, r2, eg, fun σ3 S3 o3 => ⟨wipe_off o3 hj, F2, m1, μ1, ρ2, _, S3, q1, fun F3 m3 μ3 b H3 x3 S4 q4 => ?_⟩⟩
            have back : ∀ {F4 : Hp} {m4 : List Addr} {μ4 : Sto} {H4 : Hp}, SimZ X.K z F4 m4 μ4 ρ2 σ3 H4 → Gr F2 m1 F4 m4 → SimZ X.K z F4 m4 μ4 ρ σ H4 := fun {F4 m4 μ4 H4} S5 g5 => S5.slots S.sl fun i' d' e' => by
              obtain ⟨v, h1, h2⟩ := S2.slot i' d' e'
              exact ⟨v, h1, h2.mono g5⟩
            obtain ⟨hD3, hf3, hm3⟩ := x3.frm Dd _ hD2 rfl hf2 hm2
            have x13 := x1.trans (x2.trans x3)
            cases b with
            | false =>
              refine iteN ?_
              exact ⟨F3, m3, μ3, acc, vs, x13, back S4 x3.gr, hD3, hf3, hm3, racc.mono (x2.trans x3).gr, Nat.le_succ_of_le hvl, q4⟩
            | true =>
              refine iteY ?_
              refine ⟨F3, m3, μ3, ρ2, _, S4, q4, fun F5 m5 μ5 d5 v5 H5 x5 S5 r5 q5 => ?_⟩
              obtain ⟨hD5, hf5, hm5⟩ := x5.frm Dd _ hD3 rfl hf3 hm3
              have x15 := x13.trans x5
              have S6 := (back S5 (x3.trans x5).gr).poke hD5 hf5 hm5 (S'.yng hD) (vs ++ [v5])
              refine ⟨vs, hD5, Nat.lt_of_le_of_lt hvl (Nat.lt_trans hl hlt), F5, m5, μ5, acc ++ [d5], vs ++ [v5], ⟨x15.gr, fun b o e w n h => ?_, x15.up.trans (Up.upd (fun a z => by rw [hD5] at z; cases z) (.inr rfl))⟩, S6, upd_same, hf5, hm5, (racc.mono (x2.trans (x3.trans x5)).gr).append (.cons r5 .nil), by simp only [List.length_append, List.length_singleton]; omega, ?_⟩
              · obtain ⟨e1, n1, h1⟩ := x15.frm b o e w n h
                exact ⟨by rw [upd_ne (ne_of_none e hD)]; exact e1, n1, h1⟩
              · have : (fun ys μ3 => giveL own (acc ++ d5 :: ys) μ3 Qd) = fun ys μ2 => giveL own (acc ++ [d5] ++ ys) μ2 Qd := by
                  funext ys μ3
                  rw [List.append_assoc]
                  rfl
                rw [← this]
                exact q5⟩
theorem de_lc {own : Bool} {tg iter elt : Expr} {ifs : List Expr} {scope : Scope} {ow : List (Str × Nat)} {pos : Pos} {wi : WI} {g : GF} {js : List Nat} {wt : WT} {we : WE} (hc : X.calm = true) (hN : X.N.Nodup) (hi : DI X z tg iter wi) (ok : BlkOk X.N X.env.scope scope ow)
    (hj : ∀ j, j ∈ js → j ∈ ow.map (·.2)) (hg : ∀ (s : Shared) (H : Hp) (C : Addr) (cl : List (Str × Addr)) (fp : List Addr), DG (X.blk s H scope (compEnvC scope cl C X.env) fp) z tg g js)
    (ht : ∀ (s : Shared) (H : Hp) (C : Addr) (cl : List (Str × Addr)) (fp : List Addr), PTs (X.blk s H scope (compEnvC scope cl C X.env) fp) ifs (tDT X.K z (fun _ _ _ => False) wt))
    (he : ∀ (s : Shared) (H : Hp) (C : Addr) (cl : List (Str × Addr)) (fp : List Addr), DE (X.blk s H scope (compEnvC scope cl C X.env) fp) z elt we) (hs : ∀ x, foldedSetIterable iter X.env x = pure x := by intro _; rfl) :
    DE X z (.ListComp elt [⟨tg, iter, ifs, 0⟩] scope pos) (wLc own wi g wt we (ow.map (·.2))) := fun Wd tk =>
  peI (pe_lc (g := tGD X.K z g js) (tt := tDT X.K z (fun _ _ _ => False) wt) (te := tD X.K z (fun _ _ _ => False) we) hc hN (hi Wd tk) ok hg ht (fun s H C cl fp => he s H C cl fp (fun _ _ _ => False) (takes0.imp fun c d σ H q => by
    obtain ⟨_, _, _, _, _, _, _, q⟩ := q
    exact q)) hs) fun σ H Q h => lc_run hj h
/-- name = [..] on one line -/
theorem ds_setLc {own : Bool} {i : Nat} {y : Str} {py spos : Pos} {tg iter elt : Expr} {ifs : List Expr} {scope : Scope} {ow : List (Str × Nat)} {pos : Pos} {wi : WI} {g : GF} {js : List Nat} {wt : WT} {we : WE} (hc : X.calm = true) (hN : X.N.Nodup) (hi : DI X z tg iter wi) (ok : BlkOk X.N X.env.scope scope ow)
    (hj : ∀ j, j ∈ js → j ∈ ow.map (·.2)) (hg : ∀ (s : Shared) (H : Hp) (C : Addr) (cl : List (Str × Addr)) (fp : List Addr), DG (X.blk s H scope (compEnvC scope cl C X.env) fp) z tg g js)
    (ht : ∀ (s : Shared) (H : Hp) (C : Addr) (cl : List (Str × Addr)) (fp : List Addr), PTs (X.blk s H scope (compEnvC scope cl C X.env) fp) ifs (tDT X.K z (fun _ _ _ => False) wt))
    (he : ∀ (s : Shared) (H : Hp) (C : Addr) (cl : List (Str × Addr)) (fp : List Addr), DE (X.blk s H scope (compEnvC scope cl C X.env) fp) z elt we) (hy : X.N[i]? = some y := by rfl) (hyl : X.env.scope.names.lookup y = some .local := by rfl) (hk : X.env.scope.kind = .function := by rfl)
    (hl : (py.line == pos.line) = true := by rfl) (ha : (scope.names.any fun (n, k) => n == y && (k == .local || k == .cell)) = false := by rfl) (hs : ∀ x, foldedSetIterable iter X.env x = pure x := by intro _; rfl) :
    DS X z (.Assign [.Name y py] (.ListComp elt [⟨tg, iter, ifs, 0⟩] scope pos) spos) (sAsg (wLc own wi g wt we (ow.map (·.2))) (gN i)) := fun Wd tk =>
  psI (ps_setLc (g := tGD X.K z g js) (tt := tDT X.K z (fun _ _ _ => False) wt) (te := tD X.K z (fun _ _ _ => False) we) hc hN hy hyl (sw_true hk hyl hl ha) (hi Wd tk) ok hg ht (fun s H C cl fp => he s H C cl fp (fun _ _ _ => False) (takes0.imp fun c d σ H q => by
    obtain ⟨_, _, _, _, _, _, _, q⟩ := q
    exact q)) hs) fun D σ H ⟨F, m, μ, ρ, De, S, h, ex, k⟩ => by
    subst ex
    exact lc_run hj ⟨F, m, μ, ρ, (fun d μ1 => De.nx (ρ.set i (some d)) μ1), S, h, fun F' m' μ' d v H' x S' r q => k.nx _ _ _ _ _ _ x (S'.set r) q⟩
end
end Pk

/-! The data layer, part K: calls of builtins. -/
namespace Pk
open PySem PySem.Spec PyProof.Rows L2

abbrev BF := List D → Sto → QD → Prop
def BuOk (X : Cx) (z : Zx) (r : List V → Hp → VK → Prop) (w : BF) : Prop :=
  ∀ F m μ ρ σ H ds vs (Qd : QD) (Q : VK), SimZ X.K z F m μ ρ σ H → Reps X.K z.T F m ds vs → w ds μ Qd → Fin X.K z F m H ρ σ Qd Q → r vs H Q
def wBu (w : BF) (wa : WA) : WE := fun ρ μ Q E => wa ρ μ (fun ds μ1 => w ds μ1 Q) E
def b1 (f : D → Option D) : BF := fun ds μ Q => match ds with
  | [x] => match f (look μ x) with
    | some d => Q d μ
    | none => False
  | _ => False
def b2' (f : D → D → Option D) : BF := fun ds μ Q => match ds with
  | [x, y] => match f (look μ x) (look μ y) with
    | some d => Q d μ
    | none => False
  | _ => False
/-- a new list from a look at the argument -/
def b1L (own : Bool) (f : D → Option (List D)) : BF := fun ds μ Q => match ds with
  | [x] => match f (look μ x) with
    | some xs => giveL own xs μ Q
    | none => False
  | _ => False
section
variable {X : Cx} {z : Zx} {x : Str} {p pos : Pos} {e : Expr} {es : List Expr} {id T : String} {r : List V → Hp → VK → Prop} {w : BF} {wa : WA}
theorem bu_run {Wd : WXd} (ok : BuOk X z r w) {σ : L2.St} {H : Hp} {Q : VK} (h : tD X.K z Wd (wBu w wa) σ H Q) : tCB r (tDA X.K z Wd wa) σ H Q := by
  obtain ⟨F, m, μ, ρ, Qd, S, h, k⟩ := h
  exact ⟨F, m, μ, ρ, _, S, h, fun F1 m1 μ1 ds vs H1 x1 S1 r1 q1 => ok F1 m1 μ1 ρ σ H1 ds vs Qd Q S1 r1 q1 fun F4 m4 μ4 d4 v4 H4 x4 => k F4 m4 μ4 d4 v4 H4 (x1.trans x4)⟩
theorem de_callB (hc : CallR X (.builtin id) r) (ok : BuOk X z r w) (hg : Gl X x) (hm : X.mg x = none) (ha : DA X z (e :: es) wa) (hv : bootBuiltins x = some (.builtin id) := by rfl) (hn : x ≠ "__name__" := by decide) (hdb : (x == ("__debug__" : Str)) = false := by decide)
    (he : starEach (e :: es) X.env = (false, eval e X.env) :: starEach es X.env := by rfl) (hpl : (backTo pos (starEach es X.env)).any (·.1) = false := by rfl) : DE X z (.Call (.Name x p) (e :: es) [] pos) (wBu w wa) := fun Wd tk =>
  peI (pe_callB hc hg hm hv (ha Wd tk) hn hdb he hpl) fun σ H Q h => bu_run ok h
theorem de_callTy (hc : CallR X (.type T) r) (ok : BuOk X z r w) (hg : Gl X x) (hm : X.mg x = none) (ha : DA X z (e :: es) wa) (hv : bootBuiltins x = some (.type T) := by rfl) (hn : x ≠ "__name__" := by decide) (hdb : (x == ("__debug__" : Str)) = false := by decide)
    (he : starEach (e :: es) X.env = (false, eval e X.env) :: starEach es X.env := by rfl) (hpl : (backTo pos (starEach es X.env)).any (·.1) = false := by rfl) : DE X z (.Call (.Name x p) (e :: es) [] pos) (wBu w wa) := fun Wd tk =>
  peI (pe_callTy hc hg hm hv (ha Wd tk) hn hdb he hpl) fun σ H Q h => bu_run ok h
theorem BuOk.or {r' : List V → Hp → VK → Prop} (h : BuOk X z r w) (hi : ∀ xs H Q, r xs H Q → r' xs H Q) : BuOk X z r' w := fun F m μ ρ σ H ds vs Qd Q S rr q k => hi _ _ _ (h F m μ ρ σ H ds vs Qd Q S rr q k)
theorem CallR.or {f : Value} {r r' : List V → Hp → VK → Prop} (h : CallR X f r) (h' : CallR X f r') : CallR X f (fun xs H Q => r xs H Q ∨ r' xs H Q) := fun pins s σ H xs us Q I rr q => by
  rcases q with q | q
  · exact h pins s σ H xs us Q I rr q
  · exact h' pins s σ H xs us Q I rr q
/-- one argument, by its view -/
theorem bu1 {f : D → Option D} (h : ∀ F m μ ρ σ H x v d (Qd : QD) (Q : VK), SimZ X.K z F m μ ρ σ H → Vw X.K z.T F m H x v → f x = some d → Qd d μ → Fin X.K z F m H ρ σ Qd Q → r [v] H Q) : BuOk X z r (b1 f) := by
  intro F m μ ρ σ H ds vs Qd Q S rr q k
  unfold b1 at q
  split at q
  · rename_i x
    cases rr with
    | cons r1 r2 =>
      cases r2
      split at q
      · rename_i d e
        exact h F m μ ρ σ H _ _ d Qd Q S (S.view r1) e q k
      · exact q.elim
  · exact q.elim
theorem bu1L {own : Bool} {f : D → Option (List D)} (h : ∀ F m μ ρ σ H x v ds (Qd : QD) (Q : VK), SimZ X.K z F m μ ρ σ H → Vw X.K z.T F m H x v → f x = some ds → giveL own ds μ Qd → Fin X.K z F m H ρ σ Qd Q → r [v] H Q) : BuOk X z r (b1L own f) := by
  intro F m μ ρ σ H ds vs Qd Q S rr q k
  unfold b1L at q
  split at q
  · rename_i x
    cases rr with
    | cons r1 r2 =>
      cases r2
      split at q
      · rename_i d e
        exact h F m μ ρ σ H _ _ d Qd Q S (S.view r1) e q k
      · exact q.elim
  · exact q.elim
theorem bu2 {f : D → D → Option D} (h : ∀ F m μ ρ σ H x y v u d (Qd : QD) (Q : VK), SimZ X.K z F m μ ρ σ H → Vw X.K z.T F m H x v → Vw X.K z.T F m H y u → f x y = some d → Qd d μ → Fin X.K z F m H ρ σ Qd Q → r [v, u] H Q) : BuOk X z r (b2' f) := by
  intro F m μ ρ σ H ds vs Qd Q S rr q k
  unfold b2' at q
  split at q
  · rename_i x y
    cases rr with
    | cons r1 rr =>
      cases rr with
      | cons r2 rr =>
        cases rr
        split at q
        · rename_i d e
          exact h F m μ ρ σ H _ _ _ _ d Qd Q S (S.view r1) (S.view r2) e q k
        · exact q.elim
  · exact q.elim
end

/-! ### len -/
def lenD : D → Option D
  | .str s => match lineB s.length with
    | true => some (.int s.length)
    | false => none
  | .lst xs => some (.int xs.length)
  | .tup xs => some (.int xs.length)
  | .scr xs => some (.int xs.length)
  | .dct xs => some (.int xs.length)
  | _ => none
def rLen (K : PySem.W.Frag) : List V → Hp → VK → Prop := fun xs H Q => (∃ x n, xs = [x] ∧ LenV K x H n ∧ Q (.int n) H) ∨ (∃ a kvs, xs = [V.ref a] ∧ Rd H a (.dK kvs) ∧ Q (.int kvs.length) H)
section
variable {X : Cx} {z : Zx}
theorem len_dR : CallR X (.builtin "len") (fun xs H Q => ∃ a kvs, xs = [V.ref a] ∧ Rd H a (.dK kvs) ∧ Q (.int kvs.length) H) := by
  intro pins s σ H xs us Q I r ⟨a, kvs, e, ha, q⟩
  subst e
  obtain ⟨u, e, ru⟩ := vals1 r
  subst e
  cases ru
  exact d_len I ha fun t s' I' => ⟨V.int kvs.length, H, I', ⟨t, rfl⟩, q⟩
theorem c_len : CallR X (.builtin "len") (rLen X.K) := CallR.or call_len len_dR
theorem ok_len : BuOk X z (rLen X.K) (b1 lenD) := bu1 fun F m μ ρ σ H x v d Qd Q S vx e q k => by
  unfold lenD at e
  split at e
  · split at e
    · rename_i s _ hl
      injection e with e
      subst e
      refine .inl ⟨v, s.length, rfl, ?_, k.now S .int q⟩
      rw [vx.str]
      exact ⟨by rw [tx_len]; exact lineB_le hl, (tx_len s).symm⟩
    · cases e
  · rename_i xs
    injection e with e
    subst e
    obtain ⟨a, vs, rfl, h1, r1⟩ := vx.list S.same
    exact .inl ⟨_, xs.length, rfl, .inl ⟨vs, SqL.of h1, r1.length⟩, k.now S .int q⟩
  · rename_i xs
    injection e with e
    subst e
    obtain ⟨a, vs, rfl, h1, r1⟩ := vx.tup S.same
    exact .inl ⟨_, xs.length, rfl, .inr ⟨vs, h1, r1.length⟩, k.now S .int q⟩
  · rename_i xs
    injection e with e
    subst e
    obtain ⟨a, rfl, h1⟩ := vx.scr S.same
    exact .inl ⟨_, xs.length, rfl, .inl ⟨_, h1, by simp⟩, k.now S .int q⟩
  · rename_i xs
    injection e with e
    subst e
    obtain ⟨a, vs, rfl, h1, r1⟩ := vx.dict S.same
    refine .inr ⟨a, vs, rfl, h1, ?_⟩
    rw [← r1.length]
    exact k.now S .int q
  · cases e

/-! ### any, all, sum -/
def blsD : List D → Option (List Bool)
  | [] => some []
  | .bl b :: r => match blsD r with
    | some bs => some (b :: bs)
    | none => none
  | _ => none
def intsD : List D → Option (List Int)
  | [] => some []
  | .int b :: r => match intsD r with
    | some bs => some (b :: bs)
    | none => none
  | _ => none
def anyB : List Bool → Bool
  | [] => false
  | true :: _ => true
  | false :: r => anyB r
def allB : List Bool → Bool
  | [] => true
  | true :: r => allB r
  | false :: _ => false
theorem anyB_eq : ∀ bs : List Bool, bs.any (fun x => x) = anyB bs
  | [] => rfl
  | true :: r => by simp [anyB]
  | false :: r => by simp [anyB, anyB_eq r]
theorem allB_eq : ∀ bs : List Bool, bs.all (fun x => x) = allB bs
  | [] => rfl
  | true :: r => by simp [allB, allB_eq r]
  | false :: r => by simp [allB]
variable {K : PySem.W.Frag} {T : Tab} {F : Hp} {m : List Addr}
theorem Reps.bls : ∀ {ds : List D} {vs : List V} {bs : List Bool}, Reps K T F m ds vs → blsD ds = some bs → vs = bs.map V.bl
  | [], _, bs, .nil, e => by
    injection e with e
    subst e
    rfl
  | d :: ds, _, bs, .cons h r, e => by
    cases h with
    | bl =>
      unfold blsD at e
      split at e
      · rename_i bs' e'
        injection e with e
        subst e
        rw [Reps.bls r e']
        rfl
      · cases e
    | _ => cases e
theorem Reps.ints : ∀ {ds : List D} {vs : List V} {bs : List Int}, Reps K T F m ds vs → intsD ds = some bs → vs = bs.map V.int
  | [], _, bs, .nil, e => by
    injection e with e
    subst e
    rfl
  | d :: ds, _, bs, .cons h r, e => by
    cases h with
    | int =>
      unfold intsD at e
      split at e
      · rename_i bs' e'
        injection e with e
        subst e
        rw [Reps.ints r e']
        rfl
      · cases e
    | _ => cases e
def allD : D → Option D
  | .lst xs => match blsD xs with
    | some bs => some (.bl (allB bs))
    | none => none
  | _ => none
def anyD : D → Option D
  | .lst xs => match blsD xs with
    | some bs => some (.bl (anyB bs))
    | none => none
  | _ => none
theorem ok_all : BuOk X z (rAll X.K) (b1 allD) := bu1 fun F m μ ρ σ H x v d Qd Q S vx e q k => by
  unfold allD at e
  split at e
  · split at e
    · rename_i bs hb
      injection e with e
      subst e
      obtain ⟨a, vs, rfl, h1, r1⟩ := vx.list S.same
      rw [r1.bls hb] at h1
      refine ⟨a, bs, rfl, SqL.of h1, ?_⟩
      have : bs.all id = allB bs := allB_eq bs
      rw [this]
      exact k.now S .bl q
    · cases e
  · cases e
theorem ok_any : BuOk X z (rAny X.K) (b1 anyD) := bu1 fun F m μ ρ σ H x v d Qd Q S vx e q k => by
  unfold anyD at e
  split at e
  · split at e
    · rename_i bs hb
      injection e with e
      subst e
      obtain ⟨a, vs, rfl, h1, r1⟩ := vx.list S.same
      rw [r1.bls hb] at h1
      refine ⟨a, bs, rfl, SqL.of h1, ?_⟩
      have : bs.any id = anyB bs := anyB_eq bs
      rw [this]
      exact k.now S .bl q
    · cases e
  · cases e
/-! ### ints -/
def absD : D → Option D
  | .int i => some (.int (match decide (i < 0) with | true => -i | false => i))
  | _ => none
def rAbs : List V → Hp → VK → Prop := fun xs H Q => ∃ i, xs = [V.int i] ∧ Q (.int (if i < 0 then -i else i)) H
theorem ok_abs : BuOk X z rAbs (b1 absD) := bu1 fun F m μ ρ σ H x v d Qd Q S vx e q k => by
  unfold absD at e
  split at e
  · rename_i i
    injection e with e
    subst e
    refine ⟨i, by rw [vx.int], ?_⟩
    have : (if i < 0 then -i else i) = (match decide (i < 0) with | true => -i | false => i) := by
      by_cases h : i < 0
      · rw [if_pos h, decide_eq_true h]
      · rw [if_neg h, decide_eq_false h]
    rw [this]
    exact k.now S .int q
  · cases e
def maxD (a b : D) : Option D := match a, b with
  | .int i, .int j => some (.int (match decide (j > i) with | true => j | false => i))
  | _, _ => none
def minD (a b : D) : Option D := match a, b with
  | .int i, .int j => some (.int (match decide (j < i) with | true => j | false => i))
  | _, _ => none
def rMax2 : List V → Hp → VK → Prop := fun xs H Q => ∃ i j, xs = [V.int i, .int j] ∧ Q (.int (if j > i then j else i)) H
def rMin2 : List V → Hp → VK → Prop := fun xs H Q => ∃ i j, xs = [V.int i, .int j] ∧ Q (.int (if j < i then j else i)) H
theorem ok_max2 : BuOk X z rMax2 (b2' maxD) := bu2 fun F m μ ρ σ H x y v u d Qd Q S vx vy e q k => by
  unfold maxD at e
  split at e
  · rename_i i j
    injection e with e
    subst e
    refine ⟨i, j, by rw [vx.int, vy.int], ?_⟩
    have : (if j > i then j else i) = (match decide (j > i) with | true => j | false => i) := by
      by_cases h : j > i
      · rw [if_pos h, decide_eq_true h]
      · rw [if_neg h, decide_eq_false h]
    rw [this]
    exact k.now S .int q
  · cases e
theorem ok_min2 : BuOk X z rMin2 (b2' minD) := bu2 fun F m μ ρ σ H x y v u d Qd Q S vx vy e q k => by
  unfold minD at e
  split at e
  · rename_i i j
    injection e with e
    subst e
    refine ⟨i, j, by rw [vx.int, vy.int], ?_⟩
    have : (if j < i then j else i) = (match decide (j < i) with | true => j | false => i) := by
      by_cases h : j < i
      · rw [if_pos h, decide_eq_true h]
      · rw [if_neg h, decide_eq_false h]
    rw [this]
    exact k.now S .int q
  · cases e
def digB : Tx → Bool
  | [] => true
  | c :: r => match Nat.ble 48 c && Nat.ble c 57 with
    | true => digB r
    | false => false
def valN : Nat → Tx → Nat
  | n, [] => n
  | n, c :: r => valN (n * 10 + (c - 48)) r
def intD : D → Option D
  | .int i => some (.int i)
  | .bl b => some (.int (b2 b))
  | .str s => match s, digB s, Nat.ble s.length 640 with
    | [], _, _ => none
    | _, true, true => some (.int (valN 0 s))
    | _, _, _ => none
  | _ => none
def rInt : List V → Hp → VK → Prop := fun xs H Q => ((∃ i, xs = [V.int i] ∧ Q (.int i) H) ∨ ∃ k, xs = [V.bl k] ∧ Q (.int (if k then 1 else 0)) H) ∨ (∃ a n, xs = [V.str a] ∧ PySem.intText? a = some n ∧ a.length ≤ 640 ∧ Q (.int n) H)
theorem c_int : CallR X (.type "int") rInt := CallR.or call_int1 call_int_str
theorem digB_all : ∀ {s : Tx}, digB s = true → s.all (fun c => decide (48 ≤ c) && decide (c ≤ 57)) = true
  | [], _ => rfl
  | c :: r, h => by
    unfold digB at h
    split at h
    · rename_i h1
      rw [Bool.and_eq_true] at h1
      have a1 := Nat.le_of_ble_eq_true h1.1
      have a2 := Nat.le_of_ble_eq_true h1.2
      rw [List.all_cons, digB_all h]
      simp [a1, a2]
    · cases h
theorem valN_eq (s : Tx) : valN 0 s = NumText.digitsVal s := by
  have : ∀ (s : Tx) (n : Nat), valN n s = s.foldl (fun acc c => acc * 10 + (c - 48)) n := by
    intro s
    induction s with
    | nil => intro n; rfl
    | cons c r ih => intro n; exact ih _
  rw [this]
  rfl
theorem ok_int : BuOk X z rInt (b1 intD) := bu1 fun F m μ ρ σ H x v d Qd Q S vx e q k => by
  unfold intD at e
  split at e
  · injection e with e
    subst e
    exact .inl (.inl ⟨_, by rw [vx.int], k.now S .int q⟩)
  · rename_i b
    injection e with e
    subst e
    refine .inl (.inr ⟨b, by rw [vx.bl], ?_⟩)
    have : (if b = true then (1 : Int) else 0) = b2 b := by cases b <;> rfl
    rw [this]
    exact k.now S .int q
  · rename_i s
    split at e
    · cases e
    · rename_i hne h1 h2
      injection e with e
      subst e
      refine .inr ⟨tx _, valN 0 _, by rw [vx.str], ?_, by rw [tx_len]; exact Nat.le_of_ble_eq_true h2, k.now S .int q⟩
      rw [valN_eq]
      exact SX.int_S (digB_all h1) (fun e => hne e) (Nat.le_trans (Nat.le_of_ble_eq_true h2) (by decide))
    · cases e
  · cases e
end
end Pk

/-! The data layer, part L: str(int), divmod, list, tuple, dict, sorted, isinstance. -/
namespace Pk
open PySem PySem.Spec PyProof.Rows L2
section
variable {X : Cx} {z : Zx}
/-! ### str(int) -/
def digN : Nat → Nat → Tx → Tx
  | 0, _, acc => acc
  | f + 1, n, acc => match Nat.blt n 10 with
    | true => (48 + n) :: acc
    | false => digN f (n / 10) ((48 + n % 10) :: acc)
def small : List Tx := (List.range 200).map fun n => digN 4 n []
/-! ### divmod -/
def divmodD (a b : D) : Option D := match a, b with
  | .int i, .int j => match decide (0 < j), decide (j < 1073741824) with
    | true, true => some (.tup [.int (i / j), .int (i % j)])
    | _, _ => none
  | _, _ => none
def rDivmod : List V → Hp → VK → Prop := fun xs H Q => ∃ i j, xs = [V.int i, .int j] ∧ CDiv i j ∧ ∀ p, H p = none → Q (.ref p) (upd H p (.tup [.int (i / j), .int (i % j)]))
theorem ok_divmod : BuOk X z rDivmod (b2' divmodD) := bu2 fun F m μ ρ σ H x y v u d Qd Q S vx vy e q k => by
  unfold divmodD at e
  split at e
  · rename_i i j
    split at e
    · rename_i h1 h2
      injection e with e
      subst e
      exact ⟨i, j, by rw [vx.int, vy.int], ⟨of_decide_eq_true h1, of_decide_eq_true h2⟩, fun p hp => k.tup S hp (.cons .int (.cons .int .nil)) q⟩
    · cases e
  · cases e
/-! ### list, tuple -/
def keyD : DK → D
  | .ki i => .int i
  | .ks s => .str s
def keysD : List (DK × D) → List D
  | [] => []
  | (k, _) :: r => keyD k :: keysD r
def itemsOf : D → Option (List D)
  | .lst xs => some xs
  | .tup xs => some xs
  | .scr xs => some (xs.map .int)
  | .dct kvs => some (keysD kvs)
  | _ => none
def rListA (K : PySem.W.Frag) : List V → Hp → VK → Prop := fun xs H Q => (∃ p ys, xs = [V.ref p] ∧ (SqL K H p ys ∨ SqT K H p ys) ∧ ∀ l, H l = none → Q (.ref l) (upd H l (.lst ys))) ∨
  (∃ (a : Addr) (kvs : List (Key × V)), xs = [.ref a] ∧ Rd H a (.dK kvs) ∧ ∀ p, H p = none → Q (.ref p) (upd H p (.lst (kvs.map fun kv => kV kv.1))))
theorem c_list (hc : X.calm = true) : CallR X (.type "list") (rListA X.K) := CallR.or call_list_of (call_listD hc)
theorem RepK.keys {K : PySem.W.Frag} {T : Tab} {F : Hp} {m : List Addr} : ∀ {ds : List (DK × D)} {vs : List (Key × V)}, RepK K T F m ds vs → Reps K T F m (keysD ds) (vs.map fun kv => kV kv.1)
  | _, _, .nil => .nil
  | _, _, .cons (k := k) h r => .cons (by cases k <;> constructor) (RepK.keys r)
theorem ok_list {own : Bool} : BuOk X z (rListA X.K) (b1L own itemsOf) := bu1L fun F m μ ρ σ H x v ds Qd Q S vx e q k => by
  unfold itemsOf at e
  split at e
  · injection e with e
    subst e
    obtain ⟨a, vs, rfl, h1, r1⟩ := vx.list S.same
    exact .inl ⟨a, vs, rfl, .inl (SqL.of h1), fun l hl => give_new k S hl r1 q⟩
  · injection e with e
    subst e
    obtain ⟨a, vs, rfl, h1, r1⟩ := vx.tup S.same
    exact .inl ⟨a, vs, rfl, .inr h1, fun l hl => give_new k S hl r1 q⟩
  · injection e with e
    subst e
    obtain ⟨a, rfl, h1⟩ := vx.scr S.same
    exact .inl ⟨a, _, rfl, .inl h1, fun l hl => give_new k S hl (reps_ints _) q⟩
  · injection e with e
    subst e
    obtain ⟨a, vs, rfl, h1, r1⟩ := vx.dict S.same
    exact .inr ⟨a, vs, rfl, h1, fun l hl => give_new k S hl r1.keys q⟩
  · cases e
def tupD : D → Option D
  | .lst xs => some (.tup xs)
  | .tup xs => some (.tup xs)
  | .scr xs => some (.tup (xs.map .int))
  | _ => none
def rTuple (K : PySem.W.Frag) : List V → Hp → VK → Prop := fun xs H Q => ∃ p ys, xs = [V.ref p] ∧ ((SqL K H p ys ∧ ∀ l, H l = none → Q (.ref l) (upd H l (.tup ys))) ∨ (SqT K H p ys ∧ Q (.ref p) H))
theorem ok_tuple : BuOk X z (rTuple X.K) (b1 tupD) := bu1 fun F m μ ρ σ H x v d Qd Q S vx e q k => by
  unfold tupD at e
  split at e
  · injection e with e
    subst e
    obtain ⟨a, vs, rfl, h1, r1⟩ := vx.list S.same
    exact ⟨a, vs, rfl, .inl ⟨SqL.of h1, fun l hl => k.tup S hl r1 q⟩⟩
  · injection e with e
    subst e
    cases vx with
    | of r =>
      cases r with
      | tup h r => exact ⟨_, _, rfl, .inr ⟨Same.sqt S.same h, k.now S (.tup h r) q⟩⟩
  · injection e with e
    subst e
    obtain ⟨a, rfl, h1⟩ := vx.scr S.same
    exact ⟨a, _, rfl, .inl ⟨h1, fun l hl => k.tup S hl (reps_ints _) q⟩⟩
  · cases e
/-! ### sorted -/
def insJ (x : Int) : List Int → List Int
  | [] => [x]
  | y :: r => match decide (x ≤ y) with
    | true => x :: y :: r
    | false => y :: insJ x r
def sortJ : List Int → List Int
  | [] => []
  | x :: r => insJ x (sortJ r)
theorem insJ_perm (x : Int) : ∀ l, (insJ x l).Perm (x :: l)
  | [] => .refl _
  | y :: r => by
    unfold insJ
    split
    · exact .refl _
    · exact ((insJ_perm x r).cons y).trans (.swap x y r)
theorem sortJ_perm : ∀ l, (sortJ l).Perm l
  | [] => .refl _
  | x :: r => (insJ_perm x _).trans ((sortJ_perm r).cons x)
theorem insJ_rises (x : Int) : ∀ l, l.Pairwise (· ≤ ·) → (insJ x l).Pairwise (· ≤ ·)
  | [], _ => List.pairwise_singleton _ _
  | y :: r, h => by
    unfold insJ
    split
    · rename_i hd
      have hd := of_decide_eq_true hd
      refine .cons (fun w hw => ?_) h
      rcases List.mem_cons.mp hw with rfl | hw
      · exact hd
      · exact Int.le_trans hd ((List.pairwise_cons.mp h).1 w hw)
    · rename_i hd
      have hd := of_decide_eq_false hd
      obtain ⟨h1, h2⟩ := List.pairwise_cons.mp h
      refine .cons (fun w hw => ?_) (insJ_rises x r h2)
      rcases List.mem_cons.mp ((insJ_perm x r).mem_iff.mp hw) with rfl | hw
      · omega
      · exact h1 w hw
theorem sortJ_rises : ∀ l, (sortJ l).Pairwise (· ≤ ·)
  | [] => .nil
  | x :: r => insJ_rises x _ (sortJ_rises r)
theorem eq_sortJ {ns ns' : List Int} (hp : ns'.Perm ns) (hs : ns'.Pairwise (· ≤ ·)) : ns' = sortJ ns :=
  List.Perm.eq_of_pairwise (fun _ _ _ _ a b => Int.le_antisymm a b) hs (sortJ_rises ns) (hp.trans (sortJ_perm ns).symm)
def sortedD : D → Option (List D)
  | .lst xs => match intsD xs with
    | some ns => some ((sortJ ns).map .int)
    | none => none
  | _ => none
theorem ok_sorted {own : Bool} : BuOk X z (rSortedI X.K) (b1L own sortedD) := bu1L fun F m μ ρ σ H x v ds Qd Q S vx e q k => by
  unfold sortedD at e
  split at e
  · split at e
    · rename_i ns hb
      injection e with e
      subst e
      obtain ⟨a, vs, rfl, h1, r1⟩ := vx.list S.same
      rw [r1.ints hb] at h1
      refine ⟨a, ns, rfl, SqL.of h1, fun ns' p hp hs hn => ?_⟩
      rw [eq_sortJ hp hs]
      exact give_new k S hn (reps_ints _) q
    · cases e
  · cases e
/-! ### isinstance -/
def tyOf : D → Option Ty
  | .bl _ => some .bool
  | .int _ => some .int
  | .str _ => some .str
  | .tup _ => some .tup
  | .lst _ => some .lst
  | .scr _ => some .lst
  | .dct _ => some .dict
  | _ => none
def subTy : Ty → Ty → Bool
  | .int, .int => true
  | .bool, .int => true
  | .bool, .bool => true
  | .str, .str => true
  | .tup, .tup => true
  | .lst, .lst => true
  | .dict, .dict => true
  | _, _ => false
def isiD (x y : D) : Option D := match y with
  | .ty t => match x with
    | .non => some (.bl false)
    | _ => match tyOf x with
      | some t' => some (.bl (subTy t' t))
      | none => none
  | _ => none
theorem kit_sub (K : PySem.W.Frag) (t t' : Ty) : PySem.W.kitOne K (.type t.nm) (.type t'.nm) = some (subTy t t') := by
  apply kit_ty
  cases t <;> cases t' <;> decide +kernel
theorem kit_non (K : PySem.W.Frag) (t' : Ty) : PySem.W.kitOne K (.type "NoneType") (.type t'.nm) = some false := by
  apply kit_ty
  cases t' <;> decide +kernel
theorem Vw.tyx {K : PySem.W.Frag} {T : Tab} {F : Hp} {m : List Addr} {H : Hp} (s : Same F H) {x : D} {v : V} {t : Ty} (r : Vw K T F m H x v) (h : tyOf x = some t) : TyX K H v (.type t.nm) := by
  unfold tyOf at h
  split at h <;> first | (injection h with h; subst h) | cases h
  · rw [r.bl]; exact .base (.bl _)
  · rw [r.int]; exact .base (.int _)
  · rw [r.str]; exact .base (.str _)
  · obtain ⟨a, vs, rfl, h1, _⟩ := r.tup s
    rcases h1 with (h1 | ⟨o, h1⟩) | ⟨o, _, _, h1, h2, _⟩
    · exact .base (.tup h1)
    · exact .fTuple h1
    · exact .kTuple h1 h2
  · obtain ⟨a, vs, rfl, h1, _⟩ := r.list s
    exact .base (.lst h1)
  · obtain ⟨a, rfl, h1⟩ := r.scr s
    rcases h1 with (h1 | ⟨o, h1⟩) | ⟨o, _, _, h1, h2, _⟩
    · exact .base (.lst h1)
    · exact .base (.frz h1)
    · exact .kList h1 h2
  · obtain ⟨a, vs, rfl, h1, _⟩ := r.dict s
    rcases h1 with h1 | ⟨o, h1⟩
    · exact .base (.dK h1)
    · exact .fDict h1
theorem ok_isi : BuOk X z (rIsi X.K) (b2' isiD) := bu2 fun F m μ ρ σ H x y v u d Qd Q S vx vy e q k => by
  unfold isiD at e
  split at e
  · rename_i t
    split at e
    · injection e with e
      subst e
      refine ⟨v, u, _, _, false, rfl, ?_, ?_, kit_non X.K t, k.now S .bl q⟩
      · rw [vy.ty]; exact .ty _
      · rw [vx.non]; exact .base .non
    · split at e
      · rename_i t' ht
        injection e with e
        subst e
        refine ⟨v, u, _, _, _, rfl, ?_, vx.tyx S.same ht, kit_sub X.K t' t, k.now S .bl q⟩
        rw [vy.ty]; exact .ty _
      · cases e
  · cases e
end
end Pk

/-! The data layer, part M1: writing into the store, freezing. -/
namespace Pk
open PySem PySem.Spec PyProof.Rows L2
section
variable {K : PySem.W.Frag} {T : Tab} {F0 F F' H0 : Hp} {m0 m m' : List Addr} {μ μ' : Sto} {ρ : Slots} {σ : L2.St} {H H' : Hp} {p a : Addr} {ds : List D} {vs : List V} {k : Nat}
theorem MRep.mut {o : MO} (h : MRep K T F m H a o) (n : o ≠ .gone) (nf : o.isFz = false) : (∃ vs, H a = some (.lst vs)) ∨ (∃ vs, H a = some (.dK vs)) ∨ (∃ vs, H a = some (.dT vs)) ∨ ∃ C dx fs, H a = some (.ins C dx fs) := by
  cases o with
  | lst ds => obtain ⟨vs, e, _⟩ := h; exact .inl ⟨_, e⟩
  | dct ds => obtain ⟨vs, e, _⟩ := h; exact .inr (.inl ⟨_, e⟩)
  | ins c ds => obtain ⟨dx, vs, e, _⟩ := h; exact .inr (.inr (.inr ⟨_, _, _, e⟩))
  | fz d => cases nf
  | gone => exact absurd rfl n
  | dtp ds => obtain ⟨vs, e, _⟩ := h; exact .inr (.inr (.inl ⟨_, e⟩))
/-- a thing of the store is written -/
theorem Sim.wr {o o' : MO} {u : HO} (S : Sim K T F0 m0 H0 F m μ ρ σ H) (e : m[k]? = some a) (q : μ[k]? = some o) (n : o ≠ .gone) (nf : o.isFz = false) (r : MRep K T F m (upd H a u) a o') (nf' : o'.isFz = false := by rfl) (ng : o' ≠ .gone := by exact fun z => nomatch z) :
    Ext F m H F m (upd H a u) ∧ Sim K T F0 m0 H0 F m (μ.set k o') ρ σ (upd H a u) := by
  obtain ⟨s1, s2⟩ := S.sto k a o e q n
  have fa := s1 nf
  have hm := MRep.mut s2 n nf
  have no : ∀ b, H a ≠ some (.own b) := fun b z => by
    rcases hm with ⟨_, h⟩ | ⟨_, h⟩ | ⟨_, h⟩ | ⟨_, _, _, h⟩ <;> rw [h] at z <;> cases z
  have ma : a ∈ m := List.mem_of_getElem? e
  have ut : isTb u = false := by
    obtain ⟨u', e1, e2⟩ := r.at ng nf'
    rw [upd_same] at e1
    injection e1 with e1
    subst e1
    exact isTb_mut e2
  have x : Ext F m H F m (upd H a u) := ⟨Gr.refl F m, fun b v e1 _ e2 h => ⟨by rw [upd_ne (fun z => h (by rw [z]; exact ma))]; exact e1, e2, h⟩, Up.upd no (.inr ut)⟩
  refine ⟨x, S.ext.trans x, fun b v e1 => ?_, by rw [List.length_set]; exact S.len, S.nd, fun b h => ?_, fun i b v e1 e2 n1 => ?_, S.sl, S.slot, by
    rcases hm with ⟨_, h⟩ | ⟨_, h⟩ | ⟨_, h⟩ | ⟨_, _, _, h⟩ <;> exact ⟨tabs_upd S.tabs.tb h trivial (fun _ z => nomatch z), S.tabs.nt⟩⟩
  · rw [upd_ne fun z => ?_]
    · exact S.same b v e1
    · rw [z, fa] at e1
      cases e1
  · by_cases w : b = a
    · exact ⟨u, by rw [w, upd_same], ut⟩
    · obtain ⟨v, e1, e2⟩ := S.al b h
      exact ⟨v, by rw [upd_ne w]; exact e1, e2⟩
  · by_cases hk : k = i
    · subst hk
      rw [e] at e1
      cases e1
      have hl : k < μ.length := (List.getElem?_eq_some_iff.mp q).1
      rw [List.getElem?_set_self hl] at e2
      cases e2
      exact ⟨fun _ => fa, r⟩
    · rw [List.getElem?_set_ne hk] at e2
      obtain ⟨h1, h2⟩ := S.sto i b v e1 e2 n1
      have nb : b ≠ a := fun z => by
        subst z
        have l1 := (List.getElem?_eq_some_iff.mp e).1
        have l2 := (List.getElem?_eq_some_iff.mp e1).1
        have g1 := (List.getElem?_eq_some_iff.mp e).2
        have g2 := (List.getElem?_eq_some_iff.mp e1).2
        exact hk ((List.getElem_inj S.nd).mp (g1.trans g2.symm))
      refine ⟨h1, ?_⟩
      cases v with
      | lst ds => obtain ⟨vs, e, r⟩ := h2; exact ⟨vs, by rw [upd_ne nb]; exact e, r⟩
      | dct ds => obtain ⟨vs, e, r⟩ := h2; exact ⟨vs, by rw [upd_ne nb]; exact e, r⟩
      | ins c ds =>
        obtain ⟨dx, vs, e, e2, n, l, r⟩ := h2
        have nd : dx ≠ a := fun z => no b (z ▸ e2)
        exact ⟨dx, vs, by rw [upd_ne nb]; exact e, by rw [upd_ne nd]; exact e2, n, l, r⟩
      | fz d => exact h2
      | gone => trivial
      | dtp ds => obtain ⟨vs, e, r⟩ := h2; exact ⟨vs, by rw [upd_ne nb]; exact e, r⟩
/-- what stands in the heap is frozen: F grows by what lies at a -/
theorem Sim.ice {o : HO} (ho : isTb o = false) (S : Sim K T F0 m0 H0 F m μ ρ σ H) (ha : H a = some o) (hf : F a = none) (hk : ∀ (k : Nat) (o' : MO), m[k]? = some a → μ[k]? = some o' → o' ≠ .gone → o'.isFz = true)
    (hd : ∀ (k : Nat) (b : Addr) (dx : Addr), m[k]? = some b → H dx = some (.own b) → dx = a → μ[k]? = some .gone ∨ μ[k]? = none) (hx : ∀ v, H0 a = some v → fxO v = true → F0 a = none → a ∈ m0) : Sim K T F0 m0 H0 (upd F a o) m μ ρ σ H := by
  have g : Gr F m (upd F a o) m := ⟨upd_keep hf, [], by simp⟩
  refine ⟨⟨S.ext.gr.trans g, fun b v e w n h => ?_, S.ext.up⟩, fun b v e => ?_, S.len, S.nd, S.al, fun i b v e1 e2 n => ?_, S.sl, fun i d e => ?_, S.tabs.put ho⟩
  · obtain ⟨e1, n1, h1⟩ := S.ext.frm b v e w n h
    refine ⟨e1, ?_, h1⟩
    rw [upd_ne fun z => ?_]
    · exact n1
    · subst z
      exact h (hx v e w n)
  · by_cases w : b = a
    · rw [w, upd_same] at e
      rw [w, ha]
      exact e
    · rw [upd_ne w] at e
      exact S.same b v e
  · obtain ⟨h1, h2⟩ := S.sto i b v e1 e2 n
    refine ⟨fun nf => ?_, ?_⟩
    · rw [upd_ne fun z => ?_]
      · exact h1 nf
      · subst z
        rw [hk i v e1 e2 n] at nf
        cases nf
    · cases v with
      | lst ds => obtain ⟨vs, e, r⟩ := h2; exact ⟨vs, e, r.mono g⟩
      | dct ds => obtain ⟨vs, e, r⟩ := h2; exact ⟨vs, e, r.mono g⟩
      | ins c ds =>
        obtain ⟨dx, vs, e, e3, n3, l, r⟩ := h2
        exact ⟨dx, vs, e, e3, trivial, l, r.mono g⟩
      | fz d => exact Rep.mono g h2
      | gone => trivial
      | dtp ds => obtain ⟨vs, e, r⟩ := h2; exact ⟨vs, e, r.mono g⟩
  · obtain ⟨v, h1, h2⟩ := S.slot i d e
    exact ⟨v, h1, h2.mono g⟩
/-- a mref's thing is known to be frozen data -/
theorem Sim.setFz {d : D} (S : Sim K T F0 m0 H0 F m μ ρ σ H) (e : m[k]? = some a) (r : Rep K T F m d (.ref a)) : Sim K T F0 m0 H0 F m (μ.set k (.fz d)) ρ σ H := by
  refine ⟨S.ext, S.same, by rw [List.length_set]; exact S.len, S.nd, S.al, fun i b v e1 e2 n1 => ?_, S.sl, S.slot, S.tabs⟩
  by_cases hk : k = i
  · subst hk
    rw [e] at e1
    cases e1
    have hl : k < μ.length := by
      have := (List.getElem?_eq_some_iff.mp e2).1
      simpa using this
    rw [List.getElem?_set_self hl] at e2
    cases e2
    exact ⟨fun z => (by cases z), r⟩
  · rw [List.getElem?_set_ne hk] at e2
    exact S.sto i b v e1 e2 n1
end

/-! ### deep freezing -/
def mapS (f : Sto → D → D × Sto) : List D → Sto → List D × Sto
  | [], μ => ([], μ)
  | d :: ds, μ => match f μ d with
    | (d', μ1) => match mapS f ds μ1 with
      | (ds', μ2) => (d' :: ds', μ2)
def mapKS (f : Sto → D → D × Sto) : List (DK × D) → Sto → List (DK × D) × Sto
  | [], μ => ([], μ)
  | (q, d) :: ds, μ => match f μ d with
    | (d', μ1) => match mapKS f ds μ1 with
      | (ds', μ2) => ((q, d') :: ds', μ2)
def deepD : Nat → Sto → D → D × Sto
  | 0, μ, d => (d, μ)
  | n + 1, μ, d => match d with
    | .mref k => match μ[k]? with
      | some (.fz d) => (d, μ)
      | some (.lst ds) => match mapS (deepD n) ds (μ.set k .gone) with
        | (ds', μ1) => (.lst ds', μ1.set k (.fz (.lst ds')))
      | some (.dct ds) => match mapKS (deepD n) ds (μ.set k .gone) with
        | (ds', μ1) => (.dco ds', μ1.set k (.fz (.dco ds')))
      | some (.ins c ds) => match mapS (deepD n) ds (μ.set k .gone) with
        | (ds', μ1) => (.ins c ds', μ1.set k (.fz (.ins c ds')))
      | _ => (.mref k, μ)
    | d => (d, μ)
section
variable {K : PySem.W.Frag} {T : Tab} {F0 F F' H0 : Hp} {m0 m m' : List Addr} {μ μ' : Sto} {ρ : Slots} {σ : L2.St} {H H' : Hp} {p a : Addr} {ds : List D} {vs : List V} {k : Nat}
theorem Sim.forget (S : Sim K T F0 m0 H0 F m μ ρ σ H) (k : Nat) : Sim K T F0 m0 H0 F m (μ.set k .gone) ρ σ H := by
  refine ⟨S.ext, S.same, by rw [List.length_set]; exact S.len, S.nd, S.al, fun i b v e1 e2 n1 => ?_, S.sl, S.slot, S.tabs⟩
  by_cases hk : k = i
  · subst hk
    have hl : k < μ.length := by
      have := (List.getElem?_eq_some_iff.mp e2).1
      simpa using this
    rw [List.getElem?_set_self hl] at e2
    cases e2
    exact absurd rfl n1
  · rw [List.getElem?_set_ne hk] at e2
    exact S.sto i b v e1 e2 n1
theorem Sim.hxm (S : Sim K T F0 m0 H0 F m μ ρ σ H) (ma : a ∈ m) : ∀ v, H0 a = some v → fxO v = true → F0 a = none → a ∈ m0 := fun v e w n => by
  by_cases h : a ∈ m0
  · exact h
  · exact absurd ma (S.ext.frm a v e w n h).2.2
theorem nd_eq {i j : Nat} (nd : m.Nodup) (e1 : m[i]? = some a) (e2 : m[j]? = some a) : i = j := by
  have g1 := (List.getElem?_eq_some_iff.mp e1).2
  have g2 := (List.getElem?_eq_some_iff.mp e2).2
  exact (List.getElem_inj nd).mp (g1.trans g2.symm)
/-- .. at a place of the store that is given up -/
theorem Sim.iceM {o : HO} (S : Sim K T F0 m0 H0 F m μ ρ σ H) (e : m[k]? = some a) (ha : H a = some o) (no : ∀ b, o ≠ .own b) (hg : ∀ v, μ[k]? = some v → v = .gone) : ∃ F', F' a = some o ∧ Ext F m H F' m H ∧ Sim K T F0 m0 H0 F' m μ ρ σ H := by
  cases hf : F a with
  | some o' =>
    have := S.same a o' hf
    rw [ha] at this
    cases this
    exact ⟨F, hf, Ext.refl _ _ _, S⟩
  | none =>
    have ma : a ∈ m := List.mem_of_getElem? e
    refine ⟨upd F a o, upd_same, ⟨⟨upd_keep hf, [], by simp⟩, fun b v e1 w n h => ⟨e1, by rw [upd_ne (fun z => h (by rw [z]; exact ma))]; exact n, h⟩, Up.refl H⟩, S.ice (by obtain ⟨o2, z1, z2⟩ := S.al a ma; rw [ha] at z1; cases z1; exact z2) ha hf (fun i o' e1 e2 n => ?_) (fun i b dx e1 e2 z => ?_) (S.hxm ma)⟩
    · have := nd_eq S.nd e e1
      subst this
      exact absurd (hg _ e2) n
    · rw [z, ha] at e2
      injection e2 with e2
      exact absurd e2 (no b)
theorem Sim.iceO {dx : Addr} (S : Sim K T F0 m0 H0 F m μ ρ σ H) (e : m[k]? = some a) (ha : H dx = some (.own a)) (hg : ∀ v, μ[k]? = some v → v = .gone) : ∃ F', F' dx = some (.own a) ∧ Ext F m H F' m H ∧ Sim K T F0 m0 H0 F' m μ ρ σ H := by
  cases hf : F dx with
  | some o' =>
    have := S.same dx o' hf
    rw [ha] at this
    cases this
    exact ⟨F, hf, Ext.refl _ _ _, S⟩
  | none =>
    refine ⟨upd F dx (.own a), upd_same, ⟨⟨upd_keep hf, [], by simp⟩, fun b v e1 w n h => ⟨e1, ?_, h⟩, Up.refl H⟩, S.ice rfl ha hf (fun i o' e1 e2 n => ?_) (fun i b dx e1 e2 z => ?_) (fun v e1 w n => ?_)⟩
    · rw [upd_ne (fun z => ?_)]
      · exact n
      · rw [z, ha] at e1
        injection e1 with e1
        subst e1
        cases w
    · cases nf : o'.isFz with
      | true => rfl
      | false =>
        obtain ⟨_, h2⟩ := S.sto i dx o' e1 e2 n
        rcases MRep.mut h2 n nf with ⟨_, h⟩ | ⟨_, h⟩ | ⟨_, h⟩ | ⟨_, _, _, h⟩ <;> rw [ha] at h <;> cases h
    · rw [z, ha] at e2
      injection e2 with e2
      injection e2 with e2
      subst e2
      have := nd_eq S.nd e e1
      subst this
      cases q : μ[k]? with
      | none => exact .inr rfl
      | some v => exact .inl (by rw [hg v q])
    · by_cases h : dx ∈ m0
      · exact h
      · have := (S.ext.frm dx v e1 w n h).1
        rw [ha] at this
        injection this with this
        subst this
        cases w
def DeepOk (K : PySem.W.Frag) (T : Tab) (f : Sto → D → D × Sto) : Prop := ∀ {F0 F H0 : Hp} {m0 m : List Addr} {μ : Sto} {ρ : Slots} {σ : L2.St} {H : Hp} {d : D} {v : V}, Sim K T F0 m0 H0 F m μ ρ σ H → Rep K T F m d v →
  ∃ F', Ext F m H F' m H ∧ Sim K T F0 m0 H0 F' m (f μ d).2 ρ σ H ∧ Rep K T F' m (f μ d).1 v
theorem mapS_ok {f : Sto → D → D × Sto} (ok : DeepOk K T f) {F0 H0 : Hp} {m0 m : List Addr} {ρ : Slots} {σ : L2.St} {H : Hp} : ∀ {ds : List D} {vs : List V} {F : Hp} {μ : Sto}, Sim K T F0 m0 H0 F m μ ρ σ H → Reps K T F m ds vs →
    ∃ F', Ext F m H F' m H ∧ Sim K T F0 m0 H0 F' m (mapS f ds μ).2 ρ σ H ∧ Reps K T F' m (mapS f ds μ).1 vs
  | _, _, F, μ, S, .nil => ⟨F, Ext.refl _ _ _, S, .nil⟩
  | _, _, F, μ, S, .cons (d := d) (ds := ds) h r => by
    obtain ⟨F1, x1, S1, r1⟩ := ok S h
    obtain ⟨F2, x2, S2, r2⟩ := mapS_ok ok S1 (r.mono x1.gr)
    exact ⟨F2, x1.trans x2, S2, .cons (r1.mono x2.gr) r2⟩
theorem mapKS_ok {f : Sto → D → D × Sto} (ok : DeepOk K T f) {F0 H0 : Hp} {m0 m : List Addr} {ρ : Slots} {σ : L2.St} {H : Hp} : ∀ {ds : List (DK × D)} {vs : List (Key × V)} {F : Hp} {μ : Sto}, Sim K T F0 m0 H0 F m μ ρ σ H → RepK K T F m ds vs →
    ∃ F', Ext F m H F' m H ∧ Sim K T F0 m0 H0 F' m (mapKS f ds μ).2 ρ σ H ∧ RepK K T F' m (mapKS f ds μ).1 vs
  | _, _, F, μ, S, .nil => ⟨F, Ext.refl _ _ _, S, .nil⟩
  | _, _, F, μ, S, .cons (d := d) (ds := ds) h r => by
    obtain ⟨F1, x1, S1, r1⟩ := ok S h
    obtain ⟨F2, x2, S2, r2⟩ := mapKS_ok ok S1 (RepK.mono x1.gr r)
    exact ⟨F2, x1.trans x2, S2, .cons (r1.mono x2.gr) r2⟩
theorem deep_ok (K : PySem.W.Frag) (T : Tab) : ∀ n, DeepOk K T (deepD n)
  | 0 => fun S r => ⟨_, Ext.refl _ _ _, S, r⟩
  | n + 1 => by
    intro S r
    rename_i F0 F H0 m0 m μ ρ σ H d v
    cases r with
    | mref e =>
      rename_i k a
      cases q : μ[k]? with
      | none =>
        simp only [deepD, q]
        exact ⟨_, Ext.refl _ _ _, S, .mref e⟩
      | some o =>
        cases o with
        | fz d =>
          simp only [deepD, q]
          exact ⟨_, Ext.refl _ _ _, S, (S.sto k a _ e q (fun z => nomatch z)).2⟩
        | gone =>
          simp only [deepD, q]
          exact ⟨_, Ext.refl _ _ _, S, .mref e⟩
        | dct kvs =>
          obtain ⟨_, vs, h1, h2⟩ := S.sto k a _ e q (fun z => nomatch z)
          obtain ⟨F1, x1, S1, r1⟩ := mapKS_ok (deep_ok K T n) (S.forget k) h2
          obtain ⟨F2, f2, x2, S2⟩ := (S1.forget k).iceM e h1 (fun b z => nomatch z) fun v hv => by
            have hl := (List.getElem?_eq_some_iff.mp hv).1
            rw [List.getElem?_set_self (by simpa using hl)] at hv
            exact (Option.some.inj hv).symm
          have r2 : Rep K T F2 m (.dco (mapKS (deepD n) kvs (μ.set k .gone)).1) (.ref a) := .dco f2 (RepK.mono x2.gr r1)
          have S3 := S2.setFz e r2
          rw [List.set_set] at S3
          simp only [deepD, q]
          exact ⟨F2, x1.trans x2, S3, r2⟩
        | dtp kvs =>
          simp only [deepD, q]
          exact ⟨_, Ext.refl _ _ _, S, .mref e⟩
        | lst ds =>
          obtain ⟨_, vs, h1, h2⟩ := S.sto k a _ e q (fun z => nomatch z)
          obtain ⟨F1, x1, S1, r1⟩ := mapS_ok (deep_ok K T n) (S.forget k) h2
          obtain ⟨F2, f2, x2, S2⟩ := (S1.forget k).iceM e h1 (fun b z => nomatch z) fun v hv => by
            have hl := (List.getElem?_eq_some_iff.mp hv).1
            rw [List.getElem?_set_self (by simpa using hl)] at hv
            exact (Option.some.inj hv).symm
          have r2 : Rep K T F2 m (.lst (mapS (deepD n) ds (μ.set k .gone)).1) (.ref a) := .lst f2 (r1.mono x2.gr)
          have S3 := S2.setFz e r2
          rw [List.set_set] at S3
          simp only [deepD, q]
          exact ⟨F2, x1.trans x2, S3, r2⟩
        | ins c ds =>
          obtain ⟨_, dx, vs, h1, h3, _, _, h2⟩ := S.sto k a _ e q (fun z => nomatch z)
          obtain ⟨F1, x1, S1, r1⟩ := mapS_ok (deep_ok K T n) (S.forget k) h2
          have hg : ∀ v, ((mapS (deepD n) ds (μ.set k .gone)).2.set k .gone)[k]? = some v → v = .gone := fun v hv => by
            have hl := (List.getElem?_eq_some_iff.mp hv).1
            rw [List.getElem?_set_self (by simpa using hl)] at hv
            exact (Option.some.inj hv).symm
          obtain ⟨F2, f2, x2, S2⟩ := (S1.forget k).iceM e h1 (fun b z => nomatch z) hg
          obtain ⟨F3, f3, x3, S3⟩ := S2.iceO e h3 hg
          have r2 : Rep K T F3 m (.ins c (mapS (deepD n) ds (μ.set k .gone)).1) (.ref a) := .ins (x3.gr.fr _ _ f2) f3 (r1.mono (x2.trans x3).gr)
          have S4 := S3.setFz e r2
          rw [List.set_set] at S4
          simp only [deepD, q]
          exact ⟨F3, x1.trans (x2.trans x3), S4, r2⟩
    | _ =>
      refine ⟨_, Ext.refl _ _ _, ?_, ?_⟩
      · simpa only [deepD] using S
      · simp only [deepD]
        first | constructor | skip
        all_goals assumption
end
/-- what e gives is frozen from here on -/
def wFz (n : Nat) (w : WE) : WE := fun ρ μ Q E => w ρ μ (fun x μ1 => match deepD n μ1 x with
  | (d, μ2) => Q d μ2) E
theorem de_fz {X : Cx} {z : Zx} {e : Expr} {w : WE} (n : Nat) (h : DE X z e w) : DE X z e (wFz n w) := fun Wd tk =>
  peI (h Wd tk) fun σ H Q ⟨F, m, μ, ρ, Qd, S, h, k⟩ => ⟨F, m, μ, ρ, _, S, h, fun F1 m1 μ1 d1 v1 H1 x1 S1 r1 q1 => by
    obtain ⟨F2, x2, S2, r2⟩ := deep_ok X.K z.T n S1 r1
    exact k _ _ _ _ _ _ (x1.trans x2) S2 r2 q1⟩
end Pk

/-! The data layer, part M2: methods of built-in things, new lists that change. -/
namespace Pk
open PySem PySem.Spec PyProof.Rows L2

/-! ### methods -/
abbrev MF := D → BF
def MeOk (X : Cx) (z : Zx) (r : V → List V → Hp → VK → Prop) (w : MF) : Prop :=
  ∀ F m μ ρ σ H x v ds vs (Qd : QD) (Q : VK), SimZ X.K z F m μ ρ σ H → Rep X.K z.T F m x v → Reps X.K z.T F m ds vs → w x ds μ Qd → Fin X.K z F m H ρ σ Qd Q → r v vs H Q
def wMe (t : D → Bool) (w : MF) (wo : WE) (wa : WA) : WE := fun ρ μ Q E => wo ρ μ (fun x μ1 => match t (look μ1 x) with
  | true => wa ρ μ1 (fun ds μ2 => w x ds μ2 Q) E
  | false => False) E
def isL : D → Bool
  | .lst _ => true
  | .scr _ => true
  | _ => false
def isS : D → Bool
  | .str _ => true
  | _ => false
def isDc : D → Bool
  | .dct _ => true
  | _ => false
def TyOk (T : String) (t : D → Bool) : Prop := ∀ {K : PySem.W.Frag} {Tb : Tab} {F : Hp} {m : List Addr} {H : Hp} {x : D} {v : V}, Same F H → Vw K Tb F m H x v → t x = true → tyV K T v H
theorem ty_list : TyOk "list" isL := by
  intro K Tb F m H x v s r h
  cases x with
  | lst xs =>
    obtain ⟨a, vs, rfl, h1, _⟩ := r.list s
    exact .inl ⟨rfl, vs, SqL.of h1⟩
  | scr xs =>
    obtain ⟨a, rfl, h1⟩ := r.scr s
    exact .inl ⟨rfl, _, h1⟩
  | _ => cases h
theorem ty_str : TyOk "str" isS := by
  intro K Tb F m H x v s r h
  cases x with
  | str xs =>
    rw [r.str]
    exact rfl
  | _ => cases h
section
variable {X : Cx} {z : Zx} {o e : Expr} {es : List Expr} {name : Str} {apos cpos : Pos} {T id : String} {r : V → List V → Hp → VK → Prop} {t : D → Bool} {w : MF} {wo : WE} {wa : WA}
theorem de_bm (pa : PlainAttrs T) (slot : Slot T name id) (hty : typeOf (.builtin id) = pure (.type "method_descriptor")) (hm : MtR X id r) (ht : TyOk T t) (ok : MeOk X z r w) (ho : DE X z o wo) (ha : DA X z (e :: es) wa)
    (hbase : attributeBase o name X.env (eval o X.env) = eval o X.env := by rfl)
    (hfew : ((backTo cpos (starEach (e :: es) X.env)).all (fun x => !x.1) && (backToKw cpos (keywordEach [] X.env)).all (fun x => x.1.isSome)
      && decide ((e :: es).length + ([] : List Keyword).length + (if ([] : List Keyword).isEmpty then 0 else 1) < 30)) = true := by rfl)
    (hline : (apos.endLine == cpos.line) = true := by rfl) (hs : starEach (e :: es) X.env = (false, eval e X.env) :: starEach es X.env := by rfl) (hplain : (backTo cpos (starEach es X.env)).any (·.1) = false := by rfl) :
    DE X z (.Call (.Attribute o name apos) (e :: es) [] cpos) (wMe t w wo wa) := fun Wd tk =>
  peI (pe_bm pa slot hty hm (ho Wd tk) (ha Wd tk) hbase hfew hline hs hplain) fun σ H Q ⟨F, m, μ, ρ, Qd, S, h, k⟩ => ⟨F, m, μ, ρ, _, S, h, fun F1 m1 μ1 d1 v1 H1 x1 S1 r1 q1 => by
    cases e : t (look μ1 d1) with
    | false => rw [e] at q1; exact q1.elim
    | true =>
      rw [e] at q1
      refine ⟨ht S1.same (S1.view r1) e, F1, m1, μ1, ρ, _, S1, q1, fun F2 m2 μ2 ds vs H2 x2 S2 r2 q2 => ?_⟩
      exact ok _ _ _ _ _ _ _ _ _ _ _ _ S2 (r1.mono x2.gr) r2 q2 fun F4 m4 μ4 d4 v4 H4 x4 => k F4 m4 μ4 d4 v4 H4 (x1.trans (x2.trans x4))⟩
/-- x.split(sep) -/
def splF (own : Bool) : MF := fun x ds μ Q => match x, ds with
  | .str a, [.str b] => match !nilB b && (b.all (fun c => Nat.blt c 256) && Nat.ble a.length 16777000) with
    | true => giveL own ((TL.spl b 0 [] a).map .str) μ Q
    | false => False
  | _, _ => False
def rSplit : V → List V → Hp → VK → Prop := fun x xs H Q => ∃ a b, x = .str a ∧ xs = [.str b] ∧ (b.length == 0) = false ∧ a.length + 2 ≤ sizeLine ∧ rNewStrs (Txt.split a b) H Q
theorem reps_strs {K : PySem.W.Frag} {Tb : Tab} {F : Hp} {m : List Addr} : ∀ xs : List Tx, Reps K Tb F m (xs.map .str) ((xs.map tx).map V.str)
  | [] => .nil
  | _ :: r => .cons .str (reps_strs r)
theorem ok_split {own : Bool} : MeOk X z rSplit (splF own) := fun F m μ ρ σ H x v ds vs Qd Q S rx rs q k => by
  unfold splF at q
  split at q
  · rename_i a b
    cases rx
    cases rs with
    | cons r1 rs =>
      cases rs
      cases r1
      split at q
      · rename_i hh
        simp only [Bool.and_eq_true, Bool.not_eq_true'] at hh
        obtain ⟨h0, h1, h2⟩ := hh
        have hb : b ≠ [] := fun e => by subst e; cases h0
        refine ⟨tx a, tx b, rfl, rfl, ?_, ?_, fun p hp => ?_⟩
        · rw [tx_len]
          cases b with
          | nil => exact absurd rfl hb
          | cons c r => simp
        · rw [tx_len, sizeLine_eq]
          have := Nat.le_of_ble_eq_true h2
          omega
        · have e : Txt.split (tx a) (tx b) = (TL.spl b 0 [] a).map tx := SX.split_S hb (by
            rw [← h1]
            congr 1
            funext c
            exact Bool.eq_iff_iff.mpr ⟨fun h => Nat.ble_eq_true_of_le (of_decide_eq_true h), fun h => decide_eq_true (Nat.le_of_ble_eq_true h)⟩)
          rw [e]
          exact give_new k S hp (reps_strs _) q
      · exact q.elim
  · exact q.elim
/-- sep.join(xs) -/
def strsD : List D → Option (List Tx)
  | [] => some []
  | .str s :: r => match strsD r with
    | some ss => some (s :: ss)
    | none => none
  | _ => none
def seqOf : D → Option (List D)
  | .lst xs => some xs
  | .tup xs => some xs
  | _ => none
def sumN : List Nat → Nat
  | [] => 0
  | x :: r => x + sumN r
def joinF : MF := fun x ds μ Q => match x, ds with
  | .str a, [y] => match seqOf (look μ y) with
    | some xs => match strsD xs with
      | some ss => match Nat.ble (sumN (ss.map List.length) + ss.length * a.length) 16777216 with
        | true => Q (.str (TL.joinL a ss)) μ
        | false => False
      | none => False
    | none => False
  | _, _ => False
def rJoin (K : PySem.W.Frag) : V → List V → Hp → VK → Prop := fun x xs H Q => ∃ a p, ∃ ys : List Str, x = .str a ∧ xs = [.ref p] ∧ (SqL K H p (ys.map V.str) ∨ SqT K H p (ys.map V.str)) ∧
    (ys.map (·.length)).sum + ys.length * a.length ≤ 16777216 ∧ Q (.str (Txt.join a ys)) H
theorem Reps.strs {K : PySem.W.Frag} {Tb : Tab} {F : Hp} {m : List Addr} : ∀ {ds : List D} {vs : List V} {ss : List Tx}, Reps K Tb F m ds vs → strsD ds = some ss → vs = (ss.map tx).map V.str
  | [], _, bs, .nil, e => by
    injection e with e
    subst e
    rfl
  | d :: ds, _, bs, .cons h r, e => by
    cases h with
    | str =>
      unfold strsD at e
      split at e
      · rename_i bs' e'
        injection e with e
        subst e
        rw [Reps.strs r e']
        rfl
      · cases e
    | _ => cases e
theorem sumN_eq : ∀ l : List Nat, l.sum = sumN l
  | [] => rfl
  | x :: r => by rw [List.sum_cons, sumN_eq r]; rfl
theorem ok_join : MeOk X z (rJoin X.K) joinF := fun F m μ ρ σ H x v ds vs Qd Q S rx rs q k => by
  unfold joinF at q
  split at q
  · rename_i a y
    cases rx
    cases rs with
    | cons r1 rs =>
      cases rs
      have vy := S.view r1
      split at q
      · rename_i xs hx
        split at q
        · rename_i ss hs
          split at q
          · rename_i hl
            have hl := Nat.le_of_ble_eq_true hl
            have hsz : ((ss.map tx).map (·.length)).sum + (ss.map tx).length * (tx a).length ≤ 16777216 := by
              rw [tx_len, List.map_map, List.length_map]
              have : (ss.map ((fun x => x.length) ∘ tx)) = ss.map List.length := List.map_congr_left fun s _ => tx_len s
              rw [this, sumN_eq]
              exact hl
            have hj : Txt.join (tx a) (ss.map tx) = tx (TL.joinL a ss) := SX.join_S a ss
            have fin : Q (.str (Txt.join (tx a) (ss.map tx))) H := by
              rw [hj]
              exact k.now S .str q
            generalize hy : look μ y = y' at vy hx
            cases y' with
            | lst ys =>
              injection hx with hx
              subst hx
              obtain ⟨p, us, rfl, h1, r2⟩ := vy.list S.same
              rw [r2.strs hs] at h1
              exact ⟨tx a, p, ss.map tx, rfl, rfl, .inl (SqL.of h1), hsz, fin⟩
            | tup ys =>
              injection hx with hx
              subst hx
              obtain ⟨p, us, rfl, h1, r2⟩ := vy.tup S.same
              rw [r2.strs hs] at h1
              exact ⟨tx a, p, ss.map tx, rfl, rfl, .inr h1, hsz, fin⟩
            | _ => cases hx
          · exact q.elim
        · exact q.elim
      · exact q.elim
  · exact q.elim
/-- xs.append(y) -/
def appF : MF := fun x ds μ Q => match x, ds with
  | .mref k, [y] => match μ[k]? with
    | some (.lst xs) => match Nat.blt xs.length 16777216 with
      | true => Q .non (μ.set k (.lst (xs ++ [y])))
      | false => False
    | _ => False
  | _, _ => False
theorem ok_app : MeOk X z rAppend appF := fun F m μ ρ σ H x v ds vs Qd Q S rx rs q k => by
  unfold appF at q
  split at q
  · rename_i i y
    cases rx with
    | mref e =>
      cases rs with
      | cons r1 rs =>
        cases rs
        split at q
        · rename_i xs hx
          split at q
          · rename_i hl
            have hl := Nat.le_of_ble_eq_true hl
            obtain ⟨_, us, h1, r2⟩ := S.sto i _ _ e hx (fun z => nomatch z)
            obtain ⟨x1, S1⟩ := S.wr (o' := .lst (xs ++ [y])) e hx (fun z => nomatch z) rfl ⟨_, upd_same, r2.append (.cons r1 .nil)⟩
            refine ⟨_, us, _, rfl, rfl, h1, ?_, k _ _ _ _ _ _ x1 S1 .non q⟩
            rw [← r2.length, sizeLine_eq]
            exact hl
          · exact q.elim
        · exact q.elim
  · exact q.elim
/-- l.index(x) -/
def idxD (x : D) : List D → Nat → Option Nat
  | [], _ => none
  | y :: r, n => match eqD y x with
    | true => some n
    | false => idxD x r (n + 1)
def idxF : MF := fun x ds μ Q => match look μ x, ds with
  | .lst xs, [y] => match pureD 60 y && pureD 60 (.lst xs), idxD y xs 0 with
    | true, some j => Q (.int (j : Nat)) μ
    | _, _ => False
  | _, _ => False
theorem toPys_get : ∀ {xs : List D} {j : Nat}, (toPys xs)[j]? = (xs[j]?).map toPy
  | [], j => by simp [toPys]
  | x :: xs, 0 => by simp [toPys]
  | x :: xs, j + 1 => by simp [toPys, toPys_get (xs := xs) (j := j)]
theorem idxD_spec {x : D} : ∀ {xs : List D} {n j : Nat}, idxD x xs n = some j → ∃ i y, j = n + i ∧ xs[i]? = some y ∧ eqD y x = true ∧ ∀ l y', l < i → xs[l]? = some y' → eqD y' x = false
  | [], n, j, h => by cases h
  | y :: r, n, j, h => by
    unfold idxD at h
    split at h
    · rename_i e
      injection h with h
      exact ⟨0, y, by omega, rfl, e, fun l _ hl => absurd hl (Nat.not_lt_zero _)⟩
    · rename_i e
      obtain ⟨i, y', h1, h2, h3, h4⟩ := idxD_spec h
      refine ⟨i + 1, y', by omega, by simpa using h2, h3, fun l y2 hl hy => ?_⟩
      cases l with
      | zero =>
        simp only [List.getElem?_cons_zero, Option.some.injEq] at hy
        subst hy
        exact e
      | succ l => exact h4 l y2 (by omega) (by simpa using hy)
theorem ok_idx : MeOk X z (rIndexD X.K) idxF := fun F m μ ρ σ H x v ds vs Qd Q S rx rs q k => by
  unfold idxF at q
  split at q
  · rename_i xs y hx
    have vx := S.view rx
    rw [hx] at vx
    cases rs with
    | cons r1 rs =>
      cases rs
      split at q
      · rename_i j hp hj
        rw [Bool.and_eq_true] at hp
        obtain ⟨g1, g2⟩ := hp
        obtain ⟨a, us, rfl, h1, r2⟩ := vx.list S.same
        obtain ⟨i, y', e1, e2, e3, e4⟩ := idxD_spec hj
        have e1 : j = i := by omega
        subst e1
        have pl : pureDs 59 xs = true := by simpa [pureD] using g2
        have pu : ∀ {n : Nat} {ds : List D} {l : Nat} {y : D}, pureDs n ds = true → ds[l]? = some y → pureD n y = true := by
          intro n ds
          induction ds with
          | nil => intro l y _ h; simp at h
          | cons d ds ih =>
            intro l y h hl
            unfold pureDs at h
            split at h
            · rename_i hd
              cases l with
              | zero =>
                simp only [List.getElem?_cons_zero, Option.some.injEq] at hl
                subst hl
                exact hd
              | succ l => exact ih h (by simpa using hl)
            · cases h
        refine ⟨a, _, toPy y, toPys xs, j, toPy y', rfl, rfl, vx.dp S.same g2, (Vw.of r1).dp S.same g1, shaped_of g2 (by decide), shaped_of g1 (by decide), by rw [toPys_get, e2]; rfl, ?_, fun l z' hl hz => ?_, k.now S .int q⟩
        · rw [← eqD_py 59 60 _ _ (pu pl e2) g1]
          exact e3
        · rw [toPys_get] at hz
          cases hq : xs[l]? with
          | none =>
            rw [hq] at hz
            cases hz
          | some y2 =>
            rw [hq] at hz
            injection hz with hz
            subst hz
            rw [← eqD_py 59 60 _ _ (pu pl hq) g1]
            exact e4 l y2 hl hq
      · exact q.elim
  · exact q.elim
/-! ### new lists that change -/
def wLstO (w : WA) : WE := fun ρ μ Q E => w ρ μ (fun xs μ1 => match lineB xs.length with
  | true => giveL true xs μ1 Q
  | false => False) E
theorem de_lstO (h : DA X z es wa) : DE X z (.List es cpos) (wLstO wa) := fun Wd tk =>
  peI (pe_lst (h Wd tk)) fun σ H Q ⟨F, m, μ, ρ, Qd, S, h, k⟩ => ⟨F, m, μ, ρ, _, S, h, fun F1 m1 μ1 ds vs H1 x1 S1 r1 q1 => by
    cases e : lineB ds.length with
    | false => rw [e] at q1; exact q1.elim
    | true =>
      rw [e] at q1
      refine ⟨by rw [← r1.length]; exact lineB_le e, fun p hp => ?_⟩
      have kk : Fin X.K z F1 m1 H1 ρ σ Qd Q := fun F4 m4 μ4 d4 v4 H4 x4 => k F4 m4 μ4 d4 v4 H4 (x1.trans x4)
      exact give_new kk S1 hp r1 q1⟩
/-- [..] * n -/
def repL {α : Type} : Nat → List α → List α
  | 0, _ => []
  | n + 1, xs => xs ++ repL n xs
def mulB : Int → Bool
  | .ofNat n => Nat.blt n 100000
  | .negSucc n => Nat.blt n 1000
theorem mulB_ok {i : Int} (h : mulB i = true) : -100000 < i ∧ i < 100000 := by
  cases i with
  | ofNat n =>
    have := Nat.le_of_ble_eq_true (show Nat.ble (n + 1) 100000 = true from h)
    simp only [Int.ofNat_eq_natCast]
    omega
  | negSucc n =>
    have := Nat.le_of_ble_eq_true (show Nat.ble (n + 1) 1000 = true from h)
    omega
def wMulO (wa wb : WE) : WE := fun ρ μ Q E => wa ρ μ (fun x μ1 => wb ρ μ1 (fun y μ2 => match look μ2 x, y with
  | .lst xs, .int i => match mulB i && Nat.ble xs.length 100 with
    | true => giveL true (repL i.toNat xs) μ2 Q
    | false => False
  | _, _ => False) E) E
theorem repL_eq {α : Type} (xs : List α) : ∀ n, (List.replicate n xs).flatten = repL n xs
  | 0 => rfl
  | n + 1 => by rw [List.replicate_succ, List.flatten_cons, repL_eq xs n]; rfl
theorem Reps.repL {K : PySem.W.Frag} {Tb : Tab} {F : Hp} {m : List Addr} {ds : List D} {vs : List V} (r : Reps K Tb F m ds vs) : ∀ n, Reps K Tb F m (Pk.repL n ds) (Pk.repL n vs)
  | 0 => .nil
  | n + 1 => r.append (Reps.repL r n)
theorem de_mulO {a b : Expr} {wx wy : WE} (ha : DE X z a wx) (hb : DE X z b wy) : DE X z (.BinOp a .Mult b cpos) (wMulO wx wy) := fun Wd tk =>
  peI (pe_op op_rep (ha Wd tk) (hb Wd tk)) fun σ H Q ⟨F, m, μ, ρ, Qd, S, h, k⟩ => ⟨F, m, μ, ρ, _, S, h, fun F1 m1 μ1 d1 v1 H1 x1 S1 r1 q1 => ⟨F1, m1, μ1, ρ, _, S1, q1, fun F2 m2 μ2 d2 v2 H2 x2 S2 r2 q2 => by
    have kk : Fin X.K z F2 m2 H2 ρ σ Qd Q := fun F4 m4 μ4 d4 v4 H4 x4 => k F4 m4 μ4 d4 v4 H4 (x1.trans (x2.trans x4))
    have vx := S2.view (r1.mono x2.gr)
    split at q2
    · rename_i xs i hx
      rw [hx] at vx
      cases r2
      obtain ⟨a, us, rfl, h1, r3⟩ := vx.list S2.same
      split at q2
      · rename_i hh
        rw [Bool.and_eq_true] at hh
        have g0 := (mulB_ok hh.1).1
        have g1 := (mulB_ok hh.1).2
        have g2 := Nat.le_of_ble_eq_true hh.2
        refine ⟨a, i, us, rfl, rfl, h1, by omega, by omega, ?_, fun p hp => ?_⟩
        · rw [← r3.length, sizeLine_eq]
          calc xs.length * i.toNat ≤ 100 * 100000 := Nat.mul_le_mul g2 (by omega)
            _ ≤ 16777216 := by decide
        · rw [repL_eq]
          exact give_new kk S2 hp (r3.repL _) q2
      · exact q2.elim
    · exact q2.elim⟩⟩
end
end Pk

/-! The data layer, part M3: attributes, stores. -/
namespace Pk
open PySem PySem.Spec PyProof.Rows L2

/-! ### attributes -/
def fldIx (f : Str) : List Str → Option Nat
  | [] => none
  | g :: r => if g = f then some 0 else (fldIx f r).map (· + 1)
structure FldF (K : PySem.W.Frag) (T : Tab) (c : Nat) (f : Str) (j : Nat) : Prop where
  cl : Cls K (T.ca c)
  na : NoAttr K (T.ca c) f
  ix : fldIx f (T.fn c) = some j
  few : (T.fn c).length < 1000
section
variable {K : PySem.W.Frag} {T : Tab} {F : Hp} {m : List Addr}
theorem fld_get : ∀ {fn : List Str} {f : Str} {j : Nat} {ds : List D} {vs : List V} {d : D}, fldIx f fn = some j → Reps K T F m ds vs → ds[j]? = some d → ∃ v, (fn.zip vs).lookup f = some v ∧ Rep K T F m d v
  | [], f, j, ds, vs, d, h, _, _ => by cases h
  | g :: fn, f, j, _, _, d, h, .nil, e => by simp at e
  | g :: fn, f, j, _, _, d, h, .cons (d := d0) (v := v0) (vs := vs) r rs, e => by
    unfold fldIx at h
    by_cases hg : g = f
    · rw [if_pos hg] at h
      injection h with h
      subst h
      simp only [List.getElem?_cons_zero, Option.some.injEq] at e
      subst e
      refine ⟨v0, ?_, r⟩
      rw [List.zip_cons_cons]
      simp [List.lookup, beq_iff_eq.mpr hg.symm]
    · rw [if_neg hg] at h
      cases q : fldIx f fn with
      | none => rw [q] at h; cases h
      | some i =>
        rw [q] at h
        injection h with h
        subst h
        obtain ⟨v, h1, h2⟩ := fld_get q rs (by simpa using e)
        refine ⟨v, ?_, h2⟩
        rw [List.zip_cons_cons]
        have hb : (f == g) = false := beq_eq_false_iff_ne.mpr (Ne.symm hg)
        simp only [List.lookup, hb]
        exact h1
/-- setting: there already, or the next one -/
def setAt (ds : List D) (j : Nat) (d : D) : Option (List D) := match Nat.blt j ds.length with
  | true => some (ds.set j d)
  | false => match Nat.beq j ds.length with
    | true => some (ds ++ [d])
    | false => none
theorem fld_put : ∀ {fn : List Str} {f : Str} {j : Nat} {ds ds' : List D} {vs : List V} {d : D} {v : V}, fldIx f fn = some j → Reps K T F m ds vs → Rep K T F m d v → setAt ds j d = some ds' →
    ∃ vs', putF f v (fn.zip vs) = fn.zip vs' ∧ Reps K T F m ds' vs' ∧ ds'.length ≤ max ds.length (j + 1) := by
  intro fn f j ds ds' vs d v h r rv e
  have main : ∀ {fn : List Str} {f : Str} {j : Nat} {vs : List V}, fldIx f fn = some j → (j < vs.length → putF f v (fn.zip vs) = fn.zip (vs.set j v)) ∧ (j = vs.length → putF f v (fn.zip vs) = fn.zip (vs ++ [v])) := by
    intro fn
    induction fn with
    | nil => intro f j vs h; cases h
    | cons g fn ih =>
      intro f j vs h
      unfold fldIx at h
      by_cases hg : g = f
      · rw [if_pos hg] at h
        injection h with h
        subst h
        refine ⟨fun hl => ?_, fun hl => ?_⟩
        · cases vs with
          | nil => simp at hl
          | cons v0 vs =>
            rw [List.zip_cons_cons]
            simp [putF, hg]
        · cases vs with
          | nil => simp [putF, hg]
          | cons v0 vs => simp at hl
      · rw [if_neg hg] at h
        cases q : fldIx f fn with
        | none => rw [q] at h; cases h
        | some i =>
          rw [q] at h
          injection h with h
          subst h
          cases vs with
          | nil => exact ⟨fun hl => by simp at hl, fun hl => by simp at hl⟩
          | cons v0 vs =>
            obtain ⟨h1, h2⟩ := ih (vs := vs) q
            refine ⟨fun hl => ?_, fun hl => ?_⟩
            · have := h1 (by simpa using hl)
              rw [List.zip_cons_cons]
              simp [putF, hg, this]
            · have := h2 (by simpa using hl)
              rw [List.zip_cons_cons]
              simp [putF, hg, this]
  obtain ⟨h1, h2⟩ := main (vs := vs) h
  unfold setAt at e
  have hl := r.length
  split at e
  · rename_i hb
    injection e with e
    subst e
    exact ⟨_, h1 (by rw [← hl]; exact Nat.le_of_ble_eq_true hb), r.set rv j, by rw [List.length_set]; omega⟩
  · split at e
    · rename_i hb
      injection e with e
      subst e
      exact ⟨_, h2 (by rw [← hl]; exact Nat.eq_of_beq_eq_true hb), r.append (.cons rv .nil), by rw [List.length_append, List.length_singleton, ← Nat.eq_of_beq_eq_true hb]; omega⟩
    · cases e
theorem fldIx_lt : ∀ {fn : List Str} {f : Str} {j : Nat}, fldIx f fn = some j → j < fn.length
  | [], _, _, h => by cases h
  | g :: fn, f, j, h => by
    unfold fldIx at h
    split at h
    · injection h with h
      subst h
      exact Nat.zero_lt_succ _
    · cases q : fldIx f fn with
      | none => rw [q] at h; cases h
      | some i =>
        rw [q] at h
        injection h with h
        subst h
        exact Nat.succ_lt_succ (fldIx_lt q)
end
theorem own_ne {H : Hp} {a dx b : Addr} {C : Addr} {fs : List (Str × V)} (h1 : H a = some (.ins C dx fs)) (h3 : H dx = some (.own b)) : dx ≠ a := fun z => by
  rw [← z, h3] at h1
  cases h1
def wFld (c j : Nat) (w : WE) : WE := fun ρ μ Q E => w ρ μ (fun x μ1 => match look μ1 x with
  | .ins c' fs => match Nat.beq c' c, fs[j]? with
    | true, some d => Q d μ1
    | _, _ => False
  | _ => False) E
section
variable {X : Cx} {z : Zx} {o e : Expr} {pos pos' : Pos} {w wo we : WE} {c j : Nat} {f : Str}
theorem de_fld (ff : FldF X.K z.T c f j) (h : DE X z e w) (hb : attributeBase e f X.env (eval e X.env) = eval e X.env := by rfl) : DE X z (.Attribute e f pos) (wFld c j w) := fun Wd tk =>
  peI (pe_fld (h Wd tk) hb) fun σ H Q ⟨F, m, μ, ρ, Qd, S, h, k⟩ => ⟨F, m, μ, ρ, _, S, h, fun F1 m1 μ1 d1 v1 H1 x1 S1 r1 q1 => by
    have vx := S1.view r1
    split at q1
    · rename_i c' fs hx
      rw [hx] at vx
      split at q1
      · rename_i d hc hj
        have := Nat.eq_of_beq_eq_true hc
        subst this
        obtain ⟨a, dx, vs, rfl, h1, r2⟩ := vx.inst S1.same
        obtain ⟨u, h2, r3⟩ := fld_get ff.ix r2 hj
        exact ⟨a, _, dx, _, u, rfl, h1, ff.cl, ff.na, h2, k _ _ _ _ _ _ x1 S1 r3 q1⟩
      · exact q1.elim
    · exact q1.elim⟩
/-- o.f = e -/
def sFldD (c j : Nat) (wo we : WE) : WS := fun De ρ μ => we ρ μ (fun y μ1 => wo ρ μ1 (fun x μ2 => match x with
  | .mref k => match μ2[k]? with
    | some (.ins c' fs) => match Nat.beq c' c, setAt fs j y with
      | true, some fs' => De.nx ρ (μ2.set k (.ins c fs'))
      | _, _ => False
    | _ => False
  | _ => False) (fun x μ' => De.ex x ρ μ')) (fun x μ' => De.ex x ρ μ')
theorem ds_fld (ff : FldF X.K z.T c f j) (ho : DE X z o wo) (he : DE X z e we) (hs : swapsWith e (some (.Attribute o f pos')) pos.line X.env = pure false := by rfl) : DS X z (.Assign [.Attribute o f pos'] e pos) (sFldD c j wo we) := fun Wd tk =>
  psI (ps_fld (ho Wd tk) (he Wd tk) hs) fun D σ H ⟨F, m, μ, ρ, De, S, h, ex, k⟩ => by
  subst ex
  exact ⟨F, m, μ, ρ, _, S, h, fun F1 m1 μ1 d1 v1 H1 x1 S1 r1 q1 => ⟨F1, m1, μ1, ρ, _, S1, q1, fun F2 m2 μ2 d2 v2 H2 x2 S2 r2 q2 => by
    split at q2
    · rename_i i
      cases r2 with
      | mref e2 =>
        split at q2
        · rename_i c' fs hx
          split at q2
          · rename_i fs' hc hj
            have := Nat.eq_of_beq_eq_true hc
            subst this
            obtain ⟨_, dx, vs, h1, h3, n3, l3, r3⟩ := S2.sto i _ _ e2 hx (fun z => nomatch z)
            obtain ⟨vs', p1, p2, p3⟩ := fld_put ff.ix r3 (r1.mono x2.gr) hj
            have ne := own_ne h1 h3
            obtain ⟨x4, S4⟩ := S2.wr (u := .ins (z.T.ca c') dx ((z.T.fn c').zip vs')) (o' := .ins c' fs') e2 hx (fun z => nomatch z) rfl
              ⟨dx, vs', upd_same, by rw [upd_ne ne]; exact h3, n3, by have := fldIx_lt ff.ix; omega, p2⟩
            refine ⟨_, _, dx, _, rfl, h1, ff.cl, ff.na, ?_, ?_⟩
            · rw [List.length_zip]
              have := ff.few
              omega
            · rw [p1]
              exact k.nx _ _ _ _ _ _ (x1.trans (x2.trans x4)) S4 q2
          · exact q2.elim
        · exact q2.elim
    · exact q2.elim⟩⟩
/-- o.f += e, lists -/
def sFldAugD (c j : Nat) (wo we : WE) : WS := fun De ρ μ => wo ρ μ (fun x μ1 => match x with
  | .mref k => match μ1[k]? with
    | some (.ins c' fs) => match Nat.beq c' c, fs[j]? with
      | true, some (.mref l) => we ρ μ1 (fun y μ2 => match μ2[l]?, look μ2 y, μ2[k]? with
        | some (.lst xs), .lst ys, some (.ins c2 fs2) => match Nat.beq c2 c, fs2[j]?, Nat.ble (xs.length + ys.length) 16777216 && !Nat.beq k l with
          | true, some (.mref l2), true => match Nat.beq l2 l with
            | true => De.nx ρ (μ2.set l (.lst (xs ++ ys)))
            | false => False
          | _, _, _ => False
        | _, _, _ => False) (fun x μ' => De.ex x ρ μ')
      | _, _ => False
    | _ => False
  | _ => False) (fun x μ' => De.ex x ρ μ')
theorem List.set_same {α : Type} {l : List α} {i : Nat} {a : α} (h : l[i]? = some a) : l.set i a = l := by
  obtain ⟨hl, e⟩ := List.getElem?_eq_some_iff.mp h
  rw [← e]
  exact List.set_getElem_self hl
theorem ds_fldaug (ff : FldF X.K z.T c f j) (ho : DE X z o wo) (he : DE X z e we) : DS X z (.AugAssign (.Attribute o f pos') .Add e pos) (sFldAugD c j wo we) := fun Wd tk =>
  psI (ps_fldaug (rd := rExt2) (ho Wd tk) (he Wd tk) iop_ext) fun D σ H ⟨F, m, μ, ρ, De, S, h, ex, k⟩ => by
  subst ex
  exact ⟨F, m, μ, ρ, _, S, h, fun F1 m1 μ1 d1 v1 H1 x1 S1 r1 q1 => by
    split at q1
    · rename_i i
      cases r1 with
      | mref e1 =>
        split at q1
        · rename_i c' fs hx
          split at q1
          · rename_i l hc hj
            have := Nat.eq_of_beq_eq_true hc
            subst this
            obtain ⟨_, dx, vs, h1, h3, n3, l3, r3⟩ := S1.sto i _ _ e1 hx (fun z => nomatch z)
            obtain ⟨u, g1, g2⟩ := fld_get ff.ix r3 hj
            refine ⟨_, _, dx, _, u, rfl, h1, ff.cl, ff.na, g1, F1, m1, μ1, ρ, _, S1, q1, fun F2 m2 μ2 d2 v2 H2 x2 S2 r2 q2 => ?_⟩
            cases g2 with
            | mref el =>
              split at q2
              · rename_i xs ys c2 fs2 hxs hys hk
                split at q2
                · rename_i l2 hc2 hj2 hz
                  split at q2
                  · rename_i hl2
                    have e3 := Nat.eq_of_beq_eq_true hc2
                    have e4 := Nat.eq_of_beq_eq_true hl2
                    subst e3 e4
                    rw [Bool.and_eq_true] at hz
                    have el2 := (Rep.mono x2.gr (.mref el) : Rep X.K z.T F2 m2 (.mref l2) _)
                    have ei2 := (Rep.mono x2.gr (.mref e1) : Rep X.K z.T F2 m2 (.mref i) _)
                    cases el2 with
                    | mref el2 =>
                      cases ei2 with
                      | mref ei2 =>
                        obtain ⟨_, us, p1, p2⟩ := S2.sto l2 _ _ el2 hxs (fun z => nomatch z)
                        obtain ⟨_, dx2, vs2, q3, q4, q5, q6, q7⟩ := S2.sto i _ _ ei2 hk (fun z => nomatch z)
                        have vy := S2.view r2
                        rw [hys] at vy
                        obtain ⟨b, zs, rfl, p3, p4⟩ := vy.list S2.same
                        obtain ⟨x4, S4⟩ := S2.wr (u := .lst (us ++ zs)) (o' := .lst (xs ++ ys)) el2 hxs (fun z => nomatch z) rfl ⟨_, upd_same, p2.append p4⟩
                        have ne : i ≠ l2 := fun z => by
                          rw [z] at hk
                          rw [hxs] at hk
                          cases hk
                        have hk4 : (μ2.set l2 (.lst (xs ++ ys)))[i]? = some (.ins c2 fs2) := by rw [List.getElem?_set_ne (Ne.symm ne)]; exact hk
                        obtain ⟨_, dx3, vs3, t1, t2, t3, t4, t5⟩ := S4.sto i _ _ ei2 hk4 (fun z => nomatch z)
                        refine ⟨_, b, us, zs, rfl, rfl, p1, p3, ?_, ?_⟩
                        · rw [← p2.length, ← p4.length, sizeLine_eq]
                          exact Nat.le_of_ble_eq_true hz.1
                        · have hj3 : setAt fs2 j (.mref l2) = some fs2 := by
                            unfold setAt
                            have hlt : j < fs2.length := (List.getElem?_eq_some_iff.mp hj2).1
                            have : Nat.blt j fs2.length = true := Nat.ble_eq_true_of_le hlt
                            rw [this]
                            show some (fs2.set j _) = some fs2
                            rw [List.set_same hj2]
                          obtain ⟨vs', w1, w2, w3⟩ := fld_put ff.ix t5 (.mref el2) hj3
                          have nd := own_ne t1 t2
                          obtain ⟨x5, S5⟩ := S4.wr (u := .ins (z.T.ca c2) dx3 ((z.T.fn c2).zip vs')) (o' := .ins c2 fs2) ei2 hk4 (fun z => nomatch z) rfl
                            ⟨dx3, vs', upd_same, by rw [upd_ne nd]; exact t2, t3, t4, w2⟩
                          refine ⟨dx3, _, t1, ?_, ?_⟩
                          · rw [List.length_zip]
                            have := ff.few
                            omega
                          · rw [w1]
                            refine k.nx _ _ _ _ _ _ (x1.trans (x2.trans (x4.trans x5))) S5 ?_
                            rw [List.set_same hk4]
                            exact q2
                  · exact q2.elim
                · exact q2.elim
              · exact q2.elim
          · exact q1.elim
        · exact q1.elim
    · exact q1.elim⟩
end
end Pk

/-! The data layer, part M4: stores by subscript, augmented assignments, while. -/
namespace Pk
open PySem PySem.Spec PyProof.Rows L2

/-! ### o[i] = v -/
def ixG (n : Nat) (i : Int) : Option Nat := match i with
  | .ofNat k => match Nat.blt k n with
    | true => some k
    | false => none
  | .negSucc k => match Nat.ble (k + 1) n with
    | true => some (n - (k + 1))
    | false => none
theorem ixG_eq {n : Nat} {i : Int} {j : Nat} (h : ixG n i = some j) : ixN n i = some j := by
  unfold ixG at h
  unfold ixN
  split at h
  · rename_i k
    split at h
    · rename_i hk
      injection h with h
      subst h
      have := Nat.le_of_ble_eq_true hk
      have h0 : (0 : Int) ≤ Int.ofNat k := Int.ofNat_nonneg k
      have h1 : Int.ofNat k < (n : Int) := by simp only [Int.ofNat_eq_natCast]; omega
      rw [if_pos h0, if_pos h1]
      rfl
    · cases h
  · rename_i k
    split at h
    · rename_i hk
      injection h with h
      subst h
      have := Nat.le_of_ble_eq_true hk
      have h0 : ¬ (0 : Int) ≤ Int.negSucc k := by omega
      have h1 : -(n : Int) ≤ Int.negSucc k := by omega
      rw [if_neg h0, if_pos h1]
      congr 1
      omega
    · cases h
def hasK : List (DK × D) → DK → Bool
  | [], _ => false
  | (k, _) :: r, x => match eqDK k x with
    | true => true
    | false => hasK r x
def mapK (x : DK) (v : D) : List (DK × D) → List (DK × D)
  | [] => []
  | (k, d) :: r => match eqDK k x with
    | true => (k, v) :: mapK x v r
    | false => (k, d) :: mapK x v r
def putE (kvs : List (DK × D)) (x : DK) (v : D) : List (DK × D) := match hasK kvs x with
  | true => mapK x v kvs
  | false => kvs ++ [(x, v)]
def hasP (k : List DK) : List (List DK × D) → Bool
  | [] => false
  | p :: r => match decide (p.1 = k) with
    | true => true
    | false => hasP k r
def replP (k : List DK) (v : D) : List (List DK × D) → List (List DK × D)
  | [] => []
  | p :: r => (match decide (p.1 = k) with
    | true => (p.1, v)
    | false => p) :: replP k v r
def putP (acc : List (List DK × D)) (k : List DK) (v : D) : List (List DK × D) := match hasP k acc with
  | true => replP k v acc
  | false => acc ++ [(k, v)]
def setD : MO → D → D → Option MO
  | .lst xs, .int i, v => match ixG xs.length i with
    | some j => some (.lst (xs.set j v))
    | none => none
  | .dct kvs, i, v => match toK i, Nat.blt kvs.length 16777216 with
    | some k, true => some (.dct (putE kvs k v))
    | _, _ => none
  | .dtp kvs, .ttp xs, v => match toKs xs, Nat.blt kvs.length 16777216 with
    | some k, true => some (.dtp (putP kvs k v))
    | _, _ => none
  | _, _, _ => none
def rSetA : TSet := fun o i v H Q => rSetL o i v H Q ∨ rSetD o i v H Q
section
variable {X : Cx}
theorem set_all (hu : X.A.units + 1 < cLine) : PSet X rSetA := by
  intro pins s σ H o i v ov iv u Q I ro ri rv h
  rcases h with h | h
  · exact set_list pins s σ H o i v ov iv u Q I ro ri rv h
  · exact set_dict hu pins s σ H o i v ov iv u Q I ro ri rv h
end
section
variable {K : PySem.W.Frag} {T : Tab} {F0 F F' H0 : Hp} {m0 m m' : List Addr} {μ μ' : Sto} {ρ : Slots} {σ : L2.St} {H H' : Hp} {p a : Addr} {ds : List D} {vs : List V} {k : Nat}
theorem iteR {α : Type} {p : α → Prop} {x y : α} (h : p x) : p (if true = true then x else y) := h
theorem iteL {α : Type} {p : α → Prop} {x y : α} (h : p y) : p (if false = true then x else y) := h
theorem RepK.app {d : D} {v : V} {k : DK} (rv : Rep K T F m d v) : ∀ {ds : List (DK × D)} {vs : List (Key × V)}, RepK K T F m ds vs → RepK K T F m (ds ++ [(k, d)]) (vs ++ [(k.key, v)])
  | _, _, .nil => .cons rv .nil
  | _, _, .cons r rs => .cons r (RepK.app rv rs)
theorem key_dec {j k : DK} : decide (j.key = k.key) = eqDK j k := by
  rw [Bool.eq_iff_iff, decide_eq_true_iff, key_inj, eqDK_iff]
theorem hasK_V {k : DK} : ∀ {ds : List (DK × D)} {vs : List (Key × V)}, RepK K T F m ds vs → (vs.any fun kv => decide (kv.1 = k.key)) = hasK ds k
  | _, _, .nil => rfl
  | _, _, .cons (k := j) r rs => by
    rw [List.any_cons, hasK_V rs]
    show (decide (j.key = k.key) || _) = (match eqDK j k with | true => true | false => _)
    rw [key_dec]
    cases eqDK j k <;> rfl
theorem mapK_V {k : DK} {d : D} {v : V} (rv : Rep K T F m d v) : ∀ {ds : List (DK × D)} {vs : List (Key × V)}, RepK K T F m ds vs → RepK K T F m (mapK k d ds) (vs.map fun kv => if kv.1 = k.key then (kv.1, v) else kv)
  | _, _, .nil => .nil
  | _, _, .cons (k := j) (d := x) (v := u) (ds := ds) (vs := vs) r rs => by
    rw [List.map_cons]
    unfold mapK
    have e1 := key_dec (j := j) (k := k)
    cases q : eqDK j k with
    | true =>
      rw [q] at e1
      rw [if_pos (of_decide_eq_true e1)]
      exact .cons rv (mapK_V rv rs)
    | false =>
      rw [q] at e1
      rw [if_neg (of_decide_eq_false e1)]
      exact .cons r (mapK_V rv rs)
theorem putK_V {k : DK} {d : D} {v : V} (rv : Rep K T F m d v) {ds : List (DK × D)} {vs : List (Key × V)} (r : RepK K T F m ds vs) : RepK K T F m (putE ds k d) (putK vs k.key v) := by
  unfold putE putK
  rw [hasK_V r]
  cases hasK ds k with
  | true => exact iteR (p := fun w => RepK K T F m _ w) (mapK_V rv r)
  | false => exact iteL (p := fun w => RepK K T F m _ w) (RepK.app rv r)
theorem RepP.app : ∀ {ds es : List (List DK × D)} {vs us : List (List Key × V)}, RepP K T F m ds vs → RepP K T F m es us → RepP K T F m (ds ++ es) (vs ++ us)
  | _, _, _, _, .nil, s => s
  | _, _, _, _, .cons h r, s => .cons h (r.app s)
theorem RepP.has (k : List DK) : ∀ {ds : List (List DK × D)} {vs : List (List Key × V)}, RepP K T F m ds vs → (vs.any fun kv => decide (kv.1 = k.map DK.key)) = hasP k ds
  | _, _, .nil => rfl
  | _, _, .cons (k := j) (ds := ds) h r => by
    rw [List.any_cons, r.has k]
    show _ = (match decide (j = k) with | true => true | false => hasP k ds)
    by_cases w : j = k
    · subst w
      simp
    · have w2 : ¬ j.map DK.key = k.map DK.key := fun z => w (keys_inj z)
      simp [w, w2]
theorem RepP.repl {k : List DK} {d : D} {v : V} (h : Rep K T F m d v) : ∀ {ds : List (List DK × D)} {vs : List (List Key × V)}, RepP K T F m ds vs → RepP K T F m (replP k d ds) (vs.map fun kv => if kv.1 = k.map DK.key then (kv.1, v) else kv)
  | _, _, .nil => .nil
  | _, _, .cons (k := j) h0 r => by
    rw [List.map_cons]
    unfold replP
    by_cases w : j = k
    · subst w
      simp only [decide_true, if_pos]
      exact .cons h (r.repl h)
    · have w2 : ¬ j.map DK.key = k.map DK.key := fun z => w (keys_inj z)
      simp only [w, decide_false, if_neg w2]
      exact .cons h0 (r.repl h)
theorem RepP.put {k : List DK} {d : D} {v : V} {ds : List (List DK × D)} {vs : List (List Key × V)} (h : Rep K T F m d v) (r : RepP K T F m ds vs) : RepP K T F m (putP ds k d) (putK vs (k.map DK.key) v) := by
  unfold putP putK
  rw [r.has k]
  cases hasP k ds with
  | true => exact r.repl h
  | false =>
    rw [if_neg (by decide)]
    exact r.app (.cons h .nil)
theorem set_run {z : Zx} {mo mo' : MO} {i d : D} {iv v : V} {Q : Hp → Prop} (S : SimZ K z F m μ ρ σ H) (e : m[k]? = some a) (q : μ[k]? = some mo) (hs : setD mo i d = some mo') (ri : Rep K z.T F m i iv) (rv : Rep K z.T F m d v)
    (fin : ∀ H', Ext F m H F m H' → SimZ K z F m (μ.set k mo') ρ σ H' → Q H') : rSetA (.ref a) iv v H Q := by
  unfold setD at hs
  split at hs
  · split at hs
    · rename_i xs n _ j hj
      injection hs with hs
      subst hs
      cases ri
      obtain ⟨_, vs, h1, r⟩ := S.sto k a _ e q (fun z => nomatch z)
      obtain ⟨x1, S1⟩ := S.wr (u := .lst (vs.set j v)) (o' := .lst (xs.set j d)) e q (fun z => nomatch z) rfl ⟨_, upd_same, r.set rv j⟩
      exact .inl ⟨a, vs, _, j, rfl, rfl, h1, by rw [← r.length]; exact ixG_eq hj, fin _ x1 S1⟩
    · cases hs
  · split at hs
    · rename_i kk hk hl
      injection hs with hs
      subst hs
      obtain ⟨_, vs, h1, r⟩ := S.sto k a _ e q (fun z => nomatch z)
      have hkv := toK_V (H := H) (.of ri) hk
      subst hkv
      obtain ⟨x1, S1⟩ := S.wr (u := .dK (putK vs kk.key v)) (o' := .dct (putE _ kk d)) e q (fun z => nomatch z) rfl ⟨_, upd_same, putK_V rv r⟩
      have hl : vs.length < sizeLine := by
        rw [← r.length, sizeLine_eq]
        exact Nat.le_of_ble_eq_true hl
      exact .inr ⟨a, _, rfl, DPut.k h1 hl, fin _ x1 S1⟩
    · cases hs
  · split at hs
    · rename_i kk hk hl
      injection hs with hs
      subst hs
      obtain ⟨_, vs, h1, r⟩ := S.sto k a _ e q (fun z => nomatch z)
      cases ri with
      | ttp hf rk =>
        have hkv := toKs_V (H := H) rk hk
        subst hkv
        obtain ⟨x1, S1⟩ := S.wr (u := .dT (putK vs (kk.map DK.key) v)) (o' := .dtp (putP _ kk d)) e q (fun z => nomatch z) rfl ⟨_, upd_same, RepP.put rv r⟩
        have hl : vs.length < sizeLine := by
          rw [← r.length, sizeLine_eq]
          exact Nat.le_of_ble_eq_true hl
        exact .inr ⟨a, _, rfl, DPut.t h1 (S.same _ _ hf) hl, fin _ x1 S1⟩
    · cases hs
  · cases hs
end

/-! ### targets that store -/
abbrev WG := D → Slots → Sto → (Slots → Sto → Prop) → QX → Prop
def tG2 (K : PySem.W.Frag) (z : Zx) (Wd : WXd) (w : WG) : TG := fun v σ H Q => ∃ F m μ ρ d Qd, SimZ K z F m μ ρ σ H ∧ Rep K z.T F m d v ∧ w d ρ μ Qd (fun x μ' => Wd x ρ μ') ∧
  ∀ F' m' μ' ρ' σ' H', Ext F m H F' m' H' → SimZ K z F' m' μ' ρ' σ' H' → Qd ρ' μ' → Q σ' H'
def tG2s (K : PySem.W.Frag) (z : Zx) (Wd : WXd) (w : List D → Slots → Sto → (Slots → Sto → Prop) → WXd → Prop) : TGs := fun vs σ H Q => ∃ F m μ ρ ds Qd, SimZ K z F m μ ρ σ H ∧ Reps K z.T F m ds vs ∧ w ds ρ μ Qd Wd ∧
  ∀ F' m' μ' ρ' σ' H', Ext F m H F' m' H' → SimZ K z F' m' μ' ρ' σ' H' → Qd ρ' μ' → Q σ' H'
def DG2 (X : Cx) (z : Zx) (tg : Expr) (w : WG) : Prop := ∀ Wd, Takes X (XW X.K z Wd) → PG X tg (tG2 X.K z Wd w)
def DG2s (X : Cx) (z : Zx) (es : List Expr) (w : List D → Slots → Sto → (Slots → Sto → Prop) → WXd → Prop) : Prop := ∀ Wd, Takes X (XW X.K z Wd) → PGs X es (tG2s X.K z Wd w)
def g2N (i : Nat) : WG := fun d ρ μ Q _ => Q (ρ.set i (some d)) μ
def g2S (wo wi : WE) : WG := fun d ρ μ Q E => wo ρ μ (fun x μ1 => wi ρ μ1 (fun i μ2 => match x with
  | .mref k => match μ2[k]? with
    | some mo => match setD mo i d with
      | some mo' => Q ρ (μ2.set k mo')
      | none => False
    | none => False
  | _ => False) E) E
def g2Nil : List D → Slots → Sto → (Slots → Sto → Prop) → WXd → Prop := fun ds ρ μ Q _ => match ds with
  | [] => Q ρ μ
  | _ => False
def g2Cons (w : WG) (r : List D → Slots → Sto → (Slots → Sto → Prop) → WXd → Prop) : List D → Slots → Sto → (Slots → Sto → Prop) → WXd → Prop := fun ds ρ μ Q E => match ds with
  | d :: ds => w d ρ μ (fun ρ1 μ1 => r ds ρ1 μ1 Q E) (fun x μ' => E x ρ μ')
  | [] => False
def g2T (n : Nat) (r : List D → Slots → Sto → (Slots → Sto → Prop) → WXd → Prop) (E : WXd) : D → Slots → Sto → (Slots → Sto → Prop) → Prop := fun d ρ μ Q => match d with
  | .tup ds => match Nat.beq ds.length n with
    | true => r ds ρ μ Q E
    | false => False
  | _ => False
section
variable {X : Cx} {z : Zx} {pos : Pos} {e o i tg : Expr} {es : List Expr} {w : WE} {wo wi : WE} {g : WG} {gs : List D → Slots → Sto → (Slots → Sto → Prop) → WXd → Prop}
theorem d2_name {j : Nat} {x : Str} (hN : X.N.Nodup) (hi : X.N[j]? = some x) (hx : Loc X.env.scope x) (hf : X.fn x = true ∨ X.env.scope.names.lookup x = some .local := by first | exact .inl rfl | exact .inr rfl | assumption) : DG2 X z (.Name x pos) (g2N j) := fun Wd tk =>
  pgI (pg_name hN hi hx hf) fun v σ H Q ⟨F, m, μ, ρ, d, Qd, S, r, h, k⟩ => k _ _ _ _ _ _ (Ext.refl _ _ _) (S.set r) h
theorem d2_sub (hu : X.A.units + 1 < cLine) (ho : DE X z o wo) (hi : DE X z i wi)
    (ha : ∀ v, assign (.Subscript o i pos) X.env v = (do
      let ov ← holding [v] (eval o X.env)
      let iv ← holding [v, ov] (eval i X.env)
      standAt pos
      holding [v, ov, iv] (setItem ov iv v)
      release [v, ov, iv] []) := by intro _; rfl) : DG2 X z (.Subscript o i pos) (g2S wo wi) := fun Wd tk =>
  pgI (pg_sub (ho Wd tk) (hi Wd tk) (set_all hu) ha) fun v σ H Q ⟨F, m, μ, ρ, d, Qd, S, r, h, k⟩ => ⟨F, m, μ, ρ, _, S, h, fun F1 m1 μ1 d1 v1 H1 x1 S1 r1 q1 => ⟨F1, m1, μ1, ρ, _, S1, q1, fun F2 m2 μ2 d2 v2 H2 x2 S2 r2 q2 => by
    split at q2
    · rename_i n
      split at q2
      · rename_i mo hmo
        split at q2
        · rename_i mo' hs
          have rn := r1.mono x2.gr
          cases rn with
          | mref e =>
            exact set_run S2 e hmo hs r2 (r.mono (x1.trans x2).gr) fun H' x3 S3 => k _ _ _ _ _ _ (x1.trans (x2.trans x3)) S3 q2
        · exact q2.elim
      · exact q2.elim
    · exact q2.elim⟩⟩
theorem d2s_nil : DG2s X z [] g2Nil := fun Wd tk => pgsI pgs_nil fun vs σ H Q ⟨F, m, μ, ρ, ds, Qd, S, r, h, k⟩ => by
  cases r with
  | nil => exact ⟨rfl, k _ _ _ _ _ _ (Ext.refl _ _ _) S h⟩
  | cons _ _ => exact h.elim
theorem d2s_cons (h1 : DG2 X z e g) (h2 : DG2s X z es gs) (hs : (assignEach (e :: es) X.env).map (·.2) = assign e X.env :: (assignEach es X.env).map (·.2) := by rfl) : DG2s X z (e :: es) (g2Cons g gs) := fun Wd tk =>
  pgsI (pgs_cons (h1 Wd tk) (h2 Wd tk) hs) fun vs σ H Q ⟨F, m, μ, ρ, ds, Qd, S, r, h, k⟩ => by
    cases r with
    | nil => exact h.elim
    | cons r rs =>
      exact ⟨_, _, rfl, F, m, μ, ρ, _, _, S, r, h, fun F1 m1 μ1 ρ1 σ1 H1 x1 S1 q1 => ⟨F1, m1, μ1, ρ1, _, _, S1, rs.mono x1.gr, q1, fun F2 m2 μ2 ρ2 σ2 H2 x2 => k _ _ _ _ _ _ (x1.trans x2)⟩⟩
/-- tg = e, tg a name, o[i], a tuple of such -/
def sAsg2 (w : WE) (g : WXd → D → Slots → Sto → (Slots → Sto → Prop) → Prop) : WS := fun De ρ μ => w ρ μ (fun d μ1 => g De.ex d ρ μ1 De.nx) (fun x μ' => De.ex x ρ μ')
theorem ds_asg2 (he : DE X z e w) (hg : DG2 X z tg g) (hs : swapsWithSole [tg] e pos.line X.env = pure false := by rfl) (hw : swappedStores [tg] e X.env = pure none := by rfl)
    (h1 : (assignEach [tg] X.env).map (·.2) = [assign tg X.env] := by rfl) : DS X z (.Assign [tg] e pos) (sAsg2 w fun E d ρ μ Q => g d ρ μ Q (fun x μ' => E x ρ μ')) := fun Wd tk => psI (ps_asg (he Wd tk) (hg Wd tk) hs hw h1) fun D σ H ⟨F, m, μ, ρ, De, S, h, ex, k⟩ => by
  subst ex
  exact ⟨F, m, μ, ρ, _, S, h, fun F1 m1 μ1 d1 v1 H1 x1 S1 r1 q1 => ⟨F1, m1, μ1, ρ, _, _, S1, r1, q1, fun F2 m2 μ2 ρ2 σ2 H2 x2 => k.nx _ _ _ _ _ _ (x1.trans x2)⟩⟩
theorem ds_asg2T {k n : Nat} {ps : Pos} (hc : X.calm = true) (he : DE X z e w) (hg : DG2s X z es gs) (hn : (assignEach es X.env).length = n := by rfl) (hst : (assignEach es X.env).findIdx? (·.1) = none := by rfl)
    (hs : swapsWithSole [.Tuple es k ps] e pos.line X.env = pure false := by rfl) (hw : swappedStores [.Tuple es k ps] e X.env = pure none := by rfl)
    (h1 : (assignEach [.Tuple es k ps] X.env).map (·.2) = [assign (.Tuple es k ps) X.env] := by rfl) : DS X z (.Assign [.Tuple es k ps] e pos) (sAsg2 w fun E => g2T n gs E) := fun Wd tk => psI (ps_asg (he Wd tk) (pg_tup hc (hg Wd tk) hn hst) hs hw h1) fun D σ H ⟨F, m, μ, ρ, De, S, h, ex, k⟩ => by
  subst ex
  refine ⟨F, m, μ, ρ, _, S, h, fun F1 m1 μ1 d1 v1 H1 x1 S1 r1 q1 => ?_⟩
  simp only [g2T] at q1
  split at q1
  · rename_i ds
    split at q1
    · rename_i hl
      cases r1 with
      | tup hq rs =>
        exact ⟨_, _, rfl, Same.sqt S1.same hq, by rw [← rs.length]; exact Nat.eq_of_beq_eq_true hl, F1, m1, μ1, ρ, ds, _, S1, rs, q1, fun F2 m2 μ2 ρ2 σ2 H2 x2 => k.nx _ _ _ _ _ _ (x1.trans x2)⟩
    · exact q1.elim
  · exact q1.elim

/-! ### augmented -/
theorem get_list : PGet X (fun x y H Q => ∃ p xs i v, x = .ref p ∧ y = .int i ∧ SqL X.K H p xs ∧ atI xs i = some v ∧ Q v H) := by
  intro pins s σ H x y v u Q I rx ry h
  obtain ⟨p, xs, i, z, rfl, rfl, hq, he, q⟩ := h
  cases rx
  obtain ⟨t, rfl⟩ := ry
  obtain ⟨its, r, pl, hz⟩ := I.list hq
  obtain ⟨j, h1, h2, h3, h4, h5⟩ := atI_get he
  obtain ⟨w, ew, rw'⟩ := r.get h2
  have hl := r.length
  have hn := line63
  have fin : EP X pins σ Q w s := ⟨z, H, I, rw', q⟩
  by_cases h0 : 0 ≤ i
  · have hj : i.toNat = j := by
      rw [seqIndex_of h0 h5] at h1
      exact Option.some.inj h1
    exact wpAny_getItem_list pl.isList h0 (by omega) (by rw [hj]; simpa using ew) fin
  · have hj : (i + (its.toArray.size : Int)).toNat = j := by
      rw [seqIndex_neg (by omega) h4] at h1
      rw [List.size_toArray, ← hl]
      exact Option.some.inj h1
    exact wpAny_getItem_list_neg pl.isList (by omega) (by rw [List.size_toArray] <;> omega) (by omega) (by rw [hj]; simpa using ew) fin
def rGetA (K : PySem.W.Frag) : V → V → Hp → VK → Prop := fun x y H Q => (∃ p xs i v, x = .ref p ∧ y = .int i ∧ SqL K H p xs ∧ atI xs i = some v ∧ Q v H) ∨ (∃ a v, x = .ref a ∧ DGet H a y (some v) ∧ Q v H)
theorem get_all (hu : X.A.units + 1 < cLine) : PGet X (rGetA X.K) := by
  intro pins s σ H x y v u Q I rx ry h
  rcases h with h | ⟨a, w, ex, g, q⟩
  · exact get_list pins s σ H x y v u Q I rx ry h
  · subst ex
    cases rx
    exact d_getItem hu I g ry fun w' s' I' r' => ⟨_, _, I', r', q⟩
/-- o[i] += e, ints -/
def getA : D → D → Option D
  | .lst xs, .int i => atG xs i
  | .dct kvs, i => match toK i with
    | some k => getK kvs k
    | none => none
  | _, _ => none
def sAugS (f : Int → Int → Int) (wo wi we : WE) : WS := fun De ρ μ => wo ρ μ (fun x μ1 => wi ρ μ1 (fun i μ2 => match getA (look μ2 x) i with
  | some (.int a) => we ρ μ2 (fun y μ3 => match y with
    | .int b => match x with
      | .mref k => match μ3[k]? with
        | some mo => match setD mo i (.int (f a b)) with
          | some mo' => De.nx ρ (μ3.set k mo')
          | none => False
        | none => False
      | _ => False
    | _ => False) (fun x μ' => De.ex x ρ μ')
  | _ => False) (fun x μ' => De.ex x ρ μ')) (fun x μ' => De.ex x ρ μ')
theorem get_run {K : PySem.W.Frag} {F : Hp} {m : List Addr} {μ : Sto} {ρ : Slots} {σ : L2.St} {H : Hp} {x i d : D} {v u : V} {Q : VK} (S : SimZ K z F m μ ρ σ H) (vx : Vw K z.T F m H x v) (ri : Rep K z.T F m i u) (h : getA x i = some d) (fin : ∀ w, Rep K z.T F m d w → Q w H) : rGetA K v u H Q := by
  unfold getA at h
  split at h
  · rename_i xs i
    cases ri
    obtain ⟨a, vs, rfl, h1, r⟩ := vx.list S.same
    have e1 := atG_eq h
    unfold atI at e1
    cases hj : ixN _ _ with
    | none => rw [hj] at e1; cases e1
    | some j =>
      rw [hj] at e1
      obtain ⟨w, h2, r2⟩ := r.get e1
      have e2 : atI vs i = some w := by
        unfold atI
        rw [← r.length, hj]
        exact h2
      exact .inl ⟨a, vs, _, w, rfl, rfl, SqL.of h1, e2, fin w r2⟩
  · split at h
    · rename_i kk hk
      obtain ⟨a, vs, rfl, h1, r⟩ := vx.dict S.same
      have hkv := toK_V (H := H) (.of ri) hk
      subst hkv
      obtain ⟨w, h2, r2⟩ := (getK_V r).1 d h
      exact .inr ⟨a, w, rfl, .inl ⟨vs, kk.key, h1, rfl, h2.symm⟩, fin w r2⟩
    · cases h
  · cases h
theorem ds_augS {op : Operator} {f : Int → Int → Int} {tpos : Pos} (hu : X.A.units + 1 < cLine) (hp : PIp X op (ipI f)) (ho : DE X z o wo) (hi : DE X z i wi) (he : DE X z e w)
    (ha : ∀ ov iv new, augStore i ov iv new = (do holding [new, ov, iv] (setItem ov iv new); release [new, ov, iv] []; pure .next) := by intros; rfl) : DS X z (.AugAssign (.Subscript o i tpos) op e pos) (sAugS f wo wi w) := fun Wd tk =>
  psI (ps_augS (ho Wd tk) (hi Wd tk) (get_all hu) (he Wd tk) hp (set_all hu) ha) fun D σ H ⟨F, m, μ, ρ, De, S, h, ex, k⟩ => by
    subst ex
    refine ⟨F, m, μ, ρ, _, S, h, fun F1 m1 μ1 d1 v1 H1 x1 S1 r1 q1 => ⟨F1, m1, μ1, ρ, _, S1, q1, fun F2 m2 μ2 d2 v2 H2 x2 S2 r2 q2 => ?_⟩⟩
    split at q2
    · rename_i a hg
      refine get_run S2 (S2.view (r1.mono x2.gr)) r2 hg fun w rw => ?_
      cases rw
      refine ⟨F2, m2, μ2, ρ, _, S2, q2, fun F3 m3 μ3 d3 v3 H3 x3 S3 r3 q3 => ?_⟩
      split at q3
      · rename_i b
        cases r3
        split at q3
        · rename_i n
          split at q3
          · rename_i mo hmo
            split at q3
            · rename_i mo' hs
              have rn := r1.mono (x2.trans x3).gr
              cases rn with
              | mref e =>
                exact ⟨a, b, rfl, rfl, set_run S3 e hmo hs (r2.mono x3.gr) .int fun H' x4 S4 => k.nx _ _ _ _ _ _ (x1.trans (x2.trans (x3.trans x4))) S4 q3⟩
            · exact q3.elim
          · exact q3.elim
        · exact q3.elim
      · exact q3.elim
    · exact q2.elim
/-! ### while -/
end
end Pk

/-! The data layer, part N0: promises of defs that are called where no repr is under way. -/
namespace Pk
open PySem PySem.Spec PyProof.Rows L2
/-- room, and no guard on the stack -/
structure Room (k : Nat) (A : Around) : Prop extends L2.Room k A where
  g : A.guards = some []
section
variable {j k : Nat} {A : Around}
theorem Room.mono (h : Room k A) (l : j ≤ k) : Room j A := ⟨h.toRoom.mono l, h.g⟩
theorem Room.deeper (h : Room (k + 1) A) (env : Env) : Room k (A.deeper env) := ⟨h.toRoom.deeper env, h.g⟩
theorem Room.make (h : Room (k + 1) A) (C : Addr) (us : List Value) (kw : List (Str × Value)) : Room k (A.under (.builtin "type.__call__" ⟨.ref C :: us, kw⟩)) := ⟨h.toRoom.make C us kw, h.g⟩
theorem Room.in1 (h : Room (k + 1) A) : Room k A.in1 := ⟨h.toRoom.in1, h.g⟩
end
/-- the promise of a def, over such callers -/
structure FnOk (P : Program) (w : World) (K : PySem.W.Frag) (mg : Str → Option Value) (base : Heap) (CX : CXT) (k : Nat) (f : Addr) (fd : FuncData) (ps : List Str) (sp : Sp) : Prop where
  len : ∀ ys G Qv Ev, sp ys G Qv Ev → ys.length = ps.length
  run : ∀ (A : Around) (os : List Env) (t : Shared) (G : Hp) (ag : Args) (us : List Value) (ys : List V) (Qv : VK) (Ev : XK), Room k A → Env0 P w K mg base A os t G → BindsTo t fd ag (ps.zip us) → Vals ys us → sp ys G Qv Ev →
    codeAny (model P w) A (.call (.ref f) ag) (CR CX os P w G t Qv Ev) t
theorem FnOk.imp {P : Program} {w : World} {K : PySem.W.Frag} {mg : Str → Option Value} {base : Heap} {CX : CXT} {k : Nat} {f : Addr} {fd : FuncData} {ps : List Str} {sp sq : Sp} (Fo : FnOk P w K mg base CX k f fd ps sp) (h : ∀ ys G Qv Ev, sq ys G Qv Ev → sp ys G Qv Ev) : FnOk P w K mg base CX k f fd ps sq where
  len := fun ys G Qv Ev z => Fo.len ys G Qv Ev (h _ _ _ _ z)
  run := fun A os t G ag us ys Qv Ev rm e0 bd vl z => Fo.run A os t G ag us ys Qv Ev rm e0 bd vl (h _ _ _ _ z)
/-- from the body's walk -/
theorem fn_ofG {CX : CXT} {P : Program} {w : World} {K : PySem.W.Frag} {mg : Str → Option Value} {base : Heap} {k : Nat} {f : Addr} {name qual : Str} {params : Arguments} {body : List Stmt} {scope : Scope} {dV kV doc pm cdv ct oc : Value} {an od : Option Addr}
    {osl : Array (Option Value)} {N ps : List Str} {sp : Sp} (look : K.lookup f = some ⟨oc, od, .func (PySem.W.fnOf name qual params body scope dV kV doc pm an cdv ct), osl⟩) (code : PySem.W.codeIn K cdv qual = true) (S : FnScope N ps scope)
    (len : ∀ ys G Qv Ev, sp ys G Qv Ev → ys.length = ps.length)
    (walk : ∀ (A : Around) (os : List Env) (t : Shared) (G : Hp) (ys : List V) (Qv : VK) (Ev : XK), Room k (A.deeper (envOfC qual scope t.heap.objs.size f cdv)) → sp ys G Qv Ev →
      ∃ tb, PSs (cxOf CX P w K mg base N qual scope f cdv A os t G Ev) body tb ∧ tb { nx := fun _ G' => Qv .non G', rt := Qv } (start N ys) G) :
    FnOk P w K mg base CX (k + 1) f (PySem.W.fnOf name qual params body scope dV kV doc pm an cdv ct) ps sp where
  len := len
  run := by
    intro A os t G ag us ys Qv Ev rm e0 bd vl z
    have nl := len _ _ _ _ z
    have inK : K.In t.heap := e0.mod.kin.keeps fun b o eb => (e0.bs b o eb).1
    have noLim : t.heap.NoLimit := e0.mod.nolimit.keeps fun b o eb => (e0.bs b o eb).1
    have kinds : ∀ y ∈ ps.zip us, scope.names.lookup y.1 = some .local ∨ (scope.names.lookup y.1 = some .cell ∧ ((cellsFrom (t.heap.objs.size + 1) scope.names []).lookup y.1).isSome = true) := by
      rintro ⟨nm, v⟩ hy
      exact (S.par nm (List.of_mem_zip hy).1).imp id fun q => ⟨q, PySem.W.cellsFrom_some _ _ _ (.inl q)⟩
    refine codeAny_call_function rm.depth (inK _ _ look) rfl S.co S.gen rfl (PySem.W.codeRec_of inK code) (bd _ _ _ _ (wpAny_newFunctionEnv_cells S.kind kinds fun env he t1 x => ?_))
    subst he
    refine ⟨noLim.keeps x.toInCall.keep, codeAny_func ?_⟩
    obtain ⟨tb, ps1, q⟩ := walk A os t G ys Qv Ev (rm.deeper _) z
    have I0 : Inv (cxOf CX P w K mg base N qual scope f cdv A os t G Ev) [] (start N ys) G t1 := inv_start S rm.hd e0 nl vl x
    refine wpAny_mono (ps1.run [] t1 (start N ys) G _ I0 q) (fun fl t2 => ?_) fun _ _ e => e
    match fl with
    | .ret u => exact fun ⟨v, _, G', J, rv, q⟩ => ⟨v, G', J.os, J.bare, J.base, J.hok, rv, q⟩
    | .next => exact fun ⟨_, G', J, q⟩ => ⟨.non, G', J.os, J.bare, J.base, J.hok, rfl, q⟩
    | .brk => exact fun ⟨_, _, _, q⟩ => q.elim
    | .cont => exact fun ⟨_, _, _, q⟩ => q.elim
section
variable {X : Cx} {CX : CXT} {k : Nat} {f C p0 g a dx : Addr} {fd : FuncData} {ps : List Str} {sp : Sp} {dvs : List V} {ds : List Value} {E : L2.St → XK} {x : Str} {p pos : Pos} {e : Expr} {es : List Expr} {t : TA} {ta : TE} {fs : List (Str × V)}
theorem run_fnSD {pins : List (Addr × Obj)} {σ : L2.St} {H : Hp} {s : Shared} {Q : VK} {us : List Value} {vs : List V} (Fo : FnOk X.prog X.w X.K X.mg X.base CX k f fd ps sp) (rm : Room k X.A) (bd : Binds X.K fd ps ds) (hd : Vals dvs ds) (px : PassesAt CX X σ (E σ))
    (I : Inv X pins σ H s) (rv : Vals vs us) (z : sp (vs ++ dvs) H Q (E σ)) : wpAny (model X.prog X.w) X.A (call (.ref f) us) (EP X pins σ Q) X.xe s := by
  have all := rv.append hd
  have go := Fo.run X.A X.stack s H ⟨us, []⟩ (us ++ ds) (vs ++ dvs) Q (E σ) rm I.env0 (bd s us I.kIn (all.length.symm.trans (Fo.len _ _ _ _ z))) all z
  refine wpAny_call (codeAny_mono go fun r t2 => ?_)
  match r with
  | .error er => exact fun q => px pins H s er t2 I q
  | .ok (.ret u) => exact fun q => I.after q
  | .ok .next => exact fun q => q.elim
  | .ok .brk => exact fun q => q.elim
  | .ok .cont => exact fun q => q.elim
theorem pe_callSD (Fo : FnOk X.prog X.w X.K X.mg X.base CX k f fd ps sp) (rm : Room k X.A) (gl : Gl X x) (hm : X.mg x = some (.ref f)) (kp : PySem.W.keepIn X.K (.ref f) = true) (bd : Binds X.K fd ps ds) (hd : Vals dvs ds) (px : ∀ σ, PassesAt CX X σ (E σ))
    (ha : PA X (e :: es) t) (hdb : (x == ("__debug__" : Str)) = false := by decide) (he : starEach (e :: es) X.env = (false, eval e X.env) :: starEach es X.env := by rfl) (hpl : (backTo pos (starEach es X.env)).any (·.1) = false := by rfl) :
    PE X (.Call (.Name x p) (e :: es) [] pos) (tCallSD sp dvs E t) where
  run := fun pins s σ H Q I h => wpAny_Call_Name_kw (ld_glob I gl hm (PySem.W.callWith_K (h₀ := X.base) I.ok.mod.kin kp
    (thn (ha.run pos pins s σ H _ I h) fun us s1 ⟨vs, H1, I1, r, q⟩ => ⟨I1.kIn, run_fnSD Fo rm bd hd (px σ) I1 r q⟩) he hpl) hdb)
/-- o.f, a property's getter -/
theorem getpropG {pins : List (Addr × Obj)} {σ : L2.St} {H : Hp} {s : Shared} {Q : VK} {b : Bool} {E' : Value → Shared → Prop} {E : XK} {m : Str} (I : Inv X pins σ H s) (ea : H a = some (.ins C dx fs)) (c : Cls X.K C) (hp : PropOf X.K C m p0 g)
    (Fo : FnOk X.prog X.w X.K X.mg X.base CX k g fd ps sp) (rm : Room (k + 1) X.A) (bd : Binds X.K fd ps ds) (hd : Vals dvs ds) (px : Passes CX X.nox E) (z : sp (.ref a :: dvs) H Q E) :
    wpAny (model X.prog X.w) X.A (getAttr (.ref a) m b) (EP X pins σ Q) E' s := by
  obtain ⟨mA, O, -⟩ := ins_get I.hok ea
  obtain ⟨od, J, -⟩ := O.look
  obtain ⟨rest, hrec⟩ := hp.rec_
  have It := I.tok (s.toks + 1)
  have nl : ([Value.ref a] ++ ds).length = ps.length := by
    rw [← Fo.len _ _ _ _ z, List.length_cons, hd.length]
    rfl
  have cl : (PySem.W.clsIn X.K C).isSome = true := by
    obtain ⟨cd, e1, -⟩ := PySem.W.any_some c.hd
    exact e1 ▸ rfl
  have go := Fo.run X.A.in1 X.stack { s with toks := s.toks + 1 } H ⟨[.ref a], []⟩ (.ref a :: ds) (.ref a :: dvs) Q E rm.in1 It.env0.in1 (bd _ [.ref a] It.kIn nl) (.cons rfl hd) z
  refine PySem.W.get_bind I.kIn J (PySem.W.plainGet_of (c.get m)).1 (PySem.W.findObj_data cl hp.at_ hp.get hp.tak) (PySem.W.plainGet_of (c.get m)).2 (wpAny_call (PySem.W.prop_get (s := { s with toks := s.toks + 1 }) I.kIn hrec (codeAny_mono go fun r t2 => ?_)))
  match r with
  | .error er => exact fun q => (px pins σ H { s with toks := s.toks + 1 } er t2 (It.wish _) q).elim
  | .ok (.ret u) =>
    intro q
    obtain ⟨v, G, I3, rv, q3⟩ := It.after q
    show wpAny _ _ (handedOut u) _ _ _
    rw [PySem.W.handedOut_of (handed_of rv)]
    exact wpAny_pure ⟨v, G, I3, rv, q3⟩
  | .ok .next => exact fun q => q.elim
  | .ok .brk => exact fun q => q.elim
  | .ok .cont => exact fun q => q.elim
theorem pe_prop {E : XK} {m : Str} (he : PE X e ta) (c : Cls X.K C) (hp : PropOf X.K C m p0 g) (Fo : FnOk X.prog X.w X.K X.mg X.base CX k g fd ps sp) (rm : Room (k + 1) X.A) (bd : Binds X.K fd ps ds) (hd : Vals dvs ds) (px : Passes CX X.nox E)
    (hab : attributeBase e m X.env (eval e X.env) = eval e X.env) : PE X (.Attribute e m pos) (tProp C sp dvs E ta) where
  run := fun pins s σ H Q I h => attr_of hab (thn (he.run pins s σ H _ I h) fun u s1 ⟨y, H1, I1, ry, a, dx, fs, ey, ea, q⟩ => by
    subst ey
    cases ry
    exact getpropG I1 ea c hp Fo rm bd hd px q)
end
/-- the def's facts give its promise -/
theorem okG {P : Program} {w : World} {K : PySem.W.Frag} {mg : Str → Option Value} {base : Heap} {x qual : Str} {params : Arguments} {body : List Stmt} {scope : Scope} {dvs : List V} {kws : List (Str × V)} {f : Addr} {fd : FuncData} {CX : CXT} {N ps : List Str} {k : Nat} {sp : Sp}
    (F : FunD K x qual params body scope dvs kws f fd) (S : FnScope N ps scope) (len : ∀ ys G Qv Ev, sp ys G Qv Ev → ys.length = ps.length)
    (walk : ∀ (cdv : Value) (A : Around) (os : List Env) (t : Shared) (G : Hp) (ys : List V) (Qv : VK) (Ev : XK), Room k (A.deeper (envOfC qual scope t.heap.objs.size f cdv)) → sp ys G Qv Ev →
      ∃ tb, PSs (cxOf CX P w K mg base N qual scope f cdv A os t G Ev) body tb ∧ tb { nx := fun _ G' => Qv .non G', rt := Qv } (start N ys) G) : FnOk P w K mg base CX (k + 1) f fd ps sp := by
  obtain ⟨_, _, _, _, _, _, _, cd, _, _, rfl, look, code, _, _⟩ := F.ex
  exact fn_ofG look code S len (walk cd)
end Pk

/-! The data layer, part N1: promises of defs, calls. -/
namespace Pk
open PySem PySem.Spec PyProof.Rows L2

abbrev Con := List D → Sto → QD → QX → Prop
/-- the promise of a def whose contract is c, over the values -/
def spD (K : PySem.W.Frag) (T : Tab) (c : Con) (n : Nat) : Sp := fun vs H Q E => ∃ F m μ ds Qd Qx, Sim K T F m H F m μ [] [] H ∧ Reps K T F m ds vs ∧ ds.length = n ∧ c ds μ Qd Qx ∧
  (∀ F' m' μ' d v H', Ext F m H F' m' H' → Sim K T F m H F' m' μ' [] [] H' → Rep K T F' m' d v → Qd d μ' → Q v H') ∧
  (∀ F' m' μ' x cls d H', Ext F m H F' m' H' → Sim K T F m H F' m' μ' [] [] H' → XRep K T F' m' H' x cls d → Qx x μ' → E cls d H')
section
variable {K : PySem.W.Frag} {T : Tab} {F0 F F' H0 : Hp} {m0 m m' : List Addr} {μ μ' : Sto} {ρ : Slots} {σ : L2.St} {H H' : Hp}
theorem Sim.entry (S : Sim K T F0 m0 H0 F m μ ρ σ H) : Sim K T F m H F m μ [] [] H :=
  ⟨Ext.refl _ _ _, S.same, S.len, S.nd, S.al, S.sto, rfl, (fun i d e => by simp at e), S.tabs⟩
theorem Sim.back (S : Sim K T F0 m0 H0 F m μ ρ σ H) (x : Ext F m H F' m' H') (B : Sim K T F m H F' m' μ' [] [] H') : Sim K T F0 m0 H0 F' m' μ' ρ σ H' :=
  ⟨S.ext.trans x, B.same, B.len, B.nd, B.al, B.sto, S.sl, (fun i d e => by
    obtain ⟨v, h1, h2⟩ := S.slot i d e
    exact ⟨v, h1, h2.mono x.gr⟩), B.tabs⟩
theorem Sim.bare (S : Sim K T F0 m0 H0 F m μ ρ σ H) : Sim K T F0 m0 H0 F m μ [] [] H := S.slots rfl fun i d e => by simp at e
end
def startD (N : Nat) (ds : List D) : Slots := ds.map some ++ List.replicate (N - ds.length) none
def conB (N n : Nat) (w : WS) : Con := fun ds μ Q E => match Nat.beq ds.length n with
  | true => w ⟨fun _ μ' => Q .non μ', Q, fun _ _ => False, fun _ _ => False, fun x _ μ' => E x μ'⟩ (startD N ds) μ
  | false => False
theorem start_slot {K : PySem.W.Frag} {T : Tab} {F : Hp} {m : List Addr} {N : List Str} {ds : List D} {vs : List V} (r : Reps K T F m ds vs) : (startD N.length ds).length = (start N vs).length ∧ ∀ (i : Nat) (d : D), (startD N.length ds)[i]? = some (some d) → ∃ v, (start N vs)[i]? = some (some v) ∧ Rep K T F m d v := by
  have hl := r.length
  refine ⟨by simp [startD, L2.start, hl], fun i d e => ?_⟩
  unfold startD at e
  by_cases hi : i < ds.length
  · rw [List.getElem?_append_left (by simpa using hi), List.getElem?_map] at e
    cases q : ds[i]? with
    | none => rw [q] at e; cases e
    | some d' =>
      rw [q] at e
      injection e with e
      injection e with e
      subst e
      obtain ⟨v, h1, h2⟩ := r.get q
      refine ⟨v, ?_, h2⟩
      unfold L2.start
      rw [List.getElem?_append_left (by simpa using (by omega : i < vs.length)), List.getElem?_map, h1]
      rfl
  · rw [List.getElem?_append_right (by simpa using hi), List.getElem?_replicate] at e
    split at e <;> cases e
/-- what a def's facts give -/
abbrev FnC (P : Program) (w0 : World) (K : PySem.W.Frag) (mg : Str → Option Value) (base : Heap) (T : Tab) (k : Nat) (f : Addr) (fd : FuncData) (ps : List Str) (c : Con) : Prop := FnOk P w0 K mg base (L2.CX P w0) k f fd ps (spD K T c ps.length)
section
variable {P : Program} {w0 : World} {K : PySem.W.Frag} {mg : Str → Option Value} {base : Heap} {T : Tab} {x qual : Str} {params : Arguments} {body : List Stmt} {scope : Scope} {dvs : List V} {kws : List (Str × V)} {f : Addr} {fd : FuncData} {N ps : List Str} {k : Nat}
theorem fn_con {w : WS} (Fd : FunD K x qual params body scope dvs kws f fd) (S : FnScope N ps scope)
    (hb : ∀ (cdv : Value) (A : Around) (outer : List Env) (s : Shared) (H : Hp) (E : XK) (F0 : Hp) (m0 : List Addr) (H0 : Hp), Room k (A.deeper (envOfC qual scope s.heap.objs.size f cdv)) →
      DSs (cxOf (L2.CX P w0) P w0 K mg base N qual scope f cdv A outer s H E) ⟨T, F0, m0, H0⟩ body w) : FnC P w0 K mg base T (k + 1) f fd ps (conB N.length ps.length w) := by
  refine okG Fd S (fun vs H Q E h => ?_) (fun cdv A outer s H vs Q E hr h => ?_)
  · obtain ⟨F, m, μ, ds, Qd, Qx, _, r, hl, _⟩ := h
    rw [← r.length]
    exact hl
  · obtain ⟨F, m, μ, ds, Qd, Qx, S0, r, hl, hc, kd, kx⟩ := h
    have hs := start_slot (N := N) r
    have hc' : w ⟨fun _ μ' => Qd .non μ', Qd, fun _ _ => False, fun _ _ => False, fun x _ μ' => Qx x μ'⟩ (startD N.length ds) μ := by
      unfold conB at hc
      have : Nat.beq ds.length ps.length = true := by rw [hl]; exact Nat.beq_refl _
      rw [this] at hc
      exact hc
    have tk : Takes (cxOf (L2.CX P w0) P w0 K mg base N qual scope f cdv A outer s H E) (XW K ⟨T, F, m, H⟩ fun x _ μ' => Qx x μ') :=
      (takes_of (X := cxOf (L2.CX P w0) P w0 K mg base N qual scope f cdv A outer s H E) rfl rfl rfl rfl).imp fun cls d σ H' ⟨F', m', μ', ρ, x, S', xr, q⟩ => kx F' m' μ' x cls d H' S'.ext S'.bare xr q
    exact ⟨_, hb cdv A outer s H E F m H hr _ tk, F, m, μ, startD N.length ds, _, S0.slots hs.1 hs.2, hc', rfl,
      ⟨fun F' m' μ' ρ' σ' H' x S' q => kd _ _ _ _ _ _ x S'.bare .non q, fun F' m' μ' ρ' σ' d v H' x S' r q => kd _ _ _ _ _ _ x S'.bare r q, fun _ _ _ _ _ _ _ _ q => q.elim, fun _ _ _ _ _ _ _ _ q => q.elim⟩⟩
end

/-! ### calls -/
/-- no exception leaves -/
def nox : QX := fun _ _ => False
section
variable {X : Cx} {z : Zx} {k n : Nat} {f : Addr} {fd : FuncData} {ps : List Str} {c : Con} {x : Str} {p pos : Pos} {e : Expr} {es : List Expr} {wa : WA} {dvs : List V} {ds0 : List Value} {dds : List D}
/-- the promise, from a state of the caller -/
theorem sp_run {F : Hp} {m : List Addr} {μ : Sto} {ρ : Slots} {σ : L2.St} {H : Hp} {Qd : QD} {Qx : QX} {Q : VK} {E : XK} {ds : List D} {vs : List V} (S : SimZ X.K z F m μ ρ σ H) (r : Reps X.K z.T F m ds vs) (hl : ds.length = n) (hc : c ds μ Qd Qx) (k : Fin X.K z F m H ρ σ Qd Q)
    (kx : ∀ F' m' μ' x cls d H', Ext F m H F' m' H' → SimZ X.K z F' m' μ' ρ σ H' → XRep X.K z.T F' m' H' x cls d → Qx x μ' → E cls d H') : spD X.K z.T c n vs H Q E :=
  ⟨F, m, μ, ds, Qd, Qx, S.entry, r, hl, hc, fun F' m' μ' d v H' x1 B r1 q => k F' m' μ' d v H' x1 (S.back x1 B) r1 q, fun F' m' μ' x cls d H' x1 B xr q => kx F' m' μ' x cls d H' x1 (S.back x1 B) xr q⟩
def wCallN (c : Con) (n : Nat) (dds : List D) (wa : WA) : WE := fun ρ μ Q E => wa ρ μ (fun ds μ1 => match Nat.beq (ds ++ dds).length n with
  | true => c (ds ++ dds) μ1 Q E
  | false => False) E
theorem de_call (Fc : FnC X.prog X.w X.K X.mg X.base z.T k f fd ps c) (hr : Room k X.A) (hg : Gl X x) (hm : X.mg x = some (.ref f)) (hk : PySem.W.keepIn X.K (.ref f) = true) (hb : Binds X.K fd ps ds0) (hd : Vals dvs ds0) (hdd : ∀ F m, Reps X.K z.T F m dds dvs)
    (ha : DA X z (e :: es) wa) (hdb : (x == ("__debug__" : Str)) = false := by decide) (he : starEach (e :: es) X.env = (false, eval e X.env) :: starEach es X.env := by rfl) (hpl : (backTo pos (starEach es X.env)).any (·.1) = false := by rfl) :
    DE X z (.Call (.Name x p) (e :: es) [] pos) (wCallN c ps.length dds wa) := fun Wd tk =>
  peI (pe_callSD (E := fun σ cls d H => XW X.K z Wd cls d σ H) Fc hr hg hm hk hb hd (fun σ => passAt tk σ) (ha Wd tk) hdb he hpl) fun σ H Q ⟨F, m, μ, ρ, Qd, S, h, kk⟩ => ⟨F, m, μ, ρ, _, S, h, fun F1 m1 μ1 ds vs H1 x1 S1 r1 q1 => by
    cases e : Nat.beq (ds ++ dds).length ps.length with
    | false => rw [e] at q1; exact q1.elim
    | true =>
      rw [e] at q1
      exact sp_run S1 (r1.append (hdd _ _)) (Nat.eq_of_beq_eq_true e) q1 (fun F4 m4 μ4 d4 v4 H4 x4 => kk F4 m4 μ4 d4 v4 H4 (x1.trans x4)) fun F' m' μ' y cls d H' x2 S2 xr q => ⟨F', m', μ', ρ, y, S2, xr, q⟩⟩
theorem de_call0 (Fc : FnC X.prog X.w X.K X.mg X.base z.T k f fd ps c) (hr : Room k X.A) (hg : Gl X x) (hm : X.mg x = some (.ref f)) (hk : PySem.W.keepIn X.K (.ref f) = true) (hb : Binds X.K fd ps []) (hn : ps = [])
    (hdb : (x == ("__debug__" : Str)) = false := by decide) : DE X z (.Call (.Name x p) [] [] pos) (wCallN c 0 [] aNil) := fun Wd tk => by
  refine ⟨fun pins s σ H Q I ⟨F, m, μ, ρ, Qd, S, h, kk⟩ => ?_⟩
  refine wpAny_Call_Name_kw (ld_glob I hg hm ?_ hdb)
  have h' : c [] μ Qd (fun x μ' => Wd x ρ μ') := h
  exact PySem.W.callWith_K0 I.kIn hk (run_fnSD (us := []) (vs := []) (dvs := []) (E := fun σ cls d H => XW X.K z Wd cls d σ H) Fc hr hb .nil (passAt tk σ) I .nil
    (sp_run S .nil (by rw [hn]; rfl) h' kk fun F' m' μ' y cls d H' x2 S2 xr q => ⟨F', m', μ', ρ, y, S2, xr, q⟩))
end

/-! ### calls that see no store -/
mutual
def noM : D → Bool
  | .mref _ => false
  | .tup xs => noMs xs
  | .lst xs => noMs xs
  | .dct kvs => noMk kvs
  | .ins _ fs => noMs fs
  | .err _ fs => noMs fs
  | .ptp xs => noMs xs
  | .ttp xs => noMs xs
  | .dcp _ xs => noMs xs
  | .dco kvs => noMk kvs
  | _ => true
def noMs : List D → Bool
  | [] => true
  | x :: r => match noM x with
    | true => noMs r
    | false => false
def noMk : List (DK × D) → Bool
  | [] => true
  | (_, x) :: r => match noM x with
    | true => noMk r
    | false => false
end
section
variable {K : PySem.W.Frag} {T : Tab} {F : Hp} {m m' : List Addr}
mutual
theorem Rep.noM : ∀ {d : D} {v : V}, Rep K T F m d v → Pk.noM d = true → Rep K T F m' d v
  | _, _, .non, _ => .non
  | _, _, .bl, _ => .bl
  | _, _, .int, _ => .int
  | _, _, .str, _ => .str
  | _, _, .tup h r, e => .tup h (Reps.noM r (by simpa [Pk.noM] using e))
  | _, _, .lst h r, e => .lst h (Reps.noM r (by simpa [Pk.noM] using e))
  | _, _, .dct h r, e => .dct h (RepK.noM r (by simpa [Pk.noM] using e))
  | _, _, .scr h, _ => .scr h
  | _, _, .ins h h2 r, e => .ins h h2 (Reps.noM r (by simpa [Pk.noM] using e))
  | _, _, .mref h, e => by simp [Pk.noM] at e
  | _, _, .cls, _ => .cls
  | _, _, .ty, _ => .ty
  | _, _, .ptp h n r, e => .ptp h n (Reps.noM r (by simpa [Pk.noM] using e))
  | _, _, .ttp h r, e => .ttp h (Reps.noM r (by simpa [Pk.noM] using e))
  | _, _, .err h h2 r, e => .err h h2 (Reps.noM r (by simpa [Pk.noM] using e))
  | _, _, .dcp h h2 l r, e => .dcp h h2 l (Reps.noM r (by simpa [Pk.noM] using e))
  | _, _, .dco h r, e => .dco h (RepK.noM r (by simpa [Pk.noM] using e))
theorem Reps.noM : ∀ {ds : List D} {vs : List V}, Reps K T F m ds vs → Pk.noMs ds = true → Reps K T F m' ds vs
  | _, _, .nil, _ => .nil
  | _, _, .cons h r, e => by
    unfold Pk.noMs at e
    split at e
    · rename_i e1
      exact .cons (Rep.noM h e1) (Reps.noM r e)
    · cases e
theorem RepK.noM : ∀ {ds : List (DK × D)} {vs : List (Key × V)}, RepK K T F m ds vs → Pk.noMk ds = true → RepK K T F m' ds vs
  | _, _, .nil, _ => .nil
  | _, _, .cons h r, e => by
    unfold Pk.noMk at e
    split at e
    · rename_i e1
      exact .cons (Rep.noM h e1) (RepK.noM r e)
    · cases e
end
end
/-- .. where the arguments name nothing of the store: the def runs over an empty one -/
def loc (c : Con) : Con := fun ds μ Q E => match noMs ds with
  | true => c ds [] (fun d _ => match noM d with
    | true => Q d μ
    | false => False) (fun x _ => match noMs x.fs with
    | true => E x μ
    | false => False)
  | false => c ds μ Q E
theorem loc_sp {K : PySem.W.Frag} {T : Tab} {c : Con} {n : Nat} {vs : List V} {H : Hp} {Q : VK} {E : XK} (h : spD K T (loc c) n vs H Q E) : spD K T c n vs H Q E := by
  obtain ⟨F, m, μ, ds, Qd, Qx, S, r, hl, hc, kd, kx⟩ := h
  unfold loc at hc
  split at hc
  · rename_i hn
    have S0 : Sim K T F [] H F [] [] [] [] H := ⟨Ext.refl _ _ _, S.same, rfl, List.nodup_nil, fun a h => absurd h (by simp), fun k a o e => by simp at e, rfl, (fun i d e => by simp at e), S.tabs⟩
    have back : ∀ {F' : Hp} {m' : List Addr} {μ' : Sto} {H' : Hp}, Ext F [] H F' m' H' → Sim K T F [] H F' m' μ' [] [] H' → Ext F m H F' m H' ∧ Sim K T F m H F' m μ [] [] H' := by
      intro F' m' μ' H' x B
      have g : Gr F m F' m := ⟨x.gr.fr, [], by simp⟩
      have xx : Ext F m H F' m H' := ⟨g, fun b o e w n h => by
        obtain ⟨e1, n1, _⟩ := x.frm b o e w n (by simp)
        exact ⟨e1, n1, h⟩, x.up⟩
      refine ⟨xx, xx, B.same, S.len, S.nd, fun a h => (x.up a).2 (S.al a h), fun k a o e1 e2 n => ?_, rfl, (fun i d e => by simp at e), B.tabs⟩
      obtain ⟨h1, h2⟩ := S.sto k a o e1 e2 n
      cases o with
      | gone => exact absurd rfl n
      | fz d => exact ⟨fun z => (by cases z), Rep.mono g h2⟩
      | lst ds =>
        obtain ⟨vs, e, r⟩ := h2
        obtain ⟨e3, n3, _⟩ := x.frm a _ e rfl (h1 rfl) (by simp)
        exact ⟨fun _ => n3, vs, e3, r.mono g⟩
      | dct ds =>
        obtain ⟨vs, e, r⟩ := h2
        obtain ⟨e3, n3, _⟩ := x.frm a _ e rfl (h1 rfl) (by simp)
        exact ⟨fun _ => n3, vs, e3, r.mono g⟩
      | dtp ds =>
        obtain ⟨vs, e, r⟩ := h2
        obtain ⟨e3, n3, _⟩ := x.frm a _ e rfl (h1 rfl) (by simp)
        exact ⟨fun _ => n3, vs, e3, r.mono g⟩
      | ins c ds =>
        obtain ⟨dx, vs, e, eo, _, l, r⟩ := h2
        obtain ⟨e3, n3, _⟩ := x.frm a _ e rfl (h1 rfl) (by simp)
        exact ⟨fun _ => n3, dx, vs, e3, (x.up dx).1 a eo, trivial, l, r.mono g⟩
    refine ⟨F, [], [], ds, _, _, S0, r.noM hn, hl, hc, fun F' m' μ' d v H' x B rd q => ?_, fun F' m' μ' y cls d H' x B xr q => ?_⟩
    · split at q
      · rename_i hd
        obtain ⟨xx, S2⟩ := back x B
        exact kd F' m μ d v H' xx S2 (rd.noM hd) q
      · exact q.elim
    · split at q
      · rename_i hd
        obtain ⟨xx, S2⟩ := back x B
        obtain ⟨e1, vs, e2, e3⟩ := xr
        exact kx F' m μ y cls d H' xx S2 ⟨e1, vs, e2, e3.noM hd⟩ q
      · exact q.elim
  · exact ⟨F, m, μ, ds, Qd, Qx, S, r, hl, hc, kd, kx⟩
end Pk

/-! The data layer, part N2: methods, classes made, properties, classmethods, isinstance of own classes, try without exceptions. -/
namespace Pk
open PySem PySem.Spec PyProof.Rows L2

/-! ### what a call may let out, at the slots: methods and makes -/
section
variable {X : Cx} {CX : CXT} {k : Nat} {f C : Addr} {fd : FuncData} {ps : List Str} {sp : Sp} {dvs : List V} {ds : List Value} {E : L2.St → XK} {x m : Str} {p pos apos : Pos} {e o : Expr} {es : List Expr} {ta : TE} {t : TA}
def tMethS (C : Addr) (m : Str) (sp : Sp) (dvs : List V) (E : L2.St → XK) (ta : TE) (t : TA) : TE := fun σ H Q => ta σ H fun x H1 => ∃ a dx fs, x = .ref a ∧ H1 a = some (.ins C dx fs) ∧ fs.lookup m = none ∧ t σ H1 fun vs H2 => sp (x :: (vs ++ dvs)) H2 Q (E σ)
def tMakeS (C : Addr) (sp : Sp) (dvs : List V) (E : L2.St → XK) (t : TA) : TE := fun σ H Q => t σ H fun vs H1 => ∀ x dx, H1 x = none → H1 dx = none → dx ≠ x →
  sp (.ref x :: (vs ++ dvs)) (upd (upd H1 dx (.own x)) x (.ins C dx [])) (fun v H2 => v = .non ∧ Q (.ref x) H2) (E σ)
theorem pe_methS {pl : Sem Bool} (he : PE X o ta) (c : Cls X.K C) (hm : Meth X.K C m f) (Fo : FnOk X.prog X.w X.K X.mg X.base CX k f fd ps sp) (hr : Room k X.A) (hb : Binds X.K fd ps ds) (hd : Vals dvs ds) (hx : ∀ σ, PassesAt CX X σ (E σ)) (ha : PA X (e :: es) t)
    (hst : starEach (e :: es) X.env = (false, eval e X.env) :: starEach es X.env) (hpl : (backTo pos (starEach es X.env)).any (·.1) = false)
    (ht : eval (.Call (.Attribute o m apos) (e :: es) [] pos) X.env = (eval o X.env >>= fun ov => standAt apos.atName >>= fun _ => holding [ov] (getMethod ov m pl) >>= fun r => callWith pos r.1 r.2 (backTo pos (starEach (e :: es) X.env)) (backToKw pos (keywordEach [] X.env)))) :
    PE X (.Call (.Attribute o m apos) (e :: es) [] pos) (tMethS C m sp dvs E ta t) :=
  ⟨fun pins s σ H Q I h => PySem.W.methodCall_KW (pl := pl) (thn (he.run pins s σ H _ I h) fun u s1 ⟨x, H1, I1, rx, a, dx, fs, ex, ea, l, q⟩ => by
    subst ex
    cases rx
    exact getmeth_ok I1 ea c hm l (PySem.W.callWith_K (first := [.ref a]) (h₀ := X.base) I.ok.mod.kin hm.kp
      (thn (ha.run pos pins s1 σ H1 _ I1 q) fun us s2 ⟨vs, H2, I2, r, q2⟩ => ⟨I2.kIn, run_fnSD (us := .ref a :: us) (vs := .ref a :: vs) Fo hr hb hd (hx σ) I2 (.cons rfl r) q2⟩) hst hpl)) ht⟩
theorem run_makeS {pins : List (Addr × Obj)} {σ : L2.St} {H : Hp} {s : Shared} {Q : VK} {us : List Value} {vs : List V} (M : Mk X.K C f) (Fo : FnOk X.prog X.w X.K X.mg X.base CX k f fd ps sp) (hr : Room (k + 1) X.A) (hb : Binds X.K fd ps ds) (hd : Vals dvs ds) (hx : PassesAt CX X σ (E σ)) (I : Inv X pins σ H s) (r : Vals vs us)
    (h : ∀ x dx, H x = none → H dx = none → dx ≠ x → sp (.ref x :: (vs ++ dvs)) (upd (upd H dx (.own x)) x (.ins C dx [])) (fun v H2 => v = .non ∧ Q (.ref x) H2) (E σ)) : wpAny (model X.prog X.w) X.A (call (.ref C) us) (EP X pins σ Q) X.xe s := by
  obtain ⟨n, hn⟩ : ∃ n, n = s.heap.objs.size := ⟨_, rfl⟩
  have hq := h (s.heap.objs.size + 1) s.heap.objs.size (I.hok.fresh (Nat.le_succ _)) (I.hok.fresh (Nat.le_refl _)) (Nat.ne_of_lt (Nat.lt_succ_self _))
  have I2 := I.made (C := C)
  have rr : Vals (V.ref (s.heap.objs.size + 1) :: (vs ++ dvs)) (Value.ref (s.heap.objs.size + 1) :: (us ++ ds)) := .cons rfl (r.append hd)
  have hlen : (Value.ref (s.heap.objs.size + 1) :: us ++ ds).length = ps.length := (rr.length.symm.trans (Fo.len _ _ _ _ hq) : _)
  have go := Fo.run _ X.stack _ _ ⟨Value.ref (s.heap.objs.size + 1) :: us, []⟩ (Value.ref (s.heap.objs.size + 1) :: (us ++ ds)) _ _ (E σ) (hr.make C us []) (I2.env0.make C us []) (hb _ (Value.ref (s.heap.objs.size + 1) :: us) I2.kIn hlen) rr hq
  refine wpAny_call (make_map (f := f) I.kIn M.makes M.init (beq_iff_eq.mp M.fn) (codeAny_mono go fun q s' hq' => ?_))
  match q, hq' with
  | .error er, hq' => exact hx pins _ _ er s' I2 hq'
  | .ok (.ret u), hq' =>
    obtain ⟨v, H', I3, rv, ev, q3⟩ := I2.after hq'
    subst ev
    exact ⟨rv, V.ref (s.heap.objs.size + 1), H', I3, rfl, q3⟩
  | .ok .next, hq' => exact hq'.elim
  | .ok .brk, hq' => exact hq'.elim
  | .ok .cont, hq' => exact hq'.elim
theorem pe_makeS (M : Mk X.K C f) (Fo : FnOk X.prog X.w X.K X.mg X.base CX k f fd ps sp) (hr : Room (k + 1) X.A) (hg : Gl X x) (hm : X.mg x = some (.ref C)) (hb : Binds X.K fd ps ds) (hd : Vals dvs ds) (hx : ∀ σ, PassesAt CX X σ (E σ)) (ha : PA X (e :: es) t)
    (hdb : (x == ("__debug__" : Str)) = false) (he : starEach (e :: es) X.env = (false, eval e X.env) :: starEach es X.env) (hpl : (backTo pos (starEach es X.env)).any (·.1) = false) : PE X (.Call (.Name x p) (e :: es) [] pos) (tMakeS C sp dvs E t) :=
  ⟨fun pins s σ H Q I h => wpAny_Call_Name_kw (ld_glob I hg hm (PySem.W.callWith_K (h₀ := X.base) I.ok.mod.kin M.kp
    (thn (ha.run pos pins s σ H _ I h) fun us s1 ⟨vs, H1, I1, r, q⟩ => ⟨I1.kIn, run_makeS M Fo hr hb hd (hx σ) I1 r q⟩) he hpl) hdb)⟩
end
section
variable {X : Cx} {z : Zx} {k cn n : Nat} {f : Addr} {fd : FuncData} {ps : List Str} {c : Con} {x m : Str} {p pos apos : Pos} {e o : Expr} {es : List Expr} {wo : WE} {wa : WA} {dvs : List V} {ds0 : List Value} {dds : List D}
/-- a class's fields: no method of it is an attribute -/
def wMeth (cn : Nat) (c : Con) (n : Nat) (wo : WE) (wa : WA) : WE := fun ρ μ Q E => wo ρ μ (fun x μ1 => match look μ1 x with
  | .ins c' _ => match Nat.beq c' cn with
    | true => wa ρ μ1 (fun ds μ2 => match Nat.beq (ds.length + 1) n with
      | true => c (x :: ds) μ2 Q E
      | false => False) E
    | false => False
  | _ => False) E
structure MethF (K : PySem.W.Frag) (T : Tab) (cn : Nat) (m : Str) (f : Addr) : Prop where
  cl : Cls K (T.ca cn)
  me : Meth K (T.ca cn) m f
  no : fldIx m (T.fn cn) = none
theorem fld_none {m : Str} : ∀ {fn : List Str} {vs : List V}, fldIx m fn = none → (fn.zip vs).lookup m = none
  | [], _, _ => by simp
  | g :: fn, [], _ => by simp
  | g :: fn, v :: vs, h => by
    unfold fldIx at h
    split at h
    · cases h
    · rename_i ng
      have h2 : fldIx m fn = none := by
        cases q : fldIx m fn with
        | none => rfl
        | some i => rw [q] at h; cases h
      rw [List.zip_cons_cons]
      have hb : (m == g) = false := beq_eq_false_iff_ne.mpr (Ne.symm ng)
      simp only [List.lookup, hb]
      exact fld_none h2
theorem meth_run {Wd : WXd} {σ : L2.St} {H : Hp} {Q : VK} (mf : MethF X.K z.T cn m f) (h : tD X.K z Wd (wMeth cn c n wo wa) σ H Q) :
    tMethS (z.T.ca cn) m (spD X.K z.T c n) [] (fun σ cls d H => XW X.K z Wd cls d σ H) (tD X.K z Wd wo) (tDA X.K z Wd wa) σ H Q := by
  obtain ⟨F, m, μ, ρ, Qd, S, h, kk⟩ := h
  refine ⟨F, m, μ, ρ, _, S, h, fun F1 m1 μ1 d1 v1 H1 x1 S1 r1 q1 => ?_⟩
  have vx := S1.view r1
  split at q1
  · rename_i c' fs hx
    rw [hx] at vx
    split at q1
    · rename_i hc
      have := Nat.eq_of_beq_eq_true hc
      subst this
      obtain ⟨a, dx, vs, rfl, h1, r2⟩ := vx.inst S1.same
      refine ⟨a, dx, _, rfl, h1, fld_none mf.no, F1, m1, μ1, ρ, _, S1, q1, fun F2 m2 μ2 ds vs H2 x2 S2 r2 q2 => ?_⟩
      show spD X.K z.T c n (V.ref a :: (vs ++ [])) H2 Q _
      rw [List.append_nil]
      split at q2
      · rename_i hn
        exact sp_run S2 (.cons (r1.mono x2.gr) r2) (Nat.eq_of_beq_eq_true hn) q2 (fun F4 m4 μ4 d4 v4 H4 x4 => kk F4 m4 μ4 d4 v4 H4 (x1.trans (x2.trans x4))) fun F' m' μ' y cls d H' x3 S3 xr q => ⟨F', m', μ', ρ, y, S3, xr, q⟩
      · exact q2.elim
    · exact q1.elim
  · exact q1.elim
theorem de_meth {pl : Sem Bool} (mf : MethF X.K z.T cn m f) (Fc : FnC X.prog X.w X.K X.mg X.base z.T k f fd ps c) (hr : Room k X.A) (hb : Binds X.K fd ps []) (ho : DE X z o wo) (ha : DA X z (e :: es) wa)
    (hst : starEach (e :: es) X.env = (false, eval e X.env) :: starEach es X.env := by rfl) (hpl : (backTo pos (starEach es X.env)).any (·.1) = false := by rfl)
    (ht : eval (.Call (.Attribute o m apos) (e :: es) [] pos) X.env = (eval o X.env >>= fun ov => standAt apos.atName >>= fun _ => holding [ov] (getMethod ov m pl) >>= fun r => callWith pos r.1 r.2 (backTo pos (starEach (e :: es) X.env)) (backToKw pos (keywordEach [] X.env))) := by rfl) :
    DE X z (.Call (.Attribute o m apos) (e :: es) [] pos) (wMeth cn c ps.length wo wa) := fun Wd tk =>
  peI (pe_methS (ho Wd tk) mf.cl mf.me Fc hr hb .nil (fun σ => passAt tk σ) (ha Wd tk) hst hpl ht) fun σ H Q h => meth_run mf h
/-- C(..) -/
def mkD (cn : Nat) (c : Con) (n : Nat) (dds ds : List D) : Sto → QD → QX → Prop := fun μ Q E => match Nat.beq ((ds ++ dds).length + 1) n with
  | true => c (.mref μ.length :: (ds ++ dds)) (μ ++ [.ins cn []]) (fun d μ3 => match d with
    | .non => Q (.mref μ.length) μ3
    | _ => False) E
  | false => False
def wMake (cn : Nat) (c : Con) (n : Nat) (dds : List D) (wa : WA) : WE := fun ρ μ Q E => wa ρ μ (fun ds μ1 => mkD cn c n dds ds μ1 Q E) E
theorem mk_run {F : Hp} {m : List Addr} {μ : Sto} {ρ : Slots} {σ : L2.St} {H : Hp} {Qd : QD} {Qx : QX} {Q : VK} {E : XK} {ds : List D} {vs : List V} (S : SimZ X.K z F m μ ρ σ H) (r : Reps X.K z.T F m ds vs) (hdd : ∀ F m, Reps X.K z.T F m dds dvs) (h : mkD cn c n dds ds μ Qd Qx) (kk : Fin X.K z F m H ρ σ Qd Q)
    (kx : ∀ F' m' μ' x cls d H', Ext F m H F' m' H' → SimZ X.K z F' m' μ' ρ σ H' → XRep X.K z.T F' m' H' x cls d → Qx x μ' → E cls d H') : ∀ x dx, H x = none → H dx = none → dx ≠ x →
    spD X.K z.T c n (.ref x :: (vs ++ dvs)) (upd (upd H dx (.own x)) x (.ins (z.T.ca cn) dx [])) (fun v H2 => v = .non ∧ Q (.ref x) H2) E := by
  intro x dx hx hdx hne
  unfold mkD at h
  split at h
  · rename_i hn
    obtain ⟨x1, S1⟩ := S.more hdx (.own x)
    have hx1 : upd H dx (.own x) x = none := by rw [upd_ne (Ne.symm hne)]; exact hx
    obtain ⟨x2, S2⟩ := S1.more hx1 (.ins (z.T.ca cn) dx [])
    have hk : MRep X.K z.T F m (upd (upd H dx (.own x)) x (.ins (z.T.ca cn) dx [])) x (.ins cn []) :=
      ⟨dx, [], by rw [upd_same, List.zip_nil_right], by rw [upd_ne hne, upd_same], trivial, Nat.zero_le _, .nil⟩
    have S3 := S2.keep (S.fNone hx) (S.notIn hx) (S.yng hx) hk (fun z => nomatch z)
    have g : Gr F m F (m ++ [x]) := ⟨Same.refl F, [x], rfl⟩
    have x3 : Ext F m H F (m ++ [x]) (upd (upd H dx (.own x)) x (.ins (z.T.ca cn) dx [])) := ⟨g, (fun b o e w nf h => by
      obtain ⟨e1, n1, h1⟩ := (x1.trans x2).frm b o e w nf h
      refine ⟨e1, n1, fun q => ?_⟩
      rcases List.mem_append.mp q with q | q
      · exact h1 q
      · rw [List.mem_singleton.mp q, hx] at e
        cases e), (x1.trans x2).up⟩
    have hm : (m ++ [x])[μ.length]? = some x := by
      rw [← S.len, List.getElem?_append_right (Nat.le_refl _), Nat.sub_self]
      rfl
    refine sp_run S3 (.cons (.mref hm) ((r.mono g).append (hdd _ _))) (Nat.eq_of_beq_eq_true hn) h (fun F4 m4 μ4 d4 v4 H4 x4 S4 r4 q4 => ?_) fun F' m' μ' y cls d H' x4 S4 xr q => kx _ _ _ _ _ _ _ (x3.trans x4) S4 xr q
    cases r4 with
    | non => exact ⟨rfl, kk _ _ _ _ _ _ (x3.trans x4) S4 ((Rep.mref hm).mono x4.gr) q4⟩
    | _ => exact q4.elim
  · exact h.elim
theorem de_make (M : Mk X.K (z.T.ca cn) f) (Fc : FnC X.prog X.w X.K X.mg X.base z.T k f fd ps c) (hr : Room (k + 1) X.A) (hg : Gl X x) (hm : X.mg x = some (.ref (z.T.ca cn))) (hb : Binds X.K fd ps ds0) (hd : Vals dvs ds0) (hdd : ∀ F m, Reps X.K z.T F m dds dvs) (ha : DA X z (e :: es) wa)
    (hdb : (x == ("__debug__" : Str)) = false := by decide) (he : starEach (e :: es) X.env = (false, eval e X.env) :: starEach es X.env := by rfl) (hpl : (backTo pos (starEach es X.env)).any (·.1) = false := by rfl) : DE X z (.Call (.Name x p) (e :: es) [] pos) (wMake cn c ps.length dds wa) := fun Wd tk =>
  peI (pe_makeS (E := fun σ cls d H => XW X.K z Wd cls d σ H) M Fc hr hg hm hb hd (fun σ => passAt tk σ) (ha Wd tk) hdb he hpl) fun σ H Q ⟨F, m, μ, ρ, Qd, S, h, kk⟩ => ⟨F, m, μ, ρ, _, S, h, fun F1 m1 μ1 ds vs H1 x1 S1 r1 q1 =>
    mk_run S1 r1 hdd q1 (fun F4 m4 μ4 d4 v4 H4 x4 => kk F4 m4 μ4 d4 v4 H4 (x1.trans x4)) fun F' m' μ' y cls d H' x2 S2 xr q => ⟨F', m', μ', ρ, y, S2, xr, q⟩⟩
end
end Pk

/-! The data layer, part N3: properties, classmethods, isinstance of own classes, try without exceptions. -/
namespace Pk
open PySem PySem.Spec PyProof.Rows L2
section
variable {X : Cx} {z : Zx} {k cn n : Nat} {f g p0 : Addr} {fd : FuncData} {ps : List Str} {c : Con} {x m : Str} {p pos apos : Pos} {e o : Expr} {es : List Expr} {wo : WE} {wa : WA} {mc : Value}
theorem pass_no {Y : Cx} : Passes (L2.CX Y.prog Y.w) Y (fun _ _ _ => False) := fun _ _ _ _ _ _ _ h => by
  obtain ⟨_, _, _, _, _, _, _, _, _, _, _, _, h⟩ := h
  exact h.elim
/-- o.f, a property -/
def wProp (cn : Nat) (c : Con) (wo : WE) : WE := fun ρ μ Q E => wo ρ μ (fun x μ1 => match look μ1 x with
  | .ins c' _ => match Nat.beq c' cn with
    | true => c [x] μ1 Q nox
    | false => False
  | _ => False) E
structure PropF (K : PySem.W.Frag) (T : Tab) (cn : Nat) (m : Str) (p g : Addr) : Prop where
  cl : Cls K (T.ca cn)
  pr : PropOf K (T.ca cn) m p g
theorem de_prop (pf : PropF X.K z.T cn m p0 g) (Fc : FnC X.prog X.w X.K X.mg X.base z.T k g fd [x] c) (hr : Room (k + 1) X.A) (hb : Binds X.K fd [x] []) (ho : DE X z o wo) (hab : attributeBase o m X.env (eval o X.env) = eval o X.env := by rfl) : DE X z (.Attribute o m pos) (wProp cn c wo) := fun Wd tk =>
  peI (pe_prop (E := fun _ _ _ => False) (ho Wd tk) pf.cl pf.pr Fc hr hb .nil (pass_no (Y := X.nox)) hab) fun σ H Q ⟨F, m, μ, ρ, Qd, S, h, kk⟩ => ⟨F, m, μ, ρ, _, S, h, fun F1 m1 μ1 d1 v1 H1 x1 S1 r1 q1 => by
    have vx := S1.view r1
    split at q1
    · rename_i c' fs hx
      rw [hx] at vx
      split at q1
      · rename_i hc
        have := Nat.eq_of_beq_eq_true hc
        subst this
        obtain ⟨a, dx, vs, rfl, h1, r2⟩ := vx.inst S1.same
        exact ⟨a, dx, _, rfl, h1, sp_run S1 (.cons r1 .nil) rfl q1 (fun F4 m4 μ4 d4 v4 H4 x4 => kk F4 m4 μ4 d4 v4 H4 (x1.trans x4)) fun _ _ _ _ _ _ _ _ _ _ q => q⟩
      · exact q1.elim
    · exact q1.elim⟩
/-- isinstance(x, C), C an own class: instances of C, what is no instance of an own class -/
structure IsiF (K : PySem.W.Frag) (T : Tab) (cn : Nat) : Prop where
  me : C8.InsC K (T.ca cn)
  no : PySem.W.kitOne K (.type "NoneType") (.ref (T.ca cn)) = some false
  ty : ∀ t : Ty, PySem.W.kitOne K (.type t.nm) (.ref (T.ca cn)) = some false
def isiC (cn : Nat) (x y : D) : Option D := match y with
  | .cls c => match Nat.beq c cn with
    | true => match x with
      | .ins c' _ => match Nat.beq c' cn with
        | true => some (.bl true)
        | false => none
      | .non => some (.bl false)
      | x => match tyOf x with
        | some _ => some (.bl false)
        | none => none
    | false => none
  | _ => none
theorem ok_isiC (I : IsiF X.K z.T cn) : BuOk X z (rIsi X.K) (b2' (isiC cn)) := bu2 fun F m μ ρ σ H x y v u d Qd Q S vx vy e q k => by
  unfold isiC at e
  split at e
  · rename_i c
    split at e
    · rename_i hc
      have := Nat.eq_of_beq_eq_true hc
      subst this
      have hy : ClsV u (.ref (z.T.ca c)) := by rw [vy.cls]; exact .own _
      split at e
      · split at e
        · rename_i c' fs _ hc'
          have := Nat.eq_of_beq_eq_true hc'
          subst this
          injection e with e
          subst e
          obtain ⟨a, dx, vs, rfl, h1, _⟩ := vx.inst S.same
          exact ⟨_, u, _, _, true, rfl, hy, .base (.ins h1 I.me.cl I.me.ha I.me.hn I.me.htk I.me.hm), I.me.me, k.now S .bl q⟩
        · cases e
      · injection e with e
        subst e
        rw [vx.non]
        exact ⟨_, u, _, _, false, rfl, hy, .base .non, I.no, k.now S .bl q⟩
      · split at e
        · rename_i t ht
          injection e with e
          subst e
          exact ⟨v, u, _, _, false, rfl, hy, vx.tyx S.same ht, I.ty t, k.now S .bl q⟩
        · cases e
    · cases e
  · cases e
end
/-! ### the law -/
/-- all but the tables -/
def offT (H : Hp) : Hp := fun b => match H b with
  | some (.tbl _) => none
  | o => o
theorem offT_some {H : Hp} {b : Addr} {o : HO} (h : offT H b = some o) : H b = some o ∧ isTb o = false := by
  unfold offT at h
  split at h
  · cases h
  · rename_i h2
    refine ⟨h, ?_⟩
    cases o with
    | tbl ps => exact (h2 ps h).elim
    | _ => rfl
theorem offT_of {H : Hp} {b : Addr} {o : HO} (h : H b = some o) (n : isTb o = false) : offT H b = some o := by
  unfold offT
  rw [h]
  cases o with
  | tbl ps => cases n
  | _ => rfl
theorem law_sp {K : PySem.W.Frag} {T : Tab} {c : Con} {a : Addr} {ns : List Int} {H : Hp} {Q : VK} {E : XK} (hT : LamX.Tabs T.tb H) (hS : SqL K H a (ns.map V.int)) (h : c [.scr ns] [] (fun d _ => d = .bl true) nox) (q : ∀ H', Q (.bl true) H') : spD K T c 1 [.ref a] H Q E :=
  ⟨offT H, [], [], [.scr ns], _, _, ⟨Ext.refl _ _ _, fun b o e => (offT_some e).1, rfl, List.nodup_nil, fun _ h => absurd h (by simp), fun k a o e => by simp at e, rfl, (fun i d e => by simp at e), ⟨hT, fun b o e => (offT_some e).2⟩⟩, .cons (.scr (by
    rcases hS with (e | ⟨o, e⟩) | e
    · exact .inl (.inl (offT_of e rfl))
    · exact .inl (.inr ⟨o, offT_of e rfl⟩)
    · exact .inr e)) .nil, rfl, h,
    fun F' m' μ' d v H' _ _ r e => by subst e; cases r; exact q _, fun _ _ _ _ _ _ _ _ _ _ h => h.elim⟩
end Pk

/-! The data layer, part O: dict(..), tests of comprehensions, isinstance of several classes at once. -/
namespace Pk
open PySem PySem.Spec PyProof.Rows L2
section
variable {X : Cx} {z : Zx}
theorem ptsI {ifs : List Expr} {t t' : TT} (h : PTs X ifs t) (f : ∀ σ H Q, t' σ H Q → t σ H Q) : PTs X ifs t' := ⟨fun pins s σ H Q I q => h.run pins s σ H Q I (f _ _ _ q)⟩
theorem dts_nil : PTs X [] (tDT X.K z (fun _ _ _ => False) tAll) := ptsI pts_nil fun σ H Q ⟨F, m, μ, ρ, Qd, S, h, k⟩ => k _ _ _ _ _ (Ext.refl _ _ _) S h
theorem dts_one {c : Expr} {t : WT} (h : DT X z c t) : PTs X [c] (tDT X.K z (fun _ _ _ => False) t) := pts_one (h (fun _ _ _ => False) (takes0.imp fun _ _ _ _ h => by
  obtain ⟨_, _, _, _, _, _, _, h⟩ := h
  exact h))
/-! ### dict(pairs) -/
def pairsD : List D → Option (List (DK × D))
  | [] => some []
  | .tup [k, v] :: r => match toK k, pairsD r with
    | some k, some ps => some ((k, v) :: ps)
    | _, _ => none
  | _ => none
def mergeD : List (DK × D) → List (DK × D) → List (DK × D)
  | acc, [] => acc
  | acc, (k, v) :: r => mergeD (putE acc k v) r
def giveD (own : Bool) (kvs : List (DK × D)) (μ : Sto) (Q : QD) : Prop := match own with
  | false => Q (.dct kvs) μ
  | true => Q (.mref μ.length) (μ ++ [.dct kvs])
def bDict (own : Bool) : BF := fun ds μ Q => match ds with
  | [x] => match look μ x with
    | .lst xs => match pairsD xs with
      | some ps => giveD own (mergeD [] ps) μ Q
      | none => False
    | _ => False
  | _ => False
/-- a new dict: one that is kept stays as it is, another one is locked -/
def givD (own : Bool) (p : Addr) (u : HO) (H : Hp) (Q : VK) : Prop := match own with
  | true => Q (.ref p) (upd H p u)
  | false => ∀ o, Q (.ref p) (upd H p (.frz o u))
theorem callR_lock {own : Bool} {f : Value} {r : List V → Hp → VK → Prop} (h : CallR X f r) : CallR X f (fun xs H Q => r xs H fun v H' => ∃ p u G, v = .ref p ∧ H' = upd G p u ∧ Mut (some u) ∧ givD own p u G Q) := by
  intro pins s σ H xs us Q I rr q
  refine thn (h pins s σ H xs us _ I rr q) fun w s1 ⟨x, H1, I1, rx, p, u, G, e, e2, mu, q1⟩ => ?_
  subst e e2
  cases own with
  | true => exact ⟨_, _, I1, rx, q1⟩
  | false =>
    obtain ⟨o, I2⟩ := I1.lock upd_same mu
    rw [upd_upd] at I2
    exact ⟨_, _, I2, rx, q1 o⟩
theorem give_dct {F : Hp} {m : List Addr} {μ : Sto} {ρ : Slots} {σ : L2.St} {H : Hp} {Qd : QD} {Q : VK} {own : Bool} {ds : List (DK × D)} {vs : List (Key × V)} {p : Addr} (k : Fin X.K z F m H ρ σ Qd Q) (S : SimZ X.K z F m μ ρ σ H) (hn : H p = none)
    (r : RepK X.K z.T F m ds vs) (q : giveD own ds μ Qd) : givD own p (.dK vs) H Q := by
  cases own with
  | false => exact fun o => k.dct S hn r q
  | true =>
    obtain ⟨x1, S1⟩ := S.more hn (.dK vs)
    have S2 := S1.keep (S.fNone hn) (S.notIn hn) (S.yng hn) (mo := .dct ds) ⟨vs, upd_same, r⟩ (fun z => nomatch z)
    have g : Gr F m F (m ++ [p]) := ⟨Same.refl F, [p], rfl⟩
    refine k _ _ _ _ _ _ ⟨g, fun b o e w n h => ?_, x1.up⟩ S2 (.mref ?_) q
    · obtain ⟨e1, n1, h1⟩ := x1.frm b o e w n h
      refine ⟨e1, n1, fun q => ?_⟩
      rcases List.mem_append.mp q with q | q
      · exact h1 q
      · rw [List.mem_singleton.mp q, hn] at e
        cases e
    · rw [← S.len, List.getElem?_append_right (Nat.le_refl _), Nat.sub_self]
      rfl
theorem mergeK_V {K : PySem.W.Frag} {T : Tab} {F : Hp} {m : List Addr} : ∀ {ps : List (DK × D)} {us : List (Key × V)} {ds : List (DK × D)} {vs : List (Key × V)}, RepK K T F m ds vs → RepK K T F m ps us → RepK K T F m (mergeD ds ps) (mergeK vs us)
  | _, _, _, _, r, .nil => r
  | _, _, _, _, r, .cons (k := k) h rs => by
    have q := mergeK_V (putK_V (k := k) h r) rs
    exact q
theorem pairs_V {K : PySem.W.Frag} {T : Tab} {F : Hp} {m : List Addr} {H : Hp} (s : Same F H) : ∀ {ds : List D} {vs : List V} {ps : List (DK × D)}, Reps K T F m ds vs → pairsD ds = some ps →
    ∃ (as : List Addr) (us : List (Key × V)), vs = as.map V.ref ∧ Paired (fun p kv => SqT K H p [kV kv.1, kv.2]) as us ∧ RepK K T F m ps us
  | _, _, ps, .nil, e => by
    injection e with e
    subst e
    exact ⟨[], [], rfl, .nil, .nil⟩
  | _, _, ps, .cons (d := d) h rs, e => by
    unfold pairsD at e
    split at e
    · rename_i heq
      cases heq
    · rename_i k v r heq
      injection heq with h1 h2
      subst h1 h2
      split at e
      · rename_i kk ps' hk hp
        injection e with e
        subst e
        cases h with
        | tup hq r2 =>
          cases r2 with
          | cons ra r2 =>
            cases r2 with
            | cons rb r2 =>
              cases r2
              obtain ⟨as, us, rfl, p1, p2⟩ := pairs_V s rs hp
              have hkv := toK_V (H := H) (.of ra) hk
              subst hkv
              exact ⟨_ :: as, (kk.key, _) :: us, rfl, .cons (Same.sqt s hq) p1, .cons rb p2⟩
      · cases e
    · cases e
def rDict (own : Bool) (K : PySem.W.Frag) : List V → Hp → VK → Prop := fun xs H Q => ∃ (a : Addr) (ps : List Addr) (kvs : List (Key × V)), xs = [V.ref a] ∧ SqL K H a (ps.map V.ref) ∧ Paired (fun p kv => SqT K H p [kV kv.1, kv.2]) ps kvs ∧
    ∀ p, H p = none → givD own p (.dK (mergeK [] kvs)) H Q
theorem ok_dict {own : Bool} : BuOk X z (rDict own X.K) (bDict own) := by
  intro F m μ ρ σ H ds vs Qd Q S rr q k
  unfold bDict at q
  split at q
  · rename_i x
    cases rr with
    | cons r1 r2 =>
      cases r2
      have vx := S.view r1
      split at q
      · rename_i xs hx
        rw [hx] at vx
        split at q
        · rename_i ps hp
          obtain ⟨a, us, rfl, h1, r2⟩ := vx.list S.same
          obtain ⟨as, kvs, rfl, p1, p2⟩ := pairs_V S.same r2 hp
          exact ⟨a, as, kvs, rfl, SqL.of h1, p1, fun p hn => give_dct k S hn (mergeK_V .nil p2) q⟩
        · exact q.elim
      · exact q.elim
  · exact q.elim
theorem c_dict (own : Bool) (hc : X.calm = true) : CallR X (.type "dict") (rDict own X.K) := by
  intro pins s σ H xs us Q I rr ⟨a, ps, kvs, e1, e2, e3, q⟩
  exact callR_lock (own := own) (call_dictP hc) pins s σ H xs us Q I rr ⟨a, ps, kvs, e1, e2, e3, fun p hn => ⟨p, _, H, rfl, rfl, trivial, q p hn⟩⟩
end
end Pk

/-! The data layer, part P: the head's facts, by paths. -/
namespace Pk
open PySem PySem.Spec PyProof.Rows L2

theorem DefP.funD {K : PySem.W.Frag} {d : DefP} (e : fnAt K (d.pth K) = d.val) (c : d.chk K = true) : ∃ fd, FunD K d.name d.qual d.params d.body d.scope (d.dfl.map (He.Dv.v K)) [] (d.pth K) fd := by
  obtain ⟨kp, c2⟩ := Bool.and_eq_true_iff.mp c
  cases q : K.lookup (d.pth K) with
  | none => simp only [codeD, q] at c2; cases c2
  | some ob =>
    obtain ⟨oc, od, dt, osl⟩ := ob
    cases dt with
    | func fd =>
      simp only [codeD, q] at c2
      simp only [fnAt, q] at e
      obtain ⟨k1, k3⟩ := Bool.and_eq_true_iff.mp c2
      obtain ⟨n1, n2, n3, n4, n5, n6, n7, n8, n9, n10, n11, n12, n13, n14, n15⟩ := fd
      simp only [DefP.val, Option.some.injEq, Prod.mk.injEq] at e
      obtain ⟨h1, h2, h3, h4, h5, h6, h7, h8⟩ := e
      subst h1 h2 h3 h4 h5 h6 h7 h8
      exact ⟨_, ⟨oc, od, n8, n9, n10, n11, n12, n13, n14, osl, rfl, q, k1, He.dflB_ok k3, .inl rfl⟩, kp⟩
    | _ => simp only [codeD, q] at c2; cases c2
/-! ### the Hook -/
section
variable {fs : List (PySem.W.Frag → Bool)} {fn : List DefP} {K : PySem.W.Frag}
theorem SaysP.fact (c : SaysP fs fn K) (i : Nat) {f : PySem.W.Frag → Bool} (h : fs[i]? = some f := by rfl) : f K = true := by
  have c1 : (fs.all (fun f => f K) && fn.all fun d => d.chk K) = true := congrArg (fun z : Bool × List He.FnW => z.1) c
  exact List.all_eq_true.mp (Bool.and_eq_true_iff.mp c1).1 f (List.mem_of_getElem? h)
theorem SaysP.def_ (c : SaysP fs fn K) (i : Nat) {d : DefP} (h : fn[i]? = some d := by rfl) : ∃ fd, FunD K d.name d.qual d.params d.body d.scope (d.dfl.map (He.Dv.v K)) [] (d.pth K) fd := by
  have c1 : (fs.all (fun f => f K) && fn.all fun d => d.chk K) = true := congrArg (fun z : Bool × List He.FnW => z.1) c
  have c2 : fn.map (fun d => fnAt K (d.pth K)) = fn.map DefP.val := congrArg (fun z : Bool × List He.FnW => z.2) c
  have e2 : (fn.map fun d => fnAt K (d.pth K))[i]? = (fn.map DefP.val)[i]? := by rw [c2]
  rw [List.getElem?_map, List.getElem?_map, h] at e2
  exact DefP.funD (Option.some.inj e2) (List.all_eq_true.mp (Bool.and_eq_true_iff.mp c1).2 d (List.mem_of_getElem? h))
end
/-! ### facts -/
theorem recB_ok {K : PySem.W.Frag} {p : Addr} {T : String} (h : recB K p T = true) : ∃ rest, PySem.W.recIn K p T = some (.ref (undr K p T) :: rest) := by
  unfold recB at h
  split at h
  · rename_i g rest e
    exact ⟨rest, by rw [e]; unfold undr; rw [e]⟩
  · cases h
theorem fProp_ok {K : PySem.W.Frag} {x m : Str} (c : fProp x m K = true) : PropOf K (He.ga K x) m (pM x m K) (pP x m K) := by
  obtain ⟨c1, c⟩ := Bool.and_eq_true_iff.mp c
  obtain ⟨c2, c⟩ := Bool.and_eq_true_iff.mp c
  obtain ⟨c3, c4⟩ := Bool.and_eq_true_iff.mp c
  exact ⟨He.eqO_ok c1, He.eqO_ok c2, of_decide_eq_true c3, recB_ok c4⟩
theorem fIsi_ok {K : PySem.W.Frag} {T : Tab} {cn : Nat} {x : Str} (e : T.ca cn = He.ga K x) (cl : Cls K (He.ga K x)) (c : fIsi x K = true) : IsiF K T cn := by
  obtain ⟨c1, c⟩ := Bool.and_eq_true_iff.mp c
  obtain ⟨c2, c⟩ := Bool.and_eq_true_iff.mp c
  obtain ⟨c3, c⟩ := Bool.and_eq_true_iff.mp c
  obtain ⟨c4, c⟩ := Bool.and_eq_true_iff.mp c
  obtain ⟨c5, c⟩ := Bool.and_eq_true_iff.mp c
  obtain ⟨c6, c7⟩ := Bool.and_eq_true_iff.mp c
  refine ⟨?_, ?_, fun t => ?_⟩
  · rw [e]
    exact ⟨cl, He.eqO_ok c1, He.eqO_ok c2, of_decide_eq_true c3, of_decide_eq_true c4, of_decide_eq_true c5⟩
  · rw [e]
    exact of_decide_eq_true c6
  · rw [e]
    have := List.all_eq_true.mp c7 t (by cases t <;> decide)
    exact of_decide_eq_true this
end Pk

/-! The data layer, part Q: starred items, signs, short names for the printer. -/
namespace Pk
open PySem PySem.Spec PyProof.Rows L2
section
variable {X : Cx} {z : Zx} {pos p : Pos} {a b c e : Expr} {es : List Expr} {wa wb w : WE} {wr : WA}
def aStar (w : WE) (r : WA) : WA := fun ρ μ Q E => w ρ μ (fun x μ1 => match seqOf (look μ1 x) with
  | some xs => r ρ μ1 (fun ys μ2 => Q (xs ++ ys) μ2) E
  | none => False) E
theorem da_star (h : DE X z e w) (hr : DA X z es wr) (hs : starEach (.Starred e p :: es) X.env = (true, eval e X.env) :: starEach es X.env := by rfl) : DA X z (.Starred e p :: es) (aStar w wr) := fun Wd tk =>
  paI (StX.pa_star (h Wd tk) (hr Wd tk) hs) fun σ H Q ⟨F, m, μ, ρ, Qd, S, h, k⟩ => ⟨F, m, μ, ρ, _, S, h, fun F1 m1 μ1 d1 v1 H1 x1 S1 r1 q1 => by
    have vx := S1.view r1
    generalize look μ1 d1 = y at vx q1
    cases y with
    | lst xs =>
      obtain ⟨a, vs, rfl, h1, r2⟩ := vx.list S1.same
      exact ⟨a, vs, rfl, .inr (SqL.of h1), F1, m1, μ1, ρ, _, S1, q1, fun F2 m2 μ2 ds us H2 x2 S2 r3 q2 => k _ _ _ _ _ _ (x1.trans x2) S2 ((r2.mono x2.gr).append r3) q2⟩
    | tup xs =>
      obtain ⟨a, vs, rfl, h1, r2⟩ := vx.tup S1.same
      exact ⟨a, vs, rfl, .inl h1, F1, m1, μ1, ρ, _, S1, q1, fun F2 m2 μ2 ds us H2 x2 S2 r3 q2 => k _ _ _ _ _ _ (x1.trans x2) S2 ((r2.mono x2.gr).append r3) q2⟩
    | _ => exact q1.elim⟩
/-- a ** b, small -/
def powZ (i : Int) : Nat → Int
  | 0 => 1
  | n + 1 => powZ i n * i
def powD : D → D → Option D
  | .int i, .int j => match decide (0 ≤ j) && (decide (j ≤ 1000) && Nat.blt i.natAbs 18446744073709551616) with
    | true => some (.int (powZ i j.toNat))
    | false => none
  | _, _ => none
theorem powZ_eq (i : Int) : ∀ n, powZ i n = i ^ n
  | 0 => by rw [powZ, Int.pow_zero]
  | n + 1 => by rw [powZ, powZ_eq i n, Int.pow_succ]
theorem okPow : OpD X z (rI CPow fun i j => V.int (i ^ j.toNat)) powD := by
  intro F m μ ρ σ H x y v u d Qd Q S vx vy e q k
  unfold powD at e
  split at e
  · rename_i i j
    split at e
    · rename_i h
      injection e with e
      subst e
      rw [Bool.and_eq_true, Bool.and_eq_true] at h
      have h1 := of_decide_eq_true h.1
      have h2 := of_decide_eq_true h.2.1
      have h3 := Nat.le_of_ble_eq_true h.2.2
      refine ⟨i, j, vx.int, vy.int, ⟨h1, by omega, h3⟩, ?_⟩
      show Q (.int (i ^ j.toNat)) H
      rw [← powZ_eq]
      exact k.now S .int q
    · cases e
  · cases e
theorem o_pow (ha : DE X z a wa) (hb : DE X z b wb) : DE X z (.BinOp a .Pow b pos) (w2 powD wa wb) := de_op op_pow okPow ha hb
/-! ### short names -/
theorem hu65 {k : Nat} {A : Around} (r : Room k A) : A.units + 65 < cLine := by have := r.un; omega
theorem hu64 {k : Nat} {A : Around} (r : Room k A) : A.units + 64 < cLine := by have := r.un; omega
theorem hu1 {k : Nat} {A : Around} (r : Room k A) : A.units + 1 < cLine := by have := r.un; omega
theorem vr (i : Nat) {x : Str} (hN : X.N[i]? = some x := by rfl) (hv : Vis X.env.scope x := by first | exact Or.inl rfl | exact Or.inr (Or.inl rfl) | exact Or.inr (Or.inr rfl)) (hd : (x == ("__debug__" : Str)) = false := by decide) (hcd : (x == ("__classdict__" : Str)) = false := by decide) : DE X z (.Name x pos) (wVar i) := de_var hN hv hd hcd
theorem gn (i : Nat) {x : Str} (nd : X.N.Nodup) (hi : X.N[i]? = some x := by rfl) (hx : Loc X.env.scope x := by first | exact Or.inl rfl | exact Or.inr rfl) (hf : X.fn x = true ∨ X.env.scope.names.lookup x = some .local := by first | exact .inl rfl | exact .inr rfl) : DG X z (.Name x pos) (gN i) [i] := dg_name nd hi hx hf
theorem gn2 (i : Nat) {x : Str} (nd : X.N.Nodup) (hi : X.N[i]? = some x := by rfl) (hx : Loc X.env.scope x := by first | exact Or.inl rfl | exact Or.inr rfl) (hf : X.fn x = true ∨ X.env.scope.names.lookup x = some .local := by first | exact .inl rfl | exact .inr rfl) : DG2 X z (.Name x pos) (g2N i) := d2_name nd hi hx hf
theorem cmp_eq (hu : X.A.units + 64 < cLine) (ha : DE X z a wa) (hb : DE X z b wb) (hm : behindInMarks .Eq b = false := by rfl) : DE X z (.Compare a [.Eq] [b] pos) (w2 eqqD wa wb) := de_cmp (op_eqD hu) okEq hm ha hb
theorem cmp_ne (hu : X.A.units + 64 < cLine) (ha : DE X z a wa) (hb : DE X z b wb) (hm : behindInMarks .NotEq b = false := by rfl) : DE X z (.Compare a [.NotEq] [b] pos) (w2 neqD wa wb) := de_cmp (op_neD hu) okNe hm ha hb
theorem cmp_lt (ha : DE X z a wa) (hb : DE X z b wb) (hm : behindInMarks .Lt b = false := by rfl) : DE X z (.Compare a [.Lt] [b] pos) (w2 ltD wa wb) := de_cmp op_lt okLt hm ha hb
theorem cmp_le (ha : DE X z a wa) (hb : DE X z b wb) (hm : behindInMarks .LtE b = false := by rfl) : DE X z (.Compare a [.LtE] [b] pos) (w2 leD wa wb) := de_cmp op_le okLe hm ha hb
theorem cmp_gt (ha : DE X z a wa) (hb : DE X z b wb) (hm : behindInMarks .Gt b = false := by rfl) : DE X z (.Compare a [.Gt] [b] pos) (w2 gtD wa wb) := de_cmp op_gt okGt hm ha hb
theorem cmp_is (ha : DE X z a wa) (hb : DE X z b wb) (hm : behindInMarks .Is b = false := by rfl) : DE X z (.Compare a [.Is] [b] pos) (w2 isD wa wb) := de_cmp orIs okIs hm ha hb
theorem cmp_in (hu : X.A.units + 65 < cLine) (ha : DE X z a wa) (hb : DE X z b wb) (hm : behindInMarks .In b = false := by rfl) : DE X z (.Compare a [.In] [b] pos) (w2 inD wa wb) := de_cmp (orIn hu) okIn1 hm ha hb
theorem cmp_nin (hu : X.A.units + 65 < cLine) (ha : DE X z a wa) (hb : DE X z b wb) (hm : behindInMarks .NotIn b = false := by rfl) : DE X z (.Compare a [.NotIn] [b] pos) (w2 ninD wa wb) := de_cmp (orNin hu) okNin1 hm ha hb
theorem t_eq (hu : X.A.units + 64 < cLine) (ha : DE X z a wa) (hb : DE X z b wb) (hm : behindInMarks .Eq b = false := by rfl) : DT X z (.Compare a [.Eq] [b] pos) (tBl (w2 eqqD wa wb)) := dt_cmp (op_eqD hu) okEq hm ha hb
theorem t_ne (hu : X.A.units + 64 < cLine) (ha : DE X z a wa) (hb : DE X z b wb) (hm : behindInMarks .NotEq b = false := by rfl) : DT X z (.Compare a [.NotEq] [b] pos) (tBl (w2 neqD wa wb)) := dt_cmp (op_neD hu) okNe hm ha hb
theorem t_lt (ha : DE X z a wa) (hb : DE X z b wb) (hm : behindInMarks .Lt b = false := by rfl) : DT X z (.Compare a [.Lt] [b] pos) (tBl (w2 ltD wa wb)) := dt_cmp op_lt okLt hm ha hb
theorem t_gt (ha : DE X z a wa) (hb : DE X z b wb) (hm : behindInMarks .Gt b = false := by rfl) : DT X z (.Compare a [.Gt] [b] pos) (tBl (w2 gtD wa wb)) := dt_cmp op_gt okGt hm ha hb
theorem t_ge (ha : DE X z a wa) (hb : DE X z b wb) (hm : behindInMarks .GtE b = false := by rfl) : DT X z (.Compare a [.GtE] [b] pos) (tBl (w2 geD wa wb)) := dt_cmp op_ge okGe hm ha hb
theorem t_is (ha : DE X z a wa) (hb : DE X z b wb) (hm : behindInMarks .Is b = false := by rfl) : DT X z (.Compare a [.Is] [b] pos) (tBl (w2 isD wa wb)) := dt_cmp orIs okIs hm ha hb
theorem t_isnot (ha : DE X z a wa) (hb : DE X z b wb) (hm : behindInMarks .IsNot b = false := by rfl) : DT X z (.Compare a [.IsNot] [b] pos) (tBl (w2 isnotD wa wb)) := dt_cmp orIsnot okIsnot hm ha hb
theorem t_in (hu : X.A.units + 65 < cLine) (ha : DE X z a wa) (hb : DE X z b wb) (hm : behindInMarks .In b = false := by rfl) : DT X z (.Compare a [.In] [b] pos) (tBl (w2 inD wa wb)) := dt_cmp (orIn hu) okIn1 hm ha hb
theorem t_nin (hu : X.A.units + 65 < cLine) (ha : DE X z a wa) (hb : DE X z b wb) (hm : behindInMarks .NotIn b = false := by rfl) : DT X z (.Compare a [.NotIn] [b] pos) (tBl (w2 ninD wa wb)) := dt_cmp (orNin hu) okNin1 hm ha hb
theorem o_add (ha : DE X z a wa) (hb : DE X z b wb) : DE X z (.BinOp a .Add b pos) (w2 addD wa wb) := de_op orAdd okAdd ha hb
theorem o_sub (ha : DE X z a wa) (hb : DE X z b wb) : DE X z (.BinOp a .Sub b pos) (w2 subD wa wb) := de_op op_sub okSub ha hb
theorem o_mul (ha : DE X z a wa) (hb : DE X z b wb) : DE X z (.BinOp a .Mult b pos) (w2 mulD wa wb) := de_op orMul okMul ha hb
theorem o_fdiv (ha : DE X z a wa) (hb : DE X z b wb) : DE X z (.BinOp a .FloorDiv b pos) (w2 fdivD wa wb) := de_op op_fdiv okFdiv ha hb
theorem o_mod (ha : DE X z a wa) (hb : DE X z b wb) : DE X z (.BinOp a .Mod b pos) (w2 modD wa wb) := de_op op_mod okMod ha hb
end
/-! ### builtins, called -/
section
variable {X : Cx} {z : Zx} {p pos : Pos} {e e2 : Expr} {es : List Expr} {wa : WA}
theorem k_len (hm : X.mg "len" = none) (ha : DA X z [e] wa) (hg : Gl X "len" := by rfl) (he : starEach [e] X.env = (false, eval e X.env) :: starEach [] X.env := by rfl) (hpl : (backTo pos (starEach [] X.env)).any (·.1) = false := by rfl) : DE X z (.Call (.Name "len" p) [e] [] pos) (wBu (b1 lenD) wa) := de_callB c_len ok_len hg hm ha (he := he) (hpl := hpl)
theorem k_all (hc : X.calm = true) (hm : X.mg "all" = none) (ha : DA X z [e] wa) (hg : Gl X "all" := by rfl) (he : starEach [e] X.env = (false, eval e X.env) :: starEach [] X.env := by rfl) (hpl : (backTo pos (starEach [] X.env)).any (·.1) = false := by rfl) : DE X z (.Call (.Name "all" p) [e] [] pos) (wBu (b1 allD) wa) := de_callB (cr_all hc) ok_all hg hm ha (he := he) (hpl := hpl)
theorem k_any (hc : X.calm = true) (hm : X.mg "any" = none) (ha : DA X z [e] wa) (hg : Gl X "any" := by rfl) (he : starEach [e] X.env = (false, eval e X.env) :: starEach [] X.env := by rfl) (hpl : (backTo pos (starEach [] X.env)).any (·.1) = false := by rfl) : DE X z (.Call (.Name "any" p) [e] [] pos) (wBu (b1 anyD) wa) := de_callB (cr_any hc) ok_any hg hm ha (he := he) (hpl := hpl)
theorem k_abs (hm : X.mg "abs" = none) (ha : DA X z [e] wa) (hg : Gl X "abs" := by rfl) (he : starEach [e] X.env = (false, eval e X.env) :: starEach [] X.env := by rfl) (hpl : (backTo pos (starEach [] X.env)).any (·.1) = false := by rfl) : DE X z (.Call (.Name "abs" p) [e] [] pos) (wBu (b1 absD) wa) := de_callB call_abs ok_abs hg hm ha (he := he) (hpl := hpl)
theorem k_sorted (own : Bool) (hm : X.mg "sorted" = none) (ha : DA X z [e] wa) (hg : Gl X "sorted" := by rfl) (he : starEach [e] X.env = (false, eval e X.env) :: starEach [] X.env := by rfl) (hpl : (backTo pos (starEach [] X.env)).any (·.1) = false := by rfl) : DE X z (.Call (.Name "sorted" p) [e] [] pos) (wBu (b1L own sortedD) wa) := de_callB cr_sortedI ok_sorted hg hm ha (he := he) (hpl := hpl)
theorem k_isi (hm : X.mg "isinstance" = none) (ha : DA X z [e, e2] wa) (hg : Gl X "isinstance" := by rfl) (he : starEach [e, e2] X.env = (false, eval e X.env) :: starEach [e2] X.env := by rfl) (hpl : (backTo pos (starEach [e2] X.env)).any (·.1) = false := by rfl) : DE X z (.Call (.Name "isinstance" p) [e, e2] [] pos) (wBu (b2' isiD) wa) := de_callB call_isi ok_isi hg hm ha (he := he) (hpl := hpl)
theorem k_isiC {cn : Nat} (I : IsiF X.K z.T cn) (hm : X.mg "isinstance" = none) (ha : DA X z [e, e2] wa) (hg : Gl X "isinstance" := by rfl) (he : starEach [e, e2] X.env = (false, eval e X.env) :: starEach [e2] X.env := by rfl) (hpl : (backTo pos (starEach [e2] X.env)).any (·.1) = false := by rfl) : DE X z (.Call (.Name "isinstance" p) [e, e2] [] pos) (wBu (b2' (isiC cn)) wa) := de_callB call_isi (ok_isiC I) hg hm ha (he := he) (hpl := hpl)
theorem k_divmod (hm : X.mg "divmod" = none) (ha : DA X z [e, e2] wa) (hg : Gl X "divmod" := by rfl) (he : starEach [e, e2] X.env = (false, eval e X.env) :: starEach [e2] X.env := by rfl) (hpl : (backTo pos (starEach [e2] X.env)).any (·.1) = false := by rfl) : DE X z (.Call (.Name "divmod" p) [e, e2] [] pos) (wBu (b2' divmodD) wa) := de_callB call_divmod ok_divmod hg hm ha (he := he) (hpl := hpl)
theorem k_max2 (hc : X.calm = true) (hm : X.mg "max" = none) (ha : DA X z [e, e2] wa) (hg : Gl X "max" := by rfl) (he : starEach [e, e2] X.env = (false, eval e X.env) :: starEach [e2] X.env := by rfl) (hpl : (backTo pos (starEach [e2] X.env)).any (·.1) = false := by rfl) : DE X z (.Call (.Name "max" p) [e, e2] [] pos) (wBu (b2' maxD) wa) := de_callB (call_max2 hc) ok_max2 hg hm ha (he := he) (hpl := hpl)
theorem k_min2 (hc : X.calm = true) (hm : X.mg "min" = none) (ha : DA X z [e, e2] wa) (hg : Gl X "min" := by rfl) (he : starEach [e, e2] X.env = (false, eval e X.env) :: starEach [e2] X.env := by rfl) (hpl : (backTo pos (starEach [e2] X.env)).any (·.1) = false := by rfl) : DE X z (.Call (.Name "min" p) [e, e2] [] pos) (wBu (b2' minD) wa) := de_callB (call_min2 hc) ok_min2 hg hm ha (he := he) (hpl := hpl)
theorem k_int (hm : X.mg "int" = none) (ha : DA X z [e] wa) (hg : Gl X "int" := by rfl) (he : starEach [e] X.env = (false, eval e X.env) :: starEach [] X.env := by rfl) (hpl : (backTo pos (starEach [] X.env)).any (·.1) = false := by rfl) : DE X z (.Call (.Name "int" p) [e] [] pos) (wBu (b1 intD) wa) := de_callTy c_int ok_int hg hm ha (he := he) (hpl := hpl)
theorem k_list (own : Bool) (hc : X.calm = true) (hm : X.mg "list" = none) (ha : DA X z [e] wa) (hg : Gl X "list" := by rfl) (he : starEach [e] X.env = (false, eval e X.env) :: starEach [] X.env := by rfl) (hpl : (backTo pos (starEach [] X.env)).any (·.1) = false := by rfl) : DE X z (.Call (.Name "list" p) [e] [] pos) (wBu (b1L own itemsOf) wa) := de_callTy (c_list hc) ok_list hg hm ha (he := he) (hpl := hpl)
theorem k_tuple (hm : X.mg "tuple" = none) (ha : DA X z [e] wa) (hg : Gl X "tuple" := by rfl) (he : starEach [e] X.env = (false, eval e X.env) :: starEach [] X.env := by rfl) (hpl : (backTo pos (starEach [] X.env)).any (·.1) = false := by rfl) : DE X z (.Call (.Name "tuple" p) [e] [] pos) (wBu (b1 tupD) wa) := de_callTy call_tuple_of ok_tuple hg hm ha (he := he) (hpl := hpl)
theorem k_dict (own : Bool) (hc : X.calm = true) (hm : X.mg "dict" = none) (ha : DA X z [e] wa) (hg : Gl X "dict" := by rfl) (he : starEach [e] X.env = (false, eval e X.env) :: starEach [] X.env := by rfl) (hpl : (backTo pos (starEach [] X.env)).any (·.1) = false := by rfl) : DE X z (.Call (.Name "dict" p) [e] [] pos) (wBu (bDict own) wa) := de_callTy (c_dict own hc) ok_dict hg hm ha (he := he) (hpl := hpl)
end
end Pk

/-! The data layer, part R: defs with their promises, for the printer. -/
namespace Pk
open PySem PySem.Spec PyProof.Rows L2
structure OkF (P : Program) (w0 : World) (K : PySem.W.Frag) (mg : Str → Option Value) (base : Heap) (T : Tab) (k : Nat) (a : Addr) (ps : List Str) (c : Con) : Prop where
  ex : ∃ fd, FnC P w0 K mg base T k a fd ps c ∧ Binds K fd ps [] ∧ PySem.W.keepIn K (.ref a) = true
section
variable {X : Cx} {z : Zx} {k cn n : Nat} {a g p0 : Addr} {ps : List Str} {c : Con} {x m : Str} {p pos apos : Pos} {e o : Expr} {es : List Expr} {wo : WE} {wa : WA} {mc : Value}
theorem c_fn (ok : OkF X.prog X.w X.K X.mg X.base z.T k a ps c) (hr : Room k X.A) (hm : X.mg x = some (.ref a)) (ha : DA X z (e :: es) wa) (hg : Gl X x := by rfl)
    (hdb : (x == ("__debug__" : Str)) = false := by decide) (he : starEach (e :: es) X.env = (false, eval e X.env) :: starEach es X.env := by rfl) (hpl : (backTo pos (starEach es X.env)).any (·.1) = false := by rfl) (hn : ps.length = n := by rfl) : DE X z (.Call (.Name x p) (e :: es) [] pos) (wCallN c n [] wa) := by
  subst hn
  obtain ⟨fd, F, b, kp⟩ := ok.ex
  exact de_call F hr hg hm kp b .nil (fun _ _ => .nil) ha hdb he hpl
theorem c_fn0 (ok : OkF X.prog X.w X.K X.mg X.base z.T k a [] c) (hr : Room k X.A) (hm : X.mg x = some (.ref a)) (hg : Gl X x := by rfl) (hdb : (x == ("__debug__" : Str)) = false := by decide) : DE X z (.Call (.Name x p) [] [] pos) (wCallN c 0 [] aNil) := by
  obtain ⟨fd, F, b, kp⟩ := ok.ex
  exact de_call0 F hr hg hm kp b rfl hdb
theorem c_mk (ok : OkF X.prog X.w X.K X.mg X.base z.T k a ps c) (M : Mk X.K (z.T.ca cn) a) (hr : Room (k + 1) X.A) (hm : X.mg x = some (.ref (z.T.ca cn))) (ha : DA X z (e :: es) wa) (hg : Gl X x := by rfl)
    (hdb : (x == ("__debug__" : Str)) = false := by decide) (he : starEach (e :: es) X.env = (false, eval e X.env) :: starEach es X.env := by rfl) (hpl : (backTo pos (starEach es X.env)).any (·.1) = false := by rfl) (hn : ps.length = n := by rfl) : DE X z (.Call (.Name x p) (e :: es) [] pos) (wMake cn c n [] wa) := by
  subst hn
  obtain ⟨fd, F, b, kp⟩ := ok.ex
  exact de_make M F hr hg hm b .nil (fun _ _ => .nil) ha hdb he hpl
theorem c_me {pl : Sem Bool} (ok : OkF X.prog X.w X.K X.mg X.base z.T k a ps c) (mf : MethF X.K z.T cn m a) (hr : Room k X.A) (ho : DE X z o wo) (ha : DA X z (e :: es) wa)
    (hst : starEach (e :: es) X.env = (false, eval e X.env) :: starEach es X.env := by rfl) (hpl : (backTo pos (starEach es X.env)).any (·.1) = false := by rfl)
    (ht : eval (.Call (.Attribute o m apos) (e :: es) [] pos) X.env = (eval o X.env >>= fun ov => standAt apos.atName >>= fun _ => holding [ov] (getMethod ov m pl) >>= fun r => callWith pos r.1 r.2 (backTo pos (starEach (e :: es) X.env)) (backToKw pos (keywordEach [] X.env))) := by rfl) (hn : ps.length = n := by rfl) :
    DE X z (.Call (.Attribute o m apos) (e :: es) [] pos) (wMeth cn c n wo wa) := by
  subst hn
  obtain ⟨fd, F, b, kp⟩ := ok.ex
  exact de_meth mf F hr b ho ha hst hpl ht
theorem c_pr (ok : OkF X.prog X.w X.K X.mg X.base z.T k g [x] c) (pf : PropF X.K z.T cn m p0 g) (hr : Room (k + 1) X.A) (ho : DE X z o wo) (hab : attributeBase o m X.env (eval o X.env) = eval o X.env := by rfl) : DE X z (.Attribute o m pos) (wProp cn c wo) := by
  obtain ⟨fd, F, b, kp⟩ := ok.ex
  exact de_prop pf F hr b ho hab
end
/-! ### of the text -/
section
variable {X : Cx} {z : Zx} {apos pos : Pos} {o e : Expr} {wo : WE} {wa : WA}
theorem m_split (own : Bool) (ho : DE X z o wo) (ha : DA X z [e] wa) (hbase : attributeBase o "split" X.env (eval o X.env) = eval o X.env := by rfl)
    (hfew : ((backTo pos (starEach [e] X.env)).all (fun x => !x.1) && (backToKw pos (keywordEach [] X.env)).all (fun x => x.1.isSome) && decide ([e].length + ([] : List Keyword).length + (if ([] : List Keyword).isEmpty then 0 else 1) < 30)) = true := by rfl)
    (hline : (apos.endLine == pos.line) = true := by rfl) (hs : starEach [e] X.env = (false, eval e X.env) :: starEach [] X.env := by rfl) (hplain : (backTo pos (starEach [] X.env)).any (·.1) = false := by rfl) :
    DE X z (.Call (.Attribute o "split" apos) [e] [] pos) (wMe isS (splF own) wo wa) := de_bm PySem.F.plainAttrs_str PySem.F.slot_str_split PySem.F.type_str_split mt_split ty_str ok_split ho ha hbase hfew hline hs hplain
theorem m_join (ho : DE X z o wo) (ha : DA X z [e] wa) (hbase : attributeBase o "join" X.env (eval o X.env) = eval o X.env := by rfl)
    (hfew : ((backTo pos (starEach [e] X.env)).all (fun x => !x.1) && (backToKw pos (keywordEach [] X.env)).all (fun x => x.1.isSome) && decide ([e].length + ([] : List Keyword).length + (if ([] : List Keyword).isEmpty then 0 else 1) < 30)) = true := by rfl)
    (hline : (apos.endLine == pos.line) = true := by rfl) (hs : starEach [e] X.env = (false, eval e X.env) :: starEach [] X.env := by rfl) (hplain : (backTo pos (starEach [] X.env)).any (·.1) = false := by rfl) :
    DE X z (.Call (.Attribute o "join" apos) [e] [] pos) (wMe isS joinF wo wa) := de_bm PySem.F.plainAttrs_str PySem.F.slot_str_join PySem.F.type_str_join mt_join ty_str ok_join ho ha hbase hfew hline hs hplain
theorem m_append (ho : DE X z o wo) (ha : DA X z [e] wa) (hbase : attributeBase o "append" X.env (eval o X.env) = eval o X.env := by rfl)
    (hfew : ((backTo pos (starEach [e] X.env)).all (fun x => !x.1) && (backToKw pos (keywordEach [] X.env)).all (fun x => x.1.isSome) && decide ([e].length + ([] : List Keyword).length + (if ([] : List Keyword).isEmpty then 0 else 1) < 30)) = true := by rfl)
    (hline : (apos.endLine == pos.line) = true := by rfl) (hs : starEach [e] X.env = (false, eval e X.env) :: starEach [] X.env := by rfl) (hplain : (backTo pos (starEach [] X.env)).any (·.1) = false := by rfl) :
    DE X z (.Call (.Attribute o "append" apos) [e] [] pos) (wMe isL appF wo wa) := de_bm PySem.F.plainAttrs_list PySem.F.slot_list_append PySem.F.type_list_append mt_append ty_list ok_app ho ha hbase hfew hline hs hplain
theorem m_index (hu : X.A.units + 65 < cLine) (ho : DE X z o wo) (ha : DA X z [e] wa) (hbase : attributeBase o "index" X.env (eval o X.env) = eval o X.env := by rfl)
    (hfew : ((backTo pos (starEach [e] X.env)).all (fun x => !x.1) && (backToKw pos (keywordEach [] X.env)).all (fun x => x.1.isSome) && decide ([e].length + ([] : List Keyword).length + (if ([] : List Keyword).isEmpty then 0 else 1) < 30)) = true := by rfl)
    (hline : (apos.endLine == pos.line) = true := by rfl) (hs : starEach [e] X.env = (false, eval e X.env) :: starEach [] X.env := by rfl) (hplain : (backTo pos (starEach [] X.env)).any (·.1) = false := by rfl) :
    DE X z (.Call (.Attribute o "index" apos) [e] [] pos) (wMe isL idxF wo wa) := de_bm PySem.F.plainAttrs_list PySem.F.slot_list_index PySem.F.type_list_index (mt_indexD hu) ty_list ok_idx ho ha hbase hfew hline hs hplain
end
end Pk

/-! The data layer, part S: the law's end. -/
namespace Pk
open PySem PySem.Spec PyProof.Rows L2
def E00 : XK := fun _ _ _ => False
def CX00 : CXT := fun _ _ _ _ _ _ => False
theorem calmOk {P : Program} {w0 : World} {K : PySem.W.Frag} {mg : Str → Option Value} {base : Heap} {k : Nat} {f : Addr} {fd : FuncData} {ps : List Str} {sp : Sp} (F : FnOk P w0 K mg base (L2.CX P w0) k f fd ps sp) :
    FnOk P w0 K mg base CX00 k f fd ps (fun vs H Q _ => sp vs H Q E00) :=
  ⟨fun vs H Q E h => F.len vs H Q _ h, fun A outer s H args us vs Q E hr he hb hv hs => codeAny_mono (F.run A outer s H args us vs Q E00 hr he hb hv hs) fun r s' hq => by
    cases r with
    | error e =>
      obtain ⟨_, _, _, _, _, _, _, _, _, _, _, _, z⟩ := (show L2.CX P w0 outer H s E00 e s' from hq)
      exact z.elim
    | ok fl => cases fl <;> exact hq⟩
end Pk

/-! The data layer, part T: expressions over an empty store. -/
namespace Pk
open PySem PySem.Spec PyProof.Rows L2
theorem loc_back {K : PySem.W.Frag} {T : Tab} {F F' : Hp} {m m' : List Addr} {μ : Sto} {H H' : Hp} {ρ : Slots} {σ : L2.St} {F0 : Hp} {m0 : List Addr} {H0 : Hp} (S : Sim K T F0 m0 H0 F m μ ρ σ H) (x : Ext F [] H F' m' H') (B : Same F' H') (tb : TabF T.tb F' H') : Ext F m H F' m H' ∧ Sim K T F0 m0 H0 F' m μ ρ σ H' := by
  have g : Gr F m F' m := ⟨x.gr.fr, [], by simp⟩
  have xx : Ext F m H F' m H' := ⟨g, (fun b o e w n h => by
    obtain ⟨e1, n1, _⟩ := x.frm b o e w n (by simp)
    exact ⟨e1, n1, h⟩), x.up⟩
  refine ⟨xx, S.ext.trans xx, B, S.len, S.nd, fun a h => (x.up a).2 (S.al a h), fun k a o e1 e2 n => ?_, S.sl, fun i d e => ?_, tb⟩
  · obtain ⟨h1, h2⟩ := S.sto k a o e1 e2 n
    cases o with
    | gone => exact absurd rfl n
    | fz d => exact ⟨fun z => (by cases z), Rep.mono g h2⟩
    | lst ds =>
      obtain ⟨vs, e, r⟩ := h2
      obtain ⟨e3, n3, _⟩ := x.frm a _ e rfl (h1 rfl) (by simp)
      exact ⟨fun _ => n3, vs, e3, r.mono g⟩
    | dct ds =>
      obtain ⟨vs, e, r⟩ := h2
      obtain ⟨e3, n3, _⟩ := x.frm a _ e rfl (h1 rfl) (by simp)
      exact ⟨fun _ => n3, vs, e3, r.mono g⟩
    | dtp ds =>
      obtain ⟨vs, e, r⟩ := h2
      obtain ⟨e3, n3, _⟩ := x.frm a _ e rfl (h1 rfl) (by simp)
      exact ⟨fun _ => n3, vs, e3, r.mono g⟩
    | ins c ds =>
      obtain ⟨dx, vs, e, eo, _, l, r⟩ := h2
      obtain ⟨e3, n3, _⟩ := x.frm a _ e rfl (h1 rfl) (by simp)
      exact ⟨fun _ => n3, dx, vs, e3, (x.up dx).1 a eo, trivial, l, r.mono g⟩
  · obtain ⟨v, h1, h2⟩ := S.slot i d e
    exact ⟨v, h1, h2.mono g⟩
def hideM : Option D → Option D
  | some d => match noM d with
    | true => some d
    | false => none
  | none => none
/-- over an empty store: nothing of the store is seen, nothing new of it is given, nothing is raised -/
def wLoc (w : WE) : WE := fun ρ μ Q _ => w (ρ.map hideM) [] (fun d _ => match noM d with
  | true => Q d μ
  | false => False) nox
theorem de_loc {X : Cx} {z : Zx} {e : Expr} {w : WE} (h : ∀ F0 m0 H0, DE X ⟨z.T, F0, m0, H0⟩ e w) : DE X z e (wLoc w) := fun Wd tk => by
  refine ⟨fun pins s σ H Q I ⟨F, m, μ, ρ, Qd, S, h', k⟩ => ?_⟩
  have S0 : Sim X.K z.T F [] H F [] [] (ρ.map hideM) σ H := ⟨Ext.refl _ _ _, S.same, rfl, List.nodup_nil, fun a h => absurd h (by simp), fun k a o e => by simp at e, by rw [List.length_map]; exact S.sl, (fun i d e => by
    rw [List.getElem?_map] at e
    cases q : ρ[i]? with
    | none => rw [q] at e; cases e
    | some o =>
      rw [q] at e
      injection e with e
      cases o with
      | none => cases e
      | some d' =>
        unfold hideM at e
        split at e
        · rename_i hd heq
          split at e
          · rename_i hm
            injection e with e
            injection heq with heq
            subst e heq
            obtain ⟨v, h1, h2⟩ := S.slot i _ q
            exact ⟨v, h1, h2.noM hm⟩
          · cases e
        · cases e), S.tabs⟩
  refine (h F [] H (fun _ _ _ => False) (takes0.imp fun _ _ _ _ hx => by
    obtain ⟨_, _, _, _, _, _, _, hx⟩ := hx
    exact hx)).run pins s σ H Q I ⟨F, [], [], ρ.map hideM, _, S0, h', fun F' m' μ' d v H' x B r q => ?_⟩
  split at q
  · rename_i hd
    obtain ⟨xx, S2⟩ := loc_back S x B.same B.tabs
    exact k F' m μ d v H' xx S2 (r.noM hd) q
  · exact q.elim
end Pk

/-! The data layer, part U: what a call leaves of the store. -/
namespace Pk
open PySem PySem.Spec PyProof.Rows L2
def noMO : MO → Bool
  | .lst xs => noMs xs
  | .dct kvs => noMk kvs
  | .ins _ fs => noMs fs
  | .fz d => noM d
  | .gone => true
  | .dtp kvs => noMs (kvs.map (·.2))
section
variable {K : PySem.W.Frag} {T : Tab} {F0 F F' H0 : Hp} {m0 m m' : List Addr} {μ μ' : Sto} {ρ : Slots} {σ : L2.St} {H H' : Hp} {p a : Addr}
theorem RepP.noM : ∀ {ds : List (List DK × D)} {vs : List (List Key × V)}, RepP K T F m ds vs → noMs (ds.map (·.2)) = true → RepP K T F m' ds vs
  | _, _, .nil, _ => .nil
  | _, _, .cons (d := d) h r, e => by
    simp only [List.map_cons, noMs] at e
    split at e
    · rename_i hd
      exact .cons (Rep.noM h hd) (RepP.noM r e)
    · cases e
theorem MRep.noM {o : MO} (h : MRep K T F m H a o) (e : noMO o = true) : MRep K T F m' H a o := by
  cases o with
  | lst ds => obtain ⟨vs, e1, r⟩ := h; exact ⟨vs, e1, Reps.noM r e⟩
  | dct ds => obtain ⟨vs, e1, r⟩ := h; exact ⟨vs, e1, RepK.noM r e⟩
  | ins c ds => obtain ⟨dx, vs, e1, e2, t, l, r⟩ := h; exact ⟨dx, vs, e1, e2, t, l, Reps.noM r e⟩
  | fz d => exact Rep.noM h e
  | gone => trivial
  | dtp ds => obtain ⟨vs, e1, r⟩ := h; exact ⟨vs, e1, RepP.noM r e⟩
mutual
def mIn (n : Nat) : D → Prop
  | .mref k => k < n
  | .tup xs => mIns n xs
  | .lst xs => mIns n xs
  | .dct kvs => mInk n kvs
  | .ins _ fs => mIns n fs
  | .ptp xs => mIns n xs
  | .ttp xs => mIns n xs
  | .err _ xs => mIns n xs
  | .dcp _ xs => mIns n xs
  | .dco kvs => mInk n kvs
  | _ => True
def mIns (n : Nat) : List D → Prop
  | [] => True
  | x :: r => mIn n x ∧ mIns n r
def mInk (n : Nat) : List (DK × D) → Prop
  | [] => True
  | (_, x) :: r => mIn n x ∧ mInk n r
end
mutual
theorem Rep.mIn : ∀ {d : D} {v : V}, Rep K T F m d v → Pk.mIn m.length d
  | _, _, .non => trivial
  | _, _, .bl => trivial
  | _, _, .int => trivial
  | _, _, .str => trivial
  | _, _, .tup _ r => Reps.mIns r
  | _, _, .lst _ r => Reps.mIns r
  | _, _, .dct _ r => RepK.mInk r
  | _, _, .scr _ => trivial
  | _, _, .ins _ _ r => Reps.mIns r
  | _, _, .mref e => (List.getElem?_eq_some_iff.mp e).1
  | _, _, .cls => trivial
  | _, _, .ty => trivial
  | _, _, .ptp _ _ r => Reps.mIns r
  | _, _, .ttp _ r => Reps.mIns r
  | _, _, .dcp _ _ _ r => Reps.mIns r
  | _, _, .dco _ r => RepK.mInk r
  | _, _, .err _ _ r => Reps.mIns r
theorem Reps.mIns : ∀ {ds : List D} {vs : List V}, Reps K T F m ds vs → Pk.mIns m.length ds
  | _, _, .nil => trivial
  | _, _, .cons h r => ⟨Rep.mIn h, Reps.mIns r⟩
theorem RepK.mInk : ∀ {ds : List (DK × D)} {vs : List (Key × V)}, RepK K T F m ds vs → Pk.mInk m.length ds
  | _, _, .nil => trivial
  | _, _, .cons h r => ⟨Rep.mIn h, RepK.mInk r⟩
end
mutual
theorem Rep.less {r : List Addr} : ∀ {d : D} {v : V}, Rep K T F (m ++ r) d v → Pk.mIn m.length d → Rep K T F m d v
  | _, _, .non, _ => .non
  | _, _, .bl, _ => .bl
  | _, _, .int, _ => .int
  | _, _, .str, _ => .str
  | _, _, .tup h q, e => .tup h (Reps.less q e)
  | _, _, .lst h q, e => .lst h (Reps.less q e)
  | _, _, .dct h q, e => .dct h (RepK.less q e)
  | _, _, .scr h, _ => .scr h
  | _, _, .ins h h2 q, e => .ins h h2 (Reps.less q e)
  | _, _, .mref h, e => .mref (by
    rw [List.getElem?_append_left e] at h
    exact h)
  | _, _, .cls, _ => .cls
  | _, _, .ty, _ => .ty
  | _, _, .ptp h n q, e => .ptp h n (Reps.less q e)
  | _, _, .ttp h q, e => .ttp h (Reps.less q e)
  | _, _, .err h h2 q, e => .err h h2 (Reps.less q e)
  | _, _, .dcp h h2 l q, e => .dcp h h2 l (Reps.less q e)
  | _, _, .dco h q, e => .dco h (RepK.less q e)
theorem Reps.less {r : List Addr} : ∀ {ds : List D} {vs : List V}, Reps K T F (m ++ r) ds vs → Pk.mIns m.length ds → Reps K T F m ds vs
  | _, _, .nil, _ => .nil
  | _, _, .cons h q, e => .cons (Rep.less h e.1) (Reps.less q e.2)
theorem RepK.less {r : List Addr} : ∀ {ds : List (DK × D)} {vs : List (Key × V)}, RepK K T F (m ++ r) ds vs → Pk.mInk m.length ds → RepK K T F m ds vs
  | _, _, .nil, _ => .nil
  | _, _, .cons h q, e => .cons (Rep.less h e.1) (RepK.less q e.2)
end
end
end Pk

/-! The data layer, part U2: what a suite leaves of the store. -/
namespace Pk
open PySem PySem.Spec PyProof.Rows L2
end Pk

/-! The data layer, part V: defaults, lists backwards, empty dicts, dicts walked. -/
namespace Pk
open PySem PySem.Spec PyProof.Rows L2

/-! ### a def called with its defaults -/
structure OkFd (P : Program) (w0 : World) (K : PySem.W.Frag) (mg : Str → Option Value) (base : Heap) (T : Tab) (k : Nat) (a : Addr) (ps : List Str) (dds : List D) (c : Con) : Prop where
  ex : ∃ fd ds dvs, FnC P w0 K mg base T k a fd ps c ∧ Binds K fd ps ds ∧ Vals dvs ds ∧ (∀ F m, Reps K T F m dds dvs) ∧ PySem.W.keepIn K (.ref a) = true
theorem emB_ok {K : PySem.W.Frag} {a : Addr} {T : Tab} (h : emB K a = true) (F : Hp) (m : List Addr) : Rep K T F m (.tup []) (.ref a) := by
  unfold emB at h
  split at h
  · rename_i o e
    split at h
    · rename_i its n e2
      obtain ⟨h1, h2⟩ := Bool.and_eq_true_iff.mp h
      have h3 := Nat.eq_of_beq_eq_true h2
      have h4 : its = #[] := Array.eq_empty_of_size_eq_zero h3
      subst h4
      exact .tup (.inr ⟨o, #[], n, e, of_decide_eq_true h1, e2, Nat.zero_le _, .nil⟩) .nil
    · cases h
  · cases h
section
variable {X : Cx} {z : Zx} {k cn n : Nat} {a g p0 : Addr} {ps : List Str} {c : Con} {x m : Str} {p pos apos : Pos} {e o : Expr} {es : List Expr} {w wo : WE} {wa : WA} {mc : Value} {dds : List D}
theorem c_fnD (ok : OkFd X.prog X.w X.K X.mg X.base z.T k a ps dds c) (hr : Room k X.A) (hm : X.mg x = some (.ref a)) (ha : DA X z (e :: es) wa) (hg : Gl X x := by rfl)
    (hdb : (x == ("__debug__" : Str)) = false := by decide) (he : starEach (e :: es) X.env = (false, eval e X.env) :: starEach es X.env := by rfl) (hpl : (backTo pos (starEach es X.env)).any (·.1) = false := by rfl) (hn : ps.length = n := by rfl) : DE X z (.Call (.Name x p) (e :: es) [] pos) (wCallN c n dds wa) := by
  subst hn
  obtain ⟨fd, ds, dvs, F, b, hd, hdd, kp⟩ := ok.ex
  exact de_call F hr hg hm kp b hd hdd ha hdb he hpl
/-! ### xs[::-1] -/
/-! ### an empty dict -/
/-! ### for k in a dict that changes no more -/
def iKy (w : WE) : WI := fun ρ μ Q E => w ρ μ (fun d μ1 => match d with
  | .dct kvs => Q (keysD kvs) μ1
  | _ => False) E
theorem keys_at : ∀ (kvs : List (DK × D)) (i : Nat), (keysD kvs)[i]? = (kvs[i]?).map fun p => keyD p.1
  | [], i => by simp [keysD]
  | (k, d) :: r, 0 => by simp [keysD]
  | (k, d) :: r, i + 1 => by
    have := keys_at r i
    simpa [keysD] using this
theorem keys_len (kvs : List (DK × D)) : (keysD kvs).length = kvs.length := by
  induction kvs with
  | nil => rfl
  | cons p r ih =>
    obtain ⟨k, d⟩ := p
    simp only [keysD, List.length_cons, ih]
theorem RepK.keyAt {K : PySem.W.Frag} {T : Tab} {F : Hp} {m : List Addr} : ∀ {ds : List (DK × D)} {vs : List (Key × V)} {i : Nat} {p : DK × D}, RepK K T F m ds vs → ds[i]? = some p → ∃ v, vs[i]? = some (p.1.key, v)
  | _, _, i, p, .nil, e => by simp at e
  | _, _, 0, p, .cons (v := v) h _, e => by
    simp at e
    subst e
    exact ⟨v, rfl⟩
  | _, _, i + 1, p, .cons _ r, e => by
    obtain ⟨v, h⟩ := RepK.keyAt (i := i) r (by simpa using e)
    exact ⟨v, by simpa using h⟩
theorem jok_keys {K : PySem.W.Frag} {T : Tab} {F : Hp} {m : List Addr} {d : Addr} {o : Obj} {kvs : List (DK × D)} {vs : List (Key × V)} (h : F d = some (.frz o (.dK vs))) (r : RepK K T F m kvs vs) : JOk K T F m (Itk d o vs) (keysD kvs) where
  go := fun i H x s e => by
    refine ⟨s _ _ h, ?_⟩
    rw [← r.length, ← keys_len]
    exact (List.getElem?_eq_some_iff.mp e).1
  stop := fun i H s e => by
    refine ⟨s _ _ h, ?_⟩
    rw [← r.length, ← keys_len]
    exact e
  yld := fun i H x H' y s e ⟨e1, k, v, e2, e3⟩ => by
    refine .inl ⟨e1, ?_⟩
    rw [keys_at] at e
    cases q : kvs[i]? with
    | none => rw [q] at e; cases e
    | some p =>
      rw [q] at e
      injection e with e
      obtain ⟨v', h2⟩ := r.keyAt q
      rw [h2] at e2
      injection e2 with e2
      injection e2 with e2 _
      subst e e2 e3
      obtain ⟨dk, dd⟩ := p
      cases dk <;> constructor
theorem di_keys {tg : Expr} (h : DE X z e w) : DI X z tg e (iKy w) := fun Wd tk =>
  piI (pi_keys (h Wd tk)) fun σ H R ⟨F, m, μ, ρ, Qd, S, h, k⟩ => ⟨F, m, μ, ρ, _, S, h, fun F1 m1 μ1 d1 v1 H1 x1 S1 r1 q1 => by
    split at q1
    · cases r1 with
      | dct hf rk => exact ⟨_, _, rfl, .inl ⟨_, S1.same _ _ hf, k F1 m1 μ1 _ _ H1 x1 S1 (jok_keys hf rk) q1⟩⟩
    · exact q1.elim⟩
end
end Pk

/-! The data layer, part X: the head's facts in parts, each by a run of its own. -/
namespace Pk
open PySem PySem.Spec PySem.W PySem.Calls PyProof.Rows L2
end Pk

/-! The data layer, part W: tuples without a dict of their own, dict() of such. -/
namespace Pk
open PySem PySem.Spec PyProof.Rows L2
section
variable {X : Cx} {z : Zx} {e : Expr} {wa : WA} {p pos : Pos}
def rPtup (K : PySem.W.Frag) : List V → Hp → VK → Prop := fun xs H Q => ∃ p ys, xs = [V.ref p] ∧ SqL K H p ys ∧ ∀ l o, H l = none → o.dict = none → Q (.ref l) (upd H l (.frz o (.tup ys)))
theorem c_ptup : CallR X (.type "tuple") (rPtup X.K) := by
  intro pins s σ H xs us Q I r ⟨p, ys, e1, hq, q⟩
  subst e1
  obtain ⟨u, e2, rx⟩ := vals1 r
  subst e2
  cases rx
  obtain ⟨its, rv, pl, hz⟩ := I.list hq
  have hlen := rv.length
  refine call_tuple_list pl.isList (fun h' kp => ?_) (by simp only [List.size_toArray] <;> omega)
  have I1 : Inv X pins σ H { s with heap := h' } := I.kept (t' := s.toks) kp
  have ht := IsTup.new h' its.toArray
  have hg : (h'.push { cls := .type "tuple", data := .seq its.toArray }).get? h'.objs.size = some { cls := .type "tuple", data := .seq its.toArray } := Heap.get?_push_size _ rfl
  have I2 := I1.laid (t' := s.toks) (o := .frz { cls := .type "tuple", data := .seq its.toArray } (.tup ys)) (fun b o e => Heap.get?_push_of_some { cls := .type "tuple", data := .seq its.toArray } e) (Nat.le_refl _) ⟨hg, hz, its, rv, ht⟩
  exact ⟨.ref h'.objs.size, _, I2, rfl, q _ _ (I1.hok.fresh (Nat.le_refl _)) rfl⟩
def ptpD : D → Option D
  | .lst xs => some (.ptp xs)
  | _ => none
theorem ok_ptup : BuOk X z (rPtup X.K) (b1 ptpD) := bu1 fun F m μ ρ σ H x v d Qd Q S vx e q k => by
  unfold ptpD at e
  split at e
  · injection e with e
    subst e
    obtain ⟨a, vs, rfl, h1, r1⟩ := vx.list S.same
    refine ⟨a, vs, rfl, SqL.of h1, fun l o hl ho => ?_⟩
    obtain ⟨x1, S1⟩ := S.new hl (.frz o (.tup vs))
    exact k _ _ _ _ _ _ x1 S1 (.ptp upd_same ho (r1.mono x1.gr)) q
  · cases e
theorem k_ptuple (hm : X.mg "tuple" = none) (ha : DA X z [e] wa) (hg : Gl X "tuple" := by rfl) (he : starEach [e] X.env = (false, eval e X.env) :: starEach [] X.env := by rfl) (hpl : (backTo pos (starEach [] X.env)).any (·.1) = false := by rfl) :
    DE X z (.Call (.Name "tuple" p) [e] [] pos) (wBu (b1 ptpD) wa) := de_callTy c_ptup ok_ptup hg hm ha (he := he) (hpl := hpl)
/-! ### dict(t), t such a tuple of pairs -/
def rDictT (own : Bool) (K : PySem.W.Frag) : List V → Hp → VK → Prop := fun xs H Q => ∃ (a : Addr) (o : Obj) (ps : List Addr) (kvs : List (Key × V)), xs = [V.ref a] ∧ H a = some (.frz o (.tup (ps.map V.ref))) ∧ o.dict = none ∧ Paired (fun p kv => SqT K H p [kV kv.1, kv.2]) ps kvs ∧
    ∀ p, H p = none → givD own p (.dK (mergeK [] kvs)) H Q
theorem pair_vals {h : Heap} : ∀ {prs : List (Key × Value)} {ps : List Addr}, prs.length = ps.length → (∀ (j : Nat) (q : Key × Value), prs[j]? = some q → ∃ (b : Addr) (u : Value), ps[j]? = some b ∧ IsTup h b #[u, q.2] ∧ keyIs q.1 u = true) →
    ∃ us : List (Value × Value), us.length = prs.length ∧ ∀ (j : Nat) (k v : Value), us[j]? = some (k, v) → ∃ (b : Addr) (q : Key × Value), ps[j]? = some b ∧ prs[j]? = some q ∧ q.2 = v ∧ IsTup h b #[k, v] ∧ keyIs q.1 k = true
  | [], ps, _, _ => ⟨[], rfl, fun j k v e => by simp at e⟩
  | x :: r, [], hl, _ => by simp at hl
  | x :: r, p :: ps, hl, hp => by
    obtain ⟨b, u, h1, h2, h3⟩ := hp 0 x rfl
    obtain ⟨us, k1, k2⟩ := pair_vals (prs := r) (ps := ps) (by simpa using hl) fun j q e => by
      obtain ⟨b, u, g1, g2, g3⟩ := hp (j + 1) q (by simpa using e)
      exact ⟨b, u, by simpa using g1, g2, g3⟩
    refine ⟨(u, x.2) :: us, by simp [k1], fun j k v e => ?_⟩
    cases j with
    | zero =>
      injection e with e
      injection e with e1 e2
      subst e1 e2
      exact ⟨b, x, h1, rfl, rfl, h2, h3⟩
    | succ j =>
      obtain ⟨b', q, g1, g2, g3, g4, g5⟩ := k2 j k v (by simpa using e)
      exact ⟨b', q, by simpa using g1, by simpa using g2, g3, g4, g5⟩
theorem dictT_K (hcalm : X.calm = true) : CallR X (.type "dict") (fun xs H Q => ∃ (a : Addr) (o : Obj) (ps : List Addr) (kvs : List (Key × V)), xs = [V.ref a] ∧ H a = some (.frz o (.tup (ps.map V.ref))) ∧ o.dict = none ∧ Paired (fun p kv => SqT X.K H p [kV kv.1, kv.2]) ps kvs ∧
    ∀ p, H p = none → Q (.ref p) (upd H p (.dK (mergeK [] kvs)))) := by
  intro pins s σ H xs us Q I r ⟨a, o, ps, kvs, e1, hq, hd, hp, q⟩
  subst e1
  obtain ⟨u, e2, rx⟩ := vals1 r
  subst e2
  cases rx
  obtain ⟨ho, hz, its, rv, o2, ho2, hc, n, hdat⟩ := I.hok a _ hq
  rw [ho] at ho2
  injection ho2 with ho2
  subst ho2
  have ei := refs_at rv
  subst ei
  rw [List.length_map] at hz
  obtain ⟨prs, rel, hl, hpr⟩ := pairs_of I hp
  have hlk : kvs.length = prs.length := rel.length
  obtain ⟨us, hu1, hu2⟩ := pair_vals hl hpr
  have hit : ∀ b items, IsTup s.heap b items → s.heap.IsTuple b items := fun b items ⟨o, h1, h2, n, h3⟩ => ⟨o, h1, h2, n, h3⟩
  have hok : PlainSeq "tuple" s.heap a (ps.map Value.ref).toArray ∧ PairItems s.heap (ps.map Value.ref).toArray (fun j => ps.getD j 0) us := by
    refine ⟨⟨o, n, ho, hc, hd, hdat⟩, by simp [hu1, hl], fun j k v e => ?_⟩
    obtain ⟨b, q, g1, g2, g3, g4, g5⟩ := hu2 j k v e
    have gd : ps.getD j 0 = b := by rw [List.getD_eq_getElem?_getD, g1] <;> rfl
    simp only [gd]
    exact ⟨by simp [g1], .inl (hit _ _ g4)⟩
  refine PySem.call_dict_pairs (knd := mixKind X.prog X.w) (kvs := prs) (PairArg.tuple a (ps.map Value.ref).toArray (fun j => ps.getD j 0) us) (I.ok.hd hcalm) hok ⟨hu1.symm, fun i key v e => ?_⟩ (by omega) fun h' tk hd' kk => ?_
  · obtain ⟨b, q, g1, g2, g3, g4, g5⟩ := hu2 i key v e
    subst g3
    exact ⟨q.1, g2, g5⟩
  · have hm : (s.heap.objs.size == sysModules) = false := beq_eq_false_iff_ne.mpr (Nat.ne_of_gt I.big)
    have hlen : (mergeK [] kvs).length ≤ sizeLine := by
      have h1 := length_mergeK kvs []
      simp only [List.length_nil, Nat.zero_add] at h1
      omega
    have k0 : ∀ b ob, s.heap.get? b = some ob → h'.get? b = some ob := fun b ob e => kk b ob (by simp) e
    have new : ObjOk X.prog X.w (upd H s.heap.objs.size (.dK (mergeK [] kvs))) h' s.heap.objs.size (.dK (mergeK [] kvs)) := ⟨hlen, hm, merged [] prs, KV.merge rel .nil, hd'⟩
    exact ⟨.ref s.heap.objs.size, _, I.laid (t' := tk) k0 (Nat.le_refl _) new, rfl, q _ (I.hok.fresh (Nat.le_refl _))⟩
theorem c_dictT (own : Bool) (hc : X.calm = true) : CallR X (.type "dict") (rDictT own X.K) := by
  intro pins s σ H xs us Q I rr ⟨a, o, ps, kvs, e1, e2, e3, e4, q⟩
  exact callR_lock (own := own) (dictT_K hc) pins s σ H xs us Q I rr ⟨a, o, ps, kvs, e1, e2, e3, e4, fun p hn => ⟨p, _, H, rfl, rfl, trivial, q p hn⟩⟩
def bDictT (own : Bool) : BF := fun ds μ Q => match ds with
  | [x] => match x with
    | .ptp xs => match pairsD xs with
      | some ps => giveD own (mergeD [] ps) μ Q
      | none => False
    | _ => False
  | _ => False
theorem ok_dictT {own : Bool} : BuOk X z (rDictT own X.K) (bDictT own) := by
  intro F m μ ρ σ H ds vs Qd Q S rr q k
  unfold bDictT at q
  split at q
  · cases rr with
    | cons r1 r2 =>
      cases r2
      split at q
      · rename_i xs
        cases r1 with
        | ptp hf hn r2 =>
          split at q
          · rename_i ps hp
            obtain ⟨as, kvs, rfl, p1, p2⟩ := pairs_V S.same r2 hp
            exact ⟨_, _, as, kvs, rfl, S.same _ _ hf, hn, p1, fun p hn => give_dct k S hn (mergeK_V .nil p2) q⟩
          · exact q.elim
      · exact q.elim
  · exact q.elim
theorem k_dictT (own : Bool) (hc : X.calm = true) (hm : X.mg "dict" = none) (ha : DA X z [e] wa) (hg : Gl X "dict" := by rfl) (he : starEach [e] X.env = (false, eval e X.env) :: starEach [] X.env := by rfl) (hpl : (backTo pos (starEach [] X.env)).any (·.1) = false := by rfl) :
    DE X z (.Call (.Name "dict" p) [e] [] pos) (wBu (bDictT own) wa) := de_callTy (c_dictT own hc) ok_dictT hg hm ha (he := he) (hpl := hpl)
end
end Pk

/-! The data layer, part Y: dicts whose keys are tuples. -/
namespace Pk
open PySem PySem.Spec PyProof.Rows L2 RZ
section
variable {X : Cx} {z : Zx} {pos : Pos} {e : Expr} {es : List Expr} {w : WE} {wr wa : WA} {p : Pos}
/-! ### dict(pairs), the keys such tuples -/
section
variable {K : PySem.W.Frag} {T : Tab} {F : Hp} {m : List Addr}
end
/-! ### for k in such a dict, or in one with other keys, that changes no more -/
end
end Pk

/-! The data layer, part Z: min, max of one thing; sorted pairs; calls with keywords. -/
namespace Pk
open PySem PySem.Spec PyProof.Rows L2 RZ
section
variable {prog : Program} {w : World} {A : Around} {E : Value → Shared → Prop} {s : Shared} {l : Addr} {xs : Array (Int × Tok)}
end
section
variable {X : Cx} {z : Zx} {pos : Pos} {e : Expr} {es : List Expr} {w : WE} {wr wa : WA} {p : Pos}
/-! ### sorted pairs -/
end
end Pk

/-! The data layer, part Z2: calls whose arguments are all passed by name. -/
namespace Pk
open PySem PySem.Spec PyProof.Rows L2
def pick {α : Type} : List Nat → List α → List α
  | [], _ => []
  | i :: r, xs => match nthG xs i with
    | some x => x :: pick r xs
    | none => pick r xs
/-- all parameters by name: ks are the names as they are passed, gp the places of the parameters among them -/
def KB (K : PySem.W.Frag) (fd : FuncData) (ps ks : List Str) (gp : List Nat) : Prop :=
  ∀ (s : Shared) (ws : List Value), K.In s.heap → ws.length = ks.length → BindsTo s fd ⟨[], ks.zip ws⟩ (ps.zip (pick gp ws))
structure OkFk (P : Program) (w0 : World) (K : PySem.W.Frag) (mg : Str → Option Value) (base : Heap) (T : Tab) (k : Nat) (a : Addr) (ps ks : List Str) (gp : List Nat) (c : Con) : Prop where
  ex : ∃ fd, FnC P w0 K mg base T k a fd ps c ∧ KB K fd ps ks gp ∧ PySem.W.keepIn K (.ref a) = true
section
variable {X : Cx} {z : Zx} {k n : Nat} {a f : Addr} {fd : FuncData} {ps ks : List Str} {gp : List Nat} {c : Con} {x : Str} {p pos kpos : Pos} {e : Expr} {w : WE} {wa : WA} {kws : List Keyword} {nm : Option Str} {CX : CXT} {sp : Sp} {E : L2.St → XK}
end
end Pk

/-! The data layer, part Z3: a, b = a list. -/
namespace Pk
open PySem PySem.Spec PyProof.Rows L2
section
variable {X : Cx} {z : Zx} {pos : Pos}
end
end Pk

/-! The data layer, part QA: own errors, made: over raw heaps. -/
namespace Pk
open PySem PySem.Spec PySem.W PySem.Calls PyProof.Rows L2
open Builtin.ObjectAttr
section
variable {prog : Program} {w : World} {A : Around} {E : Value → Shared → Prop} {hp : Heap} {g : Array GenState} {d : Drawn} {t : Nat} {os : OsState} {K : PySem.W.Frag} {C x : Addr} {B : String} {bmB : List Value} {name : Str} {v : Value} {fv : Array Value} {Q : Unit → Shared → Prop}
/-- the first field of an error -/
theorem st_new (SF : StoreFacts B bmB "object.__setattr__" "object") (X : K.In hp) (hx : hp.get? x = some { cls := .ref C, data := .fields fv }) (hpp : excOver K C bmB = true) (ht : takerIn K C name = some none) (hh : hasDictIn K C = true) (hs : findIn K (.ref C) "__setattr__" = some (some (.builtin "object.__setattr__")))
    (hq : ∀ h' tk' dx, (∀ b o, b ≠ x → hp.get? b = some o → h'.get? b = some o) → hp.objs.size ≤ dx → dx ≠ x → h'.get? x = some { cls := .ref C, dict := some dx, data := .fields fv } →
      h'.Ns1 dx (fun y => if y = name then some v else none) → Q () ⟨h', g, d, tk', os⟩) : wpAny (model prog w) A (setAttr (.ref x) name v) Q E ⟨hp, g, d, t, os⟩ := by
  have I : InstAt hp x { cls := .ref C, data := .fields fv } C none := ⟨hx, rfl, rfl, trivial⟩
  have hxs : x ≠ hp.objs.size := Nat.ne_of_lt (Heap.lt_size hx)
  refine set_plain X I hs (osa_openX (s := ⟨hp, g, d, t + 1, os⟩) SF X I hpp ht fun b => ?_)
  obtain ⟨cd, hc, hd'⟩ := any_some hh
  have hcls : Looks (model prog w) hp (classData C) cd := looks_clsIn X hc
  show wpAny _ _ (storeInOwnDict (.ref x) (.ref C) (.str name t) name v b) _ _ _
  obtain ⟨nm, bs, mro, ns, qn, hd, sn, sb, ab, col, del⟩ := cd
  dsimp only at hd'
  subst hd'
  unfold storeInOwnDict ownDictForStores
  repeat (first | with_reducible refine HandSPX.store_in_new ?_ ?_ | with_reducible refine wpAny_loadPart_at hx ?_ | with_reducible refine hcls.at ?_ | wp_step)
  · exact ⟨_, #[], _, (Heap.get?_update_ne _ _ _ _ hxs.symm).trans (Heap.get?_push_at rfl rfl), rfl, fun e he => absurd he (by simp), fun _ => rfl⟩
  · intro h' tk' hn' hs
    have hx₁ : (hp.push { cls := .type "dict", data := .dict #[] }).get? x = some { cls := .ref C, data := .fields fv } := Heap.get?_push_of_some _ hx
    refine hq h' tk' hp.objs.size (fun b o hb ho => ?_) (Nat.le_refl _) hxs.symm ?_ hn'
    · exact (hs.2 b (Nat.ne_of_lt (Heap.lt_size ho))).trans ((Heap.get?_update_ne _ _ _ _ hb).trans (Heap.get?_push_of_some _ ho))
    · exact (hs.2 x hxs).trans (Heap.get?_update_self _ hx₁ rfl)
/-- a further one -/
theorem st_old {dx : Addr} {m0 : Str → Option Value} {nl : List Str} (SF : StoreFacts B bmB "object.__setattr__" "object") (X : K.In hp) (hx : hp.get? x = some { cls := .ref C, dict := some dx, data := .fields fv }) (hns : hp.Ns1 dx m0) (hw : Within m0 nl) (hz : nl.length ≤ 900)
    (hpp : excOver K C bmB = true) (ht : takerIn K C name = some none) (hh : hasDictIn K C = true) (hs : findIn K (.ref C) "__setattr__" = some (some (.builtin "object.__setattr__")))
    (hq : ∀ h' tk', (∀ b o, b ≠ dx → hp.get? b = some o → h'.get? b = some o) → h'.Ns1 dx (fun y => if y = name then some v else m0 y) → Q () ⟨h', g, d, tk', os⟩) : wpAny (model prog w) A (setAttr (.ref x) name v) Q E ⟨hp, g, d, t, os⟩ := by
  obtain ⟨oD, esD, epD, hoD, hdD, _⟩ := hns.count hw
  have I : InstAt hp x { cls := .ref C, dict := some dx, data := .fields fv } C (some oD) := ⟨hx, rfl, rfl, hoD⟩
  refine set_plain X I hs (osa_openX (s := ⟨hp, g, d, t + 1, os⟩) SF X I hpp ht fun b => ?_)
  obtain ⟨cd, hc, hd'⟩ := any_some hh
  have hcls : Looks (model prog w) hp (classData C) cd := looks_clsIn X hc
  show wpAny _ _ (storeInOwnDict (.ref x) (.ref C) (.str name t) name v b) _ _ _
  obtain ⟨nm, bs, mro, ns, qn, hd, sn, sb, ab, col, del⟩ := cd
  dsimp only at hd'
  subst hd'
  unfold storeInOwnDict ownDictForStores
  repeat (first | with_reducible refine OEX.store_in_old hns hw (by omega) ?_ | with_reducible refine wpAny_loadPart_at hx ?_ | with_reducible refine hcls.at ?_ | wp_step)
  intro h' tk' hn' hs
  exact hq h' tk' (fun b o hb ho => (hs.2 b hb).trans ho) hn'
end
end Pk

/-! The data layer, part QB: the __init__ of own errors: super().__init__(), then the fields. -/
namespace Pk
open PySem PySem.Spec PySem.W PySem.Calls PyProof.Rows L2
open Builtin.ObjectAttr
/-- self.f = f, one after the other -/
inductive Asgs : List Str → List Stmt → Prop
  | nil : Asgs [] []
  | cons {f : Str} {fs : List Str} {ss : List Stmt} {p1 p2 p3 p4 : Pos} : Asgs fs ss → Asgs (f :: fs) (.Assign [.Attribute (.Name "self" p1) f p2] (.Name f p3) p4 :: ss)
inductive InitB (fs : List Str) : List Stmt → Prop
  | mk {ss : List Stmt} {p0 p1 p2 p3 p4 : Pos} : (∀ env : Env, ∃ pl : Sem Bool, eval (.Call (.Attribute (.Call (.Name "super" p0) [] [] p1) "__init__" p2) [] [] p3) env = (do
      let ov ← attributeBase (.Call (.Name "super" p0) [] [] p1) "__init__" env (eval (.Call (.Name "super" p0) [] [] p1) env)
      standAt p2.atName
      let (f, first) ← holding [ov] (getMethod ov "__init__" pl)
      callWith p3 f first (backTo p3 (starEach [] env)) [])) → Asgs fs ss → InitB fs (.Expr (.Call (.Attribute (.Call (.Name "super" p0) [] [] p1) "__init__" p2) [] [] p3) p4 :: ss)
/-- what the written part says of an own error's class -/
structure ErrC (K : PySem.W.Frag) (C : Addr) (B newId initId : String) (bmB : List Value) : Prop where
  FB : ExcBaseFacts B newId initId bmB
  KF : KxsFacts B initId
  SF : StoreFacts B bmB "object.__setattr__" "object"
  own : excInitIn K C bmB newId = true
  ovr : excOver K C bmB = true
  sub : subIn K (.ref C) (.type B) = some true
  subC : mroIn K C (.ref C) = some true
  sup : ks_superIn K C C "__init__" = some (some (.builtin initId))
  sa : findIn K (.ref C) "__setattr__" = some (some (.builtin "object.__setattr__"))
  exC : subIn K (.ref C) (.type "BaseException") = some true
  tyC : typeIn K (.ref C) = some (.type "type")
  kC : keepIn K (.ref C) = true
  hd : hasDictIn K C = true
  opq : nsIn K cStatics "thirdparty.any" = some none
/-- .. of its __init__ -/
structure ErrF1 (P : Program) (K : PySem.W.Frag) (C : Addr) (fs : List Str) (fI : Addr) (fd : FuncData) (body : List Stmt) (cc cda : Addr) : Prop where
  iC : findIn K (.ref C) "__init__" = some (some (.ref fI))
  tI : typeIn K (.ref fI) = some (.type "function")
  lk : ∃ oc od osl, K.lookup fI = some ⟨oc, od, .func fd, osl⟩
  hb : fd.body = .stmts body
  hg : fd.globals = mainGlobals
  hbl : fd.builtins = builtinsNs
  hcl : fd.closure = [(("__class__" : Str), cc)]
  hcd : fd.code = .ref cda
  cd : codeIn K fd.code fd.qualname = true
  ib : InitB fs body
  bnd : ∀ (s : Shared) (e : Value) (us : List Value), us.length = fs.length → BindsTo s fd ⟨e :: us, []⟩ ((("self" : Str), e) :: fs.zip us)
  par : ∃ ar, (fd.params.posonlyargs ++ fd.params.args).head? = some ar ∧ ar.arg = "self"
  nd : (("self" : Str) :: fs).Nodup
  kd : fd.scope.kind = .function
  co : fd.scope.isCoroutine = false
  gen : fd.scope.isGenerator = false
  sS : fd.scope.names.lookup ("super" : Str) = some .globalImplicit
  sC : fd.scope.names.lookup ("__class__" : Str) = some .free
  sL : ∀ f ∈ ("self" : Str) :: fs, fd.scope.names.lookup f = some .local
  sN : ∀ x ∈ fd.scope.names, x.2 ≠ .cell
  cell : ∃ cl cld csl, K.lookup cc = some ⟨cl, cld, .cell (some (.ref C)), csl⟩
  code : ∃ ccl cdd vs ccs file tf, K.lookup cda = some ⟨ccl, cdd, .fields vs, ccs⟩ ∧ vs[2]? = some (.str file tf) ∧ ((P.main.file : Str) == file) = true
  top : (P.main.scope.names.lookup ("super" : Str)).isSome = false
  tk : ∀ f ∈ fs, takerIn K C f = some none
theorem ns_on {h h' : Heap} {L : Addr} {m : Str → Option Value} (k : ∀ b o, b = L → h.get? b = some o → h'.get? b = some o) (n : h.Ns L m) : h'.Ns L m := by
  obtain ⟨o, es, ep, e, r⟩ := n
  exact ⟨o, es, ep, k _ _ rfl e, r⟩
section
variable {prog : Program} {w : World} {A : Around} {E : Value → Shared → Prop} {g : Array GenState} {d : Drawn} {os : OsState} {K : PySem.W.Frag} {C e : Addr} {B newId initId : String} {bmB : List Value}
/-- super().__init__() in such an __init__ -/
theorem run_super {body : List Stmt} {h : Heap} {t : Nat} {env : Env} {mg mb m : Str → Option Value} {fI cc cda t0 : Addr} {of : Obj} {fd : FuncData} {ar : Arg} {vs : Array Value} {file : Str} {tf : Tok} {ccl : Value} {cdd : Option Addr} {ccs : Array (Option Value)} {cl : Value} {cld : Option Addr} {csl : Array (Option Value)} {p0 p1 p2 p3 p4 : Pos} {pl : Sem Bool} {Q : Flow → Shared → Prop}
    (EC : ErrC K C B newId initId bmB) (X : K.In h) (he : h.get? e = some (excObj C t0 none .none)) (hm : h.Ns env.locals m) (hms : m "self" = some (.ref e)) (hG : h.Ns env.globals mg) (hgs : mg "super" = none) (hB : h.Ns env.builtins mb) (hbs : mb "super" = some (.type "super"))
    (hk : env.scope.kind = .function) (hks : env.kindOf "super" = some .globalImplicit) (hkc : env.kindOf "__class__" = some .free) (hkl : env.kindOf "self" = some .local) (hfu : env.func = some fI) (hf : h.get? fI = some of) (hfd : of.data = .func fd)
    (hp : (fd.params.posonlyargs ++ fd.params.args).head? = some ar) (har : ar.arg = "self") (hco : env.code = .ref cda) (hcc : K.lookup cda = some ⟨ccl, cdd, .fields vs, ccs⟩) (hvs : vs[2]? = some (.str file tf)) (hfile : ((prog.main.file : Str) == file) = true)
    (htop : (prog.main.scope.names.lookup ("super" : Str)).isSome = false) (hcell : K.lookup cc = some ⟨cl, cld, .cell (some (.ref C)), csl⟩) (hcs : env.cells.lookup ("__class__" : Str) = some cc) (hi : interactive env = false)
    (hsw : swapsWith (.Call (.Attribute (.Call (.Name "super" p0) [] [] p1) "__init__" p2) [] [] p3) none p4.line env = pure false)
    (hev : eval (.Call (.Attribute (.Call (.Name "super" p0) [] [] p1) "__init__" p2) [] [] p3) env = (do
      let ov ← attributeBase (.Call (.Name "super" p0) [] [] p1) "__init__" env (eval (.Call (.Name "super" p0) [] [] p1) env)
      standAt p2.atName
      let (f, first) ← holding [ov] (getMethod ov "__init__" pl)
      callWith p3 f first (backTo p3 (starEach [] env)) []))
    (hq : ∀ h' t' t1, (∀ b o, b ≠ e → h.get? b = some o → h'.get? b = some o) → h'.get? e = some (excObj C t1 none .none) → Q .next ⟨h', g, d, t', os⟩) :
    _root_.PySem.wpAt (model prog w) A (.func body env) (exec (.Expr (.Call (.Attribute (.Call (.Name "super" p0) [] [] p1) "__init__" p2) [] [] p3) p4) env) Q E ⟨h, g, d, t, os⟩ := by
  have I : InstAt h e (excObj C t0 none .none) C none := ⟨he, rfl, rfl, trivial⟩
  obtain ⟨cdD, hcD, _⟩ := any_some EC.hd
  obtain ⟨oD, hD1, hD2⟩ : ∃ oD, h.get? C = some oD ∧ oD.data = .cls cdD := by
    unfold clsIn at hcD
    split at hcD
    · rename_i c d cd' sl ho
      cases hcD
      exact ⟨_, X _ _ ho, rfl⟩
    · cases hcD
  have hxC : e ≠ C := ks_ne X I hcD
  refine ks_wpAt_Expr_any (ks_wpAt_MethodCall (pl := pl) ?_ hev) hi hsw
  refine ks_wpAt_super_base hks hkc (by decide) hfu hf hfd hp hco (X _ _ hcc) rfl hvs hfile htop ?_
  refine ks_loadName_global hk hks (loadGlobal_builtin hG hgs hB hbs ⟨rfl, ?_⟩)
  refine wpAny_loadName_free hk hkc hcs ⟨_, X _ _ hcell, rfl⟩ ?_
  rw [har]
  refine wpAny_loadName_local hk hkl hm hms ?_
  refine ks_wpAny_isType_cls hD1 hD2 ⟨rfl, ?_⟩
  refine ks_wpAny_call_super hD1 hD2 I.at_ I.cls (fun c z => nomatch z) (looks_mroIn X EC.subC) (fun h1 e1 k1 => ?_)
  have X1 : K.In h1 := X.keeps k1
  have he1 := k1 _ _ he
  have I1 : InstAt h1 e (excObj C t0 none .none) C none := ⟨he1, rfl, rfl, trivial⟩
  have hm1 := EC.sup
  unfold ks_superIn at hm1
  rw [hcD] at hm1
  refine kxs_getMethod EC.KF e1 (looks_opaque X1 EC.opq) (l₀ := cdD.mro) (fun A Q E s k q => wpAny_bind ((looks_clsIn X1 hcD) A _ E s k (wpAny_pure q))) rfl X1 hm1 (I1.type.andThen (looks_subIn X1 EC.sub)) hxC (by decide) ?_
  have he2 : (h1.push (kxs_mw initId e)).get? e = some (excObj C t0 none .none) := Heap.get?_push_of_some _ he1
  have X2 : K.In (h1.push (kxs_mw initId e)) := X1.keeps fun _ _ z => Heap.get?_push_of_some _ z
  have hu : (h1.push (kxs_mw initId e)).get? h1.objs.size = some (kxs_mw initId e) := Heap.get?_push_at rfl rfl
  refine kxs_callWith (i := initId) (x := e) rfl (evalArgs_empty ⟨hu, ?_⟩)
  obtain ⟨nm, N', qn, bs, bm, hdct, sn, sub, ab, col, dd, k0, k1', k2, k3, k5, hC, hT⟩ := excInit_of X2 EC.own
  refine wpAny_call (codeAny_of_tree ?_)
  show wpAny _ A.in1 (callAny (.ref h1.objs.size) ⟨[], []⟩) _ _ _
  simp only [callAny]
  refine wpAny_bind (wpAny_load hu ?_)
  simp only [kxs_mw, show (Value.type "method-wrapper" == Value.type "method" || Value.type "method-wrapper" == Value.type "builtin_function_or_method" || Value.type "method-wrapper" == Value.type "method-wrapper") = true by decide, if_true]
  refine KFB.if_so (by decide) ?_
  refine wpAny_bind (check_bound_init EC.FB.toExcCallFacts hC he2 rfl ?_)
  refine wpAny_bind (wpAny_pure (wpAny_pure ?_))
  refine ⟨plainId_quiet EC.FB.init.plain _, codeAny_builtin EC.FB.initEntry ?_⟩
  refine exc_init_tree (cls := .ref C) (t0 := t0) (dv := none) (c2 := .none) (c3 := .none) (b4 := .bool false) he2 (Nat.zero_le _) fun h' k' e' t' => ?_
  exact hq h' _ _ (fun b o hb ho => k' b o hb (Heap.get?_push_of_some _ (k1 b o ho))) e'
end
end Pk

/-! The data layer, part QC: an own error made, raised. -/
namespace Pk
open PySem PySem.Spec PySem.W PySem.Calls PyProof.Rows L2
open Builtin.ObjectAttr
def fldM : List Str → List Value → (Str → Option Value) → Str → Option Value
  | f :: fs, u :: us, m => fldM fs us (fun y => if y = f then some u else m y)
  | _, _, m => m
theorem fldM_out {y : Str} : ∀ {fs : List Str} {us : List Value} {m : Str → Option Value}, y ∉ fs → fldM fs us m y = m y
  | [], _, _, _ => by simp [fldM]
  | _ :: _, [], _, _ => by simp [fldM]
  | f :: fs, u :: us, m, h => by
    rw [List.mem_cons, not_or] at h
    unfold fldM
    rw [fldM_out h.2]
    exact if_neg h.1
theorem fldM_rel {y : Str} : ∀ {fs : List Str} {vs : List V} {us : List Value} {m : Str → Option Value}, fs.Nodup → Vals vs us → fs.length = vs.length → (y ∉ fs → m y = none) → RelO ((fs.zip vs).lookup y) (fldM fs us m y)
  | [], _, _, m, _, _, _, h => by
    simp only [fldM, List.zip_nil_left, List.lookup]
    rw [h (by simp)]
    trivial
  | f :: fs, [], _, m, _, _, l, _ => by cases l
  | f :: fs, v :: vs, _, m, n, .cons (b := u) (l₂ := us) r rs, l, h => by
    rw [List.nodup_cons] at n
    rw [List.zip_cons_cons]
    unfold fldM
    by_cases e : y = f
    · subst e
      rw [fldM_out n.1, if_pos rfl]
      simp only [List.lookup, beq_self_eq_true]
      exact r
    · have : (y == f) = false := beq_eq_false_iff_ne.mpr e
      simp only [List.lookup, this]
      refine fldM_rel n.2 rs (by simpa using l) fun hn => ?_
      rw [if_neg e]
      exact h (by rw [List.mem_cons, not_or]; exact ⟨e, hn⟩)
section
variable {prog : Program} {w : World} {A : Around} {E : Value → Shared → Prop} {g : Array GenState} {d : Drawn} {os : OsState} {K : PySem.W.Frag} {C e : Addr} {B newId initId : String} {bmB : List Value}
/-- what the frame tells of the fields -/
def Has (m : Str → Option Value) (env : Env) : List Str → List Value → Prop
  | f :: fs, u :: us => m f = some u ∧ env.kindOf f = some .local ∧ (f == ("__debug__" : Str)) = false ∧ Has m env fs us
  | [], [] => True
  | _, _ => False
theorem run_rest {env : Env} {m : Str → Option Value} (EC : ErrC K C B newId initId bmB) (hms : m "self" = some (.ref e)) (hk : env.scope.kind = .function) (hkl : env.kindOf "self" = some .local)
    (hsw : ∀ f p l s, swapsWith (.Name f p) s l env = pure false) :
    ∀ {fs : List Str} {ss : List Stmt} {us : List Value} {h : Heap} {t : Nat} {dx t1 : Addr} {m0 : Str → Option Value} {nl : List Str} {Q : Flow → Shared → Prop}, Asgs fs ss → Has m env fs us → (∀ f ∈ fs, takerIn K C f = some none) → K.In h → h.Ns env.locals m → env.locals ≠ dx → (∀ o, K.lookup dx = some o → False) → h.get? e = some (excObj C t1 (some dx) .none) → h.Ns1 dx m0 → Within m0 nl → nl.length + fs.length ≤ 900 → e ≠ dx →
      (∀ h' t', (∀ b o, b ≠ dx → h.get? b = some o → h'.get? b = some o) → h'.get? e = some (excObj C t1 (some dx) .none) → h'.Ns1 dx (fldM fs us m0) → Q .next ⟨h', g, d, t', os⟩) →
      wpAny (model prog w) A (execs ss env) Q E ⟨h, g, d, t, os⟩
  | _, _, us, h, t, dx, t1, m0, nl, Q, .nil, hH, ht, X, hm, nL, nK, he, hns, hw, hz, ne, hq => by
    refine wpAny_execs_nil ?_
    have := hq h t (fun _ _ _ z => z) he (by cases us <;> simpa [fldM] using hns)
    exact this
  | _, _, [], h, t, dx, t1, m0, nl, Q, .cons r, hH, ht, X, hm, nL, nK, he, hns, hw, hz, ne, hq => hH.elim
  | f :: fs, _, u :: us, h, t, dx, t1, m0, nl, Q, .cons (ss := ss) (p1 := p1) (p2 := p2) (p3 := p3) (p4 := p4) r, hH, ht, X, hm, nL, nK, he, hns, hw, hz, ne, hq => by
    obtain ⟨hf, hfl, hfd, hH⟩ := hH
    refine wpAny_execs_cons (plainObj_wpAny_Assign_Attribute (wpAny_Name (wpAny_loadName_local hk hfl hm hf (wpAny_Name (wpAny_loadName_local hk hkl hm hms ?_) (by decide))) hfd) (hsw _ _ _ _))
    refine st_old EC.SF X he hns hw (by omega) EC.ovr (ht f (by simp)) EC.hd EC.sa fun h' t' k hn' => ?_
    have X' : K.In h' := fun b o z => k b o (fun q => nK o (by rw [← q]; exact z)) (X b o z)
    refine run_rest EC hms hk hkl hsw r hH (fun y hy => ht y (List.mem_cons_of_mem _ hy)) X' (ns_on (fun b o q z => k b o (by rw [q]; exact nL) z) hm) nL nK (k _ _ ne he) hn' (Within.cons f u hw) (by simp only [List.length_cons] at hz ⊢; omega) ne fun h2 t2 k2 e2 n2 => ?_
    exact hq h2 t2 (fun b o nb z => k2 b o nb (k b o nb z)) e2 (by simpa only [fldM] using n2)
theorem zip_look {f : Str} {u : Value} : ∀ {fs : List Str} {us : List Value} {i : Nat}, fs.Nodup → fs[i]? = some f → us[i]? = some u → (fs.zip us).reverse.lookup f = some u
  | [], us, i, _, e, _ => by simp at e
  | g :: fs, [], i, _, _, e => by simp at e
  | g :: fs, x :: us, i, nd, e1, e2 => by
    rw [List.nodup_cons] at nd
    rw [List.zip_cons_cons, List.reverse_cons]
    cases i with
    | zero =>
      simp only [List.getElem?_cons_zero, Option.some.injEq] at e1 e2
      subst e1 e2
      have hn : (fs.zip us).reverse.lookup g = none := by
        rw [List.lookup_eq_none_iff]
        intro p hp
        rw [List.mem_reverse] at hp
        have : p.1 ∈ fs := (List.of_mem_zip (a := p.1) (b := p.2) hp).1
        have : ¬ g = p.1 := fun z => nd.1 (by rw [z]; exact this)
        exact bne_iff_ne.mpr this
      rw [List.lookup_append, hn]
      simp
    | succ i =>
      simp only [List.getElem?_cons_succ] at e1 e2
      rw [List.lookup_append, zip_look nd.2 e1 e2]
      simp
theorem has_of {fs0 : List Str} {m : Str → Option Value} {env : Env} (hl : ∀ f ∈ fs0, env.kindOf f = some .local) (hd : ∀ f ∈ fs0, (f == ("__debug__" : Str)) = false) : ∀ {fs : List Str} {us : List Value}, (∀ f ∈ fs, f ∈ fs0) → fs.length = us.length → (∀ (i : Nat) f u, fs[i]? = some f → us[i]? = some u → m f = some u) → Has m env fs us
  | [], [], _, _, _ => trivial
  | [], _ :: _, _, l, _ => by cases l
  | _ :: _, [], _, l, _ => by cases l
  | f :: fs, u :: us, hs, l, h => ⟨h 0 f u rfl rfl, hl f (hs f (by simp)), hd f (hs f (by simp)), has_of hl hd (fun y hy => hs y (List.mem_cons_of_mem _ hy)) (by simpa using l) fun i f u a b => h (i + 1) f u (by simpa using a) (by simpa using b)⟩
/-- the __init__ of an own error, called -/
theorem exc_init {h : Heap} {t : Nat} {t0 fI cc cda : Addr} {fd : FuncData} {body : List Stmt} {fs : List Str} {us : List Value} {mg mb : Str → Option Value} {R : Result → Shared → Prop} (EC : ErrC K C B newId initId bmB) (EF : ErrF1 prog K C fs fI fd body cc cda)
    (X : K.In h) (he : h.get? e = some (excObj C t0 none .none)) (nKe : ∀ o, K.lookup e = some o → False) (hG : h.Ns mainGlobals mg) (hgs : mg "super" = none) (hB : h.Ns builtinsNs mb) (hbs : mb "super" = some (.type "super")) (hlim : h.NoLimit) (hG' : mainGlobals ≠ e) (hB' : builtinsNs ≠ e)
    (hroom : A.depth < recursionLimit) (hl : us.length = fs.length) (hfs : fs ≠ []) (hl2 : fs.length ≤ 800) (hdb : ∀ f ∈ fs, (f == ("__debug__" : Str)) = false)
    (hq : ∀ h' t' dx t1, (∀ b o, b ≠ e → h.get? b = some o → h'.get? b = some o) → h.objs.size ≤ dx → h'.get? e = some (excObj C t1 (some dx) .none) → h'.Ns1 dx (fldM fs us fun _ => none) → R (.ok (.ret .none)) ⟨h', g, d, t', os⟩) :
    codeAny (model prog w) A (.call (.ref fI) ⟨.ref e :: us, []⟩) R ⟨h, g, d, t, os⟩ := by
  obtain ⟨oc, od, osl, lk⟩ := EF.lk
  obtain ⟨ar, hp, har⟩ := EF.par
  obtain ⟨cl, cld, csl, hcell⟩ := EF.cell
  obtain ⟨ccl, cdd, vs, ccs, file, tf, hcc, hvs, hfile⟩ := EF.code
  have sL := EF.sL
  have nd := EF.nd
  refine ks_codeAny_call_defAt (fd := fd) (body := body) (binds := (("self" : Str), Value.ref e) :: fs.zip us) hroom (X _ _ lk) rfl hlim (codeRec_of X EF.cd) EF.hb (EF.bnd _ _ _ hl) EF.sN (fun y hy => ?_) (fun h₁ hns k1 => ?_) EF.co EF.gen EF.kd
  · rcases List.mem_cons.mp hy with rfl | hy
    · exact sL _ (by simp)
    · exact sL _ (List.mem_cons_of_mem _ (List.of_mem_zip (a := y.1) (b := y.2) hy).1)
  · have X1 : K.In h₁ := X.keeps k1
    have he1 := k1 _ _ he
    have eL : (callEnv fd h.objs.size fI).locals = h.objs.size := rfl
    have neL : h.objs.size ≠ e := Nat.ne_of_gt (Heap.lt_size he)
    have kd := EF.kd
    have sS := EF.sS
    have sC := EF.sC
    have hcl := EF.hcl
    have hcd := EF.hcd
    have hgl := EF.hg
    have hbl := EF.hbl
    have tk := EF.tk
    have top := EF.top
    cases EF.ib with
    | @mk ss p0 p1 p2 p3 p4 hev hA =>
      obtain ⟨pl, hev⟩ := hev (callEnv fd h.objs.size fI)
      have nsk : ∀ {h2 : Heap}, (∀ b o, b ≠ e → h₁.get? b = some o → h2.get? b = some o) → ∀ {a : Addr} {m : Str → Option Value}, a ≠ e → h₁.Ns a m → h2.Ns a m := fun k a m n z => ns_on (fun b o q y => k b o (by rw [q]; exact n) y) z
      have ns1 : ∀ {a : Addr} {m : Str → Option Value}, h.Ns a m → h₁.Ns a m := fun z => ns_on (fun b o _ y => k1 b o y) z
      have m_self : ((("self" : Str), Value.ref e) :: fs.zip us).reverse.lookup ("self" : Str) = some (Value.ref e) := by
        have q := zip_look (fs := ("self" : Str) :: fs) (us := Value.ref e :: us) (i := 0) nd rfl rfl
        simpa [List.zip_cons_cons] using q
      have m_f : ∀ (i : Nat) f u, fs[i]? = some f → us[i]? = some u → ((("self" : Str), Value.ref e) :: fs.zip us).reverse.lookup f = some u := fun i f u a b => by
        have q := zip_look (fs := ("self" : Str) :: fs) (us := Value.ref e :: us) (i := i + 1) nd (by simpa using a) (by simpa using b)
        simpa [List.zip_cons_cons] using q
      have hsw : ∀ f p l s, swapsWith (.Name f p) s l (callEnv fd h.objs.size fI) = pure false := by intros; rfl
      have hin : interactive (callEnv fd h.objs.size fI) = false := by
        unfold interactive
        rw [show (callEnv fd h.objs.size fI).scope.kind = .function from kd]
        rfl
      refine ks_wpAt_execs_cons (run_super EC X1 he1 hns m_self (by rw [show (callEnv fd h.objs.size fI).globals = fd.globals from rfl, hgl]; exact ns1 hG) hgs (by rw [show (callEnv fd h.objs.size fI).builtins = fd.builtins from rfl, hbl]; exact ns1 hB) hbs kd sS sC (sL _ (by simp)) rfl (X1 _ _ lk) rfl hp har hcd hcc hvs hfile top hcell
        (by rw [show (callEnv fd h.objs.size fI).cells = fd.closure from rfl, hcl]; rfl) hin rfl hev ?_)
      intro h2 t2 t1 k2 e2
      refine wpAt_of_wpAny ?_
      have X2 : K.In h2 := fun b o z => k2 b o (fun q => nKe o (by rw [← q]; exact z)) (X1 b o z)
      have hns2 : h2.Ns (callEnv fd h.objs.size fI).locals _ := nsk k2 neL hns
      cases hA with
      | nil => exact absurd rfl hfs
      | @cons f fs' ss' q1 q2 q3 q4 r =>
        cases us with
        | nil => cases hl
        | cons u us' =>
          have hfl : (callEnv fd h.objs.size fI).kindOf f = some .local := sL f (by simp)
          have hkl : (callEnv fd h.objs.size fI).kindOf "self" = some .local := sL "self" (by simp)
          refine wpAny_execs_cons (plainObj_wpAny_Assign_Attribute (wpAny_Name (wpAny_loadName_local kd hfl hns2 (m_f 0 f u rfl rfl) (wpAny_Name (wpAny_loadName_local kd hkl hns2 m_self ?_) (by decide))) (hdb f (by simp))) (hsw _ _ _ _))
          refine st_new EC.SF X2 e2 EC.ovr (tk f (by simp)) EC.hd EC.sa fun h3 t3 dx k3 hsz ned e3 n3 => ?_
          have szd : ∀ {b : Addr} {o : Obj}, h2.get? b = some o → b ≠ dx := fun z => Nat.ne_of_lt (Nat.lt_of_lt_of_le (Heap.lt_size z) hsz)
          have X3 : K.In h3 := fun b o z => k3 b o (fun q => nKe o (by rw [← q]; exact z)) (X2 b o z)
          have Ld : (callEnv fd h.objs.size fI).locals ≠ dx := by
            obtain ⟨o, _, _, z, _⟩ := hns2
            exact szd z
          refine run_rest EC m_self kd hkl hsw r (has_of (fs0 := fs') (env := callEnv fd h.objs.size fI) (fun y hy => sL y (List.mem_cons_of_mem _ (List.mem_cons_of_mem _ hy))) (fun y hy => hdb y (List.mem_cons_of_mem _ hy)) (fun y hy => hy) (by simpa using hl.symm) (fun i f2 u2 a b => m_f (i + 1) f2 u2 (by simpa using a) (by simpa using b))) (fun y hy => tk y (List.mem_cons_of_mem _ hy)) X3
            (ns_on (fun b o q z => k3 b o (by rw [q]; exact neL) z) hns2) Ld (fun o z => szd (X2 _ _ z) rfl) e3 n3 (Within.cons f u Within.nil) (by simp only [List.length_cons, List.length_nil] at hl2 ⊢; omega) (fun z => ned z.symm) fun h4 t4 k4 e4 n4 => ?_
          refine hq h4 t4 dx t1 (fun b o nb z => ?_) (Nat.le_trans ?_ hsz) e4 (by simpa only [fldM] using n4)
          · have z2 := k2 b o nb (k1 b o z)
            exact k4 b o (szd z2) (k3 b o nb z2)
          · by_cases hc : h.objs.size ≤ h2.objs.size
            · exact hc
            · obtain ⟨o, _, _, z, _⟩ := hns2
              have : h.objs.size < h2.objs.size := Heap.lt_size z
              omega
end
end Pk

/-! The data layer, part QD: raise C(..). -/
namespace Pk
open PySem PySem.Spec PyProof.Rows L2
section
variable {X : Cx} {C fI cc cda : Addr} {fs : List Str} {fd : FuncData} {body : List Stmt} {B newId initId : String} {bmB : List Value} {e : Expr} {es : List Expr} {ta : TA} {x : Str} {p pos : Pos}
def tMkE (C : Addr) (fs : List Str) (ta : TA) : L2.St → Hp → XK → Prop := fun σ H Q => ta σ H fun vs H1 => vs.length = fs.length ∧ ∀ d, H1 d = none → Q (.ref C) (some d) (upd H1 d (.xd (fs.zip vs)))
theorem pmk_err (EC : ErrC X.K C B newId initId bmB) (EF : ErrF1 X.prog X.K C fs fI fd body cc cda) (hr : L2.Room 1 X.A) (hfs : fs ≠ []) (hl2 : fs.length ≤ 800) (hdbs : ∀ f ∈ fs, (f == ("__debug__" : Str)) = false) (hsup : X.mg "super" = none) (hg : Gl X x) (hm : X.mg x = some (.ref C)) (ha : PA X (e :: es) ta)
    (hdb : (x == ("__debug__" : Str)) = false := by decide) (he : starEach (e :: es) X.env = (false, eval e X.env) :: starEach es X.env := by rfl) (hpl : (backTo pos (starEach es X.env)).any (·.1) = false := by rfl) :
    PMk X (.Call (.Name x p) (e :: es) [] pos) (tMkE C fs ta) := by
  intro pins s σ H Q I h
  refine wpAny_Call_Name_kw (ld_glob I hg hm ?_ hdb)
  refine PySem.W.callWith_K (h₀ := X.base) I.ok.mod.kin EC.kC (thn (ha.run pos pins s σ H _ I h) fun us s1 ⟨vs, H1, I1, r1, hz, q1⟩ => ⟨I1.kIn, ?_⟩) he hpl
  show wpAny _ _ (call (.ref C) us) _ _ _
  have lu : us.length = fs.length := by rw [← Paired.length r1]; exact hz
  obtain ⟨mb, hB, hbb⟩ := I1.ok.mod.blt
  have bk := I1.bk
  have hG : s1.heap.Ns mainGlobals X.mg := I1.ok.mod.glob.keeps bk
  have hB1 : s1.heap.Ns builtinsNs mb := hB.keeps bk
  have hlim : s1.heap.NoLimit := I1.ok.mod.nolimit.keeps bk
  have hbs : mb "super" = some (.type "super") := (hbb "super" (by decide)).trans (by first | rfl | decide +kernel | kernel_rfl)
  have X0 := I1.kIn
  obtain ⟨hp, g, dr, tk, os⟩ := s1
  obtain ⟨nm, N', qn, bs, bm, hdct, sn, sub, ab, col, dd, k0, k1, k2, k3, k5, hC, hT⟩ := PySem.W.excInit_of X0 EC.own
  have hus : us.length ≤ sizeLine := by
    rw [sizeLine_eq]
    omega
  have n1 : hp.get? (hp.objs.size + 1) = none := Heap.get?_none_of_le (Nat.le_succ _)
  have kk : ∀ b o, hp.get? b = some o → ((hp.push (PySem.W.kdv_tup us)).push (PySem.HandSPX.excO C hp.objs.size)).get? b = some o := fun b o e => Heap.get?_push_of_some _ (Heap.get?_push_of_some _ e)
  have hget : ((hp.push (PySem.W.kdv_tup us)).push (PySem.HandSPX.excO C hp.objs.size)).get? (hp.objs.size + 1) = some (PySem.HandSPX.excO C hp.objs.size) := by heap_get
  have nz : ∀ {b : Addr} {o : Obj}, hp.get? b = some o → b ≠ hp.objs.size + 1 := fun z => Nat.ne_of_lt (Nat.lt_succ_of_lt (Heap.lt_size z))
  have nsz : ∀ {a : Addr} {m : Str → Option Value}, hp.Ns a m → a ≠ hp.objs.size + 1 := fun z => by
    obtain ⟨o, _, _, y, _⟩ := z
    exact nz y
  refine wpAny_call (PySem.HandSPX.call_own EC.FB hT hC (PySem.W.looks_findIn X0 EF.iC) (fun self => PySem.W.bind_fn X0 self EF.tI) hus ?_)
  refine exc_init (t0 := hp.objs.size) EC EF (X0.keeps kk) hget (fun o z => nz (X0 _ _ z) rfl) (hG.keeps kk) hsup (hB1.keeps kk) hbs (hlim.keeps kk) (nsz hG) (nsz hB1) (hr.make (k := 0) C us []).depth lu hfs hl2 hdbs fun h' t' dx t1 k hsz e' n' => ?_
  refine ⟨rfl, ?_⟩
  have sz2 : ((hp.push (PySem.W.kdv_tup us)).push (PySem.HandSPX.excO C hp.objs.size)).objs.size = hp.objs.size + 2 := by rw [Heap.size_push, Heap.size_push]
  rw [sz2] at hsz
  have keep : ∀ b o, hp.get? b = some o → h'.get? b = some o := fun b o z => k b o (nz z) (kk b o z)
  obtain ⟨G, g1, g2⟩ := restrict h' fun b => decide (b ≠ hp.objs.size + 1)
  have gk : ∀ b, b ≠ hp.objs.size + 1 → G.get? b = h'.get? b := fun b hb => g1 b (decide_eq_true hb)
  have ge : G.get? (hp.objs.size + 1) = none := g2 _ (by simp)
  have dne : dx ≠ hp.objs.size + 1 := by omega
  have nG : G.Ns1 dx (fldM fs us fun _ => none) := n'.at fun o y => (gk dx dne).trans y
  have J : Inv X pins σ (upd H1 dx (.xd (fs.zip vs))) ⟨G, g, dr, t', os⟩ := I1.laid (t' := t') (a := dx) (o := .xd (fs.zip vs)) (h' := G) (fun b o z => (gk b (nz z)).trans (keep b o z)) (by show hp.objs.size ≤ dx; omega)
    ⟨_, nG, fun f => fldM_rel (List.nodup_cons.mp EF.nd).2 r1 hz.symm (fun _ => rfl)⟩
  have nd : H1 dx = none := I1.hok.fresh (by show hp.objs.size ≤ dx; omega)
  have na : upd H1 dx (.xd (fs.zip vs)) (hp.objs.size + 1) = none := by
    rw [upd_ne (Ne.symm dne)]
    exact I1.hok.fresh (Nat.le_succ _)
  exact ⟨hp.objs.size + 1, _, _, ⟨G, g, dr, t', os⟩, _, .ref C, some dx, rfl, J, fun b o z => by
    by_cases hb : b = hp.objs.size + 1
    · rw [hb, show (⟨G, g, dr, t', os⟩ : Shared).heap = G from rfl, ge] at z
      cases z
    · exact (gk b hb).symm.trans z, ge, e', ⟨rfl, rfl⟩, rfl, rfl, na, rfl, J.bare, raises_own EC.exC EC.tyC, q1 dx nd⟩
end
end Pk

/-! The data layer, part QE: raise, over data. -/
namespace Pk
open PySem PySem.Spec PyProof.Rows L2
/-- an own error's class, as the text names it -/
structure RaiF (P : Program) (K : PySem.W.Frag) (T : Tab) (c : Nat) : Prop where
  ok : ∃ B n i bm, ErrC K (T.ca c) B n i bm ∧ ((T.fn c = [] ∧ PySem.W.findIn K (.ref (T.ca c)) "__init__" = some (some (.builtin i))) ∨ (T.fn c ≠ [] ∧ ∃ fI fd body cc cda, ErrF1 P K (T.ca c) (T.fn c) fI fd body cc cda))
  few : (T.fn c).length ≤ 800
  dbg : ∀ f ∈ T.fn c, (f == ("__debug__" : Str)) = false
def sRaise (c n : Nat) (wa : WA) : WS := fun De ρ μ => wa ρ μ (fun ds μ1 => match Nat.beq ds.length n with
  | true => De.ex ⟨c, ds⟩ ρ μ1
  | false => False) (fun x μ' => De.ex x ρ μ')
section
variable {X : Cx} {z : Zx} {c n : Nat} {x : Str} {p pos pos' : Pos} {e : Expr} {es : List Expr} {wa : WA}
theorem ds_raise (R : RaiF X.prog X.K z.T c) (hc : X.calm = true) (hr : L2.Room 1 X.A) (hsup : X.mg "super" = none) (hm : X.mg x = some (.ref (z.T.ca c))) (hn : (z.T.fn c).length = n) (h0 : n ≠ 0) (ha : DA X z (e :: es) wa) (hg : Gl X x := by rfl)
    (hdb : (x == ("__debug__" : Str)) = false := by decide) (he : starEach (e :: es) X.env = (false, eval e X.env) :: starEach es X.env := by rfl) (hpl : (backTo pos' (starEach es X.env)).any (·.1) = false := by rfl) :
    DS X z (.Raise (some (.Call (.Name x p) (e :: es) [] pos')) none pos) (sRaise c n wa) := fun Wd tk => by
  obtain ⟨B, nw, i, bm, EC, h⟩ := R.ok
  have hne : z.T.fn c ≠ [] := fun q => h0 (by rw [← hn, q]; rfl)
  rcases h with ⟨q, _⟩ | ⟨_, fI, fd, body, cc, cda, EF⟩
  · exact absurd q hne
  refine psI (ps_raise hc tk (pmk_err EC EF hr hne R.few R.dbg hsup hg hm (ha Wd tk) hdb he hpl)) fun D σ H ⟨F, m, μ, ρ, De, S, h, ex, k⟩ => ?_
  refine ⟨F, m, μ, ρ, _, S, by rw [← ex]; exact h, fun F1 m1 μ1 ds vs H1 x1 S1 r1 q1 => ?_⟩
  cases hl : Nat.beq ds.length n with
  | false => rw [hl] at q1; exact q1.elim
  | true =>
    rw [hl] at q1
    have el := Nat.eq_of_beq_eq_true hl
    have lv : vs.length = (z.T.fn c).length := by rw [← r1.length, el, hn]
    refine ⟨lv, fun d hd => ?_⟩
    obtain ⟨x2, S2⟩ := S1.new hd (.xd ((z.T.fn c).zip vs))
    exact ⟨_, _, _, _, ⟨c, ds⟩, S2, ⟨rfl, vs, .inr ⟨d, rfl, upd_same, lv.symm⟩, r1.mono x2.gr⟩, by rw [← ex]; exact q1⟩
end
end Pk

/-! The data layer, part QF: try with its clauses; a caught error is known from then on. -/
namespace Pk
open PySem PySem.Spec PyProof.Rows L2
/-- the context of an except suite -/
abbrev Qs (X : Cx) (a : Addr) : Cx := { X with A := X.A.mark (some (.ref a)), calm := false, xe := fun _ _ => False }
section
variable {X : Cx} {pins : List (Addr × Obj)} {σ : L2.St} {H : Hp} {s : Shared} {a : Addr}
theorem okQs (ok : X.Ok) (a : Addr) : (Qs X a).Ok :=
  ⟨ok.mod, ok.kind, ok.glob, ok.blt, ok.above, ok.inj, ok.has, ok.cab, (fun z => absurd (show false = true from z) Bool.false_ne_true), ok.frames, ok.stk, ok.exf, ok.bs, ok.bsz, ok.noex, ok.exfs, ok.funs, ok.frf⟩
theorem invQs (I : Inv X pins σ H s) (a : Addr) : Inv (Qs X a) pins σ H s := ⟨okQs I.ok a, I.os, I.bare, I.base, I.loc, I.cell, I.free, I.freeC, I.pin, I.hok, I.len⟩
theorem unQs (I : Inv (Qs X a) pins σ H s) (ok : X.Ok) : Inv X pins σ H s := ⟨ok, I.os, I.bare, I.base, I.loc, I.cell, I.free, I.freeC, I.pin, I.hok, I.len⟩
/-- a new untracked record becomes known -/
theorem inv_track {oe : Obj} {vs : Array Value} {C : Addr} {d : Option Addr} (I : Inv X pins σ H s) (he : s.heap.get? a = some oe) (hc : oe.cls = .ref C) (hdd : oe.dict = d) (hd : oe.data = .fields vs) (na : H a = none) (n0 : X.s_0.heap.get? a = none) (nL : a ≠ X.env.locals) (np : ∀ p ∈ X.pn ++ pins, p.1 ≠ a) :
    Inv X pins σ (upd H a (excH a C d)) s := by
  have nc : ∀ x c, X.env.cells.lookup x = some c → c ≠ a := fun x c e q => by
    obtain ⟨v, o, z1, z2⟩ := I.cell x c e
    rw [q, he] at z1
    cases z1
    rw [hd] at z2
    cases z2
  have n0' : ∀ b o, X.s_0.heap.get? b = some o → b ≠ a := fun b o e q => by
    rw [q, n0] at e
    cases e
  refine ⟨I.ok, I.os, I.bare, ⟨I.base.keep, I.base.slot, fun b o e n x => by rw [upd_ne (n0' b o e)]; exact I.base.free b o e n x, I.base.there, fun b xs e => ?_, fun b o u e => ?_, fun b ps e => ?_⟩, I.loc, I.cell, by rw [upd_ne (Ne.symm nL)]; exact I.free, fun x c e => by rw [upd_ne (nc x c e)]; exact I.freeC x c e, fun p hp => ?_, fun b ob e => ?_, I.len⟩
  · have z := I.base.tups b xs e
    rw [upd_ne (ne_of_none z na)]
    exact z
  · have z := I.base.frzs b o u e
    rw [upd_ne (ne_of_none z na)]
    exact z
  · obtain ⟨more, z⟩ := I.base.tbls b ps e
    exact ⟨more, by rw [upd_ne (ne_of_none z na)]; exact z⟩
  · obtain ⟨h1, h2, h3⟩ := I.pin p hp
    exact ⟨h1, by rw [upd_ne (np p hp)]; exact h2, h3⟩
  · by_cases hb : b = a
    · subst hb
      rw [upd_same] at e
      cases e
      exact ⟨⟨oe, vs, he, hc, hdd, hd⟩, ⟨oe, he⟩, fun h1 h2 ⟨o1, v1, a1, a2, a3, a4⟩ k => ⟨o1, v1, k _ a1, a2, a3, a4⟩⟩
    · rw [upd_ne hb] at e
      exact (I.hok b ob e).stay (fun c u _ z => z) (fun c z => by rw [upd_ne (ne_of_none z na)]; exact z) fun c xs z => by rw [upd_ne (ne_of_none z na)]; exact z
end
/-! ### the tests of clauses -/
inductive TestE (X : Cx) : Expr → List Value → Prop
  | one {x : Str} {c : Value} {p : Pos} : Names X x c → TestE X (.Name x p) [c]
  | two {x1 x2 : Str} {c1 c2 : Value} {p1 p2 pos : Pos} {k : Nat} : Names X x1 c1 → Names X x2 c2 → TestE X (.Tuple [.Name x1 p1, .Name x2 p2] k pos) [c1, c2]
  | three {x1 x2 x3 : Str} {c1 c2 c3 : Value} {p1 p2 p3 pos : Pos} {k : Nat} : Names X x1 c1 → Names X x2 c2 → Names X x3 c3 → TestE X (.Tuple [.Name x1 p1, .Name x2 p2, .Name x3 p3] k pos) [c1, c2, c3]
section
variable {X : Cx} {pins : List (Addr × Obj)} {σ : L2.St} {H : Hp} {s : Shared} {a : Addr}
theorem name_run {x : Str} {c : Value} {p : Pos} {Q : Value → Shared → Prop} {E : Value → Shared → Prop} (I : Inv X pins σ H s) (n : Names X x c) (h : Q c s) : wpAny (model X.prog X.w) X.A (eval (.Name x p) X.env) Q E s := by
  obtain ⟨hg, hdbg, hm | ⟨hm, hv, hnn⟩⟩ := n
  · exact ld_glob I hg hm h hdbg
  · exact ld_blt I hg hm hv h hnn hdbg
theorem exmAny_one {K : PySem.W.Frag} {cls c : Value} {b : Bool} (h : PySem.W.exmAny K cls [c] = some b) : PySem.W.exmOne K cls c = some b := by
  obtain ⟨b1, d1, h1, h2, h3⟩ := PySem.W.exmAny_cons h
  injection h2 with h2
  subst h2
  rw [h1, h3, Bool.or_false]
theorem test_run' {t : Expr} {cs : List Value} {cls : Value} {b : Bool} {R : Bool → Shared → Prop} {E : Value → Shared → Prop} {e : Addr} (T : TestE X t cs) (I : Inv X pins σ H s) (LT : PySem.W.Looks (model X.prog X.w) s.heap (typeOf (.ref e)) cls) (hb : PySem.W.exmAny X.K cls cs = some b)
    (h : ∀ h', (∀ c o, s.heap.get? c = some o → h'.get? c = some o) → R b { s with heap := h' }) :
    wpAny (model X.prog X.w) X.A (eval t X.env) (fun c s₁ => wpAny (model X.prog X.w) X.A (excMatches (.ref e) c) R E s₁) E s := by
  cases T with
  | one n => exact name_run I n ((PySem.W.exm_one (M := model X.prog X.w) I.kIn LT (exmAny_one hb)).here (h s.heap fun _ _ z => z))
  | two n1 n2 =>
    refine wpAny_Tuple (Calls.spliced_cons (name_run I n1 (Calls.spliced_cons (name_run I n2 (Calls.spliced_nil ⟨by rw [sizeLine_eq]; show 2 ≤ _; omega, ?_⟩)))))
    have k : ∀ (ob : Obj) c o, s.heap.get? c = some o → (s.heap.push ob).get? c = some o := fun _ c o z => Heap.get?_push_of_some _ z
    exact (PySem.W.exm_tup2 (M := model X.prog X.w) (I.kIn.keeps (k _)) (LT.keeps (k _)) (Heap.get?_push_size _ rfl) hb).here (h _ (k _))
  | three n1 n2 n3 =>
    refine wpAny_Tuple (Calls.spliced_cons (name_run I n1 (Calls.spliced_cons (name_run I n2 (Calls.spliced_cons (name_run I n3 (Calls.spliced_nil ⟨by rw [sizeLine_eq]; show 3 ≤ _; omega, ?_⟩)))))))
    have k : ∀ (ob : Obj) c o, s.heap.get? c = some o → (s.heap.push ob).get? c = some o := fun _ c o z => Heap.get?_push_of_some _ z
    exact (PySem.W.exm_tup3 (M := model X.prog X.w) (I.kIn.keeps (k _)) (LT.keeps (k _)) (Heap.get?_push_size _ rfl) hb).here (h _ (k _))
end
/-! ### try -/
/-- a clause: the classes it names, the slot of its name, its suite -/
structure Hd where
  cs : List Value
  nm : Option Nat
  ts : TS
def endsAs (i : Nat) (D : Ends) : Ends := { nx := fun σ' H' => D.nx (σ'.set i none) H', rt := D.rt, bk := fun σ' H' => D.bk (σ'.set i none) H', ct := fun σ' H' => D.ct (σ'.set i none) H' }
def wG (K : PySem.W.Frag) (Wout : WX) (D : Ends) : List Hd → WX
  | [] => Wout
  | h :: r => fun cls d σ H => ∃ b, PySem.W.exmAny K cls h.cs = some b ∧ (b = true → match h.nm with
      | none => h.ts D σ H
      | some i => ∃ C, cls = .ref C ∧ ∀ a, H a = none → h.ts (endsAs i D) (σ.set i (some (.ref a))) (upd H a (excH a C d))) ∧
    (b = false → wG K Wout D r cls d σ H)
inductive HdsG (X : Cx) : List ExceptHandler → List Hd → Prop
  | nil : HdsG X [] []
  | plain {t : Expr} {cs : List Value} {ts : TS} {b₀ : Stmt} {suite : List Stmt} {pos' : Pos} {hds : List ExceptHandler} {l : List Hd} (ht : TestE X t cs) (hsu : ∀ a : Addr, PSs (Qs X a) (b₀ :: suite) ts) (r : HdsG X hds l) :
      HdsG X (.ExceptHandler (some t) none (b₀ :: suite) pos' :: hds) (⟨cs, none, ts⟩ :: l)
  | named {t : Expr} {cs : List Value} {ts : TS} {b₀ : Stmt} {suite : List Stmt} {pos' : Pos} {hds : List ExceptHandler} {l : List Hd} {i : Nat} {n : Str} (hi : X.N[i]? = some n) (hln : X.env.kindOf n = some .local) (ht : TestE X t cs) (hsu : ∀ a : Addr, PSs (Qs X a) (b₀ :: suite) ts) (r : HdsG X hds l) :
      HdsG X (.ExceptHandler (some t) (some n) (b₀ :: suite) pos' :: hds) (⟨cs, some i, ts⟩ :: l)
theorem testQs {X : Cx} {a : Addr} {t : Expr} {cs : List Value} (T : TestE X t cs) : TestE (Qs X a) t cs := by
  cases T with
  | one n => exact .one n
  | two n1 n2 => exact .two n1 n2
  | three n1 n2 n3 => exact .three n1 n2 n3
theorem fly_keeps {B h h' : Heap} {l : List Env} {a : Addr} {Z : Obj → Prop} (k : ∀ b o, h.get? b = some o → h'.get? b = some o) (f : HandSPX.FlyingZ B l a Z h) : HandSPX.FlyingZ B l a Z h' := by
  obtain ⟨f1, f2, f3, oe, vs, T, oT, ts, he, hz, hd, h1, hn, hT, hT2, hd2, h3⟩ := f
  exact ⟨fun b o e => k _ _ (f1 b o e), f2, f3.of_keeps fun b o e _ => ⟨o, k _ _ e, rfl⟩, oe, vs, T, oT, ts, k _ _ he, hz, hd, h1, hn, hT, k _ _ hT2, hd2, h3⟩
section
variable {X : Cx} {body : List Stmt} {h₀ : ExceptHandler} {hds : List ExceptHandler} {l : List Hd} {pos : Pos} {tb : WX → TS} {Wout : WX}
theorem ps_tryG (hs : X.stack = X.env :: X.outer) (hf : X.env.frame = some X.env.locals) (hex : X.ex = []) (hN : X.N.Nodup) (tk : Takes X Wout)
    (hb : ∀ (W : WX) (pn : List (Addr × Obj)) (xe : Value → Shared → Prop), Takes (X.tr pn xe) W → PassesOwn (model X.prog X.w) X.A X.env xe → PSs (X.tr pn xe) body (tb W))
    (hh : HdsG X (h₀ :: hds) l) : PS X (.Try body (h₀ :: hds) [] [] pos) (fun D σ H => tb (wG X.K Wout D l) D σ H) := by
  refine ⟨fun pins s σ H D I h => ?_⟩
  have ok := I.ok
  have hfr : X.A.frames = some (X.env :: X.outer) := by rw [ok.frames, hs]
  refine wpAny_Try_except ?_
  refine wpAny_mono ((hb (wG X.K Wout D l) (X.pn ++ pins) (fun e s₁ => wpAny (model X.prog X.w) X.A (noteFrame e X.env) (fun _ s₂ => wpAny (model X.prog X.w) X.A (setFlight e none) (fun _ s₃ =>
    wpAny (model X.prog X.w) X.A (handleBy e X.env (h₀ :: hds)) (SP X pins D) X.xe s₃) X.xe s₂) X.xe s₁) (fun u s' xx => ?_) PassesOwn.looking).run [] s σ H D (I.toTry _) h) (fun f s1 hsp => ?_) (fun e s1 he => he)
  · -- the catch
    obtain ⟨a, B, sI, pins', σ', H', cls, d, rfl, J', nb, up, sky, na, os, ag, w⟩ := xx
    have J : Inv X pins σ' H' sI := J'.ofTry ok
    have sky' : Sky B (X.env :: X.outer) a (Zc cls d) X.env.locals s'.heap := by rw [← hs]; exact sky
    show wpAny (model X.prog X.w) X.A (noteFrame (.ref a) X.env) _ _ _
    refine Sky.land Zc.steady hfr hf sky' fun h3 fl3 up3 => ?_
    have J3 : Inv X pins σ' H' { s' with heap := h3 } := J.landed nb fl3.1 (up.trans up3) os ag
    have notFr : ∀ {h : Heap} {o : Obj} {vs : Array Value}, h.FunFrames B (X.env :: X.outer) → h.get? a = some o → o.data = .fields vs → a ∉ frs (X.env :: X.outer) := fun {h o vs} ff e dd hm => by
      obtain ⟨_, o', e', hnf⟩ := ff.mem hm
      rw [e] at e'; cases e'
      exact hnf _ dd
    obtain ⟨oe3, vs3, he3, hz3, hd3⟩ := fl3.there
    have nfr := notFr fl3.2.2.1 he3 hd3
    have nL : a ≠ X.env.locals := fun z => nfr (List.mem_filterMap.mpr ⟨X.env, List.mem_cons_self, by rw [hf, z]⟩)
    have nI : sI.heap.get? a = none := by
      cases q : sI.heap.get? a with
      | none => rfl
      | some o =>
        have z := nb a o q (by rw [hs]; exact nfr)
        rw [fl3.2.1] at z
        cases z
    have n0 : X.s_0.heap.get? a = none := by
      cases q : X.s_0.heap.get? a with
      | none => rfl
      | some o =>
        obtain ⟨o', z⟩ := J.base.there a o q (by rw [hex]; simp)
        rw [nI] at z
        cases z
    have np : ∀ p ∈ X.pn ++ pins, p.1 ≠ a := fun p hp q => by
      have z := (J.pin p hp).1
      rw [q, nI] at z
      cases z
    have go : ∀ {hds' : List ExceptHandler} {l' : List Hd}, HdsG X hds' l' → wG X.K Wout D l' cls d σ' H' → ∀ h3, HandSPX.FlyingZ B (X.env :: X.outer) a (Zc cls d) h3 → sI.heap.UpToSlots h3 →
        wpAny (model X.prog X.w) X.A (handleBy (.ref a) X.env hds') (SP X pins D) X.xe { s' with heap := h3 } := by
      intro hds' l' hk
      induction hk with
      | nil =>
        intro w h3 fl3 up3
        refine wpAny_handleBy_nil ?_
        obtain ⟨k1, k2, k3, oe, vs, T, oT, ts', he, hz, hd, h1, hr⟩ := id fl3
        unfold PySem.passOn
        refine wpAny_bind (wpAny_field he hd h1 ?_)
        rw [if_neg (show ¬ ((Value.ref T == Value.none) = true) from by simp)]
        have fin : wpAny (model X.prog X.w) X.A (setFlight (.ref a) X.env.frame) (fun _ s4 => wpAny (model X.prog X.w) X.A (throw (.ref a) : Sem Flow) (SP X pins D) X.xe s4) X.xe { s' with heap := h3 } := by
          rw [hf]
          refine HandSPX.setFlight_upZ fl3 fun h4 hh4 up4 => wpAny_throw (tk _ _ ?_)
          exact ⟨a, B, sI, pins, σ', H', cls, d, rfl, J, nb, up3.trans up4, .inr (.inr (by rw [hs]; exact hh4)), na, os, ag, w⟩
        first
          | exact wpAny_bind (wpAny_pure (wpAny_bind fin))
          | exact wpAny_bind fin
      | @plain t cs ts b₀ suite pos' hds2 l2 ht hsu r ih =>
        intro w h3 fl3 up3
        obtain ⟨b, hb1, hyes, hno⟩ := w
        have J3 : Inv X pins σ' H' { s' with heap := h3 } := J.landed nb fl3.1 up3 os ag
        obtain ⟨oe3, vs3, he3, hz3, hd3⟩ := fl3.there
        refine wpAny_handleBy_cons (codeAny_handlers_test ?_) (by intro q; cases q)
        have LT : PySem.W.Looks (model X.prog X.w) h3 (typeOf (.ref a)) cls := fun A Q E s k q => wpAny_typeOf_ref (k _ _ he3) (by rw [hz3.1]; exact q)
        refine test_run' (testQs (a := a) ht) (invQs J3 a) LT hb1 fun h4 k4 => ?_
        have fl4 := fly_keeps k4 fl3
        have up4 : sI.heap.UpToSlots h4 := up3.trans (.of_keeps k4)
        cases b with
        | true =>
          refine codeAny_handlers_suite ?_
          refine HandSPX.lands_againZ fl4 fun h5 fl5 up5 => ?_
          have J5 : Inv X pins σ' H' { s' with heap := h5 } := J.landed nb fl5.1 (up4.trans up5) os ag
          refine wpAny_mono ((hsu a).run pins _ _ H' _ (invQs J5 a) (hyes rfl)) (fun f s6 hsp => ?_) (fun _ _ z => False.elim z)
          cases f with
          | next =>
            obtain ⟨σ6, H6, S6, q6⟩ := hsp
            exact ⟨_, _, unQs S6 ok, q6⟩
          | brk =>
            obtain ⟨σ6, H6, S6, q6⟩ := hsp
            exact ⟨_, _, unQs S6 ok, q6⟩
          | cont =>
            obtain ⟨σ6, H6, S6, q6⟩ := hsp
            exact ⟨_, _, unQs S6 ok, q6⟩
          | ret u =>
            obtain ⟨v6, σ6, H6, S6, r6, q6⟩ := hsp
            exact ⟨_, _, _, unQs S6 ok, r6, q6⟩
        | false =>
          show wpAny _ X.A (handleBy (.ref a) X.env hds2) _ _ _
          exact ih (hno rfl) h4 fl4 up4
      | @named t cs ts b₀ suite pos' hds2 l2 i n hi hln ht hsu r ih =>
        intro w h3 fl3 up3
        obtain ⟨b, hb1, hyes, hno⟩ := w
        have J3 : Inv X pins σ' H' { s' with heap := h3 } := J.landed nb fl3.1 up3 os ag
        obtain ⟨oe3, vs3, he3, hz3, hd3⟩ := fl3.there
        refine wpAny_handleBy_cons (codeAny_handlers_test ?_) (by intro q; cases q)
        have LT : PySem.W.Looks (model X.prog X.w) h3 (typeOf (.ref a)) cls := fun A Q E s k q => wpAny_typeOf_ref (k _ _ he3) (by rw [hz3.1]; exact q)
        refine test_run' (testQs (a := a) ht) (invQs J3 a) LT hb1 fun h4 k4 => ?_
        have fl4 := fly_keeps k4 fl3
        have up4 : sI.heap.UpToSlots h4 := up3.trans (.of_keeps k4)
        cases b with
        | true =>
          refine codeAny_handlers_suite_as ?_
          refine HandSPX.lands_againZ fl4 fun h5 fl5 up5 => ?_
          have J5 : Inv X pins σ' H' { s' with heap := h5 } := J.landed nb fl5.1 (up4.trans up5) os ag
          obtain ⟨oe5, vs5, he5, hz5, hd5⟩ := fl5.there
          obtain ⟨C, ec, hy⟩ := hyes rfl
          have J6 := inv_track (d := d) (invQs J5 a) he5 (by rw [← ec]; exact hz5.1) hz5.2 hd5 na n0 nL np
          refine store_ok (X := Qs X a) (v := .ref a) J6 hN hi (.inl hln) rfl (fun s5 S5 => ?_) (.inr hln)
          refine wpAny_mono ((hsu a).run pins s5 _ _ _ S5 (hy a na)) (fun f s6 hsp => ?_) (fun _ _ z => False.elim z)
          have end_ : ∀ {σ6 : L2.St} {H6 : Hp} {Q : Shared → Prop}, Inv (Qs X a) pins σ6 H6 s6 → (∀ s7, Inv X pins (σ6.set i none) H6 s7 → Q s7) →
              wpAny (model X.prog X.w) X.A (do bindName X.env n .none; unbindBehindTheSuite X.env n pos') (fun _ s7 => Q s7) X.xe s6 := fun {σ6 H6 Q} S6 hq => gone_ok (unQs S6 ok) hN hi hln hq
          cases f with
          | next =>
            obtain ⟨σ6, H6, S6, q6⟩ := hsp
            exact end_ S6 fun s7 J7 => ⟨_, _, J7, q6⟩
          | brk =>
            obtain ⟨σ6, H6, S6, q6⟩ := hsp
            exact end_ S6 fun s7 J7 => ⟨_, _, J7, q6⟩
          | cont =>
            obtain ⟨σ6, H6, S6, q6⟩ := hsp
            exact end_ S6 fun s7 J7 => ⟨_, _, J7, q6⟩
          | ret u =>
            obtain ⟨v6, σ6, H6, S6, r6, q6⟩ := hsp
            exact end_ S6 fun s7 J7 => ⟨_, _, _, J7, r6, q6⟩
        | false =>
          show wpAny _ X.A (handleBy (.ref a) X.env hds2) _ _ _
          exact ih (hno rfl) h4 fl4 up4
    exact go hh w h3 fl3 (up.trans up3)
  · cases f with
    | next =>
      obtain ⟨σ', H', J', q⟩ := hsp
      exact wpAny_execs_nil ⟨σ', H', J'.ofTry ok, q⟩
    | brk =>
      obtain ⟨σ', H', J', q⟩ := hsp
      exact ⟨σ', H', J'.ofTry ok, q⟩
    | cont =>
      obtain ⟨σ', H', J', q⟩ := hsp
      exact ⟨σ', H', J'.ofTry ok, q⟩
    | ret u =>
      obtain ⟨v, σ', H', J', r, q⟩ := hsp
      exact ⟨v, σ', H', J'.ofTry ok, r, q⟩
end
end Pk

/-! The data layer, part QG: try, over data. -/
namespace Pk
open PySem PySem.Spec PyProof.Rows L2
def sCatch : List (List Nat × Option Nat × WS) → DEnds → Exc → Slots → Sto → Prop
  | [], De, x, ρ, μ => De.ex x ρ μ
  | (cs, nm, ws) :: r, De, x, ρ, μ => match memB x.c cs with
    | true => match nm with
      | none => ws ⟨De.nx, De.rt, De.bk, De.ct, fun _ _ _ => False⟩ ρ μ
      | some i => ws ⟨fun ρ' μ' => De.nx (ρ'.set i none) μ', De.rt, fun ρ' μ' => De.bk (ρ'.set i none) μ', fun ρ' μ' => De.ct (ρ'.set i none) μ', fun _ _ _ => False⟩ (ρ.set i (some (.err x.c x.fs))) μ
    | false => sCatch r De x ρ μ
def sTry (all : List Nat) (wb : WS) (hds : List (List Nat × Option Nat × WS)) : WS := fun De ρ μ => wb { De with ex := fun x ρ' μ' => match memB x.c all with
  | true => sCatch hds De x ρ' μ'
  | false => False } ρ μ
inductive HdsD (X : Cx) (z : Zx) (all : List Nat) : List ExceptHandler → List (List Nat × Option Nat × WS) → Prop
  | nil : HdsD X z all [] []
  | plain {t : Expr} {cs : List Value} {ns : List Nat} {ws : WS} {b₀ : Stmt} {suite : List Stmt} {pos' : Pos} {hds : List ExceptHandler} {l : List (List Nat × Option Nat × WS)} (ht : TestE X t cs)
      (hm : ∀ c, memB c all = true → PySem.W.exmAny X.K (.ref (z.T.ca c)) cs = some (memB c ns)) (hsu : ∀ a : Addr, DSs (Qs X a) z (b₀ :: suite) ws) (r : HdsD X z all hds l) : HdsD X z all (.ExceptHandler (some t) none (b₀ :: suite) pos' :: hds) ((ns, none, ws) :: l)
  | named {t : Expr} {cs : List Value} {ns : List Nat} {ws : WS} {b₀ : Stmt} {suite : List Stmt} {pos' : Pos} {hds : List ExceptHandler} {l : List (List Nat × Option Nat × WS)} {i : Nat} {n : Str} (hi : X.N[i]? = some n) (hln : X.env.kindOf n = some .local) (ht : TestE X t cs)
      (hm : ∀ c, memB c all = true → PySem.W.exmAny X.K (.ref (z.T.ca c)) cs = some (memB c ns)) (hsu : ∀ a : Addr, DSs (Qs X a) z (b₀ :: suite) ws) (r : HdsD X z all hds l) : HdsD X z all (.ExceptHandler (some t) (some n) (b₀ :: suite) pos' :: hds) ((ns, some i, ws) :: l)
/-- another ground -/
theorem Sim.rebase {K : PySem.W.Frag} {T : Tab} {F0 F F' H0 : Hp} {m0 m m' : List Addr} {μ μ' : Sto} {ρ ρ' : Slots} {σ σ' : L2.St} {H H' : Hp} (S : Sim K T F0 m0 H0 F m μ ρ σ H) (B : Sim K T F m H F' m' μ' ρ' σ' H') : Sim K T F0 m0 H0 F' m' μ' ρ' σ' H' :=
  ⟨S.ext.trans B.ext, B.same, B.len, B.nd, B.al, B.sto, B.sl, B.slot, B.tabs⟩
theorem Sim.ground {K : PySem.W.Frag} {T : Tab} {F0 F H0 : Hp} {m0 m : List Addr} {μ : Sto} {ρ : Slots} {σ : L2.St} {H : Hp} (S : Sim K T F0 m0 H0 F m μ ρ σ H) : Sim K T F m H F m μ ρ σ H :=
  ⟨Ext.refl _ _ _, S.same, S.len, S.nd, S.al, S.sto, S.sl, S.slot, S.tabs⟩
section
variable {X : Cx} {z : Zx} {all : List Nat} {body : List Stmt} {h₀ : ExceptHandler} {hds : List ExceptHandler} {l : List (List Nat × Option Nat × WS)} {pos : Pos} {wb : WS}
theorem Sim.unset {K : PySem.W.Frag} {T : Tab} {F0 F H0 : Hp} {m0 m : List Addr} {μ : Sto} {ρ : Slots} {σ : L2.St} {H : Hp} (S : Sim K T F0 m0 H0 F m μ ρ σ H) (i : Nat) : Sim K T F0 m0 H0 F m μ (ρ.set i none) (σ.set i none) H :=
  S.slots (by simpa using S.sl) fun j d e => by
    by_cases hj : i = j
    · subst hj
      by_cases hl : i < ρ.length
      · rw [List.getElem?_set_self hl] at e
        cases e
      · rw [List.getElem?_eq_none (by simpa using hl)] at e
        cases e
    · rw [List.getElem?_set_ne hj] at e
      obtain ⟨v, h1, h2⟩ := S.slot j d e
      exact ⟨v, by rw [List.getElem?_set_ne hj]; exact h1, h2⟩
theorem takesX {Y : Cx} {K : PySem.W.Frag} : Takes Y (XW K z fun _ _ _ => False) := takes0.imp fun _ _ _ _ h => by
  obtain ⟨_, _, _, _, _, _, _, h⟩ := h
  exact h
def hdOf (K : PySem.W.Frag) (z : Zx) (cs : List Value) (nm : Option Nat) (ws : WS) : Hd := ⟨cs, nm, tDS K z (fun _ _ _ => False) ws⟩
theorem catch_ok {Wd : WXd} {De : DEnds} {D : Ends} {F : Hp} {m : List Addr} {μ : Sto} {ρ : Slots} {σ : L2.St} {H : Hp} (S : SimZ X.K z F m μ ρ σ H) (ex : De.ex = Wd) (k : FinS X.K z F m H De D) :
    ∀ {hds : List ExceptHandler} {l : List (List Nat × Option Nat × WS)}, HdsD X z all hds l → ∃ L : List Hd, HdsG X hds L ∧ ∀ x cls d F' m' μ' ρ' σ' H', memB x.c all = true → SimZ X.K ⟨z.T, F, m, H⟩ F' m' μ' ρ' σ' H' → XRep X.K z.T F' m' H' x cls d → sCatch l De x ρ' μ' → wG X.K (XW X.K z Wd) D L cls d σ' H'
  | _, _, .nil => ⟨[], .nil, fun x cls d F' m' μ' ρ' σ' H' hm S' xr q => ⟨F', m', μ', ρ', x, S.rebase S', xr, by rw [← ex]; exact q⟩⟩
  | _, _, .plain (cs := cs) (ns := ns) (ws := ws) ht hm hsu r => by
    obtain ⟨L, hL, ih⟩ := catch_ok S ex k r
    refine ⟨hdOf X.K z cs none ws :: L, .plain ht (fun a => hsu a _ takesX) hL, fun x cls d F' m' μ' ρ' σ' H' hx S' xr q => ?_⟩
    obtain ⟨ec, _⟩ := id xr
    refine ⟨memB x.c ns, by rw [ec]; exact hm _ hx, fun hb => ?_, fun hb => ?_⟩
    · unfold sCatch at q
      rw [hb] at q
      have kk := k.on S'.ext
      exact ⟨F', m', μ', ρ', _, S.rebase S', q, rfl, ⟨kk.nx, kk.rt, kk.bk, kk.ct⟩⟩
    · unfold sCatch at q
      rw [hb] at q
      exact ih x cls d F' m' μ' ρ' σ' H' hx S' xr q
  | _, _, .named (cs := cs) (ns := ns) (ws := ws) (i := i) hi hln ht hm hsu r => by
    obtain ⟨L, hL, ih⟩ := catch_ok S ex k r
    refine ⟨hdOf X.K z cs (some i) ws :: L, .named hi hln ht (fun a => hsu a _ takesX) hL, fun x cls d F' m' μ' ρ' σ' H' hx S' xr q => ?_⟩
    obtain ⟨ec, vs, ef, rf⟩ := id xr
    refine ⟨memB x.c ns, by rw [ec]; exact hm _ hx, fun hb => ⟨_, ec, fun a na => ?_⟩, fun hb => ?_⟩
    · unfold sCatch at q
      rw [hb] at q
      have q := q
      obtain ⟨x1, S1⟩ := (S.rebase S').new na (excH a (z.T.ca x.c) d)
      have r1 : Rep X.K z.T (upd F' a (excH a (z.T.ca x.c) d)) m' (.err x.c x.fs) (.ref a) := .err upd_same (ef.mono x1.gr.fr) (rf.mono x1.gr)
      have kk := k.on (S'.ext.trans x1)
      exact ⟨_, m', μ', _, _, S1.set r1, q, rfl, ⟨fun F4 m4 μ4 ρ4 σ4 H4 x4 S4 q4 => kk.nx _ _ _ _ _ _ x4 (S4.unset i) q4, kk.rt, fun F4 m4 μ4 ρ4 σ4 H4 x4 S4 q4 => kk.bk _ _ _ _ _ _ x4 (S4.unset i) q4, fun F4 m4 μ4 ρ4 σ4 H4 x4 S4 q4 => kk.ct _ _ _ _ _ _ x4 (S4.unset i) q4⟩⟩
    · unfold sCatch at q
      rw [hb] at q
      exact ih x cls d F' m' μ' ρ' σ' H' hx S' xr q
end
end Pk

/-! The data layer, part QH: what is asked of a caught error: its class, what it keeps. -/
namespace Pk
open PySem PySem.Spec PyProof.Rows L2
section
variable {Y : Cx} {z : Zx}
/-- the caught error's object -/
theorem err_at {pins : List (Addr × Obj)} {σ : L2.St} {H : Hp} {s : Shared} {F : Hp} {a : Addr} {C : Addr} {d : Option Addr} {fn : List Str} {vs : List V} (I : Inv Y pins σ H s) (sm : Same F H) (h : F a = some (excH a C d)) (ef : ErrF F d fn vs) :
    ∃ oe od, PySem.W.InstAt s.heap a oe C od ∧ ((fn = [] ∧ vs = [] ∧ od = none) ∨ ∃ (dd : Addr) (o : Obj) (mA : Str → Option Value), od = some o ∧ s.heap.get? dd = some o ∧ s.heap.Ns1 dd mA ∧ fn.length = vs.length ∧ ∀ f, RelO ((fn.zip vs).lookup f) (mA f)) := by
  have hx : ObjOk Y.prog Y.w H s.heap a (.ext fun h => ∃ (oe : Obj) (vs : Array Value), h.get? a = some oe ∧ oe.cls = .ref C ∧ oe.dict = d ∧ oe.data = .fields vs) := I.hok a _ (sm _ _ h)
  obtain ⟨⟨oe, us, h1, h2, h3, h4⟩, _⟩ := hx
  have nc : PySem.W.notCls oe = true := by unfold PySem.W.notCls; rw [h4] <;> rfl
  rcases ef with ⟨e1, e2, e3⟩ | ⟨dd, e1, e2, e3⟩
  · subst e3
    exact ⟨oe, none, ⟨h1, h2, nc, by rw [h3]; trivial⟩, .inl ⟨e1, e2, rfl⟩⟩
  · subst e1
    have hd : ObjOk Y.prog Y.w H s.heap dd (.xd (fn.zip vs)) := I.hok dd _ (sm _ _ e2)
    obtain ⟨mA, hns, hr⟩ := hd
    obtain ⟨o, ho, _⟩ := lookIn_ns hns
    exact ⟨oe, some o, ⟨h1, h2, nc, by rw [h3]; exact ho⟩, .inr ⟨dd, o, mA, rfl, ho, hns, e3, hr⟩⟩
/-- what the written part says of the class c's errors -/
structure ErrQ (K : PySem.W.Frag) (D : Addr) : Prop where
  hg : PySem.W.findIn K (.ref D) "__getattribute__" = some (some (.builtin "BaseException.__getattribute__"))
  hk : PySem.W.findIn K (.ref D) "__getattr__" = some none
  hs : PySem.W.subIn K (.ref D) (.type "BaseException") = some true
  hd : PySem.W.hasDictIn K D = true
  ha : PySem.W.findIn K (.ref D) "__class__" = some (some (.builtin "object.__class__"))
  hn : PySem.W.specialIn K (.builtin "object.__class__") "__get__" = some (some (.builtin "getset_descriptor.__get__"))
  ht : PySem.W.takesIn K (.builtin "object.__class__") = some true
  hm : PySem.W.mroIn K D (.type "object") = some true
/-- isinstance(e, C) -/
def wIsE (all ns : List Nat) (w : WE) : WE := fun ρ μ Q E => w ρ μ (fun x μ1 => match x with
  | .err c _ => match memB c all with
    | true => Q (.bl (memB c ns)) μ1
    | false => False
  | _ => False) E
theorem de_isE {all ns : List Nat} {w : WE} {e e2 : Expr} {p pos : Pos} {t : V} {tv : Value} (hq : ∀ c, memB c all = true → ErrQ Y.K (z.T.ca c)) (hk : ∀ c, memB c all = true → PySem.W.kitOne Y.K (.ref (z.T.ca c)) tv = some (memB c ns)) (ht : ∀ u, RelV t u → u = tv) (he : DE Y z e w) (h2 : PE Y e2 (tC t))
    (hm : Y.mg "isinstance" = none) (hg : Gl Y "isinstance" := by rfl) (hs : starEach [e, e2] Y.env = (false, eval e Y.env) :: starEach [e2] Y.env := by rfl) (hpl : (backTo pos (starEach [e2] Y.env)).any (·.1) = false := by rfl) (hs2 : starEach [e2] Y.env = (false, eval e2 Y.env) :: starEach [] Y.env := by rfl) :
    DE Y z (.Call (.Name "isinstance" p) [e, e2] [] pos) (wIsE all ns w) := fun Wd tk => by
  refine ⟨fun pins s σ H Q I ⟨F, m, μ, ρ, Qd, S, h, k⟩ => ?_⟩
  refine wpAny_Call_Name_kw (ld_blt I hg hm (show bootBuiltins ("isinstance" : Str) = some (.builtin "isinstance") by first | rfl | decide +kernel | kernel_rfl) ?_ (by decide) (by decide))
  refine PyProof.Rows.callWith_builtin1 (thn ((pa_cons (he Wd tk) (pa_cons h2 pa_nil hs2) hs).run pos pins s σ H (fun vs H1 => ∃ F1 m1 μ1 d1 v1, vs = [v1, t] ∧ Ext F m H F1 m1 H1 ∧ SimZ Y.K z F1 m1 μ1 ρ σ H1 ∧ Rep Y.K z.T F1 m1 d1 v1 ∧ (match d1 with
      | .err c _ => match memB c all with
        | true => Qd (.bl (memB c ns)) μ1
        | false => False
      | _ => False)) I ⟨F, m, μ, ρ, _, S, h, fun F1 m1 μ1 d1 v1 H1 x1 S1 r1 q1 => ⟨F1, m1, μ1, d1, v1, rfl, x1, S1, r1, q1⟩⟩) fun us s1 ⟨vs, H1, I1, r1, F1, m1, μ1, d1, v1, ev, x1, S1, rp, q1⟩ => ?_) hs hpl
  subst ev
  split at q1
  · rename_i c fs
    split at q1
    · rename_i hc
      cases rp with
      | @err _ _ vs a d h1 h3 h4 =>
        obtain ⟨u1, u2, rfl, r2, r3⟩ := vals2 r1
        obtain rfl : u1 = Value.ref a := r2
        have e2 := ht _ r3
        subst e2
        obtain ⟨oe, od, J, _⟩ := err_at I1 S1.same h1 h3
        have q := hq c hc
        exact PySem.W.kia_one (PySem.W.kitx_exc (ox := oe) (od := od) (by obtain ⟨cd, hc, _⟩ := PySem.W.any_some q.hd; rw [hc] <;> rfl) q.hg q.hk q.hs q.ha q.hn q.ht q.hm) I1.kIn J (hk c hc) (fun z => nomatch z) fun tk => ⟨.bl _, H1, I1.tok tk, rfl, k _ _ _ _ _ _ x1 S1 .bl q1⟩
    · exact q1.elim
  · exact q1.elim
/-- e.f -/
def lookN (c : Nat) : List (Nat × Nat) → Option Nat
  | [] => none
  | (x, j) :: r => match Nat.beq x c with
    | true => some j
    | false => lookN c r
def wErF (ix : List (Nat × Nat)) (w : WE) : WE := fun ρ μ Q E => w ρ μ (fun x μ1 => match x with
  | .err c fs => match lookN c ix with
    | some j => match nthG fs j with
      | some d => Q d μ1
      | none => False
    | none => False
  | _ => False) E
theorem de_erf {ix : List (Nat × Nat)} {w : WE} {e : Expr} {f : Str} {pos : Pos} (hq : ∀ c j, lookN c ix = some j → ErrQ Y.K (z.T.ca c) ∧ PySem.W.findIn Y.K (.ref (z.T.ca c)) f = some none ∧ fldIx f (z.T.fn c) = some j) (he : DE Y z e w) (hb : attributeBase e f Y.env (eval e Y.env) = eval e Y.env := by rfl) :
    DE Y z (.Attribute e f pos) (wErF ix w) := fun Wd tk => by
  refine ⟨fun pins s σ H Q I ⟨F, m, μ, ρ, Qd, S, h, k⟩ => ?_⟩
  refine attr_of hb (thn ((he Wd tk).run pins s σ H (fun v H1 => ∃ F1 m1 μ1 d1, Ext F m H F1 m1 H1 ∧ SimZ Y.K z F1 m1 μ1 ρ σ H1 ∧ Rep Y.K z.T F1 m1 d1 v ∧ (match d1 with
      | .err c fs => match lookN c ix with
        | some j => match nthG fs j with
          | some d => Qd d μ1
          | none => False
        | none => False
      | _ => False)) I ⟨F, m, μ, ρ, _, S, h, fun F1 m1 μ1 d1 v1 H1 x1 S1 r1 q1 => ⟨F1, m1, μ1, d1, x1, S1, r1, q1⟩⟩) fun u s1 ⟨v, H1, I1, r1, F1, m1, μ1, d1, x1, S1, rp, q1⟩ => ?_)
  split at q1
  · rename_i c fs
    split at q1
    · rename_i j hj
      split at q1
      · rename_i d hd
        obtain ⟨q, hno, hix⟩ := hq c j hj
        cases rp with
        | @err _ _ vs a dd h1 h3 h4 =>
          obtain rfl : u = Value.ref a := r1
          obtain ⟨oe, od, J, hh⟩ := err_at I1 S1.same h1 h3
          rw [nthG_eq] at hd
          obtain ⟨w, hw, rw'⟩ := fld_get hix h4 hd
          rcases hh with ⟨e1, _, _⟩ | ⟨da, o, mA, eo, ho, hns, hl, hr⟩
          · rw [e1] at hix
            cases hix
          · subst eo
            obtain ⟨o2, ho2, hl2⟩ := lookIn_ns hns
            rw [ho] at ho2
            cases ho2
            obtain ⟨u, hu, ru⟩ := RelO.some_of (v := w) (o := mA f) (by rw [← hw]; exact hr f)
            exact HandSPX.exc_get I1.kIn J q.hg q.hk q.hs (PySem.W.findObj_own q.hd hno rfl (by rw [hl2, hu])) (handed_of ru) ⟨w, H1, I1.tok _, ru, k _ _ _ _ _ _ x1 S1 rw' q1⟩
      · exact q1.elim
    · exact q1.elim
  · exact q1.elim
end
end Pk

/-! The data layer, part QI: defs called within an except suite; they raise nothing. -/
namespace Pk
open PySem PySem.Spec PyProof.Rows L2
structure RoomQ (k : Nat) (A : Around) : Prop where
  dp : A.depth + 3 * k + 5 < recursionLimit
  un : A.units + 16 * k + 200 < cLine
  g : A.guards = some []
theorem RoomQ.mono {j k : Nat} {A : Around} (r : RoomQ k A) (h : j ≤ k) : RoomQ j A := ⟨by have := r.dp; omega, by have := r.un; omega, r.g⟩
theorem RoomQ.deeper {k : Nat} {A : Around} (r : RoomQ (k + 1) A) (env : Env) : RoomQ k (A.deeper env) :=
  ⟨by have := r.dp; show A.depth + 1 + 3 * k + 5 < _; omega, by have := r.un; show A.units + 3 + 16 * k + 200 < _; omega, r.g⟩
theorem roomQ_of {k : Nat} {A : Around} (r : Room k A) : RoomQ k A := ⟨r.dp, r.un, r.g⟩
theorem RoomQ.mark {k : Nat} {A : Around} (r : RoomQ k A) (v : Option Value) : RoomQ k (A.mark v) := ⟨r.dp, r.un, r.g⟩
structure FnQ (P : Program) (w : World) (K : PySem.W.Frag) (mg : Str → Option Value) (base : Heap) (CX : CXT) (k : Nat) (f : Addr) (fd : FuncData) (ps : List Str) (sp : Sp) : Prop where
  len : ∀ vs H Q E, sp vs H Q E → vs.length = ps.length
  run : ∀ (A : Around) (outer : List Env) (s : Shared) (H : Hp) (args : Args) (us : List Value) (vs : List V) (Q : VK) (E : XK), RoomQ k A → Env0 P w K mg base A outer s H → BindsTo s fd args (ps.zip us) → Vals vs us → sp vs H Q E →
    codeAny (model P w) A (.call (.ref f) args) (CR CX outer P w H s Q E) s
abbrev cxQ (CX : CXT) (P : Program) (w : World) (K : PySem.W.Frag) (mg : Str → Option Value) (base : Heap) (N : List Str) (qual : Str) (scope : Scope) (f : Addr) (cd : Value) (A : Around) (outer : List Env) (s : Shared) (H : Hp) (E : XK) : Cx :=
  { cxOf CX P w K mg base N qual scope f cd A outer s H E with calm := false }
theorem inv_startQ {CX : CXT} {P : Program} {w : World} {K : PySem.W.Frag} {mg : Str → Option Value} {base : Heap} {N ps : List Str} {qual : Str} {scope : Scope} {f : Addr} {cd : Value} {A : Around} {outer : List Env} {s s1 : Shared} {H : Hp} {E : XK} {us : List Value} {vs : List V}
    (S : FnScope N ps scope) (e0 : Env0 P w K mg base A outer s H) (hl : vs.length = ps.length) (r : Vals vs us)
    (x : InCallC s s.heap.objs.size (bindL (envOfC qual scope s.heap.objs.size f cd).kindOf (ps.zip us) fun _ => none) (cellsFrom (s.heap.objs.size + 1) scope.names []) (bindC (envOfC qual scope s.heap.objs.size f cd).kindOf (ps.zip us) fun _ => none) s1) :
    Inv (cxQ CX P w K mg base N qual scope f cd A outer s H E) [] (L2.start N vs) H s1 := by
  have hpl : ps.length ≤ N.length := by have := congrArg List.length S.pre; rw [List.length_take] at this; omega
  obtain ⟨h1, tk, rfl, hk⟩ := x.done
  have noA : ∀ b : Addr, b ∉ (cxQ CX P w K mg base N qual scope f cd A outer s H E).ex := fun b z => absurd (show b ∈ ([] : List Addr) from z) (by simp)
  refine ⟨⟨e0.mod, S.kind, rfl, rfl, Nat.le_refl _, fun y z c h1 h2 => ?_, fun y hy => ?_, fun y c _ h => ?_, (fun z => Bool.noConfusion (show false = true from z)), Around.frames_deeper e0.frames, .inr ⟨rfl, rfl⟩, fun b z => absurd z (noA b), e0.bs, e0.bsz, fun b _ _ => noA b, fun b z => absurd z (noA b), e0.funs, e0.frf⟩,
    rfl, e0.bare, Un.kept hk, ⟨_, x.toInCall.ns, fun i y v h1 h2 h3 => ?_⟩, fun y c h => ⟨_, x.cell y c h⟩, e0.hok.fresh (Nat.le_refl _), fun y c h => ?_, fun q hq => absurd (show q ∈ ([] : List (Addr × Obj)) ++ [] from hq) (by simp), e0.hok.kept hk, ?_⟩
  · exact name_of_addr x.apart (PySem.mem_of_lookup h1) (PySem.mem_of_lookup h2)
  · have hy : scope.names.lookup y = some .cell ∨ scope.names.lookup y = some .free := hy
    rcases hy with hy | hy
    · exact cell_has hy
    · exact absurd rfl (S.nofree _ (PySem.mem_of_lookup hy))
  · exact Nat.le_of_lt (x.above y c (PySem.mem_of_lookup h))
  · have hi : i < vs.length := by
      unfold L2.start at h2
      by_cases hi : i < vs.length
      · exact hi
      · rw [List.getElem?_append_right (by simpa using hi)] at h2
        rw [List.getElem?_replicate] at h2
        split at h2 <;> cases h2
    have ha : vs[i]? = some v := by
      unfold L2.start at h2
      rw [List.getElem?_append_left (by simpa using hi), List.getElem?_map] at h2
      cases e : vs[i]? with
      | none => rw [e] at h2; cases h2
      | some a => rw [e] at h2; cases h2; rfl
    obtain ⟨u, hu, rv⟩ := r.get ha
    have hp : ps[i]? = some y := by
      rw [← S.pre, List.getElem?_take_of_lt (by omega)]; exact h1
    have ndP : ps.Nodup := by rw [← S.pre]; exact S.nd.sublist (List.take_sublist _ _)
    refine ⟨u, rv, ?_⟩
    rcases S.par y (List.mem_of_getElem? hp) with k | k
    · exact .inl ⟨k, bindL_get ndP hp hu k⟩
    · obtain ⟨c, e⟩ := cell_has (n := s.heap.objs.size + 1) k
      refine .inr ⟨.inl k, c, e, ?_⟩
      have q := x.cell y c e
      rw [bindC_get ndP hp hu (by show scope.names.lookup y ≠ _; rw [k]; decide)] at q
      exact q
  · exact e0.hok.fresh (Nat.le_of_lt (x.above y c (PySem.mem_of_lookup h)))
  · unfold L2.start
    show _ = N.length
    rw [List.length_append, List.length_map, List.length_replicate]
    omega
theorem fn_ofQ {CX : CXT} {P : Program} {w : World} {K : PySem.W.Frag} {mg : Str → Option Value} {base : Heap} {k : Nat} {f : Addr} {name qual : Str} {params : Arguments} {body : List Stmt} {scope : Scope} {dV kV doc pm cdv ct oc : Value} {an od : Option Addr}
    {osl : Array (Option Value)} {N ps : List Str} {sp : Sp} (lk : K.lookup f = some ⟨oc, od, .func (PySem.W.fnOf name qual params body scope dV kV doc pm an cdv ct), osl⟩) (hcd : PySem.W.codeIn K cdv qual = true) (S : FnScope N ps scope)
    (len : ∀ vs H Q E, sp vs H Q E → vs.length = ps.length)
    (hbody : ∀ (A : Around) (outer : List Env) (s : Shared) (H : Hp) (vs : List V) (Q : VK) (E : XK), RoomQ k (A.deeper (envOfC qual scope s.heap.objs.size f cdv)) → sp vs H Q E →
      ∃ t, PSs (cxQ CX P w K mg base N qual scope f cdv A outer s H E) body t ∧ t { nx := fun _ H' => Q .non H', rt := Q } (L2.start N vs) H) :
    FnQ P w K mg base CX (k + 1) f (PySem.W.fnOf name qual params body scope dV kV doc pm an cdv ct) ps sp := by
  refine ⟨len, fun A outer s H args us vs Q E hr e0 hb r hsp => ?_⟩
  have hl := len _ _ _ _ hsp
  have KX : K.In s.heap := e0.mod.kin.keeps fun b o e => (e0.bs b o e).1
  have lim : s.heap.NoLimit := e0.mod.nolimit.keeps fun b o e => (e0.bs b o e).1
  have hkind : ∀ y ∈ ps.zip us, scope.names.lookup y.1 = some .local ∨ (scope.names.lookup y.1 = some .cell ∧ ((cellsFrom (s.heap.objs.size + 1) scope.names []).lookup y.1).isSome = true) := fun ⟨n, v⟩ hy => by
    rcases S.par n (List.of_mem_zip hy).1 with q | q
    · exact .inl q
    · exact .inr ⟨q, PySem.W.cellsFrom_some _ _ _ (.inl q)⟩
  refine codeAny_call_function (by have := hr.dp; omega) (KX _ _ lk) rfl S.co S.gen rfl (PySem.W.codeRec_of KX hcd) (hb _ _ _ _ ?_)
  refine wpAny_newFunctionEnv_cells S.kind hkind fun env he s1 x => ?_
  subst he
  refine ⟨lim.keeps x.toInCall.keep, codeAny_func ?_⟩
  obtain ⟨t, ht, hq⟩ := hbody A outer s H vs Q E (hr.deeper _) hsp
  have I : Inv (cxQ CX P w K mg base N qual scope f cdv A outer s H E) [] (L2.start N vs) H s1 := inv_startQ S e0 hl r x
  refine wpAny_mono (ht.run [] s1 (L2.start N vs) H _ I hq) (fun fl s' hs => ?_) fun e s' hs => hs
  have fin : ∀ {σ' : L2.St} {H' : Hp} {v : V} {u : Value}, Inv (cxQ CX P w K mg base N qual scope f cdv A outer s H E) [] σ' H' s' → L2.RelV v u → Q v H' → CE outer P w H s Q u s' :=
    fun {σ' H' v u} J rv q => ⟨v, H', J.os, J.bare, J.base, J.hok, rv, q⟩
  cases fl with
  | ret u =>
    obtain ⟨v, σ', H', J, rv, q⟩ := hs
    exact fin J rv q
  | next =>
    obtain ⟨σ', H', J, q⟩ := hs
    exact fin (v := V.non) (u := Value.none) J rfl q
  | brk =>
    obtain ⟨_, _, _, q⟩ := hs
    exact False.elim q
  | cont =>
    obtain ⟨_, _, _, q⟩ := hs
    exact False.elim q
section
variable {X : Cx} {CX : CXT} {k : Nat} {f : Addr} {fd : FuncData} {ps : List Str} {sp : Sp} {E : L2.St → XK} {x : Str} {p pos : Pos} {e : Expr} {es : List Expr} {t : TA}
theorem run_fnQ {pins : List (Addr × Obj)} {σ : L2.St} {H : Hp} {s : Shared} {Q : VK} {us : List Value} {vs : List V} (Fo : FnQ X.prog X.w X.K X.mg X.base CX k f fd ps sp) (rm : RoomQ k X.A) (bd : Binds X.K fd ps []) (px : PassesAt CX X σ (E σ))
    (I : Inv X pins σ H s) (rv : Vals vs us) (z : sp vs H Q (E σ)) : wpAny (model X.prog X.w) X.A (call (.ref f) us) (EP X pins σ Q) X.xe s := by
  have hl : us.length = ps.length := by rw [← rv.length]; exact Fo.len _ _ _ _ z
  have b := bd s us I.kIn (by rw [List.append_nil]; exact hl)
  rw [List.append_nil] at b
  refine wpAny_call (codeAny_mono (Fo.run X.A X.stack s H ⟨us, []⟩ us vs Q (E σ) rm I.env0 b rv z) fun r t2 => ?_)
  match r with
  | .error er => exact fun q => px pins H s er t2 I q
  | .ok (.ret u) => exact fun q => I.after q
  | .ok .next => exact fun q => q.elim
  | .ok .brk => exact fun q => q.elim
  | .ok .cont => exact fun q => q.elim
theorem pe_callQ (Fo : FnQ X.prog X.w X.K X.mg X.base CX k f fd ps sp) (rm : RoomQ k X.A) (gl : Gl X x) (hm : X.mg x = some (.ref f)) (kp : PySem.W.keepIn X.K (.ref f) = true) (bd : Binds X.K fd ps []) (px : ∀ σ, PassesAt CX X σ (E σ))
    (ha : PA X (e :: es) t) (hdb : (x == ("__debug__" : Str)) = false := by decide) (he : starEach (e :: es) X.env = (false, eval e X.env) :: starEach es X.env := by rfl) (hpl : (backTo pos (starEach es X.env)).any (·.1) = false := by rfl) :
    PE X (.Call (.Name x p) (e :: es) [] pos) (tCallS sp E t) where
  run := fun pins s σ H Q I h => wpAny_Call_Name_kw (ld_glob I gl hm (PySem.W.callWith_K (h₀ := X.base) I.ok.mod.kin kp
    (thn (ha.run pos pins s σ H _ I h) fun us s1 ⟨vs, H1, I1, r, q⟩ => ⟨I1.kIn, run_fnQ Fo rm bd (px σ) I1 r q⟩) he hpl) hdb)
end
/-- what a def's facts give -/
abbrev FnCQ (P : Program) (w0 : World) (K : PySem.W.Frag) (mg : Str → Option Value) (base : Heap) (T : Tab) (k : Nat) (f : Addr) (fd : FuncData) (ps : List Str) (c : Con) : Prop := FnQ P w0 K mg base (L2.CX P w0) k f fd ps (spD K T c ps.length)
theorem fn_conQ {P : Program} {w0 : World} {K : PySem.W.Frag} {mg : Str → Option Value} {base : Heap} {T : Tab} {x qual : Str} {params : Arguments} {body : List Stmt} {scope : Scope} {dvs : List V} {kws : List (Str × V)} {f : Addr} {fd : FuncData} {N ps : List Str} {k : Nat} {w : WS} (Fd : FunD K x qual params body scope dvs kws f fd) (S : FnScope N ps scope)
    (hb : ∀ (cdv : Value) (A : Around) (outer : List Env) (s : Shared) (H : Hp) (E : XK) (F0 : Hp) (m0 : List Addr) (H0 : Hp), RoomQ k (A.deeper (envOfC qual scope s.heap.objs.size f cdv)) →
      DSs (cxQ (L2.CX P w0) P w0 K mg base N qual scope f cdv A outer s H E) ⟨T, F0, m0, H0⟩ body w) : FnCQ P w0 K mg base T (k + 1) f fd ps (conB N.length ps.length w) := by
  obtain ⟨_, _, _, _, _, _, _, cdv, _, _, rfl, lk, hcd, _, _⟩ := Fd.ex
  refine fn_ofQ lk hcd S (fun vs H Q E h => ?_) (fun A outer s H vs Q E hr h => ?_)
  · obtain ⟨F, m, μ, ds, Qd, Qx, _, r, hl, _⟩ := h
    rw [← r.length]
    exact hl
  · obtain ⟨F, m, μ, ds, Qd, Qx, S0, r, hl, hc, kd, kx⟩ := h
    have hs := start_slot (N := N) r
    have hc' : w ⟨fun _ μ' => Qd .non μ', Qd, fun _ _ => False, fun _ _ => False, fun x _ μ' => Qx x μ'⟩ (startD N.length ds) μ := by
      unfold conB at hc
      have : Nat.beq ds.length ps.length = true := by rw [hl]; exact Nat.beq_refl _
      rw [this] at hc
      exact hc
    have tk : Takes (cxQ (L2.CX P w0) P w0 K mg base N qual scope f cdv A outer s H E) (XW K ⟨T, F, m, H⟩ fun x _ μ' => Qx x μ') :=
      (takes_of (X := cxQ (L2.CX P w0) P w0 K mg base N qual scope f cdv A outer s H E) rfl rfl rfl rfl).imp fun cls d σ H' ⟨F', m', μ', ρ, x, S', xr, q⟩ => kx F' m' μ' x cls d H' S'.ext S'.bare xr q
    exact ⟨_, hb cdv A outer s H E F m H hr _ tk, F, m, μ, startD N.length ds, _, S0.slots hs.1 hs.2, hc', rfl,
      ⟨fun F' m' μ' ρ' σ' H' x S' q => kd _ _ _ _ _ _ x S'.bare .non q, fun F' m' μ' ρ' σ' d v H' x S' r q => kd _ _ _ _ _ _ x S'.bare r q, fun _ _ _ _ _ _ _ _ q => q.elim, fun _ _ _ _ _ _ _ _ q => q.elim⟩⟩
structure OkQ (P : Program) (w0 : World) (K : PySem.W.Frag) (mg : Str → Option Value) (base : Heap) (T : Tab) (k : Nat) (a : Addr) (ps : List Str) (c : Con) : Prop where
  ok : ∃ fd, FnCQ P w0 K mg base T k a fd ps c ∧ Binds K fd ps [] ∧ PySem.W.keepIn K (.ref a) = true
section
variable {X : Cx} {z : Zx} {k n : Nat} {a : Addr} {ps : List Str} {c : Con} {x : Str} {p pos : Pos} {e : Expr} {es : List Expr} {wa : WA}
theorem c_fnQ (ok : OkQ X.prog X.w X.K X.mg X.base z.T k a ps c) (hr : RoomQ k X.A) (hm : X.mg x = some (.ref a)) (ha : DA X z (e :: es) wa) (hg : Gl X x := by rfl)
    (hdb : (x == ("__debug__" : Str)) = false := by decide) (he : starEach (e :: es) X.env = (false, eval e X.env) :: starEach es X.env := by rfl) (hpl : (backTo pos (starEach es X.env)).any (·.1) = false := by rfl) (hn : ps.length = n := by rfl) : DE X z (.Call (.Name x p) (e :: es) [] pos) (wCallN c n [] wa) := fun Wd tk => by
  subst hn
  obtain ⟨fd, Fc, hb, hk⟩ := ok.ok
  refine peI (pe_callQ (E := fun σ cls d H => XW X.K z Wd cls d σ H) Fc hr hg hm hk hb (fun σ => passAt tk σ) (ha Wd tk) hdb he hpl) fun σ H Q ⟨F, m, μ, ρ, Qd, S, h, kk⟩ => ⟨F, m, μ, ρ, _, S, h, fun F1 m1 μ1 ds vs H1 x1 S1 r1 q1 => ?_⟩
  rw [List.append_nil] at q1
  cases e : Nat.beq ds.length ps.length with
  | false => rw [e] at q1; exact q1.elim
  | true =>
    rw [e] at q1
    exact sp_run S1 r1 (Nat.eq_of_beq_eq_true e) q1 (fun F4 m4 μ4 d4 v4 H4 x4 => kk F4 m4 μ4 d4 v4 H4 (x1.trans x4)) fun F' m' μ' y cls d H' x2 S2 xr q => ⟨F', m', μ', ρ, y, S2, xr, q⟩
end
end Pk

/-! The data layer, part QJ: a lambda without parameters, handed to a def that calls it at its beginning. -/
namespace Pk
open PySem PySem.Spec PyProof.Rows L2
/-! ### states of which more is known -/
abbrev PrE := Hp → List Addr → L2.St → Hp → Prop
def tDp (P : PrE) (K : PySem.W.Frag) (z : Zx) (Wd : WXd) (w : WE) : TE := fun σ H Q => ∃ F m μ ρ Qd, SimZ K z F m μ ρ σ H ∧ P F m σ H ∧ w ρ μ Qd (fun x μ' => Wd x ρ μ') ∧ Fin K z F m H ρ σ Qd Q
def tDSp (P : PrE) (K : PySem.W.Frag) (z : Zx) (Wd : WXd) (w : WS) : TS := fun Dd σ H => ∃ F m μ ρ De, SimZ K z F m μ ρ σ H ∧ P F m σ H ∧ w De ρ μ ∧ De.ex = Wd ∧ FinS K z F m H De Dd
def DEp (P : PrE) (X : Cx) (z : Zx) (e : Expr) (w : WE) : Prop := ∀ Wd, Takes X (XW X.K z Wd) → PE X e (tDp P X.K z Wd w)
def DSp (P : PrE) (X : Cx) (z : Zx) (st : Stmt) (w : WS) : Prop := ∀ Wd, Takes X (XW X.K z Wd) → PS X st (tDSp P X.K z Wd w)
def DSsp (P : PrE) (X : Cx) (z : Zx) (st : List Stmt) (w : WS) : Prop := ∀ Wd, Takes X (XW X.K z Wd) → PSs X st (tDSp P X.K z Wd w)
section
variable {P : PrE} {X : Cx} {z : Zx} {st : Stmt} {rest : List Stmt} {a b : WS} {e tg : Expr} {w : WE} {g : GF} {js : List Nat} {pos : Pos}
theorem dssp_one (h : DSp P X z st a) : DSsp P X z [st] a := fun Wd tk => pssI (pss_one (h Wd tk)) fun _ _ _ q => q
theorem dssp_cons (h : DSp P X z st a) (r : DSs X z rest b) : DSsp P X z (st :: rest) (sSeq a b) := fun Wd tk => pssI (pss_cons (h Wd tk) (r Wd tk)) fun D σ H ⟨F, m, μ, ρ, De, S, p, q, ex, k⟩ =>
  ⟨F, m, μ, ρ, { De with nx := b De }, S, p, q, ex, ⟨fun _ _ _ _ _ _ x S' q => ⟨_, _, _, _, De, S', q, ex, k.on x⟩, k.rt, k.bk, k.ct⟩⟩
theorem dsp_asg (he : DEp P X z e w) (hg : DG X z tg g js) (hs : swapsWithSole [tg] e pos.line X.env = pure false := by rfl) (hw : swappedStores [tg] e X.env = pure none := by rfl)
    (h1 : (assignEach [tg] X.env).map (·.2) = [assign tg X.env] := by rfl) : DSp P X z (.Assign [tg] e pos) (sAsg w g) := fun Wd tk => psI (ps_asg (he Wd tk) hg hs hw h1) fun D σ H ⟨F, m, μ, ρ, De, S, p, q, ex, k⟩ => by
  refine ⟨F, m, μ, ρ, _, S, p, by rw [← ex]; exact q, fun F' m' μ' d v H' x S' r q => ?_⟩
  cases e : g d ρ with
  | none => rw [e] at q; exact q.elim
  | some ρ1 => rw [e] at q; exact ⟨F', m', μ', ρ, d, ρ1, S', r, e, fun _ S2 _ => k.nx _ _ _ _ _ _ x S2 q⟩
/-- try, where the more is known as it begins -/
theorem dsp_try {all : List Nat} {body : List Stmt} {h₀ : ExceptHandler} {hds : List ExceptHandler} {l : List (List Nat × Option Nat × WS)} {wb : WS} (hb : ∀ (pn : List (Addr × Obj)) (xe : Value → Shared → Prop), PassesOwn (model X.prog X.w) X.A X.env xe → ∀ F0 m0 H0, DSsp P (X.tr pn xe) ⟨z.T, F0, m0, H0⟩ body wb)
    (hh : HdsD X z all (h₀ :: hds) l) (hN : X.N.Nodup) (hs : X.stack = X.env :: X.outer := by rfl) (hf : X.env.frame = some X.env.locals := by rfl) (hex : X.ex = [] := by rfl) : DSp P X z (.Try body (h₀ :: hds) [] [] pos) (sTry all wb l) := fun Wd tk => by
  refine ⟨fun pins s σ H D I ⟨F, m, μ, ρ, De, S, p, h, ex, k⟩ => ?_⟩
  obtain ⟨L, hL, hw⟩ := catch_ok S ex k hh
  refine (ps_tryG (Wout := XW X.K z Wd) (tb := fun W D σ H => ∃ F0 m0 H0 Wd', (∀ cls d σ H, XW X.K ⟨z.T, F0, m0, H0⟩ Wd' cls d σ H → W cls d σ H) ∧ tDSp P X.K ⟨z.T, F0, m0, H0⟩ Wd' wb D σ H) hs hf hex hN tk
    (fun W pn xe tkW hp => ⟨fun pins s σ H D I ⟨F0, m0, H0, Wd', himp, ht⟩ => (hb pn xe hp F0 m0 H0 Wd' (tkW.imp himp)).run pins s σ H D I ht⟩) hL).run pins s σ H D I ?_
  refine ⟨F, m, H, fun x ρ' μ' => match memB x.c all with
    | true => sCatch l De x ρ' μ'
    | false => False, fun cls d σ' H' ⟨F', m', μ', ρ', x, S', xr, q⟩ => ?_, F, m, μ, ρ, _, S.ground, p, h, rfl, ⟨fun F' m' μ' ρ' σ' H' x1 S1 q => k.nx _ _ _ _ _ _ x1 (S.rebase S1) q, fun F' m' μ' ρ' σ' d v H' x1 S1 r q => k.rt _ _ _ _ _ _ _ _ x1 (S.rebase S1) r q, fun F' m' μ' ρ' σ' H' x1 S1 q => k.bk _ _ _ _ _ _ x1 (S.rebase S1) q, fun F' m' μ' ρ' σ' H' x1 S1 q => k.ct _ _ _ _ _ _ x1 (S.rebase S1) q⟩⟩
  cases hx : memB x.c all with
  | false => simp only [hx] at q
  | true =>
    simp only [hx] at q
    exact hw x cls d F' m' μ' ρ' σ' H' hx S' xr q
end
/-! ### the table grows -/
theorem Sim.table {K : PySem.W.Frag} {T : Tab} {F0 F H0 : Hp} {m0 m : List Addr} {μ : Sto} {ρ : Slots} {σ : L2.St} {H H1 : Hp} (S : Sim K T F0 m0 H0 F m μ ρ σ H) (e : LamX.ExtN H H1) (t : LamX.Tabs T.tb H1) : Ext F m H F m H1 ∧ Sim K T F0 m0 H0 F m μ ρ σ H1 := by
  have kp : ∀ b o, H b = some o → isTb o = false → H1 b = some o := fun b o h n => e b o h fun ps q => by rw [q] at n; cases n
  have x : Ext F m H F m H1 := ⟨Gr.refl F m, fun b o h w n q => ⟨kp b o h (by cases o <;> first | rfl | cases w), n, q⟩, fun b => ⟨fun a h => kp _ _ h rfl, fun ⟨o, h, n⟩ => ⟨o, kp b o h n, n⟩⟩⟩
  refine ⟨x, S.ext.trans x, fun b o h => kp b o (S.same b o h) (S.tabs.nt b o h), S.len, S.nd, fun a h => (x.up a).2 (S.al a h), fun k a o e1 e2 n => ?_, S.sl, S.slot, ⟨t, S.tabs.nt⟩⟩
  obtain ⟨h1, h2⟩ := S.sto k a o e1 e2 n
  refine ⟨h1, ?_⟩
  cases o with
  | lst ds => obtain ⟨vs, q, r⟩ := h2; exact ⟨vs, kp _ _ q rfl, r⟩
  | dct ds => obtain ⟨vs, q, r⟩ := h2; exact ⟨vs, kp _ _ q rfl, r⟩
  | ins c ds => obtain ⟨dx, vs, q, q2, r⟩ := h2; exact ⟨dx, vs, kp _ _ q rfl, kp _ _ q2 rfl, r⟩
  | fz d => exact h2
  | gone => exact h2
  | dtp ds => obtain ⟨vs, q, r⟩ := h2; exact ⟨vs, kp _ _ q rfl, r⟩
/-! ### what was given is called -/
/-- what the def that calls knows of it: it lies in the slot 0, its code object is known, the things its maker sees still lie -/
def LamP (F1 : Hp) (m1 : List Addr) (f c' : Addr) (q : Str) : PrE := fun F m σ H => σ[0]? = some (some (.ref f)) ∧ H c' = some (LamX.CodeO c' q) ∧ Gr F1 m1 F m
section
variable {X : Cx} {pins : List (Addr × Obj)} {σ : L2.St} {H HZ : Hp} {s s1 : Shared} {A : Around} {outer : List Env} {f c' : Addr} {pm ctv : Value} {params : Arguments} {body : Expr} {scope : Scope} {k : Nat} {E : XK} {Q : VK}
theorem lam_code (I : Inv X pins σ H s) (L : LamX.LamS X.env.scope scope) (hf : s1.heap.get? f = some (PySem.W.kla_obj "<lambda>" (X.env.qual ++ "<lambda>") params body scope (cloFrom X.env.cells scope.names []) pm c' ctv))
    (hbd : bindArgs (PySem.W.kla_fn "<lambda>" (X.env.qual ++ "<lambda>") params body scope (cloFrom X.env.cells scope.names []) pm (.ref c') ctv) ⟨[], []⟩ = pure [])
    (e0 : Env0 X.prog X.w X.K X.mg X.base A outer s1 HZ) (rm : Room (k + 1) A) (un : Un (frs X.stack) [] H HZ s.heap s1.heap) (hc : HZ c' = some (LamX.CodeO c' (X.env.qual ++ "<lambda>")))
    {tb : TE} (hb : Room k (A.deeper (LamX.lamEnv X scope s1.heap.objs.size f c')) → PE (LamX.lamCx X A outer s1 HZ E scope f c') body tb) (h : tb σ HZ Q) :
    codeAny (model X.prog X.w) A (.call (.ref f) ⟨[], []⟩) (CR (L2.CX X.prog X.w) outer X.prog X.w HZ s1 Q E) s1 := by
  have lim : s1.heap.NoLimit := e0.mod.nolimit.keeps fun b o q => (e0.bs b o q).1
  obtain ⟨⟨co, cvs, ct, z1, z2, z3⟩, -, -⟩ := e0.hok c' _ hc
  refine PySem.W.kla_callFunE rm.depth hf rfl L.co L.gen rfl ⟨c', co, cvs, ct, rfl, z1, z2, z3⟩ (hbd ▸ wpAny_pure (wpAny_newFunctionEnv (fun y q => (L.own y q).2) (fun y q => absurd q (by simp)) (fun h1 ns sb => ⟨lim.fresh _ sb, ?_⟩) L.kind))
  have kp : ∀ b o, s1.heap.get? b = some o → h1.get? b = some o := fun b o q => sb.extBut b o (Nat.ne_of_lt (Heap.lt_size q)) (Heap.get?_push_of_some _ q)
  have J := LamX.lam_start2 (E := E) (f := f) (c' := c') (tk := s1.toks + ([] : List (Str × Value)).length) I L e0 rm.hd un ns kp
  exact PySem.W.kla_codeExpr (wpAny_mono ((hb (rm.deeper _)).run [] _ σ HZ Q J h) (fun v s' ⟨y, H', J', r, q⟩ => ⟨y, H', J'.os, J'.bare, J'.base, J'.hok, r, q⟩) fun _ _ q => q)
end
section
variable {X : Cx} {pins : List (Addr × Obj)} {σ : L2.St} {H1 : Hp} {s1 : Shared} {f c' : Addr} {pm ctv : Value} {params : Arguments} {body : Expr} {scope : Scope} {k : Nat} {F1 F0' H0' : Hp} {m1 m0' : List Addr} {μ1 : Sto} {ρ : Slots} {w : WE}
/-- a(), first of all -/
theorem dep_act {z : Zx} {Ng : List Str} {qg a : Str} {sg : Scope} {g : Addr} {cdg : Value} {pn : List (Addr × Obj)} {xe : Value → Shared → Prop} {p1 p2 : Pos} {F0 H0 : Hp} {m0 : List Addr}
    (I : Inv X pins σ H1 s1) (L : LamX.LamS X.env.scope scope) (S : SimZ X.K z F1 m1 μ1 ρ σ H1)
    (hf : s1.heap.get? f = some (PySem.W.kla_obj "<lambda>" (X.env.qual ++ "<lambda>") params body scope (cloFrom X.env.cells scope.names []) pm c' ctv)) (hfn : H1 f = none) (hfr : f ∉ frs X.stack)
    (hbd : bindArgs (PySem.W.kla_fn "<lambda>" (X.env.qual ++ "<lambda>") params body scope (cloFrom X.env.cells scope.names []) pm (.ref c') ctv) ⟨[], []⟩ = pure [])
    (hr : Room (k + 1) (X.A.deeper (envOfC qg sg s1.heap.objs.size g cdg)))
    (hb : ∀ (A : Around) (outer : List Env) (s : Shared) (H : Hp) (E : XK) F0 m0 H0, Room k (A.deeper (LamX.lamEnv X scope s.heap.objs.size f c')) → DE (LamX.lamCx X A outer s H E scope f c') ⟨z.T, F0, m0, H0⟩ body w)
    (hN : Ng[0]? = some a) (hv : Vis sg a) (hd : (a == ("__debug__" : Str)) = false) (hcd : (a == ("__classdict__" : Str)) = false) :
    DEp (LamP F1 m1 f c' (X.env.qual ++ "<lambda>")) ((cxOf C8.CX0 X.prog X.w X.K X.mg X.base Ng qg sg g cdg X.A X.stack s1 H1 C8.E0).tr pn xe) ⟨z.T, F0, m0, H0⟩ (.Call (.Name a p1) [] [] p2) (fun _ μ Q E => w ρ μ Q E) := fun Wd tk => by
  refine ⟨fun pinsZ sZ σZ HZ Q IZ ⟨F, m, μ, ρZ, Qd, SZ, ⟨h0, hc, gr⟩, hw, kk⟩ => ?_⟩
  refine wpAny_Call_Name_kw (thn ((pe_var (pos := p1) (i := 0) hN hv hd hcd).run pinsZ sZ σZ HZ (fun v G => v = .ref f ∧ G = HZ) IZ ⟨.ref f, h0, rfl, rfl⟩) fun u s2 ⟨v, G, I2, r2, ev, eG⟩ => ?_)
  subst ev eG
  cases (show u = Value.ref f from r2)
  have hf2 := I2.base.keep f _ hf hfn hfr fun q => nomatch (show f ∈ ([] : List Addr) from q)
  refine PySem.W.callWith_F0 ⟨_, _, _, _, hf2⟩ (wpAny_call (codeAny_mono (lam_code (X := X) (k := k) (E := fun cls d G' => XW X.K ⟨z.T, F0, m0, H0⟩ Wd cls d σZ G') (Q := Q) (tb := tD X.K ⟨z.T, F, m, G⟩ (fun x _ μ' => Wd x ρZ μ') w) I L hf2 hbd I2.env0 hr I2.base hc (fun rm => ?_) ?_) fun r s3 => ?_))
  · refine hb _ _ _ _ _ F m G rm _ ((takes_of (X := LamX.lamCx X _ _ s2 G (fun cls d G' => XW X.K ⟨z.T, F0, m0, H0⟩ Wd cls d σZ G') scope f c') rfl rfl rfl rfl).imp fun cls d σ' H' ⟨F', m', μ', ρ', x, S', xr, q⟩ => ?_)
    exact ⟨F', m', μ', ρZ, x, SZ.back S'.ext S'.bare, xr, q⟩
  · refine ⟨F, m, μ, ρ, Qd, SZ.entry.slots S.sl fun i d q => ?_, hw, fun F' m' μ' d v H' x S' r q => kk F' m' μ' d v H' x (SZ.back x S'.bare) r q⟩
    obtain ⟨v, q1, q2⟩ := S.slot i d q
    exact ⟨v, q1, q2.mono gr⟩
  · match r with
    | .error er => exact fun q => passAt tk σZ pinsZ G s2 er s3 I2 q
    | .ok (.ret u) => exact fun q => I2.after q
    | .ok .next => exact fun q => q.elim
    | .ok .brk => exact fun q => q.elim
    | .ok .cont => exact fun q => q.elim
end
/-! ### the lambda is handed over -/
def wTold (N : Nat) (wh : WE → WS) (w : WE) : WE := fun ρ μ Q _ => wh (fun _ μ' Q' E' => w ρ μ' Q' E') ⟨fun _ μ' => Q .non μ', Q, fun _ _ => False, fun _ _ => False, fun _ _ _ => False⟩ (List.replicate N none) μ
/-- the def that gets the lambda -/
structure ToldF (P : Program) (w0 : World) (K : PySem.W.Frag) (mg : Str → Option Value) (base : Heap) (T : Tab) (k : Nat) (g : Addr) (x a : Str) (Ng : List Str) (sg : Scope) (wh : WE → WS) : Prop where
  ok : ∃ (pg : Arguments) (bg : List Stmt) (dV kV doc pm cdv ct oc : Value) (an od : Option Addr) (osl : Array (Option Value)),
    K.lookup g = some ⟨oc, od, .func (PySem.W.fnOf x x pg bg sg dV kV doc pm an cdv ct), osl⟩ ∧ PySem.W.codeIn K cdv x = true ∧ L2.Binds K (PySem.W.fnOf x x pg bg sg dV kV doc pm an cdv ct) [a] [] ∧ FnScope Ng [a] sg ∧ Ng[0]? = some a ∧ Vis sg a ∧ PySem.W.keepIn K (.ref g) = true ∧
    ∀ (A : Around) (outer : List Env) (s : Shared) (H : Hp) (P0 : PrE) (wa : WE), Room (k + 1) (A.deeper (envOfC x sg s.heap.objs.size g cdv)) →
      (∀ (pn : List (Addr × Obj)) (xe : Value → Shared → Prop) (p1 p2 : Pos) F0 m0 H0, DEp P0 ((cxOf C8.CX0 P w0 K mg base Ng x sg g cdv A outer s H C8.E0).tr pn xe) ⟨T, F0, m0, H0⟩ (.Call (.Name a p1) [] [] p2) wa) →
      ∀ F0 m0 H0, DSsp P0 (cxOf C8.CX0 P w0 K mg base Ng x sg g cdv A outer s H C8.E0) ⟨T, F0, m0, H0⟩ bg (wh wa)
section
variable {X : Cx} {z : Zx}
theorem de_lam {k n : Nat} {g c P : Addr} {x a : Str} {Ng : List Str} {sg : Scope} {wh : WE → WS} {params : Arguments} {body : Expr} {scope : Scope} {w : WE} {p lpos pos : Pos} (O : ToldF X.prog X.w X.K X.mg X.base z.T k g x a Ng sg wh) (hm : X.mg x = some (.ref g))
    (TB : LamX.TabB X.base X.mg c P) (hcode : X.env.code = .ref c) (hmT : (P, X.env.qual ++ "<lambda>") ∈ z.T.tb) (hu : ∀ p ∈ z.T.tb, p.1 = P → p.2 = X.env.qual ++ "<lambda>") (hr : Room (k + 2) X.A) (L : LamX.LamS X.env.scope scope)
    (hb : ∀ (A : Around) (outer : List Env) (s : Shared) (H : Hp) (E : XK) (f c' : Addr) F0 m0 H0, Room k (A.deeper (LamX.lamEnv X scope s.heap.objs.size f c')) → DE (LamX.lamCx X A outer s H E scope f c') ⟨z.T, F0, m0, H0⟩ body w)
    (hg : Gl X x := by rfl) (hdef : defaultsOf params X.env = ([], []) := by rfl)
    (hbd : ∀ (q : Str) (cl : List (Str × Addr)) (pm cv ctv : Value), bindArgs (PySem.W.kla_fn "<lambda>" q params body scope cl pm cv ctv) ⟨[], []⟩ = pure [] := by intros; rfl)
    (hdb : (x == ("__debug__" : Str)) = false := by decide) (hd : (a == ("__debug__" : Str)) = false := by decide) (hcd : (a == ("__classdict__" : Str)) = false := by decide) (hn : Ng.length = n := by rfl) :
    DE X z (.Call (.Name x p) [.Lambda params body scope lpos] [] pos) (wTold n wh w) := fun Wd tk => by
  subst hn
  obtain ⟨pg, bg, dV, kV, doc, pm, cdv, ct, oc, an, od, osl, lk, hcg, hbs, Sg, hN0, hva, hk, hbody⟩ := O.ok
  refine ⟨fun pins s σ H Q I ⟨F, m, μ, ρ, Qd, S, h, kk⟩ => ?_⟩
  refine wpAny_Call_Name_kw (ld_glob I hg hm (PySem.W.callWith_K (h₀ := X.base) I.ok.mod.kin hk ?_ (by rfl) (by rfl)) hdb)
  refine Calls.spliced_cons (LamX.lam_make2 (T := z.T.tb) I TB hcode hmT hu S.tabs.tb hdef (L.has I.ok) fun f c' pm' ctv H1 s' I1 eN T1 hf hfn hfr hco => Calls.spliced_nil ⟨I1.kIn, ?_⟩)
  obtain ⟨x1, S1⟩ := S.table eN T1
  have act := fun (pn : List (Addr × Obj)) (xe : Value → Shared → Prop) (p1 p2 : Pos) F0 m0 H0 rm => dep_act (pn := pn) (xe := xe) (p1 := p1) (p2 := p2) (F0 := F0) (m0 := m0) (H0 := H0) (qg := x) (cdg := cdv) (g := g) I1 L S1 hf hfn hfr (hbd _ _ _ _ _) rm (fun A outer s H E F0 m0 H0 => hb A outer s H E f c' F0 m0 H0) hN0 hva hd hcd
  have go : codeAny (model X.prog X.w) X.A (.call (.ref g) ⟨[.ref f], []⟩) (CR C8.CX0 X.stack X.prog X.w H1 s' Q C8.E0) s' := by
    refine LamX.run_ofS (N := Ng) (ps := [a]) (us := [.ref f]) (vs := [.ref f]) lk hcg Sg (hr.toRoom.mono (Nat.le_refl _)) I1.env0 (hbs s' [.ref f] I1.kIn rfl) (.cons rfl .nil) rfl fun _ => ⟨_, hbody X.A X.stack s' H1 (LamP F m f c' (X.env.qual ++ "<lambda>")) _ (hr.deeper _) (fun pn xe p1 p2 F0 m0 H0 => act pn xe p1 p2 F0 m0 H0 (hr.deeper _)) F m H1 (fun _ _ _ => False) takesX, ?_⟩
    have hpl : 1 ≤ Ng.length := (List.getElem?_eq_some_iff.mp hN0).1
    refine ⟨F, m, μ, List.replicate Ng.length none, _, S1.entry.slots ?_ (fun i d q => ?_), ⟨?_, hco, Gr.refl F m⟩, h, rfl, ⟨fun F' m' μ' ρ' σ' H' x' S' q => ?_, fun F' m' μ' ρ' σ' d v H' x' S' r q => ?_, fun _ _ _ _ _ _ _ _ q => q.elim, fun _ _ _ _ _ _ _ _ q => q.elim⟩⟩
    · unfold L2.start
      rw [List.length_replicate, List.length_append, List.length_map, List.length_replicate]
      show _ = 1 + (Ng.length - 1)
      omega
    · have := List.mem_of_getElem? q
      rw [List.mem_replicate] at this
      cases this.2
    · rfl
    · exact kk F' m' μ' .non .non H' (x1.trans x') (S1.back x' S'.bare) .non q
    · exact kk F' m' μ' d v H' (x1.trans x') (S1.back x' S'.bare) r q
  refine wpAny_call (codeAny_mono go fun r s2 => ?_)
  match r with
  | .error er => exact fun q => (show False from q).elim
  | .ok (.ret u) => exact fun q => I1.after q
  | .ok .next => exact fun q => q.elim
  | .ok .brk => exact fun q => q.elim
  | .ok .cont => exact fun q => q.elim
end
end Pk

/-! The data layer, part QK: the head and the end where defs make lambdas. -/
namespace Pk
open PySem PySem.Spec PyProof.Rows L2
/-! ### the end -/
section
variable {P : Program} {w0 : World} {K : PySem.W.Frag} {mg mz : Str → Option Value} {CX : CXT} {k : Nat} {f p : Addr} {fd : FuncData} {nm : Str} {sp : Sp} {t : Shared} {us : List Value} {is : List Int} {cs : List (Addr × Addr)}
theorem law_callT (inK : K.In t.heap) (gl : t.heap.Ns mainGlobals mg) (bl : t.heap.Ns builtinsNs mz) (bb : ∀ y : Str, y ≠ "__name__" → mz y = bootBuiltins y) (nl : t.heap.NoLimit) (ng : t.gens = #[])
    (em : ∀ q ∈ cs, t.heap.get? q.2 = some { cls := .none, data := .fields #[] }) (out : ∀ q ∈ cs, K.lookup q.2 = none) (hd : ∀ q ∈ cs, PySem.W.codeHdIn K q.1 q.2 = true)
    (bm : ∃ (b : Addr) (ob : Obj), mg "__builtins__" = some (.ref b) ∧ b ≠ builtinsNs ∧ t.heap.get? b = some ob ∧ ob.cls = .type "module" ∧ ob.dict = some builtinsNs ∧ ob.data = .plain)
    (at_ : t.heap.get? p = some { cls := .type "list", data := .seq us.toArray }) (ia : IntsAre us is) (sz : is.length ≤ sizeLine) (rm : Room k callerA)
    (Fo : ∀ b : Heap, K.In b → b.Ns mainGlobals mg → (∀ q ∈ cs, LamX.TabB b mg q.1 q.2) → FnOk P w0 K mg b CX k f fd [nm] sp) (bd : ∀ (s : Shared) (u : Value), BindsTo s fd ⟨[u], []⟩ [(nm, u)])
    (go : ∀ G : Hp, (∀ q ∈ cs, G q.2 = some (.tbl #[])) → SqL K G p (is.map V.int) → sp [.ref p] G (fun v _ => v = .bl true) fun _ _ _ => False)
    (nx : ∀ G e t', CX [] G t (fun _ _ _ => False) e t' → False) :
    codeAny (model P w0) callerA (.call (.ref f) ⟨[.ref p], []⟩) (fun r t' => r = .ok (.ret (.bool true)) ∧ OldK t.heap t'.heap ∧ t'.os = t.os ∧ AllBare t'.gens) t := by
  have vi := vals_ints ia
  have emT : ∀ b, b ∈ cs.map (·.2) → t.heap.get? b = some { cls := .none, data := .fields #[] } ∧ K.lookup b = none ∧ ∃ q ∈ cs, q.2 = b := fun b m => by
    obtain ⟨q, hq, rfl⟩ := List.mem_map.mp m
    exact ⟨em q hq, out q hq, q, hq, rfl⟩
  have pT : p ∉ cs.map (·.2) := fun m => by
    cases at_.symm.trans (emT p m).1
  have main : ∀ G : Hp, (∀ b, G b = none ∨ (b = p ∧ ∃ o xs, G b = some (.frz o (.lst xs))) ∨ b ∈ cs.map (·.2)) → (∀ b ∈ cs.map (·.2), G b = some (.tbl #[])) → SqL K G p (is.map V.int) → HOk P w0 G t.heap → (G p = none ∨ K.lookup p = none) →
      codeAny (model P w0) callerA (.call (.ref f) ⟨[.ref p], []⟩) (fun r t' => r = .ok (.ret (.bool true)) ∧ OldK t.heap t'.heap ∧ t'.os = t.os ∧ AllBare t'.gens) t := by
    intro G only tabs sq ok kp
    have free : ∀ {b : Addr} {o : Obj}, t.heap.get? b = some o → (∀ n, o.data ≠ .seq us.toArray n) → o.data ≠ .fields #[] → (hidT t.heap G).get? b = some o := fun {b o} e n1 n2 => by
      refine hidT_get e ?_
      rcases only b with n | ⟨rfl, _⟩ | m
      · exact n
      · cases at_.symm.trans e
        exact (n1 _ rfl).elim
      · cases (emT b m).1.symm.trans e
        exact (n2 rfl).elim
    have keepD : ∀ {b : Addr} {m : Str → Option Value}, t.heap.Ns b m → (hidT t.heap G).Ns b m := by
      rintro b m ⟨o, xs, n, e, d, r⟩
      exact ⟨o, xs, n, free e (fun n z => by rw [d] at z; cases z) (fun z => by rw [d] at z; cases z), d, r⟩
    have inH : K.In (hidT t.heap G) := fun b o e => hidT_get (inK b o e) (by
      rcases only b with n | ⟨rfl, _⟩ | m
      · exact n
      · rcases kp with n | n
        · exact n
        · cases e.symm.trans n
      · cases e.symm.trans (emT b m).2.1)
    have env : Env0 P w0 K mg (hidT t.heap G) callerA [] t G :=
      { frames := rfl
        mod := ⟨inH, keepD gl, ⟨mz, keepD bl, bb⟩, let ⟨ml, l1, l2⟩ := nl; ⟨ml, keepD l1, l2⟩⟩
        bs := fun _ _ e => of_hidT e
        bsz := Nat.le_of_eq (hidT_size t.heap G)
        funs := trivial
        frf := fun _ m => by cases m
        hok := ok
        bare := .of_eq ng }
    have TB : ∀ q ∈ cs, LamX.TabB (hidT t.heap G) mg q.1 q.2 := fun q hq => by
      have eq := em q hq
      obtain ⟨og, xg, ng', eg, dg, _⟩ := gl
      obtain ⟨b, ob, b1, b2, b3, b4, b5, b6⟩ := bm
      refine ⟨PySem.W.codeHd_of_K inH (hd q hq), ⟨b, ob, b1, b2, fun z => ?_, fun z => ?_, free b3 (fun n z => by rw [b6] at z; cases z) (fun z => by rw [b6] at z; cases z), b4, b5, b6⟩, fun z => ?_⟩
      · rw [z, eg] at b3
        cases b3
        rw [dg] at b6
        cases b6
      · rw [z, eq] at b3
        cases b3
        cases b6
      · rw [z, eq] at eg
        cases eg
        cases dg
    have run := (Fo _ inH (keepD gl) TB).run callerA [] t G ⟨[.ref p], []⟩ [.ref p] [.ref p] _ _ rm env (bd t (.ref p)) (.cons rfl .nil) (go G (fun q hq => tabs q.2 (List.mem_map.mpr ⟨q, hq, rfl⟩)) sq)
    refine codeAny_mono run fun r t' q => ?_
    match r, q with
    | .error e, q => exact (nx G e t' q).elim
    | .ok .next, q => exact q.elim
    | .ok .brk, q => exact q.elim
    | .ok .cont, q => exact q.elim
    | .ok (.ret u), ⟨v, G', eo, br, un, ok', rv, ev⟩ =>
      subst ev
      cases (show u = Value.bool true from rv)
      have same : ∀ b o, b ∉ cs.map (·.2) → t.heap.get? b = some o → t'.heap.get? b = some o := fun b o m e => by
        rcases only b with n | ⟨_, o1, xs, y⟩ | m'
        · exact un.keep b o e n (fun m => by cases m) (by simp)
        · have e1 := (ok b _ y).1
          have e2 := (ok' b _ (un.frzs b o1 _ y)).1
          exact e2.trans (e1.symm.trans e)
        · exact absurd m' m
      have more : ∀ b, b ∈ cs.map (·.2) → ∃ xs : Array Value, t'.heap.get? b = some { cls := .none, data := .fields xs } := fun b m => by
        obtain ⟨xs, y⟩ := un.tbls b #[] (tabs b m)
        exact ⟨_, ok' b _ y⟩
      refine ⟨rfl, ⟨fun b o e => ?_, fun b o e => ?_⟩, eo, br⟩
      · by_cases m : b ∈ cs.map (·.2)
        · obtain ⟨e1, _, q, hq, eq⟩ := emT b m
          obtain ⟨xs, y⟩ := more b m
          cases e1.symm.trans e
          subst eq
          exact .inr (.inl ⟨((PySem.W.codeHd_of_K inK (hd q hq)).tab (em q hq)).isCodeTable, rfl, #[], xs, rfl, by rw [Array.empty_append]; exact y⟩)
        · exact .inl (same b o m e)
      · by_cases m : b ∈ cs.map (·.2)
        · obtain ⟨xs, y⟩ := more b m
          exact ⟨_, y⟩
        · exact ⟨o, same b o m e⟩
  let T0 : Hp := fun b => if b ∈ cs.map (·.2) then some (.tbl #[]) else none
  have T1 : ∀ b, b ∈ cs.map (·.2) → T0 b = some (.tbl #[]) := fun b m => if_pos m
  have T2 : ∀ b, b ∉ cs.map (·.2) → T0 b = none := fun b m => if_neg m
  have T3 : ∀ b, T0 b = none ∨ b ∈ cs.map (·.2) := fun b => by
    by_cases m : b ∈ cs.map (·.2)
    · exact .inr m
    · exact .inl (T2 b m)
  have T4 : ∀ b u, T0 b = some u → b ∈ cs.map (·.2) ∧ u = .tbl #[] := fun b u e => by
    by_cases m : b ∈ cs.map (·.2)
    · exact ⟨m, Option.some.inj (e.symm.trans (T1 b m))⟩
    · cases e.symm.trans (T2 b m)
  cases lk : K.lookup p with
  | some o =>
    have eo := Option.some.inj ((inK p o lk).symm.trans at_)
    subst eo
    refine main T0 (fun b => (T3 b).imp id .inr) T1 (.inr ⟨_, us.toArray, _, lk, rfl, rfl, rfl, by rw [List.size_toArray, ia.length]; exact sz, vi⟩) (fun b u z => ?_) (.inl (T2 p pT))
    obtain ⟨m, rfl⟩ := T4 b u z
    exact (emT b m).1
  | none =>
    refine main (upd T0 p (.frz { cls := .type "list", data := .seq us.toArray } (.lst (is.map V.int)))) (fun b => ?_) (fun b m => ?_) (.inl (.inr ⟨_, upd_same⟩)) (fun b u z => ?_) (.inr lk)
    · by_cases q : b = p
      · exact .inr (.inl ⟨q, _, _, by rw [q]; exact upd_same⟩)
      · rw [upd_ne q]
        exact (T3 b).imp id .inr
    · rw [upd_ne fun z => pT (by rw [← z]; exact m)]
      exact T1 b m
    · by_cases q : b = p
      · subst q
        rw [upd_same] at z
        cases z
        exact ⟨at_, by rw [List.length_map]; exact sz, us, _, vi, at_⟩
      · rw [upd_ne q] at z
        obtain ⟨m, rfl⟩ := T4 b u z
        exact (emT b m).1
end
theorem walk_ofT {l : PySem.W.OpenLaw} {n k : Nat} {q : Program} {loose : List Str} {XP : (Str → Option Value) → Heap → Prop} {YP : World → Heap → Prop} {d : DefRec} {CX : CXT} {nm : Str}
    (e1 : l.most = some n) (e2 : n ≤ sizeLine) (e3 : d.params.defaults = []) (rm : Room k callerA)
    (Fo : ∀ (w : World) (mg : Str → Option Value) (f : Addr) (h : Heap), YP w h → h.Ns mainGlobals mg → mg d.name = some (.ref f) →
      ∃ (K : PySem.W.Frag) (fd : FuncData) (sp : Sp) (xs : List Str), K.In h ∧ TabX K xs h ∧ (∀ (s : Shared) (u : Value), BindsTo s fd ⟨[u], []⟩ [(nm, u)]) ∧
        (∀ (G : Hp) (p : Addr) (is : List Int), is.length ≤ n → LamX.Tabs (tbOf K xs) G → SqL K G p (is.map V.int) → sp [.ref p] G (fun v _ => v = .bl true) fun _ _ _ => False) ∧
        ∀ b : Heap, K.In b → b.Ns mainGlobals mg → (∀ x ∈ xs, LamX.TabB b mg (He.cT K (x, none)).1 (He.cT K (x, none)).2) → FnOk l.prog w K mg b CX k f fd [nm] sp)
    (nx : ∀ (G : Hp) (t : Shared) (e : Value) (t' : Shared), CX [] G t (fun _ _ _ => False) e t' → False) :
    PySem.W.WalkO q loose XP YP l.row.toRowW d [] (fun f vs => PySem.call f vs) :=
  Att.attach_call e1 e3 fun w _ t mg _ f _ _ _ _ p _ is G Y _ _ _ hm at_ ia sz ng => by
    obtain ⟨K, fd, sp, xs, inK, tx, bd, go, F⟩ := Fo w mg f _ Y G.T.g hm
    have ev : ∀ {φ : Addr × Addr → Prop}, (∀ x ∈ xs, φ (He.cT K (x, none))) → ∀ q ∈ xs.map fun x => He.cT K (x, none), φ q := fun h q hq => by
      obtain ⟨x, hx, rfl⟩ := List.mem_map.mp hq
      exact h x hx
    refine law_callT (cs := xs.map fun x => He.cT K (x, none)) inK G.T.g G.T.b G.T.builtins G.T.nolimit ng (ev tx.em) (ev tx.out) (ev tx.hd) G.T.bmain at_ ia (Nat.le_trans sz e2) rm (fun b h1 h2 h3 => F b h1 h2 fun x hx => h3 _ (List.mem_map.mpr ⟨x, hx, rfl⟩)) bd (fun H t q => go H p is sz (fun r hr => ?_) q) fun H e => nx H t e
    obtain ⟨x, hx, rfl⟩ := List.mem_map.mp hr
    exact .nil (t _ (List.mem_map.mpr ⟨x, hx, rfl⟩))
/-! ### a def that makes lambdas -/
theorem apart_ok {K : PySem.W.Frag} : ∀ {xs : List Str}, apart ((xs.map fun x => (He.cT K (x, none)).2)) = true → ∀ x ∈ xs, ∀ q ∈ tbOf K xs, q.1 = (He.cT K (x, none)).2 → q.2 = lamQ x
  | [], _ => fun x hx => by cases hx
  | y :: r, h => fun x hx q hq e => by
    unfold apart at h
    obtain ⟨h1, h2⟩ := Bool.and_eq_true_iff.mp h
    have off : ∀ z ∈ r, (He.cT K (z, none)).2 ≠ (He.cT K (y, none)).2 := fun z hz e => by
      have := List.all_eq_true.mp h1 _ (List.mem_map.mpr ⟨z, hz, rfl⟩)
      rw [e, Nat.beq_refl] at this
      cases this
    rcases List.mem_cons.mp hx with rfl | hx
    · rcases List.mem_cons.mp hq with rfl | hq
      · rfl
      · obtain ⟨z, hz, rfl⟩ := List.mem_map.mp hq
        exact absurd e (off z hz)
    · rcases List.mem_cons.mp hq with rfl | hq
      · exact absurd e.symm (off x hx)
      · exact apart_ok h2 x hx q hq e
/-- what a def that makes lambdas is told -/
structure LamB (base : Heap) (K : PySem.W.Frag) (mg : Str → Option Value) (T : Tab) (x : Str) : Prop where
  tb : LamX.TabB base mg (He.cT K (x, none)).1 (He.cT K (x, none)).2
  mem : ((He.cT K (x, none)).2, lamQ x) ∈ T.tb
  only : ∀ q ∈ T.tb, q.1 = (He.cT K (x, none)).2 → q.2 = lamQ x
theorem lamB_of {base : Heap} {K : PySem.W.Frag} {mg : Str → Option Value} {T : Tab} {xs : List Str} (e : T.tb = tbOf K xs) (a : apart ((xs.map fun x => (He.cT K (x, none)).2)) = true) (t : ∀ x ∈ xs, LamX.TabB base mg (He.cT K (x, none)).1 (He.cT K (x, none)).2) {x : Str} (hx : x ∈ xs) : LamB base K mg T x :=
  ⟨t x hx, by rw [e]; exact List.mem_map.mpr ⟨x, hx, rfl⟩, by rw [e]; exact apart_ok a x hx⟩
theorem fn_conT {P : Program} {w0 : World} {K : PySem.W.Frag} {mg : Str → Option Value} {base : Heap} {T : Tab} {x : Str} {params : Arguments} {body : List Stmt} {scope : Scope} {dvs : List V} {kws : List (Str × V)} {fd : FuncData} {N ps : List Str} {k : Nat} {w : WS} (Fd : FunD K x x params body scope dvs kws (He.fAd K (x, none)) fd) (S : FnScope N ps scope)
    (hb : ∀ (cdv : Value) (A : Around) (outer : List Env) (s : Shared) (H : Hp) (E : XK) (F0 : Hp) (m0 : List Addr) (H0 : Hp), cdv = .ref (He.cT K (x, none)).1 → Room k (A.deeper (envOfC x scope s.heap.objs.size (He.fAd K (x, none)) cdv)) →
      DSs (cxOf (L2.CX P w0) P w0 K mg base N x scope (He.fAd K (x, none)) cdv A outer s H E) ⟨T, F0, m0, H0⟩ body w) : FnC P w0 K mg base T (k + 1) (He.fAd K (x, none)) fd ps (conB N.length ps.length w) := by
  obtain ⟨_, _, _, _, _, _, _, cdv, _, _, rfl, lk, hcd, _, _⟩ := Fd.ex
  obtain ⟨c, rfl⟩ := He.codeIn_ref hcd
  have ec : (He.cT K (x, none)).1 = c := He.codeOf_eq (p := (x, none)) lk rfl
  refine fn_ofG lk hcd S (fun vs H Q E h => ?_) (fun A outer s H vs Q E hr h => ?_)
  · obtain ⟨_, _, _, _, _, _, _, r, hl, _⟩ := h
    exact r.length.symm.trans hl
  · obtain ⟨F, m, μ, ds, Qd, Qx, S0, r, hl, hc, kd, kx⟩ := h
    have hs := start_slot (N := N) r
    have hc' : w ⟨fun _ μ' => Qd .non μ', Qd, fun _ _ => False, fun _ _ => False, fun x _ μ' => Qx x μ'⟩ (startD N.length ds) μ := by
      unfold conB at hc
      rw [(by rw [hl]; exact Nat.beq_refl _ : Nat.beq ds.length ps.length = true)] at hc
      exact hc
    have tk : Takes (cxOf (L2.CX P w0) P w0 K mg base N x scope (He.fAd K (x, none)) (.ref c) A outer s H E) (XW K ⟨T, F, m, H⟩ fun x _ μ' => Qx x μ') :=
      (takes_of (X := cxOf (L2.CX P w0) P w0 K mg base N x scope (He.fAd K (x, none)) (.ref c) A outer s H E) rfl rfl rfl rfl).imp fun cls d σ H' ⟨F', m', μ', ρ, x, S', xr, q⟩ => kx F' m' μ' x cls d H' S'.ext S'.bare xr q
    exact ⟨_, hb _ A outer s H E F m H (by rw [ec]) hr _ tk, F, m, μ, startD N.length ds, _, S0.slots hs.1 hs.2, hc', rfl,
      ⟨fun F' m' μ' ρ' σ' H' x S' q => kd _ _ _ _ _ _ x S'.bare .non q, fun F' m' μ' ρ' σ' d v H' x S' r q => kd _ _ _ _ _ _ x S'.bare r q, fun _ _ _ _ _ _ _ _ q => q.elim, fun _ _ _ _ _ _ _ _ q => q.elim⟩⟩
end Pk

/-! The data layer, part QL: what the head tells of own errors, by Bools of the written part. -/
namespace Pk
open PySem PySem.Spec PyProof.Rows L2
theorem allT_ok : ∀ {l : List Bool}, allT l = true → ∀ b ∈ l, b = true
  | [], _ => fun b h => by cases h
  | c :: r, h => fun b hb => by
    obtain ⟨h1, h2⟩ := Bool.and_eq_true_iff.mp h
    rcases List.mem_cons.mp hb with q | q
    · rw [q]; exact h1
    · exact allT_ok h2 b q
theorem errC_of {K : PySem.W.Frag} {C : Addr} {b : EB} (h : errCB K C b = true) : ErrC K C b.n b.nw b.ini b.bm := by
  have q := allT_ok h
  refine ⟨?_, ?_, ?_, q _ (by simp), q _ (by simp), of_decide_eq_true (q _ (by simp)), of_decide_eq_true (q _ (by simp)), He.eqO_ok (q _ (by simp)), He.eqO_ok (q _ (by simp)), of_decide_eq_true (q _ (by simp)), of_decide_eq_true (q _ (by simp)), q _ (by simp), q _ (by simp), He.eqO_ok (q _ (by simp))⟩
  · cases b
    · exact PySem.F.excBase_ValueError
    · exact PySem.F.excBase_LookupError
    · exact PySem.F.excBase_ArithmeticError
  · cases b
    · exact PySem.W.kxs_ValueError
    · exact PySem.W.kxs_LookupError
    · exact PySem.W.kxs_ArithmeticError
  · cases b
    · exact PySem.F.store_ValueError
    · exact PySem.F.store_LookupError
    · exact PySem.F.store_ArithmeticError
/-! ### an own __init__ -/
/-- what is seen of the text alone -/
structure ErrS (e : ErrP) : Prop where
  ib : InitB e.fs e.body
  bnd : ∀ fd : FuncData, fd.params = e.params → fd.defaults = .none → ∀ (v : Value) (us : List Value), us.length = e.fs.length → bindArgs fd ⟨v :: us, []⟩ = pure ((("self" : Str), v) :: e.fs.zip us)
  par : ∃ ar, (e.params.posonlyargs ++ e.params.args).head? = some ar ∧ ar.arg = "self"
  nd : (("self" : Str) :: e.fs).Nodup
  kd : e.scope.kind = .function
  co : e.scope.isCoroutine = false
  gen : e.scope.isGenerator = false
  sS : e.scope.names.lookup ("super" : Str) = some .globalImplicit
  sC : e.scope.names.lookup ("__class__" : Str) = some .free
  sL : ∀ f ∈ ("self" : Str) :: e.fs, e.scope.names.lookup f = some .local
  sN : ∀ x ∈ e.scope.names, x.2 ≠ .cell
theorem noneV_ok {v : Value} (h : noneV v = true) : v = .none := by cases v <;> first | rfl | cases h
theorem errF_of {P : Program} {K : PySem.W.Frag} {f0 : Str} {e : ErrP} (hf : P.main.file = f0) (ht : (P.main.scope.names.lookup ("super" : Str)).isSome = false) (S : ErrS e) (ob : fnAt0 K (e.at K) = e.val) (h : errFB K f0 e = true) : ∃ fI fd body cc cda, ErrF1 P K (He.ga K e.cls) e.fs fI fd body cc cda := by
  unfold errFB at h
  obtain ⟨h1, h⟩ := Bool.and_eq_true_iff.mp h
  obtain ⟨h2, h⟩ := Bool.and_eq_true_iff.mp h
  obtain ⟨h3, h⟩ := Bool.and_eq_true_iff.mp h
  cases lk : K.lookup (e.at K) with
  | none => rw [lk] at h; cases h
  | some o =>
    obtain ⟨oc, od, dt, osl⟩ := o
    rw [lk] at h
    cases dt with
    | func fd =>
      obtain ⟨h4, h⟩ := Bool.and_eq_true_iff.mp h
      obtain ⟨h0, h⟩ := Bool.and_eq_true_iff.mp h
      obtain ⟨h5, h6⟩ := Bool.and_eq_true_iff.mp h
      unfold fnAt0 fnAt at ob
      rw [lk] at ob
      simp only [ErrP.val, Option.some.injEq, Prod.mk.injEq] at ob
      obtain ⟨b1, b2, b3, b4, b5, b6, b7, b8⟩ := ob
      cases hcl : fd.closure with
      | nil => rw [hcl] at b7; cases b7
      | cons p r =>
        obtain ⟨nm, cc⟩ := p
        cases r with
        | cons _ _ => rw [hcl] at b7; cases b7
        | nil =>
          rw [hcl] at b7 h5
          simp only [List.map_cons, List.map_nil, List.cons.injEq, Prod.mk.injEq, and_true] at b7
          cases hc : fd.code with
          | ref cda =>
            rw [hc] at h6
            have sc := b5
            have pr := b3
            refine ⟨e.at K, fd, e.body, cc, cda, ⟨He.eqO_ok h1, of_decide_eq_true h2, ⟨oc, od, osl, lk⟩, b4, b6, b8, by rw [hcl, b7], hc, h4, S.ib, fun s v us hl => ?_, by rw [pr]; exact S.par, S.nd, by rw [sc]; exact S.kd, by rw [sc]; exact S.co, by rw [sc]; exact S.gen, by rw [sc]; exact S.sS, by rw [sc]; exact S.sC, by rw [sc]; exact S.sL, by rw [sc]; exact S.sN, ?_, ?_, ht, fun f hm => of_decide_eq_true (List.all_eq_true.mp h3 f hm)⟩⟩
            · intro M A Q E q
              rw [S.bnd fd pr (noneV_ok h0) v us hl]
              exact wpAny_pure q
            · have h5 : (match K.lookup cc with
                | some ob => match ob.data with
                  | .cell (some (.ref c)) => Nat.beq c (He.ga K e.cls)
                  | _ => false
                | none => false) = true := h5
              cases lc : K.lookup cc with
              | none => rw [lc] at h5; cases h5
              | some ob =>
                obtain ⟨xc, xd, xt, xs⟩ := ob
                rw [lc] at h5
                cases xt with
                | cell v =>
                  cases v with
                  | none => cases h5
                  | some v =>
                    cases v with
                    | ref c =>
                      have e1 := Nat.eq_of_beq_eq_true h5
                      subst e1
                      exact ⟨xc, xd, xs, rfl⟩
                    | _ => cases h5
                | _ => cases h5
            · have h6 : (match K.lookup cda with
                | some ob => match ob.data with
                  | .fields vs => match (vs[2]? : Option Value) with
                    | some (.str f _) => f0 == f
                    | _ => false
                  | _ => false
                | none => false) = true := h6
              cases lc : K.lookup cda with
              | none => rw [lc] at h6; cases h6
              | some ob =>
                obtain ⟨xc, xd, xt, xs⟩ := ob
                rw [lc] at h6
                cases xt with
                | fields vs =>
                  have h6 : (match (vs[2]? : Option Value) with
                    | some (.str f _) => f0 == f
                    | _ => false) = true := h6
                  split at h6
                  · rename_i f tk hv
                    exact ⟨xc, xd, vs, xs, f, tk, rfl, hv, by rw [hf]; exact h6⟩
                  · cases h6
                | _ => cases h6
          | _ => rw [hc] at h6; cases h6
    | _ => cases h
/-- .. all of an error with fields, one without -/
theorem raiF_of {P : Program} {K : PySem.W.Frag} {T : Tab} {c : Nat} {f0 : Str} {e : ErrP} {b : EB} (hf : P.main.file = f0) (ht : (P.main.scope.names.lookup ("super" : Str)).isSome = false) (ca : T.ca c = He.ga K e.cls) (fn : T.fn c = e.fs) (hne : e.fs ≠ []) (few : e.fs.length ≤ 800) (dbg : ∀ f ∈ e.fs, (f == ("__debug__" : Str)) = false) (S : ErrS e)
    (ob : fnAt0 K (e.at K) = e.val) (h1 : errCB K (He.ga K e.cls) b = true) (h2 : errFB K f0 e = true) : RaiF P K T c :=
  ⟨⟨b.n, b.nw, b.ini, b.bm, by rw [ca]; exact errC_of h1, .inr ⟨by rw [fn]; exact hne, by rw [ca, fn]; exact errF_of hf ht S ob h2⟩⟩, by rw [fn]; exact few, by rw [fn]; exact dbg⟩
/-! ### what is asked of caught ones -/
theorem eachN_ok {f : Nat → Bool} : ∀ {l : List Nat}, eachN f l = true → ∀ c, memB c l = true → f c = true
  | [], _ => fun c h => by cases h
  | x :: r, h => fun c hc => by
    obtain ⟨h1, h2⟩ := Bool.and_eq_true_iff.mp h
    unfold memB at hc
    split at hc
    · rename_i q
      rw [← Nat.eq_of_beq_eq_true q]
      exact h1
    · exact eachN_ok h2 c hc
theorem fExm_ok {T : PySem.W.Frag → Tab} {all ns : List Nat} {cs : PySem.W.Frag → List Value} {K : PySem.W.Frag} (h : fExm T all cs ns K = true) : ∀ c, memB c all = true → PySem.W.exmAny K (.ref ((T K).ca c)) (cs K) = some (memB c ns) := fun c hc => of_decide_eq_true (eachN_ok h c hc)
theorem errQ_of {K : PySem.W.Frag} {D : Addr} (h : errQB K D = true) : ErrQ K D := by
  have q := allT_ok h
  exact ⟨He.eqO_ok (q _ (by simp)), He.eqO_ok (q _ (by simp)), of_decide_eq_true (q _ (by simp)), q _ (by simp), He.eqO_ok (q _ (by simp)), He.eqO_ok (q _ (by simp)), of_decide_eq_true (q _ (by simp)), of_decide_eq_true (q _ (by simp))⟩
theorem fErQ_ok {T : PySem.W.Frag → Tab} {all : List Nat} {K : PySem.W.Frag} (h : fErQ T all K = true) : ∀ c, memB c all = true → ErrQ K ((T K).ca c) := fun c hc => errQ_of (eachN_ok h c hc)
theorem fKit_ok {T : PySem.W.Frag → Tab} {all ns : List Nat} {t : PySem.W.Frag → Value} {K : PySem.W.Frag} (h : fKit T all t ns K = true) : ∀ c, memB c all = true → PySem.W.kitOne K (.ref ((T K).ca c)) (t K) = some (memB c ns) := fun c hc => of_decide_eq_true (eachN_ok h c hc)
theorem lookN_mem {c j : Nat} : ∀ {ix : List (Nat × Nat)}, lookN c ix = some j → memB c (ix.map (·.1)) = true ∧ (c, j) ∈ ix
  | [], h => by cases h
  | (x, i) :: r, h => by
    unfold lookN at h
    show (match Nat.beq x c with | true => true | false => memB c (r.map (·.1))) = true ∧ _
    cases q : Nat.beq x c with
    | true =>
      rw [q] at h
      cases h
      rw [Nat.eq_of_beq_eq_true q]
      exact ⟨rfl, List.mem_cons_self⟩
    | false =>
      rw [q] at h
      obtain ⟨h1, h2⟩ := lookN_mem h
      exact ⟨h1, List.mem_cons_of_mem _ h2⟩
/-- where the attribute f stands -/
inductive FxA (fn : Nat → List Str) (f : Str) : List (Nat × Nat) → Prop
  | nil : FxA fn f []
  | cons {c j : Nat} {r : List (Nat × Nat)} : fldIx f (fn c) = some j → FxA fn f r → FxA fn f ((c, j) :: r)
theorem FxA.get {fn : Nat → List Str} {f : Str} {c j : Nat} : ∀ {ix : List (Nat × Nat)}, FxA fn f ix → (c, j) ∈ ix → fldIx f (fn c) = some j
  | _, .nil, h => by cases h
  | _, .cons e r, h => by
    rcases List.mem_cons.mp h with q | q
    · cases q; exact e
    · exact r.get q
theorem erf_of {T : PySem.W.Frag → Tab} {all : List Nat} {ix : List (Nat × Nat)} {f : Str} {K : PySem.W.Frag} (hq : fErQ T all K = true) (h : fErf T (ix.map (·.1)) f K = true) (hs : ∀ c, memB c (ix.map (·.1)) = true → memB c all = true) (hx : FxA ((T K).fn) f ix) :
    ∀ c j, lookN c ix = some j → ErrQ K ((T K).ca c) ∧ PySem.W.findIn K (.ref ((T K).ca c)) f = some none ∧ fldIx f ((T K).fn c) = some j := fun c j e => by
  obtain ⟨m, m2⟩ := lookN_mem e
  exact ⟨fErQ_ok hq c (hs c m), He.eqO_ok (eachN_ok h c m), hx.get m2⟩
/-! ### the Hook -/
end Pk

/-! The data layer, part QM: for the printer. -/
namespace Pk
open PySem PySem.Spec PyProof.Rows L2
theorem hu65q {k : Nat} {A : Around} (r : RoomQ k A) : A.units + 65 < cLine := by have := r.un; omega
theorem hu64q {k : Nat} {A : Around} (r : RoomQ k A) : A.units + 64 < cLine := by have := r.un; omega
theorem hu1q {k : Nat} {A : Around} (r : RoomQ k A) : A.units + 1 < cLine := by have := r.un; omega
theorem told_of {P : Program} {w0 : World} {K : PySem.W.Frag} {mg : Str → Option Value} {base : Heap} {T : Tab} {k : Nat} {g : Addr} {x a : Str} {params : Arguments} {body : List Stmt} {scope : Scope} {fd : FuncData} {Ng : List Str} {wh : WE → WS}
    (F : FunD K x x params body scope [] [] g fd) (S : FnScope Ng [a] scope) (hN : Ng[0]? = some a) (hv : Vis scope a) (b : L2.Binds K fd [a] [])
    (hb : ∀ (cdv : Value) (A : Around) (outer : List Env) (s : Shared) (H : Hp) (P0 : PrE) (wa : WE), Room (k + 1) (A.deeper (envOfC x scope s.heap.objs.size g cdv)) →
      (∀ (pn : List (Addr × Obj)) (xe : Value → Shared → Prop) (p1 p2 : Pos) F0 m0 H0, DEp P0 ((cxOf C8.CX0 P w0 K mg base Ng x scope g cdv A outer s H C8.E0).tr pn xe) ⟨T, F0, m0, H0⟩ (.Call (.Name a p1) [] [] p2) wa) →
      ∀ F0 m0 H0, DSsp P0 (cxOf C8.CX0 P w0 K mg base Ng x scope g cdv A outer s H C8.E0) ⟨T, F0, m0, H0⟩ body (wh wa)) : ToldF P w0 K mg base T k g x a Ng scope wh := by
  have kp := F.kp
  obtain ⟨oc, od, dV, kV, doc, pm, an, cdv, ct, osl, rfl, lk, hcd, _, _⟩ := F.ex
  exact ⟨params, body, dV, kV, doc, pm, cdv, ct, oc, an, od, osl, lk, hcd, b, S, hN, hv, kp, fun A outer s H P0 wa => hb cdv A outer s H P0 wa⟩
theorem nm_g {X : Cx} {x : Str} {c : Value} (hm : X.mg x = some c) (hg : Gl X x := by rfl) (hd : (x == ("__debug__" : Str)) = false := by decide) : Names X x c := ⟨hg, hd, .inl hm⟩
end Pk

/-! The data layer, part QN: list.count, small helpers. -/
namespace Pk
open PySem PySem.Spec PyProof.Rows L2
/-- xs.count(x) -/
def rCountD (K : PySem.W.Frag) : V → List V → Hp → VK → Prop := fun x xs H Q => ∃ (a : Addr) (y : V) (d : PyData) (ds : List PyData), x = V.ref a ∧ xs = [y] ∧ Dp K H (V.ref a) (.list ds) ∧ Dp K H y d ∧
  SeqAt.shaped (.list ds) = true ∧ SeqAt.shaped d = true ∧ Q (.int ((ds.countP fun z => PyData.eqv z d : Nat) : Int)) H
theorem mt_countD {X : Cx} (hu : X.A.units + 65 < cLine) : MtR X "list.count" (rCountD X.K) := by
  intro pins s σ H x xs v us Q I rx rxs ⟨a, y, d, ds, ex, exs, hl, hy, sl, sd, q⟩
  subst ex exs
  cases rx
  cases rxs with
  | @cons _ uy _ _ ry rt =>
    cases rt
    obtain ⟨bs, r1⟩ := Dp.reads I d y uy hy ry
    cases hl with
    | lst hs ha =>
      obtain ⟨its, rv, ⟨⟨cls, dd, data, sls⟩, n, ho, hc, -, hdt⟩, -⟩ := I.list hs
      simp only at hc hdt
      subst hc hdt
      have can := SeqAt.canLay_of_shaped sl
      obtain ⟨as, h4⟩ := Dp.readsAll I ds _ its ha rv
      have e := SeqAt.readsAll_map ds its as can h4
      refine call_meets PySem.F.slot_list_count ⟨_, ho, rfl⟩ PySem.F.entry_list_count (PySem.F.args_list_count_2 _ _) (SeqAt.list_countAt a its.toArray n dd sls uy fun u => PyData.eqv (SeqAt.readOf s.heap u) d) ⟨ho, SeqAt.items_eqAt (vs := its.toArray) h4 r1 can (SeqAt.canLay_of_shaped sd) (room_in_shaped sd hu), ?_⟩
      rw [← e, List.countP_map] at q
      exact ⟨.int _, H, I.tok _, ⟨_, rfl⟩, q⟩
def cntD (x : D) : List D → Nat
  | [] => 0
  | y :: r => match eqD y x with
    | true => Nat.succ (cntD x r)
    | false => cntD x r
def cntF : MF := fun x ds μ Q => match look μ x, ds with
  | .lst xs, [y] => match pureD 60 y && pureD 60 (.lst xs) with
    | true => Q (.int (cntD y xs : Nat)) μ
    | false => False
  | _, _ => False
theorem cntD_eq {n k : Nat} {x : D} (hx : pureD k x = true) : ∀ {xs : List D}, pureDs n xs = true → (toPys xs).countP (fun z => PyData.eqv z (toPy x)) = cntD x xs
  | [], _ => rfl
  | y :: r, h => by
    unfold pureDs at h
    cases hy : pureD n y with
    | false => rw [hy] at h; cases h
    | true =>
      rw [hy] at h
      have e := eqD_py n k y x hy hx
      show List.countP _ (toPy y :: toPys r) = cntD x (y :: r)
      rw [List.countP_cons, cntD_eq hx h, ← e]
      show _ = (match eqD y x with
        | true => Nat.succ (cntD x r)
        | false => cntD x r)
      cases eqD y x <;> rfl
theorem ok_cnt {X : Cx} {z : Zx} : MeOk X z (rCountD X.K) cntF := fun F m μ ρ σ H x v ds vs Qd Q S rx rs q k => by
  unfold cntF at q
  split at q
  · rename_i xs y hx
    have vx := S.view rx
    rw [hx] at vx
    cases rs with
    | cons r1 rs =>
      cases rs
      split at q
      · rename_i hp
        obtain ⟨g1, g2⟩ := Bool.and_eq_true_iff.mp hp
        have pl : pureDs 59 xs = true := by simpa [pureD] using g2
        obtain ⟨a, us, rfl, h1, r2⟩ := vx.list S.same
        refine ⟨a, _, toPy y, toPys xs, rfl, rfl, .lst (SqL.of h1) (r2.dp S.same pl), (Vw.of r1).dp S.same g1, shaped_of (d := .lst xs) g2 (by decide), shaped_of g1 (by decide), ?_⟩
        rw [cntD_eq g1 pl]
        exact k.now S .int q
      · exact q.elim
  · exact q.elim
section
variable {X : Cx} {z : Zx} {apos pos : Pos} {o e : Expr} {wo : WE} {wa : WA}
theorem m_count (hu : X.A.units + 65 < cLine) (ho : DE X z o wo) (ha : DA X z [e] wa) (hbase : attributeBase o "count" X.env (eval o X.env) = eval o X.env := by rfl)
    (hfew : ((backTo pos (starEach [e] X.env)).all (fun x => !x.1) && (backToKw pos (keywordEach [] X.env)).all (fun x => x.1.isSome) && decide ([e].length + ([] : List Keyword).length + (if ([] : List Keyword).isEmpty then 0 else 1) < 30)) = true := by rfl)
    (hline : (apos.endLine == pos.line) = true := by rfl) (hs : starEach [e] X.env = (false, eval e X.env) :: starEach [] X.env := by rfl) (hplain : (backTo pos (starEach [] X.env)).any (·.1) = false := by rfl) :
    DE X z (.Call (.Attribute o "count" apos) [e] [] pos) (wMe isL cntF wo wa) := de_bm PySem.F.plainAttrs_list PySem.F.slot_list_count PySem.F.type_list_count (mt_countD hu) ty_list ok_cnt ho ha hbase hfew hline hs hplain
end
/-- what is asked of some is asked of all -/
def subN : List Nat → List Nat → Bool
  | [], _ => true
  | x :: r, l => memB x l && subN r l
theorem sub_ok {all : List Nat} : ∀ {l : List Nat}, subN l all = true → ∀ c, memB c l = true → memB c all = true
  | [], _ => fun c h => by cases h
  | x :: r, h => fun c hc => by
    obtain ⟨h1, h2⟩ := Bool.and_eq_true_iff.mp h
    unfold memB at hc
    cases q : Nat.beq x c with
    | true => rw [← Nat.eq_of_beq_eq_true q]; exact h1
    | false =>
      rw [q] at hc
      exact sub_ok h2 c hc
end Pk

/-! The data layer: a tuple display known to have no dict of its own. -/
namespace Pk
open PySem PySem.Spec PyProof.Rows L2
section
variable {X : Cx} {z : Zx} {e : Expr} {es : List Expr} {wr : WA} {t : TA} {p pos : Pos}
def tTupP (t : TA) : TE := fun σ H Q => t σ H fun xs H1 => xs.length ≤ sizeLine ∧ ∀ p o, H1 p = none → o.dict = none → Q (.ref p) (upd H1 p (.frz o (.tup xs)))
theorem pe_tupP {x1} (h : PA X es t) : PE X (.Tuple es x1 pos) (tTupP t) := by
  refine ⟨fun pins s σ H Q I hq => ?_⟩
  refine wpAny_Tuple_spliced (thn (h.run pos pins s σ H _ I hq) fun us s1 ⟨xs, H1, I1, r, z, q⟩ => ⟨by rw [← r.length]; exact z, ?_⟩)
  have hf : H1 s1.heap.objs.size = none := I1.hok.fresh (Nat.le_refl _)
  have hg : (s1.heap.push { cls := .type "tuple", data := .seq us.toArray }).get? s1.heap.objs.size = some { cls := .type "tuple", data := .seq us.toArray } := Heap.get?_push_size _ rfl
  refine ⟨.ref s1.heap.objs.size, upd H1 s1.heap.objs.size (.frz { cls := .type "tuple", data := .seq us.toArray } (.tup xs)), I1.laid (t' := s1.toks) (fun b u e => Heap.get?_push_of_some _ e) (Nat.le_refl _) ?_, rfl, q _ _ hf rfl⟩
  exact ⟨hg, z, us, r, ⟨_, hg, rfl, _, rfl⟩⟩
def wTupP (w : WA) : WE := fun ρ μ Q E => w ρ μ (fun xs μ1 => match lineB xs.length with
  | true => Q (.ptp xs) μ1
  | false => False) E
theorem de_tupP {x1} (h : DA X z es wr) : DE X z (.Tuple es x1 pos) (wTupP wr) := fun Wd tk =>
  peI (pe_tupP (h Wd tk)) fun σ H Q ⟨F, m, μ, ρ, Qd, S, h, k⟩ => ⟨F, m, μ, ρ, _, S, h, fun F1 m1 μ1 ds vs H1 x1 S1 r1 q1 => by
    cases e : lineB ds.length with
    | false => rw [e] at q1; exact q1.elim
    | true =>
      rw [e] at q1
      refine ⟨by rw [← r1.length]; exact lineB_le e, fun p o hp ho => ?_⟩
      obtain ⟨x2, S2⟩ := S1.new hp (.frz o (.tup vs))
      exact k _ _ _ _ _ _ (x1.trans x2) S2 (.ptp upd_same ho (r1.mono x2.gr)) q1⟩
end
end Pk

/-! Reading the promises: what a def gives back, comprehensions, loops. -/
namespace Pk
open PySem PySem.Spec PyProof.Rows L2
/-! ### small readings -/
section
variable {μ : Sto} {ρ : Slots} {Q : QD} {E : QX}
end

/-! ### comprehensions -/
/-! ### loops -/
/-! ### lists that loops walk -/
/-! ### texts in lists -/
/-! ### slices -/
end Pk

/-! The data layer, part Z4: repr of lists and tuples, texts compared. -/
namespace Pk
open PySem PySem.Spec PyProof.Rows L2
mutual
/-- how much a text of it takes at most; small integers only -/
def wtD : D → Option Nat
  | .non => some 0
  | .bl _ => some 0
  | .int i => match Nat.blt i.natAbs 1000000000000 with
    | true => some 41
    | false => none
  | .str s => some s.length
  | .tup xs => wtDs xs
  | .lst xs => wtDs xs
  | .ttp xs => wtDs xs
  | _ => none
def wtDs : List D → Option Nat
  | [] => some 0
  | x :: r => match wtD x, wtDs r with
    | some a, some b => some (a + 1 + b)
    | _, _ => none
end
mutual
theorem wt_py : ∀ (n : Nat) (d : D) (w : Nat), pureD n d = true → wtD d = some w → (toPy d).showable = true ∧ (toPy d).intsShort 13 = true ∧ (toPy d).weight ≤ w
  | _, .non, w, _, e => by
    cases e
    exact ⟨rfl, rfl, Nat.le_refl _⟩
  | _, .bl _, w, _, e => by
    cases e
    exact ⟨rfl, rfl, Nat.le_refl _⟩
  | _, .str s, w, _, e => by
    unfold wtD at e
    injection e with e
    subst e
    refine ⟨rfl, rfl, ?_⟩
    show (tx s).cps.size ≤ s.length
    unfold tx
    simp
  | _, .int i, w, _, e => by
    unfold wtD at e
    split at e
    · rename_i q
      injection e with e
      subst e
      have lt : i.natAbs < 1000000000000 := Nat.le_of_ble_eq_true q
      have l2 : i.natAbs.log2 < 40 := by
        by_cases z : i.natAbs = 0
        · rw [z]; decide
        · exact (Nat.log2_lt z).mpr (Nat.lt_trans lt (by decide))
      refine ⟨decide_eq_true (Nat.lt_trans l2 (by decide)), decide_eq_true (PyData.shown_int_le lt), ?_⟩
      show (if i == 0 then 0 else i.natAbs.log2 + 1) ≤ 41
      split <;> omega
    · cases e
  | 0, .tup _, _, h, _ => by simp [pureD] at h
  | 0, .lst _, _, h, _ => by simp [pureD] at h
  | 0, .ttp _, _, h, _ => by simp [pureD] at h
  | n + 1, .tup xs, w, h, e => wts_py n xs w (by simpa [pureD] using h) e
  | n + 1, .ttp xs, w, h, e => wts_py n xs w (by simpa [pureD] using h) e
  | n + 1, .lst xs, w, h, e => wts_py n xs w (by simpa [pureD] using h) e
  | n, .dct _, _, h, _ => by cases n <;> simp [pureD] at h
  | n, .scr _, _, h, _ => by cases n <;> simp [pureD] at h
  | n, .ins _ _, _, h, _ => by cases n <;> simp [pureD] at h
  | n, .mref _, _, h, _ => by cases n <;> simp [pureD] at h
  | n, .cls _, _, h, _ => by cases n <;> simp [pureD] at h
  | n, .ty _, _, h, _ => by cases n <;> simp [pureD] at h
  | n, .ptp _, _, h, _ => by cases n <;> simp [pureD] at h
  | n, .dcp _ _, _, h, _ => by cases n <;> simp [pureD] at h
  | n, .dco _, _, h, _ => by cases n <;> simp [pureD] at h
theorem wts_py : ∀ (n : Nat) (xs : List D) (w : Nat), pureDs n xs = true → wtDs xs = some w → PyData.showableAll (toPys xs) = true ∧ PyData.intsShortAll 13 (toPys xs) = true ∧ PyData.weightAll (toPys xs) ≤ w
  | _, [], w, _, e => by
    cases e
    exact ⟨rfl, rfl, Nat.le_refl _⟩
  | n, x :: r, w, h, e => by
    unfold pureDs at h
    unfold wtDs at e
    cases q : pureD n x with
    | false => rw [q] at h; cases h
    | true =>
      rw [q] at h
      cases e1 : wtD x with
      | none => rw [e1] at e; cases e
      | some a =>
        cases e2 : wtDs r with
        | none => rw [e1, e2] at e; cases e
        | some b =>
          rw [e1, e2] at e
          injection e with e
          subst e
          obtain ⟨a1, a2, a3⟩ := wt_py n x a q e1
          obtain ⟨b1, b2, b3⟩ := wts_py n r b h e2
          refine ⟨?_, ?_, ?_⟩
          · show ((toPy x).showable && PyData.showableAll (toPys r)) = true
            rw [a1, b1]
            rfl
          · show ((toPy x).intsShort 13 && PyData.intsShortAll 13 (toPys r)) = true
            rw [a2, b2]
            rfl
          · show (toPy x).weight + 1 + PyData.weightAll (toPys r) ≤ a + 1 + b
            omega
end
/-- repr of what lies as a list or a tuple -/
def rRep (K : PySem.W.Frag) : List V → Hp → VK → Prop := fun xs H Q => ∃ a d, xs = [.ref a] ∧ Dp K H (.ref a) d ∧ d.showable = true ∧ d.hasDict = false ∧ d.depth ≤ 62 ∧ d.shown.length ≤ sizeLine ∧ Q (.str d.shown) H
section
variable {X : Cx} {z : Zx}
end
section
variable {X : Cx} {z : Zx} {e a b : Expr} {p pos : Pos} {wa wb : WE} {w : WA}
end
end Pk

/-! The data layer, part Z5: sorted(set(a list of integers)). -/
namespace Pk
open PySem PySem.Spec PyProof.Rows L2
section
variable {P : Program} {w : World} {A : Around} {E : Value → Shared → Prop} {t : Shared}
end
end Pk

/-! The data layer, part Z6: the members, rising. -/
namespace Pk
open PySem PySem.Spec PyProof.Rows L2
end Pk

/-! The data layer, part Z7: sorted(set(..)) as a word. -/
namespace Pk
open PySem PySem.Spec PyProof.Rows L2
section
variable {X : Cx} {z : Zx} {e : Expr} {p p2 pos q : Pos} {ta : TA} {wa : WA}
end
end Pk

/-! The data layer, part Z8: list(range(a, b)). -/
namespace Pk
open PySem PySem.Spec PyProof.Rows L2
section
variable {X : Cx} {z : Zx} {e e2 : Expr} {p p2 pos q : Pos} {ta : TA} {wa : WA}
end
end Pk

/-! The data layer, part Z9: a tuple times nought or one. -/
namespace Pk
open PySem PySem.Spec PyProof.Rows L2
theorem tupMul0 (l : Addr) (its : Array Value) (n : Nat) (dd : Option Addr) (sl : Array (Option Value)) (u : Tok) (h1 : its.isEmpty = false) :
    Meets (Builtin.«tuple.__mul__» ⟨[.ref l, .int 0 u], []⟩) (fun _ R s => s.heap.get? l = some { cls := .type "tuple", dict := dd, data := .seq its n, slots := sl } ∧
      R (.ok (.ret (Value.ref s.heap.objs.size))) { s with heap := s.heap.push { cls := Value.type "tuple", data := Data.seq #[] }, toks := s.toks }) :=
  .of_wp fun prog w A R s h => by
    obtain ⟨hp, g, d, tk, os⟩ := s
    obtain ⟨hl, h⟩ := h
    have f1 := AutoSeq1.idx_int
    have c1 : (its.isEmpty || (0 : Int) == 1) = false := by rw [h1]; rfl
    wp_walk using wpAny_loadPart' hl
    exact ⟨_, rfl, h⟩
theorem tupMul1 (l : Addr) (its : Array Value) (n : Nat) (dd : Option Addr) (sl : Array (Option Value)) (u : Tok) (h1 : its.isEmpty = false) :
    Meets (Builtin.«tuple.__mul__» ⟨[.ref l, .int 1 u], []⟩) (fun _ R s => s.heap.get? l = some { cls := .type "tuple", dict := dd, data := .seq its n, slots := sl } ∧
      R (.ok (.ret (Value.ref l))) s) :=
  .of_wp fun prog w A R s h => by
    obtain ⟨hp, g, d, tk, os⟩ := s
    obtain ⟨hl, h⟩ := h
    have f1 := AutoSeq1.idx_int
    have c1 : (its.isEmpty || (1 : Int) == 1) = true := by rw [h1]; rfl
    wp_walk using wpAny_loadPart' hl
    exact ⟨_, rfl, h⟩
/-- a tuple times nought or one -/
def rRepT01 (K : PySem.W.Frag) : R2 := fun x y H Q => ∃ l k xs, x = .ref l ∧ y = .int k ∧ SqT K H l xs ∧ xs ≠ [] ∧ ((k = 0 ∧ ∀ p, H p = none → Q (.ref p) (upd H p (.tup []))) ∨ (k = 1 ∧ Q (.ref l) H))
theorem op_repT01 {X : Cx} : OpR X (binaryOp .Mult) (rRepT01 X.K) := by
  intro pins s σ H x y v u Q I rx ry h
  obtain ⟨l, k, xs, rfl, rfl, hT, ne, q⟩ := h
  cases rx
  obtain ⟨t, rfl⟩ := ry
  obtain ⟨its, r, ⟨⟨cls, dd, data, sl⟩, ho, hc, n, hd⟩, hs⟩ := I.tuple hT
  simp only at hc hd
  subst hc hd
  have em : its.toArray.isEmpty = false := by
    cases its with
    | nil =>
      have := r.length
      exact absurd (List.eq_nil_of_length_eq_zero this) ne
    | cons a b => rfl
  rcases q with ⟨rfl, q⟩ | ⟨rfl, q⟩
  · refine wpAny_binaryOp_repeat_ref (T := "tuple") (U := "int") (by decide) ⟨_, ho, rfl⟩ (fun s' => typeIs_int s' 0 t) noFill_tuple_mul F.fills_int_mul F.slot_int_rmul repeat_tuple F.slot_int_index.lookup
      (call_meets F.slot_int_rmul (typeIs_int s 0 t) F.entry_int_rmul (F.args_int_rmul_2 _ _) (int_rmul_tuple 0 t l its.toArray n dd sl)
        ⟨ho, rfl, ⟨_, ho, rfl⟩, call_meets F.slot_tuple_mul ⟨_, ho, rfl⟩ F.entry_tuple_mul (F.args_tuple_mul_2 _ _) (tupMul0 l its.toArray n dd sl t em) ⟨ho, ?_⟩⟩)
    exact ⟨.ref s.heap.objs.size, _, I.laid (t' := s.toks) (o := .tup []) (fun b ob e => Heap.get?_push_of_some _ e) (Nat.le_refl _) ⟨Nat.zero_le _, [], .nil, IsTup.new _ _⟩, rfl, q _ (I.hok.fresh (Nat.le_refl _))⟩
  · refine wpAny_binaryOp_repeat_ref (T := "tuple") (U := "int") (by decide) ⟨_, ho, rfl⟩ (fun s' => typeIs_int s' 1 t) noFill_tuple_mul F.fills_int_mul F.slot_int_rmul repeat_tuple F.slot_int_index.lookup
      (call_meets F.slot_int_rmul (typeIs_int s 1 t) F.entry_int_rmul (F.args_int_rmul_2 _ _) (int_rmul_tuple 1 t l its.toArray n dd sl)
        ⟨ho, rfl, ⟨_, ho, rfl⟩, call_meets F.slot_tuple_mul ⟨_, ho, rfl⟩ F.entry_tuple_mul (F.args_tuple_mul_2 _ _) (tupMul1 l its.toArray n dd sl t em) ⟨ho, ?_⟩⟩)
    exact ⟨.ref l, H, I, rfl, q⟩
/-- a tuple times an integer, none or some -/
def mulT : D → D → Option D
  | .tup (x :: xs), .int k => match k with
    | .ofNat n => match Nat.ble n 1000 && Nat.ble (x :: xs).length 1000 with
      | true => some (.tup (repD n (x :: xs)))
      | false => none
    | _ => none
  | _, _ => none
section
variable {X : Cx} {z : Zx} {a b : Expr} {pos : Pos} {wa wb : WE}
theorem okMulT : OpD X z (fun x y H Q => rRepT X.K x y H Q ∨ rRepT01 X.K x y H Q) mulT := by
  intro F m μ ρ σ H x y v u d Qd Q S vx vy e q k
  unfold mulT at e
  split at e
  · rename_i x0 xs i
    split at e
    · rename_i n
      split at e
      · rename_i hl
        injection e with e
        subst e
        obtain ⟨l1, l2⟩ := Bool.and_eq_true_iff.mp hl
        have g1 := Nat.le_of_ble_eq_true l1
        have g2 := Nat.le_of_ble_eq_true l2
        have e2 := vy.int
        subst e2
        obtain ⟨a, vs, rfl, h1, r1⟩ := vx.tup S.same
        have ne : vs ≠ [] := fun e => by
          have := r1.length
          rw [e] at this
          simp at this
        match n with
        | 0 => exact .inr ⟨a, 0, vs, rfl, rfl, h1, ne, .inl ⟨rfl, fun p hp => k.tup S hp .nil q⟩⟩
        | 1 =>
          refine .inr ⟨a, 1, vs, rfl, rfl, h1, ne, .inr ⟨rfl, ?_⟩⟩
          have e1 : repD 1 (x0 :: xs) = x0 :: xs := by simp [repD]
          rw [e1] at q
          cases vx with
          | of r => exact k.now S r q
        | n + 2 =>
          refine .inl ⟨a, ((n + 2 : Nat) : Int), vs, rfl, rfl, h1, ne, by omega, by omega, by rw [← r1.length]; exact g2, fun p hp => ?_⟩
          exact k.tup S hp (r1.replicate _) q
      · cases e
    · cases e
  · cases e
theorem o_mulT (ha : DE X z a wa) (hb : DE X z b wb) : DE X z (.BinOp a .Mult b pos) (w2 mulT wa wb) := de_op (op_repT.or op_repT01) okMulT ha hb
end
end Pk

/-! The data layer, part ZA: a class made and frozen, the arguments looked at outside. -/
namespace Pk
open PySem PySem.Spec PyProof.Rows L2
theorem sim_hide {X : Cx} {z : Zx} {F : Hp} {m : List Addr} {μ : Sto} {ρ : Slots} {σ : L2.St} {H : Hp} (S : SimZ X.K z F m μ ρ σ H) : Sim X.K z.T F [] H F [] [] (ρ.map hideM) σ H :=
  ⟨Ext.refl _ _ _, S.same, rfl, List.nodup_nil, fun a h => absurd h (by simp), fun k a o e => by simp at e, by rw [List.length_map]; exact S.sl, (fun i d e => by
    rw [List.getElem?_map] at e
    cases q : ρ[i]? with
    | none => rw [q] at e; cases e
    | some o =>
      rw [q] at e
      injection e with e
      cases o with
      | none => cases e
      | some d' =>
        unfold hideM at e
        split at e
        · rename_i hd heq
          split at e
          · rename_i hm
            injection e with e
            injection heq with heq
            subst e heq
            obtain ⟨v, h1, h2⟩ := S.slot i _ q
            exact ⟨v, h1, h2.noM hm⟩
          · cases e
        · cases e), S.tabs⟩
def wMkF (fz cn : Nat) (c : Con) (n : Nat) (dds : List D) (wa : WA) : WE := fun ρ μ Q E => wa ρ μ (fun ds μ1 => match noMs ds with
  | true => mkD cn c n dds ds [] (fun d μ3 => match deepD fz μ3 d with
    | (d', _) => match noM d' with
      | true => Q d' μ1
      | false => False) nox
  | false => False) E
section
variable {X : Cx} {z : Zx} {k cn n : Nat} {f : Addr} {fd : FuncData} {ps : List Str} {c : Con} {x m : Str} {p pos apos : Pos} {e o : Expr} {es : List Expr} {wo : WE} {wa : WA} {dvs : List V} {ds0 : List Value} {dds : List D}
theorem de_mkF {fz : Nat} (M : Mk X.K (z.T.ca cn) f) (Fc : FnC X.prog X.w X.K X.mg X.base z.T k f fd ps c) (hr : Room (k + 1) X.A) (hg : Gl X x) (hm : X.mg x = some (.ref (z.T.ca cn))) (hb : Binds X.K fd ps ds0) (hd : Vals dvs ds0) (hdd : ∀ F m, Reps X.K z.T F m dds dvs) (ha : DA X z (e :: es) wa)
    (hdb : (x == ("__debug__" : Str)) = false := by decide) (he : starEach (e :: es) X.env = (false, eval e X.env) :: starEach es X.env := by rfl) (hpl : (backTo pos (starEach es X.env)).any (·.1) = false := by rfl) : DE X z (.Call (.Name x p) (e :: es) [] pos) (wMkF fz cn c ps.length dds wa) := fun Wd tk =>
  peI (pe_makeS (E := fun σ cls d H => XW X.K z Wd cls d σ H) M Fc hr hg hm hb hd (fun σ => passAt tk σ) (ha Wd tk) hdb he hpl) fun σ H Q ⟨F, m, μ, ρ, Qd, S, h, kk⟩ => ⟨F, m, μ, ρ, _, S, h, fun F1 m1 μ1 ds vs H1 x1 S1 r1 q1 => by
    split at q1
    · rename_i hn
      have S0 : SimZ X.K ⟨z.T, F1, [], H1⟩ F1 [] [] (ρ.map hideM) σ H1 := sim_hide (X := X) (z := z) S1
      refine mk_run (z := ⟨z.T, F1, [], H1⟩) S0 (r1.noM hn) hdd q1 (fun F4 m4 μ4 d4 v4 H4 x4 S4 r4 q4 => ?_) fun F' m' μ' y cls d H' x2 S2 xr q => q.elim
      obtain ⟨F5, x5, S5, r5⟩ := deep_ok X.K z.T fz S4 r4
      have q5 : (match noM (deepD fz μ4 d4).1 with
        | true => Qd (deepD fz μ4 d4).1 μ1
        | false => False) := q4
      split at q5
      · rename_i hd'
        obtain ⟨xx, S6⟩ := loc_back S1 (x4.trans x5) S5.same S5.tabs
        exact kk _ _ _ _ _ _ (x1.trans xx) S6 (r5.noM hd') q5
      · exact q5.elim
    · exact q1.elim⟩
theorem c_mkF {a : Addr} (fz : Nat) (ok : OkF X.prog X.w X.K X.mg X.base z.T k a ps c) (M : Mk X.K (z.T.ca cn) a) (hr : Room (k + 1) X.A) (hm : X.mg x = some (.ref (z.T.ca cn))) (ha : DA X z (e :: es) wa) (hg : Gl X x := by rfl)
    (hdb : (x == ("__debug__" : Str)) = false := by decide) (he : starEach (e :: es) X.env = (false, eval e X.env) :: starEach es X.env := by rfl) (hpl : (backTo pos (starEach es X.env)).any (·.1) = false := by rfl) (hn : ps.length = n := by rfl) : DE X z (.Call (.Name x p) (e :: es) [] pos) (wMkF fz cn c n [] wa) := by
  subst hn
  obtain ⟨fd, F, b, kp⟩ := ok.ex
  exact de_mkF M F hr hg hm b .nil (fun _ _ => .nil) ha hdb he hpl
end
end Pk

/-! The data layer, part ZB: len of an instance with an own __len__. -/
namespace Pk
open PySem PySem.Spec PyProof.Rows L2
section
variable {prog : Program} {w : World} {A : Around} {E : Value → Shared → Prop} {s : Shared} {K : PySem.W.Frag} {x C f : Addr} {ox : Obj} {odd : Option Obj}
end
section
variable {X : Cx} {k : Nat} {C f : Addr} {fd : FuncData} {ps : List Str} {sp : Sp}
end
section
variable {X : Cx} {z : Zx} {cn k : Nat} {c : Con} {a : Addr} {p pos : Pos} {e : Expr} {wa : WA} {x : Str}
end
end Pk

/-! The data layer, part ZF: a dict display of texts, list.insert. -/
namespace Pk
open PySem PySem.Spec PyProof.Rows L2
/-! ### {"a": "b", ..} -/
section
variable {X : Cx} {z : Zx} {pos : Pos}
end
/-! ### xs.insert(i, y) -/
section
variable {X : Cx} {z : Zx} {apos pos : Pos} {o e e2 : Expr} {wo : WE} {wa : WA}
end
end Pk

/-! The data layer, part ZL: xs.pop(i). -/
namespace Pk
open PySem PySem.Spec PyProof.Rows L2
section
variable {X : Cx} {z : Zx} {apos pos : Pos} {o e : Expr} {wo : WE} {wa : WA}
end
end Pk

/-! The data layer, part ZN: any tuple == (), a dict in a list of texts. -/
namespace PySem.SeqAt
open AutoSeq1 (wpAny_loadPart')
open MeetsSeq
section
variable {A : Around} {s : Shared}
end
end PySem.SeqAt
namespace Pk
open PySem PySem.Spec PyProof.Rows L2
section
variable {X : Cx} {z : Zx} {e a b : Expr} {p pos : Pos} {wa wb : WE} {w : WA}
/-! ### a dict in a list of texts -/
end
end Pk

/-! The data layer, part ZO: repr of data in which empty dicts and greater integers lie. -/
namespace PySem
mutual
/-- what reads as data; dicts within are empty -/
inductive RdZ (h : Heap) : Value → PyData → Prop
  | leaf {v d as} : Reads h v d as → d.hasDict = false → RdZ h v d
  | lst {a o vs n xs} : h.get? a = some o → o.cls = .type "list" → o.data = .seq vs n → RdsZ h vs.toList xs → RdZ h (.ref a) (.list xs)
  | tup {a o vs n xs} : h.get? a = some o → o.cls = .type "tuple" → o.data = .seq vs n → RdsZ h vs.toList xs → RdZ h (.ref a) (.tuple xs)
  | dct {a o n} : h.get? a = some o → o.cls = .type "dict" → o.data = .dict #[] n → (a == sysModules) = false → RdZ h (.ref a) (.dict [])
inductive RdsZ (h : Heap) : List Value → List PyData → Prop
  | nil : RdsZ h [] []
  | cons {v d vs ds} : RdZ h v d → RdsZ h vs ds → RdsZ h (v :: vs) (d :: ds)
end
mutual
theorem RdZ.reads {h : Heap} : ∀ {v : Value} {d : PyData}, RdZ h v d → ∃ as, Reads h v d as
  | _, _, .leaf r _ => ⟨_, r⟩
  | _, _, .lst h1 h2 h3 r => (RdsZ.reads r).elim fun _ q => ⟨_, .list h1 h2 h3 q⟩
  | _, _, .tup h1 h2 h3 r => (RdsZ.reads r).elim fun _ q => ⟨_, .tuple h1 h2 h3 q⟩
  | _, _, .dct h1 h2 h3 _ => ⟨_, .dict h1 h2 h3 .nil .nil⟩
theorem RdsZ.reads {h : Heap} : ∀ {vs : List Value} {ds : List PyData}, RdsZ h vs ds → ∃ as, ReadsAll h vs ds as
  | _, _, .nil => ⟨_, .nil⟩
  | _, _, .cons x r => (RdZ.reads x).elim fun _ p => (RdsZ.reads r).elim fun _ q => ⟨_, .cons p q⟩
end
section
variable {prog : Program} {w : World} {h₀ : Heap}
mutual
theorem RdZ.text : ∀ {v : Value} {d : PyData}, RdZ h₀ v d → d.showable = true → d.shown.length ≤ sizeLine → ∃ bs, ReadAtMost h₀ d.depth bs ∧ ReprK prog w bs h₀ d.depth v d.shown
  | _, _, .leaf r nd, sh, sz => ReprK.of_reads r sh (PyData.noDict_hsm nd) sz
  | _, _, .dct (a := a) h1 h2 h3 hs, sh, sz => ReprK.of_reads (.dict h1 h2 h3 .nil .nil) sh (fun _ m => by
      have m : sysModules ∈ [a] := m
      have e := List.mem_singleton.mp m
      exact beq_eq_false_iff_ne.mp hs e.symm) sz
  | _, _, .lst (a := a) (vs := vs) (xs := xs) h1 h2 h3 r, sh, sz => by
    obtain ⟨as, rd⟩ := RdsZ.reads r
    have top : Reads h₀ (.ref a) (.list xs) _ := .list h1 h2 h3 rd
    simp only [PyData.shown] at sz
    obtain ⟨bs, ha, hk⟩ := RdsZ.text r (by simpa only [PyData.showable] using sh) fun t ht => Nat.le_trans (listText_mem_le ht) sz
    have no : a ∉ bs := not_mem_of_deeper top (by simp only [PyData.depth]; omega) ha
    refine ⟨a :: bs, ReadAtMost.cons top (Nat.le_of_lt (by simp only [PyData.depth]; omega)) ha, ?_⟩
    simp only [PyData.shown, PyData.depth]
    rcases vs with ⟨us⟩
    rcases us with _ | ⟨x, us⟩
    · cases (show RdsZ h₀ [] xs from r)
      rw [PyData.shownAll, listText_nil]
      exact .listEmpty h1 h2 h3
    · exact .list h1 h2 h3 no (by rw [hk.length_eq]; rfl) fun i y e => hk.item i y (by simpa using e)
  | _, _, .tup (a := a) (xs := xs) h1 h2 h3 r, sh, sz => by
    obtain ⟨as, rd⟩ := RdsZ.reads r
    have top : Reads h₀ (.ref a) (.tuple xs) _ := .tuple h1 h2 h3 rd
    simp only [PyData.shown] at sz
    obtain ⟨bs, ha, hk⟩ := RdsZ.text r (by simpa only [PyData.showable] using sh) fun t ht => Nat.le_trans (tupleText_mem_le ht) sz
    have no : a ∉ bs := not_mem_of_deeper top (by simp only [PyData.depth]; omega) ha
    refine ⟨a :: bs, ReadAtMost.cons top (Nat.le_of_lt (by simp only [PyData.depth]; omega)) ha, ?_⟩
    simp only [PyData.shown, PyData.depth]
    exact .tuple h1 h2 h3 no hk
theorem RdsZ.text : ∀ {vs : List Value} {ds : List PyData}, RdsZ h₀ vs ds → PyData.showableAll ds = true → (∀ t ∈ PyData.shownAll ds, t.length ≤ sizeLine) →
    ∃ bs, ReadAtMost h₀ (PyData.depthAll ds) bs ∧ ReprAllK prog w bs h₀ (PyData.depthAll ds) vs (PyData.shownAll ds)
  | _, _, .nil, _, _ => ⟨[], fun _ z => (nomatch z), .nil⟩
  | _, _, .cons (d := d) (ds := ds) x r, sh, sz => by
    simp only [PyData.showableAll, Bool.and_eq_true] at sh
    simp only [PyData.shownAll] at sz
    obtain ⟨b1, m1, k1⟩ := RdZ.text x sh.1 (sz _ List.mem_cons_self)
    obtain ⟨b2, m2, k2⟩ := RdsZ.text r sh.2 fun t ht => sz t (List.mem_cons_of_mem _ ht)
    simp only [PyData.depthAll, PyData.shownAll]
    exact ⟨b1 ++ b2, (m1.mono (Nat.le_max_left ..)).append (m2.mono (Nat.le_max_right ..)), .cons ((k1.more fun b z => List.mem_append.mpr (.inl z)).level_le (Nat.le_max_left ..)) (k2.more_le (fun b z => List.mem_append.mpr (.inr z)) (Nat.le_max_right ..))⟩
end
end
end PySem
namespace Pk
open PySem PySem.Spec PyProof.Rows L2
def isEmpD : List (DK × D) → Bool
  | [] => true
  | _ :: _ => false
mutual
/-- data that repr shows: empty dicts too -/
def pureZ : Nat → D → Bool
  | _, .non => true
  | _, .bl _ => true
  | _, .int _ => true
  | _, .str s => s.all fun c => Nat.blt c 1114112
  | _, .dct kvs => isEmpD kvs
  | 0, .tup _ => false
  | 0, .lst _ => false
  | 0, .ttp _ => false
  | n + 1, .tup xs => puresZ n xs
  | n + 1, .ttp xs => puresZ n xs
  | n + 1, .lst xs => puresZ n xs
  | _, _ => false
def puresZ : Nat → List D → Bool
  | _, [] => true
  | n, x :: xs => match pureZ n x with
    | true => puresZ n xs
    | false => false
end
mutual
def toPyZ : D → PyData
  | .bl b => .bool b
  | .int i => .int i
  | .str s => .str (tx s)
  | .tup xs => .tuple (toPysZ xs)
  | .ttp xs => .tuple (toPysZ xs)
  | .lst xs => .list (toPysZ xs)
  | .dct _ => .dict []
  | _ => .none
def toPysZ : List D → List PyData
  | [] => []
  | x :: xs => toPyZ x :: toPysZ xs
end
mutual
def wtZ : D → Option Nat
  | .non => some 0
  | .bl _ => some 0
  | .dct _ => some 0
  | .int i => match Nat.blt i.natAbs 10000000000000000000000000000000000000000 with
    | true => some 141
    | false => none
  | .str s => some s.length
  | .tup xs => wtsZ xs
  | .lst xs => wtsZ xs
  | .ttp xs => wtsZ xs
  | _ => none
def wtsZ : List D → Option Nat
  | [] => some 0
  | x :: r => match wtZ x, wtsZ r with
    | some a, some b => some (a + 1 + b)
    | _, _ => none
end
theorem int_sh {i : Int} (h : i.natAbs < 10 ^ 40) : (PyData.shown (.int i)).length ≤ 41 := by
  have e := int_text_length_le10 (k := 40) (by decide) h
  show (Str.ofString (toString i)).length ≤ 41
  rw [PySem.ofString_length]
  exact e
mutual
theorem wt_pyZ : ∀ (n : Nat) (d : D) (w : Nat), pureZ n d = true → wtZ d = some w → (toPyZ d).showable = true ∧ (toPyZ d).leavesShort 41 = true ∧ (toPyZ d).weight ≤ w ∧ (toPyZ d).depth ≤ n + 1
  | _, .non, w, _, e => by
    cases e
    exact ⟨rfl, rfl, Nat.le_refl _, Nat.zero_le _⟩
  | _, .bl _, w, _, e => by
    cases e
    exact ⟨rfl, rfl, Nat.le_refl _, Nat.zero_le _⟩
  | _, .dct _, w, _, e => by
    cases e
    exact ⟨rfl, rfl, Nat.le_refl _, by show 1 ≤ _; omega⟩
  | _, .str s, w, h, e => by
    unfold wtZ at e
    injection e with e
    subst e
    refine ⟨rfl, ?_, ?_, Nat.zero_le _⟩
    · show ((tx s).cps.toList.all fun c => decide (c < 16 ^ 8)) = true
      have et : (tx s).cps.toList = s := by simp [tx]
      rw [et]
      unfold pureZ at h
      rw [List.all_eq_true] at h ⊢
      intro c hc
      have := Nat.le_of_ble_eq_true (show Nat.ble (c + 1) 1114112 = true from h c hc)
      exact decide_eq_true (by omega)
    · show (tx s).cps.size ≤ s.length
      unfold tx
      simp
  | _, .int i, w, _, e => by
    unfold wtZ at e
    split at e
    · rename_i q
      injection e with e
      subst e
      have lt : i.natAbs < 10 ^ 40 := Nat.le_of_ble_eq_true q
      have l2 : i.natAbs.log2 < 140 := by
        by_cases z : i.natAbs = 0
        · rw [z]; decide
        · exact (Nat.log2_lt z).mpr (Nat.lt_trans lt (by decide))
      refine ⟨decide_eq_true (Nat.lt_trans l2 (by decide)), decide_eq_true (int_sh lt), ?_, Nat.zero_le _⟩
      show (if i == 0 then 0 else i.natAbs.log2 + 1) ≤ 141
      split <;> omega
    · cases e
  | 0, .tup _, _, h, _ => by simp [pureZ] at h
  | 0, .lst _, _, h, _ => by simp [pureZ] at h
  | 0, .ttp _, _, h, _ => by simp [pureZ] at h
  | n + 1, .tup xs, w, h, e => wt_seqZ n xs w (by simpa [pureZ] using h) e
  | n + 1, .ttp xs, w, h, e => wt_seqZ n xs w (by simpa [pureZ] using h) e
  | n + 1, .lst xs, w, h, e => wt_seqZ n xs w (by simpa [pureZ] using h) e
  | n, .scr _, _, h, _ => by cases n <;> simp [pureZ] at h
  | n, .ins _ _, _, h, _ => by cases n <;> simp [pureZ] at h
  | n, .mref _, _, h, _ => by cases n <;> simp [pureZ] at h
  | n, .cls _, _, h, _ => by cases n <;> simp [pureZ] at h
  | n, .ty _, _, h, _ => by cases n <;> simp [pureZ] at h
  | n, .ptp _, _, h, _ => by cases n <;> simp [pureZ] at h
  | n, .err _ _, _, h, _ => by cases n <;> simp [pureZ] at h
  | n, .dcp _ _, _, h, _ => by cases n <;> simp [pureZ] at h
  | n, .dco _, _, h, _ => by cases n <;> simp [pureZ] at h
theorem wt_seqZ : ∀ (n : Nat) (xs : List D) (w : Nat), puresZ n xs = true → wtsZ xs = some w → PyData.showableAll (toPysZ xs) = true ∧ PyData.leavesShortAll 41 (toPysZ xs) = true ∧ PyData.weightAll (toPysZ xs) ≤ w ∧ PyData.depthAll (toPysZ xs) + 1 ≤ n + 1 + 1
  | _, [], w, _, e => by
    cases e
    exact ⟨rfl, rfl, Nat.le_refl _, by show 0 + 1 ≤ _; omega⟩
  | n, x :: r, w, h, e => by
    unfold puresZ at h
    unfold wtsZ at e
    cases q : pureZ n x with
    | false => rw [q] at h; cases h
    | true =>
      rw [q] at h
      cases e1 : wtZ x with
      | none => rw [e1] at e; cases e
      | some a =>
        cases e2 : wtsZ r with
        | none => rw [e1, e2] at e; cases e
        | some b =>
          rw [e1, e2] at e
          injection e with e
          subst e
          obtain ⟨a1, a2, a3, a4⟩ := wt_pyZ n x a q e1
          obtain ⟨b1, b2, b3, b4⟩ := wt_seqZ n r b h e2
          refine ⟨?_, ?_, ?_, ?_⟩
          · show ((toPyZ x).showable && PyData.showableAll (toPysZ r)) = true
            rw [a1, b1]
            rfl
          · show ((toPyZ x).leavesShort 41 && PyData.leavesShortAll 41 (toPysZ r)) = true
            rw [a2, b2]
            rfl
          · show (toPyZ x).weight + 1 + PyData.weightAll (toPysZ r) ≤ a + 1 + b
            omega
          · show max (toPyZ x).depth (PyData.depthAll (toPysZ r)) + 1 ≤ _
            omega
end
section
variable {X : Cx} {pins : List (Addr × Obj)} {σ : L2.St} {H : Hp} {s : Shared}
mutual
theorem rep_rdZ (I : Inv X pins σ H s) {T : Tab} {F : Hp} {m : List Addr} (S : Same F H) : ∀ (n : Nat) (d : D) (v : V) (u : Value), pureZ n d = true → Rep X.K T F m d v → RelV v u → RdZ s.heap u (toPyZ d)
  | _, .non, _, _, _, r, rv => by
    cases r
    cases rv
    exact .leaf .none rfl
  | _, .bl b, _, _, _, r, rv => by
    cases r
    cases rv
    exact .leaf (.bool b) rfl
  | _, .int i, _, _, _, r, rv => by
    cases r
    obtain ⟨t, rfl⟩ := rv
    exact .leaf (.int i t) rfl
  | _, .str x, _, _, _, r, rv => by
    cases r
    obtain ⟨t, rfl⟩ := rv
    exact .leaf (.str _ t) rfl
  | _, .dct [], _, _, _, r, rv => by
    cases r with
    | dct h rk =>
      cases rk
      cases rv
      obtain ⟨_, _, hs, vs, kv, o, es, ep, h1, h2, h3, _, h4, _⟩ := (show ObjOk X.prog X.w H s.heap _ (.frz _ (.dK [])) from I.hok _ _ (S _ _ h))
      cases kv
      have ee : es = #[] := by
        rcases es with ⟨l⟩
        cases (show Pairs _ l [] from h4)
        rfl
      subst ee
      exact .dct h1 h2.1 h3 hs
  | n, .dct (_ :: _), _, _, h, _, _ => by cases n <;> simp [pureZ, isEmpD] at h
  | 0, .tup _, _, _, h, _, _ => by simp [pureZ] at h
  | 0, .lst _, _, _, h, _, _ => by simp [pureZ] at h
  | 0, .ttp _, _, _, h, _, _ => by simp [pureZ] at h
  | n + 1, .tup xs, _, _, h, r, rv => by
    cases r with
    | tup h1 r1 =>
      cases rv
      obtain ⟨its, vs, ⟨o, ho, hc, k, hd⟩, _⟩ := I.tuple (Same.sqt S h1)
      exact .tup ho hc hd (reps_rdZ I S n xs _ _ (by simpa [pureZ] using h) r1 vs)
  | n + 1, .ttp xs, _, _, h, r, rv => by
    cases r with
    | ttp h1 r1 =>
      cases rv
      obtain ⟨its, vs, ⟨o, ho, hc, k, hd⟩, _⟩ := I.tuple (SqT.of (S _ _ h1))
      exact .tup ho hc hd (reps_rdZ I S n xs _ _ (by simpa [pureZ] using h) r1 vs)
  | n + 1, .lst xs, _, _, h, r, rv => by
    cases r with
    | lst h1 r1 =>
      cases rv
      obtain ⟨its, vs, ⟨o, k, ho, hc, _, hd⟩, _⟩ := I.list (.inl (.inl (S _ _ h1)))
      exact .lst ho hc hd (reps_rdZ I S n xs _ _ (by simpa [pureZ] using h) r1 vs)
  | n, .scr _, _, _, h, _, _ => by cases n <;> simp [pureZ] at h
  | n, .ins _ _, _, _, h, _, _ => by cases n <;> simp [pureZ] at h
  | n, .mref _, _, _, h, _, _ => by cases n <;> simp [pureZ] at h
  | n, .cls _, _, _, h, _, _ => by cases n <;> simp [pureZ] at h
  | n, .ty _, _, _, h, _, _ => by cases n <;> simp [pureZ] at h
  | n, .ptp _, _, _, h, _, _ => by cases n <;> simp [pureZ] at h
  | n, .err _ _, _, _, h, _, _ => by cases n <;> simp [pureZ] at h
  | n, .dcp _ _, _, _, h, _, _ => by cases n <;> simp [pureZ] at h
  | n, .dco _, _, _, h, _, _ => by cases n <;> simp [pureZ] at h
theorem reps_rdZ (I : Inv X pins σ H s) {T : Tab} {F : Hp} {m : List Addr} (S : Same F H) : ∀ (n : Nat) (ds : List D) (vs : List V) (us : List Value), puresZ n ds = true → Reps X.K T F m ds vs → Vals vs us → RdsZ s.heap us (toPysZ ds)
  | _, [], _, _, _, r, rv => by
    cases r
    cases rv
    exact .nil
  | n, d :: ds, _, _, h, r, rv => by
    unfold puresZ at h
    cases q : pureZ n d with
    | false => rw [q] at h; cases h
    | true =>
      rw [q] at h
      cases r with
      | cons r1 r2 =>
        cases rv with
        | cons v1 v2 => exact .cons (rep_rdZ I S n d _ _ q r1 v1) (reps_rdZ I S n ds _ _ h r2 v2)
end
end

section
variable {X : Cx} {z : Zx} {e : Expr} {p pos : Pos} {w : WA}
end
end Pk

/-! The data layer, part ZP: str.upper. -/
namespace Pk
open PySem PySem.Spec PyProof.Rows L2
section
variable {X : Cx} {z : Zx} {o : Expr} {wo : WE} {apos pos : Pos}
end
end Pk

/-! The data layer, part ZC: list(zip(a, b)) of two tuples or of two lists. -/
namespace Pk
open PySem PySem.Spec PyProof.Rows L2
section
open PySem.Sem (wp)
variable {prog : Program} {w : World} {A : Around} {E : Value → Shared → Prop} {s : Shared}
end
/-! ### T -/
section
variable {X : Cx} {pins : List (Addr × Obj)} {σ : L2.St} {A : Around} {R : Result → Shared → Prop} {z TI TO i1 i2 a b S : Addr} {res : Value} {H0 : Hp} {xs ys : List V} {q : List V → Hp → Prop}
end
/-! ### L -/
section
variable {X : Cx} {pins : List (Addr × Obj)} {σ : L2.St} {A : Around} {R : Result → Shared → Prop} {z TI TO i1 i2 a b S : Addr} {res : Value} {H0 : Hp} {xs ys : List V} {q : List V → Hp → Prop}
end
section
variable {X : Cx} {pins : List (Addr × Obj)} {σ : L2.St} {A : Around} {z TI TO i1 i2 a b : Addr} {H : Hp} {xs ys : List V} {q : List V → Hp → Prop} {s : Shared} {u v : Value}
end
section
variable {X : Cx} {pins : List (Addr × Obj)} {σ : L2.St} {A : Around} {z TI TO i1 i2 a b : Addr} {H : Hp} {xs ys : List V} {q : List V → Hp → Prop} {s : Shared} {u v : Value}
end
section
variable {X : Cx} {z : Zx} {e e2 : Expr} {p p2 pos q : Pos} {ta : TA} {wa : WA}
/-! ### of data -/
end
end Pk

/-! The data layer, part ZD: == of two instances with an own __eq__. -/
namespace Pk
open PySem PySem.Spec PyProof.Rows L2
section
variable {X : Cx} {k : Nat} {C f : Addr} {fd : FuncData} {ps : List Str} {sp : Sp}
end
section
variable {X : Cx} {z : Zx} {cn k : Nat} {c : Con} {a : Addr} {e o : Expr} {we wo : WE} {pos : Pos} {x y : Str}
end
end Pk

/-! The data layer, part ZU: xs.pop(), and != of two instances with an own __eq__. -/
namespace Pk
open PySem PySem.Spec PyProof.Rows L2
section
variable {X : Cx} {z : Zx} {apos pos : Pos} {o : Expr} {wo : WE}
end
/-! ### != -/
section
variable {M : Model} {prog : Program} {w : World} {A : Around} {E : Value → Shared → Prop} {s : Shared} {K : PySem.W.Frag} {x y C f : Addr} {ox : Obj} {od : Option Obj}
theorem objNe_entry (X : K.In s.heap) (I : PySem.W.InstAt s.heap x ox C od) (hs : PySem.W.findIn K (.ref C) "__eq__" = some (some (.ref f))) (hf : PySem.W.isFn K (.ref f) = true) (hu : A.units < cLine) {Q : PySem.Fin → Shared → Prop}
    (hcall : wpAny (model prog w) A (call (.ref f) [.ref x, .ref y]) (fun v s' => ∃ b, v = .bool b ∧ Q (.done (.ret (.bool (!b)))) s') E s) :
    wpAny (model prog w) A (Builtin.«object.__ne__» ⟨[.ref x, .ref y], []⟩) Q E s := by
  unfold Builtin.«object.__ne__»
  repeat (first
    | with_reducible refine wpAny_cRoomFor hu ?_
    | (refine wpAny_bind (m := callSpecialIfBound? (.ref x) (Str.ofString "__eq__") [.ref y])
        (PySem.W.ifBound_K X I hs hf (wpAny_mono hcall (fun r s' hr => by
          obtain ⟨b, rfl, hq⟩ := hr
          repeat (first | exact hq | exact wpAny_pure hq | exact wpAny_truthy_bool hq | (refine wpAny_bind (m := truthy (.bool _)) (wpAny_truthy_bool ?_)) | wp_step)) fun _ _ e => e)))
    | wp_step)
theorem ifBound_objNe {args : List Value} {Q : Option Value → Shared → Prop} (X : K.In s.heap) (I : PySem.W.InstAt s.heap x ox C od) (hs : PySem.W.findIn K (.ref C) "__ne__" = some (some (.builtin "object.__ne__")))
    (h : wpAny M A (call (.builtin "object.__ne__") (.ref x :: args)) (fun v => Q (some v)) E s) : wpAny M A (callSpecialIfBound? (.ref x) "__ne__" args) Q E s := by
  simp only [callSpecialIfBound?, bindSpecialIfBound?]
  refine wpAny_holding (wpAny_bind (wpAny_bind (wpAny_bind (I.type.here ((PySem.W.looks_findIn X hs).here ?_)))))
  refine wpAny_bind (wpAny_askSetting (wpAny_ite ?_))
  have fin : wpAny M A (call (.builtin "object.__ne__") ([.ref x] ++ args) >>= fun v => pure (some v)) Q E s := wpAny_bind (wpAny_mono h (fun v s' h' => wpAny_pure h') fun _ _ h' => h')
  split
  · exact wpAny_bind (wpAny_of_eq (F.cmp_object.ne.bind _) (wpAny_pure (by exact fin)))
  · exact wpAny_tryCatch (wpAny_bind (wpAny_of_eq (F.cmp_object.ne.bind _) (wpAny_pure (by exact fin))))
theorem rc_ne {oy : Obj} {od' : Option Obj} (hu : A.units + 1 < cLine) (X : K.In s.heap) (I : PySem.W.InstAt s.heap x ox C od) (J : PySem.W.InstAt s.heap y oy C od') (hm : PySem.W.mroIn K C (.type "object") = some true)
    (hn : PySem.W.findIn K (.ref C) "__ne__" = some (some (.builtin "object.__ne__"))) (hs : PySem.W.findIn K (.ref C) "__eq__" = some (some (.ref f))) (hf : PySem.W.isFn K (.ref f) = true) {Q : Value → Shared → Prop}
    (hcall : wpAny (model prog w) A.in1 (call (.ref f) [.ref x, .ref y]) (fun v s' => ∃ b, v = .bool b ∧ Q (.bool (!b)) s') E s) : wpAny (model prog w) A (richCompare .NotEq (.ref x) (.ref y)) Q E s := by
  have one : wpAny (model prog w) A (tryCompare (.ref x) "__ne__" (.ref y)) (fun r s' => ∃ v, r = some v ∧ Q v s') E s := by
    unfold tryCompare
    refine wpAny_bind (ifBound_objNe X I hn (wpAny_call (codeAny_call_builtin F.cmp_object.ne.plain F.cmpEntry_ne (PySem.W.check_slot F.cmpKind_ne F.cmpSplit_ne (I.type.andThen (PySem.W.looks_mroIn X hm)) (F.cmpArgs_ne _ _)
      (objNe_entry (A := A.in1) X I hs hf hu (wpAny_mono hcall (fun v s' hv => ?_) fun _ _ e => e))))))
    obtain ⟨b, rfl, hq⟩ := hv
    first | exact ⟨b, rfl, wpAny_pure ⟨_, rfl, hq⟩⟩ | exact ⟨b, rfl, wpAny_pure (wpAny_pure ⟨_, rfl, hq⟩)⟩
  unfold richCompare
  simp only [oneThing_ref, cmpInfo_NotEq]
  refine wpAny_holding (wpAny_bind (wpAny_cRoomFor (Nat.lt_of_succ_lt hu) ?_))
  refine wpAny_bind (I.type.here (wpAny_bind (J.type.here ?_)))
  rw [show (Value.ref C != Value.ref C) = false from by simp]
  simp only [Bool.false_eq_true, if_false]
  refine wpAny_bind (wpAny_pure ?_)
  simp only [Bool.false_eq_true, if_false]
  refine wpAny_bind (wpAny_mono one (fun r s' z => ?_) fun _ _ e => e)
  obtain ⟨v, rfl, hq⟩ := z
  exact wpAny_pure hq
end
def rOwnNe (C : Addr) (sp : Sp) : R2 := fun x y H Q => ∃ a dx fs b dy gs, x = .ref a ∧ y = .ref b ∧ H a = some (.ins C dx fs) ∧ H b = some (.ins C dy gs) ∧ sp [x, y] H (fun z H' => ∃ b : Bool, z = .bl b ∧ Q (.bl (!b)) H') (fun _ _ _ => False)
section
variable {X : Cx} {k : Nat} {C f : Addr} {fd : FuncData} {ps : List Str} {sp : Sp}
theorem op_ownNe (hs : PySem.W.findIn X.K (.ref C) "__eq__" = some (some (.ref f))) (hf : PySem.W.isFn X.K (.ref f) = true) (hn : PySem.W.findIn X.K (.ref C) "__ne__" = some (some (.builtin "object.__ne__"))) (hm : PySem.W.mroIn X.K C (.type "object") = some true)
    (Fo : FnOk X.prog X.w X.K X.mg X.base (L2.CX X.prog X.w) k f fd ps sp) (rm : Room (k + 1) X.A) (bd : Binds X.K fd ps []) : OpR X (compareOp .NotEq) (rOwnNe C sp) := by
  intro pins s σ H x y v u Q I rx ry h
  obtain ⟨a, dx, fs, b, dy, gs, rfl, rfl, ha, hb, z⟩ := h
  cases (show v = Value.ref a from rx)
  cases (show u = Value.ref b from ry)
  obtain ⟨mA, O, -⟩ := ins_get I.hok ha
  obtain ⟨od, J, -⟩ := O.look
  obtain ⟨mB, O', -⟩ := ins_get I.hok hb
  obtain ⟨od', J', -⟩ := O'.look
  have nl : ([Value.ref a, Value.ref b] ++ ([] : List Value)).length = ps.length := by
    rw [← Fo.len _ _ _ _ z]
    rfl
  have go := Fo.run X.A.in1 X.stack s H ⟨[.ref a, .ref b], []⟩ [.ref a, .ref b] [.ref a, .ref b] _ _ rm.in1 I.env0.in1 (bd _ [.ref a, .ref b] I.kIn nl) (.cons rfl (.cons rfl .nil)) z
  show wpAny _ _ (richCompare .NotEq _ _) _ _ _
  refine rc_ne rm.in1.toRoom.units0 I.kIn J J' hm hn hs hf (wpAny_call (codeAny_mono go fun r t2 => ?_))
  match r with
  | .error er => exact fun q => (pass_no (Y := X.nox) pins σ H s er t2 (I.wish _) q).elim
  | .ok (.ret u) =>
    intro q
    obtain ⟨v, G, I3, rv, b, ev, q3⟩ := I.after q
    subst ev
    cases (show u = Value.bool b from rv)
    exact ⟨b, rfl, .bl (!b), G, I3, rfl, q3⟩
  | .ok .next => exact fun q => q.elim
  | .ok .brk => exact fun q => q.elim
  | .ok .cont => exact fun q => q.elim
end
/-- x != y, both of the class cn, whose __eq__ is c -/
def wNeO (cn : Nat) (c : Con) (wa wb : WE) : WE := fun ρ μ Q E => wa ρ μ (fun x μ1 => wb ρ μ1 (fun y μ2 => match look μ2 x, look μ2 y with
  | .ins c1 _, .ins c2 _ => match Nat.beq c1 cn && Nat.beq c2 cn with
    | true => c [x, y] μ2 (fun d μ' => match d with
      | .bl b => Q (.bl (!b)) μ'
      | _ => False) nox
    | false => False
  | _, _ => False) E) E
section
variable {X : Cx} {z : Zx} {cn k : Nat} {c : Con} {a : Addr} {e o : Expr} {we wo : WE} {pos : Pos} {x y : Str}
theorem neO_run {sp : Sp} {Wd : WXd} (hsp : sp = spD X.K z.T c 2) {σ : L2.St} {H : Hp} {Q : VK} (h : tD X.K z Wd (wNeO cn c we wo) σ H Q) : tOp (rOwnNe (z.T.ca cn) sp) (tD X.K z Wd we) (tD X.K z Wd wo) σ H Q := by
  subst hsp
  obtain ⟨F, m, μ, ρ, Qd, S, h, kk⟩ := h
  refine ⟨F, m, μ, ρ, _, S, h, fun F1 m1 μ1 d1 v1 H1 x1 S1 r1 q1 => ⟨F1, m1, μ1, ρ, _, S1, q1, fun F2 m2 μ2 d2 v2 H2 x2 S2 r2 q2 => ?_⟩⟩
  have w1 := S2.view (r1.mono x2.gr)
  have w2' := S2.view r2
  split at q2
  · rename_i c1 fs c2 gs h1 h2
    rw [h1] at w1
    rw [h2] at w2'
    split at q2
    · rename_i hc
      obtain ⟨e1, e2⟩ := Bool.and_eq_true_iff.mp hc
      have e1 := Nat.eq_of_beq_eq_true e1
      have e2 := Nat.eq_of_beq_eq_true e2
      subst e1 e2
      obtain ⟨a1, dx, us, rfl, i1, _⟩ := w1.inst S2.same
      obtain ⟨a2, dy, ws, rfl, i2, _⟩ := w2'.inst S2.same
      refine ⟨a1, dx, _, a2, dy, _, rfl, rfl, i1, i2, sp_run S2 (.cons (r1.mono x2.gr) (.cons r2 .nil)) rfl q2 (fun F4 m4 μ4 d4 v4 H4 x4 S4 r4 q4 => ?_) fun _ _ _ _ _ _ _ _ _ _ q => q⟩
      split at q4
      · cases r4
        exact ⟨_, rfl, kk F4 m4 μ4 _ _ H4 (x1.trans (x2.trans x4)) S4 .bl q4⟩
      · exact q4.elim
    · exact q2.elim
  · exact q2.elim
theorem t_neO (ok : OkF X.prog X.w X.K X.mg X.base z.T k a [x, y] c) (mf : Meth X.K (z.T.ca cn) "__eq__" a) (hr : Room (k + 1) X.A) (ha : DE X z e we) (hb : DE X z o wo) (hn : NeF X.K (z.T.ca cn)) (hm : behindInMarks .NotEq o = false := by rfl) : DT X z (.Compare e [.NotEq] [o] pos) (tBl (wNeO cn c we wo)) := by
  obtain ⟨fd, F, b, kp⟩ := ok.ex
  exact fun Wd tk => ptI (pt_cmpR (op_ownNe mf.at_ mf.fn hn.1 hn.2 F hr b) (ha Wd tk) (hb Wd tk) hm) fun σ H Q h => by
    obtain ⟨F, m, μ, ρ, Qd, S, h, k⟩ := h
    refine neO_run rfl ⟨F, m, μ, ρ, _, S, h, fun F1 m1 μ1 d1 v1 H1 x1 S1 r1 q1 => ?_⟩
    cases r1 with
    | bl => exact ⟨_, rfl, k _ _ _ _ _ x1 S1 q1⟩
    | _ => exact q1.elim
end
end Pk

/-! The data layer, part YM: {**a, **b}. -/
namespace Pk
open PySem PySem.Spec PyProof.Rows L2
section
variable {prog : Program} {w : World} {K : Type} [DecidableEq K] {knd : PySem.KeyKind prog w K} {A : Around} {E : Value → Shared → Prop} {s : Shared}
theorem wpAny_dictPut_pairs {d : Addr} {kvs : List (K × Value)} {k : K} {key v : Value} {Q : Unit → Shared → Prop} (hkey : knd.is k key = true) (hm : s.heap.DictOf knd d kvs)
    (hQ : ∀ h', h'.DictOf knd d (stored kvs k v) → Heap.SameBut d s.heap h' → Q () { s with heap := h' })
    (hsz : kvs.length ≤ sizeLine := by size_fits) :
    wpAny (model prog w) A (dictPut d (knd.hash k) key v) Q E s := by
  obtain ⟨o, es, ep, ho, hc, hd, hk, hp, hn⟩ := hm
  have hes : es.size ≤ sizeLine := by have e1 := hp.length; have e2 : es.toList.length = es.size := by simp
                                      omega
  unfold dictPut
  refine wpAny_bind (wpAny_dictFind_of hkey ho hd hk ?_)
  have hidx : (es.findIdx? fun e => knd.is k e.key) = kvs.findIdx? fun kv => decide (kv.1 = k) := by
    rw [← hp.findIdx k]; obtain ⟨l⟩ := es; simp
  cases hi : es.findIdx? fun e => knd.is k e.key with
  | some i =>
    refine wpAny_updateDict ho hd (hQ _ ⟨_, _, ep, Heap.get?_update_self _ ho (Obj.isFreed_of_dict (Obj.data_mapDict hd _)),
      hc.mapDict _, Obj.data_mapDict hd _, hk.modify _ _, ?_, ?_⟩ (Heap.SameBut.update ..))
    · rw [stored, if_pos (any_of_findIdx_some (hidx ▸ hi))]
      have hl : (es.toList.findIdx? fun e => knd.is k e.key) = some i := by rw [← hi]; obtain ⟨l⟩ := es; simp
      have := hp.modify hn hl v
      obtain ⟨l⟩ := es
      simpa using this
    · rw [stored, if_pos (any_of_findIdx_some (hidx ▸ hi)), keys_map_store]; exact hn
  | none =>
    have hnot : k ∉ kvs.map (·.1) := not_mem_of_findIdx_none (hidx ▸ hi)
    have hany : ¬ (kvs.any fun kv => decide (kv.1 = k)) = true := by
      rw [List.any_eq_true]; rintro ⟨kv, hkv, he⟩
      exact hnot (List.mem_map.mpr ⟨kv, hkv, of_decide_eq_true he⟩)
    refine wpAny_updateDictKeys (hz := hes) ho hd (hQ _ ⟨_, _, ep + 1, Heap.get?_update_self _ ho (Obj.isFreed_of_dict (Obj.data_mapDictKeys hd _)),
      hc.mapDictKeys _, Obj.data_mapDictKeys hd _, hk.push hkey _, ?_, ?_⟩ (Heap.SameBut.update ..))
    · rw [stored, if_neg hany]
      have := hp.append hkey (knd.hash k) v
      obtain ⟨l⟩ := es
      simpa using this
    · rw [stored, if_neg hany, List.map_append, List.nodup_append]
      refine ⟨hn, by simp, ?_⟩
      intro a ha b hb
      simp only [List.map_cons, List.map_nil, List.mem_singleton] at hb
      subst hb
      exact fun e => hnot (e ▸ ha)
theorem wpAny_mergeMapping {d o : Addr} {kvs more : List (K × Value)} {Q : Unit → Shared → Prop} (hdo : d ≠ o) (hoS : (o == sysModules) = false)
    (hd : s.heap.DictOf knd d kvs) (ho : s.heap.DictOf knd o more)
    (hQ : ∀ h', h'.DictOf knd d (merged kvs more) → h'.DictOf knd o more → Heap.SameBut d s.heap h' → Q () { s with heap := h' })
    (hsz : kvs.length + more.length ≤ sizeLine := by size_fits) :
    wpAny (model prog w) A (mergeMapping d (.ref o) false) Q E s := by
  obtain ⟨od, esd, epd, hod, hcd, hdd, hkd, hpd, hnd⟩ := id hd
  obtain ⟨oo, eso, epo, hoo, hco, hdo', hko, hpo, hno⟩ := id ho
  have hlen : more.length = eso.size := by rw [← hpo.length]; simp
  have hnr : ∀ k v, knd.is k v = true → ∀ a, v ≠ .ref a := fun k v hk a e => by
    have c := knd.byValue k v hk
    rw [e] at c
    cases c
  unfold mergeMapping
  refine wpAny_bind (wpAny_isInstance (T := "dict") (b := true) ho.typeIs (by first | exact isSubtype_dict_dict | exact F.sub_dict_dict | (rw [isSubtype_type]; kernel_rfl)) ?_)
  dsimp only
  rw [if_pos rfl]
  refine wpAny_bind (wpAny_specialOf ho.typeIs F.slot_dict_iter.lookup (wpAny_bind (wpAny_pure ?_)))
  rw [show ((some (Value.builtin "dict.__iter__") == some (Value.builtin "dict.__iter__")) = true) from by decide]
  dsimp only
  rw [if_neg (by rw [hoS]; exact Bool.false_ne_true)]
  refine wpAny_bind (wpAny_dictEntries hod hdd ?_)
  have loop : wpAny (model prog w) A (do
      let l ← dictEntries o
      have size : Nat := l.size
      let epoch ← dictEpoch o
      forIn (List.range size) PUnit.unit fun i (_ : PUnit) => (do
          let l' ← dictEntries o
          match l'[i]? with
            | some e => do
              holding [e.key, e.val] (dictPut d e.hash e.key e.val)
              let ep' ← dictEpoch o
              if (ep' != epoch) = true then do
                  (unsupported "dict.changed-during-merge" : Sem PUnit)
                  pure (ForInStep.yield PUnit.unit)
                else pure (ForInStep.yield PUnit.unit)
            | _ => do
              (unsupported "dict.changed-during-merge" : Sem PUnit)
              pure (ForInStep.yield PUnit.unit) : Sem (ForInStep PUnit))
      pure ()) Q E s := by
    refine wpAny_bind (wpAny_dictEntries hoo hdo' ?_)
    refine wpAny_bind (wpAny_dictEpoch hoo hdo' ?_)
    refine wpAny_bind ?_
    rw [List.range_eq_range']
    refine wpAny_forIn_list _
      (fun rest _ s' => ∃ h' i, s' = { s with heap := h' } ∧ rest = List.range' i (eso.size - i) ∧ i ≤ eso.size ∧ h'.DictOf knd d (merged kvs (more.take i)) ∧ h'.get? o = some oo ∧ Heap.SameBut d s.heap h')
      _ ?_ ?_ _ _ ⟨s.heap, 0, rfl, by simp, Nat.zero_le _, by simpa [merged] using hd, hoo, Heap.SameBut.refl _ _⟩
    · rintro x rest b s' ⟨h', i, rfl, hr, hi, hd', hoo', hs'⟩
      have hlt : i < eso.size := by
        rcases Nat.lt_or_ge i eso.size with h | h
        · exact h
        · rw [Nat.sub_eq_zero_of_le h] at hr; simp at hr
      obtain ⟨rfl, hrest⟩ : x = i ∧ rest = List.range' (i + 1) (eso.size - (i + 1)) := by
        have e : eso.size - i = (eso.size - (i + 1)) + 1 := by omega
        rw [e, List.range'_succ] at hr
        injection hr with h1 h2
        exact ⟨h1, h2⟩
      refine wpAny_bind (wpAny_dictEntries hoo' hdo' ?_)
      rw [Array.getElem?_eq_getElem hlt]
      obtain ⟨kv, hkv⟩ : ∃ kv, more[x]? = some kv := ⟨more[x]'(by rw [hlen]; exact hlt), List.getElem?_eq_getElem _⟩
      obtain ⟨k, v⟩ := kv
      obtain ⟨hkey, hval⟩ := hpo.get? (e := eso[x]) (by simp [hlt]) hkv
      obtain ⟨k', hkey', hhash⟩ := hko eso[x] (Array.getElem_mem hlt)
      obtain rfl : k' = k := knd.inj _ _ _ hkey' hkey
      show wpAny _ _ (holding [eso[x].key, eso[x].val] (dictPut d eso[x].hash eso[x].key eso[x].val) >>= _) _ _ _
      rw [hhash, hval]
      have hmx : (merged kvs (more.take x)).length ≤ sizeLine := by
        have e1 := merged_length_le kvs (more.take x)
        have e2 : (more.take x).length ≤ more.length := by rw [List.length_take]; omega
        omega
      refine wpAny_bind (wpAny_holding (wpAny_dictPut_pairs (hsz := hmx) hkey hd' fun h'' hd'' hs'' => ?_))
      have hoo'' : h''.get? o = some oo := (hs''.2 o (Ne.symm hdo)).trans hoo'
      refine wpAny_bind (wpAny_dictEpoch hoo'' hdo' ?_)
      rw [if_neg (by simp)]
      exact wpAny_pure ⟨h'', x + 1, rfl, hrest, hlt, by rw [merged_take_succ kvs more x (k', v) hkv]; exact hd'', hoo'', hs'.trans hs''⟩
    · rintro b s' ⟨h', i, rfl, hr, hi, hd', hoo', hs'⟩
      have hin : i = eso.size := by
        rcases Nat.lt_or_ge i eso.size with h | h
        · have e : eso.size - i = (eso.size - (i + 1)) + 1 := by omega
          rw [e, List.range'_succ] at hr; exact nomatch hr
        · exact Nat.le_antisymm hi h
      refine wpAny_pure (hQ h' ?_ ⟨oo, eso, epo, hoo', hco, hdo', hko, hpo, hno⟩ hs')
      rw [hin, ← hlen, List.take_length] at hd'; exact hd'
  split
  · refine wpAny_bind (wpAny_dictEntries hoo hdo' ?_)
    refine wpAny_bind (wpAny_forIn_array' _ (fun rest _ s' => s' = s ∧ ∀ e ∈ rest, e ∈ eso.toList) _ ?_ ?_ _ _ ⟨rfl, fun e he => he⟩)
    · rintro x rest b s' ⟨rfl, hm⟩
      obtain ⟨k', hkey', _⟩ := hko x (Array.mem_toList_iff.mp (hm x (List.mem_cons_self ..)))
      have nr := hnr k' x.key hkey'
      split
      · rename_i a ea
        exact (nr a ea).elim
      · exact wpAny_pure ⟨rfl, fun e he => hm e (List.mem_cons_of_mem _ he)⟩
    · rintro b s' ⟨rfl, -⟩
      exact loop
  · exact loop
end
/-- {**a, **b}: the new dict stands empty while the first is made, holds it while the second is made -/
def tMg2 (t1 t2 : TE) : TE := fun σ H Q => ∀ p, H p = none → t1 σ (upd H p (.dK [])) fun x H1 => ∃ a kvs, x = .ref a ∧ a ≠ p ∧ H1 p = some (.dK []) ∧ Rd H1 a (.dK kvs) ∧
  t2 σ (upd H1 p (.dK (mergeK [] kvs))) fun y H2 => ∃ b more, y = .ref b ∧ b ≠ p ∧ H2 p = some (.dK (mergeK [] kvs)) ∧ Rd H2 b (.dK more) ∧ (mergeK [] kvs).length + more.length ≤ sizeLine ∧ Q (.ref p) (upd H2 p (.dK (mergeK (mergeK [] kvs) more)))
theorem d_merge {X : Cx} {pins : List (Addr × Obj)} {σ : L2.St} {H : Hp} {s : Shared} {d a : Addr} {kvs more : List (Key × V)} {A : Around} {E : Value → Shared → Prop} {Q : Unit → Shared → Prop} (I : Inv X pins σ H s) (hda : d ≠ a) (hd : H d = some (.dK kvs)) (ha : Rd H a (.dK more)) (hz : kvs.length + more.length ≤ sizeLine)
    (h : ∀ s', Inv X pins σ (upd H d (.dK (mergeK kvs more))) s' → Q () s') : wpAny (model X.prog X.w) A (mergeMapping d (.ref a) false) Q E s := by
  obtain ⟨z1, e1, vs1, r1, d1⟩ := dk_of I.hok hd
  obtain ⟨z2, e2, vs2, r2, d2⟩ := dk_rd I.hok ha
  have l1 : vs1.length = kvs.length := (Paired.length r1).symm
  have l2 : vs2.length = more.length := (Paired.length r2).symm
  refine wpAny_mergeMapping (knd := mixKind X.prog X.w) hda e2 d1 d2 (fun h' dd' _ hs => ?_) (by omega)
  have hz' : (mergeK kvs more).length ≤ sizeLine := Nat.le_trans (length_mergeK more kvs) hz
  have he : ∃ q, h'.get? d = some q := let ⟨q, _, _, hq, _⟩ := dd'; ⟨q, hq⟩
  exact h _ (d_write (t' := s.toks) I (by rw [hd]; exact True.intro) hs he (dk_new hz' e1 (r2.merge r1) dd'))
theorem pe_mg2 {X : Cx} {pos : Pos} {e1 e2 : Expr} {t1 t2 : TE} (h1 : PE X e1 t1) (h2 : PE X e2 t2) : PE X (.Dict [none, none] [e1, e2] pos) (tMg2 t1 t2) := by
  refine ⟨fun pins s σ H Q I q => ?_⟩
  have hn := I.hok.fresh (Nat.le_refl s.heap.objs.size)
  have I1 := I.laid (a := s.heap.objs.size) (o := .dK []) (h' := s.heap.push { cls := .type "dict", data := .dict #[] }) (t' := s.toks) (fun _ _ q => Heap.get?_push_of_some _ q) (Nat.le_refl _) (dk_empty s.heap I.big)
  have q1 := q _ hn
  rw [arm_eval_Dict]
  refine wpAny_bind (wpAny_standAt ?_)
  show wpAny _ _ (dictDisplay [(none, do let x ← eval e1 X.env; standAt pos; pure x), (none, do let x ← eval e2 X.env; standAt pos; pure x)]) _ _ _
  unfold dictDisplay
  simp only [List.forIn_cons, List.forIn_nil, List.isEmpty_nil, if_true, pure_bind]
  refine wpAny_bind ?_
  refine wpAny_bind ?_
  refine wpAny_bind (wpAny_alloc ?_)
  refine wpAny_bind (wpAny_holding (wpAny_bind (wpAny_mono (h1.run pins _ σ _ _ I1 q1) (fun v s1 z1 => ?_) fun _ _ e => e)))
  obtain ⟨x, H1, I2, rx, a, kvs, ex, hap, hp1, ha, q2⟩ := z1
  subst ex
  cases (show v = Value.ref a from rx)
  refine wpAny_bind (wpAny_standAt (wpAny_pure ?_))
  have lk : ∀ {xs : List (Key × V)}, ([] : List (Key × V)).length + xs.length ≤ sizeLine ↔ xs.length ≤ sizeLine := by simp
  refine wpAny_bind (wpAny_onRaise (wpAny_tryCatch (wpAny_onRaise (wpAny_holding (d_merge I2 (Ne.symm hap) hp1 ha (lk.mpr (dk_rd I2.hok ha).1) fun s2 I3 => ?_)))))
  refine wpAny_pure ?_
  simp only [List.isEmpty_nil, if_true, pure_bind]
  refine wpAny_bind ?_
  refine wpAny_bind ?_
  refine wpAny_holding (wpAny_bind (wpAny_mono (h2.run pins _ σ _ _ I3 q2) (fun u s3 z2 => ?_) fun _ _ e => e))
  obtain ⟨y, H2, I4, ry, b, more, ey, hbp, hp2, hb, hz, q3⟩ := z2
  subst ey
  cases (show u = Value.ref b from ry)
  refine wpAny_bind (wpAny_standAt (wpAny_pure ?_))
  refine wpAny_bind (wpAny_onRaise (wpAny_tryCatch (wpAny_onRaise (wpAny_holding (d_merge I4 (Ne.symm hbp) hp2 hb hz fun s4 I5 => ?_)))))
  refine wpAny_pure ?_
  simp only [List.isEmpty_nil, if_true, pure_bind]
  refine wpAny_pure ?_
  simp only [List.isEmpty_nil, if_true, pure_bind]
  refine wpAny_pure ?_
  exact ⟨.ref s.heap.objs.size, _, I5, rfl, q3⟩
/-- {**a, **b} of two names -/
def wMgV (own : Bool) (i j : Nat) : WE := fun ρ μ Q _ => match ρ[i]?, ρ[j]? with
  | some (some x), some (some y) => match look μ x, look μ y with
    | .dct kvs, .dct more => match Nat.blt (kvs.length + more.length) 16777216 with
      | true => giveD own (mergeD (mergeD [] kvs) more) μ Q
      | false => False
    | _, _ => False
  | _, _ => False
section
variable {X : Cx} {z : Zx} {pos p1 p2 : Pos}
theorem de_mgv (own : Bool) {i j : Nat} {x y : Str} (hi : X.N[i]? = some x) (hv : Vis X.env.scope x) (hj : X.N[j]? = some y) (hw : Vis X.env.scope y) (hd : (x == ("__debug__" : Str)) = false := by decide) (hcd : (x == ("__classdict__" : Str)) = false := by decide)
    (hd2 : (y == ("__debug__" : Str)) = false := by decide) (hcd2 : (y == ("__classdict__" : Str)) = false := by decide) : DE X z (.Dict [none, none] [.Name x p1, .Name y p2] pos) (wMgV own i j) := fun Wd tk => by
  refine ⟨fun pins s σ H Q I ⟨F, m, μ, ρ, Qd, S, h, k⟩ => ?_⟩
  unfold wMgV at h
  split at h
  · rename_i d e h1 h2
    obtain ⟨v, sv, rv⟩ := S.slot i d h1
    obtain ⟨u, su, ru⟩ := S.slot j e h2
    have wv := S.view rv
    have wu := S.view ru
    split at h
    · rename_i kvs more e1 e2
      rw [e1] at wv
      rw [e2] at wu
      obtain ⟨a, vs, rfl, ra, qa⟩ := wv.dict S.same
      obtain ⟨b, us, rfl, rb, qb⟩ := wu.dict S.same
      split at h
      · rename_i hz
        have hz := Nat.le_of_ble_eq_true hz
        have ne : ∀ {a : Addr} {vs : List (Key × V)} {p : Addr}, Rd H a (.dK vs) → H p = none → a ≠ p := fun {a vs p} r hp q => by
          subst q
          rcases r with r | ⟨o, r⟩ <;> rw [hp] at r <;> cases r
        have up : ∀ {a : Addr} {vs : List (Key × V)} {p : Addr} {o : HO}, Rd H a (.dK vs) → H p = none → Rd (upd H p o) a (.dK vs) := fun {a vs p o} r hp => by
          have n := ne r hp
          rcases r with r | ⟨o, r⟩
          · exact .inl (by rw [upd_ne n]; exact r)
          · exact .inr ⟨o, by rw [upd_ne n]; exact r⟩
        have zl : (mergeK [] vs).length + us.length ≤ sizeLine := by
          have l1 := length_mergeK vs []
          have l2 := qa.length
          have l3 := qb.length
          rw [List.length_nil] at l1
          rw [sizeLine_eq]
          omega
        refine thn ((pe_mg2 (pe_var hi hv hd hcd) (pe_var hj hw hd2 hcd2)).run pins s σ H (fun v H' => ∃ p G, v = .ref p ∧ H' = upd G p (.dK (mergeK (mergeK [] vs) us)) ∧ givD own p (.dK (mergeK (mergeK [] vs) us)) G Q) I fun p hp => ?_) fun w s1 ⟨x, H1, I1, rx, p, G, e, e2, q1⟩ => ?_
        · refine ⟨_, sv, a, vs, rfl, ne ra hp, upd_same, up ra hp, _, su, b, us, rfl, ne rb hp, ?_, ?_, zl, p, H, rfl, ?_, give_dct k S hp (mergeK_V (mergeK_V .nil qa) qb) h⟩
          · rw [upd_upd, upd_same]
          · rw [upd_upd]
            exact up rb hp
          · rw [upd_upd, upd_upd]
        · subst e e2
          cases own with
          | true => exact ⟨_, _, I1, rx, q1⟩
          | false =>
            obtain ⟨o, I2⟩ := I1.lock upd_same trivial
            rw [upd_upd] at I2
            exact ⟨_, _, I2, rx, q1 o⟩
      · exact h.elim
    · exact h.elim
  · exact h.elim
end
end Pk
namespace Pk
open PySem PySem.Spec PyProof.Rows L2
theorem mgv {X : Cx} {z : Zx} {pos p1 p2 : Pos} (own : Bool) (i j : Nat) {x y : Str} (hi : X.N[i]? = some x := by rfl) (hv : Vis X.env.scope x := by first | exact Or.inl rfl | exact Or.inr (Or.inl rfl) | exact Or.inr (Or.inr rfl)) (hj : X.N[j]? = some y := by rfl)
    (hw : Vis X.env.scope y := by first | exact Or.inl rfl | exact Or.inr (Or.inl rfl) | exact Or.inr (Or.inr rfl)) (hd : (x == ("__debug__" : Str)) = false := by decide) (hcd : (x == ("__classdict__" : Str)) = false := by decide)
    (hd2 : (y == ("__debug__" : Str)) = false := by decide) (hcd2 : (y == ("__classdict__" : Str)) = false := by decide) : DE X z (.Dict [none, none] [.Name x p1, .Name y p2] pos) (wMgV own i j) := de_mgv own hi hv hj hw hd hcd hd2 hcd2
end Pk

/-! The data layer, part YN: d.get(k, x), xs += ys of a local list. -/
namespace Pk
open PySem PySem.Spec PyProof.Rows L2
/-- d.get(k, x) -/
def wGet2 (wo wk wd : WE) : WE := fun ρ μ Q E => wo ρ μ (fun x μ1 => match isDc (look μ1 x) with
  | true => wk ρ μ1 (fun y μ2 => wd ρ μ2 (fun d μ3 => match look μ3 x, toK (look μ3 y) with
    | .dct kvs, some k => match getK kvs k with
      | some v => Q v μ3
      | none => Q d μ3
    | _, _ => False) E) E
  | false => False) E
section
variable {X : Cx} {z : Zx} {apos pos : Pos} {o e f : Expr} {wo wk wd : WE}
theorem de_get2 (hu : X.A.units + 1 < cLine) (ho : DE X z o wo) (hk : DE X z e wk) (hf : DE X z f wd)
    (hbase : attributeBase o "get" X.env (eval o X.env) = eval o X.env := by rfl)
    (hfew : ((backTo pos (starEach [e, f] X.env)).all (fun x => !x.1) && (backToKw pos (keywordEach [] X.env)).all (fun x => x.1.isSome) && decide (([e, f] : List Expr).length + ([] : List Keyword).length + (if ([] : List Keyword).isEmpty then 0 else 1) < 30)) = true := by rfl)
    (hline : (apos.endLine == pos.line) = true := by rfl) (ht : backTo pos (starEach [e, f] X.env) = [(false, eval e X.env), (false, eval f X.env)] := by rfl) :
    DE X z (.Call (.Attribute o "get" apos) [e, f] [] pos) (wGet2 wo wk wd) := fun Wd tk =>
  peI (pe_dget2 hu (ho Wd tk) (hk Wd tk) (hf Wd tk) ⟨hbase, hfew, hline, ht⟩) fun σ H Q ⟨F, m, μ, ρ, Qd, S, h, kk⟩ => ⟨F, m, μ, ρ, _, S, h, fun F1 m1 μ1 d1 v1 H1 x1 S1 r1 q1 => by
    split at q1
    · rename_i hd
      have vx := S1.view r1
      have ha : ∃ a, v1 = .ref a ∧ IsD H1 a := by
        generalize look μ1 d1 = dd at vx hd
        cases dd with
        | dct kvs =>
          obtain ⟨a, vs, rfl, ra, _⟩ := vx.dict S1.same
          exact ⟨a, rfl, .inl ⟨_, ra⟩⟩
        | _ => cases hd
      obtain ⟨a, rfl, ia⟩ := ha
      refine ⟨a, rfl, ia, F1, m1, μ1, ρ, _, S1, q1, fun F2 m2 μ2 d2 v2 H2 x2 S2 r2 q2 => ⟨F2, m2, μ2, ρ, _, S2, q2, fun F3 m3 μ3 d3 v3 H3 x3 S3 r3 q3 => ?_⟩⟩
      have w1 := S3.view (r1.mono (x2.trans x3).gr)
      have w2 := S3.view (r2.mono x3.gr)
      split at q3
      · rename_i kvs k e1 e2
        rw [e1] at w1
        obtain ⟨b, vs, eb, rb, qb⟩ := w1.dict S3.same
        cases eb
        have ek := toK_V w2 e2
        refine ⟨valV vs k.key, .inl ⟨vs, k.key, rb, ek, rfl⟩, ?_⟩
        obtain ⟨g1, g2⟩ := getK_V (k := k) qb
        have fin : Fin X.K z F3 m3 H3 ρ σ Qd Q := fun F4 m4 μ4 d4 v4 H4 x4 => kk F4 m4 μ4 d4 v4 H4 (x1.trans (x2.trans (x3.trans x4)))
        split at q3
        · rename_i v hv
          obtain ⟨u, hu2, ru⟩ := g1 v hv
          rw [hu2]
          exact fin.now S3 ru q3
        · rename_i hv
          rw [g2 hv]
          exact fin.now S3 r3 q3
      · exact q3.elim
    · exact q1.elim⟩
end
/-- xs += ys, xs a local name -/
def sAugL (i : Nat) (w : WE) : WS := fun De ρ μ => match ρ[i]? with
  | some (some (.mref k)) => w ρ μ (fun y μ1 => match μ1[k]?, look μ1 y with
    | some (.lst xs), .lst ys => match Nat.ble (xs.length + ys.length) 16777216 with
      | true => De.nx (ρ.set i (some (.mref k))) (μ1.set k (.lst (xs ++ ys)))
      | false => False
    | _, _ => False) (fun x μ' => De.ex x ρ μ')
  | _ => False
section
variable {X : Cx} {z : Zx} {pos pos' : Pos} {e : Expr} {w : WE}
theorem ds_augL {i : Nat} {x : Str} (hN : X.N.Nodup) (hi : X.N[i]? = some x) (hx : Loc X.env.scope x) (he : DE X z e w) (hf : X.fn x = true ∨ X.env.scope.names.lookup x = some .local := by first | exact .inl rfl | exact .inr rfl | assumption) :
    DS X z (.AugAssign (.Name x pos') .Add e pos) (sAugL i w) := fun Wd tk =>
  psI (ps_aug (ti := rExt2) hN hi hx (he Wd tk) iop_ext hf) fun D σ H ⟨F, m, μ, ρ, De, S, h, ex, k⟩ => by
    subst ex
    unfold sAugL at h
    split at h
    · rename_i kk e1
      obtain ⟨v, sv, rv⟩ := S.slot i _ e1
      cases rv with
      | mref el =>
        refine ⟨_, sv, F, m, μ, ρ, _, S, h, fun F2 m2 μ2 d2 v2 H2 x2 S2 r2 q2 => ?_⟩
        have el2 := (Rep.mono x2.gr (.mref el) : Rep X.K z.T F2 m2 (.mref kk) _)
        cases el2 with
        | mref el2 =>
          split at q2
          · rename_i xs ys hxs hys
            split at q2
            · rename_i hz
              obtain ⟨_, us, p1, p2⟩ := S2.sto kk _ _ el2 hxs (fun z => nomatch z)
              have vy := S2.view r2
              rw [hys] at vy
              obtain ⟨b, zs, rfl, p3, p4⟩ := vy.list S2.same
              obtain ⟨x4, S4⟩ := S2.wr (u := .lst (us ++ zs)) (o' := .lst (xs ++ ys)) el2 hxs (fun z => nomatch z) rfl ⟨_, upd_same, p2.append p4⟩
              refine ⟨_, b, us, zs, rfl, rfl, p1, p3, ?_, ?_⟩
              · have hz := Nat.le_of_ble_eq_true hz
                have l1 := p2.length
                have l2 := p4.length
                rw [sizeLine_eq]
                omega
              · exact k.nx _ _ _ _ _ _ (x2.trans x4) (S4.set (.mref (x4.gr.mem.elim fun r er => by rw [er]; exact List.getElem?_append_left (List.getElem?_eq_some_iff.mp el2).1 ▸ el2))) q2
            · exact q2.elim
          · exact q2.elim
    · exact h.elim
end
end Pk
namespace Pk
open PySem PySem.Spec PyProof.Rows L2
theorem augL {X : Cx} {z : Zx} {pos pos' : Pos} {e : Expr} {w : WE} (i : Nat) {x : Str} (nd : X.N.Nodup) (he : DE X z e w) (hi : X.N[i]? = some x := by rfl) (hx : Loc X.env.scope x := by first | exact Or.inl rfl | exact Or.inr rfl) (hf : X.fn x = true ∨ X.env.scope.names.lookup x = some .local := by first | exact .inl rfl | exact .inr rfl) :
    DS X z (.AugAssign (.Name x pos') .Add e pos) (sAugL i w) := ds_augL nd hi hx he hf
end Pk

namespace K23
open PySem PySem.Spec PyProof.Rows L2 Pk
def w__law_dab : WS := (sSeq (sAsg2 (w2 addD (w2 ixD (wVar 0) (wC (.int 2))) (wC (.int 1))) fun E d ρ μ Q => (g2S (wVar 0) (wC (.int 2))) d ρ μ Q (fun x μ' => E x ρ μ'))
  (sSeq (sAsg (wBu (b1 intD) (aCons (w2 ixD (wVar 0) (wC (.int 1))) aNil)) (gN 2))
  (sSeq (sAsg (w2 addD (w2 modD (wBu (b1 intD) (aCons (wVar 2) aNil)) (wC (.int 21503))) (wC (.int 33029))) (gN 3))
  (sSeq (sAsg2 (w2 modD (wBu (b1 intD) (aCons (w2 addD (w2 addD (w2 mulD (wVar 2) (wVar 3)) (w2 mulD (wC (.int 50023)) (w2 ixD (wVar 0) (wC (.int 2))))) (wC (.int 4))) aNil)) (wC (.int 2147483123))) fun E d ρ μ Q => (g2S (wVar 0) (wC (.int 1))) d ρ μ Q (fun x μ' => E x ρ μ'))
  (sSeq (sIf (tBl (w2 gtD (w2 ixD (wVar 0) (wC (.int 0))) (wC (.int 0))))
  (sSeq (sAsg2 (wBu (b2' divmodD) (aCons (w2 ixD (wVar 0) (wC (.int 0))) (aCons (wVar 1) aNil))) fun E => g2T 2 (g2Cons (g2S (wVar 0) (wC (.int 0))) (g2Cons (g2N 4) g2Nil)) E)
  (sRet (wVar 4))) sNil)
  (sRet (w2 modD (wBu (b1 intD) (aCons (w2 fdivD (w2 ixD (wVar 0) (wC (.int 1))) (wC (.int 256))) aNil)) (wVar 1))))))))
def c__law_dab : Con := loc (conB 5 2 w__law_dab)
def w_is_name : WS := (sRet (wAnd (wBu (b2' isiD) (aCons (wVar 0) (aCons (wC (.ty .str)) aNil))) (wAnd (wCh ltD ltD (wC (.int 0)) (wBu (b1 lenD) (aCons (wVar 0) aNil)) (wC (.int 9))) (wBu (b1 allD) (aCons (wLc false (iSeq (wFz 1 (wVar 0))) (gN 1) tAll (w2 inD (wVar 1) (wC (.str [97, 98, 99, 100, 101, 102, 103, 104, 105, 106, 107, 108, 109, 110, 111, 112, 113, 114, 115, 116, 117, 118, 119, 120, 121, 122]))) [1]) aNil)))))
def c_is_name : Con := loc (conB 2 1 w_is_name)
def w_is_integer : WS := (sRet (wAnd (wBu (b2' isiD) (aCons (wVar 0) (aCons (wC (.ty .int)) aNil))) (wNot (wBu (b2' isiD) (aCons (wVar 0) (aCons (wC (.ty .bool)) aNil))))))
def c_is_integer : Con := loc (conB 1 1 w_is_integer)
def w_is_between : WS := (sRet (wAnd (wCallN c_is_integer 1 [] (aCons (wVar 0) aNil)) (wCh leD leD (wVar 1) (wVar 0) (wVar 2))))
def c_is_between : Con := loc (conB 3 3 w_is_between)
def w_is_garment : WS := (sSeq (sIf (tOr' (tNo (tTru (wBu (b2' isiD) (aCons (wVar 0) (aCons (wC (.ty .tup)) aNil))))) (tBl (w2 neqD (wBu (b1 lenD) (aCons (wVar 0) aNil)) (wC (.int 3)))))
  (sRet (wC (.bl false))) sNil)
  (sRet (wAnd (wCallN c_is_name 1 [] (aCons (w2 ixD (wVar 0) (wC (.int 0))) aNil)) (wAnd (wCallN c_is_name 1 [] (aCons (w2 ixD (wVar 0) (wC (.int 1))) aNil)) (wCallN c_is_between 3 [] (aCons (w2 ixD (wVar 0) (wC (.int 2))) (aCons (wC (.int 0)) (aCons (wC (.int 12)) aNil))))))))
def c_is_garment : Con := loc (conB 1 1 w_is_garment)
def w_check_garments : WS := (sSeq (sIf (tOr' (tNo (tTru (wBu (b2' isiD) (aCons (wVar 0) (aCons (wC (.ty .tup)) aNil))))) (tBl (w2 eqqD (wBu (b1 lenD) (aCons (wVar 0) aNil)) (wC (.int 0)))))
  sNever sNil)
  (sFor (iEnm (wFz 1 (wVar 0))) (gT [(gN 1), (gN 2)])
  (sSeq (sIf (tOr' (tBl (w2 eqqD (wVar 1) (wC (.int 8)))) (tNo (tTru (wCallN c_is_garment 1 [] (aCons (wVar 2) aNil)))))
  sNever sNil)
  (sIf (tBl (w2 inD (w2 ixD (wVar 2) (wC (.int 0))) (wLc false (iSeq (wFz 1 (wSl (wVar 0) oNo (oYes (wVar 1))))) (gN 3) tAll (w2 ixD (wVar 3) (wC (.int 0))) [3])))
  sNever sNil))))
def c_check_garments : Con := loc (conB 4 1 w_check_garments)
def w_parted_at : WS := (sSeq (sIf (tBl (w2 ninD (wVar 1) (wVar 0)))
  (sRet (wTup (aCons (wVar 0) (aCons (wC .non) aNil)))) sNil)
  (sSeq (sAsg (wMe isL idxF (wVar 0) (aCons (wVar 1) aNil)) (gN 2))
  (sRet (wTup (aCons (wSl (wVar 0) oNo (oYes (wVar 2))) (aCons (wSl (wVar 0) (oYes (w2 addD (wVar 2) (wC (.int 1)))) oNo) aNil))))))
def c_parted_at : Con := loc (conB 3 2 w_parted_at)
def w_dyes_in : WS := (sRet (wBu (b1L false itemsOf) (aCons (wBu (bDict false) (aCons (wLc false (iSeq (wFz 1 (wVar 0))) (gN 1) tAll (wTup (aCons (w2 ixD (wVar 1) (wC (.int 1))) (aCons (wC (.bl true)) aNil))) [1]) aNil)) aNil)))
def c_dyes_in : Con := loc (conB 2 1 w_dyes_in)
def w_are_different : WS := (sRet (wBu (b1 allD) (aCons (wLc false (iEnm (wFz 1 (wVar 0))) (gT [(gN 1), (gN 2)]) tAll (w2 eqqD (wMe isL idxF (wVar 0) (aCons (wVar 2) aNil)) (wVar 1)) [1, 2]) aNil)))
def c_are_different : Con := loc (conB 3 1 w_are_different)
def w_names_in : WS := (sRet (wLc false (iSeq (wFz 1 (wVar 0))) (gN 1) tAll (w2 ixD (wVar 1) (wC (.int 0))) [1]))
def c_names_in : Con := loc (conB 2 1 w_names_in)
def w_wash_in : WS := (sSeq (sAsg (wCallN c_parted_at 2 [] (aCons (wVar 1) (aCons (wC (.str [63])) aNil))) (gT [(gN 2), (gN 3)]))
  (sSeq (sAsg (wCallN c_parted_at 2 [] (aCons (wVar 2) (aCons (wC (.str [43])) aNil))) (gT [(gN 4), (gN 5)]))
  (sSeq (sAsg (w2 addD (wOr (wVar 5) (wLst aNil)) (wOr (wVar 3) (wLst aNil))) (gN 6))
  (sSeq (sAsg (wCallN c_dyes_in 1 [] (aCons (wLc false (iSeq (wFz 1 (wVar 0))) (gN 9) (tBl (w2 inD (w2 ixD (wVar 9) (wC (.int 0))) (wVar 4))) (wVar 9) [9]) aNil)) (gN 7))
  (sSeq (sIf (tOr' (tBl (w2 eqqD (wVar 4) (wLst aNil))) (tOr' (tBl (w2 eqqD (wVar 5) (wLst aNil))) (tOr' (tBl (w2 eqqD (wVar 3) (wLst aNil))) (tOr' (tNo (tTru (wCallN c_are_different 1 [] (aCons (wVar 4) aNil)))) (tNo (tTru (wCallN c_are_different 1 [] (aCons (wVar 6) aNil))))))))
  (sRet (wC .non)) sNil)
  (sSeq (sIf (tOr' (tNo (tTru (wBu (b1 allD) (aCons (wLc false (iSeq (wFz 1 (wVar 4))) (gN 10) tAll (w2 inD (wVar 10) (wCallN c_names_in 1 [] (aCons (wVar 0) aNil))) [10]) aNil)))) (tNo (tTru (wBu (b1 allD) (aCons (wLc false (iSeq (wFz 1 (wVar 6))) (gN 11) tAll (w2 inD (wVar 11) (wVar 7)) [11]) aNil)))))
  (sRet (wC .non)) sNil)
  (sSeq (sAsg (wLc false (iSeq (wFz 1 (wCallN c_dyes_in 1 [] (aCons (wVar 0) aNil)))) (gN 11) (tAn (tBl (w2 inD (wVar 11) (wVar 7))) (tBl (w2 ninD (wVar 11) (wOr (wVar 3) (wLst aNil))))) (wVar 11) [11]) (gN 8))
  (sRet (wTup (aCons (wC (.str [119, 97, 115, 104])) (aCons (wBu (b1 tupD) (aCons (wVar 4) aNil)) (aCons (wBu (b1 ptpD) (aCons (wLc false (iSeq (wFz 1 (wVar 8))) (gN 11) tAll (wTup (aCons (wVar 11) (aCons (w2 inD (wVar 11) (wOr (wVar 5) (wLst aNil))) aNil))) [11]) aNil)) aNil))))))))))))
def c_wash_in : Con := loc (conB 12 2 w_wash_in)
def w_entry_in : WS := (sSeq (sAsg (wIf (tTru (wBu (b2' isiD) (aCons (wVar 1) (aCons (wC (.ty .str)) aNil)))) (wMe isS (splF false) (wVar 1) (aCons (wC (.str [32])) aNil)) (wLst (aCons (wC (.str [])) aNil))) (gN 2))
  (sSeq (sIf (tBl (w2 eqqD (w2 ixD (wVar 2) (wC (.int 0))) (wC (.str [119, 97, 115, 104]))))
  (sRet (wCallN c_wash_in 2 [] (aCons (wVar 0) (aCons (wSl (wVar 2) (oYes (wC (.int 1))) oNo) aNil)))) sNil)
  (sSeq (sIf (tAn (tBl (w2 eqqD (w2 ixD (wVar 2) (wC (.int 0))) (wC (.str [114, 101, 110, 101, 119])))) (tAn (tBl (w2 eqqD (wBu (b1 lenD) (aCons (wVar 2) aNil)) (wC (.int 2)))) (tBl (w2 inD (w2 ixD (wVar 2) (wC (.int 1))) (wCallN c_names_in 1 [] (aCons (wVar 0) aNil))))))
  (sRet (wTup (aCons (wC (.str [114, 101, 110, 101, 119])) (aCons (wTup (aCons (w2 ixD (wVar 2) (wC (.int 1))) aNil)) (aCons (wTupP aNil) aNil))))) sNil)
  (sRet (wC .non)))))
def c_entry_in : Con := loc (conB 3 2 w_entry_in)
def w_check_lines : WS := (sSeq (sIf (tNo (tTru (wBu (b2' isiD) (aCons (wVar 1) (aCons (wC (.ty .tup)) aNil)))))
  sNever sNil)
  (sFor (iEnm (wFz 1 (wVar 1))) (gT [(gN 2), (gN 3)])
  (sIf (tOr' (tBl (w2 eqqD (wVar 2) (wC (.int 30)))) (tBl (w2 isD (wCallN c_entry_in 2 [] (aCons (wVar 0) (aCons (wVar 3) aNil))) (wC .non))))
  sNever sNil)))
def c_check_lines : Con := loc (conB 4 2 w_check_lines)
def w_Walk_wash : WS := (sSeq (sFor (iSeq (wFz 1 (wVar 3))) (gN 5)
  (sAugS (fun i j => i + j) (wFld 1 2 (wVar 0)) (wVar 5) (wC (.int 1))))
  (sSeq (sAsg (wBu (b1 tupD) (aCons (wLc false (iSeq (wFz 1 (wVar 3))) (gN 5) tAll (wTup (aCons (wVar 5) (aCons (w2 ixD (wFld 1 2 (wVar 0)) (wVar 5)) aNil))) [5]) aNil)) (gN 6))
  (sSeq (sExpr (wMe isL appF (wFld 1 3 (wVar 0)) (aCons (wVar 6) aNil)))
  (sFor (iSeq (wFz 1 (wVar 4))) (gT [(gN 7), (gN 8)])
  (sSeq (sExpr (wMe isL appF (wFld 1 4 (wVar 0)) (aCons (wTup (aCons (wVar 2) (aCons (wVar 7) (aCons (wVar 8) aNil)))) aNil)))
  (sExpr (wMe isL appF (wFld 1 5 (wVar 0)) (aCons (wBu (b1 tupD) (aCons (wLc false (iSeq (wFz 1 (wVar 6))) (gN 9) (tBl (w2 eqqD (w2 ixD (w2 ixD (wVar 1) (w2 ixD (wFld 1 0 (wVar 0)) (w2 ixD (wVar 9) (wC (.int 0))))) (wC (.int 1))) (wVar 7))) (wVar 9) [9]) aNil)) aNil))))))))
def c_Walk_wash : Con := loc (conB 10 5 w_Walk_wash)
def w_Walk_go : WS := (sSeq (sAsg (wBu (bDict true) (aCons (wLc false (iSeq (wFz 1 (wCallN c_names_in 1 [] (aCons (wVar 1) aNil)))) (gN 8) tAll (wTup (aCons (wVar 8) (aCons (wMe isL idxF (wFld 1 1 (wVar 0)) (aCons (wTup (aCons (wVar 8) (aCons (wC (.int 0)) aNil))) aNil)) aNil))) [8]) aNil)) (gN 3))
  (sFor (iEnm (wFz 1 (wVar 2))) (gT [(gN 4), (gT [(gN 5), (gN 6), (gN 7)])])
  (sIf (tBl (w2 eqqD (wVar 5) (wC (.str [114, 101, 110, 101, 119]))))
  (sSeq (sAugS (fun i j => i + j) (wVar 3) (w2 ixD (wVar 6) (wC (.int 0))) (wC (.int 1)))
  (sExpr (wMe isL appF (wFld 1 3 (wVar 0)) (aCons (wTup aNil) aNil)))) (sExpr (wMeth 1 c_Walk_wash 5 (wVar 0) (aCons (wVar 1) (aCons (wVar 4) (aCons (wBu (b1L false sortedD) (aCons (wLc false (iSeq (wFz 1 (wVar 6))) (gN 8) tAll (w2 ixD (wVar 3) (wVar 8)) [8]) aNil)) (aCons (wVar 7) aNil)))))))))
def c_Walk_go : Con := loc (conB 9 3 w_Walk_go)
def w_Walk_init : WS := (sSeq (sFldD 1 0 (wVar 0) (wLstO aNil))
  (sSeq (sFldD 1 1 (wVar 0) (wLstO aNil))
  (sSeq (sFor (iEnm (wFz 1 (wVar 1))) (gT [(gN 3), (gN 4)])
  (sSeq (sAsg (wBu (b1 lenD) (aCons (wLc false (iSeq (wFz 1 (wVar 2))) (gN 6) (tAn (tBl (w2 eqqD (w2 ixD (wVar 6) (wC (.int 0))) (wC (.str [114, 101, 110, 101, 119])))) (tBl (w2 eqqD (w2 ixD (wVar 6) (wC (.int 1))) (wTup (aCons (w2 ixD (wVar 4) (wC (.int 0))) aNil))))) (wVar 6) [6]) aNil)) (gN 5))
  (sSeq (sFldAugD 1 0 (wVar 0) (w2 mulD (wLst (aCons (wVar 3) aNil)) (w2 addD (wVar 5) (wC (.int 1)))))
  (sFldAugD 1 1 (wVar 0) (wLc false (iRg1 (w2 addD (wVar 5) (wC (.int 1)))) (gN 7) tAll (wTup (aCons (w2 ixD (wVar 4) (wC (.int 0))) (aCons (wVar 7) aNil))) [7])))))
  (sSeq (sFldD 1 2 (wVar 0) (wMulO (wLst (aCons (wC (.int 0)) aNil)) (wBu (b1 lenD) (aCons (wFld 1 1 (wVar 0)) aNil))))
  (sSeq (sFldD 1 3 (wVar 0) (wLstO aNil))
  (sSeq (sFldD 1 4 (wVar 0) (wLstO aNil))
  (sSeq (sFldD 1 5 (wVar 0) (wLstO aNil))
  (sExpr (wMeth 1 c_Walk_go 3 (wVar 0) (aCons (wVar 1) (aCons (wVar 2) aNil)))))))))))
def c_Walk_init : Con := loc (conB 8 3 w_Walk_init)
def w_Book_init : WS := (sSeq (sExpr (wCallN c_check_garments 1 [] (aCons (wVar 1) aNil)))
  (sSeq (sExpr (wCallN c_check_lines 2 [] (aCons (wVar 1) (aCons (wVar 2) aNil))))
  (sSeq (sFldD 0 0 (wVar 0) (wVar 1))
  (sSeq (sFldD 0 1 (wVar 0) (wVar 2))
  (sSeq (sFldD 0 2 (wVar 0) (wBu (b1 tupD) (aCons (wLc false (iSeq (wFz 1 (wVar 2))) (gN 3) tAll (wCallN c_entry_in 2 [] (aCons (wVar 1) (aCons (wVar 3) aNil))) [3]) aNil)))
  (sFldD 0 3 (wVar 0) (wMake 1 c_Walk_init 3 [] (aCons (wVar 1) (aCons (wFld 0 2 (wVar 0)) aNil)))))))))
def c_Book_init : Con := loc (conB 4 3 w_Book_init)
def w_check_book : WS := (sIf (tNo (tTru (wBu (b2' (isiC 0)) (aCons (wVar 0) (aCons (wC (.cls 0)) aNil)))))
  sNever sNil)
def c_check_book : Con := loc (conB 1 1 w_check_book)
def w_Book_garments : WS := (sRet (wFld 0 0 (wVar 0)))
def c_Book_garments : Con := loc (conB 1 1 w_Book_garments)
def w_Book_entries : WS := (sRet (wFld 0 2 (wVar 0)))
def c_Book_entries : Con := loc (conB 1 1 w_Book_entries)
def w_washes_of : WS := (sRet (wLc false (iSeq (wFz 1 (wProp 0 c_Book_entries (wVar 0)))) (gT [(gN 1), (gN 2), (gN 3)]) tAll (wTup (aCons (wVar 1) (aCons (wVar 2) aNil))) [1, 2, 3]))
def c_washes_of : Con := loc (conB 4 1 w_washes_of)
def w_check_kin : WS := (sSeq (sExpr (wCallN c_check_book 1 [] (aCons (wVar 0) aNil)))
  (sSeq (sExpr (wCallN c_check_book 1 [] (aCons (wVar 1) aNil)))
  (sIf (tOr' (tBl (w2 neqD (wProp 0 c_Book_garments (wVar 0)) (wProp 0 c_Book_garments (wVar 1)))) (tBl (w2 neqD (wCallN c_washes_of 1 [] (aCons (wVar 0) aNil)) (wCallN c_washes_of 1 [] (aCons (wVar 1) aNil)))))
  sNever sNil)))
def c_check_kin : Con := loc (conB 2 2 w_check_kin)
def w_Book_lives : WS := (sRet (wBu (b1 tupD) (aCons (wFld 1 1 (wFld 0 3 (wVar 0))) aNil)))
def c_Book_lives : Con := loc (conB 1 1 w_Book_lives)
def w_garment_of : WS := (sRet (w2 ixD (wProp 0 c_Book_garments (wVar 0)) (wMe isL idxF (wCallN c_names_in 1 [] (aCons (wProp 0 c_Book_garments (wVar 0)) aNil)) (aCons (w2 ixD (w2 ixD (wProp 0 c_Book_lives (wVar 0)) (wVar 1)) (wC (.int 0))) aNil))))
def c_garment_of : Con := loc (conB 2 2 w_garment_of)
def w_top_of : WS := (sRet (w2 ixD (wCallN c_garment_of 2 [] (aCons (wVar 0) (aCons (wVar 1) aNil))) (wC (.int 2))))
def c_top_of : Con := loc (conB 2 2 w_top_of)
def w_Book_looks : WS := (sRet (wBu (b1 tupD) (aCons (wFld 1 4 (wFld 0 3 (wVar 0))) aNil)))
def c_Book_looks : Con := loc (conB 1 1 w_Book_looks)
def w_Book_spans : WS := (sRet (wBu (b1 tupD) (aCons (wFld 1 5 (wFld 0 3 (wVar 0))) aNil)))
def c_Book_spans : Con := loc (conB 1 1 w_Book_spans)
def w_tops_of : WS := (sSeq (sAsg (wLc true (iRg1 (wBu (b1 lenD) (aCons (wProp 0 c_Book_lives (wVar 0)) aNil))) (gN 5) tAll (wCallN c_top_of 2 [] (aCons (wVar 0) (aCons (wVar 5) aNil))) [5]) (gN 2))
  (sSeq (sFor (iEnm (wFz 1 (wProp 0 c_Book_looks (wVar 0)))) (gT [(gN 3), (gN 4)])
  (sIf (tAn (tNo (tTru (w2 ixD (wVar 4) (wC (.int 2))))) (tBl (w2 ninD (wVar 3) (wVar 1))))
  (sFor (iSeq (wFz 1 (w2 ixD (wProp 0 c_Book_spans (wVar 0)) (wVar 3)))) (gT [(gN 5), (gN 6)])
  (sAsg2 (wBu (b2' minD) (aCons (w2 ixD (wVar 2) (wVar 5)) (aCons (w2 subD (wVar 6) (wC (.int 1))) aNil))) fun E d ρ μ Q => (g2S (wVar 2) (wVar 5)) d ρ μ Q (fun x μ' => E x ρ μ'))) sNil))
  (sRet (wFz 1 (wVar 2)))))
def c_tops_of : Con := loc (conB 7 2 w_tops_of)
def w_fits_tops : WS := (sSeq (sFor (iEnm (wFz 1 (wProp 0 c_Book_looks (wVar 0)))) (gT [(gN 3), (gN 4)])
  (sSeq (sAsg (wAnd (w2 ixD (wVar 4) (wC (.int 2))) (w2 ninD (wVar 3) (wVar 2))) (gN 5))
  (sIf (tAn (tTru (wVar 5)) (tNo (tTru (wBu (b1 anyD) (aCons (wLc false (iSeq (wFz 1 (w2 ixD (wProp 0 c_Book_spans (wVar 0)) (wVar 3)))) (gT [(gN 6), (gN 7)]) tAll (w2 leD (wVar 7) (w2 ixD (wVar 1) (wVar 6))) [6, 7]) aNil)))))
  (sRet (wC (.bl false))) sNil)))
  (sRet (wC (.bl true))))
def c_fits_tops : Con := loc (conB 8 3 w_fits_tops)
def w_without_look : WS := (sSeq (sIf (tNo (tTru (wVar 2)))
  (sRet (wIf (tTru (wBu (b1 anyD) (aCons (wLc false (iSeq (wFz 1 (wVar 3))) (gT [(gN 5), (gN 6)]) tAll (w2 leD (wVar 6) (w2 ixD (wVar 1) (wVar 5))) [5, 6]) aNil))) (wBu (b1 tupD) (aCons (wVar 1) aNil)) (wC .non))) sNil)
  (sSeq (sAsg (wBu (b1L true itemsOf) (aCons (wVar 1) aNil)) (gN 4))
  (sSeq (sFor (iSeq (wFz 1 (wVar 3))) (gT [(gN 5), (gN 6)])
  (sAsg2 (wBu (b2' minD) (aCons (w2 ixD (wVar 4) (wVar 5)) (aCons (w2 subD (wVar 6) (wC (.int 1))) aNil))) fun E d ρ μ Q => (g2S (wVar 4) (wVar 5)) d ρ μ Q (fun x μ' => E x ρ μ')))
  (sRet (wIf (tTru (wCallN c_fits_tops 3 [.tup []] (aCons (wVar 0) (aCons (wVar 4) aNil)))) (wBu (b1 tupD) (aCons (wVar 4) aNil)) (wC .non))))))
def c_without_look : Con := loc (conB 7 4 w_without_look)
def w_reading_between : WS := (sSeq (sAsg (wCallN c_tops_of 2 [.tup []] (aCons (wVar 0) aNil)) (gN 2))
  (sSeq (sIf (tNo (tTru (wCallN c_fits_tops 3 [.tup []] (aCons (wVar 0) (aCons (wVar 2) aNil)))))
  (sRet (wC .non)) sNil)
  (sSeq (sFor (iZp (wFz 1 (wProp 0 c_Book_looks (wVar 1))) (wFz 1 (wProp 0 c_Book_spans (wVar 1)))) (gT [(gN 3), (gN 4)])
  (sSeq (sAsg (wCallN c_without_look 4 [] (aCons (wVar 0) (aCons (wVar 2) (aCons (w2 ixD (wVar 3) (wC (.int 2))) (aCons (wVar 4) aNil))))) (gN 5))
  (sIf (tBl (w2 isnotD (wVar 5) (wC .non)))
  (sRet (wVar 5)) sNil)))
  (sRet (wC .non)))))
def c_reading_between : Con := loc (conB 6 2 w_reading_between)
def w_says_all : WS := (sSeq (sExpr (wCallN c_check_kin 2 [] (aCons (wVar 0) (aCons (wVar 1) aNil))))
  (sRet (w2 isD (wCallN c_reading_between 2 [] (aCons (wVar 0) (aCons (wVar 1) aNil))) (wC .non))))
def c_says_all : Con := loc (conB 2 2 w_says_all)
def w_parting : WS := (sSeq (sExpr (wCallN c_check_kin 2 [] (aCons (wVar 0) (aCons (wVar 1) aNil))))
  (sRet (wCallN c_reading_between 2 [] (aCons (wVar 0) (aCons (wVar 1) aNil)))))
def c_parting : Con := loc (conB 2 2 w_parting)
def w_alike : WS := (sSeq (sExpr (wCallN c_check_kin 2 [] (aCons (wVar 0) (aCons (wVar 1) aNil))))
  (sRet (wAnd (w2 isD (wCallN c_reading_between 2 [] (aCons (wVar 0) (aCons (wVar 1) aNil))) (wC .non)) (w2 isD (wCallN c_reading_between 2 [] (aCons (wVar 1) (aCons (wVar 0) aNil))) (wC .non)))))
def c_alike : Con := loc (conB 2 2 w_alike)
def w_Book_lines : WS := (sRet (wFld 0 1 (wVar 0)))
def c_Book_lines : Con := loc (conB 1 1 w_Book_lines)
def w_Book_dyes : WS := (sRet (wBu (b1 tupD) (aCons (wCallN c_dyes_in 1 [] (aCons (wFld 0 0 (wVar 0)) aNil)) aNil)))
def c_Book_dyes : Con := loc (conB 1 1 w_Book_dyes)
def w_joined_line : WS := (sSeq (sAsg (wLc false (iSeq (wFz 1 (wProp 0 c_Book_dyes (wVar 0)))) (gN 7) (tBl (w2 inD (wVar 7) (wCallN c_dyes_in 1 [] (aCons (wLc false (iSeq (wFz 1 (wProp 0 c_Book_garments (wVar 0)))) (gN 8) (tBl (w2 inD (w2 ixD (wVar 8) (wC (.int 0))) (wVar 1))) (wVar 8) [8]) aNil)))) (wVar 7) [7]) (gN 3))
  (sSeq (sAsg (wLc false (iSeq (wFz 1 (wVar 3))) (gN 7) (tTru (wGet2 (wVar 2) (wVar 7) (wC (.bl false)))) (wVar 7) [7]) (gN 4))
  (sSeq (sAsg (wLc false (iSeq (wFz 1 (wVar 3))) (gN 7) (tBl (w2 ninD (wVar 7) (wVar 2))) (wVar 7) [7]) (gN 5))
  (sSeq (sAsg (wLstO (aCons (wC (.str [119, 97, 115, 104])) (aStar (wVar 1) aNil))) (gN 6))
  (sSeq (sIf (tTru (wVar 4))
  (sAugL 6 (wLst (aCons (wC (.str [43])) (aStar (wVar 4) aNil)))) sNil)
  (sSeq (sIf (tTru (wVar 5))
  (sAugL 6 (wLst (aCons (wC (.str [63])) (aStar (wVar 5) aNil)))) sNil)
  (sRet (wMe isS joinF (wC (.str [32])) (aCons (wVar 6) aNil)))))))))
def c_joined_line : Con := loc (conB 9 3 w_joined_line)
def w_joined : WS := (sSeq (sExpr (wCallN c_check_kin 2 [] (aCons (wVar 0) (aCons (wVar 1) aNil))))
  (sSeq (sAsg (wLstO aNil) (gN 2))
  (sSeq (sFor (iEnm (wFz 1 (wProp 0 c_Book_lines (wVar 0)))) (gT [(gN 3), (gN 4)])
  (sSeq (sAsg (w2 ixD (wProp 0 c_Book_entries (wVar 0)) (wVar 3)) (gT [(gN 5), (gN 6), (gN 7)]))
  (sSeq (sAsg (wTup (aCons (wBu (bDictT false) (aCons (wVar 7) aNil)) (aCons (wBu (bDictT false) (aCons (w2 ixD (w2 ixD (wProp 0 c_Book_entries (wVar 1)) (wVar 3)) (wC (.int 2))) aNil)) aNil))) (gT [(gN 8), (gN 9)]))
  (sSeq (sIf (tTru (wBu (b1 anyD) (aCons (wLc false (iKy (wVar 8)) (gN 10) (tBl (w2 inD (wVar 10) (wVar 9))) (w2 neqD (w2 ixD (wVar 8) (wVar 10)) (w2 ixD (wVar 9) (wVar 10))) [10]) aNil)))
  (sRaise 20 1 (aCons (wVar 3) aNil)) sNil)
  (sExpr (wMe isL appF (wVar 2) (aCons (wIf (tBl (w2 eqqD (wVar 5) (wC (.str [119, 97, 115, 104])))) (wCallN c_joined_line 3 [] (aCons (wVar 0) (aCons (wVar 6) (aCons (wMgV false 8 9) aNil)))) (wVar 4)) aNil)))))))
  (sRet (wMkF 9 0 c_Book_init 3 [] (aCons (wProp 0 c_Book_garments (wVar 0)) (aCons (wBu (b1 tupD) (aCons (wVar 2) aNil)) aNil)))))))
def c_joined : Con := loc (conB 11 2 w_joined)
def w_Book___eq__ : WS := (sRet (wAnd (wBu (b2' (isiC 0)) (aCons (wVar 1) (aCons (wC (.cls 0)) aNil))) (wAnd (w2 eqqD (wFld 0 0 (wVar 0)) (wProp 0 c_Book_garments (wVar 1))) (w2 eqqD (wFld 0 1 (wVar 0)) (wProp 0 c_Book_lines (wVar 1))))))
def c_Book___eq__ : Con := loc (conB 2 2 w_Book___eq__)
def w__law_sort : WS := (sSeq (sAsg (wLst (aCons (wIsE [20] [] (wVar 0)) (aCons (wIsE [20] [] (wVar 0)) (aCons (wIsE [20] [] (wVar 0)) aNil)))) (gN 1))
  (sSeq (sAsg (w2 addD (wVar 1) (wLst (aCons (wIsE [20] [] (wVar 0)) aNil))) (gN 1))
  (sSeq (sAsg (w2 addD (wVar 1) (wLst (aCons (wIsE [20] [] (wVar 0)) (aCons (wIsE [20] [] (wVar 0)) (aCons (wIsE [20] [] (wVar 0)) aNil))))) (gN 1))
  (sSeq (sAsg (w2 addD (wVar 1) (wLst (aCons (wIsE [20] [] (wVar 0)) (aCons (wIsE [20] [] (wVar 0)) (aCons (wIsE [20] [] (wVar 0)) aNil))))) (gN 1))
  (sSeq (sAsg (w2 addD (wVar 1) (wLst (aCons (wIsE [20] [] (wVar 0)) (aCons (wIsE [20] [] (wVar 0)) (aCons (wIsE [20] [] (wVar 0)) aNil))))) (gN 1))
  (sSeq (sAsg (w2 addD (wVar 1) (wLst (aCons (wIsE [20] [] (wVar 0)) (aCons (wIsE [20] [] (wVar 0)) (aCons (wIsE [20] [] (wVar 0)) aNil))))) (gN 1))
  (sSeq (sAsg (w2 addD (wVar 1) (wLst (aCons (wIsE [20] [] (wVar 0)) (aCons (wIsE [20] [] (wVar 0)) (aCons (wIsE [20] [] (wVar 0)) aNil))))) (gN 1))
  (sSeq (sAsg (w2 addD (wVar 1) (wLst (aCons (wIsE [20] [] (wVar 0)) (aCons (wIsE [20] [] (wVar 0)) (aCons (wIsE [20] [20] (wVar 0)) aNil))))) (gN 1))
  (sSeq (sAsg (w2 addD (wVar 1) (wLst (aCons (wIsE [20] [] (wVar 0)) (aCons (wIsE [20] [] (wVar 0)) (aCons (wIsE [20] [] (wVar 0)) aNil))))) (gN 1))
  (sSeq (sAsg (wLst (aCons (wC (.str [116, 101, 120, 116])) (aCons (wC (.str [108, 105, 110, 101])) (aCons (wC (.str [108, 105, 102, 101])) (aCons (wC (.str [114, 101, 97, 100, 105, 110, 103])) (aCons (wC (.str [110, 117, 109, 98, 101, 114])) (aCons (wC (.str [108, 111, 111, 107])) (aCons (wC (.str [110, 97, 109, 101])) (aCons (wC (.str [119, 105, 115, 104])) (aCons (wC (.str [99, 108, 97, 105, 109])) (aCons (wC (.str [112, 108, 97, 99, 101])) (aCons (wC (.str [110, 111, 32, 98, 111, 111, 107])) aNil)))))))))))) (gN 2))
  (sSeq (sAsg (w2 addD (wVar 2) (wLst (aCons (wC (.str [103, 97, 114, 109, 101, 110, 116, 115])) (aCons (wC (.str [108, 105, 110, 101, 115])) (aCons (wC (.str [108, 111, 97, 100])) (aCons (wC (.str [108, 111, 97, 100, 115])) (aCons (wC (.str [119, 105, 115, 104, 101, 115])) (aCons (wC (.str [99, 104, 97, 110, 103, 101, 115])) (aCons (wC (.str [117, 110, 107, 110, 111, 119, 110])) (aCons (wC (.str [105, 110, 32, 117, 115, 101])) aNil)))))))))) (gN 2))
  (sSeq (sAsg (w2 addD (wVar 2) (wLst (aCons (wC (.str [105, 109, 112, 111, 115, 115, 105, 98, 108, 101])) (aCons (wC (.str [111, 116, 104, 101, 114])) (aCons (wC (.str [99, 111, 110, 116, 114, 97, 100, 105, 99, 116, 115])) (aCons (wC (.str [109, 97, 110, 121])) (aCons (wC (.str [117, 110, 100, 111])) (aCons (wC (.str [98, 114, 111, 107, 101, 110])) aNil)))))))) (gN 2))
  (sSeq (sAsg (wLst (aCons (wIsE [20] [] (wVar 0)) (aCons (wIsE [20] [] (wVar 0)) (aCons (wIsE [20] [20] (wVar 0)) aNil)))) (gN 3))
  (sSeq (sAsg (wLst (aCons (wIsE [20] [] (wVar 0)) (aCons (wIsE [20] [] (wVar 0)) (aCons (wIsE [20] [20] (wVar 0)) aNil)))) (gN 4))
  (sSeq (sAsg (wIf (tBl (w2 eqqD (wMe isL cntF (wVar 1) (aCons (wC (.bl true)) aNil)) (wC (.int 1)))) (wMe isL idxF (wVar 1) (aCons (wC (.bl true)) aNil)) (wC (.int 99))) (gN 5))
  (sRet (wIf (tAn (tBl (w2 ltD (wVar 5) (wC (.int 25)))) (tBl (wCh eqqD eqqD (wVar 3) (wVar 4) (wLst (aCons (w2 ltD (wVar 5) (wC (.int 17))) (aCons (wCh ltD ltD (wC (.int 16)) (wVar 5) (wC (.int 19))) (aCons (w2 gtD (wVar 5) (wC (.int 18))) aNil))))))) (w2 ixD (wVar 2) (wVar 5)) (wC (.str [])))))))))))))))))))
def c__law_sort : Con := (conB 6 1 w__law_sort)
def w__law_kept : WS := (sSeq (sAsg (wCallN c__law_sort 1 [] (aCons (wVar 0) aNil)) (gN 1))
  (sSeq (sIf (tBl (w2 inD (wVar 1) (wLst (aCons (wC (.str [103, 97, 114, 109, 101, 110, 116, 115])) (aCons (wC (.str [108, 105, 110, 101, 115])) (aCons (wC (.str [108, 111, 97, 100])) (aCons (wC (.str [108, 111, 97, 100, 115])) (aCons (wC (.str [119, 105, 115, 104, 101, 115])) (aCons (wC (.str [99, 104, 97, 110, 103, 101, 115])) (aCons (wC (.str [105, 110, 32, 117, 115, 101])) aNil))))))))))
  (sRet (wLst (aCons (wVar 1) (aCons (wErF [] (wVar 0)) aNil)))) sNil)
  (sSeq (sIf (tBl (w2 eqqD (wVar 1) (wC (.str [109, 97, 110, 121]))))
  (sRet (wLst (aCons (wVar 1) (aCons (wErF [] (wVar 0)) aNil)))) sNil)
  (sRet (wLst (aCons (wVar 1) (aCons (wIf (tBl (w2 ninD (wVar 1) (wLst (aCons (wC (.str [105, 109, 112, 111, 115, 115, 105, 98, 108, 101])) (aCons (wC (.str [111, 116, 104, 101, 114])) (aCons (wC (.str [117, 110, 100, 111])) (aCons (wC (.str [98, 114, 111, 107, 101, 110])) (aCons (wC (.str [])) aNil)))))))) (wErF [(20, 0)] (wVar 0)) (wC .non)) aNil)))))))
def c__law_kept : Con := (conB 2 1 w__law_kept)
def h__law_told : WE → WS := fun a => (sSeq (sTry [20] (sAsg a (gN 1))
  [([20], some 2, (sRet (wCallN c__law_kept 1 [] (aCons (wVar 2) aNil))))])
  (sRet (wLst (aCons (wC (.str [116, 111, 108, 100])) (aCons (wVar 1) aNil)))))
def w__law_sock_right : WS := (sSeq (sAsg (wTup (aCons (wTup (aCons (wC (.str [115, 111, 99, 107])) (aCons (wC (.str [114, 101, 100])) (aCons (wC (.int 5)) aNil)))) (aCons (wTup (aCons (wC (.str [114, 117, 103])) (aCons (wC (.str [114, 101, 100])) (aCons (wC (.int 4)) aNil)))) (aCons (wTup (aCons (wC (.str [115, 104, 105, 114, 116])) (aCons (wC (.str [98, 108, 117, 101])) (aCons (wC (.int 3)) aNil)))) aNil)))) (gN 0))
  (sSeq (sAsg (wLoc (wFz 9 (wMake 0 c_Book_init 3 [] (aCons (wVar 0) (aCons (wTup (aCons (wC (.str [119, 97, 115, 104, 32, 115, 111, 99, 107, 32, 114, 117, 103, 32, 43, 32, 114, 101, 100])) (aCons (wC (.str [119, 97, 115, 104, 32, 115, 111, 99, 107, 32, 115, 104, 105, 114, 116])) (aCons (wC (.str [119, 97, 115, 104, 32, 114, 117, 103, 32, 43, 32, 114, 101, 100])) aNil)))) aNil))))) (gN 1))
  (sSeq (sAsg (wLoc (wFz 9 (wMake 0 c_Book_init 3 [] (aCons (wVar 0) (aCons (wTup (aCons (wC (.str [119, 97, 115, 104, 32, 115, 111, 99, 107, 32, 114, 117, 103, 32, 63, 32, 114, 101, 100])) (aCons (wC (.str [119, 97, 115, 104, 32, 115, 111, 99, 107, 32, 115, 104, 105, 114, 116, 32, 63, 32, 98, 108, 117, 101, 32, 114, 101, 100])) (aCons (wC (.str [119, 97, 115, 104, 32, 114, 117, 103, 32, 43, 32, 114, 101, 100])) aNil)))) aNil))))) (gN 2))
  (sSeq (sAsg (wLoc (wFz 9 (wMake 0 c_Book_init 3 [] (aCons (wVar 0) (aCons (wTup (aCons (wC (.str [119, 97, 115, 104, 32, 115, 111, 99, 107, 32, 114, 117, 103])) (aCons (wC (.str [119, 97, 115, 104, 32, 115, 111, 99, 107, 32, 115, 104, 105, 114, 116, 32, 43, 32, 114, 101, 100])) (aCons (wC (.str [119, 97, 115, 104, 32, 114, 117, 103, 32, 43, 32, 114, 101, 100])) aNil)))) aNil))))) (gN 3))
  (sSeq (sAsg (wLst (aCons (wCallN c_says_all 2 [] (aCons (wVar 1) (aCons (wVar 2) aNil))) (aCons (wCallN c_says_all 2 [] (aCons (wVar 2) (aCons (wVar 1) aNil))) (aCons (wCallN c_alike 2 [] (aCons (wVar 1) (aCons (wVar 2) aNil))) (aCons (wCallN c_alike 2 [] (aCons (wVar 1) (aCons (wVar 1) aNil))) (aCons (wCallN c_parting 2 [] (aCons (wVar 1) (aCons (wVar 2) aNil))) aNil)))))) (gN 4))
  (sSeq (sIf (tOr' (tBl (w2 neqD (wVar 4) (wLst (aCons (wC (.bl true)) (aCons (wC (.bl false)) (aCons (wC (.bl false)) (aCons (wC (.bl true)) (aCons (wC .non) aNil)))))))) (tBl (w2 neqD (wLst (aCons (wCallN c_says_all 2 [] (aCons (wVar 3) (aCons (wVar 1) aNil))) (aCons (wCallN c_says_all 2 [] (aCons (wVar 1) (aCons (wVar 3) aNil))) aNil))) (wLst (aCons (wC (.bl true)) (aCons (wC (.bl false)) aNil))))))
  (sRet (wC (.bl false))) sNil)
  (sSeq (sIf (tOr' (tBl (wNeO 0 c_Book___eq__ (wCallN c_joined 2 [] (aCons (wVar 1) (aCons (wVar 2) aNil))) (wVar 1))) (tOr' (tBl (wNeO 0 c_Book___eq__ (wCallN c_joined 2 [] (aCons (wVar 2) (aCons (wVar 1) aNil))) (wVar 1))) (tBl (w2 isnotD (wCallN c_parting 2 [] (aCons (wVar 3) (aCons (wVar 1) aNil))) (wC .non)))))
  (sRet (wC (.bl false))) sNil)
  (sSeq (sAsg (wLst (aCons (wTold 3 h__law_told (wCallN c_joined 2 [] (aCons (wVar 1) (aCons (wVar 3) aNil)))) (aCons (w2 ixD (wProp 0 c_Book_lines (wCallN c_joined 2 [] (aCons (wVar 2) (aCons (wVar 2) aNil)))) (wC (.int 1))) aNil))) (gN 4))
  (sRet (w2 eqqD (wVar 4) (wLst (aCons (wLst (aCons (wC (.str [99, 111, 110, 116, 114, 97, 100, 105, 99, 116, 115])) (aCons (wC (.int 0)) aNil))) (aCons (wC (.str [119, 97, 115, 104, 32, 115, 111, 99, 107, 32, 115, 104, 105, 114, 116, 32, 63, 32, 114, 101, 100, 32, 98, 108, 117, 101])) aNil)))))))))))))
def c__law_sock_right : Con := loc (conB 5 0 w__law_sock_right)
def w__law_right_c : WS := (sSeq (sAsg (wTup (aCons (wTup (aCons (wC (.str [120])) (aCons (wC (.str [114, 101, 100])) (aCons (wVar 2) aNil)))) (aCons (wTup (aCons (wC (.str [121])) (aCons (wC (.str [98, 108, 117, 101])) (aCons (wVar 2) aNil)))) aNil))) (gN 3))
  (sSeq (sAsg (wLoc (wFz 9 (wMake 0 c_Book_init 3 [] (aCons (wVar 3) (aCons (w2 addD (w2 mulT (wTup (aCons (wC (.str [119, 97, 115, 104, 32, 121, 32, 120, 32, 43, 32, 114, 101, 100, 32, 98, 108, 117, 101])) aNil)) (wVar 1)) (wTup (aCons (wC (.str [119, 97, 115, 104, 32, 121, 32, 120])) aNil))) aNil))))) (gN 4))
  (sSeq (sAsg (wLoc (wFz 9 (wMake 0 c_Book_init 3 [] (aCons (wVar 3) (aCons (w2 addD (w2 mulT (wTup (aCons (wC (.str [119, 97, 115, 104, 32, 121, 32, 120, 32, 43, 32, 114, 101, 100, 32, 63, 32, 98, 108, 117, 101])) aNil)) (wVar 1)) (wTup (aCons (wC (.str [119, 97, 115, 104, 32, 121, 32, 120, 32, 63, 32, 98, 108, 117, 101])) aNil))) aNil))))) (gN 5))
  (sSeq (sAsg (wLoc (wFz 9 (wMake 0 c_Book_init 3 [] (aCons (wVar 3) (aCons (w2 addD (w2 mulT (wTup (aCons (wC (.str [119, 97, 115, 104, 32, 121, 32, 120, 32, 43, 32, 98, 108, 117, 101, 32, 63, 32, 114, 101, 100])) aNil)) (wVar 1)) (wTup (aCons (wC (.str [119, 97, 115, 104, 32, 121, 32, 120, 32, 63, 32, 114, 101, 100])) aNil))) aNil))))) (gN 6))
  (sSeq (sAsg (wLstO (aCons (wCallN c_says_all 2 [] (aCons (wVar 4) (aCons (wVar 5) aNil))) (aCons (wCallN c_says_all 2 [] (aCons (wVar 5) (aCons (wVar 4) aNil))) (aCons (wCallN c_says_all 2 [] (aCons (wVar 5) (aCons (wVar 6) aNil))) aNil)))) (gN 7))
  (sSeq (sAsg (w2 addD (wVar 7) (wLst (aCons (wCallN c_alike 2 [] (aCons (wVar 4) (aCons (wCallN c_joined 2 [] (aCons (wVar 5) (aCons (wVar 6) aNil))) aNil))) (aCons (wCallN c_parting 2 [] (aCons (wVar 4) (aCons (wVar 5) aNil))) aNil)))) (gN 7))
  (sSeq (sIf (tBl (w2 neqD (wVar 7) (wLst (aCons (wC (.bl true)) (aCons (wC (.bl false)) (aCons (wC (.bl false)) (aCons (wC (.bl true)) (aCons (wC .non) aNil))))))))
  (sRet (wC (.bl false))) sNil)
  (sSeq (sAsg (wCallN c_parting 2 [] (aCons (wVar 5) (aCons (wVar 4) aNil))) (gN 8))
  (sSeq (sIf (tOr' (tNo (tTru (wBu (b2' isiD) (aCons (wVar 8) (aCons (wC (.ty .tup)) aNil))))) (tOr' (tBl (w2 neqD (w2 ixD (wVar 8) (wC (.int 0))) (wVar 1))) (tOr' (tBl (w2 eqqD (w2 ixD (wVar 8) (wC (.int 1))) (wVar 1))) (tNo (tBl (wCh leD leD (wC (.int 0)) (w2 ixD (wVar 8) (wC (.int 1))) (wVar 2)))))))
  (sRet (wC (.bl false))) sNil)
  (sSeq (sIf (tOr' (tBl (wNeO 0 c_Book___eq__ (wCallN c_joined 2 [] (aCons (wVar 5) (aCons (wVar 6) aNil))) (wVar 4))) (tBl (wNeO 0 c_Book___eq__ (wCallN c_joined 2 [] (aCons (wVar 6) (aCons (wVar 5) aNil))) (wVar 4))))
  (sRet (wC (.bl false))) sNil)
  (sSeq (sAsg (wLoc (wFz 9 (wMake 0 c_Book_init 3 [] (aCons (wVar 3) (aCons (w2 addD (w2 mulT (wTup (aCons (wC (.str [119, 97, 115, 104, 32, 121, 32, 120, 32, 43, 32, 114, 101, 100, 32, 63, 32, 98, 108, 117, 101])) aNil)) (wVar 1)) (wTup (aCons (wC (.str [119, 97, 115, 104, 32, 121, 32, 120, 32, 43, 32, 114, 101, 100, 32, 63, 32, 98, 108, 117, 101])) aNil))) aNil))))) (gN 9))
  (sSeq (sAsg (wLstO (aCons (wTold 3 h__law_told (wCallN c_joined 2 [] (aCons (wVar 9) (aCons (wVar 4) aNil)))) aNil)) (gN 7))
  (sSeq (sExpr (wMe isL appF (wVar 7) (aCons (wTold 3 h__law_told (wCallN c_joined 2 [] (aCons (wVar 4) (aCons (wVar 9) aNil)))) aNil)))
  (sSeq (sIf (tBl (w2 neqD (wVar 7) (w2 mulD (wLst (aCons (wLst (aCons (wC (.str [99, 111, 110, 116, 114, 97, 100, 105, 99, 116, 115])) (aCons (wVar 1) aNil))) aNil)) (wC (.int 2)))))
  (sRet (wC (.bl false))) sNil)
  (sRet (wAnd (w2 isD (wCallN c_says_all 2 [] (aCons (wVar 9) (aCons (wVar 5) aNil))) (wC (.bl false))) (wCallN c__law_sock_right 0 [] aNil)))))))))))))))))
def w__law_right : WS := (sSeq (sPar2 1 2 (aCons (w2 addD (wC (.int 1)) (wCallN c__law_dab 2 [] (aCons (wVar 0) (aCons (wC (.int 5)) aNil)))) (aCons (w2 addD (wC (.int 6)) (wCallN c__law_dab 2 [] (aCons (wVar 0) (aCons (wC (.int 7)) aNil)))) aNil))) w__law_right_c)
def c__law_right : Con := loc (conB 10 1 w__law_right)
def w__law_rinse : WS := (sSeq (sAsg (w2 addD (wC (.int 86028157)) (w2 mulD (wC (.int 52)) (wVar 1))) (gN 2))
  (sSeq (sFor (iSeq (wFz 1 (wSl (wVar 0) oNo (oYes (wC (.int 50)))))) (gN 3)
  (sAsg (w2 modD (wBu (b1 intD) (aCons (w2 addD (w2 addD (w2 mulD (wVar 2) (wC (.int 16843))) (w2 modD (wBu (b1 intD) (aCons (wVar 3) aNil)) (wC (.int 1000000033)))) (wC (.int 15))) aNil)) (wC (.int 2147483123))) (gN 2)))
  (sSeq (sAsg (wIf (tAn (tBl (w2 ltD (wVar 1) (wBu (b1 lenD) (aCons (wVar 0) aNil)))) (tBl (w2 geD (wBu (b1 absD) (aCons (w2 ixD (wVar 0) (wVar 1)) aNil)) (w2 powD (wC (.int 10)) (wC (.int 18)))))) (wBu (b1 absD) (aCons (w2 ixD (wVar 0) (wVar 1)) aNil)) (wC (.int 0))) (gN 4))
  (sRet (wLstO (aCons (wVar 4) (aCons (wVar 2) (aCons (wC (.int 0)) aNil))))))))
def c__law_rinse : Con := (conB 5 2 w__law_rinse)
def w_law : WS := (sSeq (sFor (iRg1 (wBu (b2' maxD) (aCons (wC (.int 2)) (aCons (wBu (b2' minD) (aCons (wBu (b1 lenD) (aCons (wVar 0) aNil)) (aCons (wC (.int 5)) aNil))) aNil)))) (gN 1)
  (sIf (tNo (tTru (wLoc (wCallN c__law_right 1 [] (aCons (wCallN c__law_rinse 2 [] (aCons (wVar 0) (aCons (wVar 1) aNil))) aNil)))))
  (sRet (wC (.bl false))) sNil))
  (sRet (wC (.bl true))))
def c_law : Con := loc (conB 2 1 w_law)
end K23

namespace K23
open PySem PySem.Spec PyProof.Rows L2 Pk
theorem S_Contradicts : ErrS e_Contradicts := ⟨.mk (fun env => ⟨_, rfl⟩) (.cons .nil), fun fd h hd v us hl => by
  cases fd
  cases h
  cases hd
  exact match us, hl with | [_], _ => rfl, ⟨_, rfl, rfl⟩, by decide +kernel, rfl, rfl, rfl, rfl, rfl, by decide +kernel, by decide +kernel⟩
theorem S__law_dab : FnScope ["_law_rinse_here", "_law_size", "_law_stirred", "_law_by", "_law_figure"] ["_law_rinse_here", "_law_size"] (defScope s__law_dab) := ⟨rfl, rfl, rfl, by decide +kernel, rfl, by decide +kernel, by decide +kernel⟩
theorem S_is_name : FnScope ["value", "sign"] ["value"] (defScope s_is_name) := ⟨rfl, rfl, rfl, by decide +kernel, rfl, by decide +kernel, by decide +kernel⟩
theorem S_is_integer : FnScope ["value"] ["value"] (defScope s_is_integer) := ⟨rfl, rfl, rfl, by decide +kernel, rfl, by decide +kernel, by decide +kernel⟩
theorem S_is_between : FnScope ["value", "least", "most"] ["value", "least", "most"] (defScope s_is_between) := ⟨rfl, rfl, rfl, by decide +kernel, rfl, by decide +kernel, by decide +kernel⟩
theorem S_is_garment : FnScope ["value"] ["value"] (defScope s_is_garment) := ⟨rfl, rfl, rfl, by decide +kernel, rfl, by decide +kernel, by decide +kernel⟩
theorem S_check_garments : FnScope ["garments", "index", "value", "garment"] ["garments"] (defScope s_check_garments) := ⟨rfl, rfl, rfl, by decide +kernel, rfl, by decide +kernel, by decide +kernel⟩
theorem S_parted_at : FnScope ["words", "mark", "at"] ["words", "mark"] (defScope s_parted_at) := ⟨rfl, rfl, rfl, by decide +kernel, rfl, by decide +kernel, by decide +kernel⟩
theorem S_dyes_in : FnScope ["garments", "garment"] ["garments"] (defScope s_dyes_in) := ⟨rfl, rfl, rfl, by decide +kernel, rfl, by decide +kernel, by decide +kernel⟩
theorem S_are_different : FnScope ["words", "at", "word"] ["words"] (defScope s_are_different) := ⟨rfl, rfl, rfl, by decide +kernel, rfl, by decide +kernel, by decide +kernel⟩
theorem S_names_in : FnScope ["garments", "garment"] ["garments"] (defScope s_names_in) := ⟨rfl, rfl, rfl, by decide +kernel, rfl, by decide +kernel, by decide +kernel⟩
theorem S_wash_in : FnScope ["garments", "words", "rest", "skipped", "names", "found", "told", "here", "looked", "garment", "name", "dye"] ["garments", "words"] (defScope s_wash_in) := ⟨rfl, rfl, rfl, by decide +kernel, rfl, by decide +kernel, by decide +kernel⟩
theorem S_entry_in : FnScope ["garments", "line", "words"] ["garments", "line"] (defScope s_entry_in) := ⟨rfl, rfl, rfl, by decide +kernel, rfl, by decide +kernel, by decide +kernel⟩
theorem S_check_lines : FnScope ["garments", "lines", "index", "line"] ["garments", "lines"] (defScope s_check_lines) := ⟨rfl, rfl, rfl, by decide +kernel, rfl, by decide +kernel, by decide +kernel⟩
theorem S_Walk_wash : FnScope ["self", "garments", "index", "lives", "looks", "life", "pairs", "dye", "is_seen", "pair"] ["self", "garments", "index", "lives", "looks"] (defScope s_Walk_wash) := ⟨rfl, rfl, rfl, by decide +kernel, rfl, by decide +kernel, by decide +kernel⟩
theorem S_Walk_go : FnScope ["self", "garments", "entries", "here", "index", "word", "names", "looks", "name"] ["self", "garments", "entries"] (defScope s_Walk_go) := ⟨rfl, rfl, rfl, by decide +kernel, rfl, by decide +kernel, by decide +kernel⟩
theorem S_Walk_init : FnScope ["self", "garments", "entries", "owner", "garment", "many", "entry", "turn"] ["self", "garments", "entries"] (defScope s_Walk_init) := ⟨rfl, rfl, rfl, by decide +kernel, rfl, by decide +kernel, by decide +kernel⟩
theorem S_Book_init : FnScope ["self", "garments", "lines", "line"] ["self", "garments", "lines"] (defScope s_Book_init) := ⟨rfl, rfl, rfl, by decide +kernel, rfl, by decide +kernel, by decide +kernel⟩
theorem S_check_book : FnScope ["value"] ["value"] (defScope s_check_book) := ⟨rfl, rfl, rfl, by decide +kernel, rfl, by decide +kernel, by decide +kernel⟩
theorem S_Book_garments : FnScope ["self"] ["self"] (defScope s_Book_garments) := ⟨rfl, rfl, rfl, by decide +kernel, rfl, by decide +kernel, by decide +kernel⟩
theorem S_Book_entries : FnScope ["self"] ["self"] (defScope s_Book_entries) := ⟨rfl, rfl, rfl, by decide +kernel, rfl, by decide +kernel, by decide +kernel⟩
theorem S_washes_of : FnScope ["book", "word", "names", "looks"] ["book"] (defScope s_washes_of) := ⟨rfl, rfl, rfl, by decide +kernel, rfl, by decide +kernel, by decide +kernel⟩
theorem S_check_kin : FnScope ["one", "other"] ["one", "other"] (defScope s_check_kin) := ⟨rfl, rfl, rfl, by decide +kernel, rfl, by decide +kernel, by decide +kernel⟩
theorem S_Book_lives : FnScope ["self"] ["self"] (defScope s_Book_lives) := ⟨rfl, rfl, rfl, by decide +kernel, rfl, by decide +kernel, by decide +kernel⟩
theorem S_garment_of : FnScope ["book", "life"] ["book", "life"] (defScope s_garment_of) := ⟨rfl, rfl, rfl, by decide +kernel, rfl, by decide +kernel, by decide +kernel⟩
theorem S_top_of : FnScope ["book", "life"] ["book", "life"] (defScope s_top_of) := ⟨rfl, rfl, rfl, by decide +kernel, rfl, by decide +kernel, by decide +kernel⟩
theorem S_Book_looks : FnScope ["self"] ["self"] (defScope s_Book_looks) := ⟨rfl, rfl, rfl, by decide +kernel, rfl, by decide +kernel, by decide +kernel⟩
theorem S_Book_spans : FnScope ["self"] ["self"] (defScope s_Book_spans) := ⟨rfl, rfl, rfl, by decide +kernel, rfl, by decide +kernel, by decide +kernel⟩
theorem S_tops_of : FnScope ["book", "skipped", "found", "index", "look", "life", "number"] ["book", "skipped"] (defScope s_tops_of) := ⟨rfl, rfl, rfl, by decide +kernel, rfl, by decide +kernel, by decide +kernel⟩
theorem S_fits_tops : FnScope ["book", "greatest", "skipped", "index", "look", "is_asked", "life", "number"] ["book", "greatest", "skipped"] (defScope s_fits_tops) := ⟨rfl, rfl, rfl, by decide +kernel, rfl, by decide +kernel, by decide +kernel⟩
theorem S_without_look : FnScope ["book", "greatest", "is_seen", "pairs", "lowered", "life", "number"] ["book", "greatest", "is_seen", "pairs"] (defScope s_without_look) := ⟨rfl, rfl, rfl, by decide +kernel, rfl, by decide +kernel, by decide +kernel⟩
theorem S_reading_between : FnScope ["one", "other", "greatest", "look", "pairs", "found"] ["one", "other"] (defScope s_reading_between) := ⟨rfl, rfl, rfl, by decide +kernel, rfl, by decide +kernel, by decide +kernel⟩
theorem S_says_all : FnScope ["one", "other"] ["one", "other"] (defScope s_says_all) := ⟨rfl, rfl, rfl, by decide +kernel, rfl, by decide +kernel, by decide +kernel⟩
theorem S_parting : FnScope ["one", "other"] ["one", "other"] (defScope s_parting) := ⟨rfl, rfl, rfl, by decide +kernel, rfl, by decide +kernel, by decide +kernel⟩
theorem S_alike : FnScope ["one", "other"] ["one", "other"] (defScope s_alike) := ⟨rfl, rfl, rfl, by decide +kernel, rfl, by decide +kernel, by decide +kernel⟩
theorem S_Book_lines : FnScope ["self"] ["self"] (defScope s_Book_lines) := ⟨rfl, rfl, rfl, by decide +kernel, rfl, by decide +kernel, by decide +kernel⟩
theorem S_Book_dyes : FnScope ["self"] ["self"] (defScope s_Book_dyes) := ⟨rfl, rfl, rfl, by decide +kernel, rfl, by decide +kernel, by decide +kernel⟩
theorem S_joined_line : FnScope ["book", "names", "looks", "here", "found", "skipped", "words", "dye", "garment"] ["book", "names", "looks"] (defScope s_joined_line) := ⟨rfl, rfl, rfl, by decide +kernel, rfl, by decide +kernel, by decide +kernel⟩
theorem S_joined : FnScope ["one", "other", "lines", "index", "line", "word", "names", "looks", "mine", "mates", "dye"] ["one", "other"] (defScope s_joined) := ⟨rfl, rfl, rfl, by decide +kernel, rfl, by decide +kernel, by decide +kernel⟩
theorem S_Book___eq__ : FnScope ["self", "other"] ["self", "other"] (defScope s_Book___eq__) := ⟨rfl, rfl, rfl, by decide +kernel, rfl, by decide +kernel, by decide +kernel⟩
theorem S__law_sort : FnScope ["_law_e", "_law_own", "_law_words", "_law_bases", "_law_plain", "_law_at"] ["_law_e"] (defScope s__law_sort) := ⟨rfl, rfl, rfl, by decide +kernel, rfl, by decide +kernel, by decide +kernel⟩
theorem S__law_kept : FnScope ["_law_e", "_law_word"] ["_law_e"] (defScope s__law_kept) := ⟨rfl, rfl, rfl, by decide +kernel, rfl, by decide +kernel, by decide +kernel⟩
theorem S__law_told : FnScope ["_law_act", "_law_back", "_law_e"] ["_law_act"] (defScope s__law_told) := ⟨rfl, rfl, rfl, by decide +kernel, rfl, by decide +kernel, by decide +kernel⟩
theorem S__law_sock_right : FnScope ["_law_wears", "_law_mine", "_law_less", "_law_torn", "_law_told_here"] [] (defScope s__law_sock_right) := ⟨rfl, rfl, rfl, by decide +kernel, rfl, by decide +kernel, by decide +kernel⟩
theorem S__law_right : FnScope ["_law_rinse_here", "_law_often", "_law_size", "_law_wears", "_law_full", "_law_reds", "_law_blues", "_law_told_here", "_law_form", "_law_last"] ["_law_rinse_here"] (defScope s__law_right) := ⟨rfl, rfl, rfl, by decide +kernel, rfl, by decide +kernel, by decide +kernel⟩
theorem S__law_rinse : FnScope ["_law_script", "_law_turn", "_law_stirred", "_law_each", "_law_great"] ["_law_script", "_law_turn"] (defScope s__law_rinse) := ⟨rfl, rfl, rfl, by decide +kernel, rfl, by decide +kernel, by decide +kernel⟩
theorem S_law : FnScope ["_law_script", "_law_turn"] ["_law_script"] (defScope s_law) := ⟨rfl, rfl, rfl, by decide +kernel, rfl, by decide +kernel, by decide +kernel⟩
structure Facts (P : Program) (K : PySem.W.Frag) (mg : Str → Option Value) : Prop where
  gl_law : mg "law" = some (.ref (He.ga K "law"))
  fr_len : mg "len" = none
  fr_min : mg "min" = none
  fr_max : mg "max" = none
  fr_range : mg "range" = none
  gl__law_rinse : mg "_law_rinse" = some (.ref (He.ga K "_law_rinse"))
  gl__law_right : mg "_law_right" = some (.ref (He.ga K "_law_right"))
  gl__law_dab : mg "_law_dab" = some (.ref (He.ga K "_law_dab"))
  mk_Book : Mk K (He.ga K "Book") (pM "Book" "__init__" K)
  gl_Book : mg "Book" = some (.ref (He.ga K "Book"))
  gl_says_all : mg "says_all" = some (.ref (He.ga K "says_all"))
  gl_parting : mg "parting" = some (.ref (He.ga K "parting"))
  gl_joined : mg "joined" = some (.ref (He.ga K "joined"))
  gl_alike : mg "alike" = some (.ref (He.ga K "alike"))
  fr_tuple : mg "tuple" = none
  fr_isinstance : mg "isinstance" = none
  me_Book___eq__ : Meth K (He.ga K "Book") "__eq__" (pM "Book" "__eq__" K)
  ne_Book : NeF K (He.ga K "Book")
  gl__law_told : mg "_law_told" = some (.ref (He.ga K "_law_told"))
  gl__law_sock_right : mg "_law_sock_right" = some (.ref (He.ga K "_law_sock_right"))
  fr_int : mg "int" = none
  fr_divmod : mg "divmod" = none
  gl_check_garments : mg "check_garments" = some (.ref (He.ga K "check_garments"))
  gl_check_lines : mg "check_lines" = some (.ref (He.ga K "check_lines"))
  cl_Book : Cls K (He.ga K "Book")
  na_Book_clothes : NoAttr K (He.ga K "Book") "clothes"
  na_Book_told : NoAttr K (He.ga K "Book") "told"
  na_Book_parsed : NoAttr K (He.ga K "Book") "parsed"
  gl_entry_in : mg "entry_in" = some (.ref (He.ga K "entry_in"))
  na_Book_walk : NoAttr K (He.ga K "Book") "walk"
  mk_Walk : Mk K (He.ga K "Walk") (pM "Walk" "__init__" K)
  gl_Walk : mg "Walk" = some (.ref (He.ga K "Walk"))
  fr_enumerate : mg "enumerate" = none
  gi_MOST_GARMENTS : ∃ t, mg "MOST_GARMENTS" = some (.int (8) t)
  gl_is_garment : mg "is_garment" = some (.ref (He.ga K "is_garment"))
  gl_is_name : mg "is_name" = some (.ref (He.ga K "is_name"))
  gi_MOST_WASHES : ∃ t, mg "MOST_WASHES" = some (.int (12) t)
  gl_is_between : mg "is_between" = some (.ref (He.ga K "is_between"))
  fr_str : mg "str" = none
  gs_LETTERS : ∃ t, mg "LETTERS" = some (.str "abcdefghijklmnopqrstuvwxyz" t)
  fr_all : mg "all" = none
  gl_is_integer : mg "is_integer" = some (.ref (He.ga K "is_integer"))
  fr_bool : mg "bool" = none
  gi_MOST_LINES : ∃ t, mg "MOST_LINES" = some (.int (30) t)
  gs_WASH : ∃ t, mg "WASH" = some (.str "wash" t)
  gl_wash_in : mg "wash_in" = some (.ref (He.ga K "wash_in"))
  gs_RENEW : ∃ t, mg "RENEW" = some (.str "renew" t)
  gl_names_in : mg "names_in" = some (.ref (He.ga K "names_in"))
  gs_SKIPPED : ∃ t, mg "SKIPPED" = some (.str "?" t)
  gl_parted_at : mg "parted_at" = some (.ref (He.ga K "parted_at"))
  gs_SEEN : ∃ t, mg "SEEN" = some (.str "+" t)
  gl_dyes_in : mg "dyes_in" = some (.ref (He.ga K "dyes_in"))
  gl_are_different : mg "are_different" = some (.ref (He.ga K "are_different"))
  fr_dict : mg "dict" = none
  fr_list : mg "list" = none
  cl_Walk : Cls K (He.ga K "Walk")
  na_Walk_owners : NoAttr K (He.ga K "Walk") "owners"
  na_Walk_life_rows : NoAttr K (He.ga K "Walk") "life_rows"
  na_Walk_tally_row : NoAttr K (He.ga K "Walk") "tally_row"
  na_Walk_load_rows : NoAttr K (He.ga K "Walk") "load_rows"
  na_Walk_look_rows : NoAttr K (He.ga K "Walk") "look_rows"
  na_Walk_span_rows : NoAttr K (He.ga K "Walk") "span_rows"
  me_Walk_go : Meth K (He.ga K "Walk") "go" (pM "Walk" "go" K)
  me_Walk_wash : Meth K (He.ga K "Walk") "wash" (pM "Walk" "wash" K)
  fr_sorted : mg "sorted" = none
  gl_check_kin : mg "check_kin" = some (.ref (He.ga K "check_kin"))
  gl_reading_between : mg "reading_between" = some (.ref (He.ga K "reading_between"))
  gl_check_book : mg "check_book" = some (.ref (He.ga K "check_book"))
  pr_Book_garments : PropOf K (He.ga K "Book") "garments" (pM "Book" "garments" K) (pP "Book" "garments" K)
  gl_washes_of : mg "washes_of" = some (.ref (He.ga K "washes_of"))
  is_Book : fIsi "Book" K = true
  pr_Book_entries : PropOf K (He.ga K "Book") "entries" (pM "Book" "entries" K) (pP "Book" "entries" K)
  gl_tops_of : mg "tops_of" = some (.ref (He.ga K "tops_of"))
  gl_fits_tops : mg "fits_tops" = some (.ref (He.ga K "fits_tops"))
  pr_Book_looks : PropOf K (He.ga K "Book") "looks" (pM "Book" "looks" K) (pP "Book" "looks" K)
  pr_Book_spans : PropOf K (He.ga K "Book") "spans" (pM "Book" "spans" K) (pP "Book" "spans" K)
  fr_zip : mg "zip" = none
  gl_without_look : mg "without_look" = some (.ref (He.ga K "without_look"))
  pr_Book_lives : PropOf K (He.ga K "Book") "lives" (pM "Book" "lives" K) (pP "Book" "lives" K)
  gl_top_of : mg "top_of" = some (.ref (He.ga K "top_of"))
  gl_garment_of : mg "garment_of" = some (.ref (He.ga K "garment_of"))
  fr_any : mg "any" = none
  pr_Book_lines : PropOf K (He.ga K "Book") "lines" (pM "Book" "lines" K) (pP "Book" "lines" K)
  eb_Contradicts : errCB K (He.ga K "Contradicts") .a = true
  ei_Contradicts : errFB K f0 e_Contradicts = true
  fr_super : mg "super" = none
  gl_Contradicts : mg "Contradicts" = some (.ref (He.ga K "Contradicts"))
  gl_joined_line : mg "joined_line" = some (.ref (He.ga K "joined_line"))
  pr_Book_dyes : PropOf K (He.ga K "Book") "dyes" (pM "Book" "dyes" K) (pP "Book" "dyes" K)
  ex_NotRight_NotThere_CannotBe : fExm tab [20] (fun K => [.ref (He.ga K "NotRight"), .ref (He.ga K "NotThere"), .ref (He.ga K "CannotBe")]) [20] K = true
  gl_NotRight : mg "NotRight" = some (.ref (He.ga K "NotRight"))
  gl_NotThere : mg "NotThere" = some (.ref (He.ga K "NotThere"))
  gl_CannotBe : mg "CannotBe" = some (.ref (He.ga K "CannotBe"))
  gl__law_kept : mg "_law_kept" = some (.ref (He.ga K "_law_kept"))
  gl__law_sort : mg "_law_sort" = some (.ref (He.ga K "_law_sort"))
  erq : fErQ tab [20] K = true
  ef_index : fErf tab (([] : List (Nat × Nat)).map (·.1)) "index" K = true
  ef_most : fErf tab (([] : List (Nat × Nat)).map (·.1)) "most" K = true
  ef_given : fErf tab (([(20, 0)] : List (Nat × Nat)).map (·.1)) "given" K = true
  gl_InvalidLife : mg "InvalidLife" = some (.ref (He.ga K "InvalidLife"))
  ki_InvalidLife : fKit tab [20] (fun K => .ref (He.ga K "InvalidLife")) [] K = true
  gl_InvalidLine : mg "InvalidLine" = some (.ref (He.ga K "InvalidLine"))
  ki_InvalidLine : fKit tab [20] (fun K => .ref (He.ga K "InvalidLine")) [] K = true
  gl_InvalidText : mg "InvalidText" = some (.ref (He.ga K "InvalidText"))
  ki_InvalidText : fKit tab [20] (fun K => .ref (He.ga K "InvalidText")) [] K = true
  gl_InvalidReading : mg "InvalidReading" = some (.ref (He.ga K "InvalidReading"))
  ki_InvalidReading : fKit tab [20] (fun K => .ref (He.ga K "InvalidReading")) [] K = true
  gl_InvalidName : mg "InvalidName" = some (.ref (He.ga K "InvalidName"))
  ki_InvalidName : fKit tab [20] (fun K => .ref (He.ga K "InvalidName")) [] K = true
  gl_InvalidLook : mg "InvalidLook" = some (.ref (He.ga K "InvalidLook"))
  ki_InvalidLook : fKit tab [20] (fun K => .ref (He.ga K "InvalidLook")) [] K = true
  gl_InvalidNumber : mg "InvalidNumber" = some (.ref (He.ga K "InvalidNumber"))
  ki_InvalidNumber : fKit tab [20] (fun K => .ref (He.ga K "InvalidNumber")) [] K = true
  gl_InvalidPlace : mg "InvalidPlace" = some (.ref (He.ga K "InvalidPlace"))
  ki_InvalidPlace : fKit tab [20] (fun K => .ref (He.ga K "InvalidPlace")) [] K = true
  gl_InvalidClaim : mg "InvalidClaim" = some (.ref (He.ga K "InvalidClaim"))
  ki_InvalidClaim : fKit tab [20] (fun K => .ref (He.ga K "InvalidClaim")) [] K = true
  gl_InvalidWish : mg "InvalidWish" = some (.ref (He.ga K "InvalidWish"))
  ki_InvalidWish : fKit tab [20] (fun K => .ref (He.ga K "InvalidWish")) [] K = true
  gl_InvalidLines : mg "InvalidLines" = some (.ref (He.ga K "InvalidLines"))
  ki_InvalidLines : fKit tab [20] (fun K => .ref (He.ga K "InvalidLines")) [] K = true
  gl_InvalidGarments : mg "InvalidGarments" = some (.ref (He.ga K "InvalidGarments"))
  ki_InvalidGarments : fKit tab [20] (fun K => .ref (He.ga K "InvalidGarments")) [] K = true
  gl_NotABook : mg "NotABook" = some (.ref (He.ga K "NotABook"))
  ki_NotABook : fKit tab [20] (fun K => .ref (He.ga K "NotABook")) [] K = true
  gl_InvalidWishes : mg "InvalidWishes" = some (.ref (He.ga K "InvalidWishes"))
  ki_InvalidWishes : fKit tab [20] (fun K => .ref (He.ga K "InvalidWishes")) [] K = true
  gl_InvalidLoads : mg "InvalidLoads" = some (.ref (He.ga K "InvalidLoads"))
  ki_InvalidLoads : fKit tab [20] (fun K => .ref (He.ga K "InvalidLoads")) [] K = true
  gl_InvalidLoad : mg "InvalidLoad" = some (.ref (He.ga K "InvalidLoad"))
  ki_InvalidLoad : fKit tab [20] (fun K => .ref (He.ga K "InvalidLoad")) [] K = true
  gl_InUse : mg "InUse" = some (.ref (He.ga K "InUse"))
  ki_InUse : fKit tab [20] (fun K => .ref (He.ga K "InUse")) [] K = true
  gl_UnknownName : mg "UnknownName" = some (.ref (He.ga K "UnknownName"))
  ki_UnknownName : fKit tab [20] (fun K => .ref (He.ga K "UnknownName")) [] K = true
  gl_InvalidChanges : mg "InvalidChanges" = some (.ref (He.ga K "InvalidChanges"))
  ki_InvalidChanges : fKit tab [20] (fun K => .ref (He.ga K "InvalidChanges")) [] K = true
  ki_Contradicts : fKit tab [20] (fun K => .ref (He.ga K "Contradicts")) [20] K = true
  gl_OtherBook : mg "OtherBook" = some (.ref (He.ga K "OtherBook"))
  ki_OtherBook : fKit tab [20] (fun K => .ref (He.ga K "OtherBook")) [] K = true
  gl_Impossible : mg "Impossible" = some (.ref (He.ga K "Impossible"))
  ki_Impossible : fKit tab [20] (fun K => .ref (He.ga K "Impossible")) [] K = true
  gl_Broken : mg "Broken" = some (.ref (He.ga K "Broken"))
  ki_Broken : fKit tab [20] (fun K => .ref (He.ga K "Broken")) [] K = true
  gl_NothingToUndo : mg "NothingToUndo" = some (.ref (He.ga K "NothingToUndo"))
  ki_NothingToUndo : fKit tab [20] (fun K => .ref (He.ga K "NothingToUndo")) [] K = true
  gl_TooMany : mg "TooMany" = some (.ref (He.ga K "TooMany"))
  ki_TooMany : fKit tab [20] (fun K => .ref (He.ga K "TooMany")) [] K = true
  ki_CannotBe : fKit tab [20] (fun K => .ref (He.ga K "CannotBe")) [20] K = true
  ki_NotThere : fKit tab [20] (fun K => .ref (He.ga K "NotThere")) [] K = true
  ki_NotRight : fKit tab [20] (fun K => .ref (He.ga K "NotRight")) [] K = true
  fr_ArithmeticError : mg "ArithmeticError" = none
  ki_ArithmeticError : fKit tab [20] (fun K => .type "ArithmeticError") [20] K = true
  fr_LookupError : mg "LookupError" = none
  ki_LookupError : fKit tab [20] (fun K => .type "LookupError") [] K = true
  fr_ValueError : mg "ValueError" = none
  ki_ValueError : fKit tab [20] (fun K => .type "ValueError") [] K = true
  fr_abs : mg "abs" = none
  em_fits_tops : emB K (He.dflAt ("fits_tops", none) 0 K) = true
  em_tops_of : emB K (He.dflAt ("tops_of", none) 0 K) = true
  apt : apart (lams.map fun x => (He.cT K (x, none)).2) = true
  fl_Book_clothes : FldF K (tab K) 0 "clothes" 0
  fl_Book_told : FldF K (tab K) 0 "told" 1
  fl_Book_parsed : FldF K (tab K) 0 "parsed" 2
  fl_Book_walk : FldF K (tab K) 0 "walk" 3
  fl_Walk_owners : FldF K (tab K) 1 "owners" 0
  fl_Walk_life_rows : FldF K (tab K) 1 "life_rows" 1
  fl_Walk_tally_row : FldF K (tab K) 1 "tally_row" 2
  fl_Walk_load_rows : FldF K (tab K) 1 "load_rows" 3
  fl_Walk_look_rows : FldF K (tab K) 1 "look_rows" 4
  fl_Walk_span_rows : FldF K (tab K) 1 "span_rows" 5
  mf_Walk_go : MethF K (tab K) 1 "go" (pM "Walk" "go" K)
  mf_Walk_wash : MethF K (tab K) 1 "wash" (pM "Walk" "wash" K)
  ra_Contradicts : RaiF P K (tab K) 20
section
variable {P : Program} {w0 : World} {K : PySem.W.Frag} {mg : Str → Option Value} {base : Heap}
theorem ok__law_dab (G : Facts P K mg) (F : ∃ fd, FunD K "_law_dab" "_law_dab" (defArgs s__law_dab) (defBody s__law_dab) (defScope s__law_dab) [] [] ((pG "_law_dab") K) fd)  : OkF P w0 K mg base (tab K) 1 ((pG "_law_dab") K) ["_law_rinse_here", "_law_size"] c__law_dab := by
  obtain ⟨fd, F⟩ := F
  refine ⟨fd, (fn_con (k := 0) F S__law_dab (w := w__law_dab) fun cdv A outer s H E F0 m0 H0 hr => ?_).imp fun _ _ _ _ h => loc_sp h, F.bindsN fun _ _ _ _ _ _ us hl => match us, hl with | [_, _], _ => rfl, F.kp⟩
  exact (dss_cons (ds_asg2 (o_add (de_ix (hu1 hr) (vr 0) de_int) de_int) (d2_sub (hu1 hr) (vr 0) de_int))
  (dss_cons (ds_asg (k_int G.fr_int (da_cons (de_ix (hu1 hr) (vr 0) de_int) da_nil)) (gn 2 S__law_dab.nd))
  (dss_cons (ds_asg (o_add (o_mod (k_int G.fr_int (da_cons (vr 2) da_nil)) de_int) de_int) (gn 3 S__law_dab.nd))
  (dss_cons (ds_asg2 (o_mod (k_int G.fr_int (da_cons (o_add (o_add (o_mul (vr 2) (vr 3)) (o_mul de_int (de_ix (hu1 hr) (vr 0) de_int))) de_int) da_nil)) de_int) (d2_sub (hu1 hr) (vr 0) de_int))
  (dss_cons (ds_if (t_gt (de_ix (hu1 hr) (vr 0) de_int) de_int)
  (dss_cons (ds_asg2T rfl (k_divmod G.fr_divmod (da_cons (de_ix (hu1 hr) (vr 0) de_int) (da_cons (vr 1) da_nil))) (d2s_cons (d2_sub (hu1 hr) (vr 0) de_int) (d2s_cons (gn2 4 S__law_dab.nd) d2s_nil)))
  (dss_one (ds_ret (vr 4)))) dss_nil)
  (dss_one (ds_ret (o_mod (k_int G.fr_int (da_cons (o_fdiv (de_ix (hu1 hr) (vr 0) de_int) de_int) da_nil)) (vr 1)))))))))
theorem ok_is_name (G : Facts P K mg) (F : ∃ fd, FunD K "is_name" "is_name" (defArgs s_is_name) (defBody s_is_name) (defScope s_is_name) [] [] ((pG "is_name") K) fd)  : OkF P w0 K mg base (tab K) 1 ((pG "is_name") K) ["value"] c_is_name := by
  obtain ⟨fd, F⟩ := F
  refine ⟨fd, (fn_con (k := 0) F S_is_name (w := w_is_name) fun cdv A outer s H E F0 m0 H0 hr => ?_).imp fun _ _ _ _ h => loc_sp h, F.bindsN fun _ _ _ _ _ _ us hl => match us, hl with | [_], _ => rfl, F.kp⟩
  exact (dss_one (ds_ret (de_and (k_isi G.fr_isinstance (da_cons (vr 0) (da_cons (de_bty rfl G.fr_str rfl) da_nil))) (de_and (de_chain op_lt okLt op_lt okLt de_int (k_len G.fr_len (da_cons (vr 0) da_nil)) de_int) (de_one (k_all rfl G.fr_all (da_cons (de_lc (own := false) (ow := [("sign", 1)]) rfl S_is_name.nd (di_seq (de_fz 1 (vr 0))) (blkOk_by (by kernel_rfl)) (by decide) (fun _ _ _ _ _ => (gn 1 S_is_name.nd)) (fun _ _ _ _ _ => dts_nil) (fun _ _ _ _ _ => (cmp_in (hu65 hr) (vr 1) (de_gstr rfl G.gs_LETTERS rfl)))) da_nil)))))))
theorem ok_is_integer (G : Facts P K mg) (F : ∃ fd, FunD K "is_integer" "is_integer" (defArgs s_is_integer) (defBody s_is_integer) (defScope s_is_integer) [] [] ((pG "is_integer") K) fd)  : OkF P w0 K mg base (tab K) 1 ((pG "is_integer") K) ["value"] c_is_integer := by
  obtain ⟨fd, F⟩ := F
  refine ⟨fd, (fn_con (k := 0) F S_is_integer (w := w_is_integer) fun cdv A outer s H E F0 m0 H0 hr => ?_).imp fun _ _ _ _ h => loc_sp h, F.bindsN fun _ _ _ _ _ _ us hl => match us, hl with | [_], _ => rfl, F.kp⟩
  exact (dss_one (ds_ret (de_and (k_isi G.fr_isinstance (da_cons (vr 0) (da_cons (de_bty rfl G.fr_int rfl) da_nil))) (de_one (de_not (k_isi G.fr_isinstance (da_cons (vr 0) (da_cons (de_bty rfl G.fr_bool rfl) da_nil))))))))
theorem ok_is_between (G : Facts P K mg) (F : ∃ fd, FunD K "is_between" "is_between" (defArgs s_is_between) (defBody s_is_between) (defScope s_is_between) [] [] ((pG "is_between") K) fd) (o_is_integer : OkF P w0 K mg base (tab K) 1 ((pG "is_integer") K) ["value"] c_is_integer) : OkF P w0 K mg base (tab K) 2 ((pG "is_between") K) ["value", "least", "most"] c_is_between := by
  obtain ⟨fd, F⟩ := F
  refine ⟨fd, (fn_con (k := 1) F S_is_between (w := w_is_between) fun cdv A outer s H E F0 m0 H0 hr => ?_).imp fun _ _ _ _ h => loc_sp h, F.bindsN fun _ _ _ _ _ _ us hl => match us, hl with | [_, _, _], _ => rfl, F.kp⟩
  exact (dss_one (ds_ret (de_and (c_fn o_is_integer (hr.mono (by decide)) G.gl_is_integer (da_cons (vr 0) da_nil)) (de_one (de_chain op_le okLe op_le okLe (vr 1) (vr 0) (vr 2))))))
theorem ok_is_garment (G : Facts P K mg) (F : ∃ fd, FunD K "is_garment" "is_garment" (defArgs s_is_garment) (defBody s_is_garment) (defScope s_is_garment) [] [] ((pG "is_garment") K) fd) (o_is_name : OkF P w0 K mg base (tab K) 1 ((pG "is_name") K) ["value"] c_is_name) (o_is_between : OkF P w0 K mg base (tab K) 2 ((pG "is_between") K) ["value", "least", "most"] c_is_between) : OkF P w0 K mg base (tab K) 3 ((pG "is_garment") K) ["value"] c_is_garment := by
  obtain ⟨fd, F⟩ := F
  refine ⟨fd, (fn_con (k := 2) F S_is_garment (w := w_is_garment) fun cdv A outer s H E F0 m0 H0 hr => ?_).imp fun _ _ _ _ h => loc_sp h, F.bindsN fun _ _ _ _ _ _ us hl => match us, hl with | [_], _ => rfl, F.kp⟩
  exact (dss_cons (ds_if (DW.dt (dw_or (dt_not (dt_truth (k_isi G.fr_isinstance (da_cons (vr 0) (da_cons (de_bty rfl G.fr_tuple rfl) da_nil))))) (dw_or1 (t_ne (hu64 hr) (k_len G.fr_len (da_cons (vr 0) da_nil)) de_int))))
  (dss_one (ds_ret de_bl)) dss_nil)
  (dss_one (ds_ret (de_and (c_fn o_is_name (hr.mono (by decide)) G.gl_is_name (da_cons (de_ix (hu1 hr) (vr 0) de_int) da_nil)) (de_and (c_fn o_is_name (hr.mono (by decide)) G.gl_is_name (da_cons (de_ix (hu1 hr) (vr 0) de_int) da_nil)) (de_one (c_fn o_is_between (hr.mono (by decide)) G.gl_is_between (da_cons (de_ix (hu1 hr) (vr 0) de_int) (da_cons de_int (da_cons (de_gint rfl G.gi_MOST_WASHES) da_nil))))))))))
theorem ok_check_garments (G : Facts P K mg) (F : ∃ fd, FunD K "check_garments" "check_garments" (defArgs s_check_garments) (defBody s_check_garments) (defScope s_check_garments) [] [] ((pG "check_garments") K) fd) (o_is_garment : OkF P w0 K mg base (tab K) 3 ((pG "is_garment") K) ["value"] c_is_garment) : OkF P w0 K mg base (tab K) 4 ((pG "check_garments") K) ["garments"] c_check_garments := by
  obtain ⟨fd, F⟩ := F
  refine ⟨fd, (fn_con (k := 3) F S_check_garments (w := w_check_garments) fun cdv A outer s H E F0 m0 H0 hr => ?_).imp fun _ _ _ _ h => loc_sp h, F.bindsN fun _ _ _ _ _ _ us hl => match us, hl with | [_], _ => rfl, F.kp⟩
  exact (dss_cons (ds_if (DW.dt (dw_or (dt_not (dt_truth (k_isi G.fr_isinstance (da_cons (vr 0) (da_cons (de_bty rfl G.fr_tuple rfl) da_nil))))) (dw_or1 (t_eq (hu64 hr) (k_len G.fr_len (da_cons (vr 0) da_nil)) de_int))))
  (dss_one ds_never) dss_nil)
  (dss_one (ds_for (passes_of rfl) rfl (di_enum rfl G.fr_enumerate (de_fz 1 (vr 0))) (dg_tup rfl (dgs_cons (gn 1 S_check_garments.nd) (dgs_cons (gn 2 S_check_garments.nd) dgs_nil)))
  (dss_cons (ds_if (DW.dt (dw_or (t_eq (hu64 hr) (vr 1) (de_gint rfl G.gi_MOST_GARMENTS)) (dw_or1 (dt_not (dt_truth (c_fn o_is_garment (hr.mono (by decide)) G.gl_is_garment (da_cons (vr 2) da_nil)))))))
  (dss_one ds_never) dss_nil)
  (dss_one (ds_if (t_in (hu65 hr) (de_ix (hu1 hr) (vr 2) de_int) (de_lc (own := false) (ow := [("garment", 3)]) rfl S_check_garments.nd (di_seq (de_fz 1 (de_slice (vr 0) do_none (do_some (vr 1))))) (blkOk_by (by kernel_rfl)) (by decide) (fun _ _ _ _ _ => (gn 3 S_check_garments.nd)) (fun _ _ _ _ _ => dts_nil) (fun _ _ _ _ _ => (de_ix (hu1 hr) (vr 3) de_int))))
  (dss_one ds_never) dss_nil))))))
theorem ok_parted_at (G : Facts P K mg) (F : ∃ fd, FunD K "parted_at" "parted_at" (defArgs s_parted_at) (defBody s_parted_at) (defScope s_parted_at) [] [] ((pG "parted_at") K) fd)  : OkF P w0 K mg base (tab K) 1 ((pG "parted_at") K) ["words", "mark"] c_parted_at := by
  obtain ⟨fd, F⟩ := F
  refine ⟨fd, (fn_con (k := 0) F S_parted_at (w := w_parted_at) fun cdv A outer s H E F0 m0 H0 hr => ?_).imp fun _ _ _ _ h => loc_sp h, F.bindsN fun _ _ _ _ _ _ us hl => match us, hl with | [_, _], _ => rfl, F.kp⟩
  exact (dss_cons (ds_if (t_nin (hu65 hr) (vr 1) (vr 0))
  (dss_one (ds_ret (de_tup (da_cons (vr 0) (da_cons de_non da_nil))))) dss_nil)
  (dss_cons (ds_asg (m_index (hu65 hr) (vr 0) (da_cons (vr 1) da_nil)) (gn 2 S_parted_at.nd))
  (dss_one (ds_ret (de_tup (da_cons (de_slice (vr 0) do_none (do_some (vr 2))) (da_cons (de_slice (vr 0) (do_some (o_add (vr 2) de_int)) do_none) da_nil)))))))
theorem ok_dyes_in (G : Facts P K mg) (F : ∃ fd, FunD K "dyes_in" "dyes_in" (defArgs s_dyes_in) (defBody s_dyes_in) (defScope s_dyes_in) [] [] ((pG "dyes_in") K) fd)  : OkF P w0 K mg base (tab K) 1 ((pG "dyes_in") K) ["garments"] c_dyes_in := by
  obtain ⟨fd, F⟩ := F
  refine ⟨fd, (fn_con (k := 0) F S_dyes_in (w := w_dyes_in) fun cdv A outer s H E F0 m0 H0 hr => ?_).imp fun _ _ _ _ h => loc_sp h, F.bindsN fun _ _ _ _ _ _ us hl => match us, hl with | [_], _ => rfl, F.kp⟩
  exact (dss_one (ds_ret (k_list false rfl G.fr_list (da_cons (k_dict false rfl G.fr_dict (da_cons (de_lc (own := false) (ow := [("garment", 1)]) rfl S_dyes_in.nd (di_seq (de_fz 1 (vr 0))) (blkOk_by (by kernel_rfl)) (by decide) (fun _ _ _ _ _ => (gn 1 S_dyes_in.nd)) (fun _ _ _ _ _ => dts_nil) (fun _ _ _ _ _ => (de_tup (da_cons (de_ix (hu1 hr) (vr 1) de_int) (da_cons de_bl da_nil))))) da_nil)) da_nil))))
theorem ok_are_different (G : Facts P K mg) (F : ∃ fd, FunD K "are_different" "are_different" (defArgs s_are_different) (defBody s_are_different) (defScope s_are_different) [] [] ((pG "are_different") K) fd)  : OkF P w0 K mg base (tab K) 1 ((pG "are_different") K) ["words"] c_are_different := by
  obtain ⟨fd, F⟩ := F
  refine ⟨fd, (fn_con (k := 0) F S_are_different (w := w_are_different) fun cdv A outer s H E F0 m0 H0 hr => ?_).imp fun _ _ _ _ h => loc_sp h, F.bindsN fun _ _ _ _ _ _ us hl => match us, hl with | [_], _ => rfl, F.kp⟩
  exact (dss_one (ds_ret (k_all rfl G.fr_all (da_cons (de_lc (own := false) (ow := [("at", 1), ("word", 2)]) rfl S_are_different.nd (di_enum rfl G.fr_enumerate (de_fz 1 (vr 0))) (blkOk_by (by kernel_rfl)) (by decide) (fun _ _ _ _ _ => (dg_tup rfl (dgs_cons (gn 1 S_are_different.nd) (dgs_cons (gn 2 S_are_different.nd) dgs_nil)))) (fun _ _ _ _ _ => dts_nil) (fun _ _ _ _ _ => (cmp_eq (hu64 hr) (m_index (hu65 hr) (vr 0) (da_cons (vr 2) da_nil)) (vr 1)))) da_nil))))
theorem ok_names_in (G : Facts P K mg) (F : ∃ fd, FunD K "names_in" "names_in" (defArgs s_names_in) (defBody s_names_in) (defScope s_names_in) [] [] ((pG "names_in") K) fd)  : OkF P w0 K mg base (tab K) 1 ((pG "names_in") K) ["garments"] c_names_in := by
  obtain ⟨fd, F⟩ := F
  refine ⟨fd, (fn_con (k := 0) F S_names_in (w := w_names_in) fun cdv A outer s H E F0 m0 H0 hr => ?_).imp fun _ _ _ _ h => loc_sp h, F.bindsN fun _ _ _ _ _ _ us hl => match us, hl with | [_], _ => rfl, F.kp⟩
  exact (dss_one (ds_ret (de_lc (own := false) (ow := [("garment", 1)]) rfl S_names_in.nd (di_seq (de_fz 1 (vr 0))) (blkOk_by (by kernel_rfl)) (by decide) (fun _ _ _ _ _ => (gn 1 S_names_in.nd)) (fun _ _ _ _ _ => dts_nil) (fun _ _ _ _ _ => (de_ix (hu1 hr) (vr 1) de_int)))))
theorem ok_wash_in (G : Facts P K mg) (F : ∃ fd, FunD K "wash_in" "wash_in" (defArgs s_wash_in) (defBody s_wash_in) (defScope s_wash_in) [] [] ((pG "wash_in") K) fd) (o_parted_at : OkF P w0 K mg base (tab K) 1 ((pG "parted_at") K) ["words", "mark"] c_parted_at) (o_dyes_in : OkF P w0 K mg base (tab K) 1 ((pG "dyes_in") K) ["garments"] c_dyes_in) (o_are_different : OkF P w0 K mg base (tab K) 1 ((pG "are_different") K) ["words"] c_are_different) (o_names_in : OkF P w0 K mg base (tab K) 1 ((pG "names_in") K) ["garments"] c_names_in) : OkF P w0 K mg base (tab K) 2 ((pG "wash_in") K) ["garments", "words"] c_wash_in := by
  obtain ⟨fd, F⟩ := F
  refine ⟨fd, (fn_con (k := 1) F S_wash_in (w := w_wash_in) fun cdv A outer s H E F0 m0 H0 hr => ?_).imp fun _ _ _ _ h => loc_sp h, F.bindsN fun _ _ _ _ _ _ us hl => match us, hl with | [_, _], _ => rfl, F.kp⟩
  exact (dss_cons (ds_asg (c_fn o_parted_at (hr.mono (by decide)) G.gl_parted_at (da_cons (vr 1) (da_cons (de_gstr rfl G.gs_SKIPPED rfl) da_nil))) (dg_tup rfl (dgs_cons (gn 2 S_wash_in.nd) (dgs_cons (gn 3 S_wash_in.nd) dgs_nil))))
  (dss_cons (ds_asg (c_fn o_parted_at (hr.mono (by decide)) G.gl_parted_at (da_cons (vr 2) (da_cons (de_gstr rfl G.gs_SEEN rfl) da_nil))) (dg_tup rfl (dgs_cons (gn 4 S_wash_in.nd) (dgs_cons (gn 5 S_wash_in.nd) dgs_nil))))
  (dss_cons (ds_asg (o_add (de_or (vr 5) (de_one (de_lst da_nil))) (de_or (vr 3) (de_one (de_lst da_nil)))) (gn 6 S_wash_in.nd))
  (dss_cons (ds_asg (c_fn o_dyes_in (hr.mono (by decide)) G.gl_dyes_in (da_cons (de_lc (own := false) (ow := [("garment", 9)]) rfl S_wash_in.nd (di_seq (de_fz 1 (vr 0))) (blkOk_by (by kernel_rfl)) (by decide) (fun _ _ _ _ _ => (gn 9 S_wash_in.nd)) (fun _ _ _ _ _ => (dts_one (t_in (hu65 hr) (de_ix (hu1 hr) (vr 9) de_int) (vr 4)))) (fun _ _ _ _ _ => (vr 9))) da_nil)) (gn 7 S_wash_in.nd))
  (dss_cons (ds_if (DW.dt (dw_or (t_eq (hu64 hr) (vr 4) (de_lst da_nil)) (dw_or (t_eq (hu64 hr) (vr 5) (de_lst da_nil)) (dw_or (t_eq (hu64 hr) (vr 3) (de_lst da_nil)) (dw_or (dt_not (dt_truth (c_fn o_are_different (hr.mono (by decide)) G.gl_are_different (da_cons (vr 4) da_nil)))) (dw_or1 (dt_not (dt_truth (c_fn o_are_different (hr.mono (by decide)) G.gl_are_different (da_cons (vr 6) da_nil))))))))))
  (dss_one (ds_ret de_non)) dss_nil)
  (dss_cons (ds_if (DW.dt (dw_or (dt_not (dt_truth (k_all rfl G.fr_all (da_cons (de_lc (own := false) (ow := [("name", 10)]) rfl S_wash_in.nd (di_seq (de_fz 1 (vr 4))) (blkOk_by (by kernel_rfl)) (by decide) (fun _ _ _ _ _ => (gn 10 S_wash_in.nd)) (fun _ _ _ _ _ => dts_nil) (fun _ _ _ _ _ => (cmp_in (hu65 hr) (vr 10) (c_fn o_names_in (hr.mono (by decide)) G.gl_names_in (da_cons (vr 0) da_nil))))) da_nil)))) (dw_or1 (dt_not (dt_truth (k_all rfl G.fr_all (da_cons (de_lc (own := false) (ow := [("dye", 11)]) rfl S_wash_in.nd (di_seq (de_fz 1 (vr 6))) (blkOk_by (by kernel_rfl)) (by decide) (fun _ _ _ _ _ => (gn 11 S_wash_in.nd)) (fun _ _ _ _ _ => dts_nil) (fun _ _ _ _ _ => (cmp_in (hu65 hr) (vr 11) (vr 7)))) da_nil)))))))
  (dss_one (ds_ret de_non)) dss_nil)
  (dss_cons (ds_setLc (i := 8) (own := false) (ow := [("dye", 11)]) rfl S_wash_in.nd (di_seq (de_fz 1 (c_fn o_dyes_in (hr.mono (by decide)) G.gl_dyes_in (da_cons (vr 0) da_nil)))) (blkOk_by (by kernel_rfl)) (by decide) (fun _ _ _ _ _ => (gn 11 S_wash_in.nd)) (fun _ _ _ _ _ => (dts_one (DW.dt (dw_and (t_in (hu65 hr) (vr 11) (vr 7)) (dw_and1 (t_nin (hu65 hr) (vr 11) (de_or (vr 3) (de_one (de_lst da_nil))))))))) (fun _ _ _ _ _ => (vr 11)))
  (dss_one (ds_ret (de_tup (da_cons (de_gstr rfl G.gs_WASH rfl) (da_cons (k_tuple G.fr_tuple (da_cons (vr 4) da_nil)) (da_cons (k_ptuple G.fr_tuple (da_cons (de_lc (own := false) (ow := [("dye", 11)]) rfl S_wash_in.nd (di_seq (de_fz 1 (vr 8))) (blkOk_by (by kernel_rfl)) (by decide) (fun _ _ _ _ _ => (gn 11 S_wash_in.nd)) (fun _ _ _ _ _ => dts_nil) (fun _ _ _ _ _ => (de_tup (da_cons (vr 11) (da_cons (cmp_in (hu65 hr) (vr 11) (de_or (vr 5) (de_one (de_lst da_nil)))) da_nil))))) da_nil)) da_nil)))))))))))))
theorem ok_entry_in (G : Facts P K mg) (F : ∃ fd, FunD K "entry_in" "entry_in" (defArgs s_entry_in) (defBody s_entry_in) (defScope s_entry_in) [] [] ((pG "entry_in") K) fd) (o_wash_in : OkF P w0 K mg base (tab K) 2 ((pG "wash_in") K) ["garments", "words"] c_wash_in) (o_names_in : OkF P w0 K mg base (tab K) 1 ((pG "names_in") K) ["garments"] c_names_in) : OkF P w0 K mg base (tab K) 3 ((pG "entry_in") K) ["garments", "line"] c_entry_in := by
  obtain ⟨fd, F⟩ := F
  refine ⟨fd, (fn_con (k := 2) F S_entry_in (w := w_entry_in) fun cdv A outer s H E F0 m0 H0 hr => ?_).imp fun _ _ _ _ h => loc_sp h, F.bindsN fun _ _ _ _ _ _ us hl => match us, hl with | [_, _], _ => rfl, F.kp⟩
  exact (dss_cons (ds_asg (de_if (dt_truth (k_isi G.fr_isinstance (da_cons (vr 1) (da_cons (de_bty rfl G.fr_str rfl) da_nil)))) (m_split false (vr 1) (da_cons (de_str rfl) da_nil)) (de_lst (da_cons (de_str rfl) da_nil))) (gn 2 S_entry_in.nd))
  (dss_cons (ds_if (t_eq (hu64 hr) (de_ix (hu1 hr) (vr 2) de_int) (de_gstr rfl G.gs_WASH rfl))
  (dss_one (ds_ret (c_fn o_wash_in (hr.mono (by decide)) G.gl_wash_in (da_cons (vr 0) (da_cons (de_slice (vr 2) (do_some de_int) do_none) da_nil))))) dss_nil)
  (dss_cons (ds_if (DW.dt (dw_and (t_eq (hu64 hr) (de_ix (hu1 hr) (vr 2) de_int) (de_gstr rfl G.gs_RENEW rfl)) (dw_and (t_eq (hu64 hr) (k_len G.fr_len (da_cons (vr 2) da_nil)) de_int) (dw_and1 (t_in (hu65 hr) (de_ix (hu1 hr) (vr 2) de_int) (c_fn o_names_in (hr.mono (by decide)) G.gl_names_in (da_cons (vr 0) da_nil)))))))
  (dss_one (ds_ret (de_tup (da_cons (de_gstr rfl G.gs_RENEW rfl) (da_cons (de_tup (da_cons (de_ix (hu1 hr) (vr 2) de_int) da_nil)) (da_cons (de_tupP da_nil) da_nil)))))) dss_nil)
  (dss_one (ds_ret de_non)))))
theorem ok_check_lines (G : Facts P K mg) (F : ∃ fd, FunD K "check_lines" "check_lines" (defArgs s_check_lines) (defBody s_check_lines) (defScope s_check_lines) [] [] ((pG "check_lines") K) fd) (o_entry_in : OkF P w0 K mg base (tab K) 3 ((pG "entry_in") K) ["garments", "line"] c_entry_in) : OkF P w0 K mg base (tab K) 4 ((pG "check_lines") K) ["garments", "lines"] c_check_lines := by
  obtain ⟨fd, F⟩ := F
  refine ⟨fd, (fn_con (k := 3) F S_check_lines (w := w_check_lines) fun cdv A outer s H E F0 m0 H0 hr => ?_).imp fun _ _ _ _ h => loc_sp h, F.bindsN fun _ _ _ _ _ _ us hl => match us, hl with | [_, _], _ => rfl, F.kp⟩
  exact (dss_cons (ds_if (dt_not (dt_truth (k_isi G.fr_isinstance (da_cons (vr 1) (da_cons (de_bty rfl G.fr_tuple rfl) da_nil)))))
  (dss_one ds_never) dss_nil)
  (dss_one (ds_for (passes_of rfl) rfl (di_enum rfl G.fr_enumerate (de_fz 1 (vr 1))) (dg_tup rfl (dgs_cons (gn 2 S_check_lines.nd) (dgs_cons (gn 3 S_check_lines.nd) dgs_nil)))
  (dss_one (ds_if (DW.dt (dw_or (t_eq (hu64 hr) (vr 2) (de_gint rfl G.gi_MOST_LINES)) (dw_or1 (t_is (c_fn o_entry_in (hr.mono (by decide)) G.gl_entry_in (da_cons (vr 0) (da_cons (vr 3) da_nil))) de_non))))
  (dss_one ds_never) dss_nil)))))
theorem ok_Walk_wash (G : Facts P K mg) (F : ∃ fd, FunD K "wash" "Walk.wash" (defArgs s_Walk_wash) (defBody s_Walk_wash) (defScope s_Walk_wash) [] [] ((pM "Walk" "wash") K) fd)  : OkF P w0 K mg base (tab K) 1 ((pM "Walk" "wash") K) ["self", "garments", "index", "lives", "looks"] c_Walk_wash := by
  obtain ⟨fd, F⟩ := F
  refine ⟨fd, (fn_con (k := 0) F S_Walk_wash (w := w_Walk_wash) fun cdv A outer s H E F0 m0 H0 hr => ?_).imp fun _ _ _ _ h => loc_sp h, F.bindsN fun _ _ _ _ _ _ us hl => match us, hl with | [_, _, _, _, _], _ => rfl, F.kp⟩
  exact (dss_cons (ds_for (passes_of rfl) rfl (di_seq (de_fz 1 (vr 3))) (gn 5 S_Walk_wash.nd)
  (dss_one (ds_augS (hu1 hr) ip_add (de_fld G.fl_Walk_tally_row (vr 0)) (vr 5) de_int)))
  (dss_cons (ds_asg (k_tuple G.fr_tuple (da_cons (de_lc (own := false) (ow := [("life", 5)]) rfl S_Walk_wash.nd (di_seq (de_fz 1 (vr 3))) (blkOk_by (by kernel_rfl)) (by decide) (fun _ _ _ _ _ => (gn 5 S_Walk_wash.nd)) (fun _ _ _ _ _ => dts_nil) (fun _ _ _ _ _ => (de_tup (da_cons (vr 5) (da_cons (de_ix (hu1 hr) (de_fld G.fl_Walk_tally_row (vr 0)) (vr 5)) da_nil))))) da_nil)) (gn 6 S_Walk_wash.nd))
  (dss_cons (ds_expr (m_append (de_fld G.fl_Walk_load_rows (vr 0)) (da_cons (vr 6) da_nil)))
  (dss_one (ds_for (passes_of rfl) rfl (di_seq (de_fz 1 (vr 4))) (dg_tup rfl (dgs_cons (gn 7 S_Walk_wash.nd) (dgs_cons (gn 8 S_Walk_wash.nd) dgs_nil)))
  (dss_cons (ds_expr (m_append (de_fld G.fl_Walk_look_rows (vr 0)) (da_cons (de_tup (da_cons (vr 2) (da_cons (vr 7) (da_cons (vr 8) da_nil)))) da_nil)))
  (dss_one (ds_expr (m_append (de_fld G.fl_Walk_span_rows (vr 0)) (da_cons (k_tuple G.fr_tuple (da_cons (de_lc (own := false) (ow := [("pair", 9)]) rfl S_Walk_wash.nd (di_seq (de_fz 1 (vr 6))) (blkOk_by (by kernel_rfl)) (by decide) (fun _ _ _ _ _ => (gn 9 S_Walk_wash.nd)) (fun _ _ _ _ _ => (dts_one (t_eq (hu64 hr) (de_ix (hu1 hr) (de_ix (hu1 hr) (vr 1) (de_ix (hu1 hr) (de_fld G.fl_Walk_owners (vr 0)) (de_ix (hu1 hr) (vr 9) de_int))) de_int) (vr 7)))) (fun _ _ _ _ _ => (vr 9))) da_nil)) da_nil))))))))))
theorem ok_Walk_go (G : Facts P K mg) (F : ∃ fd, FunD K "go" "Walk.go" (defArgs s_Walk_go) (defBody s_Walk_go) (defScope s_Walk_go) [] [] ((pM "Walk" "go") K) fd) (o_names_in : OkF P w0 K mg base (tab K) 1 ((pG "names_in") K) ["garments"] c_names_in) (o_Walk_wash : OkF P w0 K mg base (tab K) 1 ((pM "Walk" "wash") K) ["self", "garments", "index", "lives", "looks"] c_Walk_wash) : OkF P w0 K mg base (tab K) 2 ((pM "Walk" "go") K) ["self", "garments", "entries"] c_Walk_go := by
  obtain ⟨fd, F⟩ := F
  refine ⟨fd, (fn_con (k := 1) F S_Walk_go (w := w_Walk_go) fun cdv A outer s H E F0 m0 H0 hr => ?_).imp fun _ _ _ _ h => loc_sp h, F.bindsN fun _ _ _ _ _ _ us hl => match us, hl with | [_, _, _], _ => rfl, F.kp⟩
  exact (dss_cons (ds_asg (k_dict true rfl G.fr_dict (da_cons (de_lc (own := false) (ow := [("name", 8)]) rfl S_Walk_go.nd (di_seq (de_fz 1 (c_fn o_names_in (hr.mono (by decide)) G.gl_names_in (da_cons (vr 1) da_nil)))) (blkOk_by (by kernel_rfl)) (by decide) (fun _ _ _ _ _ => (gn 8 S_Walk_go.nd)) (fun _ _ _ _ _ => dts_nil) (fun _ _ _ _ _ => (de_tup (da_cons (vr 8) (da_cons (m_index (hu65 hr) (de_fld G.fl_Walk_life_rows (vr 0)) (da_cons (de_tup (da_cons (vr 8) (da_cons de_int da_nil))) da_nil)) da_nil))))) da_nil)) (gn 3 S_Walk_go.nd))
  (dss_one (ds_for (passes_of rfl) rfl (di_enum rfl G.fr_enumerate (de_fz 1 (vr 2))) (dg_tup rfl (dgs_cons (gn 4 S_Walk_go.nd) (dgs_cons (dg_tup rfl (dgs_cons (gn 5 S_Walk_go.nd) (dgs_cons (gn 6 S_Walk_go.nd) (dgs_cons (gn 7 S_Walk_go.nd) dgs_nil)))) dgs_nil)))
  (dss_one (ds_if (t_eq (hu64 hr) (vr 5) (de_gstr rfl G.gs_RENEW rfl))
  (dss_cons (ds_augS (hu1 hr) ip_add (vr 3) (de_ix (hu1 hr) (vr 6) de_int) de_int)
  (dss_one (ds_expr (m_append (de_fld G.fl_Walk_load_rows (vr 0)) (da_cons (de_tup da_nil) da_nil))))) (dss_one (ds_expr (c_me o_Walk_wash G.mf_Walk_wash (hr.mono (by decide)) (vr 0) (da_cons (vr 1) (da_cons (vr 4) (da_cons (k_sorted false G.fr_sorted (da_cons (de_lc (own := false) (ow := [("name", 8)]) rfl S_Walk_go.nd (di_seq (de_fz 1 (vr 6))) (blkOk_by (by kernel_rfl)) (by decide) (fun _ _ _ _ _ => (gn 8 S_Walk_go.nd)) (fun _ _ _ _ _ => dts_nil) (fun _ _ _ _ _ => (de_ix (hu1 hr) (vr 3) (vr 8)))) da_nil)) (da_cons (vr 7) da_nil))))))))))))
theorem ok_Walk_init (G : Facts P K mg) (F : ∃ fd, FunD K "__init__" "Walk.__init__" (defArgs s_Walk_init) (defBody s_Walk_init) (defScope s_Walk_init) [] [] ((pM "Walk" "__init__") K) fd) (o_Walk_go : OkF P w0 K mg base (tab K) 2 ((pM "Walk" "go") K) ["self", "garments", "entries"] c_Walk_go) : OkF P w0 K mg base (tab K) 3 ((pM "Walk" "__init__") K) ["self", "garments", "entries"] c_Walk_init := by
  obtain ⟨fd, F⟩ := F
  refine ⟨fd, (fn_con (k := 2) F S_Walk_init (w := w_Walk_init) fun cdv A outer s H E F0 m0 H0 hr => ?_).imp fun _ _ _ _ h => loc_sp h, F.bindsN fun _ _ _ _ _ _ us hl => match us, hl with | [_, _, _], _ => rfl, F.kp⟩
  exact (dss_cons (ds_fld G.fl_Walk_owners (vr 0) (de_lstO da_nil))
  (dss_cons (ds_fld G.fl_Walk_life_rows (vr 0) (de_lstO da_nil))
  (dss_cons (ds_for (passes_of rfl) rfl (di_enum rfl G.fr_enumerate (de_fz 1 (vr 1))) (dg_tup rfl (dgs_cons (gn 3 S_Walk_init.nd) (dgs_cons (gn 4 S_Walk_init.nd) dgs_nil)))
  (dss_cons (ds_asg (k_len G.fr_len (da_cons (de_lc (own := false) (ow := [("entry", 6)]) rfl S_Walk_init.nd (di_seq (de_fz 1 (vr 2))) (blkOk_by (by kernel_rfl)) (by decide) (fun _ _ _ _ _ => (gn 6 S_Walk_init.nd)) (fun _ _ _ _ _ => (dts_one (DW.dt (dw_and (t_eq (hu64 hr) (de_ix (hu1 hr) (vr 6) de_int) (de_gstr rfl G.gs_RENEW rfl)) (dw_and1 (t_eq (hu64 hr) (de_ix (hu1 hr) (vr 6) de_int) (de_tup (da_cons (de_ix (hu1 hr) (vr 4) de_int) da_nil)))))))) (fun _ _ _ _ _ => (vr 6))) da_nil)) (gn 5 S_Walk_init.nd))
  (dss_cons (ds_fldaug G.fl_Walk_owners (vr 0) (o_mul (de_lst (da_cons (vr 3) da_nil)) (o_add (vr 5) de_int)))
  (dss_one (ds_fldaug G.fl_Walk_life_rows (vr 0) (de_lc (own := false) (ow := [("turn", 7)]) rfl S_Walk_init.nd (di_range1 rfl G.fr_range (o_add (vr 5) de_int)) (blkOk_by (by kernel_rfl)) (by decide) (fun _ _ _ _ _ => (gn 7 S_Walk_init.nd)) (fun _ _ _ _ _ => dts_nil) (fun _ _ _ _ _ => (de_tup (da_cons (de_ix (hu1 hr) (vr 4) de_int) (da_cons (vr 7) da_nil))))))))))
  (dss_cons (ds_fld G.fl_Walk_tally_row (vr 0) (de_mulO (de_lst (da_cons de_int da_nil)) (k_len G.fr_len (da_cons (de_fld G.fl_Walk_life_rows (vr 0)) da_nil))))
  (dss_cons (ds_fld G.fl_Walk_load_rows (vr 0) (de_lstO da_nil))
  (dss_cons (ds_fld G.fl_Walk_look_rows (vr 0) (de_lstO da_nil))
  (dss_cons (ds_fld G.fl_Walk_span_rows (vr 0) (de_lstO da_nil))
  (dss_one (ds_expr (c_me o_Walk_go G.mf_Walk_go (hr.mono (by decide)) (vr 0) (da_cons (vr 1) (da_cons (vr 2) da_nil))))))))))))
theorem ok_Book_init {dv_Book_init : List V} (hdv : dv_Book_init.length = 1) (G : Facts P K mg) (F : ∃ fd, FunD K "__init__" "Book.__init__" (defArgs s_Book_init) (defBody s_Book_init) (defScope s_Book_init) dv_Book_init [] ((pM "Book" "__init__") K) fd) (o_check_garments : OkF P w0 K mg base (tab K) 4 ((pG "check_garments") K) ["garments"] c_check_garments) (o_check_lines : OkF P w0 K mg base (tab K) 4 ((pG "check_lines") K) ["garments", "lines"] c_check_lines) (o_entry_in : OkF P w0 K mg base (tab K) 3 ((pG "entry_in") K) ["garments", "line"] c_entry_in) (o_Walk_init : OkF P w0 K mg base (tab K) 3 ((pM "Walk" "__init__") K) ["self", "garments", "entries"] c_Walk_init) : OkF P w0 K mg base (tab K) 5 ((pM "Book" "__init__") K) ["self", "garments", "lines"] c_Book_init := by
  obtain ⟨fd, F⟩ := F
  have bb : Binds K fd ["self", "garments", "lines"] [] := by
    obtain ⟨ds, v, bb⟩ := F.binds1 (ps := ["self", "garments", "lines"]) 3 1 (fun e => by rw [e] at hdv; cases hdv) (by rw [hdv] <;> rfl) fun _ _ _ _ _ _ _ us its hl h2 => match us, hl, its, h2.trans hdv with | [_, _, _], _, [_], _ => ⟨_, rfl, rfl⟩
    have e : dv_Book_init.drop 1 = [] := List.drop_eq_nil_of_le (by omega)
    rw [e] at v
    cases v
    exact bb
  refine ⟨fd, (fn_con (k := 4) F S_Book_init (w := w_Book_init) fun cdv A outer s H E F0 m0 H0 hr => ?_).imp fun _ _ _ _ h => loc_sp h, bb, F.kp⟩
  exact (dss_cons (ds_expr (c_fn o_check_garments (hr.mono (by decide)) G.gl_check_garments (da_cons (vr 1) da_nil)))
  (dss_cons (ds_expr (c_fn o_check_lines (hr.mono (by decide)) G.gl_check_lines (da_cons (vr 1) (da_cons (vr 2) da_nil))))
  (dss_cons (ds_fld G.fl_Book_clothes (vr 0) (vr 1))
  (dss_cons (ds_fld G.fl_Book_told (vr 0) (vr 2))
  (dss_cons (ds_fld G.fl_Book_parsed (vr 0) (k_tuple G.fr_tuple (da_cons (de_lc (own := false) (ow := [("line", 3)]) rfl S_Book_init.nd (di_seq (de_fz 1 (vr 2))) (blkOk_by (by kernel_rfl)) (by decide) (fun _ _ _ _ _ => (gn 3 S_Book_init.nd)) (fun _ _ _ _ _ => dts_nil) (fun _ _ _ _ _ => (c_fn o_entry_in (hr.mono (by decide)) G.gl_entry_in (da_cons (vr 1) (da_cons (vr 3) da_nil))))) da_nil)))
  (dss_one (ds_fld G.fl_Book_walk (vr 0) (c_mk o_Walk_init G.mk_Walk (hr.mono (by decide)) G.gl_Walk (da_cons (vr 1) (da_cons (de_fld G.fl_Book_parsed (vr 0)) da_nil))))))))))
theorem ok_check_book (G : Facts P K mg) (F : ∃ fd, FunD K "check_book" "check_book" (defArgs s_check_book) (defBody s_check_book) (defScope s_check_book) [] [] ((pG "check_book") K) fd)  : OkF P w0 K mg base (tab K) 1 ((pG "check_book") K) ["value"] c_check_book := by
  obtain ⟨fd, F⟩ := F
  refine ⟨fd, (fn_con (k := 0) F S_check_book (w := w_check_book) fun cdv A outer s H E F0 m0 H0 hr => ?_).imp fun _ _ _ _ h => loc_sp h, F.bindsN fun _ _ _ _ _ _ us hl => match us, hl with | [_], _ => rfl, F.kp⟩
  exact (dss_one (ds_if (dt_not (dt_truth (k_isiC (cn := 0) (fIsi_ok rfl G.cl_Book G.is_Book) G.fr_isinstance (da_cons (vr 0) (da_cons (de_gcls rfl G.gl_Book) da_nil)))))
  (dss_one ds_never) dss_nil))
theorem ok_Book_garments (G : Facts P K mg) (F : ∃ fd, FunD K "garments" "Book.garments" (defArgs s_Book_garments) (defBody s_Book_garments) (defScope s_Book_garments) [] [] ((pP "Book" "garments") K) fd)  : OkF P w0 K mg base (tab K) 1 ((pP "Book" "garments") K) ["self"] c_Book_garments := by
  obtain ⟨fd, F⟩ := F
  refine ⟨fd, (fn_con (k := 0) F S_Book_garments (w := w_Book_garments) fun cdv A outer s H E F0 m0 H0 hr => ?_).imp fun _ _ _ _ h => loc_sp h, F.bindsN fun _ _ _ _ _ _ us hl => match us, hl with | [_], _ => rfl, F.kp⟩
  exact (dss_one (ds_ret (de_fld G.fl_Book_clothes (vr 0))))
theorem ok_Book_entries (G : Facts P K mg) (F : ∃ fd, FunD K "entries" "Book.entries" (defArgs s_Book_entries) (defBody s_Book_entries) (defScope s_Book_entries) [] [] ((pP "Book" "entries") K) fd)  : OkF P w0 K mg base (tab K) 1 ((pP "Book" "entries") K) ["self"] c_Book_entries := by
  obtain ⟨fd, F⟩ := F
  refine ⟨fd, (fn_con (k := 0) F S_Book_entries (w := w_Book_entries) fun cdv A outer s H E F0 m0 H0 hr => ?_).imp fun _ _ _ _ h => loc_sp h, F.bindsN fun _ _ _ _ _ _ us hl => match us, hl with | [_], _ => rfl, F.kp⟩
  exact (dss_one (ds_ret (de_fld G.fl_Book_parsed (vr 0))))
theorem ok_washes_of (G : Facts P K mg) (F : ∃ fd, FunD K "washes_of" "washes_of" (defArgs s_washes_of) (defBody s_washes_of) (defScope s_washes_of) [] [] ((pG "washes_of") K) fd) (o_Book_entries : OkF P w0 K mg base (tab K) 1 ((pP "Book" "entries") K) ["self"] c_Book_entries) : OkF P w0 K mg base (tab K) 3 ((pG "washes_of") K) ["book"] c_washes_of := by
  obtain ⟨fd, F⟩ := F
  refine ⟨fd, (fn_con (k := 2) F S_washes_of (w := w_washes_of) fun cdv A outer s H E F0 m0 H0 hr => ?_).imp fun _ _ _ _ h => loc_sp h, F.bindsN fun _ _ _ _ _ _ us hl => match us, hl with | [_], _ => rfl, F.kp⟩
  exact (dss_one (ds_ret (de_lc (own := false) (ow := [("word", 1), ("names", 2), ("looks", 3)]) rfl S_washes_of.nd (di_seq (de_fz 1 (c_pr o_Book_entries ⟨G.cl_Book, G.pr_Book_entries⟩ (hr.mono (by decide)) (vr 0)))) (blkOk_by (by kernel_rfl)) (by decide) (fun _ _ _ _ _ => (dg_tup rfl (dgs_cons (gn 1 S_washes_of.nd) (dgs_cons (gn 2 S_washes_of.nd) (dgs_cons (gn 3 S_washes_of.nd) dgs_nil))))) (fun _ _ _ _ _ => dts_nil) (fun _ _ _ _ _ => (de_tup (da_cons (vr 1) (da_cons (vr 2) da_nil)))))))
theorem ok_check_kin (G : Facts P K mg) (F : ∃ fd, FunD K "check_kin" "check_kin" (defArgs s_check_kin) (defBody s_check_kin) (defScope s_check_kin) [] [] ((pG "check_kin") K) fd) (o_check_book : OkF P w0 K mg base (tab K) 1 ((pG "check_book") K) ["value"] c_check_book) (o_Book_garments : OkF P w0 K mg base (tab K) 1 ((pP "Book" "garments") K) ["self"] c_Book_garments) (o_washes_of : OkF P w0 K mg base (tab K) 3 ((pG "washes_of") K) ["book"] c_washes_of) : OkF P w0 K mg base (tab K) 4 ((pG "check_kin") K) ["one", "other"] c_check_kin := by
  obtain ⟨fd, F⟩ := F
  refine ⟨fd, (fn_con (k := 3) F S_check_kin (w := w_check_kin) fun cdv A outer s H E F0 m0 H0 hr => ?_).imp fun _ _ _ _ h => loc_sp h, F.bindsN fun _ _ _ _ _ _ us hl => match us, hl with | [_, _], _ => rfl, F.kp⟩
  exact (dss_cons (ds_expr (c_fn o_check_book (hr.mono (by decide)) G.gl_check_book (da_cons (vr 0) da_nil)))
  (dss_cons (ds_expr (c_fn o_check_book (hr.mono (by decide)) G.gl_check_book (da_cons (vr 1) da_nil)))
  (dss_one (ds_if (DW.dt (dw_or (t_ne (hu64 hr) (c_pr o_Book_garments ⟨G.cl_Book, G.pr_Book_garments⟩ (hr.mono (by decide)) (vr 0)) (c_pr o_Book_garments ⟨G.cl_Book, G.pr_Book_garments⟩ (hr.mono (by decide)) (vr 1))) (dw_or1 (t_ne (hu64 hr) (c_fn o_washes_of (hr.mono (by decide)) G.gl_washes_of (da_cons (vr 0) da_nil)) (c_fn o_washes_of (hr.mono (by decide)) G.gl_washes_of (da_cons (vr 1) da_nil))))))
  (dss_one ds_never) dss_nil))))
theorem ok_Book_lives (G : Facts P K mg) (F : ∃ fd, FunD K "lives" "Book.lives" (defArgs s_Book_lives) (defBody s_Book_lives) (defScope s_Book_lives) [] [] ((pP "Book" "lives") K) fd)  : OkF P w0 K mg base (tab K) 1 ((pP "Book" "lives") K) ["self"] c_Book_lives := by
  obtain ⟨fd, F⟩ := F
  refine ⟨fd, (fn_con (k := 0) F S_Book_lives (w := w_Book_lives) fun cdv A outer s H E F0 m0 H0 hr => ?_).imp fun _ _ _ _ h => loc_sp h, F.bindsN fun _ _ _ _ _ _ us hl => match us, hl with | [_], _ => rfl, F.kp⟩
  exact (dss_one (ds_ret (k_tuple G.fr_tuple (da_cons (de_fld G.fl_Walk_life_rows (de_fld G.fl_Book_walk (vr 0))) da_nil))))
theorem ok_garment_of (G : Facts P K mg) (F : ∃ fd, FunD K "garment_of" "garment_of" (defArgs s_garment_of) (defBody s_garment_of) (defScope s_garment_of) [] [] ((pG "garment_of") K) fd) (o_Book_garments : OkF P w0 K mg base (tab K) 1 ((pP "Book" "garments") K) ["self"] c_Book_garments) (o_names_in : OkF P w0 K mg base (tab K) 1 ((pG "names_in") K) ["garments"] c_names_in) (o_Book_lives : OkF P w0 K mg base (tab K) 1 ((pP "Book" "lives") K) ["self"] c_Book_lives) : OkF P w0 K mg base (tab K) 3 ((pG "garment_of") K) ["book", "life"] c_garment_of := by
  obtain ⟨fd, F⟩ := F
  refine ⟨fd, (fn_con (k := 2) F S_garment_of (w := w_garment_of) fun cdv A outer s H E F0 m0 H0 hr => ?_).imp fun _ _ _ _ h => loc_sp h, F.bindsN fun _ _ _ _ _ _ us hl => match us, hl with | [_, _], _ => rfl, F.kp⟩
  exact (dss_one (ds_ret (de_ix (hu1 hr) (c_pr o_Book_garments ⟨G.cl_Book, G.pr_Book_garments⟩ (hr.mono (by decide)) (vr 0)) (m_index (hu65 hr) (c_fn o_names_in (hr.mono (by decide)) G.gl_names_in (da_cons (c_pr o_Book_garments ⟨G.cl_Book, G.pr_Book_garments⟩ (hr.mono (by decide)) (vr 0)) da_nil)) (da_cons (de_ix (hu1 hr) (de_ix (hu1 hr) (c_pr o_Book_lives ⟨G.cl_Book, G.pr_Book_lives⟩ (hr.mono (by decide)) (vr 0)) (vr 1)) de_int) da_nil)))))
theorem ok_top_of (G : Facts P K mg) (F : ∃ fd, FunD K "top_of" "top_of" (defArgs s_top_of) (defBody s_top_of) (defScope s_top_of) [] [] ((pG "top_of") K) fd) (o_garment_of : OkF P w0 K mg base (tab K) 3 ((pG "garment_of") K) ["book", "life"] c_garment_of) : OkF P w0 K mg base (tab K) 4 ((pG "top_of") K) ["book", "life"] c_top_of := by
  obtain ⟨fd, F⟩ := F
  refine ⟨fd, (fn_con (k := 3) F S_top_of (w := w_top_of) fun cdv A outer s H E F0 m0 H0 hr => ?_).imp fun _ _ _ _ h => loc_sp h, F.bindsN fun _ _ _ _ _ _ us hl => match us, hl with | [_, _], _ => rfl, F.kp⟩
  exact (dss_one (ds_ret (de_ix (hu1 hr) (c_fn o_garment_of (hr.mono (by decide)) G.gl_garment_of (da_cons (vr 0) (da_cons (vr 1) da_nil))) de_int)))
theorem ok_Book_looks (G : Facts P K mg) (F : ∃ fd, FunD K "looks" "Book.looks" (defArgs s_Book_looks) (defBody s_Book_looks) (defScope s_Book_looks) [] [] ((pP "Book" "looks") K) fd)  : OkF P w0 K mg base (tab K) 1 ((pP "Book" "looks") K) ["self"] c_Book_looks := by
  obtain ⟨fd, F⟩ := F
  refine ⟨fd, (fn_con (k := 0) F S_Book_looks (w := w_Book_looks) fun cdv A outer s H E F0 m0 H0 hr => ?_).imp fun _ _ _ _ h => loc_sp h, F.bindsN fun _ _ _ _ _ _ us hl => match us, hl with | [_], _ => rfl, F.kp⟩
  exact (dss_one (ds_ret (k_tuple G.fr_tuple (da_cons (de_fld G.fl_Walk_look_rows (de_fld G.fl_Book_walk (vr 0))) da_nil))))
theorem ok_Book_spans (G : Facts P K mg) (F : ∃ fd, FunD K "spans" "Book.spans" (defArgs s_Book_spans) (defBody s_Book_spans) (defScope s_Book_spans) [] [] ((pP "Book" "spans") K) fd)  : OkF P w0 K mg base (tab K) 1 ((pP "Book" "spans") K) ["self"] c_Book_spans := by
  obtain ⟨fd, F⟩ := F
  refine ⟨fd, (fn_con (k := 0) F S_Book_spans (w := w_Book_spans) fun cdv A outer s H E F0 m0 H0 hr => ?_).imp fun _ _ _ _ h => loc_sp h, F.bindsN fun _ _ _ _ _ _ us hl => match us, hl with | [_], _ => rfl, F.kp⟩
  exact (dss_one (ds_ret (k_tuple G.fr_tuple (da_cons (de_fld G.fl_Walk_span_rows (de_fld G.fl_Book_walk (vr 0))) da_nil))))
theorem ok_tops_of {dv_tops_of : List V} (hdv : dv_tops_of.length = 1) (G : Facts P K mg) (F : ∃ fd, FunD K "tops_of" "tops_of" (defArgs s_tops_of) (defBody s_tops_of) (defScope s_tops_of) dv_tops_of [] ((pG "tops_of") K) fd) (o_Book_lives : OkF P w0 K mg base (tab K) 1 ((pP "Book" "lives") K) ["self"] c_Book_lives) (o_top_of : OkF P w0 K mg base (tab K) 4 ((pG "top_of") K) ["book", "life"] c_top_of) (o_Book_looks : OkF P w0 K mg base (tab K) 1 ((pP "Book" "looks") K) ["self"] c_Book_looks) (o_Book_spans : OkF P w0 K mg base (tab K) 1 ((pP "Book" "spans") K) ["self"] c_Book_spans) : OkF P w0 K mg base (tab K) 5 ((pG "tops_of") K) ["book", "skipped"] c_tops_of := by
  obtain ⟨fd, F⟩ := F
  have bb : Binds K fd ["book", "skipped"] [] := by
    obtain ⟨ds, v, bb⟩ := F.binds1 (ps := ["book", "skipped"]) 2 1 (fun e => by rw [e] at hdv; cases hdv) (by rw [hdv] <;> rfl) fun _ _ _ _ _ _ _ us its hl h2 => match us, hl, its, h2.trans hdv with | [_, _], _, [_], _ => ⟨_, rfl, rfl⟩
    have e : dv_tops_of.drop 1 = [] := List.drop_eq_nil_of_le (by omega)
    rw [e] at v
    cases v
    exact bb
  refine ⟨fd, (fn_con (k := 4) F S_tops_of (w := w_tops_of) fun cdv A outer s H E F0 m0 H0 hr => ?_).imp fun _ _ _ _ h => loc_sp h, bb, F.kp⟩
  exact (dss_cons (ds_setLc (i := 2) (own := true) (ow := [("life", 5)]) rfl S_tops_of.nd (di_range1 rfl G.fr_range (k_len G.fr_len (da_cons (c_pr o_Book_lives ⟨G.cl_Book, G.pr_Book_lives⟩ (hr.mono (by decide)) (vr 0)) da_nil))) (blkOk_by (by kernel_rfl)) (by decide) (fun _ _ _ _ _ => (gn 5 S_tops_of.nd)) (fun _ _ _ _ _ => dts_nil) (fun _ _ _ _ _ => (c_fn o_top_of (hr.mono (by decide)) G.gl_top_of (da_cons (vr 0) (da_cons (vr 5) da_nil)))))
  (dss_cons (ds_for (passes_of rfl) rfl (di_enum rfl G.fr_enumerate (de_fz 1 (c_pr o_Book_looks ⟨G.cl_Book, G.pr_Book_looks⟩ (hr.mono (by decide)) (vr 0)))) (dg_tup rfl (dgs_cons (gn 3 S_tops_of.nd) (dgs_cons (gn 4 S_tops_of.nd) dgs_nil)))
  (dss_one (ds_if (DW.dt (dw_and (dt_not (dt_truth (de_ix (hu1 hr) (vr 4) de_int))) (dw_and1 (t_nin (hu65 hr) (vr 3) (vr 1)))))
  (dss_one (ds_for (passes_of rfl) rfl (di_seq (de_fz 1 (de_ix (hu1 hr) (c_pr o_Book_spans ⟨G.cl_Book, G.pr_Book_spans⟩ (hr.mono (by decide)) (vr 0)) (vr 3)))) (dg_tup rfl (dgs_cons (gn 5 S_tops_of.nd) (dgs_cons (gn 6 S_tops_of.nd) dgs_nil)))
  (dss_one (ds_asg2 (k_min2 rfl G.fr_min (da_cons (de_ix (hu1 hr) (vr 2) (vr 5)) (da_cons (o_sub (vr 6) de_int) da_nil))) (d2_sub (hu1 hr) (vr 2) (vr 5)))))) dss_nil)))
  (dss_one (ds_ret (de_fz 1 (vr 2))))))
theorem okd_tops_of (G : Facts P K mg) (F : ∃ fd, FunD K "tops_of" "tops_of" (defArgs s_tops_of) (defBody s_tops_of) (defScope s_tops_of) [.ref (He.dflAt ("tops_of", none) 0 K)] [] ((pG "tops_of") K) fd) (o_Book_lives : OkF P w0 K mg base (tab K) 1 ((pP "Book" "lives") K) ["self"] c_Book_lives) (o_top_of : OkF P w0 K mg base (tab K) 4 ((pG "top_of") K) ["book", "life"] c_top_of) (o_Book_looks : OkF P w0 K mg base (tab K) 1 ((pP "Book" "looks") K) ["self"] c_Book_looks) (o_Book_spans : OkF P w0 K mg base (tab K) 1 ((pP "Book" "spans") K) ["self"] c_Book_spans) : OkFd P w0 K mg base (tab K) 5 ((pG "tops_of") K) ["book", "skipped"] [.tup []] c_tops_of := by
  obtain ⟨fd, F⟩ := F
  have bb : ∃ ds, Vals [V.ref (He.dflAt ("tops_of", none) 0 K)] ds ∧ Binds K fd ["book", "skipped"] ds := by
    obtain ⟨ds, v, bb⟩ := F.binds1 (ps := ["book", "skipped"]) 1 0 (fun e => by cases e) (by rfl) fun _ _ _ _ _ _ _ us its hl h2 => match us, hl, its, h2 with | [_], _, [_], _ => ⟨_, rfl, rfl⟩
    exact ⟨ds, v, bb⟩
  obtain ⟨ds, v, bb⟩ := bb
  refine ⟨fd, ds, _, (fn_con (k := 4) F S_tops_of (w := w_tops_of) fun cdv A outer s H E F0 m0 H0 hr => ?_).imp fun _ _ _ _ h => loc_sp h, bb, v, fun F m => .cons (emB_ok G.em_tops_of F m) .nil, F.kp⟩
  exact (dss_cons (ds_setLc (i := 2) (own := true) (ow := [("life", 5)]) rfl S_tops_of.nd (di_range1 rfl G.fr_range (k_len G.fr_len (da_cons (c_pr o_Book_lives ⟨G.cl_Book, G.pr_Book_lives⟩ (hr.mono (by decide)) (vr 0)) da_nil))) (blkOk_by (by kernel_rfl)) (by decide) (fun _ _ _ _ _ => (gn 5 S_tops_of.nd)) (fun _ _ _ _ _ => dts_nil) (fun _ _ _ _ _ => (c_fn o_top_of (hr.mono (by decide)) G.gl_top_of (da_cons (vr 0) (da_cons (vr 5) da_nil)))))
  (dss_cons (ds_for (passes_of rfl) rfl (di_enum rfl G.fr_enumerate (de_fz 1 (c_pr o_Book_looks ⟨G.cl_Book, G.pr_Book_looks⟩ (hr.mono (by decide)) (vr 0)))) (dg_tup rfl (dgs_cons (gn 3 S_tops_of.nd) (dgs_cons (gn 4 S_tops_of.nd) dgs_nil)))
  (dss_one (ds_if (DW.dt (dw_and (dt_not (dt_truth (de_ix (hu1 hr) (vr 4) de_int))) (dw_and1 (t_nin (hu65 hr) (vr 3) (vr 1)))))
  (dss_one (ds_for (passes_of rfl) rfl (di_seq (de_fz 1 (de_ix (hu1 hr) (c_pr o_Book_spans ⟨G.cl_Book, G.pr_Book_spans⟩ (hr.mono (by decide)) (vr 0)) (vr 3)))) (dg_tup rfl (dgs_cons (gn 5 S_tops_of.nd) (dgs_cons (gn 6 S_tops_of.nd) dgs_nil)))
  (dss_one (ds_asg2 (k_min2 rfl G.fr_min (da_cons (de_ix (hu1 hr) (vr 2) (vr 5)) (da_cons (o_sub (vr 6) de_int) da_nil))) (d2_sub (hu1 hr) (vr 2) (vr 5)))))) dss_nil)))
  (dss_one (ds_ret (de_fz 1 (vr 2))))))
theorem ok_fits_tops {dv_fits_tops : List V} (hdv : dv_fits_tops.length = 1) (G : Facts P K mg) (F : ∃ fd, FunD K "fits_tops" "fits_tops" (defArgs s_fits_tops) (defBody s_fits_tops) (defScope s_fits_tops) dv_fits_tops [] ((pG "fits_tops") K) fd) (o_Book_looks : OkF P w0 K mg base (tab K) 1 ((pP "Book" "looks") K) ["self"] c_Book_looks) (o_Book_spans : OkF P w0 K mg base (tab K) 1 ((pP "Book" "spans") K) ["self"] c_Book_spans) : OkF P w0 K mg base (tab K) 3 ((pG "fits_tops") K) ["book", "greatest", "skipped"] c_fits_tops := by
  obtain ⟨fd, F⟩ := F
  have bb : Binds K fd ["book", "greatest", "skipped"] [] := by
    obtain ⟨ds, v, bb⟩ := F.binds1 (ps := ["book", "greatest", "skipped"]) 3 1 (fun e => by rw [e] at hdv; cases hdv) (by rw [hdv] <;> rfl) fun _ _ _ _ _ _ _ us its hl h2 => match us, hl, its, h2.trans hdv with | [_, _, _], _, [_], _ => ⟨_, rfl, rfl⟩
    have e : dv_fits_tops.drop 1 = [] := List.drop_eq_nil_of_le (by omega)
    rw [e] at v
    cases v
    exact bb
  refine ⟨fd, (fn_con (k := 2) F S_fits_tops (w := w_fits_tops) fun cdv A outer s H E F0 m0 H0 hr => ?_).imp fun _ _ _ _ h => loc_sp h, bb, F.kp⟩
  exact (dss_cons (ds_for (passes_of rfl) rfl (di_enum rfl G.fr_enumerate (de_fz 1 (c_pr o_Book_looks ⟨G.cl_Book, G.pr_Book_looks⟩ (hr.mono (by decide)) (vr 0)))) (dg_tup rfl (dgs_cons (gn 3 S_fits_tops.nd) (dgs_cons (gn 4 S_fits_tops.nd) dgs_nil)))
  (dss_cons (ds_asg (de_and (de_ix (hu1 hr) (vr 4) de_int) (de_one (cmp_nin (hu65 hr) (vr 3) (vr 2)))) (gn 5 S_fits_tops.nd))
  (dss_one (ds_if (DW.dt (dw_and (dt_truth (vr 5)) (dw_and1 (dt_not (dt_truth (k_any rfl G.fr_any (da_cons (de_lc (own := false) (ow := [("life", 6), ("number", 7)]) rfl S_fits_tops.nd (di_seq (de_fz 1 (de_ix (hu1 hr) (c_pr o_Book_spans ⟨G.cl_Book, G.pr_Book_spans⟩ (hr.mono (by decide)) (vr 0)) (vr 3)))) (blkOk_by (by kernel_rfl)) (by decide) (fun _ _ _ _ _ => (dg_tup rfl (dgs_cons (gn 6 S_fits_tops.nd) (dgs_cons (gn 7 S_fits_tops.nd) dgs_nil)))) (fun _ _ _ _ _ => dts_nil) (fun _ _ _ _ _ => (cmp_le (vr 7) (de_ix (hu1 hr) (vr 1) (vr 6))))) da_nil)))))))
  (dss_one (ds_ret de_bl)) dss_nil))))
  (dss_one (ds_ret de_bl)))
theorem okd_fits_tops (G : Facts P K mg) (F : ∃ fd, FunD K "fits_tops" "fits_tops" (defArgs s_fits_tops) (defBody s_fits_tops) (defScope s_fits_tops) [.ref (He.dflAt ("fits_tops", none) 0 K)] [] ((pG "fits_tops") K) fd) (o_Book_looks : OkF P w0 K mg base (tab K) 1 ((pP "Book" "looks") K) ["self"] c_Book_looks) (o_Book_spans : OkF P w0 K mg base (tab K) 1 ((pP "Book" "spans") K) ["self"] c_Book_spans) : OkFd P w0 K mg base (tab K) 3 ((pG "fits_tops") K) ["book", "greatest", "skipped"] [.tup []] c_fits_tops := by
  obtain ⟨fd, F⟩ := F
  have bb : ∃ ds, Vals [V.ref (He.dflAt ("fits_tops", none) 0 K)] ds ∧ Binds K fd ["book", "greatest", "skipped"] ds := by
    obtain ⟨ds, v, bb⟩ := F.binds1 (ps := ["book", "greatest", "skipped"]) 2 0 (fun e => by cases e) (by rfl) fun _ _ _ _ _ _ _ us its hl h2 => match us, hl, its, h2 with | [_, _], _, [_], _ => ⟨_, rfl, rfl⟩
    exact ⟨ds, v, bb⟩
  obtain ⟨ds, v, bb⟩ := bb
  refine ⟨fd, ds, _, (fn_con (k := 2) F S_fits_tops (w := w_fits_tops) fun cdv A outer s H E F0 m0 H0 hr => ?_).imp fun _ _ _ _ h => loc_sp h, bb, v, fun F m => .cons (emB_ok G.em_fits_tops F m) .nil, F.kp⟩
  exact (dss_cons (ds_for (passes_of rfl) rfl (di_enum rfl G.fr_enumerate (de_fz 1 (c_pr o_Book_looks ⟨G.cl_Book, G.pr_Book_looks⟩ (hr.mono (by decide)) (vr 0)))) (dg_tup rfl (dgs_cons (gn 3 S_fits_tops.nd) (dgs_cons (gn 4 S_fits_tops.nd) dgs_nil)))
  (dss_cons (ds_asg (de_and (de_ix (hu1 hr) (vr 4) de_int) (de_one (cmp_nin (hu65 hr) (vr 3) (vr 2)))) (gn 5 S_fits_tops.nd))
  (dss_one (ds_if (DW.dt (dw_and (dt_truth (vr 5)) (dw_and1 (dt_not (dt_truth (k_any rfl G.fr_any (da_cons (de_lc (own := false) (ow := [("life", 6), ("number", 7)]) rfl S_fits_tops.nd (di_seq (de_fz 1 (de_ix (hu1 hr) (c_pr o_Book_spans ⟨G.cl_Book, G.pr_Book_spans⟩ (hr.mono (by decide)) (vr 0)) (vr 3)))) (blkOk_by (by kernel_rfl)) (by decide) (fun _ _ _ _ _ => (dg_tup rfl (dgs_cons (gn 6 S_fits_tops.nd) (dgs_cons (gn 7 S_fits_tops.nd) dgs_nil)))) (fun _ _ _ _ _ => dts_nil) (fun _ _ _ _ _ => (cmp_le (vr 7) (de_ix (hu1 hr) (vr 1) (vr 6))))) da_nil)))))))
  (dss_one (ds_ret de_bl)) dss_nil))))
  (dss_one (ds_ret de_bl)))
theorem ok_without_look (G : Facts P K mg) (F : ∃ fd, FunD K "without_look" "without_look" (defArgs s_without_look) (defBody s_without_look) (defScope s_without_look) [] [] ((pG "without_look") K) fd) (od_fits_tops : OkFd P w0 K mg base (tab K) 3 ((pG "fits_tops") K) ["book", "greatest", "skipped"] [.tup []] c_fits_tops) : OkF P w0 K mg base (tab K) 4 ((pG "without_look") K) ["book", "greatest", "is_seen", "pairs"] c_without_look := by
  obtain ⟨fd, F⟩ := F
  refine ⟨fd, (fn_con (k := 3) F S_without_look (w := w_without_look) fun cdv A outer s H E F0 m0 H0 hr => ?_).imp fun _ _ _ _ h => loc_sp h, F.bindsN fun _ _ _ _ _ _ us hl => match us, hl with | [_, _, _, _], _ => rfl, F.kp⟩
  exact (dss_cons (ds_if (dt_not (dt_truth (vr 2)))
  (dss_one (ds_ret (de_if (dt_truth (k_any rfl G.fr_any (da_cons (de_lc (own := false) (ow := [("life", 5), ("number", 6)]) rfl S_without_look.nd (di_seq (de_fz 1 (vr 3))) (blkOk_by (by kernel_rfl)) (by decide) (fun _ _ _ _ _ => (dg_tup rfl (dgs_cons (gn 5 S_without_look.nd) (dgs_cons (gn 6 S_without_look.nd) dgs_nil)))) (fun _ _ _ _ _ => dts_nil) (fun _ _ _ _ _ => (cmp_le (vr 6) (de_ix (hu1 hr) (vr 1) (vr 5))))) da_nil))) (k_tuple G.fr_tuple (da_cons (vr 1) da_nil)) de_non))) dss_nil)
  (dss_cons (ds_asg (k_list true rfl G.fr_list (da_cons (vr 1) da_nil)) (gn 4 S_without_look.nd))
  (dss_cons (ds_for (passes_of rfl) rfl (di_seq (de_fz 1 (vr 3))) (dg_tup rfl (dgs_cons (gn 5 S_without_look.nd) (dgs_cons (gn 6 S_without_look.nd) dgs_nil)))
  (dss_one (ds_asg2 (k_min2 rfl G.fr_min (da_cons (de_ix (hu1 hr) (vr 4) (vr 5)) (da_cons (o_sub (vr 6) de_int) da_nil))) (d2_sub (hu1 hr) (vr 4) (vr 5)))))
  (dss_one (ds_ret (de_if (dt_truth (c_fnD od_fits_tops (hr.mono (by decide)) G.gl_fits_tops (da_cons (vr 0) (da_cons (vr 4) da_nil)))) (k_tuple G.fr_tuple (da_cons (vr 4) da_nil)) de_non))))))
theorem ok_reading_between (G : Facts P K mg) (F : ∃ fd, FunD K "reading_between" "reading_between" (defArgs s_reading_between) (defBody s_reading_between) (defScope s_reading_between) [] [] ((pG "reading_between") K) fd) (od_tops_of : OkFd P w0 K mg base (tab K) 5 ((pG "tops_of") K) ["book", "skipped"] [.tup []] c_tops_of) (od_fits_tops : OkFd P w0 K mg base (tab K) 3 ((pG "fits_tops") K) ["book", "greatest", "skipped"] [.tup []] c_fits_tops) (o_Book_looks : OkF P w0 K mg base (tab K) 1 ((pP "Book" "looks") K) ["self"] c_Book_looks) (o_Book_spans : OkF P w0 K mg base (tab K) 1 ((pP "Book" "spans") K) ["self"] c_Book_spans) (o_without_look : OkF P w0 K mg base (tab K) 4 ((pG "without_look") K) ["book", "greatest", "is_seen", "pairs"] c_without_look) : OkF P w0 K mg base (tab K) 6 ((pG "reading_between") K) ["one", "other"] c_reading_between := by
  obtain ⟨fd, F⟩ := F
  refine ⟨fd, (fn_con (k := 5) F S_reading_between (w := w_reading_between) fun cdv A outer s H E F0 m0 H0 hr => ?_).imp fun _ _ _ _ h => loc_sp h, F.bindsN fun _ _ _ _ _ _ us hl => match us, hl with | [_, _], _ => rfl, F.kp⟩
  exact (dss_cons (ds_asg (c_fnD od_tops_of (hr.mono (by decide)) G.gl_tops_of (da_cons (vr 0) da_nil)) (gn 2 S_reading_between.nd))
  (dss_cons (ds_if (dt_not (dt_truth (c_fnD od_fits_tops (hr.mono (by decide)) G.gl_fits_tops (da_cons (vr 0) (da_cons (vr 2) da_nil)))))
  (dss_one (ds_ret de_non)) dss_nil)
  (dss_cons (ds_for (passes_of rfl) rfl (di_zip rfl G.fr_zip (de_fz 1 (c_pr o_Book_looks ⟨G.cl_Book, G.pr_Book_looks⟩ (hr.mono (by decide)) (vr 1))) (de_fz 1 (c_pr o_Book_spans ⟨G.cl_Book, G.pr_Book_spans⟩ (hr.mono (by decide)) (vr 1)))) (dg_tup rfl (dgs_cons (gn 3 S_reading_between.nd) (dgs_cons (gn 4 S_reading_between.nd) dgs_nil)))
  (dss_cons (ds_asg (c_fn o_without_look (hr.mono (by decide)) G.gl_without_look (da_cons (vr 0) (da_cons (vr 2) (da_cons (de_ix (hu1 hr) (vr 3) de_int) (da_cons (vr 4) da_nil))))) (gn 5 S_reading_between.nd))
  (dss_one (ds_if (t_isnot (vr 5) de_non)
  (dss_one (ds_ret (vr 5))) dss_nil))))
  (dss_one (ds_ret de_non)))))
theorem ok_says_all (G : Facts P K mg) (F : ∃ fd, FunD K "says_all" "says_all" (defArgs s_says_all) (defBody s_says_all) (defScope s_says_all) [] [] ((pG "says_all") K) fd) (o_check_kin : OkF P w0 K mg base (tab K) 4 ((pG "check_kin") K) ["one", "other"] c_check_kin) (o_reading_between : OkF P w0 K mg base (tab K) 6 ((pG "reading_between") K) ["one", "other"] c_reading_between) : OkF P w0 K mg base (tab K) 7 ((pG "says_all") K) ["one", "other"] c_says_all := by
  obtain ⟨fd, F⟩ := F
  refine ⟨fd, (fn_con (k := 6) F S_says_all (w := w_says_all) fun cdv A outer s H E F0 m0 H0 hr => ?_).imp fun _ _ _ _ h => loc_sp h, F.bindsN fun _ _ _ _ _ _ us hl => match us, hl with | [_, _], _ => rfl, F.kp⟩
  exact (dss_cons (ds_expr (c_fn o_check_kin (hr.mono (by decide)) G.gl_check_kin (da_cons (vr 0) (da_cons (vr 1) da_nil))))
  (dss_one (ds_ret (cmp_is (c_fn o_reading_between (hr.mono (by decide)) G.gl_reading_between (da_cons (vr 0) (da_cons (vr 1) da_nil))) de_non))))
theorem ok_parting (G : Facts P K mg) (F : ∃ fd, FunD K "parting" "parting" (defArgs s_parting) (defBody s_parting) (defScope s_parting) [] [] ((pG "parting") K) fd) (o_check_kin : OkF P w0 K mg base (tab K) 4 ((pG "check_kin") K) ["one", "other"] c_check_kin) (o_reading_between : OkF P w0 K mg base (tab K) 6 ((pG "reading_between") K) ["one", "other"] c_reading_between) : OkF P w0 K mg base (tab K) 7 ((pG "parting") K) ["one", "other"] c_parting := by
  obtain ⟨fd, F⟩ := F
  refine ⟨fd, (fn_con (k := 6) F S_parting (w := w_parting) fun cdv A outer s H E F0 m0 H0 hr => ?_).imp fun _ _ _ _ h => loc_sp h, F.bindsN fun _ _ _ _ _ _ us hl => match us, hl with | [_, _], _ => rfl, F.kp⟩
  exact (dss_cons (ds_expr (c_fn o_check_kin (hr.mono (by decide)) G.gl_check_kin (da_cons (vr 0) (da_cons (vr 1) da_nil))))
  (dss_one (ds_ret (c_fn o_reading_between (hr.mono (by decide)) G.gl_reading_between (da_cons (vr 0) (da_cons (vr 1) da_nil))))))
theorem ok_alike (G : Facts P K mg) (F : ∃ fd, FunD K "alike" "alike" (defArgs s_alike) (defBody s_alike) (defScope s_alike) [] [] ((pG "alike") K) fd) (o_check_kin : OkF P w0 K mg base (tab K) 4 ((pG "check_kin") K) ["one", "other"] c_check_kin) (o_reading_between : OkF P w0 K mg base (tab K) 6 ((pG "reading_between") K) ["one", "other"] c_reading_between) : OkF P w0 K mg base (tab K) 7 ((pG "alike") K) ["one", "other"] c_alike := by
  obtain ⟨fd, F⟩ := F
  refine ⟨fd, (fn_con (k := 6) F S_alike (w := w_alike) fun cdv A outer s H E F0 m0 H0 hr => ?_).imp fun _ _ _ _ h => loc_sp h, F.bindsN fun _ _ _ _ _ _ us hl => match us, hl with | [_, _], _ => rfl, F.kp⟩
  exact (dss_cons (ds_expr (c_fn o_check_kin (hr.mono (by decide)) G.gl_check_kin (da_cons (vr 0) (da_cons (vr 1) da_nil))))
  (dss_one (ds_ret (de_and (cmp_is (c_fn o_reading_between (hr.mono (by decide)) G.gl_reading_between (da_cons (vr 0) (da_cons (vr 1) da_nil))) de_non) (de_one (cmp_is (c_fn o_reading_between (hr.mono (by decide)) G.gl_reading_between (da_cons (vr 1) (da_cons (vr 0) da_nil))) de_non))))))
theorem ok_Book_lines (G : Facts P K mg) (F : ∃ fd, FunD K "lines" "Book.lines" (defArgs s_Book_lines) (defBody s_Book_lines) (defScope s_Book_lines) [] [] ((pP "Book" "lines") K) fd)  : OkF P w0 K mg base (tab K) 1 ((pP "Book" "lines") K) ["self"] c_Book_lines := by
  obtain ⟨fd, F⟩ := F
  refine ⟨fd, (fn_con (k := 0) F S_Book_lines (w := w_Book_lines) fun cdv A outer s H E F0 m0 H0 hr => ?_).imp fun _ _ _ _ h => loc_sp h, F.bindsN fun _ _ _ _ _ _ us hl => match us, hl with | [_], _ => rfl, F.kp⟩
  exact (dss_one (ds_ret (de_fld G.fl_Book_told (vr 0))))
theorem ok_Book_dyes (G : Facts P K mg) (F : ∃ fd, FunD K "dyes" "Book.dyes" (defArgs s_Book_dyes) (defBody s_Book_dyes) (defScope s_Book_dyes) [] [] ((pP "Book" "dyes") K) fd) (o_dyes_in : OkF P w0 K mg base (tab K) 1 ((pG "dyes_in") K) ["garments"] c_dyes_in) : OkF P w0 K mg base (tab K) 2 ((pP "Book" "dyes") K) ["self"] c_Book_dyes := by
  obtain ⟨fd, F⟩ := F
  refine ⟨fd, (fn_con (k := 1) F S_Book_dyes (w := w_Book_dyes) fun cdv A outer s H E F0 m0 H0 hr => ?_).imp fun _ _ _ _ h => loc_sp h, F.bindsN fun _ _ _ _ _ _ us hl => match us, hl with | [_], _ => rfl, F.kp⟩
  exact (dss_one (ds_ret (k_tuple G.fr_tuple (da_cons (c_fn o_dyes_in (hr.mono (by decide)) G.gl_dyes_in (da_cons (de_fld G.fl_Book_clothes (vr 0)) da_nil)) da_nil))))
theorem ok_joined_line (G : Facts P K mg) (F : ∃ fd, FunD K "joined_line" "joined_line" (defArgs s_joined_line) (defBody s_joined_line) (defScope s_joined_line) [] [] ((pG "joined_line") K) fd) (o_Book_dyes : OkF P w0 K mg base (tab K) 2 ((pP "Book" "dyes") K) ["self"] c_Book_dyes) (o_dyes_in : OkF P w0 K mg base (tab K) 1 ((pG "dyes_in") K) ["garments"] c_dyes_in) (o_Book_garments : OkF P w0 K mg base (tab K) 1 ((pP "Book" "garments") K) ["self"] c_Book_garments) : OkF P w0 K mg base (tab K) 4 ((pG "joined_line") K) ["book", "names", "looks"] c_joined_line := by
  obtain ⟨fd, F⟩ := F
  refine ⟨fd, (fn_con (k := 3) F S_joined_line (w := w_joined_line) fun cdv A outer s H E F0 m0 H0 hr => ?_).imp fun _ _ _ _ h => loc_sp h, F.bindsN fun _ _ _ _ _ _ us hl => match us, hl with | [_, _, _], _ => rfl, F.kp⟩
  exact (dss_cons (ds_setLc (i := 3) (own := false) (ow := [("dye", 7)]) rfl S_joined_line.nd (di_seq (de_fz 1 (c_pr o_Book_dyes ⟨G.cl_Book, G.pr_Book_dyes⟩ (hr.mono (by decide)) (vr 0)))) (blkOk_by (by kernel_rfl)) (by decide) (fun _ _ _ _ _ => (gn 7 S_joined_line.nd)) (fun _ _ _ _ _ => (dts_one (t_in (hu65 hr) (vr 7) (c_fn o_dyes_in (hr.mono (by decide)) G.gl_dyes_in (da_cons (de_lc (own := false) (ow := [("garment", 8)]) rfl S_joined_line.nd (di_seq (de_fz 1 (c_pr o_Book_garments ⟨G.cl_Book, G.pr_Book_garments⟩ (hr.mono (by decide)) (vr 0)))) (blkOk_by (by kernel_rfl)) (by decide) (fun _ _ _ _ _ => (gn 8 S_joined_line.nd)) (fun _ _ _ _ _ => (dts_one (t_in (hu65 hr) (de_ix (hu1 hr) (vr 8) de_int) (vr 1)))) (fun _ _ _ _ _ => (vr 8))) da_nil))))) (fun _ _ _ _ _ => (vr 7)))
  (dss_cons (ds_setLc (i := 4) (own := false) (ow := [("dye", 7)]) rfl S_joined_line.nd (di_seq (de_fz 1 (vr 3))) (blkOk_by (by kernel_rfl)) (by decide) (fun _ _ _ _ _ => (gn 7 S_joined_line.nd)) (fun _ _ _ _ _ => (dts_one (dt_truth (de_get2 (hu1 hr) (vr 2) (vr 7) de_bl)))) (fun _ _ _ _ _ => (vr 7)))
  (dss_cons (ds_setLc (i := 5) (own := false) (ow := [("dye", 7)]) rfl S_joined_line.nd (di_seq (de_fz 1 (vr 3))) (blkOk_by (by kernel_rfl)) (by decide) (fun _ _ _ _ _ => (gn 7 S_joined_line.nd)) (fun _ _ _ _ _ => (dts_one (t_nin (hu65 hr) (vr 7) (vr 2)))) (fun _ _ _ _ _ => (vr 7)))
  (dss_cons (ds_asg (de_lstO (da_cons (de_gstr rfl G.gs_WASH rfl) (da_star (vr 1) da_nil))) (gn 6 S_joined_line.nd))
  (dss_cons (ds_if (dt_truth (vr 4))
  (dss_one (augL 6 S_joined_line.nd (de_lst (da_cons (de_gstr rfl G.gs_SEEN rfl) (da_star (vr 4) da_nil))))) dss_nil)
  (dss_cons (ds_if (dt_truth (vr 5))
  (dss_one (augL 6 S_joined_line.nd (de_lst (da_cons (de_gstr rfl G.gs_SKIPPED rfl) (da_star (vr 5) da_nil))))) dss_nil)
  (dss_one (ds_ret (m_join (de_str rfl) (da_cons (vr 6) da_nil))))))))))
theorem ok_joined (G : Facts P K mg) (F : ∃ fd, FunD K "joined" "joined" (defArgs s_joined) (defBody s_joined) (defScope s_joined) [] [] ((pG "joined") K) fd) (o_check_kin : OkF P w0 K mg base (tab K) 4 ((pG "check_kin") K) ["one", "other"] c_check_kin) (o_Book_lines : OkF P w0 K mg base (tab K) 1 ((pP "Book" "lines") K) ["self"] c_Book_lines) (o_Book_entries : OkF P w0 K mg base (tab K) 1 ((pP "Book" "entries") K) ["self"] c_Book_entries) (o_joined_line : OkF P w0 K mg base (tab K) 4 ((pG "joined_line") K) ["book", "names", "looks"] c_joined_line) (o_Book_init : OkF P w0 K mg base (tab K) 5 ((pM "Book" "__init__") K) ["self", "garments", "lines"] c_Book_init) (o_Book_garments : OkF P w0 K mg base (tab K) 1 ((pP "Book" "garments") K) ["self"] c_Book_garments) : OkF P w0 K mg base (tab K) 7 ((pG "joined") K) ["one", "other"] c_joined := by
  obtain ⟨fd, F⟩ := F
  refine ⟨fd, (fn_con (k := 6) F S_joined (w := w_joined) fun cdv A outer s H E F0 m0 H0 hr => ?_).imp fun _ _ _ _ h => loc_sp h, F.bindsN fun _ _ _ _ _ _ us hl => match us, hl with | [_, _], _ => rfl, F.kp⟩
  exact (dss_cons (ds_expr (c_fn o_check_kin (hr.mono (by decide)) G.gl_check_kin (da_cons (vr 0) (da_cons (vr 1) da_nil))))
  (dss_cons (ds_asg (de_lstO da_nil) (gn 2 S_joined.nd))
  (dss_cons (ds_for (passes_of rfl) rfl (di_enum rfl G.fr_enumerate (de_fz 1 (c_pr o_Book_lines ⟨G.cl_Book, G.pr_Book_lines⟩ (hr.mono (by decide)) (vr 0)))) (dg_tup rfl (dgs_cons (gn 3 S_joined.nd) (dgs_cons (gn 4 S_joined.nd) dgs_nil)))
  (dss_cons (ds_asg (de_ix (hu1 hr) (c_pr o_Book_entries ⟨G.cl_Book, G.pr_Book_entries⟩ (hr.mono (by decide)) (vr 0)) (vr 3)) (dg_tup rfl (dgs_cons (gn 5 S_joined.nd) (dgs_cons (gn 6 S_joined.nd) (dgs_cons (gn 7 S_joined.nd) dgs_nil)))))
  (dss_cons (ds_asg (de_tup (da_cons (k_dictT false rfl G.fr_dict (da_cons (vr 7) da_nil)) (da_cons (k_dictT false rfl G.fr_dict (da_cons (de_ix (hu1 hr) (de_ix (hu1 hr) (c_pr o_Book_entries ⟨G.cl_Book, G.pr_Book_entries⟩ (hr.mono (by decide)) (vr 1)) (vr 3)) de_int) da_nil)) da_nil))) (dg_tup rfl (dgs_cons (gn 8 S_joined.nd) (dgs_cons (gn 9 S_joined.nd) dgs_nil))))
  (dss_cons (ds_if (dt_truth (k_any rfl G.fr_any (da_cons (de_lc (own := false) (ow := [("dye", 10)]) rfl S_joined.nd (di_keys (vr 8)) (blkOk_by (by kernel_rfl)) (by decide) (fun _ _ _ _ _ => (gn 10 S_joined.nd)) (fun _ _ _ _ _ => (dts_one (t_in (hu65 hr) (vr 10) (vr 9)))) (fun _ _ _ _ _ => (cmp_ne (hu64 hr) (de_ix (hu1 hr) (vr 8) (vr 10)) (de_ix (hu1 hr) (vr 9) (vr 10))))) da_nil)))
  (dss_one (ds_raise G.ra_Contradicts rfl ((hr.mono (by decide))).toRoom G.fr_super G.gl_Contradicts rfl (by decide) (da_cons (vr 3) da_nil))) dss_nil)
  (dss_one (ds_expr (m_append (vr 2) (da_cons (de_if (t_eq (hu64 hr) (vr 5) (de_gstr rfl G.gs_WASH rfl)) (c_fn o_joined_line (hr.mono (by decide)) G.gl_joined_line (da_cons (vr 0) (da_cons (vr 6) (da_cons (mgv false 8 9) da_nil)))) (vr 4)) da_nil))))))))
  (dss_one (ds_ret (c_mkF 9 o_Book_init G.mk_Book (hr.mono (by decide)) G.gl_Book (da_cons (c_pr o_Book_garments ⟨G.cl_Book, G.pr_Book_garments⟩ (hr.mono (by decide)) (vr 0)) (da_cons (k_tuple G.fr_tuple (da_cons (vr 2) da_nil)) da_nil))))))))
theorem ok_Book___eq__ (G : Facts P K mg) (F : ∃ fd, FunD K "__eq__" "Book.__eq__" (defArgs s_Book___eq__) (defBody s_Book___eq__) (defScope s_Book___eq__) [] [] ((pM "Book" "__eq__") K) fd) (o_Book_garments : OkF P w0 K mg base (tab K) 1 ((pP "Book" "garments") K) ["self"] c_Book_garments) (o_Book_lines : OkF P w0 K mg base (tab K) 1 ((pP "Book" "lines") K) ["self"] c_Book_lines) : OkF P w0 K mg base (tab K) 3 ((pM "Book" "__eq__") K) ["self", "other"] c_Book___eq__ := by
  obtain ⟨fd, F⟩ := F
  refine ⟨fd, (fn_con (k := 2) F S_Book___eq__ (w := w_Book___eq__) fun cdv A outer s H E F0 m0 H0 hr => ?_).imp fun _ _ _ _ h => loc_sp h, F.bindsN fun _ _ _ _ _ _ us hl => match us, hl with | [_, _], _ => rfl, F.kp⟩
  exact (dss_one (ds_ret (de_and (k_isiC (cn := 0) (fIsi_ok rfl G.cl_Book G.is_Book) G.fr_isinstance (da_cons (vr 1) (da_cons (de_gcls rfl G.gl_Book) da_nil))) (de_and (cmp_eq (hu64 hr) (de_fld G.fl_Book_clothes (vr 0)) (c_pr o_Book_garments ⟨G.cl_Book, G.pr_Book_garments⟩ (hr.mono (by decide)) (vr 1))) (de_one (cmp_eq (hu64 hr) (de_fld G.fl_Book_told (vr 0)) (c_pr o_Book_lines ⟨G.cl_Book, G.pr_Book_lines⟩ (hr.mono (by decide)) (vr 1))))))))
theorem ok__law_sort (G : Facts P K mg) (F : ∃ fd, FunD K "_law_sort" "_law_sort" (defArgs s__law_sort) (defBody s__law_sort) (defScope s__law_sort) [] [] ((pG "_law_sort") K) fd)  : OkQ P w0 K mg base (tab K) 1 ((pG "_law_sort") K) ["_law_e"] c__law_sort := by
  obtain ⟨fd, F⟩ := F
  refine ⟨⟨fd, fn_conQ (k := 0) F S__law_sort (w := w__law_sort) fun cdv A outer s H E F0 m0 H0 hr => ?_, F.bindsN fun _ _ _ _ _ _ us hl => match us, hl with | [_], _ => rfl, F.kp⟩⟩
  exact (dss_cons (ds_asg (de_lst (da_cons (de_isE (t := .ref (He.ga K "InvalidText")) (fErQ_ok (T := tab) G.erq) (fKit_ok (T := tab) G.ki_InvalidText) (fun u h => h) (vr 0) (pe_glob (v := .ref (He.ga K "InvalidText")) rfl G.gl_InvalidText rfl) G.fr_isinstance) (da_cons (de_isE (t := .ref (He.ga K "InvalidLine")) (fErQ_ok (T := tab) G.erq) (fKit_ok (T := tab) G.ki_InvalidLine) (fun u h => h) (vr 0) (pe_glob (v := .ref (He.ga K "InvalidLine")) rfl G.gl_InvalidLine rfl) G.fr_isinstance) (da_cons (de_isE (t := .ref (He.ga K "InvalidLife")) (fErQ_ok (T := tab) G.erq) (fKit_ok (T := tab) G.ki_InvalidLife) (fun u h => h) (vr 0) (pe_glob (v := .ref (He.ga K "InvalidLife")) rfl G.gl_InvalidLife rfl) G.fr_isinstance) da_nil)))) (gn 1 S__law_sort.nd))
  (dss_cons (ds_asg (o_add (vr 1) (de_lst (da_cons (de_isE (t := .ref (He.ga K "InvalidReading")) (fErQ_ok (T := tab) G.erq) (fKit_ok (T := tab) G.ki_InvalidReading) (fun u h => h) (vr 0) (pe_glob (v := .ref (He.ga K "InvalidReading")) rfl G.gl_InvalidReading rfl) G.fr_isinstance) da_nil))) (gn 1 S__law_sort.nd))
  (dss_cons (ds_asg (o_add (vr 1) (de_lst (da_cons (de_isE (t := .ref (He.ga K "InvalidNumber")) (fErQ_ok (T := tab) G.erq) (fKit_ok (T := tab) G.ki_InvalidNumber) (fun u h => h) (vr 0) (pe_glob (v := .ref (He.ga K "InvalidNumber")) rfl G.gl_InvalidNumber rfl) G.fr_isinstance) (da_cons (de_isE (t := .ref (He.ga K "InvalidLook")) (fErQ_ok (T := tab) G.erq) (fKit_ok (T := tab) G.ki_InvalidLook) (fun u h => h) (vr 0) (pe_glob (v := .ref (He.ga K "InvalidLook")) rfl G.gl_InvalidLook rfl) G.fr_isinstance) (da_cons (de_isE (t := .ref (He.ga K "InvalidName")) (fErQ_ok (T := tab) G.erq) (fKit_ok (T := tab) G.ki_InvalidName) (fun u h => h) (vr 0) (pe_glob (v := .ref (He.ga K "InvalidName")) rfl G.gl_InvalidName rfl) G.fr_isinstance) da_nil))))) (gn 1 S__law_sort.nd))
  (dss_cons (ds_asg (o_add (vr 1) (de_lst (da_cons (de_isE (t := .ref (He.ga K "InvalidWish")) (fErQ_ok (T := tab) G.erq) (fKit_ok (T := tab) G.ki_InvalidWish) (fun u h => h) (vr 0) (pe_glob (v := .ref (He.ga K "InvalidWish")) rfl G.gl_InvalidWish rfl) G.fr_isinstance) (da_cons (de_isE (t := .ref (He.ga K "InvalidClaim")) (fErQ_ok (T := tab) G.erq) (fKit_ok (T := tab) G.ki_InvalidClaim) (fun u h => h) (vr 0) (pe_glob (v := .ref (He.ga K "InvalidClaim")) rfl G.gl_InvalidClaim rfl) G.fr_isinstance) (da_cons (de_isE (t := .ref (He.ga K "InvalidPlace")) (fErQ_ok (T := tab) G.erq) (fKit_ok (T := tab) G.ki_InvalidPlace) (fun u h => h) (vr 0) (pe_glob (v := .ref (He.ga K "InvalidPlace")) rfl G.gl_InvalidPlace rfl) G.fr_isinstance) da_nil))))) (gn 1 S__law_sort.nd))
  (dss_cons (ds_asg (o_add (vr 1) (de_lst (da_cons (de_isE (t := .ref (He.ga K "NotABook")) (fErQ_ok (T := tab) G.erq) (fKit_ok (T := tab) G.ki_NotABook) (fun u h => h) (vr 0) (pe_glob (v := .ref (He.ga K "NotABook")) rfl G.gl_NotABook rfl) G.fr_isinstance) (da_cons (de_isE (t := .ref (He.ga K "InvalidGarments")) (fErQ_ok (T := tab) G.erq) (fKit_ok (T := tab) G.ki_InvalidGarments) (fun u h => h) (vr 0) (pe_glob (v := .ref (He.ga K "InvalidGarments")) rfl G.gl_InvalidGarments rfl) G.fr_isinstance) (da_cons (de_isE (t := .ref (He.ga K "InvalidLines")) (fErQ_ok (T := tab) G.erq) (fKit_ok (T := tab) G.ki_InvalidLines) (fun u h => h) (vr 0) (pe_glob (v := .ref (He.ga K "InvalidLines")) rfl G.gl_InvalidLines rfl) G.fr_isinstance) da_nil))))) (gn 1 S__law_sort.nd))
  (dss_cons (ds_asg (o_add (vr 1) (de_lst (da_cons (de_isE (t := .ref (He.ga K "InvalidLoad")) (fErQ_ok (T := tab) G.erq) (fKit_ok (T := tab) G.ki_InvalidLoad) (fun u h => h) (vr 0) (pe_glob (v := .ref (He.ga K "InvalidLoad")) rfl G.gl_InvalidLoad rfl) G.fr_isinstance) (da_cons (de_isE (t := .ref (He.ga K "InvalidLoads")) (fErQ_ok (T := tab) G.erq) (fKit_ok (T := tab) G.ki_InvalidLoads) (fun u h => h) (vr 0) (pe_glob (v := .ref (He.ga K "InvalidLoads")) rfl G.gl_InvalidLoads rfl) G.fr_isinstance) (da_cons (de_isE (t := .ref (He.ga K "InvalidWishes")) (fErQ_ok (T := tab) G.erq) (fKit_ok (T := tab) G.ki_InvalidWishes) (fun u h => h) (vr 0) (pe_glob (v := .ref (He.ga K "InvalidWishes")) rfl G.gl_InvalidWishes rfl) G.fr_isinstance) da_nil))))) (gn 1 S__law_sort.nd))
  (dss_cons (ds_asg (o_add (vr 1) (de_lst (da_cons (de_isE (t := .ref (He.ga K "InvalidChanges")) (fErQ_ok (T := tab) G.erq) (fKit_ok (T := tab) G.ki_InvalidChanges) (fun u h => h) (vr 0) (pe_glob (v := .ref (He.ga K "InvalidChanges")) rfl G.gl_InvalidChanges rfl) G.fr_isinstance) (da_cons (de_isE (t := .ref (He.ga K "UnknownName")) (fErQ_ok (T := tab) G.erq) (fKit_ok (T := tab) G.ki_UnknownName) (fun u h => h) (vr 0) (pe_glob (v := .ref (He.ga K "UnknownName")) rfl G.gl_UnknownName rfl) G.fr_isinstance) (da_cons (de_isE (t := .ref (He.ga K "InUse")) (fErQ_ok (T := tab) G.erq) (fKit_ok (T := tab) G.ki_InUse) (fun u h => h) (vr 0) (pe_glob (v := .ref (He.ga K "InUse")) rfl G.gl_InUse rfl) G.fr_isinstance) da_nil))))) (gn 1 S__law_sort.nd))
  (dss_cons (ds_asg (o_add (vr 1) (de_lst (da_cons (de_isE (t := .ref (He.ga K "Impossible")) (fErQ_ok (T := tab) G.erq) (fKit_ok (T := tab) G.ki_Impossible) (fun u h => h) (vr 0) (pe_glob (v := .ref (He.ga K "Impossible")) rfl G.gl_Impossible rfl) G.fr_isinstance) (da_cons (de_isE (t := .ref (He.ga K "OtherBook")) (fErQ_ok (T := tab) G.erq) (fKit_ok (T := tab) G.ki_OtherBook) (fun u h => h) (vr 0) (pe_glob (v := .ref (He.ga K "OtherBook")) rfl G.gl_OtherBook rfl) G.fr_isinstance) (da_cons (de_isE (t := .ref (He.ga K "Contradicts")) (fErQ_ok (T := tab) G.erq) (fKit_ok (T := tab) G.ki_Contradicts) (fun u h => h) (vr 0) (pe_glob (v := .ref (He.ga K "Contradicts")) rfl G.gl_Contradicts rfl) G.fr_isinstance) da_nil))))) (gn 1 S__law_sort.nd))
  (dss_cons (ds_asg (o_add (vr 1) (de_lst (da_cons (de_isE (t := .ref (He.ga K "TooMany")) (fErQ_ok (T := tab) G.erq) (fKit_ok (T := tab) G.ki_TooMany) (fun u h => h) (vr 0) (pe_glob (v := .ref (He.ga K "TooMany")) rfl G.gl_TooMany rfl) G.fr_isinstance) (da_cons (de_isE (t := .ref (He.ga K "NothingToUndo")) (fErQ_ok (T := tab) G.erq) (fKit_ok (T := tab) G.ki_NothingToUndo) (fun u h => h) (vr 0) (pe_glob (v := .ref (He.ga K "NothingToUndo")) rfl G.gl_NothingToUndo rfl) G.fr_isinstance) (da_cons (de_isE (t := .ref (He.ga K "Broken")) (fErQ_ok (T := tab) G.erq) (fKit_ok (T := tab) G.ki_Broken) (fun u h => h) (vr 0) (pe_glob (v := .ref (He.ga K "Broken")) rfl G.gl_Broken rfl) G.fr_isinstance) da_nil))))) (gn 1 S__law_sort.nd))
  (dss_cons (ds_asg (de_lst (da_cons (de_str rfl) (da_cons (de_str rfl) (da_cons (de_str rfl) (da_cons (de_str rfl) (da_cons (de_str rfl) (da_cons (de_str rfl) (da_cons (de_str rfl) (da_cons (de_str rfl) (da_cons (de_str rfl) (da_cons (de_str rfl) (da_cons (de_str rfl) da_nil)))))))))))) (gn 2 S__law_sort.nd))
  (dss_cons (ds_asg (o_add (vr 2) (de_lst (da_cons (de_str rfl) (da_cons (de_str rfl) (da_cons (de_str rfl) (da_cons (de_str rfl) (da_cons (de_str rfl) (da_cons (de_str rfl) (da_cons (de_str rfl) (da_cons (de_str rfl) da_nil)))))))))) (gn 2 S__law_sort.nd))
  (dss_cons (ds_asg (o_add (vr 2) (de_lst (da_cons (de_str rfl) (da_cons (de_str rfl) (da_cons (de_str rfl) (da_cons (de_str rfl) (da_cons (de_str rfl) (da_cons (de_str rfl) da_nil)))))))) (gn 2 S__law_sort.nd))
  (dss_cons (ds_asg (de_lst (da_cons (de_isE (t := .ref (He.ga K "NotRight")) (fErQ_ok (T := tab) G.erq) (fKit_ok (T := tab) G.ki_NotRight) (fun u h => h) (vr 0) (pe_glob (v := .ref (He.ga K "NotRight")) rfl G.gl_NotRight rfl) G.fr_isinstance) (da_cons (de_isE (t := .ref (He.ga K "NotThere")) (fErQ_ok (T := tab) G.erq) (fKit_ok (T := tab) G.ki_NotThere) (fun u h => h) (vr 0) (pe_glob (v := .ref (He.ga K "NotThere")) rfl G.gl_NotThere rfl) G.fr_isinstance) (da_cons (de_isE (t := .ref (He.ga K "CannotBe")) (fErQ_ok (T := tab) G.erq) (fKit_ok (T := tab) G.ki_CannotBe) (fun u h => h) (vr 0) (pe_glob (v := .ref (He.ga K "CannotBe")) rfl G.gl_CannotBe rfl) G.fr_isinstance) da_nil)))) (gn 3 S__law_sort.nd))
  (dss_cons (ds_asg (de_lst (da_cons (de_isE (t := .ty "ValueError") (fErQ_ok (T := tab) G.erq) (fKit_ok (T := tab) G.ki_ValueError) (fun u h => h) (vr 0) (pe_bltn (v := .ty "ValueError") rfl G.fr_ValueError (by first | rfl | decide +kernel | kernel_rfl) rfl) G.fr_isinstance) (da_cons (de_isE (t := .ty "LookupError") (fErQ_ok (T := tab) G.erq) (fKit_ok (T := tab) G.ki_LookupError) (fun u h => h) (vr 0) (pe_bltn (v := .ty "LookupError") rfl G.fr_LookupError (by first | rfl | decide +kernel | kernel_rfl) rfl) G.fr_isinstance) (da_cons (de_isE (t := .ty "ArithmeticError") (fErQ_ok (T := tab) G.erq) (fKit_ok (T := tab) G.ki_ArithmeticError) (fun u h => h) (vr 0) (pe_bltn (v := .ty "ArithmeticError") rfl G.fr_ArithmeticError (by first | rfl | decide +kernel | kernel_rfl) rfl) G.fr_isinstance) da_nil)))) (gn 4 S__law_sort.nd))
  (dss_cons (ds_asg (de_if (t_eq (hu64q hr) (m_count (hu65q hr) (vr 1) (da_cons de_bl da_nil)) de_int) (m_index (hu65q hr) (vr 1) (da_cons de_bl da_nil)) de_int) (gn 5 S__law_sort.nd))
  (dss_one (ds_ret (de_if (DW.dt (dw_and (t_lt (vr 5) de_int) (dw_and1 (dt_chain (op_eqD (hu64q hr)) okEq (op_eqD (hu64q hr)) okEq (vr 3) (vr 4) (de_lst (da_cons (cmp_lt (vr 5) de_int) (da_cons (de_chain op_lt okLt op_lt okLt de_int (vr 5) de_int) (da_cons (cmp_gt (vr 5) de_int) da_nil)))))))) (de_ix (hu1q hr) (vr 2) (vr 5)) (de_str rfl)))))))))))))))))))
theorem ok__law_kept (G : Facts P K mg) (F : ∃ fd, FunD K "_law_kept" "_law_kept" (defArgs s__law_kept) (defBody s__law_kept) (defScope s__law_kept) [] [] ((pG "_law_kept") K) fd) (o__law_sort : OkQ P w0 K mg base (tab K) 1 ((pG "_law_sort") K) ["_law_e"] c__law_sort) : OkQ P w0 K mg base (tab K) 2 ((pG "_law_kept") K) ["_law_e"] c__law_kept := by
  obtain ⟨fd, F⟩ := F
  refine ⟨⟨fd, fn_conQ (k := 1) F S__law_kept (w := w__law_kept) fun cdv A outer s H E F0 m0 H0 hr => ?_, F.bindsN fun _ _ _ _ _ _ us hl => match us, hl with | [_], _ => rfl, F.kp⟩⟩
  exact (dss_cons (ds_asg (c_fnQ o__law_sort (hr.mono (by decide)) G.gl__law_sort (da_cons (vr 0) da_nil)) (gn 1 S__law_kept.nd))
  (dss_cons (ds_if (t_in (hu65q hr) (vr 1) (de_lst (da_cons (de_str rfl) (da_cons (de_str rfl) (da_cons (de_str rfl) (da_cons (de_str rfl) (da_cons (de_str rfl) (da_cons (de_str rfl) (da_cons (de_str rfl) da_nil)))))))))
  (dss_one (ds_ret (de_lst (da_cons (vr 1) (da_cons (de_erf (erf_of (T := tab) G.erq G.ef_index (fun c h => sub_ok (by rfl) c h) .nil) (vr 0)) da_nil))))) dss_nil)
  (dss_cons (ds_if (t_eq (hu64q hr) (vr 1) (de_str rfl))
  (dss_one (ds_ret (de_lst (da_cons (vr 1) (da_cons (de_erf (erf_of (T := tab) G.erq G.ef_most (fun c h => sub_ok (by rfl) c h) .nil) (vr 0)) da_nil))))) dss_nil)
  (dss_one (ds_ret (de_lst (da_cons (vr 1) (da_cons (de_if (t_nin (hu65q hr) (vr 1) (de_lst (da_cons (de_str rfl) (da_cons (de_str rfl) (da_cons (de_str rfl) (da_cons (de_str rfl) (da_cons (de_str rfl) da_nil))))))) (de_erf (erf_of (T := tab) G.erq G.ef_given (fun c h => sub_ok (by rfl) c h) (.cons rfl .nil)) (vr 0)) de_non) da_nil))))))))
theorem ok__law_told (G : Facts P K mg) (F : ∃ fd, FunD K "_law_told" "_law_told" (defArgs s__law_told) (defBody s__law_told) (defScope s__law_told) [] [] ((pG "_law_told") K) fd) (o__law_kept : OkQ P w0 K mg base (tab K) 2 ((pG "_law_kept") K) ["_law_e"] c__law_kept) (k : Nat) (hk : 3 ≤ k + 2) : ToldF P w0 K mg base (tab K) k ((pG "_law_told") K) "_law_told" "_law_act" ["_law_act", "_law_back", "_law_e"] (defScope s__law_told) h__law_told := by
  obtain ⟨fd, F⟩ := F
  refine told_of F S__law_told rfl (by first | exact Or.inl rfl | exact Or.inr (Or.inl rfl)) (F.bindsN fun _ _ _ _ _ _ us hl => match us, hl with | [_], _ => rfl) fun cdv A outer s H P0 a hr act F0 m0 H0 => ?_
  exact (dssp_cons (dsp_try (fun pn xe hp F0 m0 H0 => (dssp_one (dsp_asg (act pn xe _ _ F0 m0 H0) (gn 1 S__law_told.nd))))
  (.named (i := 2) rfl rfl (.three (nm_g G.gl_NotRight) (nm_g G.gl_NotThere) (nm_g G.gl_CannotBe)) (fExm_ok (T := tab) G.ex_NotRight_NotThere_CannotBe) (fun ea => (fun hr => (dss_one (ds_ret (c_fnQ o__law_kept (hr.mono (by omega)) G.gl__law_kept (da_cons (vr 2) da_nil))))) ((roomQ_of hr).mark (some (.ref ea)))) .nil) S__law_told.nd)
  (dss_one (ds_ret (de_lst (da_cons (de_str rfl) (da_cons (vr 1) da_nil))))))
theorem ok__law_sock_right (G : Facts P K mg) (LB : LamB base K mg (tab K) "_law_sock_right") (F : ∃ fd, FunD K "_law_sock_right" "_law_sock_right" (defArgs s__law_sock_right) (defBody s__law_sock_right) (defScope s__law_sock_right) [] [] ((pG "_law_sock_right") K) fd) (o_Book_init : OkF P w0 K mg base (tab K) 5 ((pM "Book" "__init__") K) ["self", "garments", "lines"] c_Book_init) (o_parting : OkF P w0 K mg base (tab K) 7 ((pG "parting") K) ["one", "other"] c_parting) (o_alike : OkF P w0 K mg base (tab K) 7 ((pG "alike") K) ["one", "other"] c_alike) (o_says_all : OkF P w0 K mg base (tab K) 7 ((pG "says_all") K) ["one", "other"] c_says_all) (o_joined : OkF P w0 K mg base (tab K) 7 ((pG "joined") K) ["one", "other"] c_joined) (o_Book___eq__ : OkF P w0 K mg base (tab K) 3 ((pM "Book" "__eq__") K) ["self", "other"] c_Book___eq__) (o_Book_lines : OkF P w0 K mg base (tab K) 1 ((pP "Book" "lines") K) ["self"] c_Book_lines) (o__law_told : ∀ k, 3 ≤ k + 2 → ToldF P w0 K mg base (tab K) k ((pG "_law_told") K) "_law_told" "_law_act" ["_law_act", "_law_back", "_law_e"] (defScope s__law_told) h__law_told) : OkF P w0 K mg base (tab K) 10 ((pG "_law_sock_right") K) [] c__law_sock_right := by
  obtain ⟨fd, F⟩ := F
  refine ⟨fd, (fn_conT (x := "_law_sock_right") (k := 9) F S__law_sock_right (w := w__law_sock_right) fun cdv A outer s H E F0 m0 H0 hcd hr => ?_).imp fun _ _ _ _ h => loc_sp h, F.bindsN fun _ _ _ _ _ _ us hl => match us, hl with | [], _ => rfl, F.kp⟩
  exact (dss_cons (ds_asg (de_tup (da_cons (de_tup (da_cons (de_str rfl) (da_cons (de_str rfl) (da_cons de_int da_nil)))) (da_cons (de_tup (da_cons (de_str rfl) (da_cons (de_str rfl) (da_cons de_int da_nil)))) (da_cons (de_tup (da_cons (de_str rfl) (da_cons (de_str rfl) (da_cons de_int da_nil)))) da_nil)))) (gn 0 S__law_sock_right.nd))
  (dss_cons (ds_asg (de_loc fun _ _ _ => de_fz 9 (c_mk o_Book_init G.mk_Book (hr.mono (by decide)) G.gl_Book (da_cons (vr 0) (da_cons (de_tup (da_cons (de_str rfl) (da_cons (de_str rfl) (da_cons (de_str rfl) da_nil)))) da_nil)))) (gn 1 S__law_sock_right.nd))
  (dss_cons (ds_asg (de_loc fun _ _ _ => de_fz 9 (c_mk o_Book_init G.mk_Book (hr.mono (by decide)) G.gl_Book (da_cons (vr 0) (da_cons (de_tup (da_cons (de_str rfl) (da_cons (de_str rfl) (da_cons (de_str rfl) da_nil)))) da_nil)))) (gn 2 S__law_sock_right.nd))
  (dss_cons (ds_asg (de_loc fun _ _ _ => de_fz 9 (c_mk o_Book_init G.mk_Book (hr.mono (by decide)) G.gl_Book (da_cons (vr 0) (da_cons (de_tup (da_cons (de_str rfl) (da_cons (de_str rfl) (da_cons (de_str rfl) da_nil)))) da_nil)))) (gn 3 S__law_sock_right.nd))
  (dss_cons (ds_asg (de_lst (da_cons (c_fn o_says_all (hr.mono (by decide)) G.gl_says_all (da_cons (vr 1) (da_cons (vr 2) da_nil))) (da_cons (c_fn o_says_all (hr.mono (by decide)) G.gl_says_all (da_cons (vr 2) (da_cons (vr 1) da_nil))) (da_cons (c_fn o_alike (hr.mono (by decide)) G.gl_alike (da_cons (vr 1) (da_cons (vr 2) da_nil))) (da_cons (c_fn o_alike (hr.mono (by decide)) G.gl_alike (da_cons (vr 1) (da_cons (vr 1) da_nil))) (da_cons (c_fn o_parting (hr.mono (by decide)) G.gl_parting (da_cons (vr 1) (da_cons (vr 2) da_nil))) da_nil)))))) (gn 4 S__law_sock_right.nd))
  (dss_cons (ds_if (DW.dt (dw_or (t_ne (hu64 hr) (vr 4) (de_lst (da_cons de_bl (da_cons de_bl (da_cons de_bl (da_cons de_bl (da_cons de_non da_nil))))))) (dw_or1 (t_ne (hu64 hr) (de_lst (da_cons (c_fn o_says_all (hr.mono (by decide)) G.gl_says_all (da_cons (vr 3) (da_cons (vr 1) da_nil))) (da_cons (c_fn o_says_all (hr.mono (by decide)) G.gl_says_all (da_cons (vr 1) (da_cons (vr 3) da_nil))) da_nil))) (de_lst (da_cons de_bl (da_cons de_bl da_nil)))))))
  (dss_one (ds_ret de_bl)) dss_nil)
  (dss_cons (ds_if (DW.dt (dw_or (t_neO o_Book___eq__ G.me_Book___eq__ (hr.mono (by decide)) (c_fn o_joined (hr.mono (by decide)) G.gl_joined (da_cons (vr 1) (da_cons (vr 2) da_nil))) (vr 1) G.ne_Book) (dw_or (t_neO o_Book___eq__ G.me_Book___eq__ (hr.mono (by decide)) (c_fn o_joined (hr.mono (by decide)) G.gl_joined (da_cons (vr 2) (da_cons (vr 1) da_nil))) (vr 1) G.ne_Book) (dw_or1 (t_isnot (c_fn o_parting (hr.mono (by decide)) G.gl_parting (da_cons (vr 3) (da_cons (vr 1) da_nil))) de_non)))))
  (dss_one (ds_ret de_bl)) dss_nil)
  (dss_cons (ds_asg (de_lst (da_cons (de_lam (k := 7) (o__law_told 7 (by decide)) G.gl__law_told LB.tb hcd LB.mem LB.only (hr.mono (by decide)) (LamX.lamS_by (by kernel_rfl)) (fun _ _ _ _ _ _ _ _ _ _ hr => (c_fn o_joined (hr.mono (by decide)) G.gl_joined (da_cons (vr 1) (da_cons (vr 3) da_nil))))) (da_cons (de_ix (hu1 hr) (c_pr o_Book_lines ⟨G.cl_Book, G.pr_Book_lines⟩ (hr.mono (by decide)) (c_fn o_joined (hr.mono (by decide)) G.gl_joined (da_cons (vr 2) (da_cons (vr 2) da_nil)))) de_int) da_nil))) (gn 4 S__law_sock_right.nd))
  (dss_one (ds_ret (cmp_eq (hu64 hr) (vr 4) (de_lst (da_cons (de_lst (da_cons (de_str rfl) (da_cons de_int da_nil))) (da_cons (de_str rfl) da_nil))))))))))))))
theorem ok__law_right (G : Facts P K mg) (LB : LamB base K mg (tab K) "_law_right") (F : ∃ fd, FunD K "_law_right" "_law_right" (defArgs s__law_right) (defBody s__law_right) (defScope s__law_right) [] [] ((pG "_law_right") K) fd) (o__law_dab : OkF P w0 K mg base (tab K) 1 ((pG "_law_dab") K) ["_law_rinse_here", "_law_size"] c__law_dab) (o_Book_init : OkF P w0 K mg base (tab K) 5 ((pM "Book" "__init__") K) ["self", "garments", "lines"] c_Book_init) (o_says_all : OkF P w0 K mg base (tab K) 7 ((pG "says_all") K) ["one", "other"] c_says_all) (o_parting : OkF P w0 K mg base (tab K) 7 ((pG "parting") K) ["one", "other"] c_parting) (o_alike : OkF P w0 K mg base (tab K) 7 ((pG "alike") K) ["one", "other"] c_alike) (o_joined : OkF P w0 K mg base (tab K) 7 ((pG "joined") K) ["one", "other"] c_joined) (o_Book___eq__ : OkF P w0 K mg base (tab K) 3 ((pM "Book" "__eq__") K) ["self", "other"] c_Book___eq__) (o__law_told : ∀ k, 3 ≤ k + 2 → ToldF P w0 K mg base (tab K) k ((pG "_law_told") K) "_law_told" "_law_act" ["_law_act", "_law_back", "_law_e"] (defScope s__law_told) h__law_told) (o__law_sock_right : OkF P w0 K mg base (tab K) 10 ((pG "_law_sock_right") K) [] c__law_sock_right) : OkF P w0 K mg base (tab K) 11 ((pG "_law_right") K) ["_law_rinse_here"] c__law_right := by
  obtain ⟨fd, F⟩ := F
  refine ⟨fd, (fn_conT (x := "_law_right") (k := 10) F S__law_right (w := w__law_right) fun cdv A outer s H E F0 m0 H0 hcd hr => ?_).imp fun _ _ _ _ h => loc_sp h, F.bindsN fun _ _ _ _ _ _ us hl => match us, hl with | [_], _ => rfl, F.kp⟩
  exact (dss_cons (ds_par (i := 1) (j := 2) rfl S__law_right.nd rfl rfl (by decide) rfl rfl (da_cons (o_add de_int (c_fn o__law_dab (hr.mono (by decide)) G.gl__law_dab (da_cons (vr 0) (da_cons de_int da_nil)))) (da_cons (o_add de_int (c_fn o__law_dab (hr.mono (by decide)) G.gl__law_dab (da_cons (vr 0) (da_cons de_int da_nil)))) da_nil)) rfl)
  (dss_cons (ds_asg (de_tup (da_cons (de_tup (da_cons (de_str rfl) (da_cons (de_str rfl) (da_cons (vr 2) da_nil)))) (da_cons (de_tup (da_cons (de_str rfl) (da_cons (de_str rfl) (da_cons (vr 2) da_nil)))) da_nil))) (gn 3 S__law_right.nd))
  (dss_cons (ds_asg (de_loc fun _ _ _ => de_fz 9 (c_mk o_Book_init G.mk_Book (hr.mono (by decide)) G.gl_Book (da_cons (vr 3) (da_cons (o_add (o_mulT (de_tup (da_cons (de_str rfl) da_nil)) (vr 1)) (de_tup (da_cons (de_str rfl) da_nil))) da_nil)))) (gn 4 S__law_right.nd))
  (dss_cons (ds_asg (de_loc fun _ _ _ => de_fz 9 (c_mk o_Book_init G.mk_Book (hr.mono (by decide)) G.gl_Book (da_cons (vr 3) (da_cons (o_add (o_mulT (de_tup (da_cons (de_str rfl) da_nil)) (vr 1)) (de_tup (da_cons (de_str rfl) da_nil))) da_nil)))) (gn 5 S__law_right.nd))
  (dss_cons (ds_asg (de_loc fun _ _ _ => de_fz 9 (c_mk o_Book_init G.mk_Book (hr.mono (by decide)) G.gl_Book (da_cons (vr 3) (da_cons (o_add (o_mulT (de_tup (da_cons (de_str rfl) da_nil)) (vr 1)) (de_tup (da_cons (de_str rfl) da_nil))) da_nil)))) (gn 6 S__law_right.nd))
  (dss_cons (ds_asg (de_lstO (da_cons (c_fn o_says_all (hr.mono (by decide)) G.gl_says_all (da_cons (vr 4) (da_cons (vr 5) da_nil))) (da_cons (c_fn o_says_all (hr.mono (by decide)) G.gl_says_all (da_cons (vr 5) (da_cons (vr 4) da_nil))) (da_cons (c_fn o_says_all (hr.mono (by decide)) G.gl_says_all (da_cons (vr 5) (da_cons (vr 6) da_nil))) da_nil)))) (gn 7 S__law_right.nd))
  (dss_cons (ds_asg (o_add (vr 7) (de_lst (da_cons (c_fn o_alike (hr.mono (by decide)) G.gl_alike (da_cons (vr 4) (da_cons (c_fn o_joined (hr.mono (by decide)) G.gl_joined (da_cons (vr 5) (da_cons (vr 6) da_nil))) da_nil))) (da_cons (c_fn o_parting (hr.mono (by decide)) G.gl_parting (da_cons (vr 4) (da_cons (vr 5) da_nil))) da_nil)))) (gn 7 S__law_right.nd))
  (dss_cons (ds_if (t_ne (hu64 hr) (vr 7) (de_lst (da_cons de_bl (da_cons de_bl (da_cons de_bl (da_cons de_bl (da_cons de_non da_nil)))))))
  (dss_one (ds_ret de_bl)) dss_nil)
  (dss_cons (ds_asg (c_fn o_parting (hr.mono (by decide)) G.gl_parting (da_cons (vr 5) (da_cons (vr 4) da_nil))) (gn 8 S__law_right.nd))
  (dss_cons (ds_if (DW.dt (dw_or (dt_not (dt_truth (k_isi G.fr_isinstance (da_cons (vr 8) (da_cons (de_bty rfl G.fr_tuple rfl) da_nil))))) (dw_or (t_ne (hu64 hr) (de_ix (hu1 hr) (vr 8) de_int) (vr 1)) (dw_or (t_eq (hu64 hr) (de_ix (hu1 hr) (vr 8) de_int) (vr 1)) (dw_or1 (dt_not (dt_chain op_le okLe op_le okLe de_int (de_ix (hu1 hr) (vr 8) de_int) (vr 2))))))))
  (dss_one (ds_ret de_bl)) dss_nil)
  (dss_cons (ds_if (DW.dt (dw_or (t_neO o_Book___eq__ G.me_Book___eq__ (hr.mono (by decide)) (c_fn o_joined (hr.mono (by decide)) G.gl_joined (da_cons (vr 5) (da_cons (vr 6) da_nil))) (vr 4) G.ne_Book) (dw_or1 (t_neO o_Book___eq__ G.me_Book___eq__ (hr.mono (by decide)) (c_fn o_joined (hr.mono (by decide)) G.gl_joined (da_cons (vr 6) (da_cons (vr 5) da_nil))) (vr 4) G.ne_Book))))
  (dss_one (ds_ret de_bl)) dss_nil)
  (dss_cons (ds_asg (de_loc fun _ _ _ => de_fz 9 (c_mk o_Book_init G.mk_Book (hr.mono (by decide)) G.gl_Book (da_cons (vr 3) (da_cons (o_add (o_mulT (de_tup (da_cons (de_str rfl) da_nil)) (vr 1)) (de_tup (da_cons (de_str rfl) da_nil))) da_nil)))) (gn 9 S__law_right.nd))
  (dss_cons (ds_asg (de_lstO (da_cons (de_lam (k := 8) (o__law_told 8 (by decide)) G.gl__law_told LB.tb hcd LB.mem LB.only (hr.mono (by decide)) (LamX.lamS_by (by kernel_rfl)) (fun _ _ _ _ _ _ _ _ _ _ hr => (c_fn o_joined (hr.mono (by decide)) G.gl_joined (da_cons (vr 9) (da_cons (vr 4) da_nil))))) da_nil)) (gn 7 S__law_right.nd))
  (dss_cons (ds_expr (m_append (vr 7) (da_cons (de_lam (k := 8) (o__law_told 8 (by decide)) G.gl__law_told LB.tb hcd LB.mem LB.only (hr.mono (by decide)) (LamX.lamS_by (by kernel_rfl)) (fun _ _ _ _ _ _ _ _ _ _ hr => (c_fn o_joined (hr.mono (by decide)) G.gl_joined (da_cons (vr 4) (da_cons (vr 9) da_nil))))) da_nil)))
  (dss_cons (ds_if (t_ne (hu64 hr) (vr 7) (o_mul (de_lst (da_cons (de_lst (da_cons (de_str rfl) (da_cons (vr 1) da_nil))) da_nil)) de_int))
  (dss_one (ds_ret de_bl)) dss_nil)
  (dss_one (ds_ret (de_and (cmp_is (c_fn o_says_all (hr.mono (by decide)) G.gl_says_all (da_cons (vr 9) (da_cons (vr 5) da_nil))) de_bl) (de_one (c_fn0 o__law_sock_right (hr.mono (by decide)) G.gl__law_sock_right))))))))))))))))))))
theorem ok__law_rinse (G : Facts P K mg) (F : ∃ fd, FunD K "_law_rinse" "_law_rinse" (defArgs s__law_rinse) (defBody s__law_rinse) (defScope s__law_rinse) [] [] ((pG "_law_rinse") K) fd)  : OkF P w0 K mg base (tab K) 1 ((pG "_law_rinse") K) ["_law_script", "_law_turn"] c__law_rinse := by
  obtain ⟨fd, F⟩ := F
  refine ⟨fd, (fn_con (k := 0) F S__law_rinse (w := w__law_rinse) fun cdv A outer s H E F0 m0 H0 hr => ?_), F.bindsN fun _ _ _ _ _ _ us hl => match us, hl with | [_, _], _ => rfl, F.kp⟩
  exact (dss_cons (ds_asg (o_add de_int (o_mul de_int (vr 1))) (gn 2 S__law_rinse.nd))
  (dss_cons (ds_for (passes_of rfl) rfl (di_seq (de_fz 1 (de_slice (vr 0) do_none (do_some de_int)))) (gn 3 S__law_rinse.nd)
  (dss_one (ds_asg (o_mod (k_int G.fr_int (da_cons (o_add (o_add (o_mul (vr 2) de_int) (o_mod (k_int G.fr_int (da_cons (vr 3) da_nil)) de_int)) de_int) da_nil)) de_int) (gn 2 S__law_rinse.nd))))
  (dss_cons (ds_asg (de_if (DW.dt (dw_and (t_lt (vr 1) (k_len G.fr_len (da_cons (vr 0) da_nil))) (dw_and1 (t_ge (k_abs G.fr_abs (da_cons (de_ix (hu1 hr) (vr 0) (vr 1)) da_nil)) (o_pow de_int de_int))))) (k_abs G.fr_abs (da_cons (de_ix (hu1 hr) (vr 0) (vr 1)) da_nil)) de_int) (gn 4 S__law_rinse.nd))
  (dss_one (ds_ret (de_lstO (da_cons (vr 4) (da_cons (vr 2) (da_cons de_int da_nil)))))))))
theorem ok_law (G : Facts P K mg) {fd : FuncData} (F : FunD K "law" "law" (defArgs s_law) (defBody s_law) (defScope s_law) [] [] ((pG "law") K) fd) (o__law_right : OkF P w0 K mg base (tab K) 11 ((pG "_law_right") K) ["_law_rinse_here"] c__law_right) (o__law_rinse : OkF P w0 K mg base (tab K) 1 ((pG "_law_rinse") K) ["_law_script", "_law_turn"] c__law_rinse) : FnC P w0 K mg base (tab K) 12 ((pG "law") K) fd ["_law_script"] c_law := by
  refine (fn_con (k := 11) F S_law (w := w_law) fun cdv A outer s H E F0 m0 H0 hr => ?_).imp fun _ _ _ _ h => loc_sp h
  exact (dss_cons (ds_for (passes_of rfl) rfl (di_range1 rfl G.fr_range (k_max2 rfl G.fr_max (da_cons de_int (da_cons (k_min2 rfl G.fr_min (da_cons (k_len G.fr_len (da_cons (vr 0) da_nil)) (da_cons de_int da_nil))) da_nil)))) (gn 1 S_law.nd)
  (dss_one (ds_if (dt_not (dt_truth (de_loc fun _ _ _ => (c_fn o__law_right (hr.mono (by decide)) G.gl__law_right (da_cons (c_fn o__law_rinse (hr.mono (by decide)) G.gl__law_rinse (da_cons (vr 0) (da_cons (vr 1) da_nil))) da_nil)))))
  (dss_one (ds_ret de_bl)) dss_nil)))
  (dss_one (ds_ret de_bl)))
end
end K23

namespace K23
open PySem PySem.Spec PyProof.Rows L2 Pk
abbrev endS (R : D → Prop) (E : QX) : DEnds := ⟨fun _ _ => R .non, fun d _ => R d, fun _ _ => False, fun _ _ => False, fun x _ μ' => E x μ'⟩
abbrev slR (o s : Int) : Slots := [some (.mref 0), some (.int o), some (.int s), none, none, none, none, none, none, none]
end K23

namespace K23
open PySem PySem.Spec PyProof.Rows L2 Pk
theorem case1_6 (g s n : Int) (R : D → Prop) (E : QX) : w__law_right_c (endS R E) (slR 1 6) [.lst [.int g, .int s, .int n]] = R (.bl true) := by kernel_rfl
theorem case1_7 (g s n : Int) (R : D → Prop) (E : QX) : w__law_right_c (endS R E) (slR 1 7) [.lst [.int g, .int s, .int n]] = R (.bl true) := by kernel_rfl
theorem case1_8 (g s n : Int) (R : D → Prop) (E : QX) : w__law_right_c (endS R E) (slR 1 8) [.lst [.int g, .int s, .int n]] = R (.bl true) := by kernel_rfl
theorem case1_9 (g s n : Int) (R : D → Prop) (E : QX) : w__law_right_c (endS R E) (slR 1 9) [.lst [.int g, .int s, .int n]] = R (.bl true) := by kernel_rfl
theorem case1_10 (g s n : Int) (R : D → Prop) (E : QX) : w__law_right_c (endS R E) (slR 1 10) [.lst [.int g, .int s, .int n]] = R (.bl true) := by kernel_rfl
theorem case1_11 (g s n : Int) (R : D → Prop) (E : QX) : w__law_right_c (endS R E) (slR 1 11) [.lst [.int g, .int s, .int n]] = R (.bl true) := by kernel_rfl
theorem case1_12 (g s n : Int) (R : D → Prop) (E : QX) : w__law_right_c (endS R E) (slR 1 12) [.lst [.int g, .int s, .int n]] = R (.bl true) := by kernel_rfl
theorem often1 {v g s n : Int} {R : D → Prop} {E : QX} (h0 : 6 ≤ v) (h1 : v < 13) (h : R (.bl true)) : w__law_right_c (endS R E) (slR 1 v) [.lst [.int g, .int s, .int n]] := by
  have hv : v = 6 ∨ v = 7 ∨ v = 8 ∨ v = 9 ∨ v = 10 ∨ v = 11 ∨ v = 12 := by omega
  rcases hv with rfl | rfl | rfl | rfl | rfl | rfl | rfl
  · rw [case1_6]; exact h
  · rw [case1_7]; exact h
  · rw [case1_8]; exact h
  · rw [case1_9]; exact h
  · rw [case1_10]; exact h
  · rw [case1_11]; exact h
  · rw [case1_12]; exact h
end K23

namespace K23
open PySem PySem.Spec PyProof.Rows L2 Pk
theorem case2_6 (g s n : Int) (R : D → Prop) (E : QX) : w__law_right_c (endS R E) (slR 2 6) [.lst [.int g, .int s, .int n]] = R (.bl true) := by kernel_rfl
theorem case2_7 (g s n : Int) (R : D → Prop) (E : QX) : w__law_right_c (endS R E) (slR 2 7) [.lst [.int g, .int s, .int n]] = R (.bl true) := by kernel_rfl
theorem case2_8 (g s n : Int) (R : D → Prop) (E : QX) : w__law_right_c (endS R E) (slR 2 8) [.lst [.int g, .int s, .int n]] = R (.bl true) := by kernel_rfl
theorem case2_9 (g s n : Int) (R : D → Prop) (E : QX) : w__law_right_c (endS R E) (slR 2 9) [.lst [.int g, .int s, .int n]] = R (.bl true) := by kernel_rfl
theorem case2_10 (g s n : Int) (R : D → Prop) (E : QX) : w__law_right_c (endS R E) (slR 2 10) [.lst [.int g, .int s, .int n]] = R (.bl true) := by kernel_rfl
theorem case2_11 (g s n : Int) (R : D → Prop) (E : QX) : w__law_right_c (endS R E) (slR 2 11) [.lst [.int g, .int s, .int n]] = R (.bl true) := by kernel_rfl
theorem case2_12 (g s n : Int) (R : D → Prop) (E : QX) : w__law_right_c (endS R E) (slR 2 12) [.lst [.int g, .int s, .int n]] = R (.bl true) := by kernel_rfl
theorem often2 {v g s n : Int} {R : D → Prop} {E : QX} (h0 : 6 ≤ v) (h1 : v < 13) (h : R (.bl true)) : w__law_right_c (endS R E) (slR 2 v) [.lst [.int g, .int s, .int n]] := by
  have hv : v = 6 ∨ v = 7 ∨ v = 8 ∨ v = 9 ∨ v = 10 ∨ v = 11 ∨ v = 12 := by omega
  rcases hv with rfl | rfl | rfl | rfl | rfl | rfl | rfl
  · rw [case2_6]; exact h
  · rw [case2_7]; exact h
  · rw [case2_8]; exact h
  · rw [case2_9]; exact h
  · rw [case2_10]; exact h
  · rw [case2_11]; exact h
  · rw [case2_12]; exact h
end K23

namespace K23
open PySem PySem.Spec PyProof.Rows L2 Pk
theorem case3_6 (g s n : Int) (R : D → Prop) (E : QX) : w__law_right_c (endS R E) (slR 3 6) [.lst [.int g, .int s, .int n]] = R (.bl true) := by kernel_rfl
theorem case3_7 (g s n : Int) (R : D → Prop) (E : QX) : w__law_right_c (endS R E) (slR 3 7) [.lst [.int g, .int s, .int n]] = R (.bl true) := by kernel_rfl
theorem case3_8 (g s n : Int) (R : D → Prop) (E : QX) : w__law_right_c (endS R E) (slR 3 8) [.lst [.int g, .int s, .int n]] = R (.bl true) := by kernel_rfl
theorem case3_9 (g s n : Int) (R : D → Prop) (E : QX) : w__law_right_c (endS R E) (slR 3 9) [.lst [.int g, .int s, .int n]] = R (.bl true) := by kernel_rfl
theorem case3_10 (g s n : Int) (R : D → Prop) (E : QX) : w__law_right_c (endS R E) (slR 3 10) [.lst [.int g, .int s, .int n]] = R (.bl true) := by kernel_rfl
theorem case3_11 (g s n : Int) (R : D → Prop) (E : QX) : w__law_right_c (endS R E) (slR 3 11) [.lst [.int g, .int s, .int n]] = R (.bl true) := by kernel_rfl
theorem case3_12 (g s n : Int) (R : D → Prop) (E : QX) : w__law_right_c (endS R E) (slR 3 12) [.lst [.int g, .int s, .int n]] = R (.bl true) := by kernel_rfl
theorem often3 {v g s n : Int} {R : D → Prop} {E : QX} (h0 : 6 ≤ v) (h1 : v < 13) (h : R (.bl true)) : w__law_right_c (endS R E) (slR 3 v) [.lst [.int g, .int s, .int n]] := by
  have hv : v = 6 ∨ v = 7 ∨ v = 8 ∨ v = 9 ∨ v = 10 ∨ v = 11 ∨ v = 12 := by omega
  rcases hv with rfl | rfl | rfl | rfl | rfl | rfl | rfl
  · rw [case3_6]; exact h
  · rw [case3_7]; exact h
  · rw [case3_8]; exact h
  · rw [case3_9]; exact h
  · rw [case3_10]; exact h
  · rw [case3_11]; exact h
  · rw [case3_12]; exact h
end K23

namespace K23
open PySem PySem.Spec PyProof.Rows L2 Pk
theorem case4_6 (g s n : Int) (R : D → Prop) (E : QX) : w__law_right_c (endS R E) (slR 4 6) [.lst [.int g, .int s, .int n]] = R (.bl true) := by kernel_rfl
theorem case4_7 (g s n : Int) (R : D → Prop) (E : QX) : w__law_right_c (endS R E) (slR 4 7) [.lst [.int g, .int s, .int n]] = R (.bl true) := by kernel_rfl
theorem case4_8 (g s n : Int) (R : D → Prop) (E : QX) : w__law_right_c (endS R E) (slR 4 8) [.lst [.int g, .int s, .int n]] = R (.bl true) := by kernel_rfl
theorem case4_9 (g s n : Int) (R : D → Prop) (E : QX) : w__law_right_c (endS R E) (slR 4 9) [.lst [.int g, .int s, .int n]] = R (.bl true) := by kernel_rfl
theorem case4_10 (g s n : Int) (R : D → Prop) (E : QX) : w__law_right_c (endS R E) (slR 4 10) [.lst [.int g, .int s, .int n]] = R (.bl true) := by kernel_rfl
theorem case4_11 (g s n : Int) (R : D → Prop) (E : QX) : w__law_right_c (endS R E) (slR 4 11) [.lst [.int g, .int s, .int n]] = R (.bl true) := by kernel_rfl
theorem case4_12 (g s n : Int) (R : D → Prop) (E : QX) : w__law_right_c (endS R E) (slR 4 12) [.lst [.int g, .int s, .int n]] = R (.bl true) := by kernel_rfl
theorem often4 {v g s n : Int} {R : D → Prop} {E : QX} (h0 : 6 ≤ v) (h1 : v < 13) (h : R (.bl true)) : w__law_right_c (endS R E) (slR 4 v) [.lst [.int g, .int s, .int n]] := by
  have hv : v = 6 ∨ v = 7 ∨ v = 8 ∨ v = 9 ∨ v = 10 ∨ v = 11 ∨ v = 12 := by omega
  rcases hv with rfl | rfl | rfl | rfl | rfl | rfl | rfl
  · rw [case4_6]; exact h
  · rw [case4_7]; exact h
  · rw [case4_8]; exact h
  · rw [case4_9]; exact h
  · rw [case4_10]; exact h
  · rw [case4_11]; exact h
  · rw [case4_12]; exact h
end K23

namespace K23
open PySem PySem.Spec PyProof.Rows L2 Pk
theorem case5_6 (g s n : Int) (R : D → Prop) (E : QX) : w__law_right_c (endS R E) (slR 5 6) [.lst [.int g, .int s, .int n]] = R (.bl true) := by kernel_rfl
theorem case5_7 (g s n : Int) (R : D → Prop) (E : QX) : w__law_right_c (endS R E) (slR 5 7) [.lst [.int g, .int s, .int n]] = R (.bl true) := by kernel_rfl
theorem case5_8 (g s n : Int) (R : D → Prop) (E : QX) : w__law_right_c (endS R E) (slR 5 8) [.lst [.int g, .int s, .int n]] = R (.bl true) := by kernel_rfl
theorem case5_9 (g s n : Int) (R : D → Prop) (E : QX) : w__law_right_c (endS R E) (slR 5 9) [.lst [.int g, .int s, .int n]] = R (.bl true) := by kernel_rfl
theorem case5_10 (g s n : Int) (R : D → Prop) (E : QX) : w__law_right_c (endS R E) (slR 5 10) [.lst [.int g, .int s, .int n]] = R (.bl true) := by kernel_rfl
theorem case5_11 (g s n : Int) (R : D → Prop) (E : QX) : w__law_right_c (endS R E) (slR 5 11) [.lst [.int g, .int s, .int n]] = R (.bl true) := by kernel_rfl
theorem case5_12 (g s n : Int) (R : D → Prop) (E : QX) : w__law_right_c (endS R E) (slR 5 12) [.lst [.int g, .int s, .int n]] = R (.bl true) := by kernel_rfl
theorem often5 {v g s n : Int} {R : D → Prop} {E : QX} (h0 : 6 ≤ v) (h1 : v < 13) (h : R (.bl true)) : w__law_right_c (endS R E) (slR 5 v) [.lst [.int g, .int s, .int n]] := by
  have hv : v = 6 ∨ v = 7 ∨ v = 8 ∨ v = 9 ∨ v = 10 ∨ v = 11 ∨ v = 12 := by omega
  rcases hv with rfl | rfl | rfl | rfl | rfl | rfl | rfl
  · rw [case5_6]; exact h
  · rw [case5_7]; exact h
  · rw [case5_8]; exact h
  · rw [case5_9]; exact h
  · rw [case5_10]; exact h
  · rw [case5_11]; exact h
  · rw [case5_12]; exact h
end K23

namespace K23
open PySem PySem.Spec PyProof.Rows L2 Pk
section
variable {a b c d : D} {xs : List D} {i j : Int} {μ : Sto}
theorem lk : look [.lst xs] (.mref 0) = .lst xs := rfl
theorem lki : look μ (.int i) = .int i := rfl
theorem at0 : atG [a, b, c] (0 : Int) = some a := rfl
theorem at1 : atG [a, b, c] (1 : Int) = some b := rfl
theorem at2 : atG [a, b, c] (2 : Int) = some c := rfl
theorem sd0 : setD (.lst [a, b, c]) (.int 0) d = some (.lst [d, b, c]) := rfl
theorem sd1 : setD (.lst [a, b, c]) (.int 1) d = some (.lst [a, d, c]) := rfl
theorem sd2 : setD (.lst [a, b, c]) (.int 2) d = some (.lst [a, b, d]) := rfl
theorem ixl : ixD (.lst xs) (.int i) = atG xs i := rfl
theorem adi : addD (.int i) (.int j) = some (.int (i + j)) := rfl
theorem md1 : modD (.int i) (.int 21503) = some (.int (i % 21503)) := rfl
theorem md2 : modD (.int i) (.int 2147483123) = some (.int (i % 2147483123)) := rfl
theorem ini : Pk.intD (.int i) = some (.int i) := rfl
theorem fd1 : fdivD (.int i) (.int 256) = some (.int (i / 256)) := rfl
theorem gti : gtD (.int i) (.int j) = some (.bl (decide (i > j))) := rfl
theorem mul_ok (h : (smallI i || smallI j) = true) : mulD (.int i) (.int j) = some (.int (i * j)) := by simp only [mulD, h]
theorem dm_ok (h0 : 0 < j) (h1 : j < 1073741824) : divmodD (.int i) (.int j) = some (.tup [.int (i / j), .int (i % j)]) := by simp only [divmodD, decide_eq_true h0, decide_eq_true h1]
theorem mod_ok (h0 : 0 < j) : modD (.int i) (.int j) = some (.int (i % j)) := by simp only [modD, decide_eq_true h0]
end
theorem dab {g s n size : Int} {Q : QD} {E : QX} (h0 : 0 < size) (h1 : size < 1073741824)
    (h : ∀ g' s' n' f : Int, 0 ≤ f → f < size → Q (.int f) [.lst [.int g', .int s', .int n']]) : c__law_dab [.mref 0, .int size] [.lst [.int g, .int s, .int n]] Q E := by
  have hb : smallI (s % 21503 + 33029) = true := smallI_of (by omega) (by omega)
  have hm : mulD (.int s) (.int (s % 21503 + 33029)) = some (.int (s * (s % 21503 + 33029))) := mul_ok (by rw [hb, Bool.or_true])
  have hm2 : ∀ x : Int, mulD (.int 50023) (.int x) = some (.int (50023 * x)) := fun x => mul_ok (by rw [show smallI 50023 = true from rfl, Bool.true_or])
  show w__law_dab ⟨fun _ μ' => Q .non μ', Q, fun _ _ => False, fun _ _ => False, fun x _ μ' => E x μ'⟩ [some (.mref 0), some (.int size), none, none, none] [.lst [.int g, .int s, .int n]]
  simp only [w__law_dab, sSeq, sAsg2, sAsg, sIf, sRet, sNil, g2S, g2N, g2T, g2Cons, g2Nil, gN, w2, wVar, wC, wBu, b1, b2', aCons, aNil, tBl, lk, lki, at0, at1, at2, sd0, sd1, sd2, ixl, adi, md1, md2, ini, fd1, gti, hm, hm2, dm_ok h0 h1, mod_ok h0,
    List.getElem?_cons_zero, List.getElem?_cons_succ, List.set_cons_zero, List.set_cons_succ]
  have e1 := Int.emod_nonneg g (by omega : size ≠ 0)
  have e2 := Int.emod_lt_of_pos g h0
  cases decide (g > 0) with
  | true => exact h _ _ _ _ e1 e2
  | false => exact h _ _ _ _ (Int.emod_nonneg _ (by omega)) (Int.emod_lt_of_pos _ h0)

/-! ### _law_rinse -/
section
variable {xs : List Int} {i j : Int} {t : Nat} {μ : Sto} {ρ : Slots}
theorem lks : look μ (.scr xs) = .scr xs := rfl
theorem lti : ltD (.int i) (.int j) = some (.bl (decide (i < j))) := rfl
theorem gei : geD (.int i) (.int j) = some (.bl (decide (i ≥ j))) := rfl
theorem pw : powD (.int 10) (.int 18) = some (.int 1000000000000000000) := rfl
theorem md3 : modD (.int i) (.int 1000000033) = some (.int (i % 1000000033)) := rfl
theorem m52 : mulD (.int 52) (.int i) = some (.int (52 * i)) := mul_ok (by rw [show smallI 52 = true from rfl, Bool.true_or])
theorem m16 : mulD (.int i) (.int 16843) = some (.int (i * 16843)) := mul_ok (by rw [show smallI 16843 = true from rfl, Bool.or_true])
theorem abi : absD (.int i) = some (.int (match decide (i < 0) with | true => -i | false => i)) := rfl
theorem lns : lenD (.scr xs) = some (.int xs.length) := rfl
theorem ixs : ixD (.scr xs) (.int i) = match atG xs i with | some k => some (.int k) | none => none := rfl
theorem atn : atG xs ((t : Nat) : Int) = nthG xs t := rfl
theorem sls {lo hi : Option Int} : slD (.scr xs) lo hi = some (.lst ((cutG xs lo hi).map .int)) := rfl
theorem sql {ds : List D} : seqD (.lst ds) = some ds := rfl
theorem dpl {ds : List D} : deepD 1 μ (.lst ds) = (.lst ds, μ) := rfl
end
abbrev bodyR : WS := sAsg (w2 modD (wBu (b1 Pk.intD) (aCons (w2 addD (w2 addD (w2 mulD (wVar 2) (wC (.int 16843))) (w2 modD (wBu (b1 Pk.intD) (aCons (wVar 3) aNil)) (wC (.int 1000000033)))) (wC (.int 15))) aNil)) (wC (.int 2147483123))) (gN 2)
theorem rloop {ns : List Int} {t : Int} {De : DEnds} {μ : Sto} (h : ∀ s' e', De.nx [some (.scr ns), some (.int t), some (.int s'), e', none] μ) : ∀ (ds : List Int) (s : Int) (e : Option D), forW (gN 3) bodyR (ds.map .int) De [some (.scr ns), some (.int t), some (.int s), e, none] μ
  | [], s, e => h s e
  | d :: ds, s, e => by
    have ih := rloop h ds
    simp only [List.map_cons, forW, bodyR, sAsg, gN, w2, wVar, wC, wBu, b1, aCons, aNil, lki, md3, md2, m16, adi, ini, List.getElem?_cons_zero, List.getElem?_cons_succ, List.set_cons_zero, List.set_cons_succ]
    exact ih _ _
theorem rinse {ns : List Int} {t : Nat} {Q : QD} {E : QX} (h : ∀ g s : Int, Q (.mref 0) [.lst [.int g, .int s, .int 0]]) : c__law_rinse [.scr ns, .int t] [] Q E := by
  show w__law_rinse ⟨fun _ μ' => Q .non μ', Q, fun _ _ => False, fun _ _ => False, fun x _ μ' => E x μ'⟩ [some (.scr ns), some (.int t), none, none, none] []
  simp only [w__law_rinse, sSeq, sAsg, sFor, iSeq, wFz, wSl, oNo, oYes, w2, wVar, wC, lki, lks, m52, adi, gN, sls, sql, dpl, List.getElem?_cons_zero, List.getElem?_cons_succ, List.set_cons_zero, List.set_cons_succ]
  refine rloop (fun s' e' => ?_) _ _ _
  have fin : ∀ g : Int, sRet (wLstO (aCons (wVar 4) (aCons (wVar 2) (aCons (wC (.int 0)) aNil)))) ⟨fun _ μ' => Q .non μ', Q, fun _ _ => False, fun _ _ => False, fun x _ μ' => E x μ'⟩ [some (.scr ns), some (.int t), some (.int s'), e', some (.int g)] [] := fun g => h g s'
  simp only [sSeq, sAsg, gN, wIf, tAn, tBl, w2, wBu, b1, aCons, aNil, wVar, wC, lki, lks, lns, lti, ixs, atn, abi, gei, pw, List.getElem?_cons_zero, List.getElem?_cons_succ, List.set_cons_zero, List.set_cons_succ]
  by_cases hl : (t : Int) < (ns.length : Int)
  · obtain ⟨x, hx⟩ : ∃ x, nthG ns t = some x := ⟨ns[t]'(by omega), by rw [nthG_eq]; exact List.getElem?_eq_getElem (by omega)⟩
    simp only [decide_eq_true hl, hx, lki, abi, gei]
    cases decide ((match decide (x < 0) with | true => -x | false => x) ≥ 1000000000000000000) with
    | true => exact fin _
    | false => exact fin _
  · simp only [decide_eq_false hl]
    exact fin 0

/-! ### _law_right, law -/
theorem rest {t v g s n : Int} {R : D → Prop} {E : QX} (t0 : 1 ≤ t) (t1 : t ≤ 5) (v0 : 6 ≤ v) (v1 : v < 13) (h : R (.bl true)) : w__law_right_c (endS R E) (slR t v) [.lst [.int g, .int s, .int n]] := by
  have ht : t = 1 ∨ t = 2 ∨ t = 3 ∨ t = 4 ∨ t = 5 := by omega
  rcases ht with rfl | rfl | rfl | rfl | rfl
  · exact often1 v0 v1 h
  · exact often2 v0 v1 h
  · exact often3 v0 v1 h
  · exact often4 v0 v1 h
  · exact often5 v0 v1 h
theorem twoG (W : WS) {g s : Int} {R : D → Prop} {E : QX} (cD : Con) (hD : ∀ {g s n size : Int} {Q : QD} {E : QX}, 0 < size → size < 1073741824 → (∀ g' s' n' f : Int, 0 ≤ f → f < size → Q (.int f) [.lst [.int g', .int s', .int n']]) → cD [.mref 0, .int size] [.lst [.int g, .int s, .int n]] Q E)
    (hR : ∀ {t v g s n : Int}, 1 ≤ t → t ≤ 5 → 6 ≤ v → v < 13 → W (endS R E) (slR t v) [.lst [.int g, .int s, .int n]]) :
    sSeq (sPar2 1 2 (aCons (w2 addD (wC (.int 1)) (wCallN cD 2 [] (aCons (wVar 0) (aCons (wC (.int 5)) aNil)))) (aCons (w2 addD (wC (.int 6)) (wCallN cD 2 [] (aCons (wVar 0) (aCons (wC (.int 7)) aNil)))) aNil))) W (endS R E) [some (.mref 0), none, none, none, none, none, none, none, none, none] [.lst [.int g, .int s, .int 0]] := by
  show cD [.mref 0, .int 5] [.lst [.int g, .int s, .int 0]] _ _
  refine hD (by decide) (by decide) fun g1 s1 n1 f f0 f1 => ?_
  show cD [.mref 0, .int 7] [.lst [.int g1, .int s1, .int n1]] _ _
  refine hD (by decide) (by decide) fun g2 s2 n2 f2 f3 f4 => ?_
  exact hR (by omega) (by omega) (by omega) (by omega)
theorem right {g s : Int} {R : D → Prop} {E : QX} (h : R (.bl true)) : c__law_right [.mref 0] [.lst [.int g, .int s, .int 0]] (fun d _ => R d) E := by
  have e : c__law_right [.mref 0] [.lst [.int g, .int s, .int 0]] (fun d _ => R d) E = sSeq (sPar2 1 2 (aCons (w2 addD (wC (.int 1)) (wCallN c__law_dab 2 [] (aCons (wVar 0) (aCons (wC (.int 5)) aNil)))) (aCons (w2 addD (wC (.int 6)) (wCallN c__law_dab 2 [] (aCons (wVar 0) (aCons (wC (.int 7)) aNil)))) aNil))) w__law_right_c (endS R E) [some (.mref 0), none, none, none, none, none, none, none, none, none] [.lst [.int g, .int s, .int 0]] := by kernel_rfl
  rw [e]
  exact twoG w__law_right_c c__law_dab dab fun t0 t1 v0 v1 => rest t0 t1 v0 v1 h
abbrev endQ (Q : QD) (E : QX) : DEnds := ⟨fun _ μ' => Q .non μ', Q, fun _ _ => False, fun _ _ => False, fun x _ μ' => E x μ'⟩
theorem turnG (cR cS : Con) {ns : List Int} {t : Nat} {Q : Bool → Sto → Prop} {E : QX} (hS : ∀ {Q' : QD} {E' : QX}, (∀ g s : Int, Q' (.mref 0) [.lst [.int g, .int s, .int 0]]) → cS [.scr ns, .int t] [] Q' E')
    (hR : ∀ {g s : Int} {R' : D → Prop} {E' : QX}, R' (.bl true) → cR [.mref 0] [.lst [.int g, .int s, .int 0]] (fun d _ => R' d) E') (h : Q false []) : tNo (tTru (wLoc (wCallN cR 1 [] (aCons (wCallN cS 2 [] (aCons (wVar 0) (aCons (wVar 1) aNil))) aNil)))) [some (.scr ns), some (.int t)] [] Q E := by
  show cS [.scr ns, .int t] [] _ _
  refine hS fun g s => ?_
  show cR [.mref 0] [.lst [.int g, .int s, .int 0]] _ _
  exact hR (R' := fun d => match noM d with
    | true => (match truD (look [] d) with
      | some b => Q (!b) []
      | none => False)
    | false => False) h
theorem lloopG (cR cS : Con) {ns : List Int} (hS : ∀ {t : Nat} {Q' : QD} {E' : QX}, (∀ g s : Int, Q' (.mref 0) [.lst [.int g, .int s, .int 0]]) → cS [.scr ns, .int t] [] Q' E')
    (hR : ∀ {g s : Int} {R' : D → Prop} {E' : QX}, R' (.bl true) → cR [.mref 0] [.lst [.int g, .int s, .int 0]] (fun d _ => R' d) E') {De : DEnds} (h : ∀ e, De.nx [some (.scr ns), e] []) : ∀ (k a : Nat) (e : Option D),
    forW (gN 1) (sIf (tNo (tTru (wLoc (wCallN cR 1 [] (aCons (wCallN cS 2 [] (aCons (wVar 0) (aCons (wVar 1) aNil))) aNil))))) (sRet (wC (.bl false))) sNil) (rngD (a : Int) k) De [some (.scr ns), e] []
  | 0, a, e => h e
  | k + 1, a, e => by
    have ih := lloopG cR cS hS hR h k (a + 1) (some (.int a))
    have e1 : (((a + 1 : Nat)) : Int) = (a : Int) + 1 := by omega
    rw [e1] at ih
    simp only [rngD, forW, gN, List.set_cons_zero, List.set_cons_succ, sIf]
    refine turnG cR cS hS hR ?_
    exact ih
def minJ (n : Nat) : Int := match decide ((5 : Int) < (n : Int)) with
  | true => 5
  | false => (n : Int)
def cntJ (n : Nat) : Int := match decide (minJ n > 2) with
  | true => minJ n
  | false => 2
theorem cntJ_ok (n : Nat) : rgOk (cntJ n) = true := by
  have h1 : 0 ≤ minJ n ∧ minJ n ≤ 5 := by
    unfold minJ
    by_cases h : (5 : Int) < (n : Int)
    · simp only [decide_eq_true h]
      omega
    · simp only [decide_eq_false h]
      omega
  have : 0 ≤ cntJ n ∧ cntJ n ≤ 5 := by
    unfold cntJ
    by_cases h : minJ n > 2
    · simp only [decide_eq_true h]
      exact h1
    · simp only [decide_eq_false h]
      omega
  exact rgOk_of (by omega) (by omega)
def lq : QD := fun d _ => match noM d with
  | true => d = .bl true
  | false => False
def le : QX := fun x _ => match noMs x.fs with
  | true => nox x []
  | false => False
theorem law_data (ns : List Int) (_ : ns.length ≤ 63) : c_law [.scr ns] [] (fun d _ => d = .bl true) nox := by
  have key : ∀ j : Int, rgOk j = true → (match rgOk j with
    | true => forW (gN 1) (sIf (tNo (tTru (wLoc (wCallN c__law_right 1 [] (aCons (wCallN c__law_rinse 2 [] (aCons (wVar 0) (aCons (wVar 1) aNil))) aNil))))) (sRet (wC (.bl false))) sNil) (rngD 0 j.toNat) { endQ lq le with nx := sRet (wC (.bl true)) (endQ lq le) } [some (.scr ns), none] []
    | false => False) := fun j hj => by
    rw [hj]
    exact lloopG c__law_right c__law_rinse rinse right (fun e => rfl) j.toNat 0 none
  have e : c_law [.scr ns] [] (fun d _ => d = .bl true) nox = (match rgOk (cntJ ns.length) with
    | true => forW (gN 1) (sIf (tNo (tTru (wLoc (wCallN c__law_right 1 [] (aCons (wCallN c__law_rinse 2 [] (aCons (wVar 0) (aCons (wVar 1) aNil))) aNil))))) (sRet (wC (.bl false))) sNil) (rngD 0 (cntJ ns.length).toNat) { endQ lq le with nx := sRet (wC (.bl true)) (endQ lq le) } [some (.scr ns), none] []
    | false => False) := by kernel_rfl
  rw [e]
  exact key _ (cntJ_ok _)
end K23

namespace K23
open PySem PySem.Spec PyProof.Rows L2 Pk
theorem facts {K : PySem.W.Frag} {h : Heap} {mg : Str → Option Value} {P : Program} (hPf : P.main.file = f0) (hPs : (P.main.scope.names.lookup ("super" : Str)).isSome = false) (ce : ∀ x ∈ errs, fnAt0 K (x.at K) = x.val) (X : K.In h) (Gm : h.Ns mainGlobals mg) (c0 : SaysP fs0 fn0 K) : Facts P K mg := by
  have gl_law : mg "law" = some (.ref (He.ga K "law")) := He.glo_ok X Gm (c0.fact 0 (f := fa (.glo "law")) rfl)
  have fr_len : mg "len" = none := He.free_ok X Gm (c0.fact 1 (f := fa (.free "len")) rfl)
  have fr_min : mg "min" = none := He.free_ok X Gm (c0.fact 2 (f := fa (.free "min")) rfl)
  have fr_max : mg "max" = none := He.free_ok X Gm (c0.fact 3 (f := fa (.free "max")) rfl)
  have fr_range : mg "range" = none := He.free_ok X Gm (c0.fact 4 (f := fa (.free "range")) rfl)
  have gl__law_rinse : mg "_law_rinse" = some (.ref (He.ga K "_law_rinse")) := He.glo_ok X Gm (c0.fact 5 (f := fa (.glo "_law_rinse")) rfl)
  have gl__law_right : mg "_law_right" = some (.ref (He.ga K "_law_right")) := He.glo_ok X Gm (c0.fact 6 (f := fa (.glo "_law_right")) rfl)
  have gl__law_dab : mg "_law_dab" = some (.ref (He.ga K "_law_dab")) := He.glo_ok X Gm (c0.fact 7 (f := fa (.glo "_law_dab")) rfl)
  have mk_Book : Mk K (He.ga K "Book") (pM "Book" "__init__" K) := He.mkr_ok (c0.fact 8 (f := fa (.mkr "Book")) rfl)
  have gl_Book : mg "Book" = some (.ref (He.ga K "Book")) := He.glo_ok X Gm (c0.fact 9 (f := fa (.glo "Book")) rfl)
  have gl_says_all : mg "says_all" = some (.ref (He.ga K "says_all")) := He.glo_ok X Gm (c0.fact 10 (f := fa (.glo "says_all")) rfl)
  have gl_parting : mg "parting" = some (.ref (He.ga K "parting")) := He.glo_ok X Gm (c0.fact 11 (f := fa (.glo "parting")) rfl)
  have gl_joined : mg "joined" = some (.ref (He.ga K "joined")) := He.glo_ok X Gm (c0.fact 12 (f := fa (.glo "joined")) rfl)
  have gl_alike : mg "alike" = some (.ref (He.ga K "alike")) := He.glo_ok X Gm (c0.fact 13 (f := fa (.glo "alike")) rfl)
  have fr_tuple : mg "tuple" = none := He.free_ok X Gm (c0.fact 14 (f := fa (.free "tuple")) rfl)
  have fr_isinstance : mg "isinstance" = none := He.free_ok X Gm (c0.fact 15 (f := fa (.free "isinstance")) rfl)
  have me_Book___eq__ : Meth K (He.ga K "Book") "__eq__" (pM "Book" "__eq__" K) := He.meth_ok (c0.fact 16 (f := fa (.meth "Book" "__eq__")) rfl)
  have ne_Book : NeF K (He.ga K "Book") := fNe_ok (c0.fact 17 (f := fNe "Book") rfl)
  have gl__law_told : mg "_law_told" = some (.ref (He.ga K "_law_told")) := He.glo_ok X Gm (c0.fact 18 (f := fa (.glo "_law_told")) rfl)
  have gl__law_sock_right : mg "_law_sock_right" = some (.ref (He.ga K "_law_sock_right")) := He.glo_ok X Gm (c0.fact 19 (f := fa (.glo "_law_sock_right")) rfl)
  have fr_int : mg "int" = none := He.free_ok X Gm (c0.fact 20 (f := fa (.free "int")) rfl)
  have fr_divmod : mg "divmod" = none := He.free_ok X Gm (c0.fact 21 (f := fa (.free "divmod")) rfl)
  have gl_check_garments : mg "check_garments" = some (.ref (He.ga K "check_garments")) := He.glo_ok X Gm (c0.fact 22 (f := fa (.glo "check_garments")) rfl)
  have gl_check_lines : mg "check_lines" = some (.ref (He.ga K "check_lines")) := He.glo_ok X Gm (c0.fact 23 (f := fa (.glo "check_lines")) rfl)
  have cl_Book : Cls K (He.ga K "Book") := He.cls_ok (c0.fact 24 (f := fa (.cls "Book")) rfl)
  have na_Book_clothes : NoAttr K (He.ga K "Book") "clothes" := He.noat_ok (c0.fact 25 (f := fa (.noat "Book" "clothes")) rfl)
  have na_Book_told : NoAttr K (He.ga K "Book") "told" := He.noat_ok (c0.fact 26 (f := fa (.noat "Book" "told")) rfl)
  have na_Book_parsed : NoAttr K (He.ga K "Book") "parsed" := He.noat_ok (c0.fact 27 (f := fa (.noat "Book" "parsed")) rfl)
  have gl_entry_in : mg "entry_in" = some (.ref (He.ga K "entry_in")) := He.glo_ok X Gm (c0.fact 28 (f := fa (.glo "entry_in")) rfl)
  have na_Book_walk : NoAttr K (He.ga K "Book") "walk" := He.noat_ok (c0.fact 29 (f := fa (.noat "Book" "walk")) rfl)
  have mk_Walk : Mk K (He.ga K "Walk") (pM "Walk" "__init__" K) := He.mkr_ok (c0.fact 30 (f := fa (.mkr "Walk")) rfl)
  have gl_Walk : mg "Walk" = some (.ref (He.ga K "Walk")) := He.glo_ok X Gm (c0.fact 31 (f := fa (.glo "Walk")) rfl)
  have fr_enumerate : mg "enumerate" = none := He.free_ok X Gm (c0.fact 32 (f := fa (.free "enumerate")) rfl)
  have gi_MOST_GARMENTS : ∃ t, mg "MOST_GARMENTS" = some (.int (8) t) := He.int_ok X Gm (c0.fact 33 (f := fa (.int "MOST_GARMENTS" (8))) rfl)
  have gl_is_garment : mg "is_garment" = some (.ref (He.ga K "is_garment")) := He.glo_ok X Gm (c0.fact 34 (f := fa (.glo "is_garment")) rfl)
  have gl_is_name : mg "is_name" = some (.ref (He.ga K "is_name")) := He.glo_ok X Gm (c0.fact 35 (f := fa (.glo "is_name")) rfl)
  have gi_MOST_WASHES : ∃ t, mg "MOST_WASHES" = some (.int (12) t) := He.int_ok X Gm (c0.fact 36 (f := fa (.int "MOST_WASHES" (12))) rfl)
  have gl_is_between : mg "is_between" = some (.ref (He.ga K "is_between")) := He.glo_ok X Gm (c0.fact 37 (f := fa (.glo "is_between")) rfl)
  have fr_str : mg "str" = none := He.free_ok X Gm (c0.fact 38 (f := fa (.free "str")) rfl)
  have gs_LETTERS : ∃ t, mg "LETTERS" = some (.str "abcdefghijklmnopqrstuvwxyz" t) := He.str_ok X Gm (c0.fact 39 (f := fa (.str "LETTERS" "abcdefghijklmnopqrstuvwxyz")) rfl)
  have fr_all : mg "all" = none := He.free_ok X Gm (c0.fact 40 (f := fa (.free "all")) rfl)
  have gl_is_integer : mg "is_integer" = some (.ref (He.ga K "is_integer")) := He.glo_ok X Gm (c0.fact 41 (f := fa (.glo "is_integer")) rfl)
  have fr_bool : mg "bool" = none := He.free_ok X Gm (c0.fact 42 (f := fa (.free "bool")) rfl)
  have gi_MOST_LINES : ∃ t, mg "MOST_LINES" = some (.int (30) t) := He.int_ok X Gm (c0.fact 43 (f := fa (.int "MOST_LINES" (30))) rfl)
  have gs_WASH : ∃ t, mg "WASH" = some (.str "wash" t) := He.str_ok X Gm (c0.fact 44 (f := fa (.str "WASH" "wash")) rfl)
  have gl_wash_in : mg "wash_in" = some (.ref (He.ga K "wash_in")) := He.glo_ok X Gm (c0.fact 45 (f := fa (.glo "wash_in")) rfl)
  have gs_RENEW : ∃ t, mg "RENEW" = some (.str "renew" t) := He.str_ok X Gm (c0.fact 46 (f := fa (.str "RENEW" "renew")) rfl)
  have gl_names_in : mg "names_in" = some (.ref (He.ga K "names_in")) := He.glo_ok X Gm (c0.fact 47 (f := fa (.glo "names_in")) rfl)
  have gs_SKIPPED : ∃ t, mg "SKIPPED" = some (.str "?" t) := He.str_ok X Gm (c0.fact 48 (f := fa (.str "SKIPPED" "?")) rfl)
  have gl_parted_at : mg "parted_at" = some (.ref (He.ga K "parted_at")) := He.glo_ok X Gm (c0.fact 49 (f := fa (.glo "parted_at")) rfl)
  have gs_SEEN : ∃ t, mg "SEEN" = some (.str "+" t) := He.str_ok X Gm (c0.fact 50 (f := fa (.str "SEEN" "+")) rfl)
  have gl_dyes_in : mg "dyes_in" = some (.ref (He.ga K "dyes_in")) := He.glo_ok X Gm (c0.fact 51 (f := fa (.glo "dyes_in")) rfl)
  have gl_are_different : mg "are_different" = some (.ref (He.ga K "are_different")) := He.glo_ok X Gm (c0.fact 52 (f := fa (.glo "are_different")) rfl)
  have fr_dict : mg "dict" = none := He.free_ok X Gm (c0.fact 53 (f := fa (.free "dict")) rfl)
  have fr_list : mg "list" = none := He.free_ok X Gm (c0.fact 54 (f := fa (.free "list")) rfl)
  have cl_Walk : Cls K (He.ga K "Walk") := He.cls_ok (c0.fact 55 (f := fa (.cls "Walk")) rfl)
  have na_Walk_owners : NoAttr K (He.ga K "Walk") "owners" := He.noat_ok (c0.fact 56 (f := fa (.noat "Walk" "owners")) rfl)
  have na_Walk_life_rows : NoAttr K (He.ga K "Walk") "life_rows" := He.noat_ok (c0.fact 57 (f := fa (.noat "Walk" "life_rows")) rfl)
  have na_Walk_tally_row : NoAttr K (He.ga K "Walk") "tally_row" := He.noat_ok (c0.fact 58 (f := fa (.noat "Walk" "tally_row")) rfl)
  have na_Walk_load_rows : NoAttr K (He.ga K "Walk") "load_rows" := He.noat_ok (c0.fact 59 (f := fa (.noat "Walk" "load_rows")) rfl)
  have na_Walk_look_rows : NoAttr K (He.ga K "Walk") "look_rows" := He.noat_ok (c0.fact 60 (f := fa (.noat "Walk" "look_rows")) rfl)
  have na_Walk_span_rows : NoAttr K (He.ga K "Walk") "span_rows" := He.noat_ok (c0.fact 61 (f := fa (.noat "Walk" "span_rows")) rfl)
  have me_Walk_go : Meth K (He.ga K "Walk") "go" (pM "Walk" "go" K) := He.meth_ok (c0.fact 62 (f := fa (.meth "Walk" "go")) rfl)
  have me_Walk_wash : Meth K (He.ga K "Walk") "wash" (pM "Walk" "wash" K) := He.meth_ok (c0.fact 63 (f := fa (.meth "Walk" "wash")) rfl)
  have fr_sorted : mg "sorted" = none := He.free_ok X Gm (c0.fact 64 (f := fa (.free "sorted")) rfl)
  have gl_check_kin : mg "check_kin" = some (.ref (He.ga K "check_kin")) := He.glo_ok X Gm (c0.fact 65 (f := fa (.glo "check_kin")) rfl)
  have gl_reading_between : mg "reading_between" = some (.ref (He.ga K "reading_between")) := He.glo_ok X Gm (c0.fact 66 (f := fa (.glo "reading_between")) rfl)
  have gl_check_book : mg "check_book" = some (.ref (He.ga K "check_book")) := He.glo_ok X Gm (c0.fact 67 (f := fa (.glo "check_book")) rfl)
  have pr_Book_garments : PropOf K (He.ga K "Book") "garments" (pM "Book" "garments" K) (pP "Book" "garments" K) := fProp_ok (c0.fact 68 (f := fProp "Book" "garments") rfl)
  have gl_washes_of : mg "washes_of" = some (.ref (He.ga K "washes_of")) := He.glo_ok X Gm (c0.fact 69 (f := fa (.glo "washes_of")) rfl)
  have is_Book : fIsi "Book" K = true := id (c0.fact 70 (f := fIsi "Book") rfl)
  have pr_Book_entries : PropOf K (He.ga K "Book") "entries" (pM "Book" "entries" K) (pP "Book" "entries" K) := fProp_ok (c0.fact 71 (f := fProp "Book" "entries") rfl)
  have gl_tops_of : mg "tops_of" = some (.ref (He.ga K "tops_of")) := He.glo_ok X Gm (c0.fact 72 (f := fa (.glo "tops_of")) rfl)
  have gl_fits_tops : mg "fits_tops" = some (.ref (He.ga K "fits_tops")) := He.glo_ok X Gm (c0.fact 73 (f := fa (.glo "fits_tops")) rfl)
  have pr_Book_looks : PropOf K (He.ga K "Book") "looks" (pM "Book" "looks" K) (pP "Book" "looks" K) := fProp_ok (c0.fact 74 (f := fProp "Book" "looks") rfl)
  have pr_Book_spans : PropOf K (He.ga K "Book") "spans" (pM "Book" "spans" K) (pP "Book" "spans" K) := fProp_ok (c0.fact 75 (f := fProp "Book" "spans") rfl)
  have fr_zip : mg "zip" = none := He.free_ok X Gm (c0.fact 76 (f := fa (.free "zip")) rfl)
  have gl_without_look : mg "without_look" = some (.ref (He.ga K "without_look")) := He.glo_ok X Gm (c0.fact 77 (f := fa (.glo "without_look")) rfl)
  have pr_Book_lives : PropOf K (He.ga K "Book") "lives" (pM "Book" "lives" K) (pP "Book" "lives" K) := fProp_ok (c0.fact 78 (f := fProp "Book" "lives") rfl)
  have gl_top_of : mg "top_of" = some (.ref (He.ga K "top_of")) := He.glo_ok X Gm (c0.fact 79 (f := fa (.glo "top_of")) rfl)
  have gl_garment_of : mg "garment_of" = some (.ref (He.ga K "garment_of")) := He.glo_ok X Gm (c0.fact 80 (f := fa (.glo "garment_of")) rfl)
  have fr_any : mg "any" = none := He.free_ok X Gm (c0.fact 81 (f := fa (.free "any")) rfl)
  have pr_Book_lines : PropOf K (He.ga K "Book") "lines" (pM "Book" "lines" K) (pP "Book" "lines" K) := fProp_ok (c0.fact 82 (f := fProp "Book" "lines") rfl)
  have eb_Contradicts : errCB K (He.ga K "Contradicts") .a = true := id (c0.fact 83 (f := fErr "Contradicts" .a) rfl)
  have ei_Contradicts : errFB K f0 e_Contradicts = true := id (c0.fact 84 (f := fun K => errFB K f0 e_Contradicts) rfl)
  have fr_super : mg "super" = none := He.free_ok X Gm (c0.fact 85 (f := fa (.free "super")) rfl)
  have gl_Contradicts : mg "Contradicts" = some (.ref (He.ga K "Contradicts")) := He.glo_ok X Gm (c0.fact 86 (f := fa (.glo "Contradicts")) rfl)
  have gl_joined_line : mg "joined_line" = some (.ref (He.ga K "joined_line")) := He.glo_ok X Gm (c0.fact 87 (f := fa (.glo "joined_line")) rfl)
  have pr_Book_dyes : PropOf K (He.ga K "Book") "dyes" (pM "Book" "dyes" K) (pP "Book" "dyes" K) := fProp_ok (c0.fact 88 (f := fProp "Book" "dyes") rfl)
  have ex_NotRight_NotThere_CannotBe : fExm tab [20] (fun K => [.ref (He.ga K "NotRight"), .ref (He.ga K "NotThere"), .ref (He.ga K "CannotBe")]) [20] K = true := id (c0.fact 89 (f := fExm tab [20] (fun K => [.ref (He.ga K "NotRight"), .ref (He.ga K "NotThere"), .ref (He.ga K "CannotBe")]) [20]) rfl)
  have gl_NotRight : mg "NotRight" = some (.ref (He.ga K "NotRight")) := He.glo_ok X Gm (c0.fact 90 (f := fa (.glo "NotRight")) rfl)
  have gl_NotThere : mg "NotThere" = some (.ref (He.ga K "NotThere")) := He.glo_ok X Gm (c0.fact 91 (f := fa (.glo "NotThere")) rfl)
  have gl_CannotBe : mg "CannotBe" = some (.ref (He.ga K "CannotBe")) := He.glo_ok X Gm (c0.fact 92 (f := fa (.glo "CannotBe")) rfl)
  have gl__law_kept : mg "_law_kept" = some (.ref (He.ga K "_law_kept")) := He.glo_ok X Gm (c0.fact 93 (f := fa (.glo "_law_kept")) rfl)
  have gl__law_sort : mg "_law_sort" = some (.ref (He.ga K "_law_sort")) := He.glo_ok X Gm (c0.fact 94 (f := fa (.glo "_law_sort")) rfl)
  have erq : fErQ tab [20] K = true := id (c0.fact 95 (f := fErQ tab [20]) rfl)
  have ef_index : fErf tab (([] : List (Nat × Nat)).map (·.1)) "index" K = true := id (c0.fact 96 (f := fErf tab (([] : List (Nat × Nat)).map (·.1)) "index") rfl)
  have ef_most : fErf tab (([] : List (Nat × Nat)).map (·.1)) "most" K = true := id (c0.fact 97 (f := fErf tab (([] : List (Nat × Nat)).map (·.1)) "most") rfl)
  have ef_given : fErf tab (([(20, 0)] : List (Nat × Nat)).map (·.1)) "given" K = true := id (c0.fact 98 (f := fErf tab (([(20, 0)] : List (Nat × Nat)).map (·.1)) "given") rfl)
  have gl_InvalidLife : mg "InvalidLife" = some (.ref (He.ga K "InvalidLife")) := He.glo_ok X Gm (c0.fact 99 (f := fa (.glo "InvalidLife")) rfl)
  have ki_InvalidLife : fKit tab [20] (fun K => .ref (He.ga K "InvalidLife")) [] K = true := id (c0.fact 100 (f := fKit tab [20] (fun K => .ref (He.ga K "InvalidLife")) []) rfl)
  have gl_InvalidLine : mg "InvalidLine" = some (.ref (He.ga K "InvalidLine")) := He.glo_ok X Gm (c0.fact 101 (f := fa (.glo "InvalidLine")) rfl)
  have ki_InvalidLine : fKit tab [20] (fun K => .ref (He.ga K "InvalidLine")) [] K = true := id (c0.fact 102 (f := fKit tab [20] (fun K => .ref (He.ga K "InvalidLine")) []) rfl)
  have gl_InvalidText : mg "InvalidText" = some (.ref (He.ga K "InvalidText")) := He.glo_ok X Gm (c0.fact 103 (f := fa (.glo "InvalidText")) rfl)
  have ki_InvalidText : fKit tab [20] (fun K => .ref (He.ga K "InvalidText")) [] K = true := id (c0.fact 104 (f := fKit tab [20] (fun K => .ref (He.ga K "InvalidText")) []) rfl)
  have gl_InvalidReading : mg "InvalidReading" = some (.ref (He.ga K "InvalidReading")) := He.glo_ok X Gm (c0.fact 105 (f := fa (.glo "InvalidReading")) rfl)
  have ki_InvalidReading : fKit tab [20] (fun K => .ref (He.ga K "InvalidReading")) [] K = true := id (c0.fact 106 (f := fKit tab [20] (fun K => .ref (He.ga K "InvalidReading")) []) rfl)
  have gl_InvalidName : mg "InvalidName" = some (.ref (He.ga K "InvalidName")) := He.glo_ok X Gm (c0.fact 107 (f := fa (.glo "InvalidName")) rfl)
  have ki_InvalidName : fKit tab [20] (fun K => .ref (He.ga K "InvalidName")) [] K = true := id (c0.fact 108 (f := fKit tab [20] (fun K => .ref (He.ga K "InvalidName")) []) rfl)
  have gl_InvalidLook : mg "InvalidLook" = some (.ref (He.ga K "InvalidLook")) := He.glo_ok X Gm (c0.fact 109 (f := fa (.glo "InvalidLook")) rfl)
  have ki_InvalidLook : fKit tab [20] (fun K => .ref (He.ga K "InvalidLook")) [] K = true := id (c0.fact 110 (f := fKit tab [20] (fun K => .ref (He.ga K "InvalidLook")) []) rfl)
  have gl_InvalidNumber : mg "InvalidNumber" = some (.ref (He.ga K "InvalidNumber")) := He.glo_ok X Gm (c0.fact 111 (f := fa (.glo "InvalidNumber")) rfl)
  have ki_InvalidNumber : fKit tab [20] (fun K => .ref (He.ga K "InvalidNumber")) [] K = true := id (c0.fact 112 (f := fKit tab [20] (fun K => .ref (He.ga K "InvalidNumber")) []) rfl)
  have gl_InvalidPlace : mg "InvalidPlace" = some (.ref (He.ga K "InvalidPlace")) := He.glo_ok X Gm (c0.fact 113 (f := fa (.glo "InvalidPlace")) rfl)
  have ki_InvalidPlace : fKit tab [20] (fun K => .ref (He.ga K "InvalidPlace")) [] K = true := id (c0.fact 114 (f := fKit tab [20] (fun K => .ref (He.ga K "InvalidPlace")) []) rfl)
  have gl_InvalidClaim : mg "InvalidClaim" = some (.ref (He.ga K "InvalidClaim")) := He.glo_ok X Gm (c0.fact 115 (f := fa (.glo "InvalidClaim")) rfl)
  have ki_InvalidClaim : fKit tab [20] (fun K => .ref (He.ga K "InvalidClaim")) [] K = true := id (c0.fact 116 (f := fKit tab [20] (fun K => .ref (He.ga K "InvalidClaim")) []) rfl)
  have gl_InvalidWish : mg "InvalidWish" = some (.ref (He.ga K "InvalidWish")) := He.glo_ok X Gm (c0.fact 117 (f := fa (.glo "InvalidWish")) rfl)
  have ki_InvalidWish : fKit tab [20] (fun K => .ref (He.ga K "InvalidWish")) [] K = true := id (c0.fact 118 (f := fKit tab [20] (fun K => .ref (He.ga K "InvalidWish")) []) rfl)
  have gl_InvalidLines : mg "InvalidLines" = some (.ref (He.ga K "InvalidLines")) := He.glo_ok X Gm (c0.fact 119 (f := fa (.glo "InvalidLines")) rfl)
  have ki_InvalidLines : fKit tab [20] (fun K => .ref (He.ga K "InvalidLines")) [] K = true := id (c0.fact 120 (f := fKit tab [20] (fun K => .ref (He.ga K "InvalidLines")) []) rfl)
  have gl_InvalidGarments : mg "InvalidGarments" = some (.ref (He.ga K "InvalidGarments")) := He.glo_ok X Gm (c0.fact 121 (f := fa (.glo "InvalidGarments")) rfl)
  have ki_InvalidGarments : fKit tab [20] (fun K => .ref (He.ga K "InvalidGarments")) [] K = true := id (c0.fact 122 (f := fKit tab [20] (fun K => .ref (He.ga K "InvalidGarments")) []) rfl)
  have gl_NotABook : mg "NotABook" = some (.ref (He.ga K "NotABook")) := He.glo_ok X Gm (c0.fact 123 (f := fa (.glo "NotABook")) rfl)
  have ki_NotABook : fKit tab [20] (fun K => .ref (He.ga K "NotABook")) [] K = true := id (c0.fact 124 (f := fKit tab [20] (fun K => .ref (He.ga K "NotABook")) []) rfl)
  have gl_InvalidWishes : mg "InvalidWishes" = some (.ref (He.ga K "InvalidWishes")) := He.glo_ok X Gm (c0.fact 125 (f := fa (.glo "InvalidWishes")) rfl)
  have ki_InvalidWishes : fKit tab [20] (fun K => .ref (He.ga K "InvalidWishes")) [] K = true := id (c0.fact 126 (f := fKit tab [20] (fun K => .ref (He.ga K "InvalidWishes")) []) rfl)
  have gl_InvalidLoads : mg "InvalidLoads" = some (.ref (He.ga K "InvalidLoads")) := He.glo_ok X Gm (c0.fact 127 (f := fa (.glo "InvalidLoads")) rfl)
  have ki_InvalidLoads : fKit tab [20] (fun K => .ref (He.ga K "InvalidLoads")) [] K = true := id (c0.fact 128 (f := fKit tab [20] (fun K => .ref (He.ga K "InvalidLoads")) []) rfl)
  have gl_InvalidLoad : mg "InvalidLoad" = some (.ref (He.ga K "InvalidLoad")) := He.glo_ok X Gm (c0.fact 129 (f := fa (.glo "InvalidLoad")) rfl)
  have ki_InvalidLoad : fKit tab [20] (fun K => .ref (He.ga K "InvalidLoad")) [] K = true := id (c0.fact 130 (f := fKit tab [20] (fun K => .ref (He.ga K "InvalidLoad")) []) rfl)
  have gl_InUse : mg "InUse" = some (.ref (He.ga K "InUse")) := He.glo_ok X Gm (c0.fact 131 (f := fa (.glo "InUse")) rfl)
  have ki_InUse : fKit tab [20] (fun K => .ref (He.ga K "InUse")) [] K = true := id (c0.fact 132 (f := fKit tab [20] (fun K => .ref (He.ga K "InUse")) []) rfl)
  have gl_UnknownName : mg "UnknownName" = some (.ref (He.ga K "UnknownName")) := He.glo_ok X Gm (c0.fact 133 (f := fa (.glo "UnknownName")) rfl)
  have ki_UnknownName : fKit tab [20] (fun K => .ref (He.ga K "UnknownName")) [] K = true := id (c0.fact 134 (f := fKit tab [20] (fun K => .ref (He.ga K "UnknownName")) []) rfl)
  have gl_InvalidChanges : mg "InvalidChanges" = some (.ref (He.ga K "InvalidChanges")) := He.glo_ok X Gm (c0.fact 135 (f := fa (.glo "InvalidChanges")) rfl)
  have ki_InvalidChanges : fKit tab [20] (fun K => .ref (He.ga K "InvalidChanges")) [] K = true := id (c0.fact 136 (f := fKit tab [20] (fun K => .ref (He.ga K "InvalidChanges")) []) rfl)
  have ki_Contradicts : fKit tab [20] (fun K => .ref (He.ga K "Contradicts")) [20] K = true := id (c0.fact 137 (f := fKit tab [20] (fun K => .ref (He.ga K "Contradicts")) [20]) rfl)
  have gl_OtherBook : mg "OtherBook" = some (.ref (He.ga K "OtherBook")) := He.glo_ok X Gm (c0.fact 138 (f := fa (.glo "OtherBook")) rfl)
  have ki_OtherBook : fKit tab [20] (fun K => .ref (He.ga K "OtherBook")) [] K = true := id (c0.fact 139 (f := fKit tab [20] (fun K => .ref (He.ga K "OtherBook")) []) rfl)
  have gl_Impossible : mg "Impossible" = some (.ref (He.ga K "Impossible")) := He.glo_ok X Gm (c0.fact 140 (f := fa (.glo "Impossible")) rfl)
  have ki_Impossible : fKit tab [20] (fun K => .ref (He.ga K "Impossible")) [] K = true := id (c0.fact 141 (f := fKit tab [20] (fun K => .ref (He.ga K "Impossible")) []) rfl)
  have gl_Broken : mg "Broken" = some (.ref (He.ga K "Broken")) := He.glo_ok X Gm (c0.fact 142 (f := fa (.glo "Broken")) rfl)
  have ki_Broken : fKit tab [20] (fun K => .ref (He.ga K "Broken")) [] K = true := id (c0.fact 143 (f := fKit tab [20] (fun K => .ref (He.ga K "Broken")) []) rfl)
  have gl_NothingToUndo : mg "NothingToUndo" = some (.ref (He.ga K "NothingToUndo")) := He.glo_ok X Gm (c0.fact 144 (f := fa (.glo "NothingToUndo")) rfl)
  have ki_NothingToUndo : fKit tab [20] (fun K => .ref (He.ga K "NothingToUndo")) [] K = true := id (c0.fact 145 (f := fKit tab [20] (fun K => .ref (He.ga K "NothingToUndo")) []) rfl)
  have gl_TooMany : mg "TooMany" = some (.ref (He.ga K "TooMany")) := He.glo_ok X Gm (c0.fact 146 (f := fa (.glo "TooMany")) rfl)
  have ki_TooMany : fKit tab [20] (fun K => .ref (He.ga K "TooMany")) [] K = true := id (c0.fact 147 (f := fKit tab [20] (fun K => .ref (He.ga K "TooMany")) []) rfl)
  have ki_CannotBe : fKit tab [20] (fun K => .ref (He.ga K "CannotBe")) [20] K = true := id (c0.fact 148 (f := fKit tab [20] (fun K => .ref (He.ga K "CannotBe")) [20]) rfl)
  have ki_NotThere : fKit tab [20] (fun K => .ref (He.ga K "NotThere")) [] K = true := id (c0.fact 149 (f := fKit tab [20] (fun K => .ref (He.ga K "NotThere")) []) rfl)
  have ki_NotRight : fKit tab [20] (fun K => .ref (He.ga K "NotRight")) [] K = true := id (c0.fact 150 (f := fKit tab [20] (fun K => .ref (He.ga K "NotRight")) []) rfl)
  have fr_ArithmeticError : mg "ArithmeticError" = none := He.free_ok X Gm (c0.fact 151 (f := fa (.free "ArithmeticError")) rfl)
  have ki_ArithmeticError : fKit tab [20] (fun K => .type "ArithmeticError") [20] K = true := id (c0.fact 152 (f := fKit tab [20] (fun K => .type "ArithmeticError") [20]) rfl)
  have fr_LookupError : mg "LookupError" = none := He.free_ok X Gm (c0.fact 153 (f := fa (.free "LookupError")) rfl)
  have ki_LookupError : fKit tab [20] (fun K => .type "LookupError") [] K = true := id (c0.fact 154 (f := fKit tab [20] (fun K => .type "LookupError") []) rfl)
  have fr_ValueError : mg "ValueError" = none := He.free_ok X Gm (c0.fact 155 (f := fa (.free "ValueError")) rfl)
  have ki_ValueError : fKit tab [20] (fun K => .type "ValueError") [] K = true := id (c0.fact 156 (f := fKit tab [20] (fun K => .type "ValueError") []) rfl)
  have fr_abs : mg "abs" = none := He.free_ok X Gm (c0.fact 157 (f := fa (.free "abs")) rfl)
  have em_fits_tops : emB K (He.dflAt ("fits_tops", none) 0 K) = true := id (c0.fact 158 (f := fEm ("fits_tops", none) 0) rfl)
  have em_tops_of : emB K (He.dflAt ("tops_of", none) 0 K) = true := id (c0.fact 159 (f := fEm ("tops_of", none) 0) rfl)
  have apt : apart (lams.map fun x => (He.cT K (x, none)).2) = true := id (c0.fact 160 (f := fun K => apart (lams.map fun x => (He.cT K (x, none)).2)) rfl)
  have fl_Book_clothes : FldF K (tab K) 0 "clothes" 0 := ⟨cl_Book, na_Book_clothes, rfl, of_decide_eq_true rfl⟩
  have fl_Book_told : FldF K (tab K) 0 "told" 1 := ⟨cl_Book, na_Book_told, rfl, of_decide_eq_true rfl⟩
  have fl_Book_parsed : FldF K (tab K) 0 "parsed" 2 := ⟨cl_Book, na_Book_parsed, rfl, of_decide_eq_true rfl⟩
  have fl_Book_walk : FldF K (tab K) 0 "walk" 3 := ⟨cl_Book, na_Book_walk, rfl, of_decide_eq_true rfl⟩
  have fl_Walk_owners : FldF K (tab K) 1 "owners" 0 := ⟨cl_Walk, na_Walk_owners, rfl, of_decide_eq_true rfl⟩
  have fl_Walk_life_rows : FldF K (tab K) 1 "life_rows" 1 := ⟨cl_Walk, na_Walk_life_rows, rfl, of_decide_eq_true rfl⟩
  have fl_Walk_tally_row : FldF K (tab K) 1 "tally_row" 2 := ⟨cl_Walk, na_Walk_tally_row, rfl, of_decide_eq_true rfl⟩
  have fl_Walk_load_rows : FldF K (tab K) 1 "load_rows" 3 := ⟨cl_Walk, na_Walk_load_rows, rfl, of_decide_eq_true rfl⟩
  have fl_Walk_look_rows : FldF K (tab K) 1 "look_rows" 4 := ⟨cl_Walk, na_Walk_look_rows, rfl, of_decide_eq_true rfl⟩
  have fl_Walk_span_rows : FldF K (tab K) 1 "span_rows" 5 := ⟨cl_Walk, na_Walk_span_rows, rfl, of_decide_eq_true rfl⟩
  have mf_Walk_go : MethF K (tab K) 1 "go" (pM "Walk" "go" K) := ⟨cl_Walk, me_Walk_go, rfl⟩
  have mf_Walk_wash : MethF K (tab K) 1 "wash" (pM "Walk" "wash" K) := ⟨cl_Walk, me_Walk_wash, rfl⟩
  have ra_Contradicts : RaiF P K (tab K) 20 := raiF_of (e := e_Contradicts) (b := .a) hPf hPs rfl rfl (by decide) (by decide) (by decide) S_Contradicts (ce _ (.head _)) eb_Contradicts ei_Contradicts
  constructor <;> assumption
theorem lawOk {P : Program} {w0 : World} {K : PySem.W.Frag} {mg : Str → Option Value} {base : Heap} (G : Facts P K mg) (c0 : SaysP fs0 fn0 K) (TB : ∀ x ∈ lams, LamX.TabB base mg (He.cT K (x, none)).1 (He.cT K (x, none)).2) {fd : FuncData} (F : FunD K "law" "law" (defArgs s_law) (defBody s_law) (defScope s_law) [] [] ((pG "law") K) fd) : FnC P w0 K mg base (tab K) 12 ((pG "law") K) fd ["_law_script"] c_law := by
  have o__law_dab : OkF P w0 K mg base (tab K) 1 ((pG "_law_dab") K) ["_law_rinse_here", "_law_size"] c__law_dab := ok__law_dab G (c0.def_ 0 rfl) 
  have o_is_name : OkF P w0 K mg base (tab K) 1 ((pG "is_name") K) ["value"] c_is_name := ok_is_name G (c0.def_ 1 rfl) 
  have o_is_integer : OkF P w0 K mg base (tab K) 1 ((pG "is_integer") K) ["value"] c_is_integer := ok_is_integer G (c0.def_ 2 rfl) 
  have o_is_between : OkF P w0 K mg base (tab K) 2 ((pG "is_between") K) ["value", "least", "most"] c_is_between := ok_is_between G (c0.def_ 3 rfl) o_is_integer
  have o_is_garment : OkF P w0 K mg base (tab K) 3 ((pG "is_garment") K) ["value"] c_is_garment := ok_is_garment G (c0.def_ 4 rfl) o_is_name o_is_between
  have o_check_garments : OkF P w0 K mg base (tab K) 4 ((pG "check_garments") K) ["garments"] c_check_garments := ok_check_garments G (c0.def_ 5 rfl) o_is_garment
  have o_parted_at : OkF P w0 K mg base (tab K) 1 ((pG "parted_at") K) ["words", "mark"] c_parted_at := ok_parted_at G (c0.def_ 6 rfl) 
  have o_dyes_in : OkF P w0 K mg base (tab K) 1 ((pG "dyes_in") K) ["garments"] c_dyes_in := ok_dyes_in G (c0.def_ 7 rfl) 
  have o_are_different : OkF P w0 K mg base (tab K) 1 ((pG "are_different") K) ["words"] c_are_different := ok_are_different G (c0.def_ 8 rfl) 
  have o_names_in : OkF P w0 K mg base (tab K) 1 ((pG "names_in") K) ["garments"] c_names_in := ok_names_in G (c0.def_ 9 rfl) 
  have o_wash_in : OkF P w0 K mg base (tab K) 2 ((pG "wash_in") K) ["garments", "words"] c_wash_in := ok_wash_in G (c0.def_ 10 rfl) o_parted_at o_dyes_in o_are_different o_names_in
  have o_entry_in : OkF P w0 K mg base (tab K) 3 ((pG "entry_in") K) ["garments", "line"] c_entry_in := ok_entry_in G (c0.def_ 11 rfl) o_wash_in o_names_in
  have o_check_lines : OkF P w0 K mg base (tab K) 4 ((pG "check_lines") K) ["garments", "lines"] c_check_lines := ok_check_lines G (c0.def_ 12 rfl) o_entry_in
  have o_Walk_wash : OkF P w0 K mg base (tab K) 1 ((pM "Walk" "wash") K) ["self", "garments", "index", "lives", "looks"] c_Walk_wash := ok_Walk_wash G (c0.def_ 13 rfl) 
  have o_Walk_go : OkF P w0 K mg base (tab K) 2 ((pM "Walk" "go") K) ["self", "garments", "entries"] c_Walk_go := ok_Walk_go G (c0.def_ 14 rfl) o_names_in o_Walk_wash
  have o_Walk_init : OkF P w0 K mg base (tab K) 3 ((pM "Walk" "__init__") K) ["self", "garments", "entries"] c_Walk_init := ok_Walk_init G (c0.def_ 15 rfl) o_Walk_go
  have o_Book_init : OkF P w0 K mg base (tab K) 5 ((pM "Book" "__init__") K) ["self", "garments", "lines"] c_Book_init := ok_Book_init (hdv := rfl) G (c0.def_ 16 rfl) o_check_garments o_check_lines o_entry_in o_Walk_init
  have o_check_book : OkF P w0 K mg base (tab K) 1 ((pG "check_book") K) ["value"] c_check_book := ok_check_book G (c0.def_ 17 rfl) 
  have o_Book_garments : OkF P w0 K mg base (tab K) 1 ((pP "Book" "garments") K) ["self"] c_Book_garments := ok_Book_garments G (c0.def_ 18 rfl) 
  have o_Book_entries : OkF P w0 K mg base (tab K) 1 ((pP "Book" "entries") K) ["self"] c_Book_entries := ok_Book_entries G (c0.def_ 19 rfl) 
  have o_washes_of : OkF P w0 K mg base (tab K) 3 ((pG "washes_of") K) ["book"] c_washes_of := ok_washes_of G (c0.def_ 20 rfl) o_Book_entries
  have o_check_kin : OkF P w0 K mg base (tab K) 4 ((pG "check_kin") K) ["one", "other"] c_check_kin := ok_check_kin G (c0.def_ 21 rfl) o_check_book o_Book_garments o_washes_of
  have o_Book_lives : OkF P w0 K mg base (tab K) 1 ((pP "Book" "lives") K) ["self"] c_Book_lives := ok_Book_lives G (c0.def_ 22 rfl) 
  have o_garment_of : OkF P w0 K mg base (tab K) 3 ((pG "garment_of") K) ["book", "life"] c_garment_of := ok_garment_of G (c0.def_ 23 rfl) o_Book_garments o_names_in o_Book_lives
  have o_top_of : OkF P w0 K mg base (tab K) 4 ((pG "top_of") K) ["book", "life"] c_top_of := ok_top_of G (c0.def_ 24 rfl) o_garment_of
  have o_Book_looks : OkF P w0 K mg base (tab K) 1 ((pP "Book" "looks") K) ["self"] c_Book_looks := ok_Book_looks G (c0.def_ 25 rfl) 
  have o_Book_spans : OkF P w0 K mg base (tab K) 1 ((pP "Book" "spans") K) ["self"] c_Book_spans := ok_Book_spans G (c0.def_ 26 rfl) 
  have o_tops_of : OkF P w0 K mg base (tab K) 5 ((pG "tops_of") K) ["book", "skipped"] c_tops_of := ok_tops_of (hdv := rfl) G (c0.def_ 27 rfl) o_Book_lives o_top_of o_Book_looks o_Book_spans
  have od_tops_of : OkFd P w0 K mg base (tab K) 5 ((pG "tops_of") K) ["book", "skipped"] [.tup []] c_tops_of := okd_tops_of G (c0.def_ 27 rfl) o_Book_lives o_top_of o_Book_looks o_Book_spans
  have o_fits_tops : OkF P w0 K mg base (tab K) 3 ((pG "fits_tops") K) ["book", "greatest", "skipped"] c_fits_tops := ok_fits_tops (hdv := rfl) G (c0.def_ 28 rfl) o_Book_looks o_Book_spans
  have od_fits_tops : OkFd P w0 K mg base (tab K) 3 ((pG "fits_tops") K) ["book", "greatest", "skipped"] [.tup []] c_fits_tops := okd_fits_tops G (c0.def_ 28 rfl) o_Book_looks o_Book_spans
  have o_without_look : OkF P w0 K mg base (tab K) 4 ((pG "without_look") K) ["book", "greatest", "is_seen", "pairs"] c_without_look := ok_without_look G (c0.def_ 29 rfl) od_fits_tops
  have o_reading_between : OkF P w0 K mg base (tab K) 6 ((pG "reading_between") K) ["one", "other"] c_reading_between := ok_reading_between G (c0.def_ 30 rfl) od_tops_of od_fits_tops o_Book_looks o_Book_spans o_without_look
  have o_says_all : OkF P w0 K mg base (tab K) 7 ((pG "says_all") K) ["one", "other"] c_says_all := ok_says_all G (c0.def_ 31 rfl) o_check_kin o_reading_between
  have o_parting : OkF P w0 K mg base (tab K) 7 ((pG "parting") K) ["one", "other"] c_parting := ok_parting G (c0.def_ 32 rfl) o_check_kin o_reading_between
  have o_alike : OkF P w0 K mg base (tab K) 7 ((pG "alike") K) ["one", "other"] c_alike := ok_alike G (c0.def_ 33 rfl) o_check_kin o_reading_between
  have o_Book_lines : OkF P w0 K mg base (tab K) 1 ((pP "Book" "lines") K) ["self"] c_Book_lines := ok_Book_lines G (c0.def_ 34 rfl) 
  have o_Book_dyes : OkF P w0 K mg base (tab K) 2 ((pP "Book" "dyes") K) ["self"] c_Book_dyes := ok_Book_dyes G (c0.def_ 35 rfl) o_dyes_in
  have o_joined_line : OkF P w0 K mg base (tab K) 4 ((pG "joined_line") K) ["book", "names", "looks"] c_joined_line := ok_joined_line G (c0.def_ 36 rfl) o_Book_dyes o_dyes_in o_Book_garments
  have o_joined : OkF P w0 K mg base (tab K) 7 ((pG "joined") K) ["one", "other"] c_joined := ok_joined G (c0.def_ 37 rfl) o_check_kin o_Book_lines o_Book_entries o_joined_line o_Book_init o_Book_garments
  have o_Book___eq__ : OkF P w0 K mg base (tab K) 3 ((pM "Book" "__eq__") K) ["self", "other"] c_Book___eq__ := ok_Book___eq__ G (c0.def_ 38 rfl) o_Book_garments o_Book_lines
  have o__law_sort : OkQ P w0 K mg base (tab K) 1 ((pG "_law_sort") K) ["_law_e"] c__law_sort := ok__law_sort G (c0.def_ 39 rfl) 
  have o__law_kept : OkQ P w0 K mg base (tab K) 2 ((pG "_law_kept") K) ["_law_e"] c__law_kept := ok__law_kept G (c0.def_ 40 rfl) o__law_sort
  have o__law_told := ok__law_told (P := P) (w0 := w0) (base := base) G (c0.def_ 41 rfl) o__law_kept
  have o__law_sock_right : OkF P w0 K mg base (tab K) 10 ((pG "_law_sock_right") K) [] c__law_sock_right := ok__law_sock_right G (lamB_of (xs := lams) rfl G.apt TB (.tail _ (.head _))) (c0.def_ 42 rfl) o_Book_init o_parting o_alike o_says_all o_joined o_Book___eq__ o_Book_lines o__law_told
  have o__law_right : OkF P w0 K mg base (tab K) 11 ((pG "_law_right") K) ["_law_rinse_here"] c__law_right := ok__law_right G (lamB_of (xs := lams) rfl G.apt TB (.head _)) (c0.def_ 43 rfl) o__law_dab o_Book_init o_says_all o_parting o_alike o_joined o_Book___eq__ o__law_told o__law_sock_right
  have o__law_rinse : OkF P w0 K mg base (tab K) 1 ((pG "_law_rinse") K) ["_law_script", "_law_turn"] c__law_rinse := ok__law_rinse G (c0.def_ 44 rfl) 
  exact ok_law G F o__law_right o__law_rinse
end K23
open PySem PySem.W PySem.Calls PyProof.Rows
theorem PySem.Challenge.cw_pinkwash_k23_known_comparings_holds : PySem.Challenge.rw_pinkwash_k23_known_comparings.Holds := by
  w_on; o_law
  refine HandSHeadRun.head_any (r := OpenLaw.row PySem.Challenge.rw_pinkwash_k23_known_comparings) (q := view (OpenLaw.row PySem.Challenge.rw_pinkwash_k23_known_comparings).prog [82]) (H := Pk.hookE 1200 K23.pt K23.lams K23.errs) (ob := Pk.obE 1200 K23.pt K23.lams K23.errs) (M := 30000) (loose := K23.nms) (d := HandSHeadRun.topDef (OpenLaw.row PySem.Challenge.rw_pinkwash_k23_known_comparings).prog 82) (kwd := []) (Pk.obE_eq 1200 K23.pt K23.lams K23.errs)
    (by kernel_rfl) (fun s => by kernel_rfl) K23.run (by kernel_rfl) (by kernel_rfl) (by kernel_rfl) (by rfl) (by first | assumption | decide +kernel) (by decide +kernel) ⟨rfl, rfl, rfl, rfl, rfl, by decide +kernel⟩ ?hw ?hc
  case hw => w_witness2
  case hc =>
    refine Pk.walk_ofT (l := PySem.Challenge.rw_pinkwash_k23_known_comparings) (n := 63) (k := 12) (nm := "_law_script") (CX := Pk.CX00) rfl (by decide) (by kernel_rfl) ⟨⟨rfl, by decide, by decide⟩, rfl⟩ ?F (fun _ _ _ _ z => z)
    intro w mg fa h Y G hmg0
    obtain ⟨K, S⟩ := Y
    have hmg : mg ("law" : PySem.Str) = some (.ref fa) := by
      have e : (HandSHeadRun.topDef (OpenLaw.row PySem.Challenge.rw_pinkwash_k23_known_comparings).prog 82).name = ("law" : PySem.Str) := by kernel_rfl
      rw [← e]
      exact hmg0
    have c0 : Pk.SaysP K23.fs0 K23.fn0 K := S.c
    have Fx := K23.facts (P := PySem.W.OpenLaw.prog PySem.Challenge.rw_pinkwash_k23_known_comparings) (by kernel_rfl) (by kernel_rfl) S.e S.kin G c0
    have e := hmg.symm.trans (He.glo_ok S.kin G (c0.fact 0 (f := Pk.fa (.glo "law")) rfl))
    cases e
    obtain ⟨fd, F⟩ := c0.def_ 45 rfl
    have b := L2.FunD.bindsA (ps := ["_law_script"]) F fun _ _ _ _ _ _ us hl => match us, hl with | [_], _ => rfl
    exact ⟨K, fd, fun vs H Q _ => Pk.spD K (K23.tab K) K23.c_law 1 vs H Q Pk.E00, K23.lams, S.kin, S.t, fun s v => b s [v] rfl, fun H a ns hl hT hS => Pk.law_sp hT hS (K23.law_data ns hl) fun _ => rfl, fun base _ _ TB => Pk.calmOk (K23.lawOk Fx c0 TB F)⟩

