import PyProof.Rows.All
import Wide.All
import OpenK.AllK
import Wide.FinOn
import HandS.ForMost
import HandS.ForExc
import HandS.ExcCtx
import HandS.Nested
import HandS.ExcInit
import HandS.Wide
import HandS.Flow
import HandS.IsInst
import HandS.Star
import HandS.MakeKw
import HandS.Defaults
import HandS.Walk
import HandS.Zip
import HandS.Deep
import HandS.DeepEq
import HandS.Text
import HandS.StrMore
import HandS.WordsDict
import HandS.More
import HandS.Style
import HandS.TupLen
import HandS.Conv
import HandS.RaiseMore
import KE.SortData
import KE.GoesEnum
import HandS.Property
import HandS.HeadWalk
import HandS.ClsMeth
import HandS.ExcField
import HandS.OwnEq
import HandS.ExcIs
import KE.KExcIs
import KE.KDictCopyH
import PyProof.RulesMatch
import HandS.Finally
import HandS.TupSets
import PyProof.InstNe
import HandS.DictTup
import HandS.DictComp
import KE.KUnpackStar
import HandS.ListItems
import KE.KExcSuper
import HandS.HotCalls
import HandS.HeadHook3
import HandS.HeadNt
import HandS.HeadEnd
import HandS.Words
import HandS.Head0
import HandS.Head1
import HandS.Head2
import HandS.WordsExc
import PySem.Challenge.RW_stillsides_k73_errors_by_themselves
set_option Elab.async false
set_option linter.all false
set_option maxRecDepth 100000
set_option maxHeartbeats 0
set_option autoImplicit false
namespace PD
open PySem PySem.Spec PyProof.Rows L2
/-- plain data: what a Python value is, without addresses -/
inductive D where
  | non | bl (b : Bool) | int (i : Int) | str (x : Str)
  | tup (xs : List D) | lst (xs : List D) | set (xs : List D)
  | dct (kvs : List (D × D)) | dtt (kvs : List (D × D))
  | ins (c : Str) (fs : List (Str × D))
  | err (c : Str) (fs : List (Str × D))
  | fro (xs : List D)
  | ftu (xs : List D)
  | obj (n : Nat) | loc (i : Nat) | glo (x : Str)
  deriving Inhabited

/-- what is fixed: the written part, the classes' addresses -/
structure Wo where
  K : PySem.W.Frag
  ca : Str → Addr
  T : List NdefX.NTab := []

/-- how a name holds a container that no one else holds: as a value that changes no more, as its own, as a stored object -/
inductive Md where
  | val | own | obj
/-- the sources of a def's parameters at a call -/
inductive Src where
  | pos (i : Nat) | kw (i : Nat) | df (i : Nat) | rest (i : Nat)
  deriving DecidableEq
/-- a def: how it may be called -/
structure FnI where
  bind : Nat → List Str → Option (List Src)
  dds : List D
def starHow (m : Nat) : List Src := (List.range m).map Src.pos ++ [.rest m]
inductive TyN where
  | ty (s : String) | own (c : Str)
  deriving DecidableEq
def TyN.val (w : Wo) : TyN → Value
  | .ty s => .type s
  | .own c => .ref (w.ca c)
/-- a def of the text -/
structure DefI where
  name : Str
  qual : Str
  params : Arguments
  body : List Stmt
  scope : Scope
  N : List Str
  ps : List Str
  fi : FnI
  md : List (Str × Md) := []
inductive BK where
  | V | L | I
def BK.B : BK → String
  | .V => "ValueError" | .L => "LookupError" | .I => "IndexError"
def BK.n : BK → String
  | .V => "ValueError.__new__" | .L => "LookupError.__new__" | .I => "IndexError.__new__"
def BK.i : BK → String
  | .V => "ValueError.__init__" | .L => "LookupError.__init__" | .I => "IndexError.__init__"
def BK.bm : BK → List Value
  | .V => [.type "ValueError", .type "Exception", .type "BaseException", .type "object"]
  | .L => [.type "LookupError", .type "Exception", .type "BaseException", .type "object"]
  | .I => [.type "IndexError", .type "LookupError", .type "Exception", .type "BaseException", .type "object"]
structure ErrQ where
  c : Str
  tag : Str
  f : Option Str
  qual : Str
  st : Stmt
  b : BK
abbrev BL : Type := List ((Nat × List Str) × List Src)
def blFi (bl : BL) (dds : List D) : FnI := ⟨fun n ks => bl.lookup (n, ks), dds⟩
structure QDef where
  at_ : PySem.W.Frag → Addr
  d : DefI
  dfl : List He.Dv := []
  kwd : List (Str × He.Dv) := []
def QDef.a (q : QDef) : He5.DefA := ⟨q.at_, q.d.name, q.d.qual, q.d.params, q.d.body, q.d.scope, q.dfl, q.kwd⟩
inductive AtQ where
  | fld | con (d : D) | prop (k : Str)
structure QTab where
  defs : List (Str × QDef)
  free : List Str
  con : List (Str × D)
  fns : List Str
  at_ : List ((Str × Str) × AtQ)
  me : List ((Str × Str) × Str)
  made : List (Str × (Str × Bool))
  set_ : List ((Str × Str) × Str)
  eq_ : List (Str × Str)
  cm : List ((Str × Str) × (Bool × Str))
  nes : List Str
  gd : List (Str × List (Str × D))
  nam : List (Str × TyN)
  isi : List (TyN × List (TyN × Bool))
  insT : List Str
  ownM : List Str
  md : List (Str × Md)
  amd : List (Str × Md)
  dtup : List Nat
  fuel : Nat
  err : List (Str × ErrQ) := []
  exf : List (Str × Str) := []
  excT : List Str := []
  file : Str := ""
def QTab.fi (Q : QTab) (k : Str) : Option FnI := (Q.defs.lookup k).map fun q => q.d.fi
section
variable (K : PySem.W.Frag)
def ErrQ.fI (e : ErrQ) : Addr := match PySem.W.findIn K (.ref (He.ga K e.c)) "__init__" with
  | some (some (.ref a)) => a
  | _ => 0
/-- the initializer, without its closure -/
def fnB (a : Addr) : He.FnW := match K.lookup a with
  | some ⟨_, _, .func fd, _⟩ => some (fd.name, fd.qualname, fd.params, fd.body, fd.scope, fd.globals, [], fd.builtins)
  | _ => none
def ErrQ.val (e : ErrQ) : He.FnW := some (("__init__" : Str), e.qual, defArgs e.st, .stmts (defBody e.st), defScope e.st, mainGlobals, [], builtinsNs)
def cloB (C : Addr) : List (Str × Addr) → Bool
  | [(x, cl)] => decide (x = ("__class__" : Str)) && (match K.lookup cl with
    | some ⟨_, _, .cell (some (.ref C')), _⟩ => decide (C' = C)
    | _ => false)
  | _ => false
def codB (file : Str) : Value → Bool
  | .ref cc => (match K.lookup cc with
    | some ⟨_, _, .fields vs, _⟩ => (match (vs[2]? : Option Value) with
      | some (.str fl _) => file == fl
      | _ => false)
    | _ => false)
  | _ => false
def noneB : Value → Bool
  | .none => true
  | _ => false
def ErrQ.fnOk (e : ErrQ) (file : Str) : Bool := match K.lookup (e.fI K) with
  | some ⟨_, _, .func fd, _⟩ => PySem.W.codeIn K fd.code e.qual && (noneB fd.defaults && (cloB K (He.ga K e.c) fd.closure && codB K file fd.code))
  | _ => false
def ErrQ.ok (e : ErrQ) (file : Str) : Bool := (He.Fa.glo e.c).ok K && (PySem.W.excInitIn K (He.ga K e.c) e.b.bm e.b.n && (He.eqO (PySem.W.ks_superIn K (He.ga K e.c) (He.ga K e.c) "__init__") (some (some (.builtin e.b.i))) &&
  (decide (PySem.W.subIn K (.ref (He.ga K e.c)) (.type e.b.B) = some true) && (decide (PySem.W.mroIn K (He.ga K e.c) (.ref (He.ga K e.c)) = some true) && (He.eqO (PySem.W.nsIn K cStatics "thirdparty.any") (some none) &&
  (PySem.W.excOver K (He.ga K e.c) e.b.bm && (He.eqO (PySem.W.findIn K (.ref (He.ga K e.c)) "__setattr__") (some (some (.builtin "object.__setattr__"))) && (PySem.W.hasDictIn K (He.ga K e.c) &&
  (He.eqO (PySem.W.findIn K (.ref (He.ga K e.c)) "__init__") (some (some (.ref (e.fI K)))) && (decide (PySem.W.typeIn K (.ref (e.fI K)) = some (.type "function")) && (decide (PySem.W.subIn K (.ref (He.ga K e.c)) (.type "BaseException") = some true) &&
  (decide (PySem.W.typeIn K (.ref (He.ga K e.c)) = some (.type "type")) && (PySem.W.keepIn K (.ref (He.ga K e.c)) && (He.eqO (PySem.W.findIn K (.ref (He.ga K e.c)) "tag") (some none) && (e.f.all (fun f => He.eqO (PySem.W.findIn K (.ref (He.ga K e.c)) f) (some none)) &&
  e.fnOk K file)))))))))))))))
abbrev wK : Wo := ⟨K, He.ga K, []⟩
def dInts : List D → Option (List Int)
  | [] => some []
  | .int i :: r => (dInts r).map (i :: ·)
  | _ => none
def conChk (x : Str) : D → Bool
  | .int i => (He.Fa.int x i).ok K
  | .str z => (He.Fa.str x z).ok K && decide (z.length ≤ sizeLine)
  | .glo c => decide (c = x) && (He.Fa.glo x).ok K
  | .ftu ds => (match dInts ds with
    | some is => (He.Fa.glo x).ok K && (He.tupB K x (is.map He.Dv.int) && decide (ds.length ≤ sizeLine))
    | none => false)
  | _ => false
def propB (C : Addr) (f : Str) (q : Addr) : Bool := match PySem.W.findIn K (.ref C) f with
  | some (some (.ref p)) => He.eqO (PySem.W.specialIn K (.ref p) "__get__") (some (some (.builtin "property.__get__"))) && (decide (PySem.W.takesIn K (.ref p) = some true) && (match PySem.W.recIn K p "property" with
    | some (.ref g :: _) => decide (g = q)
    | _ => false))
  | _ => false
def setB (C : Addr) (f : Str) (q : Addr) : Bool := match PySem.W.takerIn K C f with
  | some (some (.ref p)) => decide (PySem.W.typeIn K (.ref p) = some (.type "property")) && (match PySem.W.recIn K p "property" with
    | some (_ :: .ref g :: _) => decide (g = q)
    | _ => false)
  | _ => false
def dDv : D → Option He.Dv
  | .int i => some (.int i)
  | .bl b => some (.bl b)
  | .non => some .non
  | _ => none
def isDef (Q : QTab) (k : Str) (a : Addr) : Bool := match Q.defs.lookup k with
  | some q => decide (q.at_ K = a)
  | none => false
def has1 (Q : QTab) (k : Str) : Bool := match Q.defs.lookup k with
  | some q => decide (q.d.fi.bind 1 [] = some [.pos 0])
  | none => false
def has2 (Q : QTab) (k : Str) : Bool := match Q.defs.lookup k with
  | some q => decide (q.d.fi.bind 2 [] = some [.pos 0, .pos 1])
  | none => false
def pGet (c f : Str) : Addr := match PySem.W.recIn K (He.ma K (He.ga K c) f) "property" with
  | some (.ref g :: _) => g
  | _ => 0
def pSet (c f : Str) : Addr := match PySem.W.recIn K (He.ma K (He.ga K c) f) "property" with
  | some (_ :: .ref g :: _) => g
  | _ => 0
def atChk (Q : QTab) (c f : Str) : AtQ → Bool
  | .fld => (He.Fa.cls c).ok K && (He.Fa.noat c f).ok K
  | .con d => (He.Fa.cls c).ok K && (match dDv d with
    | some v => He.conB K c f v && !PySem.W.copiedNames.contains f
    | none => false)
  | .prop k => (He.Fa.cls c).ok K && (match Q.defs.lookup k with
    | some q => propB K (He.ga K c) f (q.at_ K) && decide (q.d.fi.bind 1 [] = some [.pos 0])
    | none => false)
def clsRd (C : Addr) : Bool := PySem.W.readsIn K C (.type "type") && He.eqO (PySem.W.specialIn K (.ref C) "__getattribute__") (some (some (.builtin "type.__getattribute__")))
def cmChk (Q : QTab) (c m : Str) (p : Bool × Str) : Bool := clsRd K (He.ga K c) && (match p.1 with
  | false => He5.wrapB K (He.ga K c) "staticmethod" "staticmethod.__get__" m && isDef K Q p.2 (He5.wf K (He.ga K c) "staticmethod" m)
  | true => He5.wrapB K (He.ga K c) "classmethod" "classmethod.__get__" m && (PySem.W.fnIn K (He5.wf K (He.ga K c) "classmethod" m) && isDef K Q p.2 (He5.wf K (He.ga K c) "classmethod" m)))
def insChk (c : Str) : Bool := (He.Fa.cls c).ok K && (He.eqO (PySem.W.findIn K (.ref (He.ga K c)) "__class__") (some (some (.builtin "object.__class__"))) && (He.eqO (PySem.W.specialIn K (.builtin "object.__class__") "__get__") (some (some (.builtin "getset_descriptor.__get__"))) &&
  (decide (PySem.W.takesIn K (.builtin "object.__class__") = some true) && decide (PySem.W.mroIn K (He.ga K c) (.type "object") = some true))))
def namChk (x : Str) : TyN → Bool
  | .ty s => (He.Fa.free x).ok K && decide (bootBuiltins x = some (.type s))
  | .own c => decide (c = x) && (He.Fa.glo x).ok K
def gdVs : List (Str × D) → Option (List (Str × He.Dv))
  | [] => some []
  | (k, d) :: r => match dDv d, gdVs r with
    | some v, some vs => some ((k, v) :: vs)
    | _, _ => none
def gdChk (c : Str) (kvs : List (Str × D)) : Bool := match gdVs kvs with
  | some vs => He.valsB K (He.ga K c) vs
  | none => false
def excB (C : Addr) : Bool := xfB K C && (He.eqO (PySem.W.findIn K (.ref C) "__class__") (some (some (.builtin "object.__class__"))) && (He.eqO (PySem.W.specialIn K (.builtin "object.__class__") "__get__") (some (some (.builtin "getset_descriptor.__get__"))) &&
  (decide (PySem.W.takesIn K (.builtin "object.__class__") = some true) && decide (PySem.W.mroIn K C (.type "object") = some true))))
def QTab.chkE (Q : QTab) : Bool := Q.err.all (fun p => decide (p.2.c = p.1) && p.2.ok K Q.file) && (Q.exf.all (fun p => xfB K (He.ga K p.1) && He.eqO (PySem.W.findIn K (.ref (He.ga K p.1)) p.2) (some none)) && Q.excT.all (fun c => excB K (He.ga K c)))
def QTab.chk (Q : QTab) : Bool := Q.chkE K && (
  Q.free.all (fun x => (He.Fa.free x).ok K) && (Q.con.all (fun p => conChk K p.1 p.2) && (Q.fns.all (fun x => (He.Fa.glo x).ok K && isDef K Q x (He.ga K x)) && (Q.at_.all (fun p => atChk K Q p.1.1 p.1.2 p.2) &&
  (Q.me.all (fun p => (He.Fa.cls p.1.1).ok K && ((He.Fa.meth p.1.1 p.1.2).ok K && isDef K Q p.2 (He.ma K (He.ga K p.1.1) p.1.2))) &&
  (Q.made.all (fun p => (He.Fa.mkr p.1).ok K && ((He.Fa.glo p.1).ok K && isDef K Q p.2.1 (He.ma K (He.ga K p.1) "__init__"))) &&
  (Q.set_.all (fun p => (He.Fa.cls p.1.1).ok K && (match Q.defs.lookup p.2 with
    | some q => setB K (He.ga K p.1.1) p.1.2 (q.at_ K) && decide (q.d.fi.bind 2 [] = some [.pos 0, .pos 1])
    | none => false)) &&
  (Q.eq_.all (fun p => (match Q.defs.lookup p.2 with
    | some q => He.eqO (PySem.W.findIn K (.ref (He.ga K p.1)) "__eq__") (some (some (.ref (q.at_ K)))) && (PySem.W.isFn K (.ref (q.at_ K)) && decide (q.d.fi.bind 2 [] = some [.pos 0, .pos 1]))
    | none => false)) &&
  (Q.cm.all (fun p => cmChk K Q p.1.1 p.1.2 p.2) &&
  (Q.nes.all (fun c => He.eqO (PySem.W.findIn K (.ref (He.ga K c)) "__ne__") (some (some (.builtin "object.__ne__"))) && decide (PySem.W.mroIn K (He.ga K c) (.type "object") = some true)) &&
  (Q.gd.all (fun p => gdChk K p.1 p.2) && (Q.nam.all (fun p => namChk K p.1 p.2) && (Q.isi.all (fun p => p.2.all fun q => decide (PySem.W.kitOne K (p.1.val (wK K)) (q.1.val (wK K)) = some q.2)) && Q.insT.all (fun c => insChk K c))))))))))))))
end
/-- the default (): an empty tuple of the top -/
def tup0 (K : PySem.W.Frag) (a : Addr) : Bool := match K.lookup a with
  | some ⟨.type c, _, .seq its _, _⟩ => decide (c = "tuple") && its.isEmpty
  | _ => false
abbrev AlQ : Type := (Bool × List He.FnW) × List (Option (List (Option (Str × Int))))
def obsQ (ex : PySem.W.Frag → Bool) (fn : List He5.DefA) (er : List ErrQ) (ts : List He.Tab) (K : PySem.W.Frag) : AlQ := ((ex K && fn.all (fun d => d.ok K), fn.map (fun d => He5.fnA K (d.at_ K)) ++ er.map fun e => fnB K (e.fI K)), ts.map fun t => He.dicW K (t.1 K))
def valQ (fn : List He5.DefA) (er : List ErrQ) (ts : List He.Tab) (w : World) : AlQ := ((true, fn.map He5.DefA.val ++ er.map ErrQ.val), ts.map fun t => some (He.keysIn w.params t.2))
def obsQG (as : List Addr) (ex : PySem.W.Frag → Bool) (fn : List He5.DefA) (er : List ErrQ) (ts : List He.Tab) (g : Addr → Option Obj) : AlQ := obsQ ex fn er ts (He.frG g as)
def hookQ (as : List Addr) (ex : PySem.W.Frag → Bool) (fn : List He5.DefA) (er : List ErrQ) (ts : List He.Tab) : PySem.W.Hook where
  α := AlQ
  obs := fun s => obsQG as ex fn er ts s.heap.get?
  val := fun w => valQ fn er ts w
  says := fun w h => ∃ K : PySem.W.Frag, K.In h ∧ obsQ ex fn er ts K = valQ fn er ts w
  of := fun _ _ e => ⟨_, He.frG_in, e⟩
  keeps := fun _ _ _ ⟨K, hK, c⟩ k => ⟨K, PySem.W.Frag.In.keeps hK k, c⟩
theorem obsQG_eq {as : List Addr} {ex : PySem.W.Frag → Bool} {fn : List He5.DefA} {er : List ErrQ} {ts : List He.Tab} {g : Addr → Option Obj} {s : Shared} (h : ∀ a, g a = s.heap.get? a) : obsQG as ex fn er ts g = (hookQ as ex fn er ts).obs s := by
  have e : g = s.heap.get? := funext h
  rw [e] <;> rfl
end PD
namespace K73
open PySem PySem.Spec PyProof.Rows L2 PD
def top (i : Nat) : Stmt := PySem.Challenge.pw_stillsides_k73_errors_by_themselves.main.body.getD i (.Pass ⟨0, 0, 0, 0⟩)
def d0 : DefI := ⟨("_law_bag" : Str), ("_law_bag" : Str), defArgs (top 30), defBody (top 30), defScope (top 30), [("_law_script" : Str), ("_law_salt" : Str), ("_law_part_z" : Str)], [("_law_script" : Str)], blFi [((1, []), (List.range 1).map .pos)] [], []⟩
def q0 : QDef := ⟨fun K => He.ga K ("_law_bag" : Str), d0, [], []⟩
def d1 : DefI := ⟨("_law_pull" : Str), ("_law_pull" : Str), defArgs (top 31), defBody (top 31), defScope (top 31), [("_law_bag_here" : Str), ("_law_amount" : Str), ("_law_part_z" : Str), ("_law_got" : Str), ("_law_seed" : Str)], [("_law_bag_here" : Str), ("_law_amount" : Str)], blFi [((2, []), (List.range 2).map .pos)] [], []⟩
def q1 : QDef := ⟨fun K => He.ga K ("_law_pull" : Str), d1, [], []⟩
def d2 : DefI := ⟨("_law_of" : Str), ("_law_of" : Str), defArgs (top 32), defBody (top 32), defScope (top 32), [("_law_bag_here" : Str), ("_law_things" : Str)], [("_law_bag_here" : Str), ("_law_things" : Str)], blFi [((2, []), (List.range 2).map .pos)] [], []⟩
def q2 : QDef := ⟨fun K => He.ga K ("_law_of" : Str), d2, [], []⟩
def d3 : DefI := ⟨("_law_same" : Str), ("_law_same" : Str), defArgs (top 33), defBody (top 33), defScope (top 33), [("_law_found" : Str), ("_law_due" : Str), ("_law_left_z" : Str), ("_law_right_z" : Str)], [("_law_found" : Str), ("_law_due" : Str)], blFi [((2, []), (List.range 2).map .pos)] [], []⟩
def q3 : QDef := ⟨fun K => He.ga K ("_law_same" : Str), d3, [], []⟩
def d4 : DefI := ⟨("_law_classes" : Str), ("_law_classes" : Str), defArgs (top 34), defBody (top 34), defScope (top 34), [("_law_e" : Str), ("_law_kinds" : Str), ("_law_tag_z" : Str), ("_law_is_one" : Str)], [("_law_e" : Str)], blFi [((1, []), (List.range 1).map .pos)] [], []⟩
def q4 : QDef := ⟨fun K => He.ga K ("_law_classes" : Str), d4, [], []⟩
def d5 : DefI := ⟨("_law_first" : Str), ("_law_first" : Str), defArgs (top 35), defBody (top 35), defScope (top 35), [("_law_value" : Str), ("_law_found" : Str)], [("_law_value" : Str)], blFi [((1, []), (List.range 1).map .pos)] [], []⟩
def q5 : QDef := ⟨fun K => He.ga K ("_law_first" : Str), d5, [], []⟩
def d6 : DefI := ⟨("_law_second" : Str), ("_law_second" : Str), defArgs (top 36), defBody (top 36), defScope (top 36), [("_law_value" : Str), ("_law_found" : Str)], [("_law_value" : Str)], blFi [((1, []), (List.range 1).map .pos)] [], []⟩
def q6 : QDef := ⟨fun K => He.ga K ("_law_second" : Str), d6, [], []⟩
def d7 : DefI := ⟨("_law_other_way" : Str), ("_law_other_way" : Str), defArgs (top 37), defBody (top 37), defScope (top 37), [("_law_value" : Str), ("_law_found" : Str), ("_law_told" : Str), ("_law_e" : Str)], [("_law_value" : Str)], blFi [((1, []), (List.range 1).map .pos)] [], []⟩
def q7 : QDef := ⟨fun K => He.ga K ("_law_other_way" : Str), d7, [], []⟩
def d8 : DefI := ⟨("law" : Str), ("law" : Str), defArgs (top 38), defBody (top 38), defScope (top 38), [("_law_script" : Str), ("_law_bag_here" : Str), ("_law_value" : Str), ("_law_first_here" : Str), ("_law_second_here" : Str), ("_law_e" : Str), ("_law_told" : Str), ("_law_every" : Str), ("_law_words" : Str), ("_law_tag_z" : Str), ("_law_lone" : Str), ("_law_missing_z" : Str)], [("_law_script" : Str)], blFi [((1, []), (List.range 1).map .pos)] [], []⟩
def q8 : QDef := ⟨fun K => He.ga K ("law" : Str), d8, [], []⟩
def e0 : ErrQ := ⟨("NothingLeft" : Str), ("NothingLeft" : Str), none, ("NothingLeft.__init__" : Str), inClass (top 28) 0, .I⟩
def e1 : ErrQ := ⟨("InvalidText" : Str), ("InvalidText" : Str), none, ("InvalidText.__init__" : Str), inClass (top 20) 0, .V⟩
def e2 : ErrQ := ⟨("GrowingBook" : Str), ("GrowingBook" : Str), none, ("GrowingBook.__init__" : Str), inClass (top 15) 0, .V⟩
def e3 : ErrQ := ⟨("InvalidTurn" : Str), ("InvalidTurn" : Str), none, ("InvalidTurn.__init__" : Str), inClass (top 13) 0, .V⟩
def e4 : ErrQ := ⟨("InvalidPicture" : Str), ("InvalidPicture" : Str), none, ("InvalidPicture.__init__" : Str), inClass (top 7) 0, .V⟩
def e5 : ErrQ := ⟨("ParseError" : Str), ("ParseError" : Str), some ("line" : Str), ("ParseError.__init__" : Str), inClass (top 26) 0, .V⟩
def e6 : ErrQ := ⟨("InvalidCommand" : Str), ("InvalidCommand" : Str), some ("word" : Str), ("InvalidCommand.__init__" : Str), inClass (top 25) 0, .V⟩
def e7 : ErrQ := ⟨("CapacityExceeded" : Str), ("CapacityExceeded" : Str), some ("limit" : Str), ("CapacityExceeded.__init__" : Str), inClass (top 23) 0, .V⟩
def e8 : ErrQ := ⟨("UnknownName" : Str), ("UnknownName" : Str), some ("name" : Str), ("UnknownName.__init__" : Str), inClass (top 27) 0, .L⟩
def e9 : ErrQ := ⟨("DuplicateName" : Str), ("DuplicateName" : Str), some ("name" : Str), ("DuplicateName.__init__" : Str), inClass (top 22) 0, .V⟩
def e10 : ErrQ := ⟨("InvalidName" : Str), ("InvalidName" : Str), some ("name" : Str), ("InvalidName.__init__" : Str), inClass (top 21) 0, .V⟩
def e11 : ErrQ := ⟨("NotCovered" : Str), ("NotCovered" : Str), some ("cell" : Str), ("NotCovered.__init__" : Str), inClass (top 19) 0, .V⟩
def e12 : ErrQ := ⟨("TooFar" : Str), ("TooFar" : Str), some ("most" : Str), ("TooFar.__init__" : Str), inClass (top 9) 0, .V⟩
def e13 : ErrQ := ⟨("TooMany" : Str), ("TooMany" : Str), some ("most" : Str), ("TooMany.__init__" : Str), inClass (top 6) 0, .V⟩
def e14 : ErrQ := ⟨("OutOfReach" : Str), ("OutOfReach" : Str), some ("index" : Str), ("OutOfReach.__init__" : Str), inClass (top 14) 0, .V⟩
def e15 : ErrQ := ⟨("DuplicateShape" : Str), ("DuplicateShape" : Str), some ("index" : Str), ("DuplicateShape.__init__" : Str), inClass (top 5) 0, .V⟩
def e16 : ErrQ := ⟨("InvalidShape" : Str), ("InvalidShape" : Str), some ("index" : Str), ("InvalidShape.__init__" : Str), inClass (top 4) 0, .V⟩
def e17 : ErrQ := ⟨("InvalidLimit" : Str), ("InvalidLimit" : Str), some ("given" : Str), ("InvalidLimit.__init__" : Str), inClass (top 24) 0, .V⟩
def e18 : ErrQ := ⟨("NoRun" : Str), ("NoRun" : Str), some ("given" : Str), ("NoRun.__init__" : Str), inClass (top 18) 0, .V⟩
def e19 : ErrQ := ⟨("RunningEdge" : Str), ("RunningEdge" : Str), some ("given" : Str), ("RunningEdge.__init__" : Str), inClass (top 17) 0, .V⟩
def e20 : ErrQ := ⟨("OpenDirection" : Str), ("OpenDirection" : Str), some ("given" : Str), ("OpenDirection.__init__" : Str), inClass (top 16) 0, .V⟩
def e21 : ErrQ := ⟨("InvalidSide" : Str), ("InvalidSide" : Str), some ("given" : Str), ("InvalidSide.__init__" : Str), inClass (top 12) 0, .V⟩
def e22 : ErrQ := ⟨("InvalidIndex" : Str), ("InvalidIndex" : Str), some ("given" : Str), ("InvalidIndex.__init__" : Str), inClass (top 11) 0, .V⟩
def e23 : ErrQ := ⟨("InvalidCount" : Str), ("InvalidCount" : Str), some ("given" : Str), ("InvalidCount.__init__" : Str), inClass (top 10) 0, .V⟩
def e24 : ErrQ := ⟨("InvalidDirection" : Str), ("InvalidDirection" : Str), some ("given" : Str), ("InvalidDirection.__init__" : Str), inClass (top 8) 0, .V⟩
def e25 : ErrQ := ⟨("InvalidCell" : Str), ("InvalidCell" : Str), some ("given" : Str), ("InvalidCell.__init__" : Str), inClass (top 3) 0, .V⟩
def Q : QTab where
  defs := [(("_law_bag" : Str), q0), (("_law_pull" : Str), q1), (("_law_of" : Str), q2), (("_law_same" : Str), q3), (("_law_classes" : Str), q4), (("_law_first" : Str), q5), (("_law_second" : Str), q6), (("_law_other_way" : Str), q7), (("law" : Str), q8)]
  free := [("all" : Str), ("bool" : Str), ("int" : Str), ("isinstance" : Str), ("len" : Str), ("list" : Str), ("str" : Str), ("super" : Str), ("tuple" : Str), ("zip" : Str)]
  con := []
  fns := [("_law_bag" : Str), ("_law_pull" : Str), ("_law_of" : Str), ("_law_same" : Str), ("_law_classes" : Str), ("_law_first" : Str), ("_law_second" : Str), ("_law_other_way" : Str)]
  at_ := []
  me := []
  made := []
  set_ := []
  eq_ := []
  cm := []
  nes := []
  gd := []
  nam := [(("list" : Str), .ty "list"), (("tuple" : Str), .ty "tuple"), (("bool" : Str), .ty "bool"), (("int" : Str), .ty "int"), (("str" : Str), .ty "str"), (("InvalidCell" : Str), .own ("InvalidCell" : Str)), (("InvalidDirection" : Str), .own ("InvalidDirection" : Str)), (("InvalidCount" : Str), .own ("InvalidCount" : Str)), (("InvalidIndex" : Str), .own ("InvalidIndex" : Str)), (("InvalidSide" : Str), .own ("InvalidSide" : Str)), (("OpenDirection" : Str), .own ("OpenDirection" : Str)), (("RunningEdge" : Str), .own ("RunningEdge" : Str)), (("NoRun" : Str), .own ("NoRun" : Str)), (("InvalidLimit" : Str), .own ("InvalidLimit" : Str)), (("InvalidShape" : Str), .own ("InvalidShape" : Str)), (("DuplicateShape" : Str), .own ("DuplicateShape" : Str)), (("OutOfReach" : Str), .own ("OutOfReach" : Str)), (("TooMany" : Str), .own ("TooMany" : Str)), (("TooFar" : Str), .own ("TooFar" : Str)), (("NotCovered" : Str), .own ("NotCovered" : Str)), (("InvalidName" : Str), .own ("InvalidName" : Str)), (("DuplicateName" : Str), .own ("DuplicateName" : Str)), (("UnknownName" : Str), .own ("UnknownName" : Str)), (("CapacityExceeded" : Str), .own ("CapacityExceeded" : Str)), (("InvalidCommand" : Str), .own ("InvalidCommand" : Str)), (("ParseError" : Str), .own ("ParseError" : Str)), (("InvalidPicture" : Str), .own ("InvalidPicture" : Str)), (("InvalidTurn" : Str), .own ("InvalidTurn" : Str)), (("GrowingBook" : Str), .own ("GrowingBook" : Str)), (("InvalidText" : Str), .own ("InvalidText" : Str)), (("NothingLeft" : Str), .own ("NothingLeft" : Str)), (("IndexError" : Str), .ty "IndexError"), (("Missing" : Str), .own ("Missing" : Str)), (("FloorError" : Str), .own ("FloorError" : Str)), (("LookupError" : Str), .ty "LookupError"), (("ValueError" : Str), .ty "ValueError")]
  isi := [(.ty "int", [(.ty "list", false), (.ty "tuple", false), (.ty "bool", false), (.ty "int", true), (.ty "str", false)]), (.ty "bool", [(.ty "list", false), (.ty "tuple", false), (.ty "bool", true), (.ty "int", true), (.ty "str", false)]), (.ty "str", [(.ty "list", false), (.ty "tuple", false), (.ty "bool", false), (.ty "int", false), (.ty "str", true)]), (.ty "list", [(.ty "list", true), (.ty "tuple", false), (.ty "bool", false), (.ty "int", false), (.ty "str", false)]), (.ty "tuple", [(.ty "list", false), (.ty "tuple", true), (.ty "bool", false), (.ty "int", false), (.ty "str", false)]), (.ty "NoneType", [(.ty "list", false), (.ty "tuple", false), (.ty "bool", false), (.ty "int", false), (.ty "str", false)]), (.ty "dict", [(.ty "list", false), (.ty "tuple", false), (.ty "bool", false), (.ty "int", false), (.ty "str", false)]), (.own ("NothingLeft" : Str), [(.own ("InvalidCell" : Str), false), (.own ("InvalidDirection" : Str), false), (.own ("InvalidCount" : Str), false), (.own ("InvalidIndex" : Str), false), (.own ("InvalidSide" : Str), false), (.own ("OpenDirection" : Str), false), (.own ("RunningEdge" : Str), false), (.own ("NoRun" : Str), false), (.own ("InvalidLimit" : Str), false), (.own ("InvalidShape" : Str), false), (.own ("DuplicateShape" : Str), false), (.own ("OutOfReach" : Str), false), (.own ("TooMany" : Str), false), (.own ("TooFar" : Str), false), (.own ("NotCovered" : Str), false), (.own ("InvalidName" : Str), false), (.own ("DuplicateName" : Str), false), (.own ("UnknownName" : Str), false), (.own ("CapacityExceeded" : Str), false), (.own ("InvalidCommand" : Str), false), (.own ("ParseError" : Str), false), (.own ("InvalidPicture" : Str), false), (.own ("InvalidTurn" : Str), false), (.own ("GrowingBook" : Str), false), (.own ("InvalidText" : Str), false), (.own ("NothingLeft" : Str), true), (.ty "IndexError", true), (.own ("Missing" : Str), false), (.own ("FloorError" : Str), false), (.ty "LookupError", true), (.ty "ValueError", false)]), (.own ("InvalidText" : Str), [(.own ("InvalidCell" : Str), false), (.own ("InvalidDirection" : Str), false), (.own ("InvalidCount" : Str), false), (.own ("InvalidIndex" : Str), false), (.own ("InvalidSide" : Str), false), (.own ("OpenDirection" : Str), false), (.own ("RunningEdge" : Str), false), (.own ("NoRun" : Str), false), (.own ("InvalidLimit" : Str), false), (.own ("InvalidShape" : Str), false), (.own ("DuplicateShape" : Str), false), (.own ("OutOfReach" : Str), false), (.own ("TooMany" : Str), false), (.own ("TooFar" : Str), false), (.own ("NotCovered" : Str), false), (.own ("InvalidName" : Str), false), (.own ("DuplicateName" : Str), false), (.own ("UnknownName" : Str), false), (.own ("CapacityExceeded" : Str), false), (.own ("InvalidCommand" : Str), false), (.own ("ParseError" : Str), false), (.own ("InvalidPicture" : Str), false), (.own ("InvalidTurn" : Str), false), (.own ("GrowingBook" : Str), false), (.own ("InvalidText" : Str), true), (.own ("NothingLeft" : Str), false), (.ty "IndexError", false), (.own ("Missing" : Str), false), (.own ("FloorError" : Str), true), (.ty "LookupError", false), (.ty "ValueError", true)]), (.own ("GrowingBook" : Str), [(.own ("InvalidCell" : Str), false), (.own ("InvalidDirection" : Str), false), (.own ("InvalidCount" : Str), false), (.own ("InvalidIndex" : Str), false), (.own ("InvalidSide" : Str), false), (.own ("OpenDirection" : Str), false), (.own ("RunningEdge" : Str), false), (.own ("NoRun" : Str), false), (.own ("InvalidLimit" : Str), false), (.own ("InvalidShape" : Str), false), (.own ("DuplicateShape" : Str), false), (.own ("OutOfReach" : Str), false), (.own ("TooMany" : Str), false), (.own ("TooFar" : Str), false), (.own ("NotCovered" : Str), false), (.own ("InvalidName" : Str), false), (.own ("DuplicateName" : Str), false), (.own ("UnknownName" : Str), false), (.own ("CapacityExceeded" : Str), false), (.own ("InvalidCommand" : Str), false), (.own ("ParseError" : Str), false), (.own ("InvalidPicture" : Str), false), (.own ("InvalidTurn" : Str), false), (.own ("GrowingBook" : Str), true), (.own ("InvalidText" : Str), false), (.own ("NothingLeft" : Str), false), (.ty "IndexError", false), (.own ("Missing" : Str), false), (.own ("FloorError" : Str), true), (.ty "LookupError", false), (.ty "ValueError", true)]), (.own ("InvalidTurn" : Str), [(.own ("InvalidCell" : Str), false), (.own ("InvalidDirection" : Str), false), (.own ("InvalidCount" : Str), false), (.own ("InvalidIndex" : Str), false), (.own ("InvalidSide" : Str), false), (.own ("OpenDirection" : Str), false), (.own ("RunningEdge" : Str), false), (.own ("NoRun" : Str), false), (.own ("InvalidLimit" : Str), false), (.own ("InvalidShape" : Str), false), (.own ("DuplicateShape" : Str), false), (.own ("OutOfReach" : Str), false), (.own ("TooMany" : Str), false), (.own ("TooFar" : Str), false), (.own ("NotCovered" : Str), false), (.own ("InvalidName" : Str), false), (.own ("DuplicateName" : Str), false), (.own ("UnknownName" : Str), false), (.own ("CapacityExceeded" : Str), false), (.own ("InvalidCommand" : Str), false), (.own ("ParseError" : Str), false), (.own ("InvalidPicture" : Str), false), (.own ("InvalidTurn" : Str), true), (.own ("GrowingBook" : Str), false), (.own ("InvalidText" : Str), false), (.own ("NothingLeft" : Str), false), (.ty "IndexError", false), (.own ("Missing" : Str), false), (.own ("FloorError" : Str), true), (.ty "LookupError", false), (.ty "ValueError", true)]), (.own ("InvalidPicture" : Str), [(.own ("InvalidCell" : Str), false), (.own ("InvalidDirection" : Str), false), (.own ("InvalidCount" : Str), false), (.own ("InvalidIndex" : Str), false), (.own ("InvalidSide" : Str), false), (.own ("OpenDirection" : Str), false), (.own ("RunningEdge" : Str), false), (.own ("NoRun" : Str), false), (.own ("InvalidLimit" : Str), false), (.own ("InvalidShape" : Str), false), (.own ("DuplicateShape" : Str), false), (.own ("OutOfReach" : Str), false), (.own ("TooMany" : Str), false), (.own ("TooFar" : Str), false), (.own ("NotCovered" : Str), false), (.own ("InvalidName" : Str), false), (.own ("DuplicateName" : Str), false), (.own ("UnknownName" : Str), false), (.own ("CapacityExceeded" : Str), false), (.own ("InvalidCommand" : Str), false), (.own ("ParseError" : Str), false), (.own ("InvalidPicture" : Str), true), (.own ("InvalidTurn" : Str), false), (.own ("GrowingBook" : Str), false), (.own ("InvalidText" : Str), false), (.own ("NothingLeft" : Str), false), (.ty "IndexError", false), (.own ("Missing" : Str), false), (.own ("FloorError" : Str), true), (.ty "LookupError", false), (.ty "ValueError", true)]), (.own ("ParseError" : Str), [(.own ("InvalidCell" : Str), false), (.own ("InvalidDirection" : Str), false), (.own ("InvalidCount" : Str), false), (.own ("InvalidIndex" : Str), false), (.own ("InvalidSide" : Str), false), (.own ("OpenDirection" : Str), false), (.own ("RunningEdge" : Str), false), (.own ("NoRun" : Str), false), (.own ("InvalidLimit" : Str), false), (.own ("InvalidShape" : Str), false), (.own ("DuplicateShape" : Str), false), (.own ("OutOfReach" : Str), false), (.own ("TooMany" : Str), false), (.own ("TooFar" : Str), false), (.own ("NotCovered" : Str), false), (.own ("InvalidName" : Str), false), (.own ("DuplicateName" : Str), false), (.own ("UnknownName" : Str), false), (.own ("CapacityExceeded" : Str), false), (.own ("InvalidCommand" : Str), false), (.own ("ParseError" : Str), true), (.own ("InvalidPicture" : Str), false), (.own ("InvalidTurn" : Str), false), (.own ("GrowingBook" : Str), false), (.own ("InvalidText" : Str), false), (.own ("NothingLeft" : Str), false), (.ty "IndexError", false), (.own ("Missing" : Str), false), (.own ("FloorError" : Str), true), (.ty "LookupError", false), (.ty "ValueError", true)]), (.own ("InvalidCommand" : Str), [(.own ("InvalidCell" : Str), false), (.own ("InvalidDirection" : Str), false), (.own ("InvalidCount" : Str), false), (.own ("InvalidIndex" : Str), false), (.own ("InvalidSide" : Str), false), (.own ("OpenDirection" : Str), false), (.own ("RunningEdge" : Str), false), (.own ("NoRun" : Str), false), (.own ("InvalidLimit" : Str), false), (.own ("InvalidShape" : Str), false), (.own ("DuplicateShape" : Str), false), (.own ("OutOfReach" : Str), false), (.own ("TooMany" : Str), false), (.own ("TooFar" : Str), false), (.own ("NotCovered" : Str), false), (.own ("InvalidName" : Str), false), (.own ("DuplicateName" : Str), false), (.own ("UnknownName" : Str), false), (.own ("CapacityExceeded" : Str), false), (.own ("InvalidCommand" : Str), true), (.own ("ParseError" : Str), false), (.own ("InvalidPicture" : Str), false), (.own ("InvalidTurn" : Str), false), (.own ("GrowingBook" : Str), false), (.own ("InvalidText" : Str), false), (.own ("NothingLeft" : Str), false), (.ty "IndexError", false), (.own ("Missing" : Str), false), (.own ("FloorError" : Str), true), (.ty "LookupError", false), (.ty "ValueError", true)]), (.own ("CapacityExceeded" : Str), [(.own ("InvalidCell" : Str), false), (.own ("InvalidDirection" : Str), false), (.own ("InvalidCount" : Str), false), (.own ("InvalidIndex" : Str), false), (.own ("InvalidSide" : Str), false), (.own ("OpenDirection" : Str), false), (.own ("RunningEdge" : Str), false), (.own ("NoRun" : Str), false), (.own ("InvalidLimit" : Str), false), (.own ("InvalidShape" : Str), false), (.own ("DuplicateShape" : Str), false), (.own ("OutOfReach" : Str), false), (.own ("TooMany" : Str), false), (.own ("TooFar" : Str), false), (.own ("NotCovered" : Str), false), (.own ("InvalidName" : Str), false), (.own ("DuplicateName" : Str), false), (.own ("UnknownName" : Str), false), (.own ("CapacityExceeded" : Str), true), (.own ("InvalidCommand" : Str), false), (.own ("ParseError" : Str), false), (.own ("InvalidPicture" : Str), false), (.own ("InvalidTurn" : Str), false), (.own ("GrowingBook" : Str), false), (.own ("InvalidText" : Str), false), (.own ("NothingLeft" : Str), false), (.ty "IndexError", false), (.own ("Missing" : Str), false), (.own ("FloorError" : Str), true), (.ty "LookupError", false), (.ty "ValueError", true)]), (.own ("UnknownName" : Str), [(.own ("InvalidCell" : Str), false), (.own ("InvalidDirection" : Str), false), (.own ("InvalidCount" : Str), false), (.own ("InvalidIndex" : Str), false), (.own ("InvalidSide" : Str), false), (.own ("OpenDirection" : Str), false), (.own ("RunningEdge" : Str), false), (.own ("NoRun" : Str), false), (.own ("InvalidLimit" : Str), false), (.own ("InvalidShape" : Str), false), (.own ("DuplicateShape" : Str), false), (.own ("OutOfReach" : Str), false), (.own ("TooMany" : Str), false), (.own ("TooFar" : Str), false), (.own ("NotCovered" : Str), false), (.own ("InvalidName" : Str), false), (.own ("DuplicateName" : Str), false), (.own ("UnknownName" : Str), true), (.own ("CapacityExceeded" : Str), false), (.own ("InvalidCommand" : Str), false), (.own ("ParseError" : Str), false), (.own ("InvalidPicture" : Str), false), (.own ("InvalidTurn" : Str), false), (.own ("GrowingBook" : Str), false), (.own ("InvalidText" : Str), false), (.own ("NothingLeft" : Str), false), (.ty "IndexError", false), (.own ("Missing" : Str), true), (.own ("FloorError" : Str), false), (.ty "LookupError", true), (.ty "ValueError", false)]), (.own ("DuplicateName" : Str), [(.own ("InvalidCell" : Str), false), (.own ("InvalidDirection" : Str), false), (.own ("InvalidCount" : Str), false), (.own ("InvalidIndex" : Str), false), (.own ("InvalidSide" : Str), false), (.own ("OpenDirection" : Str), false), (.own ("RunningEdge" : Str), false), (.own ("NoRun" : Str), false), (.own ("InvalidLimit" : Str), false), (.own ("InvalidShape" : Str), false), (.own ("DuplicateShape" : Str), false), (.own ("OutOfReach" : Str), false), (.own ("TooMany" : Str), false), (.own ("TooFar" : Str), false), (.own ("NotCovered" : Str), false), (.own ("InvalidName" : Str), false), (.own ("DuplicateName" : Str), true), (.own ("UnknownName" : Str), false), (.own ("CapacityExceeded" : Str), false), (.own ("InvalidCommand" : Str), false), (.own ("ParseError" : Str), false), (.own ("InvalidPicture" : Str), false), (.own ("InvalidTurn" : Str), false), (.own ("GrowingBook" : Str), false), (.own ("InvalidText" : Str), false), (.own ("NothingLeft" : Str), false), (.ty "IndexError", false), (.own ("Missing" : Str), false), (.own ("FloorError" : Str), true), (.ty "LookupError", false), (.ty "ValueError", true)]), (.own ("InvalidName" : Str), [(.own ("InvalidCell" : Str), false), (.own ("InvalidDirection" : Str), false), (.own ("InvalidCount" : Str), false), (.own ("InvalidIndex" : Str), false), (.own ("InvalidSide" : Str), false), (.own ("OpenDirection" : Str), false), (.own ("RunningEdge" : Str), false), (.own ("NoRun" : Str), false), (.own ("InvalidLimit" : Str), false), (.own ("InvalidShape" : Str), false), (.own ("DuplicateShape" : Str), false), (.own ("OutOfReach" : Str), false), (.own ("TooMany" : Str), false), (.own ("TooFar" : Str), false), (.own ("NotCovered" : Str), false), (.own ("InvalidName" : Str), true), (.own ("DuplicateName" : Str), false), (.own ("UnknownName" : Str), false), (.own ("CapacityExceeded" : Str), false), (.own ("InvalidCommand" : Str), false), (.own ("ParseError" : Str), false), (.own ("InvalidPicture" : Str), false), (.own ("InvalidTurn" : Str), false), (.own ("GrowingBook" : Str), false), (.own ("InvalidText" : Str), false), (.own ("NothingLeft" : Str), false), (.ty "IndexError", false), (.own ("Missing" : Str), false), (.own ("FloorError" : Str), true), (.ty "LookupError", false), (.ty "ValueError", true)]), (.own ("NotCovered" : Str), [(.own ("InvalidCell" : Str), false), (.own ("InvalidDirection" : Str), false), (.own ("InvalidCount" : Str), false), (.own ("InvalidIndex" : Str), false), (.own ("InvalidSide" : Str), false), (.own ("OpenDirection" : Str), false), (.own ("RunningEdge" : Str), false), (.own ("NoRun" : Str), false), (.own ("InvalidLimit" : Str), false), (.own ("InvalidShape" : Str), false), (.own ("DuplicateShape" : Str), false), (.own ("OutOfReach" : Str), false), (.own ("TooMany" : Str), false), (.own ("TooFar" : Str), false), (.own ("NotCovered" : Str), true), (.own ("InvalidName" : Str), false), (.own ("DuplicateName" : Str), false), (.own ("UnknownName" : Str), false), (.own ("CapacityExceeded" : Str), false), (.own ("InvalidCommand" : Str), false), (.own ("ParseError" : Str), false), (.own ("InvalidPicture" : Str), false), (.own ("InvalidTurn" : Str), false), (.own ("GrowingBook" : Str), false), (.own ("InvalidText" : Str), false), (.own ("NothingLeft" : Str), false), (.ty "IndexError", false), (.own ("Missing" : Str), false), (.own ("FloorError" : Str), true), (.ty "LookupError", false), (.ty "ValueError", true)]), (.own ("TooFar" : Str), [(.own ("InvalidCell" : Str), false), (.own ("InvalidDirection" : Str), false), (.own ("InvalidCount" : Str), false), (.own ("InvalidIndex" : Str), false), (.own ("InvalidSide" : Str), false), (.own ("OpenDirection" : Str), false), (.own ("RunningEdge" : Str), false), (.own ("NoRun" : Str), false), (.own ("InvalidLimit" : Str), false), (.own ("InvalidShape" : Str), false), (.own ("DuplicateShape" : Str), false), (.own ("OutOfReach" : Str), false), (.own ("TooMany" : Str), false), (.own ("TooFar" : Str), true), (.own ("NotCovered" : Str), false), (.own ("InvalidName" : Str), false), (.own ("DuplicateName" : Str), false), (.own ("UnknownName" : Str), false), (.own ("CapacityExceeded" : Str), false), (.own ("InvalidCommand" : Str), false), (.own ("ParseError" : Str), false), (.own ("InvalidPicture" : Str), false), (.own ("InvalidTurn" : Str), false), (.own ("GrowingBook" : Str), false), (.own ("InvalidText" : Str), false), (.own ("NothingLeft" : Str), false), (.ty "IndexError", false), (.own ("Missing" : Str), false), (.own ("FloorError" : Str), true), (.ty "LookupError", false), (.ty "ValueError", true)]), (.own ("TooMany" : Str), [(.own ("InvalidCell" : Str), false), (.own ("InvalidDirection" : Str), false), (.own ("InvalidCount" : Str), false), (.own ("InvalidIndex" : Str), false), (.own ("InvalidSide" : Str), false), (.own ("OpenDirection" : Str), false), (.own ("RunningEdge" : Str), false), (.own ("NoRun" : Str), false), (.own ("InvalidLimit" : Str), false), (.own ("InvalidShape" : Str), false), (.own ("DuplicateShape" : Str), false), (.own ("OutOfReach" : Str), false), (.own ("TooMany" : Str), true), (.own ("TooFar" : Str), false), (.own ("NotCovered" : Str), false), (.own ("InvalidName" : Str), false), (.own ("DuplicateName" : Str), false), (.own ("UnknownName" : Str), false), (.own ("CapacityExceeded" : Str), false), (.own ("InvalidCommand" : Str), false), (.own ("ParseError" : Str), false), (.own ("InvalidPicture" : Str), false), (.own ("InvalidTurn" : Str), false), (.own ("GrowingBook" : Str), false), (.own ("InvalidText" : Str), false), (.own ("NothingLeft" : Str), false), (.ty "IndexError", false), (.own ("Missing" : Str), false), (.own ("FloorError" : Str), true), (.ty "LookupError", false), (.ty "ValueError", true)]), (.own ("OutOfReach" : Str), [(.own ("InvalidCell" : Str), false), (.own ("InvalidDirection" : Str), false), (.own ("InvalidCount" : Str), false), (.own ("InvalidIndex" : Str), false), (.own ("InvalidSide" : Str), false), (.own ("OpenDirection" : Str), false), (.own ("RunningEdge" : Str), false), (.own ("NoRun" : Str), false), (.own ("InvalidLimit" : Str), false), (.own ("InvalidShape" : Str), false), (.own ("DuplicateShape" : Str), false), (.own ("OutOfReach" : Str), true), (.own ("TooMany" : Str), false), (.own ("TooFar" : Str), false), (.own ("NotCovered" : Str), false), (.own ("InvalidName" : Str), false), (.own ("DuplicateName" : Str), false), (.own ("UnknownName" : Str), false), (.own ("CapacityExceeded" : Str), false), (.own ("InvalidCommand" : Str), false), (.own ("ParseError" : Str), false), (.own ("InvalidPicture" : Str), false), (.own ("InvalidTurn" : Str), false), (.own ("GrowingBook" : Str), false), (.own ("InvalidText" : Str), false), (.own ("NothingLeft" : Str), false), (.ty "IndexError", false), (.own ("Missing" : Str), false), (.own ("FloorError" : Str), true), (.ty "LookupError", false), (.ty "ValueError", true)]), (.own ("DuplicateShape" : Str), [(.own ("InvalidCell" : Str), false), (.own ("InvalidDirection" : Str), false), (.own ("InvalidCount" : Str), false), (.own ("InvalidIndex" : Str), false), (.own ("InvalidSide" : Str), false), (.own ("OpenDirection" : Str), false), (.own ("RunningEdge" : Str), false), (.own ("NoRun" : Str), false), (.own ("InvalidLimit" : Str), false), (.own ("InvalidShape" : Str), false), (.own ("DuplicateShape" : Str), true), (.own ("OutOfReach" : Str), false), (.own ("TooMany" : Str), false), (.own ("TooFar" : Str), false), (.own ("NotCovered" : Str), false), (.own ("InvalidName" : Str), false), (.own ("DuplicateName" : Str), false), (.own ("UnknownName" : Str), false), (.own ("CapacityExceeded" : Str), false), (.own ("InvalidCommand" : Str), false), (.own ("ParseError" : Str), false), (.own ("InvalidPicture" : Str), false), (.own ("InvalidTurn" : Str), false), (.own ("GrowingBook" : Str), false), (.own ("InvalidText" : Str), false), (.own ("NothingLeft" : Str), false), (.ty "IndexError", false), (.own ("Missing" : Str), false), (.own ("FloorError" : Str), true), (.ty "LookupError", false), (.ty "ValueError", true)]), (.own ("InvalidShape" : Str), [(.own ("InvalidCell" : Str), false), (.own ("InvalidDirection" : Str), false), (.own ("InvalidCount" : Str), false), (.own ("InvalidIndex" : Str), false), (.own ("InvalidSide" : Str), false), (.own ("OpenDirection" : Str), false), (.own ("RunningEdge" : Str), false), (.own ("NoRun" : Str), false), (.own ("InvalidLimit" : Str), false), (.own ("InvalidShape" : Str), true), (.own ("DuplicateShape" : Str), false), (.own ("OutOfReach" : Str), false), (.own ("TooMany" : Str), false), (.own ("TooFar" : Str), false), (.own ("NotCovered" : Str), false), (.own ("InvalidName" : Str), false), (.own ("DuplicateName" : Str), false), (.own ("UnknownName" : Str), false), (.own ("CapacityExceeded" : Str), false), (.own ("InvalidCommand" : Str), false), (.own ("ParseError" : Str), false), (.own ("InvalidPicture" : Str), false), (.own ("InvalidTurn" : Str), false), (.own ("GrowingBook" : Str), false), (.own ("InvalidText" : Str), false), (.own ("NothingLeft" : Str), false), (.ty "IndexError", false), (.own ("Missing" : Str), false), (.own ("FloorError" : Str), true), (.ty "LookupError", false), (.ty "ValueError", true)]), (.own ("InvalidLimit" : Str), [(.own ("InvalidCell" : Str), false), (.own ("InvalidDirection" : Str), false), (.own ("InvalidCount" : Str), false), (.own ("InvalidIndex" : Str), false), (.own ("InvalidSide" : Str), false), (.own ("OpenDirection" : Str), false), (.own ("RunningEdge" : Str), false), (.own ("NoRun" : Str), false), (.own ("InvalidLimit" : Str), true), (.own ("InvalidShape" : Str), false), (.own ("DuplicateShape" : Str), false), (.own ("OutOfReach" : Str), false), (.own ("TooMany" : Str), false), (.own ("TooFar" : Str), false), (.own ("NotCovered" : Str), false), (.own ("InvalidName" : Str), false), (.own ("DuplicateName" : Str), false), (.own ("UnknownName" : Str), false), (.own ("CapacityExceeded" : Str), false), (.own ("InvalidCommand" : Str), false), (.own ("ParseError" : Str), false), (.own ("InvalidPicture" : Str), false), (.own ("InvalidTurn" : Str), false), (.own ("GrowingBook" : Str), false), (.own ("InvalidText" : Str), false), (.own ("NothingLeft" : Str), false), (.ty "IndexError", false), (.own ("Missing" : Str), false), (.own ("FloorError" : Str), true), (.ty "LookupError", false), (.ty "ValueError", true)]), (.own ("NoRun" : Str), [(.own ("InvalidCell" : Str), false), (.own ("InvalidDirection" : Str), false), (.own ("InvalidCount" : Str), false), (.own ("InvalidIndex" : Str), false), (.own ("InvalidSide" : Str), false), (.own ("OpenDirection" : Str), false), (.own ("RunningEdge" : Str), false), (.own ("NoRun" : Str), true), (.own ("InvalidLimit" : Str), false), (.own ("InvalidShape" : Str), false), (.own ("DuplicateShape" : Str), false), (.own ("OutOfReach" : Str), false), (.own ("TooMany" : Str), false), (.own ("TooFar" : Str), false), (.own ("NotCovered" : Str), false), (.own ("InvalidName" : Str), false), (.own ("DuplicateName" : Str), false), (.own ("UnknownName" : Str), false), (.own ("CapacityExceeded" : Str), false), (.own ("InvalidCommand" : Str), false), (.own ("ParseError" : Str), false), (.own ("InvalidPicture" : Str), false), (.own ("InvalidTurn" : Str), false), (.own ("GrowingBook" : Str), false), (.own ("InvalidText" : Str), false), (.own ("NothingLeft" : Str), false), (.ty "IndexError", false), (.own ("Missing" : Str), false), (.own ("FloorError" : Str), true), (.ty "LookupError", false), (.ty "ValueError", true)]), (.own ("RunningEdge" : Str), [(.own ("InvalidCell" : Str), false), (.own ("InvalidDirection" : Str), false), (.own ("InvalidCount" : Str), false), (.own ("InvalidIndex" : Str), false), (.own ("InvalidSide" : Str), false), (.own ("OpenDirection" : Str), false), (.own ("RunningEdge" : Str), true), (.own ("NoRun" : Str), false), (.own ("InvalidLimit" : Str), false), (.own ("InvalidShape" : Str), false), (.own ("DuplicateShape" : Str), false), (.own ("OutOfReach" : Str), false), (.own ("TooMany" : Str), false), (.own ("TooFar" : Str), false), (.own ("NotCovered" : Str), false), (.own ("InvalidName" : Str), false), (.own ("DuplicateName" : Str), false), (.own ("UnknownName" : Str), false), (.own ("CapacityExceeded" : Str), false), (.own ("InvalidCommand" : Str), false), (.own ("ParseError" : Str), false), (.own ("InvalidPicture" : Str), false), (.own ("InvalidTurn" : Str), false), (.own ("GrowingBook" : Str), false), (.own ("InvalidText" : Str), false), (.own ("NothingLeft" : Str), false), (.ty "IndexError", false), (.own ("Missing" : Str), false), (.own ("FloorError" : Str), true), (.ty "LookupError", false), (.ty "ValueError", true)]), (.own ("OpenDirection" : Str), [(.own ("InvalidCell" : Str), false), (.own ("InvalidDirection" : Str), false), (.own ("InvalidCount" : Str), false), (.own ("InvalidIndex" : Str), false), (.own ("InvalidSide" : Str), false), (.own ("OpenDirection" : Str), true), (.own ("RunningEdge" : Str), false), (.own ("NoRun" : Str), false), (.own ("InvalidLimit" : Str), false), (.own ("InvalidShape" : Str), false), (.own ("DuplicateShape" : Str), false), (.own ("OutOfReach" : Str), false), (.own ("TooMany" : Str), false), (.own ("TooFar" : Str), false), (.own ("NotCovered" : Str), false), (.own ("InvalidName" : Str), false), (.own ("DuplicateName" : Str), false), (.own ("UnknownName" : Str), false), (.own ("CapacityExceeded" : Str), false), (.own ("InvalidCommand" : Str), false), (.own ("ParseError" : Str), false), (.own ("InvalidPicture" : Str), false), (.own ("InvalidTurn" : Str), false), (.own ("GrowingBook" : Str), false), (.own ("InvalidText" : Str), false), (.own ("NothingLeft" : Str), false), (.ty "IndexError", false), (.own ("Missing" : Str), false), (.own ("FloorError" : Str), true), (.ty "LookupError", false), (.ty "ValueError", true)]), (.own ("InvalidSide" : Str), [(.own ("InvalidCell" : Str), false), (.own ("InvalidDirection" : Str), false), (.own ("InvalidCount" : Str), false), (.own ("InvalidIndex" : Str), false), (.own ("InvalidSide" : Str), true), (.own ("OpenDirection" : Str), false), (.own ("RunningEdge" : Str), false), (.own ("NoRun" : Str), false), (.own ("InvalidLimit" : Str), false), (.own ("InvalidShape" : Str), false), (.own ("DuplicateShape" : Str), false), (.own ("OutOfReach" : Str), false), (.own ("TooMany" : Str), false), (.own ("TooFar" : Str), false), (.own ("NotCovered" : Str), false), (.own ("InvalidName" : Str), false), (.own ("DuplicateName" : Str), false), (.own ("UnknownName" : Str), false), (.own ("CapacityExceeded" : Str), false), (.own ("InvalidCommand" : Str), false), (.own ("ParseError" : Str), false), (.own ("InvalidPicture" : Str), false), (.own ("InvalidTurn" : Str), false), (.own ("GrowingBook" : Str), false), (.own ("InvalidText" : Str), false), (.own ("NothingLeft" : Str), false), (.ty "IndexError", false), (.own ("Missing" : Str), false), (.own ("FloorError" : Str), true), (.ty "LookupError", false), (.ty "ValueError", true)]), (.own ("InvalidIndex" : Str), [(.own ("InvalidCell" : Str), false), (.own ("InvalidDirection" : Str), false), (.own ("InvalidCount" : Str), false), (.own ("InvalidIndex" : Str), true), (.own ("InvalidSide" : Str), false), (.own ("OpenDirection" : Str), false), (.own ("RunningEdge" : Str), false), (.own ("NoRun" : Str), false), (.own ("InvalidLimit" : Str), false), (.own ("InvalidShape" : Str), false), (.own ("DuplicateShape" : Str), false), (.own ("OutOfReach" : Str), false), (.own ("TooMany" : Str), false), (.own ("TooFar" : Str), false), (.own ("NotCovered" : Str), false), (.own ("InvalidName" : Str), false), (.own ("DuplicateName" : Str), false), (.own ("UnknownName" : Str), false), (.own ("CapacityExceeded" : Str), false), (.own ("InvalidCommand" : Str), false), (.own ("ParseError" : Str), false), (.own ("InvalidPicture" : Str), false), (.own ("InvalidTurn" : Str), false), (.own ("GrowingBook" : Str), false), (.own ("InvalidText" : Str), false), (.own ("NothingLeft" : Str), false), (.ty "IndexError", false), (.own ("Missing" : Str), false), (.own ("FloorError" : Str), true), (.ty "LookupError", false), (.ty "ValueError", true)]), (.own ("InvalidCount" : Str), [(.own ("InvalidCell" : Str), false), (.own ("InvalidDirection" : Str), false), (.own ("InvalidCount" : Str), true), (.own ("InvalidIndex" : Str), false), (.own ("InvalidSide" : Str), false), (.own ("OpenDirection" : Str), false), (.own ("RunningEdge" : Str), false), (.own ("NoRun" : Str), false), (.own ("InvalidLimit" : Str), false), (.own ("InvalidShape" : Str), false), (.own ("DuplicateShape" : Str), false), (.own ("OutOfReach" : Str), false), (.own ("TooMany" : Str), false), (.own ("TooFar" : Str), false), (.own ("NotCovered" : Str), false), (.own ("InvalidName" : Str), false), (.own ("DuplicateName" : Str), false), (.own ("UnknownName" : Str), false), (.own ("CapacityExceeded" : Str), false), (.own ("InvalidCommand" : Str), false), (.own ("ParseError" : Str), false), (.own ("InvalidPicture" : Str), false), (.own ("InvalidTurn" : Str), false), (.own ("GrowingBook" : Str), false), (.own ("InvalidText" : Str), false), (.own ("NothingLeft" : Str), false), (.ty "IndexError", false), (.own ("Missing" : Str), false), (.own ("FloorError" : Str), true), (.ty "LookupError", false), (.ty "ValueError", true)]), (.own ("InvalidDirection" : Str), [(.own ("InvalidCell" : Str), false), (.own ("InvalidDirection" : Str), true), (.own ("InvalidCount" : Str), false), (.own ("InvalidIndex" : Str), false), (.own ("InvalidSide" : Str), false), (.own ("OpenDirection" : Str), false), (.own ("RunningEdge" : Str), false), (.own ("NoRun" : Str), false), (.own ("InvalidLimit" : Str), false), (.own ("InvalidShape" : Str), false), (.own ("DuplicateShape" : Str), false), (.own ("OutOfReach" : Str), false), (.own ("TooMany" : Str), false), (.own ("TooFar" : Str), false), (.own ("NotCovered" : Str), false), (.own ("InvalidName" : Str), false), (.own ("DuplicateName" : Str), false), (.own ("UnknownName" : Str), false), (.own ("CapacityExceeded" : Str), false), (.own ("InvalidCommand" : Str), false), (.own ("ParseError" : Str), false), (.own ("InvalidPicture" : Str), false), (.own ("InvalidTurn" : Str), false), (.own ("GrowingBook" : Str), false), (.own ("InvalidText" : Str), false), (.own ("NothingLeft" : Str), false), (.ty "IndexError", false), (.own ("Missing" : Str), false), (.own ("FloorError" : Str), true), (.ty "LookupError", false), (.ty "ValueError", true)]), (.own ("InvalidCell" : Str), [(.own ("InvalidCell" : Str), true), (.own ("InvalidDirection" : Str), false), (.own ("InvalidCount" : Str), false), (.own ("InvalidIndex" : Str), false), (.own ("InvalidSide" : Str), false), (.own ("OpenDirection" : Str), false), (.own ("RunningEdge" : Str), false), (.own ("NoRun" : Str), false), (.own ("InvalidLimit" : Str), false), (.own ("InvalidShape" : Str), false), (.own ("DuplicateShape" : Str), false), (.own ("OutOfReach" : Str), false), (.own ("TooMany" : Str), false), (.own ("TooFar" : Str), false), (.own ("NotCovered" : Str), false), (.own ("InvalidName" : Str), false), (.own ("DuplicateName" : Str), false), (.own ("UnknownName" : Str), false), (.own ("CapacityExceeded" : Str), false), (.own ("InvalidCommand" : Str), false), (.own ("ParseError" : Str), false), (.own ("InvalidPicture" : Str), false), (.own ("InvalidTurn" : Str), false), (.own ("GrowingBook" : Str), false), (.own ("InvalidText" : Str), false), (.own ("NothingLeft" : Str), false), (.ty "IndexError", false), (.own ("Missing" : Str), false), (.own ("FloorError" : Str), true), (.ty "LookupError", false), (.ty "ValueError", true)])]
  insT := []
  ownM := []
  md := [(("_law_bag_here" : Str), .obj), (("_law_pool" : Str), .own)]
  amd := []
  dtup := []
  fuel := 200
  err := [(("NothingLeft" : Str), e0), (("InvalidText" : Str), e1), (("GrowingBook" : Str), e2), (("InvalidTurn" : Str), e3), (("InvalidPicture" : Str), e4), (("ParseError" : Str), e5), (("InvalidCommand" : Str), e6), (("CapacityExceeded" : Str), e7), (("UnknownName" : Str), e8), (("DuplicateName" : Str), e9), (("InvalidName" : Str), e10), (("NotCovered" : Str), e11), (("TooFar" : Str), e12), (("TooMany" : Str), e13), (("OutOfReach" : Str), e14), (("DuplicateShape" : Str), e15), (("InvalidShape" : Str), e16), (("InvalidLimit" : Str), e17), (("NoRun" : Str), e18), (("RunningEdge" : Str), e19), (("OpenDirection" : Str), e20), (("InvalidSide" : Str), e21), (("InvalidIndex" : Str), e22), (("InvalidCount" : Str), e23), (("InvalidDirection" : Str), e24), (("InvalidCell" : Str), e25)]
  exf := [(("NothingLeft" : Str), ("tag" : Str)), (("InvalidText" : Str), ("tag" : Str)), (("GrowingBook" : Str), ("tag" : Str)), (("InvalidTurn" : Str), ("tag" : Str)), (("InvalidPicture" : Str), ("tag" : Str)), (("ParseError" : Str), ("tag" : Str)), (("ParseError" : Str), ("line" : Str)), (("InvalidCommand" : Str), ("tag" : Str)), (("InvalidCommand" : Str), ("word" : Str)), (("CapacityExceeded" : Str), ("tag" : Str)), (("CapacityExceeded" : Str), ("limit" : Str)), (("UnknownName" : Str), ("tag" : Str)), (("UnknownName" : Str), ("name" : Str)), (("DuplicateName" : Str), ("tag" : Str)), (("DuplicateName" : Str), ("name" : Str)), (("InvalidName" : Str), ("tag" : Str)), (("InvalidName" : Str), ("name" : Str)), (("NotCovered" : Str), ("tag" : Str)), (("NotCovered" : Str), ("cell" : Str)), (("TooFar" : Str), ("tag" : Str)), (("TooFar" : Str), ("most" : Str)), (("TooMany" : Str), ("tag" : Str)), (("TooMany" : Str), ("most" : Str)), (("OutOfReach" : Str), ("tag" : Str)), (("OutOfReach" : Str), ("index" : Str)), (("DuplicateShape" : Str), ("tag" : Str)), (("DuplicateShape" : Str), ("index" : Str)), (("InvalidShape" : Str), ("tag" : Str)), (("InvalidShape" : Str), ("index" : Str)), (("InvalidLimit" : Str), ("tag" : Str)), (("InvalidLimit" : Str), ("given" : Str)), (("NoRun" : Str), ("tag" : Str)), (("NoRun" : Str), ("given" : Str)), (("RunningEdge" : Str), ("tag" : Str)), (("RunningEdge" : Str), ("given" : Str)), (("OpenDirection" : Str), ("tag" : Str)), (("OpenDirection" : Str), ("given" : Str)), (("InvalidSide" : Str), ("tag" : Str)), (("InvalidSide" : Str), ("given" : Str)), (("InvalidIndex" : Str), ("tag" : Str)), (("InvalidIndex" : Str), ("given" : Str)), (("InvalidCount" : Str), ("tag" : Str)), (("InvalidCount" : Str), ("given" : Str)), (("InvalidDirection" : Str), ("tag" : Str)), (("InvalidDirection" : Str), ("given" : Str)), (("InvalidCell" : Str), ("tag" : Str)), (("InvalidCell" : Str), ("given" : Str))]
  excT := [("NothingLeft" : Str), ("InvalidText" : Str), ("GrowingBook" : Str), ("InvalidTurn" : Str), ("InvalidPicture" : Str), ("ParseError" : Str), ("InvalidCommand" : Str), ("CapacityExceeded" : Str), ("UnknownName" : Str), ("DuplicateName" : Str), ("InvalidName" : Str), ("NotCovered" : Str), ("TooFar" : Str), ("TooMany" : Str), ("OutOfReach" : Str), ("DuplicateShape" : Str), ("InvalidShape" : Str), ("InvalidLimit" : Str), ("NoRun" : Str), ("RunningEdge" : Str), ("OpenDirection" : Str), ("InvalidSide" : Str), ("InvalidIndex" : Str), ("InvalidCount" : Str), ("InvalidDirection" : Str), ("InvalidCell" : Str)]
  file := "/claim/cut.py"
def er : List ErrQ := [e0, e1, e2, e3, e4, e5, e6, e7, e8, e9, e10, e11, e12, e13, e14, e15, e16, e17, e18, e19, e20, e21, e22, e23, e24, e25]
def fn : List He5.DefA := [q0.a, q1.a, q2.a, q3.a, q4.a, q5.a, q6.a, q7.a, q8.a]
def ts : List He.Tab := []
def lo0 : List PySem.Str := [("FloorError" : Str), ("Missing" : Str), ("InvalidCell" : Str), ("InvalidShape" : Str), ("DuplicateShape" : Str), ("TooMany" : Str), ("InvalidPicture" : Str), ("InvalidDirection" : Str), ("TooFar" : Str), ("InvalidCount" : Str), ("InvalidIndex" : Str), ("InvalidSide" : Str), ("InvalidTurn" : Str), ("OutOfReach" : Str), ("GrowingBook" : Str), ("OpenDirection" : Str), ("RunningEdge" : Str), ("NoRun" : Str), ("NotCovered" : Str), ("InvalidText" : Str), ("InvalidName" : Str), ("DuplicateName" : Str), ("CapacityExceeded" : Str), ("InvalidLimit" : Str), ("InvalidCommand" : Str), ("ParseError" : Str), ("UnknownName" : Str), ("NothingLeft" : Str), ("_law_bag" : Str), ("_law_pull" : Str)]
def lo1 : List PySem.Str := [("_law_of" : Str), ("_law_same" : Str), ("_law_classes" : Str), ("_law_first" : Str), ("_law_second" : Str), ("_law_other_way" : Str)]
def loose : List PySem.Str := lo0 ++ lo1
abbrev R : PySem.W.OpenRow := PySem.W.OpenLaw.row PySem.Challenge.rw_stillsides_k73_errors_by_themselves
end K73
namespace K73
open PySem PySem.Spec PyProof.Rows L2 PD
def as : List Addr := [3, 24, 37, 59, 80, 101, 122, 143, 164, 185, 206, 227, 248, 269, 290, 311, 332, 353, 374, 395, 416, 437, 458, 479, 500, 521, 542, 563, 584, 594, 601, 608, 613, 618, 625, 632, 637, 642, 23, 36, 58, 79, 100, 121, 142, 163, 184, 205, 226, 247, 268, 289, 310, 331, 352, 373, 394, 415, 436, 457, 478, 499, 520, 541, 562, 583, 593, 600, 607, 612, 617, 624, 631, 636, 641, 56, 77, 98, 119, 140, 161, 182, 203, 224, 245, 266, 287, 308, 329, 350, 371, 392, 413, 434, 455, 476, 497, 518, 539, 560, 581, 55, 44, 76, 65, 97, 86, 118, 107, 139, 128, 160, 149, 181, 170, 202, 191, 223, 212, 244, 233, 265, 254, 286, 275, 307, 296, 328, 317, 349, 338, 370, 359, 391, 380, 412, 401, 433, 422, 454, 443, 475, 464, 496, 485, 517, 506, 538, 527, 559, 548, 580, 569, 2]
def ex (K : PySem.W.Frag) : Bool := Q.chk K && ((He.Fa.glo ("law" : Str)).ok K)
abbrev stepsM : Nat := 12000
abbrev hk : PySem.W.Hook := hookQ as ex fn er ts
def ob (s : PySem.W.SharedT) : AlQ := obsQG as ex fn er ts (HandSHeadRun.getT s)
theorem ob_eq (s : PySem.W.SharedT) : ob s = hk.obs s.abs := obsQG_eq (HandSHeadRun.getT_eq s)
theorem run0 (w : World) : HandSHeadRun.RunEq R (PySem.W.view R.prog [38]) hk ob stepsM loose (w.withFollow "special-get-raises" false) := by
  intro os
  kernel_rfl
theorem run1 (w : World) : HandSHeadRun.RunEq R (PySem.W.view R.prog [38]) hk ob stepsM loose (w.withFollow "special-get-raises" true) := by
  intro os
  kernel_rfl
theorem run (w : World) : HandSHeadRun.RunEq R (PySem.W.view R.prog [38]) hk ob stepsM loose w := PySem.W.byRow2 "special-get-raises" run0 run1 w
end K73

set_option autoImplicit false
namespace PD
open PySem PySem.Spec PyProof.Rows L2

/-- a key of a dict: an int or a text; a tuple of these -/
def dKey : D → Option Key
  | .int i => some (.inl i)
  | .str x => some (.inr x)
  | _ => none
def dKeys : List D → Option (List Key)
  | [] => some []
  | d :: ds => match dKey d, dKeys ds with
    | some k, some ks => some (k :: ks)
    | _, _ => none
def dTup : D → Option (List Key)
  | .tup ds => dKeys ds
  | _ => none

section
variable (w : Wo) (β : List Addr) (G : Hp)
mutual
/-- v stands for d in the part G of the heap that does not change -/
def Rep : D → V → Prop
  | .non, v => v = .non
  | .bl b, v => v = .bl b
  | .int i, v => v = .int i
  | .str x, v => v = .str x ∧ x.length ≤ sizeLine
  | .tup ds, v => ds.length ≤ sizeLine ∧ ∃ a vs, v = .ref a ∧ G a = some (.tup vs) ∧ Reps ds vs
  | .lst ds, v => ds.length ≤ sizeLine ∧ ∃ a vs, v = .ref a ∧ G a = some (.lst vs) ∧ Reps ds vs
  | .fro ds, v => ds.length ≤ sizeLine ∧ ∃ a vs, v = .ref a ∧ SqL w.K G a vs ∧ Reps ds vs
  | .ftu ds, v => ds.length ≤ sizeLine ∧ ∃ a vs, v = .ref a ∧ SqT w.K G a vs ∧ Reps ds vs
  | .set _, _ => False
  | .dct kvs, v => kvs.length ≤ sizeLine ∧ ∃ a ks, v = .ref a ∧ Rd G a (.dK ks) ∧ RepsK kvs ks
  | .dtt kvs, v => kvs.length ≤ sizeLine ∧ ∃ a ks, v = .ref a ∧ Rd G a (.dT ks) ∧ RepsT kvs ks
  | .ins c fs, v => ∃ a dx gs, v = .ref a ∧ G a = some (.ins (w.ca c) dx gs) ∧ RepsF fs gs
  | .err c fs, v => ∃ a dx gs, v = .ref a ∧ G a = some (exo a (w.ca c) (some dx)) ∧ G dx = some (exd dx gs) ∧ RepsF fs gs
  | .obj n, v => ∃ a, β[n]? = some a ∧ v = .ref a
  | .loc _, _ => False
  | .glo x, v => v = .ref (w.ca x)
def Reps : List D → List V → Prop
  | [], vs => vs = []
  | d :: ds, vs => ∃ v r, vs = v :: r ∧ Rep d v ∧ Reps ds r
def RepsF : List (Str × D) → List (Str × V) → Prop
  | [], vs => vs = []
  | (f, d) :: ds, vs => ∃ v r, vs = (f, v) :: r ∧ Rep d v ∧ RepsF ds r
def RepsK : List (D × D) → List (Key × V) → Prop
  | [], vs => vs = []
  | (k, d) :: ds, vs => ∃ q v r, vs = (q, v) :: r ∧ dKey k = some q ∧ Rep d v ∧ RepsK ds r
def RepsT : List (D × D) → List (List Key × V) → Prop
  | [], vs => vs = []
  | (k, d) :: ds, vs => ∃ q v r, vs = (q, v) :: r ∧ dTup k = some q ∧ Rep d v ∧ RepsT ds r
end
end

/-- a dict -/
def isDO : HO → Bool
  | .dK _ => true
  | .dT _ => true
  | _ => false
/-- all of it stands -/
def SubE (G G' : Hp) : Prop := ∀ a o, G a = some o → G' a = some o
/-- all of it stands, a dict perhaps locked from now on -/
def SubH (G G' : Hp) : Prop := ∀ a o, G a = some o → G' a = some o ∨ (isDO o = true ∧ ∃ od, G' a = some (.frz od o))
theorem SubH.refl (G : Hp) : SubH G G := fun _ _ h => .inl h
theorem SubH.ex {G G' : Hp} (h : SubH G G') {a : Addr} {o : HO} (e : G a = some o) (n : isDO o = false) : G' a = some o := by
  rcases h a o e with h | ⟨h, _⟩
  · exact h
  · rw [n] at h; cases h
theorem SubE.h {G G' : Hp} (h : SubE G G') : SubH G G' := fun a o e => .inl (h a o e)
theorem SubH.trans {G G1 G2 : Hp} (a : SubH G G1) (b : SubH G1 G2) : SubH G G2 := fun x o h => by
  rcases a x o h with h1 | ⟨h1, od, h2⟩
  · exact b x o h1
  · exact .inr ⟨h1, od, b.ex h2 rfl⟩
theorem rd_mono {G G' : Hp} (h : SubH G G') {a : Addr} {u : HO} (e : Rd G a u) : Rd G' a u := by
  rcases e with e | ⟨o, e⟩
  · rcases h a u e with h | ⟨_, od, h⟩
    · exact .inl h
    · exact .inr ⟨od, h⟩
  · exact .inr ⟨o, h.ex e rfl⟩
def SubB (β β' : List Addr) : Prop := ∀ (n : Nat) (a : Addr), β[n]? = some a → β'[n]? = some a
theorem SubB.refl (β : List Addr) : SubB β β := fun _ _ h => h
theorem SubB.trans {β β1 β2 : List Addr} (a : SubB β β1) (b : SubB β1 β2) : SubB β β2 := fun x o h => b x o (a x o h)
theorem SubH.new {G : Hp} {p : Addr} {o : HO} (h : G p = none) : SubH G (upd G p o) := fun a u e => by
  rw [upd_ne (ne_of_none e h)]; exact .inl e
theorem SubB.app (β γ : List Addr) : SubB β (β ++ γ) := fun n a h => by
  rw [List.getElem?_append_left]; exact h
  exact (List.getElem?_eq_some_iff.mp h).1

section
variable {w : Wo} {β β' : List Addr} {G G' : Hp}
theorem tabN_upd {T : List NdefX.NTab} {H : Hp} (t : NdefX.TabsN T H) {p : Addr} {o : HO} (h1 : ∀ ps, H p ≠ some (.tbl ps)) (h2 : ∀ φ, H p ≠ some (.ext φ)) : NdefX.TabsN T (upd H p o) := fun q hq => by
  obtain ⟨ps, e, tr, h⟩ := t q hq
  refine ⟨ps, by rw [upd_ne (fun z => h1 ps (by rw [← z]; exact e))]; exact e, tr, fun pos cv hc => ?_⟩
  obtain ⟨c, e1, e2⟩ := h pos cv hc
  exact ⟨c, e1, by rw [upd_ne (fun z => h2 _ (by rw [← z]; exact e2))]; exact e2⟩
theorem tabN_new {T : List NdefX.NTab} {H : Hp} (t : NdefX.TabsN T H) {p : Addr} {o : HO} (h : H p = none) : NdefX.TabsN T (upd H p o) := tabN_upd t (fun _ e => by rw [h] at e; cases e) (fun _ e => by rw [h] at e; cases e)
theorem SqL.mono {K : PySem.W.Frag} (hG : SubH G G') {a : Addr} {xs : List V} (h : SqL K G a xs) : SqL K G' a xs := by
  rcases h with (h | ⟨o, h⟩) | h
  · exact .inl (.inl (hG.ex h rfl))
  · exact .inl (.inr ⟨o, hG.ex h rfl⟩)
  · exact .inr h
theorem SqT.mono {K : PySem.W.Frag} (hG : SubH G G') {a : Addr} {xs : List V} (h : SqT K G a xs) : SqT K G' a xs := by
  rcases h with (h | ⟨o, h⟩) | h
  · exact .inl (.inl (hG.ex h rfl))
  · exact .inl (.inr ⟨o, hG.ex h rfl⟩)
  · exact .inr h
mutual
theorem Rep.mono (hG : SubH G G') (hB : SubB β β') : ∀ (d : D) (v : V), Rep w β G d v → Rep w β' G' d v
  | .non, v, h => by unfold Rep at h ⊢; exact h
  | .bl b, v, h => by unfold Rep at h ⊢; exact h
  | .int i, v, h => by unfold Rep at h ⊢; exact h
  | .str x, v, h => by unfold Rep at h ⊢; exact h
  | .tup ds, v, h => by
    unfold Rep at h ⊢
    obtain ⟨z, a, vs, e, s, r⟩ := h
    exact ⟨z, a, vs, e, hG.ex s rfl, Reps.mono hG hB ds vs r⟩
  | .lst ds, v, h => by
    unfold Rep at h ⊢
    obtain ⟨z, a, vs, e, s, r⟩ := h
    exact ⟨z, a, vs, e, hG.ex s rfl, Reps.mono hG hB ds vs r⟩
  | .fro ds, v, h => by
    unfold Rep at h ⊢
    obtain ⟨z, a, vs, e, s, r⟩ := h
    exact ⟨z, a, vs, e, SqL.mono hG s, Reps.mono hG hB ds vs r⟩
  | .ftu ds, v, h => by
    unfold Rep at h ⊢
    obtain ⟨z, a, vs, e, s, r⟩ := h
    exact ⟨z, a, vs, e, SqT.mono hG s, Reps.mono hG hB ds vs r⟩
  | .set _, _, h => by unfold Rep at h; exact h.elim
  | .dct kvs, v, h => by
    unfold Rep at h ⊢
    obtain ⟨z, a, ks, e, s, r⟩ := h
    exact ⟨z, a, ks, e, rd_mono hG s, RepsK.mono hG hB kvs ks r⟩
  | .dtt kvs, v, h => by
    unfold Rep at h ⊢
    obtain ⟨z, a, ks, e, s, r⟩ := h
    exact ⟨z, a, ks, e, rd_mono hG s, RepsT.mono hG hB kvs ks r⟩
  | .ins c fs, v, h => by
    unfold Rep at h ⊢
    obtain ⟨a, dx, gs, e, s, r⟩ := h
    exact ⟨a, dx, gs, e, hG.ex s rfl, RepsF.mono hG hB fs gs r⟩
  | .err c fs, v, h => by
    unfold Rep at h ⊢
    obtain ⟨a, dx, gs, e, s, s2, r⟩ := h
    exact ⟨a, dx, gs, e, hG.ex s rfl, hG.ex s2 rfl, RepsF.mono hG hB fs gs r⟩
  | .obj n, v, h => by
    unfold Rep at h ⊢
    obtain ⟨a, e, h⟩ := h
    exact ⟨a, hB _ _ e, h⟩
  | .loc _, _, h => by unfold Rep at h; exact h.elim
  | .glo x, v, h => by unfold Rep at h ⊢; exact h
theorem Reps.mono (hG : SubH G G') (hB : SubB β β') : ∀ (ds : List D) (vs : List V), Reps w β G ds vs → Reps w β' G' ds vs
  | [], vs, h => by unfold Reps at h ⊢; exact h
  | d :: ds, vs, h => by
    unfold Reps at h ⊢
    obtain ⟨v, r, e, s, t⟩ := h
    exact ⟨v, r, e, Rep.mono hG hB d v s, Reps.mono hG hB ds r t⟩
theorem RepsF.mono (hG : SubH G G') (hB : SubB β β') : ∀ (ds : List (Str × D)) (vs : List (Str × V)), RepsF w β G ds vs → RepsF w β' G' ds vs
  | [], vs, h => by unfold RepsF at h ⊢; exact h
  | (f, d) :: ds, vs, h => by
    unfold RepsF at h ⊢
    obtain ⟨v, r, e, s, t⟩ := h
    exact ⟨v, r, e, Rep.mono hG hB d v s, RepsF.mono hG hB ds r t⟩
theorem RepsK.mono (hG : SubH G G') (hB : SubB β β') : ∀ (ds : List (D × D)) (vs : List (Key × V)), RepsK w β G ds vs → RepsK w β' G' ds vs
  | [], vs, h => by unfold RepsK at h ⊢; exact h
  | (k, d) :: ds, vs, h => by
    unfold RepsK at h ⊢
    obtain ⟨q, v, r, e, s, t, u⟩ := h
    exact ⟨q, v, r, e, s, Rep.mono hG hB d v t, RepsK.mono hG hB ds r u⟩
theorem RepsT.mono (hG : SubH G G') (hB : SubB β β') : ∀ (ds : List (D × D)) (vs : List (List Key × V)), RepsT w β G ds vs → RepsT w β' G' ds vs
  | [], vs, h => by unfold RepsT at h ⊢; exact h
  | (k, d) :: ds, vs, h => by
    unfold RepsT at h ⊢
    obtain ⟨q, v, r, e, s, t, u⟩ := h
    exact ⟨q, v, r, e, s, Rep.mono hG hB d v t, RepsT.mono hG hB ds r u⟩
end
theorem Reps.len : ∀ {ds : List D} {vs : List V}, Reps w β G ds vs → vs.length = ds.length
  | [], vs, h => by unfold Reps at h; rw [h]; rfl
  | d :: ds, vs, h => by
    unfold Reps at h
    obtain ⟨v, r, e, _, t⟩ := h
    rw [e, List.length_cons, List.length_cons, Reps.len t]
theorem Reps.nil : Reps w β G [] [] := by unfold Reps; rfl
theorem Reps.cons {d : D} {v : V} {ds : List D} {vs : List V} (h : Rep w β G d v) (t : Reps w β G ds vs) : Reps w β G (d :: ds) (v :: vs) := by
  unfold Reps; exact ⟨v, vs, rfl, h, t⟩
theorem Reps.app : ∀ {ds es : List D} {vs us : List V}, Reps w β G ds vs → Reps w β G es us → Reps w β G (ds ++ es) (vs ++ us)
  | [], es, vs, us, h, h' => by unfold Reps at h; rw [h]; exact h'
  | d :: ds, es, vs, us, h, h' => by
    unfold Reps at h
    obtain ⟨v, r, e, s, t⟩ := h
    rw [e]
    exact Reps.cons s (Reps.app t h')
theorem Reps.get : ∀ {ds : List D} {vs : List V} {i : Nat} {d : D}, Reps w β G ds vs → ds[i]? = some d → ∃ v, vs[i]? = some v ∧ Rep w β G d v
  | [], vs, i, d, h, e => by simp at e
  | d :: ds, vs, 0, d', h, e => by
    unfold Reps at h
    obtain ⟨v, r, e', s, t⟩ := h
    simp only [List.getElem?_cons_zero, Option.some.injEq] at e
    subst e
    exact ⟨v, by rw [e']; rfl, s⟩
  | d :: ds, vs, i + 1, d', h, e => by
    unfold Reps at h
    obtain ⟨v, r, e', s, t⟩ := h
    rw [List.getElem?_cons_succ] at e
    obtain ⟨u, h1, h2⟩ := Reps.get t e
    exact ⟨u, by rw [e', List.getElem?_cons_succ]; exact h1, h2⟩
theorem Reps.getV {ds : List D} {vs : List V} {i : Nat} {v : V} (h : Reps w β G ds vs) (e : vs[i]? = some v) : ∃ d, ds[i]? = some d ∧ Rep w β G d v := by
  have hl := h.len
  have hi : i < ds.length := by rw [← hl]; exact (List.getElem?_eq_some_iff.mp e).1
  obtain ⟨u, h1, h2⟩ := h.get (i := i) (d := ds[i]) (by simp [hi])
  rw [e] at h1
  cases h1
  exact ⟨ds[i], by simp [hi], h2⟩
theorem Reps.take : ∀ {ds : List D} {vs : List V} (n : Nat), Reps w β G ds vs → Reps w β G (ds.take n) (vs.take n)
  | ds, vs, 0, h => by simp; exact Reps.nil
  | [], vs, n + 1, h => by unfold Reps at h; rw [h]; simp; exact Reps.nil
  | d :: ds, vs, n + 1, h => by
    unfold Reps at h
    obtain ⟨v, r, e, s, t⟩ := h
    rw [e, List.take_succ_cons, List.take_succ_cons]
    exact Reps.cons s (Reps.take n t)
theorem Reps.drop : ∀ {ds : List D} {vs : List V} (n : Nat), Reps w β G ds vs → Reps w β G (ds.drop n) (vs.drop n)
  | ds, vs, 0, h => by simpa using h
  | [], vs, n + 1, h => by unfold Reps at h; rw [h]; simp; exact Reps.nil
  | d :: ds, vs, n + 1, h => by
    unfold Reps at h
    obtain ⟨v, r, e, s, t⟩ := h
    rw [e, List.drop_succ_cons, List.drop_succ_cons]
    exact Reps.drop n t
theorem Reps.set : ∀ {ds : List D} {vs : List V} {d : D} {v : V} (n : Nat), Reps w β G ds vs → Rep w β G d v → Reps w β G (ds.set n d) (vs.set n v)
  | [], vs, _, _, n, h, _ => by unfold Reps at h; rw [h]; simp; exact Reps.nil
  | d :: ds, vs, d', v', 0, h, h' => by
    unfold Reps at h
    obtain ⟨v, r, e, s, t⟩ := h
    rw [e, List.set_cons_zero, List.set_cons_zero]
    exact Reps.cons h' t
  | d :: ds, vs, d', v', n + 1, h, h' => by
    unfold Reps at h
    obtain ⟨v, r, e, s, t⟩ := h
    rw [e, List.set_cons_succ, List.set_cons_succ]
    exact Reps.cons s (Reps.set n t h')
end
end PD

set_option autoImplicit false
namespace PD
open PySem PySem.Spec PyProof.Rows L2

/-- a slot: nothing; a value (false); a container of the def's own, that no one else holds (true) -/
abbrev Slot := Option (Bool × D)
structure St where
  env : List Slot
  sto : List D
inductive Rz (α : Type) where
  | ok (a : α) (st : St)
  | exc (c : Str) (fs : List (Str × D)) (st : St)
  | bad
/-- a value, and whether no one else holds it -/
abbrev DV := D × Bool
abbrev M (α : Type) := St → Rz α
def M.ret {α : Type} (a : α) : M α := fun st => .ok a st
def M.bad {α : Type} : M α := fun _ => .bad
def M.bind {α β : Type} (m : M α) (f : α → M β) : M β := fun st => match m st with
  | .ok a st' => f a st'
  | .exc c fs st' => .exc c fs st'
  | .bad => .bad

/-- a container -/
def isCont : D → Bool
  | .lst _ => true
  | .dct _ => true
  | .dtt _ => true
  | .ins _ _ => true
  | _ => false
section
variable (w : Wo)
/-- the object at a is d's, and no one holds it but who tells -/
def Own (β : List Addr) (G H : Hp) (a : Addr) : D → Prop
  | .lst ds => ds.length ≤ sizeLine ∧ ∃ vs, H a = some (.lst vs) ∧ Reps w β G ds vs
  | .dct kvs => kvs.length ≤ sizeLine ∧ ∃ ks, H a = some (.dK ks) ∧ RepsK w β G kvs ks
  | .dtt kvs => kvs.length ≤ sizeLine ∧ ∃ ks, H a = some (.dT ks) ∧ RepsT w β G kvs ks
  | .ins c fs => ∃ dx gs, H a = some (.ins (w.ca c) dx gs) ∧ RepsF w β G fs gs
  | _ => False
/-- a is no container of the def's own -/
def NoOwn (σ : L2.St) (st : St) (a : Addr) : Prop := ∀ (i : Nat) (d : D), st.env[i]? = some (some (true, d)) → σ[i]? ≠ some (some (.ref a))
/-- the state: Fo what others hold for themselves alone; β the addresses of the stored objects, G the heap that does not change, H the heap -/
structure RS (Fo : Addr → Prop) (β : List Addr) (G H : Hp) (σ : L2.St) (st : St) : Prop where
  len : β.length = st.sto.length
  sub : SubE G H
  val : ∀ (i : Nat) (d : D), st.env[i]? = some (some (false, d)) → ∃ v, σ[i]? = some (some v) ∧ Rep w β G d v
  own : ∀ (i : Nat) (d : D), st.env[i]? = some (some (true, d)) → ∃ a, σ[i]? = some (some (.ref a)) ∧ G a = none ∧ a ∉ β ∧ Own w β G H a d
  dis : ∀ (i j : Nat) (d e : D) (a : Addr), st.env[i]? = some (some (true, d)) → st.env[j]? = some (some (true, e)) → σ[i]? = some (some (.ref a)) → σ[j]? = some (some (.ref a)) → i = j
  sto : ∀ (n : Nat) (d : D) (a : Addr), st.sto[n]? = some d → β[n]? = some a → G a = none ∧ Own w β G H a d
  nd : β.Nodup
  fo : ∀ a, Fo a → (∃ o, H a = some o) ∧ G a = none ∧ a ∉ β ∧ NoOwn σ st a
  ft : ∀ a, Fo a → ∀ xs, H a ≠ some (.tup xs)
  ln : σ.length = st.env.length
  tb : NdefX.TabsN w.T H
  tq : ∀ q, q ∈ w.T → G q.1 = none ∧ ¬ Fo q.1
/-- what a step leaves -/
structure Fr (Fo : Addr → Prop) (st : St) (β : List Addr) (G H : Hp) (st' : St) (β' : List Addr) (G' H' : Hp) : Prop where
  g : SubH G G'
  b : SubB β β'
  kp : ∀ a, Fo a → H' a = H a
  ow : ∀ (i : Nat) (b : Bool) (d : D), st.env[i]? = some (some (b, d)) → isCont d = true → ∃ b' d', st'.env[i]? = some (some (b', d')) ∧ isCont d' = true
/-- v stands for the value (d, f) -/
def RepV (Fo : Addr → Prop) (σ : L2.St) (st : St) (β : List Addr) (G H : Hp) (f : Bool) : D → V → Prop
  | .loc i, v => f = false ∧ σ[i]? = some (some v) ∧ ∃ b d', st.env[i]? = some (some (b, d')) ∧ isCont d' = true
  | d, v => if f = true then ∃ a, v = .ref a ∧ G a = none ∧ a ∉ β ∧ NoOwn σ st a ∧ ¬ Fo a ∧ Own w β G H a d else Rep w β G d v
def Out (W : WX) (Fo : Addr → Prop) (σ : L2.St) (st : St) (β : List Addr) (G H : Hp) (Q : VK) : Rz DV → Prop
  | .ok (d, f) st' => ∀ (v : V) (β' : List Addr) (G' H' : Hp), Fr Fo st β G H st' β' G' H' → RS w Fo β' G' H' σ st' → RepV w Fo σ st' β' G' H' f d v → Q v H'
  | .exc c fs st' => ∀ (β' : List Addr) (G' H' : Hp) (dx : Addr) (gs : List (Str × V)), Fr Fo st β G H st' β' G' H' → RS w Fo β' G' H' σ st' → H' dx = some (.xd gs) → RepsF w β' G' fs gs → W (.ref (w.ca c)) (some dx) σ H'
  | .bad => False
/-- the reading of an expression that computes m -/
def tD (W : WX) (m : M DV) : TE := fun σ H Q => ∃ (Fo : Addr → Prop) (β : List Addr) (G : Hp) (st : St), RS w Fo β G H σ st ∧ Out w W Fo σ st β G H Q (m st)
end

section
variable {w : Wo} {Fo Fo' : Addr → Prop} {σ : L2.St} {st st1 st2 : St} {β β1 β2 : List Addr} {G H G1 H1 G2 H2 : Hp}
theorem Fr.refl : Fr Fo st β G H st β G H := ⟨SubH.refl _, SubB.refl _, fun _ _ => rfl, fun _ b d h c => ⟨b, d, h, c⟩⟩
theorem Fr.trans (F : Fr Fo st β G H st1 β1 G1 H1) (F' : Fr Fo st1 β1 G1 H1 st2 β2 G2 H2) : Fr Fo st β G H st2 β2 G2 H2 where
  g := F.g.trans F'.g
  b := F.b.trans F'.b
  kp := fun a h => (F'.kp a h).trans (F.kp a h)
  ow := fun i b d h c => by
    obtain ⟨b', d', h', c'⟩ := F.ow i b d h c
    exact F'.ow i b' d' h' c'
theorem Fr.weak (F : Fr Fo' st β G H st1 β1 G1 H1) (h : ∀ a, Fo a → Fo' a) : Fr Fo st β G H st1 β1 G1 H1 := ⟨F.g, F.b, fun a q => F.kp a (h a q), F.ow⟩
theorem RS.weak (R : RS w Fo' β G H σ st) (h : ∀ a, Fo a → Fo' a) : RS w Fo β G H σ st := ⟨R.len, R.sub, R.val, R.own, R.dis, R.sto, R.nd, fun a q => R.fo a (h a q), fun a q => R.ft a (h a q), R.ln, R.tb, fun q hq => ⟨(R.tq q hq).1, fun z => (R.tq q hq).2 (h _ z)⟩⟩
theorem Own.mono {a : Addr} (hG : SubH G G1) (hB : SubB β β1) (hH : H1 a = H a) : ∀ (d : D), Own w β G H a d → Own w β1 G1 H1 a d
  | .lst ds, h => by obtain ⟨z, vs, e, r⟩ := h; exact ⟨z, vs, by rw [hH]; exact e, Reps.mono hG hB ds vs r⟩
  | .dct kvs, h => by obtain ⟨z, ks, e, r⟩ := h; exact ⟨z, ks, by rw [hH]; exact e, RepsK.mono hG hB kvs ks r⟩
  | .dtt kvs, h => by obtain ⟨z, ks, e, r⟩ := h; exact ⟨z, ks, by rw [hH]; exact e, RepsT.mono hG hB kvs ks r⟩
  | .ins c fs, h => by obtain ⟨dx, gs, e, r⟩ := h; exact ⟨dx, gs, by rw [hH]; exact e, RepsF.mono hG hB fs gs r⟩
  | .non, h => h.elim
  | .bl _, h => h.elim
  | .int _, h => h.elim
  | .str _, h => h.elim
  | .tup _, h => h.elim
  | .set _, h => h.elim
  | .fro _, h => h.elim
  | .ftu _, h => h.elim
  | .err _ _, h => h.elim
  | .obj _, h => h.elim
  | .loc _, h => h.elim
  | .glo _, h => h.elim
theorem Own.cont {a : Addr} : ∀ (d : D), Own w β G H a d → isCont d = true := fun d h => by
  cases d <;> first | rfl | exact h.elim
theorem Own.there {a : Addr} : ∀ (d : D), Own w β G H a d → ∃ o, H a = some o
  | .lst ds, h => by obtain ⟨_, vs, e, r⟩ := h; exact ⟨_, e⟩
  | .dct kvs, h => by obtain ⟨_, vs, e, r⟩ := h; exact ⟨_, e⟩
  | .dtt kvs, h => by obtain ⟨_, vs, e, r⟩ := h; exact ⟨_, e⟩
  | .ins c fs, h => by obtain ⟨dx, gs, e, r⟩ := h; exact ⟨_, e⟩
  | .non, h => h.elim
  | .bl _, h => h.elim
  | .int _, h => h.elim
  | .str _, h => h.elim
  | .tup _, h => h.elim
  | .set _, h => h.elim
  | .fro _, h => h.elim
  | .ftu _, h => h.elim
  | .err _ _, h => h.elim
  | .obj _, h => h.elim
  | .loc _, h => h.elim
  | .glo _, h => h.elim
theorem Own.nt {a : Addr} (d : D) (h : Own w β G H a d) : ∀ xs, H a ≠ some (.tup xs) := fun xs e => by
  cases d with
  | lst ds => obtain ⟨_, vs, e2, r⟩ := h; rw [e] at e2; cases e2
  | dct ds => obtain ⟨_, vs, e2, r⟩ := h; rw [e] at e2; cases e2
  | dtt ds => obtain ⟨_, vs, e2, r⟩ := h; rw [e] at e2; cases e2
  | ins c fs => obtain ⟨dx, gs, e2, r⟩ := h; rw [e] at e2; cases e2
  | _ => exact h.elim
theorem Own.ntb {a : Addr} (d : D) (h : Own w β G H a d) : (∀ ps, H a ≠ some (.tbl ps)) ∧ ∀ φ, H a ≠ some (.ext φ) := by
  cases d with
  | lst ds => obtain ⟨_, vs, e2, r⟩ := h; exact ⟨(fun _ e => by rw [e] at e2; cases e2), (fun _ e => by rw [e] at e2; cases e2)⟩
  | dct ds => obtain ⟨_, vs, e2, r⟩ := h; exact ⟨(fun _ e => by rw [e] at e2; cases e2), (fun _ e => by rw [e] at e2; cases e2)⟩
  | dtt ds => obtain ⟨_, vs, e2, r⟩ := h; exact ⟨(fun _ e => by rw [e] at e2; cases e2), (fun _ e => by rw [e] at e2; cases e2)⟩
  | ins c fs => obtain ⟨dx, gs, e2, r⟩ := h; exact ⟨(fun _ e => by rw [e] at e2; cases e2), (fun _ e => by rw [e] at e2; cases e2)⟩
  | _ => exact h.elim
/-- the form of RepV but for loc -/
def RepV0 (w : Wo) (Fo : Addr → Prop) (σ : L2.St) (st : St) (β : List Addr) (G H : Hp) (f : Bool) (d : D) (v : V) : Prop :=
  if f = true then ∃ a, v = .ref a ∧ G a = none ∧ a ∉ β ∧ NoOwn σ st a ∧ ¬ Fo a ∧ Own w β G H a d else Rep w β G d v
theorem repV_cases {f : Bool} {d : D} {v : V} (h : RepV w Fo σ st β G H f d v) : (∃ i b d', d = .loc i ∧ f = false ∧ σ[i]? = some (some v) ∧ st.env[i]? = some (some (b, d')) ∧ isCont d' = true) ∨ RepV0 w Fo σ st β G H f d v := by
  cases d with
  | loc i =>
    obtain ⟨h1, h2, b, d', h3, h4⟩ := h
    exact .inl ⟨i, b, d', rfl, h1, h2, h3, h4⟩
  | _ => exact .inr h
theorem repV_of0 {f : Bool} {d : D} {v : V} (h : RepV0 w Fo σ st β G H f d v) : RepV w Fo σ st β G H f d v := by
  cases d with
  | loc i =>
    unfold RepV0 at h
    cases f with
    | true =>
      simp only [if_true] at h
      obtain ⟨a, _, _, _, _, _, o⟩ := h
      exact o.elim
    | false =>
      simp only [Bool.false_eq_true, if_false] at h
      unfold Rep at h
      exact h.elim
  | _ => exact h
theorem RepV.val {d : D} {v : V} (h : Rep w β G d v) : RepV w Fo σ st β G H false d v := repV_of0 (by unfold RepV0; simp only [Bool.false_eq_true, if_false]; exact h)
theorem RepV.fresh {d : D} {a : Addr} (h1 : G a = none) (h2 : a ∉ β) (h3 : NoOwn σ st a) (h4 : ¬ Fo a) (h5 : Own w β G H a d) : RepV w Fo σ st β G H true d (.ref a) :=
  repV_of0 (by unfold RepV0; simp only [if_true]; exact ⟨a, rfl, h1, h2, h3, h4, h5⟩)
/-- the addresses that a value holds for itself -/
def Tmp (f : Bool) (v : V) (a : Addr) : Prop := f = true ∧ v = .ref a
theorem RS.pend (R : RS w Fo β G H σ st) {f : Bool} {d : D} {v : V} (h : RepV w Fo σ st β G H f d v) : RS w (fun a => Fo a ∨ Tmp f v a) β G H σ st :=
  ⟨R.len, R.sub, R.val, R.own, R.dis, R.sto, R.nd, fun a q => by
    rcases q with q | ⟨e, e2⟩
    · exact R.fo a q
    · rcases repV_cases h with ⟨i, b, d', _, h1, _⟩ | h
      · rw [e] at h1; cases h1
      · subst e
        unfold RepV0 at h
        simp only [if_true] at h
        obtain ⟨a', e3, h1, h2, h3, h4, h5⟩ := h
        rw [e2] at e3
        cases e3
        exact ⟨h5.there, h1, h2, h3⟩, fun a q => by
    rcases q with q | ⟨e, e2⟩
    · exact R.ft a q
    · rcases repV_cases h with ⟨i, b, d', _, h1, _⟩ | h
      · rw [e] at h1; cases h1
      · subst e
        unfold RepV0 at h
        simp only [if_true] at h
        obtain ⟨a', e3, h1, h2, h3, h4, h5⟩ := h
        rw [e2] at e3
        cases e3
        exact h5.nt, R.ln, R.tb, fun q hq => ⟨(R.tq q hq).1, fun z => by
    rcases z with z | ⟨e, e2⟩
    · exact (R.tq q hq).2 z
    · rcases repV_cases h with ⟨i, b, d', _, h1, _⟩ | h
      · rw [e] at h1; cases h1
      · subst e
        unfold RepV0 at h
        simp only [if_true] at h
        obtain ⟨a', e3, h1, h2, h3, h4, h5⟩ := h
        rw [e2] at e3
        cases e3
        obtain ⟨ps, e5, _⟩ := R.tb q hq
        exact h5.ntb.1 ps e5⟩⟩
/-- a pending value stands behind a later step -/
theorem RepV.later {f : Bool} {d : D} {v : V} (h : RepV w Fo σ st β G H f d v) (F : Fr (fun a => Fo a ∨ Tmp f v a) st β G H st1 β1 G1 H1) (R1 : RS w (fun a => Fo a ∨ Tmp f v a) β1 G1 H1 σ st1) :
    RepV w Fo σ st1 β1 G1 H1 f d v := by
  rcases repV_cases h with ⟨i, b, d', rfl, rfl, h1, h2, h3⟩ | h
  · obtain ⟨b2, d2, h4, h5⟩ := F.ow i b d' h2 h3
    exact ⟨rfl, h1, b2, d2, h4, h5⟩
  · apply repV_of0
    unfold RepV0 at h ⊢
    cases f with
    | true =>
      simp only [if_true] at h ⊢
      obtain ⟨a, e, h1, h2, h3, h4, h5⟩ := h
      obtain ⟨_, k1, k2, k3⟩ := R1.fo a (.inr ⟨rfl, e⟩)
      exact ⟨a, e, k1, k2, k3, h4, h5.mono F.g F.b (F.kp a (.inr ⟨rfl, e⟩))⟩
    | false =>
      simp only [Bool.false_eq_true, if_false] at h ⊢
      exact Rep.mono F.g F.b d v h
theorem RepV.weak {f : Bool} {d : D} {v : V} (h : RepV w Fo' σ st β G H f d v) (hw : ∀ a, Fo a → Fo' a) : RepV w Fo σ st β G H f d v := by
  rcases repV_cases h with ⟨i, b, d', rfl, rfl, h1, h2, h3⟩ | h
  · exact ⟨rfl, h1, b, d', h2, h3⟩
  · apply repV_of0
    unfold RepV0 at h ⊢
    cases f with
    | true =>
      simp only [if_true] at h ⊢
      obtain ⟨a, e, h1, h2, h3, h4, h5⟩ := h
      exact ⟨a, e, h1, h2, h3, fun z => h4 (hw a z), h5⟩
    | false => exact h
theorem Out.trans {W : WX} {Q : VK} (F : Fr Fo st β G H st1 β1 G1 H1) : ∀ (r : Rz DV), Out w W Fo σ st β G H Q r → Out w W Fo σ st1 β1 G1 H1 Q r
  | .ok (d, f) st', h => fun v β' G' H' F' R' V' => h v β' G' H' (F.trans F') R' V'
  | .exc c fs st', h => fun β' G' H' dx gs F' R' e r => h β' G' H' dx gs (F.trans F') R' e r
  | .bad, h => h
/-- two steps in a row -/
theorem tD_bind {W : WX} {Q : VK} {m : M DV} {k : DV → M DV} {R : V → Hp → Prop} (h : tD w W (m.bind k) σ H Q)
    (hk : ∀ (Fo : Addr → Prop) (d : D) (f : Bool) (v : V) (st : St) (β : List Addr) (G H : Hp), RS w Fo β G H σ st → RepV w Fo σ st β G H f d v → Out w W Fo σ st β G H Q (k (d, f) st) → R v H) : tD w W m σ H R := by
  obtain ⟨Fo, β, G, st, RS0, h⟩ := h
  refine ⟨Fo, β, G, st, RS0, ?_⟩
  unfold M.bind at h
  cases e : m st with
  | ok a st1 =>
    obtain ⟨d, f⟩ := a
    rw [e] at h
    exact fun v β1 G1 H1 F R1 V1 => hk Fo d f v st1 β1 G1 H1 R1 V1 (h.trans F)
  | exc c fs st1 =>
    rw [e] at h
    exact h
  | bad => rw [e] at h; exact h.elim
/-- a second step, a value pending -/
theorem tD_bind2 {W : WX} {Q : VK} {m : M DV} {k : DV → M DV} {R : V → Hp → Prop} {f1 : Bool} {d1 : D} {v1 : V} (RS0 : RS w Fo β G H σ st) (V1 : RepV w Fo σ st β G H f1 d1 v1) (h : Out w W Fo σ st β G H Q ((m.bind k) st))
    (hk : ∀ (d : D) (f : Bool) (v : V) (st' : St) (β' : List Addr) (G' H' : Hp), RS w Fo β' G' H' σ st' → Fr (fun a => Fo a ∨ Tmp f1 v1 a) st β G H st' β' G' H' → RepV w Fo σ st' β' G' H' f1 d1 v1 → RepV w (fun a => Fo a ∨ Tmp f1 v1 a) σ st' β' G' H' f d v → Out w W Fo σ st' β' G' H' Q (k (d, f) st') → R v H') : tD w W m σ H R := by
  refine ⟨_, β, G, st, RS0.pend V1, ?_⟩
  unfold M.bind at h
  cases e : m st with
  | ok a st1 =>
    obtain ⟨d, f⟩ := a
    rw [e] at h
    exact fun v β1 G1 H1 F R1 V2 => hk d f v st1 β1 G1 H1 (R1.weak fun _ z => .inl z) F (V1.later F R1) V2 (h.trans (F.weak fun _ z => .inl z))
  | exc c fs st1 =>
    rw [e] at h
    exact fun β' G' H' dx gs F R e2 r => h β' G' H' dx gs (F.weak fun _ z => .inl z) (R.weak fun _ z => .inl z) e2 r
  | bad => rw [e] at h; exact h.elim

/-- what a value is, looked up -/
def deref (st : St) : D → D
  | .loc i => (match st.env[i]? with
    | some (some (_, d)) => d
    | _ => .non)
  | .obj n => (match st.sto[n]? with
    | some d => d
    | none => .non)
  | d => d
/-- how a value is held -/
inductive Held (w : Wo) (β : List Addr) (G H : Hp) : D → V → Prop where
  | val {d : D} {v : V} : Rep w β G d v → Held w β G H d v
  | own {d : D} {a : Addr} : Own w β G H a d → Held w β G H d (.ref a)
theorem held_of (R : RS w Fo β G H σ st) {f : Bool} {d : D} {v : V} (h : RepV w Fo σ st β G H f d v) : Held w β G H (deref st d) v := by
  rcases repV_cases h with ⟨i, b, d', rfl, rfl, h1, h2, hc⟩ | h
  · have e : deref st (.loc i) = d' := by simp only [deref, h2]
    rw [e]
    cases b with
    | true =>
      obtain ⟨a, h3, h4, h5, h6⟩ := R.own i d' h2
      rw [h1] at h3
      cases h3
      exact .own h6
    | false =>
      obtain ⟨v', h3, h4⟩ := R.val i d' h2
      rw [h1] at h3
      cases h3
      exact .val h4
  · unfold RepV0 at h
    cases f with
    | true =>
      simp only [if_true] at h
      obtain ⟨a, e, h1, h2, h3, h4, h5⟩ := h
      subst e
      cases d with
      | lst ds => exact .own h5
      | dct ds => exact .own h5
      | dtt ds => exact .own h5
      | ins c fs => exact .own h5
      | _ => exact h5.elim
    | false =>
      simp only [Bool.false_eq_true, if_false] at h
      cases d with
      | obj n =>
        unfold Rep at h
        obtain ⟨a, h1, rfl⟩ := h
        have hn : n < st.sto.length := by rw [← R.len]; exact (List.getElem?_eq_some_iff.mp h1).1
        obtain ⟨e, he⟩ : ∃ e, st.sto[n]? = some e := ⟨st.sto[n], by simp [hn]⟩
        have e2 : deref st (.obj n) = e := by simp only [deref, he]
        rw [e2]
        exact .own (R.sto n e a he h1).2
      | loc i => unfold Rep at h; exact h.elim
      | _ => exact .val h
theorem Held.lst (sub : SubE G H) {ds : List D} {v : V} (h : Held w β G H (.lst ds) v) : ds.length ≤ sizeLine ∧ ∃ a vs, v = .ref a ∧ H a = some (.lst vs) ∧ Reps w β G ds vs := by
  cases h with
  | val h =>
    unfold Rep at h
    obtain ⟨z, a, vs, e, s, r⟩ := h
    exact ⟨z, a, vs, e, sub _ _ s, r⟩
  | own h =>
    obtain ⟨z, vs, e, r⟩ := h
    exact ⟨z, _, vs, rfl, e, r⟩
theorem Held.fro (sub : SubE G H) {ds : List D} {v : V} (h : Held w β G H (.fro ds) v) : ds.length ≤ sizeLine ∧ ∃ a vs, v = .ref a ∧ SqL w.K H a vs ∧ Reps w β G ds vs := by
  cases h with
  | val h =>
    unfold Rep at h
    obtain ⟨z, a, vs, e, s, r⟩ := h
    exact ⟨z, a, vs, e, SqL.mono sub.h s, r⟩
  | own h => exact h.elim
theorem Held.tup (sub : SubE G H) {ds : List D} {v : V} (h : Held w β G H (.tup ds) v) : ds.length ≤ sizeLine ∧ ∃ a vs, v = .ref a ∧ H a = some (.tup vs) ∧ Reps w β G ds vs := by
  cases h with
  | val h =>
    unfold Rep at h
    obtain ⟨z, a, vs, e, s, r⟩ := h
    exact ⟨z, a, vs, e, sub _ _ s, r⟩
  | own h => exact h.elim
theorem Held.ftu (sub : SubE G H) {ds : List D} {v : V} (h : Held w β G H (.ftu ds) v) : ds.length ≤ sizeLine ∧ ∃ a vs, v = .ref a ∧ SqT w.K H a vs ∧ Reps w β G ds vs := by
  cases h with
  | val h =>
    unfold Rep at h
    obtain ⟨z, a, vs, e, s, r⟩ := h
    exact ⟨z, a, vs, e, SqT.mono sub.h s, r⟩
  | own h => exact h.elim
theorem Held.int {i : Int} {v : V} (h : Held w β G H (.int i) v) : v = .int i := by
  cases h with
  | val h => unfold Rep at h; exact h
  | own h => exact h.elim
theorem Held.bl {i : Bool} {v : V} (h : Held w β G H (.bl i) v) : v = .bl i := by
  cases h with
  | val h => unfold Rep at h; exact h
  | own h => exact h.elim
theorem Held.str {x : Str} {v : V} (h : Held w β G H (.str x) v) : v = .str x ∧ x.length ≤ sizeLine := by
  cases h with
  | val h => unfold Rep at h; exact h
  | own h => exact h.elim
theorem Held.non {v : V} (h : Held w β G H .non v) : v = .non := by
  cases h with
  | val h => unfold Rep at h; exact h
  | own h => exact h.elim
theorem Held.ins (sub : SubE G H) {c : Str} {fs : List (Str × D)} {v : V} (h : Held w β G H (.ins c fs) v) : ∃ a dx gs, v = .ref a ∧ H a = some (.ins (w.ca c) dx gs) ∧ RepsF w β G fs gs := by
  cases h with
  | val h =>
    unfold Rep at h
    obtain ⟨a, dx, gs, e, s, r⟩ := h
    exact ⟨a, dx, gs, e, sub _ _ s, r⟩
  | own h =>
    obtain ⟨dx, gs, e, r⟩ := h
    exact ⟨_, dx, gs, rfl, e, r⟩
theorem Held.err (sub : SubE G H) {c : Str} {fs : List (Str × D)} {v : V} (h : Held w β G H (.err c fs) v) : ∃ a dx gs, v = .ref a ∧ H a = some (exo a (w.ca c) (some dx)) ∧ H dx = some (exd dx gs) ∧ RepsF w β G fs gs := by
  cases h with
  | val h =>
    unfold Rep at h
    obtain ⟨a, dx, gs, e, s, s2, r⟩ := h
    exact ⟨a, dx, gs, e, sub _ _ s, sub _ _ s2, r⟩
  | own h => exact h.elim
theorem Held.dct (sub : SubE G H) {kvs : List (D × D)} {v : V} (h : Held w β G H (.dct kvs) v) : kvs.length ≤ sizeLine ∧ ∃ a ks, v = .ref a ∧ Rd H a (.dK ks) ∧ RepsK w β G kvs ks := by
  cases h with
  | val h =>
    unfold Rep at h
    obtain ⟨z, a, ks, e, s, r⟩ := h
    exact ⟨z, a, ks, e, rd_mono sub.h s, r⟩
  | own h =>
    obtain ⟨z, ks, e, r⟩ := h
    exact ⟨z, _, ks, rfl, .inl e, r⟩
theorem Held.dtt (sub : SubE G H) {kvs : List (D × D)} {v : V} (h : Held w β G H (.dtt kvs) v) : kvs.length ≤ sizeLine ∧ ∃ a ks, v = .ref a ∧ Rd H a (.dT ks) ∧ RepsT w β G kvs ks := by
  cases h with
  | val h =>
    unfold Rep at h
    obtain ⟨z, a, ks, e, s, r⟩ := h
    exact ⟨z, a, ks, e, rd_mono sub.h s, r⟩
  | own h =>
    obtain ⟨z, ks, e, r⟩ := h
    exact ⟨z, _, ks, rfl, .inl e, r⟩

/-! ### new objects -/
theorem RS.notin {p : Addr} (R : RS w Fo β G H σ st) (hp : H p = none) : p ∉ β := fun hb => by
  obtain ⟨n, hn⟩ := List.getElem?_of_mem hb
  have hl : n < st.sto.length := by rw [← R.len]; exact (List.getElem?_eq_some_iff.mp hn).1
  obtain ⟨o, ho⟩ := (R.sto n st.sto[n] p (by simp [hl]) hn).2.there
  rw [hp] at ho; cases ho
theorem RS.noown {p : Addr} (R : RS w Fo β G H σ st) (hp : H p = none) : NoOwn σ st p := fun i d e q => by
  obtain ⟨a, h1, _, _, o⟩ := R.own i d e
  rw [q] at h1
  cases h1
  obtain ⟨u, hu⟩ := o.there
  rw [hp] at hu; cases hu
theorem RS.nofo {p : Addr} (R : RS w Fo β G H σ st) (hp : H p = none) : ¬ Fo p := fun hf => by
  obtain ⟨⟨o, ho⟩, _⟩ := R.fo p hf
  rw [hp] at ho; cases ho
theorem RS.nog {p : Addr} (R : RS w Fo β G H σ st) (hp : H p = none) : G p = none := by
  cases e : G p with
  | none => rfl
  | some o =>
    have := R.sub p o e
    rw [hp] at this; cases this
/-- a new object, tracked, held by no one yet -/
theorem RS.new {p : Addr} {o : HO} (R : RS w Fo β G H σ st) (hp : H p = none) : RS w Fo β G (upd H p o) σ st where
  len := R.len
  sub := fun a u e => by
    have h := R.sub a u e
    rw [upd_ne (ne_of_none h hp)]; exact h
  val := R.val
  own := fun i d e => by
    obtain ⟨a, h1, h2, h3, h4⟩ := R.own i d e
    obtain ⟨u, hu⟩ := h4.there
    exact ⟨a, h1, h2, h3, h4.mono (SubH.refl _) (SubB.refl _) (upd_ne (ne_of_none hu hp))⟩
  dis := R.dis
  sto := fun n d a h1 h2 => by
    obtain ⟨h3, h4⟩ := R.sto n d a h1 h2
    obtain ⟨u, hu⟩ := h4.there
    exact ⟨h3, h4.mono (SubH.refl _) (SubB.refl _) (upd_ne (ne_of_none hu hp))⟩
  nd := R.nd
  fo := fun a h => by
    obtain ⟨⟨u, hu⟩, h2⟩ := R.fo a h
    exact ⟨⟨u, by rw [upd_ne (ne_of_none hu hp)]; exact hu⟩, h2⟩
  ft := fun a h => by
    obtain ⟨⟨u, hu⟩, h2⟩ := R.fo a h
    rw [upd_ne (ne_of_none hu hp)]
    exact R.ft a h
  ln := R.ln
  tb := tabN_new R.tb hp
  tq := R.tq
theorem Fr.new {p : Addr} {o : HO} (R : RS w Fo β G H σ st) (hp : H p = none) : Fr Fo st β G H st β G (upd H p o) :=
  ⟨SubH.refl _, SubB.refl _, fun a h => by
    obtain ⟨⟨u, hu⟩, _⟩ := R.fo a h
    exact upd_ne (ne_of_none hu hp), fun _ b d h c => ⟨b, d, h, c⟩⟩
/-- what no one holds alone joins what does not change -/
theorem RS.keep {p : Addr} {o : HO} (R : RS w Fo β G H σ st) (hH : H p = some o) (hG : G p = none) (hb : p ∉ β) (hn : NoOwn σ st p) (hf : ¬ Fo p) (nt : ∀ ps, o ≠ .tbl ps) : RS w Fo β (upd G p o) H σ st where
  len := R.len
  sub := fun a u e => by
    by_cases h : a = p
    · subst h; rw [upd_same] at e; cases e; exact hH
    · rw [upd_ne h] at e; exact R.sub a u e
  val := fun i d e => by
    obtain ⟨v, h1, h2⟩ := R.val i d e
    exact ⟨v, h1, Rep.mono (SubH.new hG) (SubB.refl _) d v h2⟩
  own := fun i d e => by
    obtain ⟨a, h1, h2, h3, h4⟩ := R.own i d e
    refine ⟨a, h1, ?_, h3, h4.mono (SubH.new hG) (SubB.refl _) rfl⟩
    rw [upd_ne]; exact h2
    intro z
    exact hn i d e (by rw [← z]; exact h1)
  dis := R.dis
  sto := fun n d a h1 h2 => by
    obtain ⟨h3, h4⟩ := R.sto n d a h1 h2
    refine ⟨?_, h4.mono (SubH.new hG) (SubB.refl _) rfl⟩
    rw [upd_ne]; exact h3
    intro z
    exact hb (by rw [← z]; exact List.mem_of_getElem? h2)
  nd := R.nd
  fo := fun a h => by
    obtain ⟨h1, h2, h3⟩ := R.fo a h
    refine ⟨h1, ?_, h3⟩
    rw [upd_ne]; exact h2
    intro z
    exact hf (by rw [← z]; exact h)
  ft := R.ft
  ln := R.ln
  tb := R.tb
  tq := fun q hq => ⟨by
    rw [upd_ne]; exact (R.tq q hq).1
    intro z
    obtain ⟨ps, e5, _⟩ := R.tb q hq
    rw [z, hH] at e5
    exact nt ps (Option.some.inj e5), (R.tq q hq).2⟩
theorem Fr.keep {p : Addr} {o : HO} (hG : G p = none) : Fr Fo st β G H st β (upd G p o) H := ⟨SubH.new hG, SubB.refl _, fun _ _ => rfl, fun _ b d h c => ⟨b, d, h, c⟩⟩
/-- a value that is held alone, given away -/
theorem release (R : RS w Fo β G H σ st) {f : Bool} {d : D} {v : V} (h : RepV w Fo σ st β G H f d v) (hl : ∀ i, d ≠ .loc i) :
    ∃ G', SubH G G' ∧ (∀ a, ¬ Tmp f v a → G' a = G a) ∧ RS w Fo β G' H σ st ∧ Rep w β G' d v := by
  rcases repV_cases h with ⟨i, b, d', e, _⟩ | h
  · exact absurd e (hl i)
  · unfold RepV0 at h
    cases f with
    | false =>
      simp only [Bool.false_eq_true, if_false] at h
      exact ⟨G, SubH.refl _, fun _ _ => rfl, R, h⟩
    | true =>
      simp only [if_true] at h
      obtain ⟨a, rfl, h1, h2, h3, h4, h5⟩ := h
      obtain ⟨o, ho⟩ := h5.there
      refine ⟨upd G a o, SubH.new h1, fun b hb => upd_ne (fun z => hb ⟨rfl, by rw [z]⟩), R.keep ho h1 h2 h3 h4 (fun ps z => h5.ntb.1 ps (by rw [ho, z])), ?_⟩
      have hG : SubH G (upd G a o) := SubH.new h1
      cases d with
      | lst ds =>
        obtain ⟨z, vs, e, r⟩ := h5
        rw [ho] at e; cases e
        unfold Rep
        exact ⟨z, a, vs, rfl, upd_same, Reps.mono hG (SubB.refl _) ds vs r⟩
      | dct kvs =>
        obtain ⟨z, ks, e, r⟩ := h5
        rw [ho] at e; cases e
        unfold Rep
        exact ⟨z, a, ks, rfl, .inl upd_same, RepsK.mono hG (SubB.refl _) kvs ks r⟩
      | dtt kvs =>
        obtain ⟨z, ks, e, r⟩ := h5
        rw [ho] at e; cases e
        unfold Rep
        exact ⟨z, a, ks, rfl, .inl upd_same, RepsT.mono hG (SubB.refl _) kvs ks r⟩
      | ins c fs =>
        obtain ⟨dx, gs, e, r⟩ := h5
        rw [ho] at e; cases e
        unfold Rep
        exact ⟨a, dx, gs, rfl, upd_same, RepsF.mono hG (SubB.refl _) fs gs r⟩
      | _ => exact h5.elim
end
end PD

set_option autoImplicit false
namespace PD
open PySem PySem.Spec PyProof.Rows L2

/-- what is known of the text where one stands: the def's names, the scope, which cells are the def's -/
structure SI where
  N : List Str
  sc : Scope
  fn : Str → Bool
structure Cok (w : Wo) (si : SI) (X : Cx) : Prop where
  K : X.K = w.K
  N : X.N = si.N
  nd : X.N.Nodup
  sc : X.env.scope = si.sc
  fn : X.fn = si.fn
  calm : X.calm = true
def ix (x : Str) : List Str → Option Nat
  | [] => none
  | y :: ys => if y = x then some 0 else (ix x ys).map (· + 1)
theorem ix_get {x : Str} : ∀ {l : List Str} {i : Nat}, ix x l = some i → l[i]? = some x
  | [], i, h => by cases h
  | y :: ys, i, h => by
    unfold ix at h
    by_cases e : y = x
    · rw [if_pos e] at h
      cases h
      rw [e]; rfl
    · rw [if_neg e] at h
      obtain ⟨j, h1, h2⟩ := Option.map_eq_some_iff.mp h
      subst h2
      rw [List.getElem?_cons_succ]
      exact ix_get h1
def vis (sc : Scope) (x : Str) : Bool := match sc.names.lookup x with
  | some .local => true
  | some .cell => true
  | some .free => true
  | _ => false
theorem vis_ok {sc : Scope} {x : Str} (h : vis sc x = true) : Vis sc x := by
  unfold vis at h
  unfold Vis
  split at h <;> simp_all
def isGl (sc : Scope) (x : Str) : Bool := decide (sc.names.lookup x = some .globalImplicit)
/-- a name may be stored -/
def sto (si : SI) (x : Str) : Bool := match si.sc.names.lookup x with
  | some .local => true
  | some .cell => si.fn x
  | _ => false
theorem sto_ok {w : Wo} {si : SI} {X : Cx} (C : Cok w si X) {x : Str} (h : sto si x = true) : L2.Loc X.env.scope x ∧ (X.fn x = true ∨ X.env.scope.names.lookup x = some .local) := by
  unfold sto at h
  rw [C.sc, C.fn]
  unfold L2.Loc
  split at h <;> simp_all

theorem PE.imp {X : Cx} {e : Expr} {t t' : TE} (h : PE X e t) (i : ∀ σ H Q, t' σ H Q → t σ H Q) : PE X e t' := ⟨fun pins s σ H Q I q => h.run pins s σ H Q I (i σ H Q q)⟩
theorem PT.imp {X : Cx} {e : Expr} {t t' : TT} (h : PT X e t) (i : ∀ σ H Q, t' σ H Q → t σ H Q) : PT X e t' := ⟨fun pins s σ H Q I q => h.run pins s σ H Q I (i σ H Q q)⟩
theorem PW.imp {X : Cx} {e : Expr} {t t' : TT} (h : PW X e t) (i : ∀ σ H Q, t' σ H Q → t σ H Q) : PW X e t' := ⟨fun wh pins s σ H Q I q => h.run wh pins s σ H Q I (i σ H Q q)⟩
theorem PA.imp {X : Cx} {e : List Expr} {t t' : TA} (h : PA X e t) (i : ∀ σ H Q, t' σ H Q → t σ H Q) : PA X e t' := ⟨fun po pins s σ H Q I q => h.run po pins s σ H Q I (i σ H Q q)⟩
theorem PS.imp {X : Cx} {e : Stmt} {t t' : TS} (h : PS X e t) (i : ∀ D σ H, t' D σ H → t D σ H) : PS X e t' := ⟨fun pins s σ H Q I q => h.run pins s σ H Q I (i Q σ H q)⟩
theorem PSs.imp {X : Cx} {e : List Stmt} {t t' : TS} (h : PSs X e t) (i : ∀ D σ H, t' D σ H → t D σ H) : PSs X e t' := ⟨fun pins s σ H Q I q => h.run pins s σ H Q I (i Q σ H q)⟩

/-! ### names, constants -/
def slotM (i : Nat) : M DV := fun st => match st.env[i]? with
  | some (some (false, d)) => .ok (d, false) st
  | some (some (true, _)) => .ok (.loc i, false) st
  | _ => .bad
section
variable {w : Wo} {si : SI} {X : Cx} {W : WX} {σ : L2.St} {H : Hp} {Q : VK}
theorem d_slot {x : Str} {i : Nat} {pos : Pos} (C : Cok w si X) (hi : ix x si.N = some i) (hv : vis si.sc x = true) (hd : (x == ("__debug__" : Str)) = false) (hc : (x == ("__classdict__" : Str)) = false) :
    PE X (.Name x pos) (tD w W (slotM i)) := by
  refine PE.imp (pe_var (i := i) (by rw [C.N]; exact ix_get hi) (by rw [C.sc]; exact vis_ok hv) hd hc) fun σ H Q h => ?_
  obtain ⟨Fo, β, G, st, R, h⟩ := h
  unfold slotM at h
  split at h
  · rename_i d e
    obtain ⟨v, h1, h2⟩ := R.val i d e
    exact ⟨v, h1, h v β G H Fr.refl R (RepV.val h2)⟩
  · rename_i d e
    obtain ⟨a, h1, h2⟩ := R.own i d e
    exact ⟨_, h1, h _ β G H Fr.refl R ⟨rfl, h1, true, d, e, h2.2.2.cont⟩⟩
  · exact h.elim
/-- a flat constant -/
theorem d_const {e : Expr} {v : V} {d : D} (h : PE X e (tC v)) (hr : ∀ β G, Rep w β G d v) : PE X e (tD w W (M.ret (d, false))) := by
  refine PE.imp h fun σ H Q h => ?_
  obtain ⟨Fo, β, G, st, R, h⟩ := h
  exact h v β G H Fr.refl R (RepV.val (hr β G))
def constM : Const → M DV
  | .none => M.ret (.non, false)
  | .bool b => M.ret (.bl b, false)
  | .int i => M.ret (.int i, false)
  | .str x => if x.length ≤ sizeLine then M.ret (.str x, false) else M.bad
  | _ => M.bad
theorem tD_bad {R : VK} (h : tD w W M.bad σ H Q) : tD w W M.bad σ H R := by
  obtain ⟨Fo, β, G, st, _, h⟩ := h
  exact h.elim
theorem pe_bad {e : Expr} : PE X e (tD w W M.bad) := ⟨fun pins s σ H Q I h => by
  obtain ⟨Fo, β, G, st, _, h⟩ := h
  exact h.elim⟩
theorem d_constant {c : Const} {k : Nat} {pos : Pos} : PE X (.Constant c k pos) (tD w W (constM c)) := by
  cases c with
  | none => exact d_const pe_non fun _ _ => by unfold Rep; rfl
  | bool b => exact d_const pe_bl fun _ _ => by unfold Rep; rfl
  | int i => exact d_const pe_int fun _ _ => by unfold Rep; rfl
  | str x =>
    show PE X _ (tD w W (if x.length ≤ sizeLine then M.ret (.str x, false) else M.bad))
    by_cases h : x.length ≤ sizeLine
    · rw [if_pos h]
      exact d_const pe_str fun _ _ => by unfold Rep; exact ⟨rfl, h⟩
    · rw [if_neg h]; exact pe_bad
  | _ => exact pe_bad
end

/-! ### operators by values -/
def OpS (w : Wo) (r : R2) (k : DV → DV → M DV) : Prop := ∀ (W : WX) (Fo : Addr → Prop) (σ : L2.St) (st : St) (β : List Addr) (G H : Hp) (Q : VK) (d1 : D) (f1 : Bool) (v1 : V) (d2 : D) (f2 : Bool) (v2 : V),
  RS w Fo β G H σ st → RepV w Fo σ st β G H f1 d1 v1 → RepV w Fo σ st β G H f2 d2 v2 → Out w W Fo σ st β G H Q (k (d1, f1) (d2, f2) st) → r v1 v2 H Q
def bin2 (ma mb : M DV) (k : DV → DV → M DV) : M DV := ma.bind fun x => mb.bind fun y => k x y
section
variable {w : Wo} {si : SI} {X : Cx} {W : WX} {a b : Expr} {ma mb : M DV} {pos : Pos}
theorem tOp_of {r : R2} {k : DV → DV → M DV} (hs : OpS w r k) {σ : L2.St} {H : Hp} {Q : VK} (h : tD w W (bin2 ma mb k) σ H Q) : tOp r (tD w W ma) (tD w W mb) σ H Q := by
  refine tD_bind h fun Fo d f v st β G H R V h => ?_
  refine tD_bind2 R V h fun d2 f2 v2 st2 β2 G2 H2 R2 F2 V1 V2 h2 => ?_
  exact hs W Fo σ st2 β2 G2 H2 Q d f v d2 f2 v2 R2 V1 (V2.weak fun _ z => .inl z) h2
theorem d_binop {op : Operator} {r : R2} {k : DV → DV → M DV} (ho : OpR X (binaryOp op) r) (hs : OpS w r k) (ha : PE X a (tD w W ma)) (hb : PE X b (tD w W mb)) : PE X (.BinOp a op b pos) (tD w W (bin2 ma mb k)) :=
  PE.imp (pe_op ho ha hb) fun _ _ _ h => tOp_of hs h
theorem d_cmp {op : CmpOp} {r : R2} {k : DV → DV → M DV} (ho : OpR X (compareOp op) r) (hs : OpS w r k) (ha : PE X a (tD w W ma)) (hb : PE X b (tD w W mb)) (hm : behindInMarks op b = false) : PE X (.Compare a [op] [b] pos) (tD w W (bin2 ma mb k)) :=
  PE.imp (pe_cmpR ho ha hb hm) fun _ _ _ h => tOp_of hs h
theorem OpS.or {r r' : R2} {k k' : DV → DV → M DV} (h : OpS w r k) (h' : OpS w r' k') (g : St → DV → DV → Bool) : OpS w (fun x y H Q => r x y H Q ∨ r' x y H Q) (fun x y st => if g st x y = true then k x y st else k' x y st) := by
  intro W Fo σ st β G H Q d1 f1 v1 d2 f2 v2 R V1 V2 h0
  by_cases e : g st (d1, f1) (d2, f2) = true
  · simp only [e, if_true] at h0
    exact .inl (h W Fo σ st β G H Q d1 f1 v1 d2 f2 v2 R V1 V2 h0)
  · simp only [e, if_false] at h0
    exact .inr (h' W Fo σ st β G H Q d1 f1 v1 d2 f2 v2 R V1 V2 h0)
end

/-- two ints -/
def intM (C : Int → Int → Bool) (g : Int → Int → D) : DV → DV → M DV := fun x y => match x.1, y.1 with
  | .int i, .int j => if C i j = true then M.ret (g i j, false) else M.bad
  | _, _ => M.bad
section
variable {w : Wo}
theorem RepV.held {Fo : Addr → Prop} {σ : L2.St} {st : St} {β : List Addr} {G H : Hp} {f : Bool} {d : D} {v : V} (V : RepV w Fo σ st β G H f d v) (R : RS w Fo β G H σ st) : Held w β G H (deref st d) v := held_of R V
theorem intM_ok {P : Int → Int → Prop} {C : Int → Int → Bool} {gV : Int → Int → V} {g : Int → Int → D} (hC : ∀ i j, C i j = true → P i j) (hg : ∀ i j β G, Rep w β G (g i j) (gV i j)) : OpS w (rI P gV) (intM C g) := by
  intro W Fo σ st β G H Q d1 f1 v1 d2 f2 v2 R V1 V2 h
  unfold intM at h
  simp only at h
  split at h
  · rename_i i j
    have e1 := (V1.held R).int
    have e2 := (V2.held R).int
    by_cases c : C i j = true
    · rw [if_pos c] at h
      exact ⟨i, j, e1, e2, hC i j c, h _ β G H Fr.refl R (RepV.val (hg i j β G))⟩
    · rw [if_neg c] at h; exact h.elim
  · exact h.elim
theorem intM0_ok {gV : Int → Int → V} {g : Int → Int → D} (hg : ∀ i j β G, Rep w β G (g i j) (gV i j)) : OpS w (rI0 gV) (intM (fun _ _ => true) g) := by
  intro W Fo σ st β G H Q d1 f1 v1 d2 f2 v2 R V1 V2 h
  obtain ⟨i, j, e1, e2, _, q⟩ := intM_ok (w := w) (P := fun _ _ => True) (gV := gV) (fun _ _ _ => True.intro) hg W Fo σ st β G H Q d1 f1 v1 d2 f2 v2 R V1 V2 h
  exact ⟨i, j, e1, e2, q⟩
theorem rep_int {i : Int} {β : List Addr} {G : Hp} : Rep w β G (.int i) (.int i) := by unfold Rep; rfl
theorem rep_bl {b : Bool} {β : List Addr} {G : Hp} : Rep w β G (.bl b) (.bl b) := by unfold Rep; rfl
theorem rep_non {β : List Addr} {G : Hp} : Rep w β G .non .non := by unfold Rep; rfl
theorem rep_str {x : Str} {β : List Addr} {G : Hp} (h : x.length ≤ sizeLine) : Rep w β G (.str x) (.str x) := by unfold Rep; exact ⟨rfl, h⟩
end

/-! ### + -/
def strM (k : Str → Str → M DV) : DV → DV → M DV := fun x y => match x.1, y.1 with
  | .str i, .str j => k i j
  | _, _ => M.bad
def catStr (i j : Str) : M DV := if i.length + j.length ≤ sizeLine then M.ret (.str (i ++ j), false) else M.bad
theorem str_len_app (i j : Str) : (i ++ j).length = i.length + j.length := by
  show (i.cps ++ j.cps).size = _
  exact Array.size_append
def addStrM : DV → DV → M DV := strM catStr
theorem addStr_ok {w : Wo} : OpS w (fun x y H Q => ∃ i j, x = .str i ∧ y = .str j ∧ i.length + j.length ≤ sizeLine ∧ Q (.str (i ++ j)) H) addStrM := by
  intro W Fo σ st β G H Q d1 f1 v1 d2 f2 v2 R V1 V2 h
  unfold addStrM strM at h
  simp only at h
  split at h
  · rename_i i j
    have e1 := (V1.held R).str
    have e2 := (V2.held R).str
    unfold catStr at h
    by_cases c : i.length + j.length ≤ sizeLine
    · rw [if_pos c] at h
      exact ⟨i, j, e1.1, e2.1, c, h _ β G H Fr.refl R (RepV.val (rep_str (by rw [str_len_app]; exact c)))⟩
    · rw [if_neg c] at h; exact h.elim
  · exact h.elim
/-- a new list -/
def newL (ds : List D) : M DV := if ds.length ≤ sizeLine then M.ret (.lst ds, true) else M.bad
theorem newL_ok {w : Wo} {W : WX} {Fo : Addr → Prop} {σ : L2.St} {st : St} {β : List Addr} {G H : Hp} {Q : VK} {ds : List D} {vs : List V} (R : RS w Fo β G H σ st) (r : Reps w β G ds vs) (h : Out w W Fo σ st β G H Q (newL ds st)) :
    vs.length ≤ sizeLine ∧ ∀ p, H p = none → Q (.ref p) (upd H p (.lst vs)) := by
  unfold newL at h
  by_cases c : ds.length ≤ sizeLine
  · rw [if_pos c] at h
    refine ⟨by rw [r.len]; exact c, fun p hp => h _ β G _ (Fr.new R hp) (R.new hp) (RepV.fresh (R.nog hp) (R.notin hp) (R.noown hp) (R.nofo hp) ⟨c, vs, upd_same, r⟩)⟩
  · rw [if_neg c] at h; exact h.elim
/-- a new tuple -/
def newT (ds : List D) : M DV := if ds.length ≤ sizeLine then M.ret (.tup ds, false) else M.bad
theorem newT_ok {w : Wo} {W : WX} {Fo : Addr → Prop} {σ : L2.St} {st : St} {β : List Addr} {G H : Hp} {Q : VK} {ds : List D} {vs : List V} (R : RS w Fo β G H σ st) (r : Reps w β G ds vs) (h : Out w W Fo σ st β G H Q (newT ds st)) :
    vs.length ≤ sizeLine ∧ ∀ p, H p = none → Q (.ref p) (upd H p (.tup vs)) := by
  unfold newT at h
  by_cases c : ds.length ≤ sizeLine
  · rw [if_pos c] at h
    refine ⟨by rw [r.len]; exact c, fun p hp => ?_⟩
    have R1 := R.new (o := .tup vs) hp
    have R2 := R1.keep upd_same (R.nog hp) (R.notin hp) (R.noown hp) (R.nofo hp) (fun ps z => by cases z)
    refine h _ β _ _ ((Fr.new R hp).trans (Fr.keep (o := .tup vs) (R.nog hp))) R2 (RepV.val ?_)
    unfold Rep
    exact ⟨c, p, vs, rfl, upd_same, Reps.mono (SubH.new (R.nog hp)) (SubB.refl _) ds vs r⟩
  · rw [if_neg c] at h; exact h.elim
def lst2M (k : List D → List D → M DV) : DV → DV → M DV := fun x y st => match deref st x.1, deref st y.1 with
  | .lst a, .lst b => k a b st
  | _, _ => .bad
def catL (a b : List D) : M DV := if a.length + b.length ≤ sizeLine then newL (a ++ b) else M.bad
def addLstM : DV → DV → M DV := lst2M catL
theorem addLst_ok {w : Wo} : OpS w rCat addLstM := by
  intro W Fo σ st β G H Q d1 f1 v1 d2 f2 v2 R V1 V2 h
  unfold addLstM lst2M at h
  simp only at h
  split at h
  · rename_i ds es e1 e2
    have h1 := V1.held R
    have h2 := V2.held R
    rw [e1] at h1
    rw [e2] at h2
    obtain ⟨z1, a1, vs1, rfl, q1, r1⟩ := h1.lst R.sub
    obtain ⟨z2, a2, vs2, rfl, q2, r2⟩ := h2.lst R.sub
    unfold catL at h
    by_cases c : ds.length + es.length ≤ sizeLine
    · rw [if_pos c] at h
      obtain ⟨_, h⟩ := newL_ok R (r1.app r2) h
      exact ⟨a1, a2, vs1, vs2, rfl, rfl, q1, q2, by rw [r1.len, r2.len]; exact c, h⟩
    · rw [if_neg c] at h; exact h.elim
  · exact h.elim
def isInt : D → Bool
  | .int _ => true
  | _ => false
def isStr : D → Bool
  | .str _ => true
  | _ => false
def addM : DV → DV → M DV := fun x y st => if isInt x.1 = true then intM (fun _ _ => true) (fun i j => .int (i + j)) x y st else if isStr x.1 = true then addStrM x y st else addLstM x y st
theorem add_ok {w : Wo} : ∃ r, (∀ X : Cx, OpR X (binaryOp .Add) r) ∧ OpS w r addM :=
  ⟨_, fun X => op_add.or (op_add_str.or op_cat), OpS.or (intM0_ok fun _ _ _ _ => rep_int) (OpS.or addStr_ok addLst_ok fun _ x _ => isStr x.1) fun _ x _ => isInt x.1⟩
def subM : DV → DV → M DV := intM (fun _ _ => true) (fun i j => .int (i - j))
theorem sub_ok {w : Wo} : ∃ r, (∀ X : Cx, OpR X (binaryOp .Sub) r) ∧ OpS w r subM := ⟨_, fun X => op_sub, intM0_ok fun _ _ _ _ => rep_int⟩
def mulOk (i j : Int) : Bool := decide (i.natAbs.log2 + j.natAbs.log2 < 1000000)
def mulIM : DV → DV → M DV := intM mulOk (fun i j => .int (i * j))
theorem mulI_ok {w : Wo} : OpS w (rI CMulW fun i j => .int (i * j)) mulIM := intM_ok (fun i j h => (of_decide_eq_true h : i.natAbs.log2 + j.natAbs.log2 < 1000000)) fun _ _ _ _ => rep_int
/-- a list times a number -/
def repM : DV → DV → M DV := fun x y st => match deref st x.1, y.1 with
  | .lst a, .int k => if -(2 ^ 63) ≤ k ∧ k < 2 ^ 63 ∧ a.length * k.toNat ≤ sizeLine then newL (List.replicate k.toNat a).flatten st else .bad
  | _, _ => .bad
theorem Reps.rep {w : Wo} {β : List Addr} {G : Hp} {ds : List D} {vs : List V} (h : Reps w β G ds vs) : ∀ k : Nat, Reps w β G (List.replicate k ds).flatten (List.replicate k vs).flatten
  | 0 => Reps.nil
  | k + 1 => by
    rw [List.replicate_succ, List.replicate_succ, List.flatten_cons, List.flatten_cons]
    exact h.app (Reps.rep h k)
theorem rep_ok {w : Wo} : OpS w rRep repM := by
  intro W Fo σ st β G H Q d1 f1 v1 d2 f2 v2 R V1 V2 h
  unfold repM at h
  simp only at h
  split at h
  · rename_i ds k e1 
    have h1 := V1.held R
    rw [e1] at h1
    have e2 := (V2.held R).int
    obtain ⟨z1, a1, vs1, rfl, q1, r1⟩ := h1.lst R.sub
    by_cases c : -(2 ^ 63) ≤ k ∧ k < 2 ^ 63 ∧ ds.length * k.toNat ≤ sizeLine
    · rw [if_pos c] at h
      obtain ⟨_, h⟩ := newL_ok R (r1.rep k.toNat) h
      exact ⟨a1, k, vs1, rfl, e2, q1, c.1, c.2.1, by rw [r1.len]; exact c.2.2, h⟩
    · rw [if_neg c] at h; exact h.elim
  · exact h.elim
def mulM : DV → DV → M DV := fun x y st => if isInt x.1 = true then mulIM x y st else repM x y st
theorem mul_ok {w : Wo} : ∃ r, (∀ X : Cx, OpR X (binaryOp .Mult) r) ∧ OpS w r mulM :=
  ⟨_, fun X => op_mulW.or op_rep, OpS.or mulI_ok rep_ok fun _ x _ => isInt x.1⟩
def divOk (_ j : Int) : Bool := decide (0 < j) && decide (j.natAbs.log2 < 9000)
def fdivM : DV → DV → M DV := intM divOk (fun i j => .int (i / j))
theorem fdiv_ok {w : Wo} : ∃ r, (∀ X : Cx, OpR X (binaryOp .FloorDiv) r) ∧ OpS w r fdivM :=
  ⟨_, fun X => op_fdivW, intM_ok (fun i j h => by
    unfold divOk at h
    rw [Bool.and_eq_true] at h
    exact ⟨of_decide_eq_true h.1, of_decide_eq_true h.2⟩) fun _ _ _ _ => rep_int⟩
def modM : DV → DV → M DV := intM (fun _ j => decide (0 < j)) (fun i j => .int (i % j))
theorem mod_ok {w : Wo} : ∃ r, (∀ X : Cx, OpR X (binaryOp .Mod) r) ∧ OpS w r modM :=
  ⟨_, fun X => op_mod, intM_ok (fun i j h => of_decide_eq_true h) fun _ _ _ _ => rep_int⟩
def powOk (i j : Int) : Bool := decide (0 ≤ j ∧ j ≤ 1000000 ∧ i.natAbs < 2 ^ 64)
def powM : DV → DV → M DV := intM powOk (fun i j => .int (i ^ j.toNat))
theorem pow_ok {w : Wo} : ∃ r, (∀ X : Cx, OpR X (binaryOp .Pow) r) ∧ OpS w r powM :=
  ⟨_, fun X => op_pow, intM_ok (fun i j h => (of_decide_eq_true h : 0 ≤ j ∧ j ≤ 1000000 ∧ i.natAbs < 2 ^ 64)) fun _ _ _ _ => rep_int⟩
end PD

set_option autoImplicit false
namespace PD
open PySem PySem.Spec PyProof.Rows L2

/-! ### tests -/
section
variable (w : Wo)
def OutB (W : WX) (Fo : Addr → Prop) (σ : L2.St) (st : St) (β : List Addr) (G H : Hp) (Q : Bool → Hp → Prop) : Rz Bool → Prop
  | .ok b st' => ∀ (β' : List Addr) (G' H' : Hp), Fr Fo st β G H st' β' G' H' → RS w Fo β' G' H' σ st' → Q b H'
  | .exc c fs st' => ∀ (β' : List Addr) (G' H' : Hp) (dx : Addr) (gs : List (Str × V)), Fr Fo st β G H st' β' G' H' → RS w Fo β' G' H' σ st' → H' dx = some (.xd gs) → RepsF w β' G' fs gs → W (.ref (w.ca c)) (some dx) σ H'
  | .bad => False
def tB (W : WX) (m : M Bool) : TT := fun σ H Q => ∃ (Fo : Addr → Prop) (β : List Addr) (G : Hp) (st : St), RS w Fo β G H σ st ∧ OutB w W Fo σ st β G H Q (m st)
end
def boolM (x : DV) : M Bool := match x.1 with
  | .bl b => M.ret b
  | _ => M.bad
def ofB (m : M Bool) : M DV := m.bind fun b => M.ret (.bl b, false)
section
variable {w : Wo} {si : SI} {X : Cx} {W : WX} {a b c : Expr} {ma mb mc : M DV} {pos : Pos} {Fo : Addr → Prop} {σ : L2.St} {st st1 : St} {β β1 : List Addr} {G H G1 H1 : Hp}
theorem OutB.trans {Q : Bool → Hp → Prop} (F : Fr Fo st β G H st1 β1 G1 H1) : ∀ (r : Rz Bool), OutB w W Fo σ st β G H Q r → OutB w W Fo σ st1 β1 G1 H1 Q r
  | .ok b st', h => fun β' G' H' F' R' => h β' G' H' (F.trans F') R'
  | .exc c fs st', h => fun β' G' H' dx gs F' R' e r => h β' G' H' dx gs (F.trans F') R' e r
  | .bad, h => h
/-- a value, then its truth -/
theorem tB_of {Q : Bool → Hp → Prop} {m : M DV} (h : tB w W (m.bind boolM) σ H Q) : tD w W m σ H (fun x H1 => ∃ k, x = .bl k ∧ Q k H1) := by
  obtain ⟨Fo, β, G, st, R, h⟩ := h
  refine ⟨Fo, β, G, st, R, ?_⟩
  unfold M.bind at h
  cases e : m st with
  | ok x st1 =>
    obtain ⟨d, f⟩ := x
    rw [e] at h
    intro v β1 G1 H1 F R1 V
    unfold boolM at h
    simp only at h
    split at h
    · have := (V.held R1).bl
      exact ⟨_, this, h β1 G1 H1 F R1⟩
    · exact h.elim
  | exc c fs st1 => rw [e] at h; exact h
  | bad => rw [e] at h; exact h.elim
theorem d_test {m : M DV} (h : PE X a (tD w W m)) (he : ∀ whole, isTrue a X.env whole = (do let v ← whole; standAt a.pos; holding [v] (truthy v))) : PT X a (tB w W (m.bind boolM)) :=
  PT.imp (pt_val h he) fun _ _ _ q => tB_of q
theorem d_testCmp {op : CmpOp} {r : R2} {k : DV → DV → M DV} (ho : OpR X (compareOp op) r) (hs : OpS w r k) (ha : PE X a (tD w W ma)) (hb : PE X b (tD w W mb)) (hm : behindInMarks op b = false) :
    PT X (.Compare a [op] [b] pos) (tB w W ((bin2 ma mb k).bind boolM)) :=
  PT.imp (pt_cmpR ho ha hb hm) fun σ H Q q => by
    have q2 := tB_of q
    exact tOp_of hs q2
theorem d_testNot {m : M Bool} (h : PT X a (tB w W m)) : PT X (.UnaryOp .Not a pos) (tB w W (m.bind fun b => M.ret !b)) :=
  PT.imp (pt_not h) fun σ H Q q => by
    obtain ⟨Fo, β, G, st, R, q⟩ := q
    refine ⟨Fo, β, G, st, R, ?_⟩
    unfold M.bind at q
    cases e : m st with
    | ok b st1 => rw [e] at q; exact q
    | exc c fs st1 => rw [e] at q; exact q
    | bad => rw [e] at q; exact q
theorem tB_bind {Q : Bool → Hp → Prop} {R : Bool → Hp → Prop} {m : M Bool} {k : Bool → M Bool} (h : tB w W (m.bind k) σ H Q)
    (hk : ∀ (Fo : Addr → Prop) (b : Bool) (st : St) (β : List Addr) (G H : Hp), RS w Fo β G H σ st → OutB w W Fo σ st β G H Q (k b st) → R b H) : tB w W m σ H R := by
  obtain ⟨Fo, β, G, st, R0, q⟩ := h
  refine ⟨Fo, β, G, st, R0, ?_⟩
  unfold M.bind at q
  cases e : m st with
  | ok b st1 =>
    rw [e] at q
    exact fun β1 G1 H1 F R1 => hk Fo b st1 β1 G1 H1 R1 (q.trans F)
  | exc c fs st1 => rw [e] at q; exact q
  | bad => rw [e] at q; exact q.elim
theorem tB_bindD {Q : VK} {R : Bool → Hp → Prop} {m : M Bool} {k : Bool → M DV} (h : tD w W (m.bind k) σ H Q)
    (hk : ∀ (Fo : Addr → Prop) (b : Bool) (st : St) (β : List Addr) (G H : Hp), RS w Fo β G H σ st → Out w W Fo σ st β G H Q (k b st) → R b H) : tB w W m σ H R := by
  obtain ⟨Fo, β, G, st, R0, q⟩ := h
  refine ⟨Fo, β, G, st, R0, ?_⟩
  unfold M.bind at q
  cases e : m st with
  | ok b st1 =>
    rw [e] at q
    exact fun β1 G1 H1 F R1 => hk Fo b st1 β1 G1 H1 R1 (q.trans F)
  | exc c fs st1 => rw [e] at q; exact q
  | bad => rw [e] at q; exact q.elim
def andB (m n : M Bool) : M Bool := m.bind fun b => if b = true then n else M.ret false
def orB (m n : M Bool) : M Bool := m.bind fun b => if b = true then M.ret true else n
theorem OutB.ret {Q : Bool → Hp → Prop} {b : Bool} (R : RS w Fo β G H σ st) (h : OutB w W Fo σ st β G H Q (M.ret b st)) : Q b H := h β G H Fr.refl R
theorem Out.ret {Q : VK} {d : D} {v : V} {f : Bool} (R : RS w Fo β G H σ st) (h : Out w W Fo σ st β G H Q (M.ret (d, f) st)) (V : RepV w Fo σ st β G H f d v) : Q v H := h v β G H Fr.refl R V
variable {rest : List Expr}
theorem d_and1 {m : M Bool} (h : PT X a (tB w W m)) : PW X (.BoolOp .And [a] pos) (tB w W m) := pw_and1 h
theorem d_or1 {m : M Bool} (h : PT X a (tB w W m)) : PW X (.BoolOp .Or [a] pos) (tB w W m) := pw_or1 h
theorem d_and {m n : M Bool} (h : PT X a (tB w W m)) (h' : PW X (.BoolOp .And (b :: rest) pos) (tB w W n)) : PW X (.BoolOp .And (a :: b :: rest) pos) (tB w W (andB m n)) :=
  PW.imp (pw_and h h') fun σ H Q q => tB_bind q fun Fo b st β G H R q => by
    cases b with
    | true => simp only [if_true] at q ⊢; exact ⟨Fo, β, G, st, R, q⟩
    | false => simp only [Bool.false_eq_true, if_false] at q ⊢; exact OutB.ret R q
theorem d_or {m n : M Bool} (h : PT X a (tB w W m)) (h' : PW X (.BoolOp .Or (b :: rest) pos) (tB w W n)) : PW X (.BoolOp .Or (a :: b :: rest) pos) (tB w W (orB m n)) :=
  PW.imp (pw_or h h') fun σ H Q q => tB_bind q fun Fo b st β G H R q => by
    cases b with
    | true => simp only [if_true] at q ⊢; exact OutB.ret R q
    | false => simp only [Bool.false_eq_true, if_false] at q ⊢; exact ⟨Fo, β, G, st, R, q⟩
/-! ### and, or, not, if as values -/
def blM (x : DV) (k : Bool → M DV) : M DV := match x.1 with
  | .bl b => k b
  | _ => M.bad
def andM (m n : M DV) : M DV := m.bind fun x => blM x fun b => if b = true then n else M.ret (.bl false, false)
def orM (m n : M DV) : M DV := m.bind fun x => blM x fun b => if b = true then M.ret (.bl true, false) else n
def notM (m : M DV) : M DV := m.bind fun x => blM x fun b => M.ret (.bl !b, false)
theorem blM_elim {Q : VK} {d : D} {f : Bool} {v : V} {k : Bool → M DV} (R : RS w Fo β G H σ st) (V : RepV w Fo σ st β G H f d v) (h : Out w W Fo σ st β G H Q (blM (d, f) k st)) : ∃ c, v = .bl c ∧ Out w W Fo σ st β G H Q (k c st) := by
  unfold blM at h
  simp only at h
  split at h
  · exact ⟨_, (V.held R).bl, h⟩
  · exact h.elim
theorem d_andV {m n : M DV} (h : PE X a (tD w W m)) (h' : PE X (.BoolOp .And (b :: rest) pos) (tD w W n)) : PE X (.BoolOp .And (a :: b :: rest) pos) (tD w W (andM m n)) :=
  PE.imp (pe_and h h') fun σ H Q q => tD_bind q fun Fo d f v st β G H R V q => by
    obtain ⟨c, e, q⟩ := blM_elim R V q
    refine ⟨c, e, ?_⟩
    cases c with
    | true => simp only [if_true] at q ⊢; exact ⟨Fo, β, G, st, R, q⟩
    | false => simp only [Bool.false_eq_true, if_false] at q ⊢; exact Out.ret R q (RepV.val rep_bl)
theorem d_orV {m n : M DV} (h : PE X a (tD w W m)) (h' : PE X (.BoolOp .Or (b :: rest) pos) (tD w W n)) : PE X (.BoolOp .Or (a :: b :: rest) pos) (tD w W (orM m n)) :=
  PE.imp (pe_or h h') fun σ H Q q => tD_bind q fun Fo d f v st β G H R V q => by
    obtain ⟨c, e, q⟩ := blM_elim R V q
    refine ⟨c, e, ?_⟩
    cases c with
    | true => simp only [if_true] at q ⊢; exact Out.ret R q (RepV.val rep_bl)
    | false => simp only [Bool.false_eq_true, if_false] at q ⊢; exact ⟨Fo, β, G, st, R, q⟩
theorem d_notV {m : M DV} (h : PE X a (tD w W m)) : PE X (.UnaryOp .Not a pos) (tD w W (notM m)) :=
  PE.imp (pe_not h) fun σ H Q q => tD_bind q fun Fo d f v st β G H R V q => by
    obtain ⟨c, e, q⟩ := blM_elim R V q
    exact ⟨c, e, Out.ret R q (RepV.val rep_bl)⟩
def ifM (t : M Bool) (m n : M DV) : M DV := t.bind fun b => if b = true then m else n
theorem d_ifExp {t : M Bool} {m n : M DV} (hc : PT X c (tB w W t)) (ha : PE X a (tD w W m)) (hb : PE X b (tD w W n)) : PE X (.IfExp c a b pos) (tD w W (ifM t m n)) :=
  PE.imp (pe_ifExp hc ha hb) fun σ H Q q => tB_bindD q fun Fo b st β G H R q => by
    cases b with
    | true => simp only [if_true] at q ⊢; exact ⟨Fo, β, G, st, R, q⟩
    | false => simp only [Bool.false_eq_true, if_false] at q ⊢; exact ⟨Fo, β, G, st, R, q⟩
def negM (m : M DV) : M DV := m.bind fun x => match x.1 with
  | .int i => M.ret (.int (-i), false)
  | _ => M.bad
theorem d_neg {m : M DV} (h : PE X a (tD w W m)) : PE X (.UnaryOp .USub a pos) (tD w W (negM m)) :=
  PE.imp (pe_un un_neg h) fun σ H Q q => tD_bind q fun Fo d f v st β G H R V q => by
    simp only at q
    split at q
    · exact ⟨_, (V.held R).int, Out.ret R q (RepV.val rep_int)⟩
    · exact q.elim
end

/-! ### comparisons -/
def cmpI (p : Int → Int → Bool) : DV → DV → M DV := intM (fun _ _ => true) (fun i j => .bl (p i j))
theorem cmpI_ok {w : Wo} {p : Int → Int → Bool} : OpS w (rI0 fun i j => .bl (p i j)) (cmpI p) := intM0_ok fun _ _ _ _ => rep_bl
/-- is None -/
def isNon : D → Bool
  | .non => true
  | _ => false
def isNM (neg : Bool) : DV → DV → M DV := fun x y => if isNon y.1 = true then M.ret (.bl (if neg = true then !isNon x.1 else isNon x.1), false) else M.bad
mutual
def toP : D → Option PyData
  | .non => some .none
  | .bl b => some (.bool b)
  | .int i => some (.int i)
  | .str x => some (.str x)
  | .tup ds => (toPs ds).map .tuple
  | .lst ds => (toPs ds).map .list
  | .fro ds => (toPs ds).map .list
  | .ftu ds => (toPs ds).map .tuple
  | _ => none
def toPs : List D → Option (List PyData)
  | [] => some []
  | d :: ds => match toP d, toPs ds with
    | some p, some ps => some (p :: ps)
    | _, _ => none
end
section
variable {w : Wo} {β : List Addr} {G H : Hp}
mutual
theorem Rep.dp (sub : SubE G H) : ∀ (d : D) (v : V) (p : PyData), Rep w β G d v → toP d = some p → Dp w.K H v p
  | .non, v, p, h, e => by
    unfold Rep at h; unfold toP at e; cases e; subst h; exact .non
  | .bl b, v, p, h, e => by
    unfold Rep at h; unfold toP at e; cases e; subst h; exact .bl b
  | .int i, v, p, h, e => by
    unfold Rep at h; unfold toP at e; cases e; subst h; exact .int i
  | .str x, v, p, h, e => by
    unfold Rep at h; unfold toP at e; cases e; obtain ⟨h, _⟩ := h; subst h; exact .str x
  | .tup ds, v, p, h, e => by
    unfold Rep at h; unfold toP at e
    obtain ⟨_, a, vs, rfl, s, r⟩ := h
    obtain ⟨ps, e1, e2⟩ := Option.map_eq_some_iff.mp e
    subst e2
    exact .tup (SqT.of (sub _ _ s)) (Reps.dp sub ds vs ps r e1)
  | .lst ds, v, p, h, e => by
    unfold Rep at h; unfold toP at e
    obtain ⟨_, a, vs, rfl, s, r⟩ := h
    obtain ⟨ps, e1, e2⟩ := Option.map_eq_some_iff.mp e
    subst e2
    exact .lst (SqL.of (sub _ _ s)) (Reps.dp sub ds vs ps r e1)
  | .set _, _, _, _, e => by unfold toP at e; cases e
  | .dct _, _, _, _, e => by unfold toP at e; cases e
  | .dtt _, _, _, _, e => by unfold toP at e; cases e
  | .ins _ _, _, _, _, e => by unfold toP at e; cases e
  | .err _ _, _, _, _, e => by unfold toP at e; cases e
  | .fro ds, v, p, h, e => by
    unfold Rep at h; unfold toP at e
    obtain ⟨_, a, vs, rfl, s, r⟩ := h
    obtain ⟨ps, e1, e2⟩ := Option.map_eq_some_iff.mp e
    subst e2
    exact .lst (SqL.mono sub.h s) (Reps.dp sub ds vs ps r e1)
  | .ftu ds, v, p, h, e => by
    unfold Rep at h; unfold toP at e
    obtain ⟨_, a, vs, rfl, s, r⟩ := h
    obtain ⟨ps, e1, e2⟩ := Option.map_eq_some_iff.mp e
    subst e2
    exact .tup (SqT.mono sub.h s) (Reps.dp sub ds vs ps r e1)
  | .obj _, _, _, _, e => by unfold toP at e; cases e
  | .loc _, _, _, _, e => by unfold toP at e; cases e
  | .glo _, _, _, _, e => by unfold toP at e; cases e
theorem Reps.dp (sub : SubE G H) : ∀ (ds : List D) (vs : List V) (ps : List PyData), Reps w β G ds vs → toPs ds = some ps → DpAll w.K H vs ps
  | [], vs, ps, h, e => by
    unfold Reps at h; unfold toPs at e; cases e; subst h; exact .nil
  | d :: ds, vs, ps, h, e => by
    unfold Reps at h; unfold toPs at e
    obtain ⟨v, r, rfl, s, t⟩ := h
    split at e
    · rename_i p ps' e1 e2
      cases e
      exact .cons (Rep.dp sub d v p s e1) (Reps.dp sub ds r ps' t e2)
    · cases e
end
theorem Held.dp (sub : SubE G H) {v : V} : ∀ {d : D} {p : PyData}, Held w β G H d v → toP d = some p → Dp w.K H v p := by
  intro d p h e
  cases h with
  | val h => exact Rep.dp sub d v p h e
  | own h =>
    cases d with
    | lst ds =>
      obtain ⟨_, vs, e1, r⟩ := h
      have e : (toPs ds).map PyData.list = some p := by rw [← e, toP]
      obtain ⟨ps, e2, e3⟩ := Option.map_eq_some_iff.mp e
      subst e3
      exact .lst (SqL.of e1) (Reps.dp sub ds vs ps r e2)
    | dct kvs => rw [toP] at e; cases e; all_goals (intros; contradiction)
    | dtt kvs => rw [toP] at e; cases e; all_goals (intros; contradiction)
    | ins c fs => rw [toP] at e; cases e; all_goals (intros; contradiction)
    | _ => exact h.elim
end
/-- are two data equal -/
def eqP (x y : D) : Option Bool := match toP x, toP y with
  | some p, some q => if SeqAt.shaped p = true ∧ SeqAt.shaped q = true then some (PyData.eqv p q) else none
  | _, _ => none
def eqM (neg : Bool) : DV → DV → M DV := fun x y st => match eqP (deref st x.1) (deref st y.1) with
  | some b => .ok (.bl (if neg = true then !b else b), false) st
  | none => .bad
theorem eqD_ok {w : Wo} {K : PySem.W.Frag} (hK : K = w.K) : OpS w (rEqD K) (eqM false) := by
  intro W Fo σ st β G H Q d1 f1 v1 d2 f2 v2 R V1 V2 h
  subst hK
  unfold eqM eqP at h
  cases e1 : toP (deref st d1) with
  | none => simp only [e1] at h; exact h.elim
  | some p =>
    cases e2 : toP (deref st d2) with
    | none => simp only [e1, e2] at h; exact h.elim
    | some q =>
      simp only [e1, e2] at h
      by_cases c : SeqAt.shaped p = true ∧ SeqAt.shaped q = true
      · rw [if_pos c] at h
        exact ⟨p, q, (V1.held R).dp R.sub e1, (V2.held R).dp R.sub e2, c.1, c.2, h _ β G H Fr.refl R (RepV.val rep_bl)⟩
      · rw [if_neg c] at h; exact h.elim
theorem neD_ok {w : Wo} {K : PySem.W.Frag} (hK : K = w.K) : OpS w (rNeD K) (eqM true) := by
  intro W Fo σ st β G H Q d1 f1 v1 d2 f2 v2 R V1 V2 h
  subst hK
  unfold eqM eqP at h
  cases e1 : toP (deref st d1) with
  | none => simp only [e1] at h; exact h.elim
  | some p =>
    cases e2 : toP (deref st d2) with
    | none => simp only [e1, e2] at h; exact h.elim
    | some q =>
      simp only [e1, e2] at h
      by_cases c : SeqAt.shaped p = true ∧ SeqAt.shaped q = true
      · rw [if_pos c] at h
        exact ⟨p, q, (V1.held R).dp R.sub e1, (V2.held R).dp R.sub e2, c.1, c.2, h _ β G H Fr.refl R (RepV.val rep_bl)⟩
      · rw [if_neg c] at h; exact h.elim
theorem repV_isNon {w : Wo} {Fo : Addr → Prop} {σ : L2.St} {st : St} {β : List Addr} {G H : Hp} {f : Bool} {d : D} {v : V} (R : RS w Fo β G H σ st) (V : RepV w Fo σ st β G H f d v) : decide (v = .non) = isNon d := by
  rcases repV_cases V with ⟨i, b, d', rfl, _, q1, q2, qc⟩ | V0
  · cases b with
    | true =>
      obtain ⟨a, q3, _⟩ := R.own i d' q2
      rw [q1] at q3
      cases q3
      rfl
    | false =>
      obtain ⟨v', q3, q4⟩ := R.val i d' q2
      rw [q1] at q3
      cases q3
      cases d' <;> first | (cases qc; done) | skip
      · unfold Rep at q4; obtain ⟨_, a, vs, e, _⟩ := q4; subst e; rfl
      · unfold Rep at q4; obtain ⟨_, a, ks, e, _⟩ := q4; subst e; rfl
      · unfold Rep at q4; obtain ⟨_, a, ks, e, _⟩ := q4; subst e; rfl
      · unfold Rep at q4; obtain ⟨a, dx, gs, e, _⟩ := q4; subst e; rfl
  · unfold RepV0 at V0
    cases f with
    | true =>
      simp only [if_true] at V0
      obtain ⟨a, rfl, _, _, _, _, o⟩ := V0
      cases d <;> first | rfl | exact o.elim
    | false =>
      simp only [Bool.false_eq_true, if_false] at V0
      cases d <;> unfold Rep at V0 <;> first
        | (subst V0; rfl)
        | (obtain ⟨V0, _⟩ := V0; subst V0; rfl)
        | (obtain ⟨a, _, V0⟩ := V0; subst V0; rfl)
        | (obtain ⟨_, a, vs, V0, _⟩ := V0; subst V0; rfl)
        | (obtain ⟨_, a, V0, _⟩ := V0; subst V0; rfl)
        | (obtain ⟨a, dx, gs, V0, _⟩ := V0; subst V0; rfl)
        | exact V0.elim
theorem isN_ok {w : Wo} : OpS w (fun x y H Q => y = .non ∧ Q (.bl (decide (x = .non))) H) (isNM false) := by
  intro W Fo σ st β G H Q d1 f1 v1 d2 f2 v2 R V1 V2 h
  have e1 := repV_isNon R V1
  have e2 := repV_isNon R V2
  unfold isNM at h
  simp only at h
  by_cases c : isNon d2 = true
  · rw [if_pos c] at h
    rw [c] at e2
    rw [e1]
    exact ⟨of_decide_eq_true e2, Out.ret R h (RepV.val rep_bl)⟩
  · rw [if_neg c] at h; exact h.elim
theorem notN_ok {w : Wo} : OpS w (fun x y H Q => y = .non ∧ Q (.bl (!decide (x = .non))) H) (isNM true) := by
  intro W Fo σ st β G H Q d1 f1 v1 d2 f2 v2 R V1 V2 h
  have e1 := repV_isNon R V1
  have e2 := repV_isNon R V2
  unfold isNM at h
  simp only at h
  by_cases c : isNon d2 = true
  · rw [if_pos c] at h
    rw [c] at e2
    rw [e1]
    exact ⟨of_decide_eq_true e2, Out.ret R h (RepV.val rep_bl)⟩
  · rw [if_neg c] at h; exact h.elim
end PD

set_option autoImplicit false
namespace PD
open PySem PySem.Spec PyProof.Rows L2

/-! ### arguments: each is given away, but a container of the def's own stays named -/
section
variable (w : Wo)
def RepA (σ : L2.St) (st : St) (β : List Addr) (G : Hp) : D → V → Prop
  | .loc i, v => σ[i]? = some (some v) ∧ ∃ b d', st.env[i]? = some (some (b, d')) ∧ isCont d' = true
  | d, v => Rep w β G d v
def RepAs (σ : L2.St) (st : St) (β : List Addr) (G : Hp) : List D → List V → Prop
  | [], vs => vs = []
  | d :: ds, vs => ∃ v r, vs = v :: r ∧ RepA w σ st β G d v ∧ RepAs σ st β G ds r
def OutA (W : WX) (Fo : Addr → Prop) (σ : L2.St) (st : St) (β : List Addr) (G H : Hp) (Q : List V → Hp → Prop) : Rz (List D) → Prop
  | .ok ds st' => ∀ (vs : List V) (β' : List Addr) (G' H' : Hp), Fr Fo st β G H st' β' G' H' → RS w Fo β' G' H' σ st' → RepAs w σ st' β' G' ds vs → Q vs H'
  | .exc c fs st' => ∀ (β' : List Addr) (G' H' : Hp) (dx : Addr) (gs : List (Str × V)), Fr Fo st β G H st' β' G' H' → RS w Fo β' G' H' σ st' → H' dx = some (.xd gs) → RepsF w β' G' fs gs → W (.ref (w.ca c)) (some dx) σ H'
  | .bad => False
def tA (W : WX) (m : M (List D)) : TA := fun σ H Q => ∃ (Fo : Addr → Prop) (β : List Addr) (G : Hp) (st : St), RS w Fo β G H σ st ∧ OutA w W Fo σ st β G H Q (m st)
end
section
variable {w : Wo} {si : SI} {X : Cx} {W : WX} {e : Expr} {es : List Expr} {pos : Pos} {Fo : Addr → Prop} {σ : L2.St} {st st1 : St} {β β1 : List Addr} {G H G1 H1 : Hp}
theorem repA_of {d : D} {v : V} (h : Rep w β G d v) : RepA w σ st β G d v := by
  cases d with
  | loc i => unfold Rep at h; exact h.elim
  | _ => exact h
theorem RepA.repV {d : D} {v : V} (h : RepA w σ st β G d v) : RepV w Fo σ st β G H false d v := by
  cases d with
  | loc i => exact ⟨rfl, h.1, h.2⟩
  | _ => exact RepV.val h
theorem RepA.fr (F : Fr Fo st β G H st1 β1 G1 H1) : ∀ {d : D} {v : V}, RepA w σ st β G d v → RepA w σ st1 β1 G1 d v := by
  intro d v h
  cases d with
  | loc i =>
    obtain ⟨h1, b, d', h2, h3⟩ := h
    obtain ⟨b2, d2, h4, h5⟩ := F.ow i b d' h2 h3
    exact ⟨h1, b2, d2, h4, h5⟩
  | _ => exact Rep.mono F.g F.b _ v h
theorem RepAs.fr (F : Fr Fo st β G H st1 β1 G1 H1) : ∀ {ds : List D} {vs : List V}, RepAs w σ st β G ds vs → RepAs w σ st1 β1 G1 ds vs
  | [], vs, h => h
  | d :: ds, vs, h => by
    obtain ⟨v, r, e, h1, h2⟩ := h
    exact ⟨v, r, e, h1.fr F, RepAs.fr F h2⟩
/-- a value given away -/
theorem settle (R : RS w Fo β G H σ st) {f : Bool} {d : D} {v : V} (V : RepV w Fo σ st β G H f d v) : ∃ G', Fr Fo st β G H st β G' H ∧ RS w Fo β G' H σ st ∧ RepA w σ st β G' d v := by
  by_cases hl : ∃ i, d = .loc i
  · obtain ⟨i, rfl⟩ := hl
    obtain ⟨_, h1, h2⟩ := V
    exact ⟨G, Fr.refl, R, h1, h2⟩
  · have hl' : ∀ i, d ≠ .loc i := fun i e => hl ⟨i, e⟩
    obtain ⟨G', g, _, R', r⟩ := release R V hl'
    exact ⟨G', ⟨g, SubB.refl _, fun _ _ => rfl, fun _ b d h c => ⟨b, d, h, c⟩⟩, R', repA_of r⟩
theorem OutA.trans {Q : List V → Hp → Prop} (F : Fr Fo st β G H st1 β1 G1 H1) : ∀ (r : Rz (List D)), OutA w W Fo σ st β G H Q r → OutA w W Fo σ st1 β1 G1 H1 Q r
  | .ok ds st', h => fun vs β' G' H' F' R' V' => h vs β' G' H' (F.trans F') R' V'
  | .exc c fs st', h => fun β' G' H' dx gs F' R' e r => h β' G' H' dx gs (F.trans F') R' e r
  | .bad, h => h
def argsNil : M (List D) := M.ret []
def argsCons (m : M DV) (ms : M (List D)) : M (List D) := m.bind fun x => ms.bind fun xs => M.ret (x.1 :: xs)
theorem a_nil : PA X [] (tA w W argsNil) := PA.imp pa_nil fun σ H Q h => by
  obtain ⟨Fo, β, G, st, R, h⟩ := h
  exact h [] β G H Fr.refl R rfl
/-- bind of args: a value, then the rest -/
theorem tA_cons {m : M DV} {ms : M (List D)} {Q : List V → Hp → Prop} (h : tA w W (argsCons m ms) σ H Q) : tD w W m σ H fun x H1 => tA w W ms σ H1 fun xs H2 => Q (x :: xs) H2 := by
  obtain ⟨Fo, β, G, st, R, h⟩ := h
  refine ⟨Fo, β, G, st, R, ?_⟩
  unfold argsCons M.bind at h
  cases e : m st with
  | ok x st1 =>
    obtain ⟨d, f⟩ := x
    simp only [e] at h
    intro v β1 G1 H1 F1 R1 V1
    obtain ⟨G2, F2, R2, A2⟩ := settle R1 V1
    refine ⟨Fo, β1, G2, st1, R2, ?_⟩
    cases e2 : ms st1 with
    | ok xs st3 =>
      simp only [e2] at h
      intro vs β3 G3 H3 F3 R3 A3
      exact h (v :: vs) β3 G3 H3 ((F1.trans F2).trans F3) R3 ⟨v, vs, rfl, A2.fr F3, A3⟩
    | exc c fs st3 =>
      simp only [e2] at h
      exact fun β' G' H' dx gs F' R' q r => h β' G' H' dx gs ((F1.trans F2).trans F') R' q r
    | bad => simp only [e2] at h; exact h.elim
  | exc c fs st1 => simp only [e] at h; exact h
  | bad => simp only [e] at h; exact h.elim
theorem starEach_plain {env : Env} (h : ∀ a p, e ≠ .Starred a p) : starEach (e :: es) env = (false, eval e env) :: starEach es env := by
  cases e with
  | Starred a p => exact absurd rfl (h a p)
  | _ => rfl
theorem a_cons {m : M DV} {ms : M (List D)} (h : PE X e (tD w W m)) (hs : PA X es (tA w W ms)) (hn : ∀ a p, e ≠ .Starred a p) : PA X (e :: es) (tA w W (argsCons m ms)) :=
  PA.imp (pa_cons h hs (starEach_plain hn)) fun σ H Q q => tA_cons q
/-- *e -/
def seqOf (st : St) (d : D) : Option (List D) := match deref st d with
  | .lst ds => some ds
  | .tup ds => some ds
  | .fro ds => some ds
  | .ftu ds => some ds
  | _ => none
def argsStar (m : M DV) (ms : M (List D)) : M (List D) := m.bind fun x st => match seqOf st x.1 with
  | some ds => (ms.bind fun xs => M.ret (ds ++ xs)) st
  | none => .bad
theorem RepAs.of : ∀ {ds : List D} {vs : List V}, Reps w β G ds vs → RepAs w σ st β G ds vs
  | [], vs, h => by unfold Reps at h; exact h
  | d :: ds, vs, h => by
    unfold Reps at h
    obtain ⟨v, r, e, s, t⟩ := h
    exact ⟨v, r, e, repA_of s, RepAs.of t⟩
theorem RepAs.app : ∀ {ds es : List D} {vs us : List V}, RepAs w σ st β G ds vs → RepAs w σ st β G es us → RepAs w σ st β G (ds ++ es) (vs ++ us)
  | [], es, vs, us, h, h' => by
    have h : vs = [] := h
    rw [h]; exact h'
  | d :: ds, es, vs, us, h, h' => by
    obtain ⟨v, r, e, s, t⟩ := h
    rw [e]
    exact ⟨v, r ++ us, rfl, s, RepAs.app t h'⟩
theorem seqOf_ok (R : RS w Fo β G H σ st) {f : Bool} {d : D} {v : V} {ds : List D} (V : RepV w Fo σ st β G H f d v) (h : seqOf st d = some ds) : ds.length ≤ sizeLine ∧ ∃ a vs, v = .ref a ∧ (SqL w.K H a vs ∨ SqT w.K H a vs) ∧ Reps w β G ds vs := by
  have hh := V.held R
  unfold seqOf at h
  split at h
  · rename_i ds' e
    cases h
    rw [e] at hh
    obtain ⟨z, a, vs, e1, q, r⟩ := hh.lst R.sub
    exact ⟨z, a, vs, e1, .inl (SqL.of q), r⟩
  · rename_i ds' e
    cases h
    rw [e] at hh
    obtain ⟨z, a, vs, e1, q, r⟩ := hh.tup R.sub
    exact ⟨z, a, vs, e1, .inr (SqT.of q), r⟩
  · rename_i ds' e
    cases h
    rw [e] at hh
    obtain ⟨z, a, vs, e1, q, r⟩ := hh.fro R.sub
    exact ⟨z, a, vs, e1, .inl q, r⟩
  · rename_i ds' e
    cases h
    rw [e] at hh
    obtain ⟨z, a, vs, e1, q, r⟩ := hh.ftu R.sub
    exact ⟨z, a, vs, e1, .inr q, r⟩
  · cases h
theorem a_star {m : M DV} {ms : M (List D)} {p : Pos} (hK : X.K = w.K) (h : PE X e (tD w W m)) (hs : PA X es (tA w W ms)) : PA X (.Starred e p :: es) (tA w W (argsStar m ms)) :=
  PA.imp (StX.pa_star h hs) fun σ H Q q => by
    obtain ⟨Fo, β, G, st, R, q⟩ := q
    refine ⟨Fo, β, G, st, R, ?_⟩
    unfold argsStar M.bind at q
    cases e1 : m st with
    | ok x st1 =>
      obtain ⟨d, f⟩ := x
      simp only [e1] at q
      intro v β1 G1 H1 F1 R1 V1
      cases e2 : seqOf st1 d with
      | none => simp only [e2] at q; exact q.elim
      | some ds =>
        simp only [e2] at q
        obtain ⟨_, a, vs, rfl, hq, r⟩ := seqOf_ok R1 V1 e2
        refine ⟨a, vs, rfl, by rw [hK]; exact hq.symm, ?_⟩
        refine ⟨Fo, β1, G1, st1, R1, ?_⟩
        cases e3 : ms st1 with
        | ok xs st3 =>
          simp only [e3] at q
          intro us β3 G3 H3 F3 R3 A3
          exact q (vs ++ us) β3 G3 H3 (F1.trans F3) R3 (RepAs.app (RepAs.fr F3 (RepAs.of r)) A3)
        | exc c fs st3 =>
          simp only [e3] at q
          exact fun β' G' H' dx gs F' R' z r => q β' G' H' dx gs (F1.trans F') R' z r
        | bad => simp only [e3] at q; exact q.elim
    | exc c fs st1 => simp only [e1] at q; exact q
    | bad => simp only [e1] at q; exact q.elim
/-- keywords' values -/
theorem k_nil : PK X [] (tA w W argsNil) := ⟨fun pos pins s σ H Q I h => pk_nil.run pos pins s σ H Q I (by
  obtain ⟨Fo, β, G, st, R, h⟩ := h
  exact h [] β G H Fr.refl R rfl)⟩
theorem k_cons {m : M DV} {ms : M (List D)} {nm : Option Str} {kp : Pos} {kws : List Keyword} (h : PE X e (tD w W m)) (hs : PK X kws (tA w W ms)) : PK X (⟨nm, e, kp⟩ :: kws) (tA w W (argsCons m ms)) :=
  ⟨fun pos pins s σ H Q I q => (pk_cons h hs).run pos pins s σ H Q I (tA_cons q)⟩

/-- a container of the def's own, given away: it changes no more -/
def frz1 (d : D) : M D := match d with
  | .loc i => fun st => (match st.env[i]? with
    | some (some (_, d')) => .ok d' ⟨st.env.set i (some (false, d')), st.sto⟩
    | _ => .bad)
  | d => M.ret d
def frzL : List D → M (List D)
  | [] => M.ret []
  | d :: ds => (frz1 d).bind fun d' => (frzL ds).bind fun ds' => M.ret (d' :: ds')
theorem RS.freeze (R : RS w Fo β G H σ st) {i : Nat} {b : Bool} {d : D} {v : V} (h1 : σ[i]? = some (some v)) (h2 : st.env[i]? = some (some (b, d))) :
    ∃ G', Fr Fo st β G H ⟨st.env.set i (some (false, d)), st.sto⟩ β G' H ∧ RS w Fo β G' H σ ⟨st.env.set i (some (false, d)), st.sto⟩ ∧ Rep w β G' d v := by
  have hi : i < st.env.length := (List.getElem?_eq_some_iff.mp h2).1
  have hE : ∀ (j : Nat) (b' : Bool) (d' : D), (st.env.set i (some (false, d)))[j]? = some (some (b', d')) → (j = i ∧ b' = false ∧ d' = d) ∨ (j ≠ i ∧ st.env[j]? = some (some (b', d'))) := fun j b' d' e => by
    by_cases hj : i = j
    · subst hj
      rw [List.getElem?_set_self hi] at e
      cases e
      exact .inl ⟨rfl, rfl, rfl⟩
    · rw [List.getElem?_set_ne hj] at e
      exact .inr ⟨Ne.symm hj, e⟩
  have how : ∀ (j : Nat) (b' : Bool) (d' : D), st.env[j]? = some (some (b', d')) → isCont d' = true → ∃ b2 d2, (st.env.set i (some (false, d)))[j]? = some (some (b2, d2)) ∧ isCont d2 = true := fun j b' d' e c => by
    by_cases hj : i = j
    · subst hj
      rw [h2] at e
      cases e
      exact ⟨false, d, List.getElem?_set_self hi, c⟩
    · exact ⟨b', d', by rw [List.getElem?_set_ne hj]; exact e, c⟩
  have ln' : σ.length = (st.env.set i (some (false, d))).length := by rw [List.length_set]; exact R.ln
  cases b with
  | false =>
    obtain ⟨v', h3, h4⟩ := R.val i d h2
    rw [h1] at h3
    cases h3
    refine ⟨G, ⟨SubH.refl _, SubB.refl _, fun _ _ => rfl, how⟩, ⟨R.len, R.sub, fun j d' e => ?_, fun j d' e => ?_, fun j k d' e' a e1 e2 => ?_, R.sto, R.nd, fun a ha => ?_, R.ft, ln', R.tb, R.tq⟩, h4⟩
    · rcases hE j false d' e with ⟨rfl, _, rfl⟩ | ⟨_, e⟩
      · exact ⟨v, h1, h4⟩
      · exact R.val j d' e
    · rcases hE j true d' e with ⟨_, z, _⟩ | ⟨_, e⟩
      · cases z
      · exact R.own j d' e
    · rcases hE j true d' e1 with ⟨_, z, _⟩ | ⟨_, e1⟩
      · cases z
      · rcases hE k true e' e2 with ⟨_, z, _⟩ | ⟨_, e2⟩
        · cases z
        · exact R.dis j k d' e' a e1 e2
    · obtain ⟨q1, q2, q3, q4⟩ := R.fo a ha
      refine ⟨q1, q2, q3, fun j d' e => ?_⟩
      rcases hE j true d' e with ⟨_, z, _⟩ | ⟨_, e⟩
      · cases z
      · exact q4 j d' e
  | true =>
    obtain ⟨a, h3, h4, h5, h6⟩ := R.own i d h2
    rw [h1] at h3
    cases h3
    obtain ⟨o, ho⟩ := h6.there
    have hG : SubH G (upd G a o) := SubH.new h4
    have rd : Rep w β (upd G a o) d (.ref a) := by
      cases d with
      | lst ds =>
        obtain ⟨z, vs, e, r⟩ := h6
        rw [ho] at e; cases e
        unfold Rep
        exact ⟨z, a, vs, rfl, upd_same, Reps.mono hG (SubB.refl _) ds vs r⟩
      | dct kvs =>
        obtain ⟨z, ks, e, r⟩ := h6
        rw [ho] at e; cases e
        unfold Rep
        exact ⟨z, a, ks, rfl, .inl upd_same, RepsK.mono hG (SubB.refl _) kvs ks r⟩
      | dtt kvs =>
        obtain ⟨z, ks, e, r⟩ := h6
        rw [ho] at e; cases e
        unfold Rep
        exact ⟨z, a, ks, rfl, .inl upd_same, RepsT.mono hG (SubB.refl _) kvs ks r⟩
      | ins c fs =>
        obtain ⟨dx, gs, e, r⟩ := h6
        rw [ho] at e; cases e
        unfold Rep
        exact ⟨a, dx, gs, rfl, upd_same, RepsF.mono hG (SubB.refl _) fs gs r⟩
      | _ => exact h6.elim
    refine ⟨upd G a o, ⟨hG, SubB.refl _, fun _ _ => rfl, how⟩, ⟨R.len, fun b u e => ?_, fun j d' e => ?_, fun j d' e => ?_, fun j k d' e' b e1 e2 => ?_, fun n d' b e1 e2 => ?_, R.nd, fun b hb => ?_, R.ft, ln', R.tb, fun q hq => ⟨by
      rw [upd_ne]; exact (R.tq q hq).1
      intro z
      obtain ⟨ps, e5, _⟩ := R.tb q hq
      exact h6.ntb.1 ps (by rw [← z]; exact e5), (R.tq q hq).2⟩⟩, rd⟩
    · by_cases hb : b = a
      · subst hb; rw [upd_same] at e; cases e; exact ho
      · rw [upd_ne hb] at e; exact R.sub b u e
    · rcases hE j false d' e with ⟨rfl, _, rfl⟩ | ⟨_, e⟩
      · exact ⟨_, h1, rd⟩
      · obtain ⟨v', q1, q2⟩ := R.val j d' e
        exact ⟨v', q1, Rep.mono hG (SubB.refl _) d' v' q2⟩
    · rcases hE j true d' e with ⟨_, z, _⟩ | ⟨hj, e⟩
      · cases z
      · obtain ⟨b, q1, q2, q3, q4⟩ := R.own j d' e
        refine ⟨b, q1, ?_, q3, q4.mono hG (SubB.refl _) rfl⟩
        rw [upd_ne]; exact q2
        intro z
        subst z
        exact hj (R.dis j i d' d b e h2 q1 h1)
    · rcases hE j true d' e1 with ⟨_, z, _⟩ | ⟨_, e1⟩
      · cases z
      · rcases hE k true e' e2 with ⟨_, z, _⟩ | ⟨_, e2⟩
        · cases z
        · exact R.dis j k d' e' b e1 e2
    · obtain ⟨q1, q2⟩ := R.sto n d' b e1 e2
      refine ⟨?_, q2.mono hG (SubB.refl _) rfl⟩
      rw [upd_ne]; exact q1
      intro z
      exact h5 (by rw [← z]; exact List.mem_of_getElem? e2)
    · obtain ⟨q1, q2, q3, q4⟩ := R.fo b hb
      refine ⟨q1, ?_, q3, fun j d' e => ?_⟩
      · rw [upd_ne]; exact q2
        intro z
        subst z
        exact q4 i d h2 h1
      · rcases hE j true d' e with ⟨_, z, _⟩ | ⟨_, e⟩
        · cases z
        · exact q4 j d' e
theorem frz1_ok (R : RS w Fo β G H σ st) {d : D} {v : V} (A : RepA w σ st β G d v) : ∃ d' st' G', frz1 d st = .ok d' st' ∧ Fr Fo st β G H st' β G' H ∧ RS w Fo β G' H σ st' ∧ Rep w β G' d' v := by
  cases d with
  | loc i =>
    obtain ⟨h1, b, d', h2, h3⟩ := A
    obtain ⟨G', F, R', r⟩ := R.freeze h1 h2
    exact ⟨d', _, G', by simp only [frz1, h2], F, R', r⟩
  | _ => exact ⟨_, st, G, rfl, Fr.refl, R, A⟩
theorem frzL_ok : ∀ {ds : List D} {vs : List V} {st : St} {G : Hp}, RS w Fo β G H σ st → RepAs w σ st β G ds vs → ∃ ds' st' G', frzL ds st = .ok ds' st' ∧ Fr Fo st β G H st' β G' H ∧ RS w Fo β G' H σ st' ∧ Reps w β G' ds' vs ∧ ds'.length = ds.length
  | [], vs, st, G, R, A => ⟨[], st, G, rfl, Fr.refl, R, by unfold Reps; exact A, rfl⟩
  | d :: ds, vs, st, G, R, A => by
    obtain ⟨v, r, rfl, h1, h2⟩ := A
    obtain ⟨d', st1, G1, e1, F1, R1, q1⟩ := frz1_ok R h1
    obtain ⟨ds', st2, G2, e2, F2, R2, q2, l2⟩ := frzL_ok R1 (h2.fr F1)
    refine ⟨d' :: ds', st2, G2, ?_, F1.trans F2, R2, Reps.cons (Rep.mono F2.g F2.b d' v q1) q2, by rw [List.length_cons, List.length_cons, l2]⟩
    simp only [frzL, M.bind, e1, e2]
    rfl
/-! ### displays -/
def tupM (ms : M (List D)) : M DV := ms.bind fun ds => (frzL ds).bind newT
def lstM (ms : M (List D)) : M DV := ms.bind fun ds => (frzL ds).bind newL
theorem tA_bind {m : M (List D)} {k : List D → M DV} {Q : VK} {R : List V → Hp → Prop} (h : tD w W (m.bind k) σ H Q)
    (hk : ∀ (Fo : Addr → Prop) (ds : List D) (vs : List V) (st : St) (β : List Addr) (G H : Hp), RS w Fo β G H σ st → RepAs w σ st β G ds vs → Out w W Fo σ st β G H Q (k ds st) → R vs H) : tA w W m σ H R := by
  obtain ⟨Fo, β, G, st, R0, h⟩ := h
  refine ⟨Fo, β, G, st, R0, ?_⟩
  unfold M.bind at h
  cases e : m st with
  | ok ds st1 =>
    rw [e] at h
    exact fun vs β1 G1 H1 F R1 A1 => hk Fo ds vs st1 β1 G1 H1 R1 A1 (h.trans F)
  | exc c fs st1 => rw [e] at h; exact h
  | bad => rw [e] at h; exact h.elim
theorem d_tuple {ms : M (List D)} {k : Nat} (h : PA X es (tA w W ms)) : PE X (.Tuple es k pos) (tD w W (tupM ms)) :=
  PE.imp (pe_tup h) fun σ H Q q => tA_bind q fun Fo ds vs st β G H R A q => by
    obtain ⟨ds', st', G', e1, F, R', r, _⟩ := frzL_ok R A
    have q : Out w W Fo σ st β G H Q (((frzL ds).bind newT) st) := q
    rw [show ((frzL ds).bind newT) st = newT ds' st' by simp only [M.bind, e1]] at q
    exact newT_ok R' r (q.trans F)
theorem d_list {ms : M (List D)} (h : PA X es (tA w W ms)) : PE X (.List es pos) (tD w W (lstM ms)) :=
  PE.imp (pe_lst h) fun σ H Q q => tA_bind q fun Fo ds vs st β G H R A q => by
    obtain ⟨ds', st', G', e1, F, R', r, _⟩ := frzL_ok R A
    have q : Out w W Fo σ st β G H Q (((frzL ds).bind newL) st) := q
    rw [show ((frzL ds).bind newL) st = newL ds' st' by simp only [M.bind, e1]] at q
    exact newL_ok R' r (q.trans F)
/-! ### builtins by name -/
/-- what a builtin does with its arguments -/
def CallS (w : Wo) (r : List V → Hp → VK → Prop) (k : List D → M DV) : Prop := ∀ (W : WX) (Fo : Addr → Prop) (σ : L2.St) (st : St) (β : List Addr) (G H : Hp) (Q : VK) (ds : List D) (vs : List V),
  RS w Fo β G H σ st → RepAs w σ st β G ds vs → Out w W Fo σ st β G H Q (k ds st) → r vs H Q
theorem CallS.or {r r' : List V → Hp → VK → Prop} {k k' : List D → M DV} (h : CallS w r k) (h' : CallS w r' k') (g : St → List D → Bool) : CallS w (fun x H Q => r x H Q ∨ r' x H Q) (fun x st => if g st x = true then k x st else k' x st) := by
  intro W Fo σ st β G H Q ds vs R A h0
  by_cases e : g st ds = true
  · simp only [e, if_true] at h0
    exact .inl (h W Fo σ st β G H Q ds vs R A h0)
  · simp only [e, if_false] at h0
    exact .inr (h' W Fo σ st β G H Q ds vs R A h0)
theorem d_builtin {id : String} {x : Str} {r : List V → Hp → VK → Prop} {k : List D → M DV} {ms : M (List D)} {p : Pos} (hc : CallR X (.builtin id) r) (hs : CallS w r k) (hg : Gl X x) (hm : X.mg x = none) (hv : bootBuiltins x = some (.builtin id)) (ha : PA X (e :: es) (tA w W ms))
    (hn : x ≠ "__name__") (hdb : (x == ("__debug__" : Str)) = false) (he : ∀ a p, e ≠ .Starred a p) (hpl : (backTo pos (starEach es X.env)).any (·.1) = false) : PE X (.Call (.Name x p) (e :: es) [] pos) (tD w W (ms.bind k)) :=
  PE.imp (pe_callB hc hg hm hv ha hn hdb (starEach_plain he) hpl) fun σ H Q q => tA_bind q fun Fo ds vs st β G H R A q => hs W Fo σ st β G H Q ds vs R A q
theorem d_type {T : String} {x : Str} {r : List V → Hp → VK → Prop} {k : List D → M DV} {ms : M (List D)} {p : Pos} (hc : CallR X (.type T) r) (hs : CallS w r k) (hg : Gl X x) (hm : X.mg x = none) (hv : bootBuiltins x = some (.type T)) (ha : PA X (e :: es) (tA w W ms))
    (hn : x ≠ "__name__") (hdb : (x == ("__debug__" : Str)) = false) (he : ∀ a p, e ≠ .Starred a p) (hpl : (backTo pos (starEach es X.env)).any (·.1) = false) : PE X (.Call (.Name x p) (e :: es) [] pos) (tD w W (ms.bind k)) :=
  PE.imp (pe_callTy hc hg hm hv ha hn hdb (starEach_plain he) hpl) fun σ H Q q => tA_bind q fun Fo ds vs st β G H R A q => hs W Fo σ st β G H Q ds vs R A q
end
end PD

set_option autoImplicit false
namespace PD
open PySem PySem.Spec PyProof.Rows L2

/-- how a statement ends -/
inductive Fl where
  | nx | bk | ct
  | rt (x : DV)
abbrev MS := M Fl
section
variable (w : Wo)
structure FrS (Fo : Addr → Prop) (β : List Addr) (G H : Hp) (β' : List Addr) (G' H' : Hp) : Prop where
  g : SubH G G'
  b : SubB β β'
  kp : ∀ a, Fo a → H' a = H a
/-- the state when the def is left: its own names are gone -/
def St.out (st : St) : St := ⟨[], st.sto⟩
def OutS (W : WX) (Fo : Addr → Prop) (β : List Addr) (G H : Hp) (D : Ends) : Rz Fl → Prop
  | .ok .nx st' => ∀ (σ' : L2.St) (β' : List Addr) (G' H' : Hp), FrS Fo β G H β' G' H' → RS w Fo β' G' H' σ' st' → D.nx σ' H'
  | .ok .bk st' => ∀ (σ' : L2.St) (β' : List Addr) (G' H' : Hp), FrS Fo β G H β' G' H' → RS w Fo β' G' H' σ' st' → D.bk σ' H'
  | .ok .ct st' => ∀ (σ' : L2.St) (β' : List Addr) (G' H' : Hp), FrS Fo β G H β' G' H' → RS w Fo β' G' H' σ' st' → D.ct σ' H'
  | .ok (.rt (d, f)) st' => ∀ (v : V) (β' : List Addr) (G' H' : Hp), FrS Fo β G H β' G' H' → RS w Fo β' G' H' [] st'.out → RepV w Fo [] st'.out β' G' H' f d v → D.rt v H'
  | .exc c fs st' => ∀ (σ' : L2.St) (β' : List Addr) (G' H' : Hp) (dx : Addr) (gs : List (Str × V)), FrS Fo β G H β' G' H' → RS w Fo β' G' H' σ' st' → H' dx = some (.xd gs) → RepsF w β' G' fs gs → W (.ref (w.ca c)) (some dx) σ' H'
  | .bad => False
def tS (W : WX) (m : MS) : TS := fun D σ H => ∃ (Fo : Addr → Prop) (β : List Addr) (G : Hp) (st : St), RS w Fo β G H σ st ∧ OutS w W Fo β G H D (m st)
end
section
variable {w : Wo} {si : SI} {X : Cx} {W : WX} {e : Expr} {pos : Pos} {Fo : Addr → Prop} {σ σ1 : L2.St} {st st1 : St} {β β1 β2 : List Addr} {G H G1 H1 G2 H2 : Hp}
theorem FrS.refl : FrS Fo β G H β G H := ⟨SubH.refl _, SubB.refl _, fun _ _ => rfl⟩
theorem FrS.trans (F : FrS Fo β G H β1 G1 H1) (F' : FrS Fo β1 G1 H1 β2 G2 H2) : FrS Fo β G H β2 G2 H2 := ⟨F.g.trans F'.g, F.b.trans F'.b, fun a h => (F'.kp a h).trans (F.kp a h)⟩
theorem Fr.s (F : Fr Fo st β G H st1 β1 G1 H1) : FrS Fo β G H β1 G1 H1 := ⟨F.g, F.b, F.kp⟩
theorem OutS.trans {D : Ends} (F : FrS Fo β G H β1 G1 H1) : ∀ (r : Rz Fl), OutS w W Fo β G H D r → OutS w W Fo β1 G1 H1 D r
  | .ok .nx st', h => fun σ' β' G' H' F' R' => h σ' β' G' H' (F.trans F') R'
  | .ok .bk st', h => fun σ' β' G' H' F' R' => h σ' β' G' H' (F.trans F') R'
  | .ok .ct st', h => fun σ' β' G' H' F' R' => h σ' β' G' H' (F.trans F') R'
  | .ok (.rt (d, f)) st', h => fun v β' G' H' F' R' V' => h v β' G' H' (F.trans F') R' V'
  | .exc c fs st', h => fun σ' β' G' H' dx gs F' R' e r => h σ' β' G' H' dx gs (F.trans F') R' e r
  | .bad, h => h
/-- an expression, then what the statement does with it -/
theorem tD_stmt {m : M DV} {k : DV → MS} {D : Ends} {R : VK} (h : tS w W (m.bind k) D σ H)
    (hk : ∀ (Fo : Addr → Prop) (d : PD.D) (f : Bool) (v : V) (st : St) (β : List Addr) (G H : Hp), RS w Fo β G H σ st → RepV w Fo σ st β G H f d v → OutS w W Fo β G H D (k (d, f) st) → R v H) : tD w W m σ H R := by
  obtain ⟨Fo, β, G, st, R0, h⟩ := h
  refine ⟨Fo, β, G, st, R0, ?_⟩
  unfold M.bind at h
  cases e : m st with
  | ok a st1 =>
    obtain ⟨d, f⟩ := a
    rw [e] at h
    exact fun v β1 G1 H1 F R1 V1 => hk Fo d f v st1 β1 G1 H1 R1 V1 (h.trans F.s)
  | exc c fs st1 =>
    rw [e] at h
    exact fun β' G' H' dx gs F R e r => h σ β' G' H' dx gs F.s R e r
  | bad => rw [e] at h; exact h.elim
theorem tB_stmt {m : M Bool} {k : Bool → MS} {D : Ends} {R : Bool → Hp → Prop} (h : tS w W (m.bind k) D σ H)
    (hk : ∀ (Fo : Addr → Prop) (b : Bool) (st : St) (β : List Addr) (G H : Hp), RS w Fo β G H σ st → OutS w W Fo β G H D (k b st) → R b H) : tB w W m σ H R := by
  obtain ⟨Fo, β, G, st, R0, h⟩ := h
  refine ⟨Fo, β, G, st, R0, ?_⟩
  unfold M.bind at h
  cases e : m st with
  | ok a st1 =>
    rw [e] at h
    exact fun β1 G1 H1 F R1 => hk Fo a st1 β1 G1 H1 R1 (h.trans F.s)
  | exc c fs st1 =>
    rw [e] at h
    exact fun β' G' H' dx gs F R e r => h σ β' G' H' dx gs F.s R e r
  | bad => rw [e] at h; exact h.elim

/-! ### blocks -/
def skip : MS := M.ret .nx
def seqM (m n : MS) : MS := m.bind fun f => match f with
  | .nx => n
  | f => M.ret f
theorem s_nil : PSs X [] (tS w W skip) := PSs.imp pss_nil fun D σ H h => by
  obtain ⟨Fo, β, G, st, R, h⟩ := h
  exact h σ β G H FrS.refl R
theorem s_pass : PS X (.Pass pos) (tS w W skip) := PS.imp ps_pass fun D σ H h => by
  obtain ⟨Fo, β, G, st, R, h⟩ := h
  exact h σ β G H FrS.refl R
theorem s_break : PS X (.Break pos) (tS w W (M.ret .bk)) := PS.imp ps_break fun D σ H h => by
  obtain ⟨Fo, β, G, st, R, h⟩ := h
  exact h σ β G H FrS.refl R
theorem s_continue : PS X (.Continue pos) (tS w W (M.ret .ct)) := PS.imp ps_continue fun D σ H h => by
  obtain ⟨Fo, β, G, st, R, h⟩ := h
  exact h σ β G H FrS.refl R
theorem s_doc {x : Str} {j : Nat} {pos' : Pos} : PS X (.Expr (.Constant (.str x) j pos) pos') (tS w W skip) := PS.imp ps_doc fun D σ H h => by
  obtain ⟨Fo, β, G, st, R, h⟩ := h
  exact h σ β G H FrS.refl R
theorem ps_bad {s : Stmt} : PS X s (tS w W M.bad) := ⟨fun pins s σ H Q I h => by
  obtain ⟨Fo, β, G, st, _, h⟩ := h
  exact h.elim⟩
theorem seq_out {m n : MS} {D : Ends} (h : tS w W (seqM m n) D σ H) : tSeq (tS w W m) (tS w W n) D σ H := by
  obtain ⟨Fo, β, G, st, R, h⟩ := h
  refine ⟨Fo, β, G, st, R, ?_⟩
  unfold seqM M.bind at h
  cases e : m st with
  | ok f st1 =>
    rw [e] at h
    cases f with
    | nx => exact fun σ1 β1 G1 H1 F R1 => ⟨Fo, β1, G1, st1, R1, h.trans F⟩
    | bk => exact h
    | ct => exact h
    | rt x => exact h
  | exc c fs st1 => rw [e] at h; exact h
  | bad => rw [e] at h; exact h.elim
theorem s_cons {s : Stmt} {ss : List Stmt} {m n : MS} (h : PS X s (tS w W m)) (h' : PSs X ss (tS w W n)) : PSs X (s :: ss) (tS w W (seqM m n)) := PSs.imp (pss_cons h h') fun D σ H q => seq_out q
def exprM (m : M DV) : MS := m.bind fun _ => skip
theorem swaps_plain {t : Option Expr} {l : Nat} {env : Env} (h1 : ∀ a b c d, e ≠ .ListComp a b c d) (h2 : ∀ a b c d, e ≠ .SetComp a b c d) (h3 : ∀ a b c d f, e ≠ .DictComp a b c d f) : swapsWith e t l env = pure false := by
  cases e with
  | ListComp a b c d => exact absurd rfl (h1 a b c d)
  | SetComp a b c d => exact absurd rfl (h2 a b c d)
  | DictComp a b c d f => exact absurd rfl (h3 a b c d f)
  | _ => rfl
/-- no comprehension -/
def noComp : Expr → Bool
  | .ListComp .. => false
  | .SetComp .. => false
  | .DictComp .. => false
  | _ => true
theorem swaps_no {t : Option Expr} {l : Nat} {env : Env} (h : noComp e = true) : swapsWith e t l env = pure false := by
  refine swaps_plain (fun a b c d q => ?_) (fun a b c d q => ?_) fun a b c d f q => ?_ <;> (subst q; cases h)
theorem s_expr {m : M DV} (h : PE X e (tD w W m)) (hc : noComp e = true) : PS X (.Expr e pos) (tS w W (exprM m)) := PS.imp (ps_expr h (swaps_no hc)) fun D σ H q =>
  tD_stmt q fun Fo d f v st β G H R V q => q σ β G H FrS.refl R
def retM (m : M DV) : MS := m.bind fun x st => match x.1 with
  | .loc i => (match st.env[i]? with
    | some (some (b, d)) => .ok (.rt (d, b)) st
    | _ => .bad)
  | d => .ok (.rt (d, x.2)) st
theorem RS.drop (R : RS w Fo β G H σ st) : RS w Fo β G H [] st.out where
  len := R.len
  sub := R.sub
  val := fun i d h => by simp [St.out] at h
  own := fun i d h => by simp [St.out] at h
  dis := fun i j d e a h => by simp [St.out] at h
  sto := R.sto
  nd := R.nd
  fo := fun a h => by
    obtain ⟨h1, h2, h3, _⟩ := R.fo a h
    exact ⟨h1, h2, h3, fun i d h => by simp [St.out] at h⟩
  ft := R.ft
  ln := rfl
  tb := R.tb
  tq := R.tq
theorem noOwn_out {a : Addr} : NoOwn [] st.out a := fun i d h => by simp [St.out] at h
theorem s_ret {m : M DV} (h : PE X e (tD w W m)) : PS X (.Return (some e) pos) (tS w W (retM m)) := PS.imp (ps_ret h) fun D σ H q =>
  tD_stmt q fun Fo d f v st β G H R V q => by
    rcases repV_cases V with ⟨i, b, d', rfl, rfl, h1, h2, _⟩ | V0
    · simp only [h2] at q
      cases b with
      | true =>
        obtain ⟨a, h3, h4, h5, h6⟩ := R.own i d' h2
        rw [h1] at h3
        cases h3
        have nf : ¬ Fo a := fun hf => (R.fo a hf).2.2.2 i d' h2 h1
        exact q (.ref a) β G H FrS.refl R.drop (RepV.fresh h4 h5 noOwn_out nf h6)
      | false =>
        obtain ⟨v', h3, h4⟩ := R.val i d' h2
        rw [h1] at h3
        cases h3
        exact q v β G H FrS.refl R.drop (RepV.val h4)
    · have V1 : RepV w Fo [] st.out β G H f d v := by
        apply repV_of0
        unfold RepV0 at V0 ⊢
        cases f with
        | true =>
          simp only [if_true] at V0 ⊢
          obtain ⟨a, e, h1, h2, h3, h4, h5⟩ := V0
          exact ⟨a, e, h1, h2, noOwn_out, h4, h5⟩
        | false => exact V0
      have q' : OutS w W Fo β G H D (.ok (.rt (d, f)) st) := by
        cases d with
        | loc i =>
          unfold RepV0 at V0
          cases f with
          | true => simp only [if_true] at V0; obtain ⟨a, _, _, _, _, _, o⟩ := V0; exact o.elim
          | false => simp only [Bool.false_eq_true, if_false] at V0; unfold Rep at V0; exact V0.elim
        | _ => exact q
      exact q' v β G H FrS.refl R.drop V1
theorem s_retN : PS X (.Return none pos) (tS w W (M.ret (.rt (.non, false)))) := PS.imp ps_retN fun D σ H q => by
  obtain ⟨Fo, β, G, st, R, q⟩ := q
  exact q .non β G H FrS.refl R.drop (RepV.val rep_non)
def ifS (t : M Bool) (m n : MS) : MS := t.bind fun b => if b = true then m else n
theorem s_if {c : Expr} {a b : List Stmt} {t : M Bool} {m n : MS} (hc : PT X c (tB w W t)) (ha : PSs X a (tS w W m)) (hb : PSs X b (tS w W n)) : PS X (.If c a b pos) (tS w W (ifS t m n)) := PS.imp (ps_if hc ha hb) fun D σ H q =>
  tB_stmt q fun Fo b st β G H R q => by
    cases b with
    | true => simp only [if_true] at q ⊢; exact ⟨Fo, β, G, st, R, q⟩
    | false => simp only [Bool.false_eq_true, if_false] at q ⊢; exact ⟨Fo, β, G, st, R, q⟩

/-! ### a name is stored -/
theorem RS.setVal (R : RS w Fo β G H σ st) {i : Nat} {d : PD.D} {v : V} (hi : i < st.env.length) (h : Rep w β G d v) : RS w Fo β G H (σ.set i (some v)) ⟨st.env.set i (some (false, d)), st.sto⟩ where
  len := R.len
  sub := R.sub
  val := fun j e h1 => by
    by_cases hj : i = j
    · subst hj
      rw [List.getElem?_set_self hi] at h1
      cases h1
      exact ⟨v, List.getElem?_set_self (by rw [R.ln]; exact hi), h⟩
    · rw [List.getElem?_set_ne hj] at h1
      rw [List.getElem?_set_ne hj]
      exact R.val j e h1
  own := fun j e h1 => by
    by_cases hj : i = j
    · subst hj
      rw [List.getElem?_set_self hi] at h1
      cases h1
    · rw [List.getElem?_set_ne hj] at h1
      rw [List.getElem?_set_ne hj]
      exact R.own j e h1
  dis := fun j k e f a h1 h2 h3 h4 => by
    by_cases hj : i = j
    · subst hj; rw [List.getElem?_set_self hi] at h1; cases h1
    · by_cases hk : i = k
      · subst hk; rw [List.getElem?_set_self hi] at h2; cases h2
      · rw [List.getElem?_set_ne hj] at h1 h3
        rw [List.getElem?_set_ne hk] at h2 h4
        exact R.dis j k e f a h1 h2 h3 h4
  sto := R.sto
  nd := R.nd
  fo := fun a ha => by
    obtain ⟨h1, h2, h3, h4⟩ := R.fo a ha
    refine ⟨h1, h2, h3, fun j e h5 h6 => ?_⟩
    by_cases hj : i = j
    · subst hj; rw [List.getElem?_set_self hi] at h5; cases h5
    · rw [List.getElem?_set_ne hj] at h5 h6
      exact h4 j e h5 h6
  ft := R.ft
  ln := by
    show (σ.set i (some v)).length = (st.env.set i (some (false, d))).length
    rw [List.length_set, List.length_set]; exact R.ln
  tb := R.tb
  tq := R.tq
theorem RS.setOwn (R : RS w Fo β G H σ st) {i : Nat} {d : PD.D} {a : Addr} (hi : i < st.env.length) (h1 : G a = none) (h2 : a ∉ β) (h3 : NoOwn σ st a) (h4 : ¬ Fo a) (h5 : Own w β G H a d) : RS w Fo β G H (σ.set i (some (.ref a))) ⟨st.env.set i (some (true, d)), st.sto⟩ where
  len := R.len
  sub := R.sub
  val := fun j e q => by
    by_cases hj : i = j
    · subst hj
      rw [List.getElem?_set_self hi] at q
      cases q
    · rw [List.getElem?_set_ne hj] at q
      rw [List.getElem?_set_ne hj]
      exact R.val j e q
  own := fun j e q => by
    by_cases hj : i = j
    · subst hj
      rw [List.getElem?_set_self hi] at q
      cases q
      exact ⟨a, List.getElem?_set_self (by rw [R.ln]; exact hi), h1, h2, h5⟩
    · rw [List.getElem?_set_ne hj] at q
      rw [List.getElem?_set_ne hj]
      exact R.own j e q
  dis := fun j k e f b q1 q2 q3 q4 => by
    by_cases hj : i = j
    · subst hj
      rw [List.getElem?_set_self (by rw [R.ln]; exact hi)] at q3
      cases q3
      by_cases hk : i = k
      · exact hk
      · rw [List.getElem?_set_ne hk] at q2 q4
        exact absurd q4 (h3 k f q2)
    · by_cases hk : i = k
      · subst hk
        rw [List.getElem?_set_self (by rw [R.ln]; exact hi)] at q4
        cases q4
        rw [List.getElem?_set_ne hj] at q1 q3
        exact absurd q3 (h3 j e q1)
      · rw [List.getElem?_set_ne hj] at q1 q3
        rw [List.getElem?_set_ne hk] at q2 q4
        exact R.dis j k e f b q1 q2 q3 q4
  sto := R.sto
  nd := R.nd
  fo := fun b hb => by
    obtain ⟨q1, q2, q3, q4⟩ := R.fo b hb
    refine ⟨q1, q2, q3, fun j e q5 q6 => ?_⟩
    by_cases hj : i = j
    · subst hj
      rw [List.getElem?_set_self (by rw [R.ln]; exact hi)] at q6
      cases q6
      exact h4 hb
    · rw [List.getElem?_set_ne hj] at q5 q6
      exact q4 j e q5 q6
  ft := R.ft
  ln := by
    show (σ.set i (some (V.ref a))).length = (st.env.set i (some (true, d))).length
    rw [List.length_set, List.length_set]; exact R.ln
  tb := R.tb
  tq := R.tq
/-- a container that no one else holds joins the stored objects -/
theorem RS.promote (R : RS w Fo β G H σ st) {d : PD.D} {a : Addr} (h1 : G a = none) (h2 : a ∉ β) (h3 : NoOwn σ st a) (h4 : ¬ Fo a) (h5 : Own w β G H a d) : RS w Fo (β ++ [a]) G H σ ⟨st.env, st.sto ++ [d]⟩ where
  len := by rw [List.length_append, List.length_append, R.len]; rfl
  sub := R.sub
  val := fun i d h => by
    obtain ⟨v, q1, q2⟩ := R.val i d h
    exact ⟨v, q1, Rep.mono (SubH.refl _) (SubB.app _ _) d v q2⟩
  own := fun i d h => by
    obtain ⟨b, q1, q2, q3, q4⟩ := R.own i d h
    refine ⟨b, q1, q2, ?_, q4.mono (SubH.refl _) (SubB.app _ _) rfl⟩
    simp only [List.mem_append, List.mem_singleton, not_or]
    exact ⟨q3, fun z => h3 i d h (by rw [← z]; exact q1)⟩
  dis := R.dis
  sto := fun n e b q1 q2 => by
    by_cases hn : n < st.sto.length
    · rw [List.getElem?_append_left hn] at q1
      rw [List.getElem?_append_left (by rw [R.len]; exact hn)] at q2
      obtain ⟨q3, q4⟩ := R.sto n e b q1 q2
      exact ⟨q3, q4.mono (SubH.refl _) (SubB.app _ _) rfl⟩
    · have : n = st.sto.length := by
        have := (List.getElem?_eq_some_iff.mp q1).1
        rw [List.length_append, List.length_singleton] at this
        omega
      subst this
      rw [List.getElem?_append_right (Nat.le_refl _), Nat.sub_self] at q1
      rw [List.getElem?_append_right (by rw [R.len]; exact Nat.le_refl _), R.len, Nat.sub_self] at q2
      cases q1
      cases q2
      exact ⟨h1, h5.mono (SubH.refl _) (SubB.app _ _) rfl⟩
  nd := by
    rw [List.nodup_append]
    refine ⟨R.nd, by simp, fun x hx y hy => ?_⟩
    rw [List.mem_singleton] at hy
    subst hy
    intro z
    exact h2 (by rw [← z]; exact hx)
  fo := fun b hb => by
    obtain ⟨q1, q2, q3, q4⟩ := R.fo b hb
    refine ⟨q1, q2, ?_, q4⟩
    simp only [List.mem_append, List.mem_singleton, not_or]
    exact ⟨q3, fun z => h4 (by rw [← z]; exact hb)⟩
  ft := R.ft
  ln := R.ln
  tb := R.tb
  tq := R.tq
theorem rep_obj (R : RS w Fo β G H σ st) {a : Addr} : Rep w (β ++ [a]) G (.obj st.sto.length) (.ref a) := by
  unfold Rep
  exact ⟨a, by rw [← R.len]; simp, rfl⟩
def putAt (i : Nat) (md : Md) (f : Bool) (d : D) (st : St) : Rz Unit := match md, f with
  | .own, true => .ok () ⟨st.env.set i (some (true, d)), st.sto⟩
  | .obj, true => .ok () ⟨st.env.set i (some (false, .obj st.sto.length)), st.sto ++ [d]⟩
  | _, _ => .ok () ⟨st.env.set i (some (false, d)), st.sto⟩
/-- store a value at slot i: alone (own) if it is held by no one else and the text says so -/
def putM (i : Nat) (md : Md) (x : DV) : M Unit := fun st =>
  if i < st.env.length then
    match x.1 with
    | .loc j => (match st.env[j]? with
      | some (some (_, d)) => .ok () ⟨(st.env.set j (some (false, d))).set i (some (false, d)), st.sto⟩
      | _ => .bad)
    | d => putAt i md x.2 d st
  else .bad
/-- the slot is stored -/
theorem put_ok {i : Nat} {own : Md} {f : Bool} {d : PD.D} {v : V} (R : RS w Fo β G H σ st) (V : RepV w Fo σ st β G H f d v) :
    putM i own (d, f) st = .bad ∨ ∃ st' β' G', putM i own (d, f) st = .ok () st' ∧ FrS Fo β G H β' G' H ∧ RS w Fo β' G' H (σ.set i (some v)) st' := by
  by_cases hi : i < st.env.length
  · rcases repV_cases V with ⟨j, b, d', rfl, rfl, h1, h2, _⟩ | V0
    · right
      obtain ⟨G', F, R', r⟩ := R.freeze h1 h2
      exact ⟨_, β, G', by unfold putM; rw [if_pos hi]; simp only [h2], F.s, R'.setVal (by show i < (st.env.set j (some (false, d'))).length; rw [List.length_set]; exact hi) r⟩
    · have nl : ∀ j, d ≠ .loc j := fun j e => by
        subst e
        unfold RepV0 at V0
        cases f with
        | true => simp only [if_true] at V0; obtain ⟨a, _, _, _, _, _, o⟩ := V0; exact o.elim
        | false => simp only [Bool.false_eq_true, if_false] at V0; unfold Rep at V0; exact V0.elim
      have e : putM i own (d, f) st = putAt i own f d st := by
        unfold putM
        rw [if_pos hi]
        cases d with
        | loc j => exact absurd rfl (nl j)
        | _ => rfl
      rw [e]
      have plain : ∃ st' β' G', (Rz.ok () ⟨st.env.set i (some (false, d)), st.sto⟩ : Rz Unit) = .ok () st' ∧ FrS Fo β G H β' G' H ∧ RS w Fo β' G' H (σ.set i (some v)) st' := by
        obtain ⟨G', g, _, R', r⟩ := release R V nl
        exact ⟨_, β, G', rfl, ⟨g, SubB.refl _, fun _ _ => rfl⟩, R'.setVal hi r⟩
      right
      cases f with
      | false => cases own <;> exact plain
      | true =>
        cases own with
        | val => exact plain
        | own =>
          unfold RepV0 at V0
          simp only [if_true] at V0
          obtain ⟨a, rfl, q1, q2, q3, q4, q5⟩ := V0
          exact ⟨_, β, G, rfl, FrS.refl, R.setOwn hi q1 q2 q3 q4 q5⟩
        | obj =>
          unfold RepV0 at V0
          simp only [if_true] at V0
          obtain ⟨a, rfl, q1, q2, q3, q4, q5⟩ := V0
          have P := R.promote q1 q2 q3 q4 q5
          exact ⟨_, β ++ [a], G, rfl, ⟨SubH.refl _, SubB.app _ _, fun _ _ => rfl⟩, P.setVal hi (rep_obj R)⟩
  · left
    unfold putM
    rw [if_neg hi]
theorem M.bind_ok {α γ : Type} {m : M α} {k : α → M γ} {a : α} {st' : St} (h : m st = .ok a st') : (m.bind k) st = k a st' := by unfold M.bind; rw [h]
theorem M.bind_bad {α γ : Type} {m : M α} {k : α → M γ} (h : m st = .bad) : (m.bind k) st = .bad := by unfold M.bind; rw [h]
def asgM (i : Nat) (own : Md) (m : M DV) : MS := m.bind fun x => (putM i own x).bind fun _ => skip
theorem s_asg {x : Str} {i : Nat} {own : Md} {m : M DV} {p' : Pos} (C : Cok w si X) (hi : ix x si.N = some i) (hs : sto si x = true) (h : PE X e (tD w W m)) (hc : noComp e = true) : PS X (.Assign [.Name x p'] e pos) (tS w W (asgM i own m)) := by
  obtain ⟨hl, hf⟩ := sto_ok C hs
  refine PS.imp (ps_set C.nd (by rw [C.N]; exact ix_get hi) hl h (swaps_no hc) hf) fun D σ H q => tD_stmt q fun Fo d f v st β G H R V q => ?_
  rcases put_ok (i := i) (own := own) R V with h1 | ⟨st', β', G', h1, F, R'⟩
  · rw [M.bind_bad h1] at q
    exact q.elim
  · rw [M.bind_ok h1] at q
    exact q (σ.set i (some v)) β' G' H F R'
end
end PD

set_option autoImplicit false
namespace PD
open PySem PySem.Spec PyProof.Rows L2

/-- how a def ends -/
inductive Rf where
  | ok (x : DV) (sto : List D)
  | exc (c : Str) (fs : List (Str × D)) (sto : List D)
  | bad
section
variable (w : Wo)
def OutF (Fo : Addr → Prop) (β : List Addr) (G H : Hp) (Q : VK) (E : XK) : Rf → Prop
  | .ok (d, f) S => ∀ (v : V) (β' : List Addr) (G' H' : Hp), FrS Fo β G H β' G' H' → RS w Fo β' G' H' [] ⟨[], S⟩ → RepV w Fo [] ⟨[], S⟩ β' G' H' f d v → Q v H'
  | .exc c fs S => ∀ (β' : List Addr) (G' H' : Hp) (dx : Addr) (gs : List (Str × V)), FrS Fo β G H β' G' H' → RS w Fo β' G' H' [] ⟨[], S⟩ → H' dx = some (.xd gs) → RepsF w β' G' fs gs → E (.ref (w.ca c)) (some dx) H'
  | .bad => False
/-- the promise of a def that computes F of its parameters (in order) and the stored objects -/
def spF (n : Nat) (F : List D → List D → Rf) : Sp := fun vs H Q E => vs.length = n ∧ ∃ (Fo : Addr → Prop) (β : List Addr) (G : Hp) (S ds : List D), RS w Fo β G H [] ⟨[], S⟩ ∧ Reps w β G ds vs ∧ OutF w Fo β G H Q E (F ds S)
/-- the promise of a call with positional and keyword values -/
def spC (F : List D → List D → List D → Rf) : List V → List V → Hp → VK → XK → Prop := fun vs kvs H Q E => ∃ (Fo : Addr → Prop) (β : List Addr) (G : Hp) (S ds kds : List D), RS w Fo β G H [] ⟨[], S⟩ ∧ Reps w β G ds vs ∧ Reps w β G kds kvs ∧ OutF w Fo β G H Q E (F ds kds S)
end
/-- a callable: n positional values, keywords ks -/
structure FnC (P : Program) (wd : World) (K : PySem.W.Frag) (mg : Str → Option Value) (base : Heap) (k : Nat) (f : Addr) (n : Nat) (ks : List Str) (sp : List V → List V → Hp → VK → XK → Prop) : Prop where
  kp : PySem.W.keepIn K (.ref f) = true
  run : ∀ (A : Around) (outer : List Env) (s : Shared) (H : Hp) (us kus : List Value) (vs kvs : List V) (Q : VK) (E : XK), Room k A → Env0 P wd K mg base A outer s H → Vals vs us → vs.length = n → Vals kvs kus → kvs.length = ks.length → sp vs kvs H Q E →
    codeAny (model P wd) A (.call (.ref f) ⟨us, ks.zip kus⟩) (CR (L2N.CX P wd) outer P wd H s Q E) s
theorem FnC.mono {P : Program} {wd : World} {K : PySem.W.Frag} {mg : Str → Option Value} {base : Heap} {j k : Nat} {f : Addr} {n : Nat} {ks : List Str} {sp : List V → List V → Hp → VK → XK → Prop} (F : FnC P wd K mg base j f n ks sp) (h : j ≤ k) : FnC P wd K mg base k f n ks sp :=
  ⟨F.kp, fun A outer s H us kus vs kvs Q E hr => F.run A outer s H us kus vs kvs Q E (hr.mono h)⟩

/-- what a def's own frame begins with -/
def initE (n : Nat) (ds : List D) : List Slot := ds.map (fun d => some (false, d)) ++ List.replicate (n - ds.length) none
def runF (n : Nat) (m : MS) : List D → List D → Rf := fun ds S => match m ⟨initE n ds, S⟩ with
  | .ok .nx st => .ok (.non, false) st.sto
  | .ok (.rt x) st => .ok x st.sto
  | .ok _ _ => .bad
  | .exc c fs st => .exc c fs st.sto
  | .bad => .bad
section
variable {w : Wo} {Fo : Addr → Prop} {σ : L2.St} {st : St} {β : List Addr} {G H : Hp}
theorem Reps.lenE {ds : List D} {vs : List V} (h : Reps w β G ds vs) (n : Nat) (N : List Str) (hn : n = N.length) : (L2.start N vs).length = (initE n ds).length := by
  unfold L2.start initE
  simp only [List.length_append, List.length_map, List.length_replicate, h.len, hn]
theorem start_ok (R : RS w Fo β G H [] ⟨[], st.sto⟩) {ds : List D} {vs : List V} (h : Reps w β G ds vs) (N : List Str) : RS w Fo β G H (L2.start N vs) ⟨initE N.length ds, st.sto⟩ := by
  have noown : ∀ (i : Nat) (d : D), (initE N.length ds)[i]? ≠ some (some (true, d)) := fun i d e => by
    unfold initE at e
    by_cases hi : i < ds.length
    · rw [List.getElem?_append_left (by simpa using hi), List.getElem?_map] at e
      obtain ⟨x, _, e2⟩ := Option.map_eq_some_iff.mp e
      cases e2
    · rw [List.getElem?_append_right (by simpa using hi), List.getElem?_replicate] at e
      split at e <;> cases e
  refine ⟨R.len, R.sub, fun i d e => ?_, fun i d e => absurd e (noown i d), fun i j d e a h1 => absurd h1 (noown i d), R.sto, R.nd, fun a ha => ?_, R.ft, h.lenE _ N rfl, R.tb, R.tq⟩
  · have e : (initE N.length ds)[i]? = some (some (false, d)) := e
    unfold initE at e
    by_cases hi : i < ds.length
    · rw [List.getElem?_append_left (by simpa using hi), List.getElem?_map] at e
      obtain ⟨x, e1, e2⟩ := Option.map_eq_some_iff.mp e
      cases e2
      obtain ⟨v, h1, h2⟩ := h.get e1
      refine ⟨v, ?_, h2⟩
      unfold L2.start
      rw [List.getElem?_append_left (by simpa [h.len] using hi), List.getElem?_map, h1]
      rfl
    · rw [List.getElem?_append_right (by simpa using hi), List.getElem?_replicate] at e
      split at e <;> cases e
  · obtain ⟨h1, h2, h3, _⟩ := R.fo a ha
    exact ⟨h1, h2, h3, fun i d e => absurd e (noown i d)⟩
/-- a def's body, run -/
theorem body_out {m : MS} {N : List Str} {vs : List V} {n : Nat} {Q : VK} {E : XK} (h : spF w n (runF N.length m) vs H Q E) : tS w (fun cls d _ H => E cls d H) m { nx := fun _ H' => Q .non H', rt := Q } (L2.start N vs) H := by
  obtain ⟨_, Fo, β, G, S, ds, R, r, h⟩ := h
  refine ⟨Fo, β, G, ⟨initE N.length ds, S⟩, start_ok (st := ⟨[], S⟩) R r N, ?_⟩
  unfold runF at h
  cases e : m ⟨initE N.length ds, S⟩ with
  | ok f st1 =>
    rw [e] at h
    cases f with
    | nx => exact fun σ' β' G' H' F R' => h .non β' G' H' F R'.drop (RepV.val rep_non)
    | rt x =>
      obtain ⟨d, f⟩ := x
      exact fun v β' G' H' F R' V' => h v β' G' H' F R' V'
    | bk => exact h.elim
    | ct => exact h.elim
  | exc c fs st1 =>
    rw [e] at h
    exact fun σ' β' G' H' dx gs F R' e r => h β' G' H' dx gs F R'.drop e r
  | bad => rw [e] at h; exact h.elim
/-- a def keeps its promise -/
theorem fn_ok {P : Program} {wd : World} {K : PySem.W.Frag} {mg : Str → Option Value} {base : Heap} {x qual : Str} {params : Arguments} {body : List Stmt} {scope : Scope} {dvs : List V} {kws : List (Str × V)} {f : Addr} {fd : FuncData} {N ps : List Str} {k : Nat} {m : MS}
    (F : FunD K x qual params body scope dvs kws f fd) (S : FnScope N ps scope)
    (hb : ∀ (cdv : Value) (A : Around) (outer : List Env) (s : Shared) (H : Hp) (E : XK), Room k (A.deeper (envOfC qual scope s.heap.objs.size f cdv)) →
      PSs (cxOf (L2N.CX P wd) P wd K mg base N qual scope f cdv A outer s H E) body (tS w (fun cls d _ H => E cls d H) m)) : FnOk P wd K mg base (L2N.CX P wd) (k + 1) f fd ps (spF w ps.length (runF N.length m)) :=
  F.ok S (fun vs H Q E h => h.1) fun cdv A outer s H vs Q E hr h => ⟨_, hb cdv A outer s H E hr, body_out h⟩
def Src.get {α : Type} (us kus dfs : List α) : Src → Option α
  | .pos i => us[i]?
  | .kw i => kus[i]?
  | .df i => dfs[i]?
  | .rest _ => none
/-- .. by data: what is left over is a tuple -/
def Src.getD (us kus dfs : List D) : Src → Option D
  | .rest i => some (.tup (us.drop i))
  | s => s.get us kus dfs
def pickD (how : List Src) (us kus dfs : List D) : List D := how.filterMap (Src.getD us kus dfs)
def plainHow (how : List Src) : Bool := how.all fun s => match s with
  | .rest _ => false
  | _ => true
def pick {α : Type} (how : List Src) (us kus dfs : List α) : List α := how.filterMap (Src.get us kus dfs)
theorem pickD_plain {us kus dfs : List D} : ∀ {how : List Src}, plainHow how = true → pickD how us kus dfs = pick how us kus dfs
  | [], _ => rfl
  | s :: r, h => by
    unfold plainHow at h
    rw [List.all_cons, Bool.and_eq_true] at h
    have ih := pickD_plain (us := us) (kus := kus) (dfs := dfs) (how := r) h.2
    unfold pickD pick at ih ⊢
    rw [List.filterMap_cons, List.filterMap_cons, ih]
    cases s with
    | rest i => cases h.1
    | _ => rfl
theorem pick_reps {how : List Src} {ds kds fds : List D} {vs kvs fvs : List V} (h1 : Reps w β G ds vs) (h2 : Reps w β G kds kvs) (h3 : Reps w β G fds fvs) : Reps w β G (pick how ds kds fds) (pick how vs kvs fvs) := by
  have one : ∀ {xs : List D} {ys : List V} (i : Nat), Reps w β G xs ys → (∃ d v, xs[i]? = some d ∧ ys[i]? = some v ∧ Rep w β G d v) ∨ (xs[i]? = none ∧ ys[i]? = none) := fun {xs ys} i h => by
    cases e : xs[i]? with
    | some d =>
      obtain ⟨v, e1, e2⟩ := h.get e
      exact .inl ⟨d, v, rfl, e1, e2⟩
    | none =>
      refine .inr ⟨rfl, ?_⟩
      have := List.getElem?_eq_none_iff.mp e
      exact List.getElem?_eq_none_iff.mpr (by rw [h.len]; exact this)
  unfold pick
  induction how with
  | nil => exact Reps.nil
  | cons s r ih =>
    have key : (∃ d v, Src.get ds kds fds s = some d ∧ Src.get vs kvs fvs s = some v ∧ Rep w β G d v) ∨ (Src.get ds kds fds s = none ∧ Src.get vs kvs fvs s = none) := by
      cases s with
      | pos i => exact one i h1
      | kw i => exact one i h2
      | df i => exact one i h3
      | rest i => exact .inr ⟨rfl, rfl⟩
    rcases key with ⟨d, v, e1, e2, e3⟩ | ⟨e1, e2⟩
    · rw [List.filterMap_cons, List.filterMap_cons, e1, e2]
      exact Reps.cons e3 ih
    · rw [List.filterMap_cons, List.filterMap_cons, e1, e2]
      exact ih
theorem pick_vals {how : List Src} {ds kds fds : List V} {vs kvs fvs : List Value} (h1 : Vals ds vs) (h2 : Vals kds kvs) (h3 : Vals fds fvs) : Vals (pick how ds kds fds) (pick how vs kvs fvs) := by
  have one : ∀ {xs : List V} {ys : List Value} (i : Nat), Vals xs ys → (∃ d v, xs[i]? = some d ∧ ys[i]? = some v ∧ RelV d v) ∨ (xs[i]? = none ∧ ys[i]? = none) := fun {xs ys} i h => by
    cases e : xs[i]? with
    | some d =>
      obtain ⟨v, e1, e2⟩ := h.get e
      exact .inl ⟨d, v, rfl, e1, e2⟩
    | none => exact .inr ⟨rfl, h.none_of e⟩
  unfold pick
  induction how with
  | nil => exact .nil
  | cons s r ih =>
    have key : (∃ d v, Src.get ds kds fds s = some d ∧ Src.get vs kvs fvs s = some v ∧ RelV d v) ∨ (Src.get ds kds fds s = none ∧ Src.get vs kvs fvs s = none) := by
      cases s with
      | pos i => exact one i h1
      | kw i => exact one i h2
      | df i => exact one i h3
      | rest i => exact .inr ⟨rfl, rfl⟩
    rcases key with ⟨d, v, e1, e2, e3⟩ | ⟨e1, e2⟩
    · rw [List.filterMap_cons, List.filterMap_cons, e1, e2]
      exact .cons e3 ih
    · rw [List.filterMap_cons, List.filterMap_cons, e1, e2]
      exact ih
/-- how a call of the def binds: positional values us (n), keywords' values (names ks), defaults dus -/
structure BindC (K : PySem.W.Frag) (fd : FuncData) (ps : List Str) (n : Nat) (ks : List Str) (how : List Src) (dus : List Value) : Prop where
  to : ∀ (s : Shared) (us ws : List Value), K.In s.heap → us.length = n → ws.length = ks.length → BindsTo s fd ⟨us, ks.zip ws⟩ (ps.zip (pick how us ws dus))
/-- a def that takes its arguments so -/
theorem fnC_of {P : Program} {wd : World} {K : PySem.W.Frag} {mg : Str → Option Value} {base : Heap} {f : Addr} {fd : FuncData} {ps ks : List Str} {k n : Nat} {F : List D → List D → Rf} {how : List Src} {dus : List Value} {dvs : List V} {dds : List D}
    (h : FnOk P wd K mg base (L2N.CX P wd) k f fd ps (spF w ps.length F)) (kp : PySem.W.keepIn K (.ref f) = true) (hb : BindC K fd ps n ks how dus) (hd : Vals dvs dus) (hr : ∀ β G, Reps w β G dds dvs)
    (hl : ∀ {α : Type} (us ws fs : List α), us.length = n → ws.length = ks.length → fs.length = dus.length → (pick how us ws fs).length = ps.length) :
    FnC P wd K mg base k f n ks (spC w fun ds kds S => F (pick how ds kds dds) S) where
  kp := kp
  run := fun A outer s H us kus vs kvs Q E hr' e0 r1 l1 r2 l2 q => by
    obtain ⟨Fo, β, G, S, ds, kds, R, q1, q2, q3⟩ := q
    have KX : K.In s.heap := e0.mod.kin.keeps fun b o e => (e0.bs b o e).1
    have rv := pick_vals (how := how) r1 r2 hd
    refine h.run A outer s H ⟨us, ks.zip kus⟩ (pick how us kus dus) (pick how vs kvs dvs) Q E hr' e0 (hb.to s us kus KX (by rw [← r1.length]; exact l1) (by rw [← r2.length]; exact l2)) rv ?_
    refine ⟨hl _ _ _ l1 l2 hd.length, Fo, β, G, S, pick how ds kds dds, R, pick_reps q1 q2 (hr β G), q3⟩
end

/-! ### calls -/
/-- the address of one of the def's own containers -/
def OwnAt (σ : L2.St) (st : St) (a : Addr) : Prop := ∃ (i : Nat) (d : D), st.env[i]? = some (some (true, d)) ∧ σ[i]? = some (some (.ref a))
section
variable {w : Wo} {si : SI} {X : Cx} {W : WX} {e : Expr} {es : List Expr} {pos : Pos} {Fo : Addr → Prop} {σ : L2.St} {st : St} {β β' : List Addr} {G H G' H' : Hp}
theorem RS.callee (R : RS w Fo β G H σ st) : RS w (fun a => Fo a ∨ OwnAt σ st a) β G H [] ⟨[], st.sto⟩ where
  len := R.len
  sub := R.sub
  val := fun i d h => by simp at h
  own := fun i d h => by simp at h
  dis := fun i j d e a h => by simp at h
  sto := R.sto
  nd := R.nd
  fo := fun a h => by
    rcases h with h | ⟨i, d, h1, h2⟩
    · obtain ⟨q1, q2, q3, _⟩ := R.fo a h
      exact ⟨q1, q2, q3, fun i d h => by simp at h⟩
    · obtain ⟨b, q1, q2, q3, q4⟩ := R.own i d h1
      rw [h2] at q1
      cases q1
      exact ⟨q4.there, q2, q3, fun i d h => by simp at h⟩
  ft := fun a h => by
    rcases h with h | ⟨i, d, h1, h2⟩
    · exact R.ft a h
    · obtain ⟨b, q1, q2, q3, q4⟩ := R.own i d h1
      rw [h2] at q1
      cases q1
      exact q4.nt
  ln := rfl
  tb := R.tb
  tq := fun q hq => ⟨(R.tq q hq).1, fun z => by
    rcases z with z | ⟨i, d, h1, h2⟩
    · exact (R.tq q hq).2 z
    · obtain ⟨b, q1, q2, q3, q4⟩ := R.own i d h1
      rw [h2] at q1
      cases q1
      obtain ⟨ps, e5, _⟩ := R.tb q hq
      exact q4.ntb.1 ps e5⟩
theorem RS.back {S : List D} (R : RS w Fo β G H σ st) (F : FrS (fun a => Fo a ∨ OwnAt σ st a) β G H β' G' H') (R' : RS w (fun a => Fo a ∨ OwnAt σ st a) β' G' H' [] ⟨[], S⟩) : RS w Fo β' G' H' σ ⟨st.env, S⟩ where
  len := R'.len
  sub := R'.sub
  val := fun i d h => by
    obtain ⟨v, h1, h2⟩ := R.val i d h
    exact ⟨v, h1, Rep.mono F.g F.b d v h2⟩
  own := fun i d h => by
    obtain ⟨a, h1, h2, h3, h4⟩ := R.own i d h
    obtain ⟨_, q2, q3, _⟩ := R'.fo a (.inr ⟨i, d, h, h1⟩)
    exact ⟨a, h1, q2, q3, h4.mono F.g F.b (F.kp a (.inr ⟨i, d, h, h1⟩))⟩
  dis := R.dis
  sto := R'.sto
  nd := R'.nd
  fo := fun a h => by
    obtain ⟨q1, q2, q3, _⟩ := R'.fo a (.inl h)
    exact ⟨q1, q2, q3, (R.fo a h).2.2.2⟩
  ft := fun a h => R'.ft a (.inl h)
  ln := R.ln
  tb := R'.tb
  tq := fun q hq => ⟨(R'.tq q hq).1, (R.tq q hq).2⟩
theorem Fr.back {S : List D} (F : FrS (fun a => Fo a ∨ OwnAt σ st a) β G H β' G' H') : Fr Fo st β G H ⟨st.env, S⟩ β' G' H' := ⟨F.g, F.b, fun a h => F.kp a (.inl h), fun i b d h c => ⟨b, d, h, c⟩⟩
theorem RepV.back {S : List D} {f : Bool} {d : D} {v : V} (V : RepV w (fun a => Fo a ∨ OwnAt σ st a) [] ⟨[], S⟩ β' G' H' f d v) : RepV w Fo σ ⟨st.env, S⟩ β' G' H' f d v := by
  rcases repV_cases V with ⟨i, b, d', rfl, rfl, h1, h2, _⟩ | h
  · simp at h2
  · apply repV_of0
    unfold RepV0 at h ⊢
    cases f with
    | false => exact h
    | true =>
      simp only [if_true] at h ⊢
      obtain ⟨a, e, h1, h2, h3, h4, h5⟩ := h
      refine ⟨a, e, h1, h2, fun i d h6 h7 => h4 (.inr ⟨i, d, h6, h7⟩), fun z => h4 (.inl z), h5⟩
/-- what a call of a def gives, in the caller's frame -/
def liftF (st : St) : Rf → Rz DV
  | .ok x S => .ok x ⟨st.env, S⟩
  | .exc c fs S => .exc c fs ⟨st.env, S⟩
  | .bad => .bad
theorem outF_of (R : RS w Fo β G H σ st) {Q : VK} : ∀ {r : Rf}, Out w W Fo σ st β G H Q (liftF st r) → OutF w (fun a => Fo a ∨ OwnAt σ st a) β G H Q (fun cls d H' => W cls d σ H') r
  | .ok (d, f) S, h => fun v β' G' H' F R' V' => h v β' G' H' (Fr.back F) (R.back F R') V'.back
  | .exc c fs S, h => fun β' G' H' dx gs F R' e r => h β' G' H' dx gs (Fr.back F) (R.back F R') e r
  | .bad, h => h
/-- the call itself -/
theorem call_out {pins : List (Addr × Obj)} {s : Shared} {k n : Nat} {f : Addr} {ks : List Str} {F : List D → List D → List D → Rf} {us kus : List Value} {vs kvs : List V} {ds kds : List D} {Q : VK} (tk : L2N.Takes X W) (C : FnC X.prog X.w X.K X.mg X.base k f n ks (spC w F)) (hr : Room k X.A)
    (I : Inv X pins σ H s) (R : RS w Fo β G H σ st) (r1 : Vals vs us) (l1 : vs.length = n) (r2 : Vals kvs kus) (l2 : kvs.length = ks.length) (q1 : Reps w β G ds vs) (q2 : Reps w β G kds kvs) (h : Out w W Fo σ st β G H Q (liftF st (F ds kds st.sto))) :
    wpAny (model X.prog X.w) X.A (call (.ref f) us (ks.zip kus)) (EP X pins σ Q) X.xe s := by
  refine wpAny_call (codeAny_mono (C.run X.A X.stack s H us kus vs kvs Q (fun cls d H' => W cls d σ H') hr I.env0 r1 l1 r2 l2 ⟨_, β, G, st.sto, ds, kds, R.callee, q1, q2, outF_of R h⟩) fun r s' hq => ?_)
  cases r with
  | error e => exact tk e s' (L2N.XE.of_call I (fun _ _ _ z => z) hq)
  | ok fl =>
    cases fl with
    | ret u => exact I.after hq
    | next => exact False.elim hq
    | brk => exact False.elim hq
    | cont => exact False.elim hq
def callF (n j : Nat) (F : List D → List D → List D → Rf) (ds kds : List D) : M DV := (frzL ds).bind fun ds' => (frzL kds).bind fun kds' st => if ds'.length = n ∧ kds'.length = j then liftF st (F ds' kds' st.sto) else .bad
def callM (n j : Nat) (ms mk : M (List D)) (F : List D → List D → List D → Rf) : M DV := ms.bind fun ds => mk.bind fun kds => callF n j F ds kds
theorem RepAs.len : ∀ {ds : List D} {vs : List V}, RepAs w σ st β G ds vs → vs.length = ds.length
  | [], vs, h => by
    have h : vs = [] := h
    rw [h]; rfl
  | d :: ds, vs, h => by
    obtain ⟨v, r, e, _, t⟩ := h
    rw [e, List.length_cons, List.length_cons, RepAs.len t]
theorem tA_bind2 {m : M (List D)} {k : List D → M DV} {Q : VK} {R : List V → Hp → Prop} (RS0 : RS w Fo β G H σ st) (h : Out w W Fo σ st β G H Q ((m.bind k) st))
    (hk : ∀ (ds : List D) (vs : List V) (st' : St) (β' : List Addr) (G' H' : Hp), Fr Fo st β G H st' β' G' H' → RS w Fo β' G' H' σ st' → RepAs w σ st' β' G' ds vs → Out w W Fo σ st' β' G' H' Q (k ds st') → R vs H') : tA w W m σ H R := by
  refine ⟨Fo, β, G, st, RS0, ?_⟩
  unfold M.bind at h
  cases e : m st with
  | ok ds st1 =>
    rw [e] at h
    exact fun vs β1 G1 H1 F R1 A1 => hk ds vs st1 β1 G1 H1 F R1 A1 (h.trans F)
  | exc c fs st1 => rw [e] at h; exact h
  | bad => rw [e] at h; exact h.elim
theorem callF_ok {n j : Nat} {F : List D → List D → List D → Rf} {ds kds : List D} {vs kvs : List V} {Q : VK} (R : RS w Fo β G H σ st) (A : RepAs w σ st β G ds vs) (A2 : RepAs w σ st β G kds kvs) (h : Out w W Fo σ st β G H Q (callF n j F ds kds st)) :
    vs.length = n ∧ kvs.length = j ∧ spC w F vs kvs H Q (fun cls d H' => W cls d σ H') := by
  obtain ⟨ds', st1, G1, e1, F1, R1, q1, l1⟩ := frzL_ok R A
  obtain ⟨kds', st2, G2, e2, F2, R2, q2, l2⟩ := frzL_ok R1 (A2.fr F1)
  unfold callF at h
  simp only [M.bind, e1, e2] at h
  by_cases c : ds'.length = n ∧ kds'.length = j
  · rw [if_pos c] at h
    exact ⟨by rw [A.len, ← l1]; exact c.1, by rw [A2.len, ← l2]; exact c.2, _, β, G2, st2.sto, ds', kds', R2.callee, Reps.mono F2.g F2.b ds' vs q1, q2, outF_of R2 (h.trans (F1.trans F2))⟩
  · rw [if_neg c] at h; exact h.elim
/-- x(..), x a def of the module -/
theorem d_call {k n : Nat} {f : Addr} {x : Str} {ks : List Str} {kws : List Keyword} {F : List D → List D → List D → Rf} {ms mk : M (List D)} {p : Pos} (tk : L2N.Takes X W) (C : FnC X.prog X.w X.K X.mg X.base k f n ks (spC w F)) (hr : Room k X.A) (hg : Gl X x) (hm : X.mg x = some (.ref f))
    (ha : PA X (e :: es) (tA w W ms)) (hkw : PK X kws (tA w W mk)) (hall : (backToKw pos (keywordEach kws X.env)).all (·.1.isSome) = true) (hks : (backToKw pos (keywordEach kws X.env)).filterMap (·.1) = ks)
    (hdb : (x == ("__debug__" : Str)) = false) (he : ∀ a p, e ≠ .Starred a p) (hpl : ((backTo pos (starEach (e :: es) X.env)).any (·.1) || (backToKw pos (keywordEach kws X.env)).any (·.1.isNone)) = false) :
    PE X (.Call (.Name x p) (e :: es) kws pos) (tD w W (callM n ks.length ms mk F)) := by
  refine ⟨fun pins s σ H Q I h => ?_⟩
  refine wpAny_Call_Name_kw (ld_glob I hg hm ?_ hdb)
  refine PySem.W.callWith_KW (h₀ := X.base) I.ok.mod.kin C.kp hall ?_ hpl (starEach_plain he)
  obtain ⟨Fo, β, G, st, R, h⟩ := h
  refine thn (ha.run pos pins s σ H (fun vs H1 => tA w W mk σ H1 fun kvs H2 => vs.length = n ∧ kvs.length = ks.length ∧ spC w F vs kvs H2 Q (fun cls d H' => W cls d σ H')) I (tA_bind2 R h fun ds vs st1 β1 G1 H1 F1 R1 A1 h1 => ?_)) fun us s1 ⟨vs, H1, I1, r1, q1⟩ => ?_
  · refine tA_bind2 R1 h1 fun kds kvs st2 β2 G2 H2 F2 R2 A2 h2 => ?_
    exact callF_ok R2 (A1.fr F2) A2 h2
  · refine thn (hkw.run pos pins s1 σ H1 _ I1 q1) fun kus s2 ⟨kvs, H2, I2, r2, l1, l2, q2⟩ => ⟨I2.kIn, ?_⟩
    rw [hks]
    refine wpAny_call (codeAny_mono (C.run X.A X.stack s2 H2 us kus vs kvs Q (fun cls d H' => W cls d σ H') hr I2.env0 r1 l1 r2 l2 q2) fun r s' hq => ?_)
    cases r with
    | error e => exact tk e s' (L2N.XE.of_call I2 (fun _ _ _ z => z) hq)
    | ok fl =>
      cases fl with
      | ret u => exact I2.after hq
      | next => exact False.elim hq
      | brk => exact False.elim hq
      | cont => exact False.elim hq
/-- x(k = ..), no positional argument -/
theorem d_call0 {k : Nat} {f : Addr} {x : Str} {ks : List Str} {kws : List Keyword} {F : List D → List D → List D → Rf} {mk : M (List D)} {p : Pos} (tk : L2N.Takes X W) (C : FnC X.prog X.w X.K X.mg X.base k f 0 ks (spC w F)) (hr : Room k X.A) (hg : Gl X x) (hm : X.mg x = some (.ref f))
    (hkw : PK X kws (tA w W mk)) (hall : (backToKw pos (keywordEach kws X.env)).all (·.1.isSome) = true) (hks : (backToKw pos (keywordEach kws X.env)).filterMap (·.1) = ks)
    (hdb : (x == ("__debug__" : Str)) = false) (hpl : ((backTo pos (starEach [] X.env)).any (·.1) || (backToKw pos (keywordEach kws X.env)).any (·.1.isNone)) = false) :
    PE X (.Call (.Name x p) [] kws pos) (tD w W (callM 0 ks.length argsNil mk F)) := by
  refine ⟨fun pins s σ H Q I h => ?_⟩
  refine wpAny_Call_Name_kw (ld_glob I hg hm ?_ hdb)
  refine PySem.W.callWith_KW0 (h₀ := X.base) I.ok.mod.kin C.kp hall ?_ hpl
  obtain ⟨Fo, β, G, st, R, h⟩ := h
  have h : Out w W Fo σ st β G H Q ((mk.bind fun kds => callF 0 ks.length F [] kds) st) := h
  refine thn (hkw.run pos pins s σ H (fun kvs H2 => kvs.length = ks.length ∧ spC w F [] kvs H2 Q (fun cls d H' => W cls d σ H')) I (tA_bind2 R h fun kds kvs st2 β2 G2 H2 F2 R2 A2 h2 => ?_)) fun kus s2 ⟨kvs, H2, I2, r2, l2, q2⟩ => ⟨I2.kIn, ?_⟩
  · exact (callF_ok (vs := []) (ds := []) R2 rfl A2 h2).2
  · rw [hks]
    refine wpAny_call (codeAny_mono (C.run X.A X.stack s2 H2 [] kus [] kvs Q (fun cls d H' => W cls d σ H') hr I2.env0 .nil rfl r2 l2 q2) fun r s' hq => ?_)
    cases r with
    | error e => exact tk e s' (L2N.XE.of_call I2 (fun _ _ _ z => z) hq)
    | ok fl =>
      cases fl with
      | ret u => exact I2.after hq
      | next => exact False.elim hq
      | brk => exact False.elim hq
      | cont => exact False.elim hq
end
end PD

set_option autoImplicit false
namespace PD
open PySem PySem.Spec PyProof.Rows L2

/-! ### what a loop walks -/
mutual
def beqD : D → D → Bool
  | .non, .non => true
  | .bl a, .bl b => decide (a = b)
  | .int a, .int b => decide (a = b)
  | .str a, .str b => decide (a = b)
  | .tup a, .tup b => beqDs a b
  | .lst a, .lst b => beqDs a b
  | .set a, .set b => beqDs a b
  | .dct a, .dct b => beqDd a b
  | .dtt a, .dtt b => beqDd a b
  | .ins c a, .ins d b => decide (c = d) && beqDf a b
  | .err c a, .err d b => decide (c = d) && beqDf a b
  | .fro a, .fro b => beqDs a b
  | .ftu a, .ftu b => beqDs a b
  | .obj a, .obj b => decide (a = b)
  | .loc a, .loc b => decide (a = b)
  | .glo a, .glo b => decide (a = b)
  | _, _ => false
def beqDs : List D → List D → Bool
  | [], [] => true
  | a :: r, b :: s => beqD a b && beqDs r s
  | _, _ => false
def beqDf : List (Str × D) → List (Str × D) → Bool
  | [], [] => true
  | (f, a) :: r, (g, b) :: s => decide (f = g) && (beqD a b && beqDf r s)
  | _, _ => false
def beqDd : List (D × D) → List (D × D) → Bool
  | [], [] => true
  | (f, a) :: r, (g, b) :: s => beqD f g && (beqD a b && beqDd r s)
  | _, _ => false
end
mutual
theorem beqD_eq : ∀ (a b : D), beqD a b = true → a = b
  | .non, b, h => by cases b <;> first | rfl | (simp [beqD] at h)
  | .bl x, b, h => by cases b <;> simp [beqD] at h; rw [h]
  | .int x, b, h => by cases b <;> simp [beqD] at h; rw [h]
  | .str x, b, h => by cases b <;> simp [beqD] at h; rw [h]
  | .tup x, b, h => by cases b <;> simp [beqD] at h; rw [beqDs_eq _ _ h]
  | .lst x, b, h => by cases b <;> simp [beqD] at h; rw [beqDs_eq _ _ h]
  | .set x, b, h => by cases b <;> simp [beqD] at h; rw [beqDs_eq _ _ h]
  | .dct x, b, h => by cases b <;> simp [beqD] at h; rw [beqDd_eq _ _ h]
  | .dtt x, b, h => by cases b <;> simp [beqD] at h; rw [beqDd_eq _ _ h]
  | .ins c x, b, h => by cases b <;> simp [beqD] at h; rw [h.1, beqDf_eq _ _ h.2]
  | .err c x, b, h => by cases b <;> simp [beqD] at h; rw [h.1, beqDf_eq _ _ h.2]
  | .fro x, b, h => by cases b <;> simp [beqD] at h; rw [beqDs_eq _ _ h]
  | .ftu x, b, h => by cases b <;> simp [beqD] at h; rw [beqDs_eq _ _ h]
  | .obj x, b, h => by cases b <;> simp [beqD] at h; rw [h]
  | .loc x, b, h => by cases b <;> simp [beqD] at h; rw [h]
  | .glo x, b, h => by cases b <;> simp [beqD] at h; rw [h]
theorem beqDs_eq : ∀ (a b : List D), beqDs a b = true → a = b
  | [], b, h => by cases b <;> first | rfl | (simp [beqDs] at h)
  | a :: r, b, h => by
    cases b with
    | nil => simp [beqDs] at h
    | cons b s => simp [beqDs] at h; rw [beqD_eq _ _ h.1, beqDs_eq _ _ h.2]
theorem beqDf_eq : ∀ (a b : List (Str × D)), beqDf a b = true → a = b
  | [], b, h => by cases b <;> first | rfl | (simp [beqDf] at h)
  | (f, a) :: r, b, h => by
    cases b with
    | nil => simp [beqDf] at h
    | cons b s => obtain ⟨g, b⟩ := b; simp [beqDf] at h; rw [h.1, beqD_eq _ _ h.2.1, beqDf_eq _ _ h.2.2]
theorem beqDd_eq : ∀ (a b : List (D × D)), beqDd a b = true → a = b
  | [], b, h => by cases b <;> first | rfl | (simp [beqDd] at h)
  | (f, a) :: r, b, h => by
    cases b with
    | nil => simp [beqDd] at h
    | cons b s => obtain ⟨g, b⟩ := b; simp [beqDd] at h; rw [beqD_eq _ _ h.1, beqD_eq _ _ h.2.1, beqDd_eq _ _ h.2.2]
end

/-- what is walked: the items, and the stored object that must stay while it is walked -/
structure Wk where
  items : List D
  watch : Option (Nat × D) := none
def Wk.still (k : Wk) (st : St) : Bool := match k.watch with
  | none => true
  | some (n, d) => (match st.sto[n]? with
    | some e => beqD e d
    | none => false)
/-- an item that is given: it stands for d, or is a new pair -/
def YD0 (w : Wo) (β : List Addr) (G : Hp) (ds : List D) : Nat → Hp → V → Hp → Prop := fun i H x H' => ∃ d, ds[i]? = some d ∧
  ((H' = H ∧ Rep w β G d x) ∨ ∃ T u v d1 d2, x = .ref T ∧ H T = none ∧ H' = upd H T (.tup [u, v]) ∧ d = .tup [d1, d2] ∧ Rep w β G d1 u ∧ Rep w β G d2 v)
/-- .. at a state in which the walk stands -/
def YD (w : Wo) (β : List Addr) (G : Hp) (k : Wk) : Nat → Hp → V → Hp → Prop := fun i H x H' => ∀ (Fo : Addr → Prop) (β1 : List Addr) (G1 : Hp) (σ : L2.St) (st : St), SubB β β1 → SubH G G1 → RS w Fo β1 G1 H σ st → k.still st = true → YD0 w β1 G1 k.items i H x H'
/-- J walks k -/
structure WkOk0 (w : Wo) (J : It) (k : Wk) (β : List Addr) (G : Hp) : Prop where
  wk : ∃ C : Hp → Prop, Walk J k.items.length C (YD0 w β G k.items) ∧ ∀ (Fo : Addr → Prop) (β1 : List Addr) (G1 H1 : Hp) (σ : L2.St) (st : St), SubB β β1 → SubH G G1 → RS w Fo β1 G1 H1 σ st → k.still st = true → C H1
structure WkOk (w : Wo) (J : It) (k : Wk) (β : List Addr) (G : Hp) : Prop where
  wk : ∃ C : Hp → Prop, Walk J k.items.length C (YD w β G k) ∧ ∀ (Fo : Addr → Prop) (β1 : List Addr) (G1 H1 : Hp) (σ : L2.St) (st : St), SubB β β1 → SubH G G1 → RS w Fo β1 G1 H1 σ st → k.still st = true → C H1
theorem WkOk0.up {w : Wo} {J : It} {k : Wk} {β : List Addr} {G : Hp} (h : WkOk0 w J k β G) : WkOk w J k β G := by
  obtain ⟨C, h1, h2⟩ := h.wk
  refine ⟨C, h1.mono (fun _ z => z) fun i H x H' _ _ y => ?_, h2⟩
  intro Fo β1 G1 σ st hb hg R hs
  obtain ⟨d, e, y⟩ := y
  refine ⟨d, e, ?_⟩
  rcases y with ⟨e2, r⟩ | ⟨T, u, v, d1, d2, e2, e3, e4, e5, r1, r2⟩
  · exact .inl ⟨e2, Rep.mono hg hb d x r⟩
  · exact .inr ⟨T, u, v, d1, d2, e2, e3, e4, e5, Rep.mono hg hb d1 u r1, Rep.mono hg hb d2 v r2⟩
instance coeWk {w : Wo} {J : It} {k : Wk} {β : List Addr} {G : Hp} : CoeOut (WkOk0 w J k β G) (WkOk w J k β G) := ⟨WkOk0.up⟩
section
variable (w : Wo)
def OutI (W : WX) (Fo : Addr → Prop) (σ : L2.St) (st : St) (β : List Addr) (G H : Hp) (R : It → Hp → Prop) : Rz Wk → Prop
  | .ok k st' => k.still st' = true ∧ ∀ (J : It) (β' : List Addr) (G' H' : Hp), Fr Fo st β G H st' β' G' H' → RS w Fo β' G' H' σ st' → WkOk w J k β' G' → R J H'
  | .exc c fs st' => ∀ (β' : List Addr) (G' H' : Hp) (dx : Addr) (gs : List (Str × V)), Fr Fo st β G H st' β' G' H' → RS w Fo β' G' H' σ st' → H' dx = some (.xd gs) → RepsF w β' G' fs gs → W (.ref (w.ca c)) (some dx) σ H'
  | .bad => False
def tI (W : WX) (m : M Wk) : TI := fun σ H R => ∃ (Fo : Addr → Prop) (β : List Addr) (G : Hp) (st : St), RS w Fo β G H σ st ∧ OutI w W Fo σ st β G H R (m st)
end
section
variable {w : Wo} {si : SI} {X : Cx} {W : WX} {e : Expr} {es : List Expr} {pos : Pos} {Fo : Addr → Prop} {σ : L2.St} {st st1 : St} {β β1 : List Addr} {G H G1 H1 : Hp} {tg : Expr}
theorem PI.imp {wi wi' : TI} (h : PI X tg e wi) (i : ∀ σ H R, wi' σ H R → wi σ H R) : PI X tg e wi' := ⟨fun pins s σ H R I q => h.run pins s σ H R I (i σ H R q)⟩
theorem PI.or {wi wi' : TI} (h : PI X tg e wi) (h' : PI X tg e wi') : PI X tg e (fun σ H R => wi σ H R ∨ wi' σ H R) := ⟨fun pins s σ H R I q => q.elim (h.run pins s σ H R I) (h'.run pins s σ H R I)⟩
theorem OutI.trans {R : It → Hp → Prop} (F : Fr Fo st β G H st1 β1 G1 H1) : ∀ (r : Rz Wk), OutI w W Fo σ st β G H R r → OutI w W Fo σ st1 β1 G1 H1 R r
  | .ok k st', h => ⟨h.1, fun J β' G' H' F' R' V' => h.2 J β' G' H' (F.trans F') R' V'⟩
  | .exc c fs st', h => fun β' G' H' dx gs F' R' e r => h β' G' H' dx gs (F.trans F') R' e r
  | .bad, h => h
theorem pi_bad {tl : TE} (hl : PE X e tl) : PI X tg e (tI w W M.bad) := PI.imp (pi_list hl) fun σ H R h => by
  obtain ⟨Fo, β, G, st, _, h⟩ := h
  exact h.elim
theorem Reps.at {ds : List D} {vs : List V} (h : Reps w β G ds vs) {i : Nat} {x : V} (e : vs[i]? = some x) : ∃ d, ds[i]? = some d ∧ Rep w β G d x := h.getV e
theorem wk_list {a : Addr} {ds : List D} {vs : List V} (h : Reps w β G ds vs) (hG : G a = some (.lst vs)) : WkOk0 w (Itl w.K a) ⟨ds, none⟩ β G :=
  ⟨fun H => SqL w.K H a vs, by
    show Walk _ ds.length _ _
    rw [← h.len]
    exact walk_list.mono (fun _ z => z) fun i H x H' _ _ y => by
      obtain ⟨d, e, r⟩ := h.at y.2
      exact ⟨d, e, .inl ⟨y.1, r⟩⟩, fun Fo β1 G1 H1 σ st _ g R _ => SqL.of (R.sub _ _ (g.ex hG rfl))⟩
theorem wk_fro {a : Addr} {ds : List D} {vs : List V} (h : Reps w β G ds vs) (hG : SqL w.K G a vs) : WkOk0 w (Itl w.K a) ⟨ds, none⟩ β G :=
  ⟨fun H => SqL w.K H a vs, by
    show Walk _ ds.length _ _
    rw [← h.len]
    exact walk_list.mono (fun _ z => z) fun i H x H' _ _ y => by
      obtain ⟨d, e, r⟩ := h.at y.2
      exact ⟨d, e, .inl ⟨y.1, r⟩⟩, fun Fo β1 G1 H1 σ st _ g R _ => SqL.mono R.sub.h (SqL.mono g hG)⟩
theorem wk_tup {a : Addr} {ds : List D} {vs : List V} (h : Reps w β G ds vs) (hG : SqT w.K G a vs) : WkOk0 w (Itt w.K a) ⟨ds, none⟩ β G :=
  ⟨fun H => SqT w.K H a vs, by
    show Walk _ ds.length _ _
    rw [← h.len]
    exact walk_tup.mono (fun _ z => z) fun i H x H' _ _ y => by
      obtain ⟨d, e, r⟩ := h.at y.2
      exact ⟨d, e, .inl ⟨y.1, r⟩⟩, fun Fo β1 G1 H1 σ st _ g R _ => SqT.mono R.sub.h (SqT.mono g hG)⟩
/-- the signs of a text -/
def signs (x : Str) : List D := x.cps.toList.map fun c => .str ⟨#[c]⟩
theorem one_len (c : Nat) : (⟨#[c]⟩ : Str).length ≤ sizeLine := by
  show 1 ≤ sizeLine
  decide
theorem wk_str {x : Str} : WkOk0 w (Its x) ⟨signs x, none⟩ β G :=
  ⟨fun _ => True, by
    have e : (signs x).length = x.cps.size := by unfold signs; simp
    show Walk _ (signs x).length _ _
    rw [e]
    exact walk_str.mono (fun _ z => z) fun i H v H' hi _ y => by
      obtain ⟨y1, c, y2, y3⟩ := y
      refine ⟨.str ⟨#[c]⟩, ?_, .inl ⟨y1, ?_⟩⟩
      · unfold signs
        rw [List.getElem?_map, Array.getElem?_toList, y2]
        rfl
      · subst y3
        exact rep_str (one_len c), fun _ _ _ _ _ _ _ _ _ _ => trivial⟩
def ranged (lo : Int) (n : Nat) : List D := (List.range n).map fun (i : Nat) => D.int (lo + (i : Int))
theorem wk_range {lo : Int} {n : Nat} : WkOk0 w (Itr lo n) ⟨ranged lo n, none⟩ β G :=
  ⟨fun _ => True, by
    have e : (ranged lo n).length = n := by unfold ranged; simp
    show Walk _ (ranged lo n).length _ _
    rw [e]
    exact walk_range.mono (fun _ z => z) fun i H v H' hi _ y => by
      refine ⟨.int (lo + i), ?_, .inl ⟨y.1, ?_⟩⟩
      · unfold ranged
        rw [List.getElem?_map, List.getElem?_range hi]
        rfl
      · have y2 : v = .int (lo + i) := y.2
        subst y2
        exact rep_int, fun _ _ _ _ _ _ _ _ _ _ => trivial⟩
theorem wk_rangeC {lo c : Int} {n : Nat} : WkOk0 w (Itc lo c n) ⟨(List.range n).map fun (i : Nat) => D.int (lo + (i : Int) * c), none⟩ β G :=
  ⟨fun _ => True, by
    show Walk _ ((List.range n).map fun (i : Nat) => D.int (lo + (i : Int) * c)).length _ _
    rw [List.length_map, List.length_range]
    exact walk_rangeC.mono (fun _ z => z) fun i H v H' hi _ y => by
      refine ⟨.int (lo + (i : Nat) * c), ?_, .inl ⟨y.1, ?_⟩⟩
      · show ((List.range n).map fun (i : Nat) => D.int (lo + (i : Int) * c))[i]? = _
        rw [List.getElem?_map, List.getElem?_range hi]
        rfl
      · have y2 : v = .int (lo + (i : Nat) * c) := y.2
        subst y2
        exact rep_int, fun _ _ _ _ _ _ _ _ _ _ => trivial⟩
/-- a stored list, watched -/
theorem wk_obj {a : Addr} {n : Nat} {ds : List D} (hβ : β[n]? = some a) : WkOk w (Itl w.K a) ⟨ds, some (n, .lst ds)⟩ β G := by
  have key : ∀ (Fo : Addr → Prop) (β1 : List Addr) (G1 H1 : Hp) (σ : L2.St) (st : St), SubB β β1 → RS w Fo β1 G1 H1 σ st → (⟨ds, some (n, .lst ds)⟩ : Wk).still st = true → ∃ vs, H1 a = some (.lst vs) ∧ Reps w β1 G1 ds vs := fun Fo β1 G1 H1 σ st hb R hs => by
    unfold Wk.still at hs
    simp only at hs
    cases e : st.sto[n]? with
    | none => rw [e] at hs; cases hs
    | some d =>
      rw [e] at hs
      have := beqD_eq _ _ hs
      subst this
      obtain ⟨_, _, vs, h1, h2⟩ := R.sto n _ a e (hb n a hβ)
      exact ⟨vs, h1, h2⟩
  refine ⟨fun H => ∃ vs, vs.length = ds.length ∧ H a = some (.lst vs), ⟨fun i H hi h => ?_, fun H h => ?_, fun i H x H' hi h y => ?_⟩, fun Fo β1 G1 H1 σ st hb hg R hs => ?_⟩
  · obtain ⟨vs, l, h⟩ := h
    exact walk_list.goes i H (by rw [l]; exact hi) (SqL.of h)
  · obtain ⟨vs, l, h⟩ := h
    show (Itl w.K a).stop ds.length H
    rw [← l]
    exact walk_list.stops H (SqL.of h)
  · obtain ⟨vs, l, h⟩ := h
    have z := walk_list.yields i H x H' (by rw [l]; exact hi) (SqL.of h) y
    intro Fo β1 G1 σ st hb hg R hs
    obtain ⟨vs', h1, h2⟩ := key Fo β1 G1 H σ st hb R hs
    rw [h] at h1
    cases h1
    obtain ⟨d, e, r⟩ := h2.at z.2
    exact ⟨d, e, .inl ⟨z.1, r⟩⟩
  · obtain ⟨vs, h1, h2⟩ := key Fo β1 G1 H1 σ st hb R hs
    exact ⟨vs, h2.len, h1⟩
/-- a list, a tuple, a text at hand: its iterator -/
theorem it_list {pins : List (Addr × Obj)} {s1 : Shared} {a : Addr} {xs : List V} {R : It → Hp → Prop} (I1 : Inv X pins σ H s1) (hq : SqL X.K H a xs) (q : R (Itl X.K a) H) : wpAny (model X.prog X.w) X.A (pyIter (.ref a)) (PIE X pins σ tg R) X.xe s1 := by
  obtain ⟨its, rv, p, hz⟩ := I1.list hq
  refine wpAny_pyIter_list p.isList ?_
  refine ⟨s1.heap.objs.size, [s1.heap.objs.size], _, _, H, rfl, I1.kept (t' := s1.toks) fun b o e => Heap.get?_push_of_some _ e, turn_list a _, ⟨_, Heap.get?_push_size _ rfl, rfl, rfl⟩, fun b hb => ?_, q⟩
  have e : b = s1.heap.objs.size := by simpa using hb
  subst e
  exact I1.fpOk (Nat.le_refl _) (I1.hok.fresh (Nat.le_refl _))
theorem it_tup {pins : List (Addr × Obj)} {s1 : Shared} {a : Addr} {xs : List V} {R : It → Hp → Prop} (I1 : Inv X pins σ H s1) (hq : SqT X.K H a xs) (q : R (Itt X.K a) H) : wpAny (model X.prog X.w) X.A (pyIter (.ref a)) (PIE X pins σ tg R) X.xe s1 := by
  obtain ⟨its, rv, p, hz⟩ := I1.tuple hq
  refine wpAny_pyIter_tuple (show s1.heap.IsTuple a its.toArray from p) ?_
  refine ⟨s1.heap.objs.size, [s1.heap.objs.size], _, _, H, rfl, I1.kept (t' := s1.toks) fun b o e => Heap.get?_push_of_some _ e, turn_tuple a _, ⟨_, Heap.get?_push_size _ rfl, rfl, rfl⟩, fun b hb => ?_, q⟩
  have e : b = s1.heap.objs.size := by simpa using hb
  subst e
  exact I1.fpOk (Nat.le_refl _) (I1.hok.fresh (Nat.le_refl _))
theorem it_str {pins : List (Addr × Obj)} {s1 : Shared} {x : Str} {t : Tok} {R : It → Hp → Prop} (I1 : Inv X pins σ H s1) (q : R (Its x) H) : wpAny (model X.prog X.w) X.A (pyIter (.str x t)) (PIE X pins σ tg R) X.xe s1 := by
  cases ha : x.cps.all (· < 128)
  · exact wpAny_pyIter_wide ha (pi_one (tk := s1.toks) I1 _ (turn_str _ x t "str_iterator" (.inr rfl)) ⟨_, Heap.get?_push_size _ rfl, rfl, rfl⟩ q)
  · exact wpAny_pyIter_ascii ha (pi_one (tk := s1.toks) I1 _ (turn_str _ x t "str_ascii_iterator" (.inl rfl)) ⟨_, Heap.get?_push_size _ rfl, rfl, rfl⟩ q)
/-! ### a value walked -/
/-- a value's items; a container of the def's own stays as it is from then on -/
def walkD : D → M Wk
  | .lst ds => M.ret ⟨ds, none⟩
  | .fro ds => M.ret ⟨ds, none⟩
  | .tup ds => M.ret ⟨ds, none⟩
  | .ftu ds => M.ret ⟨ds, none⟩
  | .str x => M.ret ⟨signs x, none⟩
  | _ => M.bad
def walkM (m : M DV) : M Wk := m.bind fun x => match x.1 with
  | .loc i => (frz1 (.loc i)).bind walkD
  | d => walkD d
theorem walk_of {R : It → Hp → Prop} {a : V} {d : D} (R0 : RS w Fo β G H σ st) (r : Rep w β G d a) (h : OutI w W Fo σ st β G H R (walkD d st)) :
    (∃ p, a = .ref p ∧ (∃ xs, SqL w.K H p xs) ∧ R (Itl w.K p) H) ∨ (∃ p, a = .ref p ∧ (∃ xs, SqT w.K H p xs) ∧ R (Itt w.K p) H) ∨ (∃ x, a = .str x ∧ R (Its x) H) := by
  cases d with
  | lst ds =>
    unfold Rep at r
    obtain ⟨_, p, vs, e, g, r⟩ := r
    exact .inl ⟨p, e, ⟨vs, SqL.of (R0.sub _ _ g)⟩, h.2 _ β G H Fr.refl R0 (wk_list r g)⟩
  | fro ds =>
    unfold Rep at r
    obtain ⟨_, p, vs, e, g, r⟩ := r
    exact .inl ⟨p, e, ⟨vs, SqL.mono R0.sub.h g⟩, h.2 _ β G H Fr.refl R0 (wk_fro r g)⟩
  | tup ds =>
    unfold Rep at r
    obtain ⟨_, p, vs, e, g, r⟩ := r
    exact .inr (.inl ⟨p, e, ⟨vs, SqT.of (R0.sub _ _ g)⟩, h.2 _ β G H Fr.refl R0 (wk_tup r (SqT.of g))⟩)
  | ftu ds =>
    unfold Rep at r
    obtain ⟨_, p, vs, e, g, r⟩ := r
    exact .inr (.inl ⟨p, e, ⟨vs, SqT.mono R0.sub.h g⟩, h.2 _ β G H Fr.refl R0 (wk_tup r g)⟩)
  | str x =>
    unfold Rep at r
    exact .inr (.inr ⟨x, r.1, h.2 _ β G H Fr.refl R0 wk_str.up⟩)
  | _ => exact h.elim
theorem d_walk {m : M DV} (hK : X.K = w.K) (h : PE X e (tD w W m)) : PI X tg e (tI w W (walkM m)) := by
  refine ⟨fun pins s σ H R I q => ?_⟩
  -- the value comes first
  have key : ∀ σ H R, tI w W (walkM m) σ H R → tD w W m σ H fun a H1 => (∃ p, a = .ref p ∧ (∃ xs, SqL w.K H1 p xs) ∧ R (Itl w.K p) H1) ∨ (∃ p, a = .ref p ∧ (∃ xs, SqT w.K H1 p xs) ∧ R (Itt w.K p) H1) ∨ (∃ x, a = .str x ∧ R (Its x) H1) := fun σ H R q => by
    obtain ⟨Fo, β, G, st, R0, q⟩ := q
    refine ⟨Fo, β, G, st, R0, ?_⟩
    unfold walkM M.bind at q
    cases e1 : m st with
    | ok x st1 =>
      obtain ⟨d, f⟩ := x
      rw [e1] at q
      intro v β1 G1 H1 F1 R1 V1
      obtain ⟨G2, F2, R2, A2⟩ := settle R1 V1
      by_cases hl : ∃ i, d = .loc i
      · obtain ⟨i, rfl⟩ := hl
        obtain ⟨d', st3, G3, e3, F3, R3, r3⟩ := frz1_ok R2 A2
        have q : OutI w W Fo σ st β G H R (((frz1 (.loc i)).bind walkD) st1) := q
        rw [M.bind_ok e3] at q
        exact walk_of R3 r3 (q.trans ((F1.trans F2).trans F3))
      · have r : Rep w β1 G2 d v := by
          cases d with
          | loc i => exact absurd ⟨i, rfl⟩ hl
          | _ => exact A2
        have q : OutI w W Fo σ st β G H R (walkD d st1) := by
          cases d with
          | loc i => exact absurd ⟨i, rfl⟩ hl
          | _ => exact q
        exact walk_of R2 r (q.trans (F1.trans F2))
    | exc c fs st1 => rw [e1] at q; exact q
    | bad => rw [e1] at q; exact q.elim
  -- by the kind of the value at hand
  have three : PI X tg e (fun σ H R => tD w W m σ H fun a H1 => (∃ p, a = .ref p ∧ (∃ xs, SqL w.K H1 p xs) ∧ R (Itl w.K p) H1) ∨ (∃ p, a = .ref p ∧ (∃ xs, SqT w.K H1 p xs) ∧ R (Itt w.K p) H1) ∨ (∃ x, a = .str x ∧ R (Its x) H1)) := by
    refine ⟨fun pins s σ H R I h3 => ?_⟩
    refine thn (h.run pins s σ H _ I h3) fun v s1 ⟨x, H1, I1, r1, q1⟩ => ?_
    rcases q1 with ⟨p, e1, ⟨xs, q2⟩, q1⟩ | ⟨p, e1, ⟨xs, q2⟩, q1⟩ | ⟨z, e1, q1⟩
    · subst e1; cases r1; exact it_list I1 (by rw [hK]; exact q2) (by rw [hK]; exact q1)
    · subst e1; cases r1; exact it_tup I1 (by rw [hK]; exact q2) (by rw [hK]; exact q1)
    · subst e1; obtain ⟨t, rfl⟩ := r1; exact it_str I1 q1
  exact three.run pins s σ H R I (key σ H R q)
end
end PD

set_option autoImplicit false
namespace PD
open PySem PySem.Spec PyProof.Rows L2

/-! ### targets of loops -/
section
variable (w : Wo)
def OutG (Fo : Addr → Prop) (β : List Addr) (G H : Hp) (Q : L2.St → Hp → Prop) : Rz Unit → Prop
  | .ok _ st' => ∀ (σ' : L2.St) (β' : List Addr) (G' H' : Hp), FrS Fo β G H β' G' H' → RS w Fo β' G' H' σ' st' → Q σ' H'
  | _ => False
def tG (g : D → M Unit) : TG := fun x σ H Q => ∃ (Fo : Addr → Prop) (β : List Addr) (G : Hp) (st : St) (d : D), RS w Fo β G H σ st ∧ Rep w β G d x ∧ OutG w Fo β G H Q (g d st)
end
/-- a for -/
def forL (k : Wk) (g : D → M Unit) (body : MS) : List D → MS
  | [] => skip
  | d :: ds => fun st => match g d st with
    | .ok _ st1 => (match body st1 with
      | .ok .nx st2 => if k.still st2 = true then forL k g body ds st2 else .bad
      | .ok .ct st2 => if k.still st2 = true then forL k g body ds st2 else .bad
      | .ok .bk st2 => .ok .nx st2
      | .ok (.rt x) st2 => .ok (.rt x) st2
      | .exc c fs st2 => .exc c fs st2
      | .bad => .bad)
    | _ => .bad
def forM (mw : M Wk) (g : D → M Unit) (body : MS) : MS := mw.bind fun k st => if k.still st = true then forL k g body k.items st else .bad
section
variable {w : Wo} {si : SI} {X : Cx} {W : WX} {e : Expr} {es : List Expr} {pos : Pos} {Fo : Addr → Prop} {σ : L2.St} {st st1 : St} {β β1 : List Addr} {G H G1 H1 : Hp} {tg : Expr}
theorem PG.imp {g g' : TG} (h : PG X tg g) (i : ∀ x σ H Q, g' x σ H Q → g x σ H Q) : PG X tg g' := ⟨fun pins s σ H x v Q I r q => h.run pins s σ H x v Q I r (i x σ H Q q)⟩
/-- an item that is given -/
theorem yd_in {k : Wk} {β0 : List Addr} {G0 : Hp} {i : Nat} {x : V} (hb : SubB β0 β) (hg : SubH G0 G) (R : RS w Fo β G H σ st) (hs : k.still st = true) (y : YD w β0 G0 k i H x H1) :
    ∃ d G', k.items[i]? = some d ∧ FrS Fo β G H β G' H1 ∧ RS w Fo β G' H1 σ st ∧ Rep w β G' d x := by
  obtain ⟨d, e, y⟩ := y Fo β G σ st hb hg R hs
  rcases y with ⟨rfl, r⟩ | ⟨T, u, v, d1, d2, rfl, hT, rfl, rfl, r1, r2⟩
  · exact ⟨d, G, e, FrS.refl, R, r⟩
  · have hgn := R.nog hT
    refine ⟨_, upd G T (.tup [u, v]), e, ((Fr.new R hT).trans (Fr.keep (o := .tup [u, v]) hgn)).s, (R.new (o := .tup [u, v]) hT).keep upd_same hgn (R.notin hT) (R.noown hT) (R.nofo hT) (fun ps z => by cases z), ?_⟩
    unfold Rep
    refine ⟨by show 2 ≤ sizeLine; decide, T, [u, v], rfl, upd_same, ?_⟩
    have m := SubH.new (o := .tup [u, v]) hgn
    exact Reps.cons (Rep.mono m (SubB.refl _) d1 u r1) (Reps.cons (Rep.mono m (SubB.refl _) d2 v r2) Reps.nil)
theorem for_out {J : It} {k : Wk} {g : D → M Unit} {body : MS} {D : Ends} (wk : WkOk w J k β G) (R : RS w Fo β G H σ st) (hs : k.still st = true) (h : OutS w W Fo β G H D (forL k g body k.items st)) :
    ∃ Wi : Nat → Nat → L2.St → Hp → Prop, (∃ m, Wi 0 m σ H) ∧ ∀ i m σ H, Wi i m σ H →
      (J.stop i H ∧ D.nx σ H) ∨ (J.go i H ∧ ∃ N : L2.St → Hp → Prop, (∀ σ' H', N σ' H' → ∃ m', m' < m ∧ Wi (i + 1) m' σ' H') ∧ ∀ x H', J.yld i H x H' → (tG w g) x σ H' fun σ2 H2 => (tS w W body) { D with nx := N, ct := N, bk := D.nx } σ2 H2) := by
  obtain ⟨C, wk, hC⟩ := wk.wk
  refine for_it wk (Pv := fun i σ' H' => ∃ (β' : List Addr) (G' : Hp) (st' : St), FrS Fo β G H β' G' H' ∧ RS w Fo β' G' H' σ' st' ∧ k.still st' = true ∧ OutS w W Fo β G H D (forL k g body (k.items.drop i) st')) ⟨β, G, st, FrS.refl, R, hs, h⟩ ?_ ?_ ?_
  · rintro i σ' H' _ ⟨β', G', st', F, R', s', _⟩
    exact hC Fo β' G' H' σ' st' F.b F.g R' s'
  · rintro i x σ' H' H2 hi ⟨β', G', st', F, R', s', h'⟩ y
    obtain ⟨d, G2, e, F2, R2, r2⟩ := yd_in F.b F.g R' s' y
    refine ⟨Fo, β', G2, st', d, R2, r2, ?_⟩
    have hd : k.items.drop i = d :: k.items.drop (i + 1) := by
      obtain ⟨hlt, he⟩ := List.getElem?_eq_some_iff.mp e
      rw [List.drop_eq_getElem_cons hlt, he]
    rw [hd] at h'
    simp only [forL] at h'
    cases e1 : g d st' with
    | ok u st1 =>
      rw [e1] at h'
      intro σ3 β3 G3 H3 F3 R3
      refine ⟨Fo, β3, G3, st1, R3, ?_⟩
      simp only at h'
      cases e2 : body st1 with
      | ok f st2 =>
        rw [e2] at h'
        cases f with
        | nx =>
          simp only at h'
          intro σ4 β4 G4 H4 F4 R4
          by_cases c : k.still st2 = true
          · rw [if_pos c] at h'
            exact ⟨β4, G4, st2, ((F.trans F2).trans F3).trans F4, R4, c, h'⟩
          · rw [if_neg c] at h'; exact h'.elim
        | ct =>
          simp only at h'
          intro σ4 β4 G4 H4 F4 R4
          by_cases c : k.still st2 = true
          · rw [if_pos c] at h'
            exact ⟨β4, G4, st2, ((F.trans F2).trans F3).trans F4, R4, c, h'⟩
          · rw [if_neg c] at h'; exact h'.elim
        | bk =>
          intro σ4 β4 G4 H4 F4 R4
          exact h' σ4 β4 G4 H4 (((F.trans F2).trans F3).trans F4) R4
        | rt x =>
          obtain ⟨d, f⟩ := x
          intro v β4 G4 H4 F4 R4 V4
          exact h' v β4 G4 H4 (((F.trans F2).trans F3).trans F4) R4 V4
      | exc c fs st2 =>
        rw [e2] at h'
        intro σ4 β4 G4 H4 dx gs F4 R4 q r
        exact h' σ4 β4 G4 H4 dx gs (((F.trans F2).trans F3).trans F4) R4 q r
      | bad => rw [e2] at h'; exact h'.elim
    | exc c fs st1 => rw [e1] at h'; exact h'.elim
    | bad => rw [e1] at h'; exact h'.elim
  · rintro σ' H' ⟨β', G', st', F, R', s', h'⟩
    rw [List.drop_length] at h'
    exact h' σ' β' G' H' F R'
theorem s_for {mw : M Wk} {g : D → M Unit} {body : List Stmt} {m : MS} (hp : PassesOwn (model X.prog X.w) X.A X.env X.xe) (hc : X.calm = true) (hi : PI X tg e (tI w W mw)) (hg : PG X tg (tG w g)) (hb : PSs X body (tS w W m))
    (hs : ∀ x, foldedSetIterable e X.env x = pure x) : PS X (.For tg e body [] pos) (tS w W (forM mw g m)) :=
  PS.imp (ps_for hp hc hi hg hb hs) fun D σ H h => by
    obtain ⟨Fo, β, G, st, R, h⟩ := h
    refine ⟨Fo, β, G, st, R, ?_⟩
    unfold forM M.bind at h
    cases e1 : mw st with
    | ok k st1 =>
      rw [e1] at h
      simp only at h
      by_cases e3 : k.still st1 = true
      · rw [if_pos e3] at h
        exact ⟨e3, fun J β' G' H' F' R' wk => for_out wk R' e3 (h.trans F'.s)⟩
      · rw [if_neg e3] at h
        exact h.elim
    | exc c fs st1 =>
      rw [e1] at h
      exact fun β' G' H' dx gs F R e r => h σ β' G' H' dx gs F.s R e r
    | bad => rw [e1] at h; exact h.elim

/-! ### the targets -/
def putD (i : Nat) (d : D) : M Unit := fun st => if i < st.env.length then .ok () ⟨st.env.set i (some (false, d)), st.sto⟩ else .bad
theorem g_name {x : Str} {i : Nat} {p : Pos} (C : Cok w si X) (hi : ix x si.N = some i) (hs : sto si x = true) : PG X (.Name x p) (tG w (putD i)) := by
  obtain ⟨hl, hf⟩ := sto_ok C hs
  refine PG.imp (pg_name C.nd (by rw [C.N]; exact ix_get hi) hl hf) fun v σ H Q h => ?_
  obtain ⟨Fo, β, G, st, d, R, r, h⟩ := h
  unfold putD at h
  by_cases hlt : i < st.env.length
  · rw [if_pos hlt] at h
    exact h _ β G H FrS.refl (R.setVal hlt r)
  · rw [if_neg hlt] at h; exact h.elim
end
end PD

set_option autoImplicit false
namespace PD
open PySem PySem.Spec PyProof.Rows L2

/-! ### where one stands -/
/-- the whole text: its names at the module -/
structure Prg where
  P : Program
  wd : World
  mg : Str → Option Value
  base : Heap
structure Cok2 (w : Wo) (g : Prg) (W : WX) (k : Nat) (si : SI) (X : Cx) : Prop extends Cok w si X where
  P : X.prog = g.P
  wd : X.w = g.wd
  mg : X.mg = g.mg
  base : X.base = g.base
  tk : L2N.Takes X W
  po : PassesOwn (model X.prog X.w) X.A X.env X.xe
  room3 : Room (k + 3) X.A
theorem Cok2.room {w : Wo} {g : Prg} {W : WX} {k : Nat} {si : SI} {X : Cx} (C : Cok2 w g W k si X) : Room (k + 1) X.A := C.room3.mono (by omega)
/-- no exception may leave -/
def WF : WX := fun _ _ _ _ => False
theorem takes_false {X : Cx} : L2N.Takes X WF := fun u s' h => by
  obtain ⟨_, _, _, _, _, _, _, _, _, _, _, _, _, _, _, _, f⟩ := h
  exact f.elim
def SI.blk (si : SI) (scope : Scope) : SI := ⟨si.N, relS scope si.sc, fun x => scope.names.lookup x == some .cell⟩
theorem Cok2.blk {w : Wo} {g : Prg} {W : WX} {k : Nat} {si : SI} {X : Cx} (C : Cok2 w g W k si X) (s : Shared) (H : Hp) (scope : Scope) (cl : List (Str × Addr)) (A : Addr) (fp : List Addr) : Cok2 w g WF k (si.blk scope) (X.blk s H scope (compEnvC scope cl A X.env) fp) where
  K := C.K
  N := C.N
  nd := C.nd
  sc := by
    show relS scope X.env.scope = _
    rw [C.sc]; rfl
  fn := rfl
  calm := C.calm
  P := C.P
  wd := C.wd
  mg := C.mg
  base := C.base
  tk := takes_false
  po := PassesOwn.never
  room3 := C.room3
theorem Cok2.hu {w : Wo} {g : Prg} {W : WX} {k : Nat} {si : SI} {X : Cx} (C : Cok2 w g W k si X) : X.A.units + 64 < cLine := C.room.units
theorem Cok2.gl {w : Wo} {g : Prg} {W : WX} {k : Nat} {si : SI} {X : Cx} (C : Cok2 w g W k si X) {x : Str} (h : isGl si.sc x = true) : Gl X x := by
  have h : si.sc.names.lookup x = some .globalImplicit := of_decide_eq_true h
  rw [← C.sc] at h
  exact h

/-! ### subscripts -/
def atD (xs : List D) (i : Int) : Option D := atI xs i
theorem Reps.atI {w : Wo} {β : List Addr} {G : Hp} {ds : List D} {vs : List V} (h : Reps w β G ds vs) {i : Int} {d : D} (e : L2.atI ds i = some d) : ∃ v, L2.atI vs i = some v ∧ Rep w β G d v := by
  unfold L2.atI at e ⊢
  rw [h.len]
  cases e2 : ixN ds.length i with
  | none => rw [e2] at e; cases e
  | some j =>
    rw [e2] at e
    exact h.get e
/-- a value of the heap that no one changes, or of the def's own -/
def ixM : DV → DV → M DV := fun x y st => match y.1 with
  | .int i => (match deref st x.1 with
    | .lst ds => (match L2.atI ds i with
      | some d => .ok (d, false) st
      | none => .bad)
    | .tup ds => (match L2.atI ds i with
      | some d => .ok (d, false) st
      | none => .bad)
    | .ftu ds => (match L2.atI ds i with
      | some d => .ok (d, false) st
      | none => .bad)
    | .fro ds => (match L2.atI ds i with
      | some d => .ok (d, false) st
      | none => .bad)
    | .str z => if z.length ≤ sizeLine then (match L2.atI z.cps.toList i with
      | some c => .ok (.str ⟨#[c]⟩, false) st
      | none => .bad) else .bad
    | _ => .bad)
  | _ => .bad
section
variable {w : Wo} {g : Prg} {si : SI} {k : Nat} {X : Cx} {W : WX} {a b e : Expr} {es : List Expr} {ma mb m : M DV} {pos : Pos} {Fo : Addr → Prop} {σ : L2.St} {st st1 : St} {β β1 : List Addr} {G H G1 H1 : Hp}
theorem ixM_ok : OpS w (rIx w.K) ixM := by
  intro W Fo σ st β G H Q d1 f1 v1 d2 f2 v2 R V1 V2 h
  unfold ixM at h
  simp only at h
  have h1 := V1.held R
  split at h
  · rename_i i
    have e2 := (V2.held R).int
    subst e2
    split at h
    · rename_i ds e
      rw [e] at h1
      obtain ⟨z, p, vs, rfl, q, r⟩ := h1.lst R.sub
      split at h
      · rename_i d e2
        obtain ⟨v, e3, e4⟩ := r.atI e2
        exact .inl ⟨p, vs, i, v, rfl, rfl, SqL.of q, e3, h v β G H Fr.refl R (RepV.val e4)⟩
      · exact h.elim
    · rename_i ds e
      rw [e] at h1
      obtain ⟨z, p, vs, rfl, q, r⟩ := h1.tup R.sub
      split at h
      · rename_i d e2
        obtain ⟨v, e3, e4⟩ := r.atI e2
        exact .inr (.inl ⟨p, vs, i, v, rfl, rfl, SqT.of q, e3, h v β G H Fr.refl R (RepV.val e4)⟩)
      · exact h.elim
    · rename_i ds e
      rw [e] at h1
      obtain ⟨z, p, vs, rfl, q, r⟩ := h1.ftu R.sub
      split at h
      · rename_i d e2
        obtain ⟨v, e3, e4⟩ := r.atI e2
        exact .inr (.inl ⟨p, vs, i, v, rfl, rfl, q, e3, h v β G H Fr.refl R (RepV.val e4)⟩)
      · exact h.elim
    · rename_i ds e
      rw [e] at h1
      obtain ⟨z, p, vs, rfl, q, r⟩ := h1.fro R.sub
      split at h
      · rename_i d e2
        obtain ⟨v, e3, e4⟩ := r.atI e2
        exact .inl ⟨p, vs, i, v, rfl, rfl, q, e3, h v β G H Fr.refl R (RepV.val e4)⟩
      · exact h.elim
    · rename_i z e
      rw [e] at h1
      obtain ⟨rfl, hz⟩ := h1.str
      rw [if_pos hz] at h
      split at h
      · rename_i c e2
        exact .inr (.inr ⟨z, i, c, rfl, rfl, hz, e2, h _ β G H Fr.refl R (RepV.val (rep_str (one_len c)))⟩)
      · exact h.elim
    · exact h.elim
  · exact h.elim
/-! ### dicts, read -/
/-- the place of a key among the pairs -/
def findD (kvs : List (D × D)) (k : D) : Option D := (kvs.find? fun kv => beqD kv.1 k).map (·.2)
/-- a key -/
def isKey (d : D) : Bool := (dKey d).isSome || (dTup d).isSome
theorem dKey_inj {a b : D} {k : Key} (h1 : dKey a = some k) (h2 : dKey b = some k) : a = b := by
  unfold dKey at h1 h2
  split at h1 <;> split at h2 <;> simp_all <;> (subst h1; simp_all)
theorem beqD_refl_key {a : D} {k : Key} (h : dKey a = some k) : beqD a a = true := by
  unfold dKey at h
  split at h <;> simp_all [beqD]
theorem dKeys_inj : ∀ {a b : List D} {k : List Key}, dKeys a = some k → dKeys b = some k → a = b
  | [], b, k, h1, h2 => by
    simp only [dKeys, Option.some.injEq] at h1
    subst h1
    cases b with
    | nil => rfl
    | cons b bs =>
      simp only [dKeys] at h2
      split at h2 <;> simp_all
  | a :: as, b, k, h1, h2 => by
    simp only [dKeys] at h1
    split at h1
    · rename_i q qs e1 e2
      cases h1
      cases b with
      | nil => simp [dKeys] at h2
      | cons b bs =>
        simp only [dKeys] at h2
        split at h2
        · rename_i q' qs' e3 e4
          simp only [Option.some.injEq, List.cons.injEq] at h2
          obtain ⟨rfl, rfl⟩ := h2
          rw [dKey_inj e1 e3, dKeys_inj e2 e4]
        · cases h2
    · cases h1
theorem beqDs_refl_keys : ∀ {a : List D} {k : List Key}, dKeys a = some k → beqDs a a = true
  | [], k, h => by simp [beqDs]
  | a :: as, k, h => by
    simp only [dKeys] at h
    split at h
    · rename_i q qs e1 e2
      simp only [beqDs, Bool.and_eq_true]
      exact ⟨beqD_refl_key e1, beqDs_refl_keys e2⟩
    · cases h
theorem dTup_inj {a b : D} {k : List Key} (h1 : dTup a = some k) (h2 : dTup b = some k) : a = b := by
  cases a with
  | tup x =>
    cases b with
    | tup y => rw [dKeys_inj (a := x) (b := y) h1 h2]
    | _ => cases h2
  | _ => cases h1
theorem beqD_refl_tup {a : D} {k : List Key} (h : dTup a = some k) : beqD a a = true := by
  cases a with
  | tup x =>
    have h : dKeys x = some k := h
    simp only [beqD]
    exact beqDs_refl_keys h
  | _ => cases h
/-- the value at a key, in both readings -/
theorem findK {kvs : List (D × D)} {ks : List (Key × V)} (h : RepsK w β G kvs ks) {k : D} {q : Key} (hk : dKey k = some q) : (findD kvs k = none ∧ valV ks q = none) ∨ ∃ d v, findD kvs k = some d ∧ valV ks q = some v ∧ Rep w β G d v := by
  induction kvs generalizing ks with
  | nil => unfold RepsK at h; subst h; exact .inl ⟨rfl, rfl⟩
  | cons kv r ih =>
    obtain ⟨k', d⟩ := kv
    unfold RepsK at h
    obtain ⟨q', v, r', rfl, hq, hd, ht⟩ := h
    by_cases e : q' = q
    · subst e
      have : k' = k := dKey_inj hq hk
      subst this
      exact .inr ⟨d, v, by simp [findD, List.find?_cons, beqD_refl_key hk], valV_pos rfl, hd⟩
    · have ne : beqD k' k = false := by
        cases eb : beqD k' k with
        | false => rfl
        | true =>
          have := beqD_eq _ _ eb
          subst this
          rw [hq] at hk
          cases hk
          exact absurd rfl e
      have e1 : findD ((k', d) :: r) k = findD r k := by simp [findD, List.find?_cons, ne]
      have e2 : valV ((q', v) :: r') q = valV r' q := valV_neg (p := (q', v)) e
      rw [e1, e2]
      exact ih ht
theorem findT {kvs : List (D × D)} {ks : List (List Key × V)} (h : RepsT w β G kvs ks) {k : D} {q : List Key} (hk : dTup k = some q) : (findD kvs k = none ∧ valV ks q = none) ∨ ∃ d v, findD kvs k = some d ∧ valV ks q = some v ∧ Rep w β G d v := by
  induction kvs generalizing ks with
  | nil => unfold RepsT at h; subst h; exact .inl ⟨rfl, rfl⟩
  | cons kv r ih =>
    obtain ⟨k', d⟩ := kv
    unfold RepsT at h
    obtain ⟨q', v, r', rfl, hq, hd, ht⟩ := h
    by_cases e : q' = q
    · subst e
      have : k' = k := dTup_inj hq hk
      subst this
      exact .inr ⟨d, v, by simp [findD, List.find?_cons, beqD_refl_tup hk], valV_pos rfl, hd⟩
    · have ne : beqD k' k = false := by
        cases eb : beqD k' k with
        | false => rfl
        | true =>
          have := beqD_eq _ _ eb
          subst this
          rw [hq] at hk
          cases hk
          exact absurd rfl e
      have e1 : findD ((k', d) :: r) k = findD r k := by simp [findD, List.find?_cons, ne]
      have e2 : valV ((q', v) :: r') q = valV r' q := valV_neg (p := (q', v)) e
      rw [e1, e2]
      exact ih ht
end
end PD

set_option autoImplicit false
namespace PD
open PySem PySem.Spec PyProof.Rows L2

section
variable {w : Wo} {g : Prg} {si : SI} {k : Nat} {X : Cx} {W : WX} {a b e : Expr} {es : List Expr} {ma mb m : M DV} {pos : Pos} {Fo : Addr → Prop} {σ : L2.St} {st st1 : St} {β β1 : List Addr} {G H G1 H1 : Hp}
/-! ### dicts, read -/
theorem rep_key {d : D} {v : V} {q : Key} (h : Rep w β G d v) (hk : dKey d = some q) : v = kV q := by
  cases d with
  | int i => unfold Rep at h; cases hk; exact h
  | str x => unfold Rep at h; cases hk; exact h.1
  | _ => cases hk
theorem reps_keys : ∀ {ds : List D} {vs : List V} {qs : List Key}, Reps w β G ds vs → dKeys ds = some qs → vs = qs.map kV
  | [], vs, qs, h, hk => by
    unfold Reps at h
    simp only [dKeys, Option.some.injEq] at hk
    subst hk; rw [h]; rfl
  | d :: ds, vs, qs, h, hk => by
    unfold Reps at h
    obtain ⟨v, r, rfl, h1, h2⟩ := h
    simp only [dKeys] at hk
    split at hk
    · rename_i q qs' e1 e2
      cases hk
      rw [List.map_cons, rep_key h1 e1, reps_keys h2 e2]
    · cases hk
theorem rep_tupKey {d : D} {v : V} {q : List Key} (h : Rep w β G d v) (hk : dTup d = some q) : ∃ p, v = .ref p ∧ G p = some (.tup (q.map kV)) := by
  cases d with
  | tup ds =>
    unfold Rep at h
    obtain ⟨_, p, vs, e, s, r⟩ := h
    rw [reps_keys r hk] at s
    exact ⟨p, e, s⟩
  | _ => cases hk
theorem dKey_loc {d : D} {q : Key} (hk : dKey d = some q) : isCont d = false := by
  cases d <;> first | rfl | cases hk
theorem dTup_loc {d : D} {q : List Key} (hk : dTup d = some q) : isCont d = false := by
  cases d <;> first | rfl | cases hk
theorem repV_rep {f : Bool} {d : D} {v : V} (V1 : RepV w Fo σ st β G H f d v) (hc : isCont d = false) (hl : ∀ i, d ≠ .loc i) : Rep w β G d v := by
  rcases repV_cases V1 with ⟨i, _, _, e, _⟩ | h
  · exact absurd e (hl i)
  · unfold RepV0 at h
    cases f with
    | false => exact h
    | true =>
      simp only [if_true] at h
      obtain ⟨a, _, _, _, _, _, o⟩ := h
      have := o.cont
      rw [hc] at this; cases this
theorem key_rep {f : Bool} {d : D} {v : V} {q : Key} (V1 : RepV w Fo σ st β G H f d v) (hk : dKey d = some q) : Rep w β G d v := repV_rep V1 (dKey_loc hk) fun i e => by subst e; cases hk
theorem tup_rep {f : Bool} {d : D} {v : V} {q : List Key} (V1 : RepV w Fo σ st β G H f d v) (hk : dTup d = some q) : Rep w β G d v := repV_rep V1 (dTup_loc hk) fun i e => by subst e; cases hk
/-- what a dict holds at a key; none: not asked rightly -/
def dGet (x y : D) : Option (Option D) := match x with
  | .dct kvs => if (dKey y).isSome = true then some (findD kvs y) else none
  | .dtt kvs => if (dTup y).isSome = true then some (findD kvs y) else none
  | _ => none
theorem dget_ok (R : RS w Fo β G H σ st) {x y : D} {f1 f2 : Bool} {v1 v2 : V} (V1 : RepV w Fo σ st β G H f1 x v1) (V2 : RepV w Fo σ st β G H f2 y v2) {o : Option D} (h : dGet (deref st x) y = some o) :
    ∃ a ov, v1 = .ref a ∧ DGet H a v2 ov ∧ ((o = none ∧ ov = none) ∨ ∃ d v, o = some d ∧ ov = some v ∧ Rep w β G d v) := by
  have h1 := V1.held R
  unfold dGet at h
  split at h
  · rename_i kvs e
    rw [e] at h1
    obtain ⟨z, a, ks, rfl, q, r⟩ := h1.dct R.sub
    cases e2 : dKey y with
    | none => rw [e2] at h; simp at h
    | some kk =>
      rw [e2] at h
      simp only [Option.isSome_some, if_true, Option.some.injEq] at h
      subst h
      have hv := rep_key (key_rep V2 e2) e2
      subst hv
      refine ⟨a, valV ks kk, rfl, .inl ⟨ks, kk, q, rfl, rfl⟩, ?_⟩
      rcases findK r e2 with h | ⟨d, v, h1, h2, h3⟩
      · exact .inl h
      · exact .inr ⟨d, v, h1, h2, h3⟩
  · rename_i kvs e
    rw [e] at h1
    obtain ⟨z, a, ks, rfl, q, r⟩ := h1.dtt R.sub
    cases e2 : dTup y with
    | none => rw [e2] at h; simp at h
    | some kk =>
      rw [e2] at h
      simp only [Option.isSome_some, if_true, Option.some.injEq] at h
      subst h
      obtain ⟨p, rfl, hp⟩ := rep_tupKey (tup_rep V2 e2) e2
      refine ⟨a, valV ks kk, rfl, .inr ⟨ks, kk, p, q, rfl, R.sub _ _ hp, rfl⟩, ?_⟩
      rcases findT r e2 with h | ⟨d, v, h1, h2, h3⟩
      · exact .inl h
      · exact .inr ⟨d, v, h1, h2, h3⟩
  · cases h
theorem ix_dict (hu : X.A.units + 1 < cLine) : IxR X (fun x y H Q => ∃ a v, x = .ref a ∧ DGet H a y (some v) ∧ Q v H) := by
  intro value slice pins s σ H x y v u Q I rx ry h hs
  obtain ⟨a, v', rfl, g, q⟩ := h
  cases rx
  exact tail_any (dict_typeIs I g) PySem.F.slot_dict_getitem.lookup (d_getItem hu I g ry fun w' s3 I3 rw' => ⟨v', H, I3, rw', q⟩) hs
def isDict (st : St) (x : D) : Bool := match deref st x with
  | .dct _ => true
  | .dtt _ => true
  | _ => false
def ixDM : DV → DV → M DV := fun x y st => match dGet (deref st x.1) y.1 with
  | some (some d) => .ok (d, false) st
  | _ => .bad
theorem ixD_ok : OpS w (fun x y H Q => ∃ a v, x = .ref a ∧ DGet H a y (some v) ∧ Q v H) ixDM := by
  intro W Fo σ st β G H Q d1 f1 v1 d2 f2 v2 R V1 V2 h
  unfold ixDM at h
  simp only at h
  split at h
  · rename_i d e
    obtain ⟨a, ov, rfl, g, h3⟩ := dget_ok R V1 V2 e
    rcases h3 with ⟨h3, _⟩ | ⟨d', v, h3, h4, h5⟩
    · cases h3
    · cases h3
      subst h4
      exact ⟨a, v, rfl, g, h v β G H Fr.refl R (RepV.val h5)⟩
  · exact h.elim
/-- a[b] -/
def sbM : DV → DV → M DV := fun x y st => if isDict st x.1 = true then ixDM x y st else ixM x y st
def plainIx : Expr → Bool
  | .Slice .. => false
  | _ => true
theorem plainIx_ok {b : Expr} (h : plainIx b = true) : PlainIx b := fun o i => by
  cases b <;> first | rfl | cases h
theorem d_sub (C : Cok2 w g W k si X) (ha : PE X a (tD w W ma)) (hb : PE X b (tD w W mb)) (hp : plainIx b = true) : PE X (.Subscript a b pos) (tD w W (bin2 ma mb sbM)) :=
  PE.imp (pe_ix (IxR.or (ix_dict (by have := C.hu; omega)) (ix_seq (X := X))) ha hb (plainIx_ok hp)) fun σ H Q q => by
    have hs : OpS w _ sbM := OpS.or (ixD_ok (w := w)) (ixM_ok (w := w)) fun st x _ => isDict st x.1
    rw [C.K]
    exact tOp_of hs q

/-! ### in -/
def eqFirst (p : PyData) (ps : List PyData) : Bool := ps.any fun z => PyData.eqv z p
def inLM (neg : Bool) : DV → DV → M DV := fun x y st => match toP (deref st x.1), toP (deref st y.1) with
  | some d, some (.list ds) => if SeqAt.shaped d = true ∧ SeqAt.shaped (.list ds) = true then .ok (.bl (if neg = true then !eqFirst d ds else eqFirst d ds), false) st else .bad
  | _, _ => .bad
theorem inL_ok : OpS w (rInD w.K) (inLM false) := by
  intro W Fo σ st β G H Q d1 f1 v1 d2 f2 v2 R V1 V2 h
  unfold inLM at h
  simp only at h
  split at h
  · rename_i d ds e1 e2
    by_cases c : SeqAt.shaped d = true ∧ SeqAt.shaped (.list ds) = true
    · rw [if_pos c] at h
      exact ⟨d, ds, (V1.held R).dp R.sub e1, (V2.held R).dp R.sub e2, c.1, c.2, h _ β G H Fr.refl R (RepV.val rep_bl)⟩
    · rw [if_neg c] at h; exact h.elim
  · exact h.elim
theorem notInL_ok : OpS w (rNotInD w.K) (inLM true) := by
  intro W Fo σ st β G H Q d1 f1 v1 d2 f2 v2 R V1 V2 h
  unfold inLM at h
  simp only at h
  split at h
  · rename_i d ds e1 e2
    by_cases c : SeqAt.shaped d = true ∧ SeqAt.shaped (.list ds) = true
    · rw [if_pos c] at h
      exact ⟨d, ds, (V1.held R).dp R.sub e1, (V2.held R).dp R.sub e2, c.1, c.2, h _ β G H Fr.refl R (RepV.val rep_bl)⟩
    · rw [if_neg c] at h; exact h.elim
  · exact h.elim
def strIn (i j : Str) : Bool := !(Builtin.Str.occurrences j i 0 j.length 1).isEmpty
def inSM (neg : Bool) : DV → DV → M DV := strM fun i j => M.ret (.bl (if neg = true then !strIn i j else strIn i j), false)
theorem inS_ok : OpS w (fun x y H Q => ∃ i j, x = .str i ∧ y = .str j ∧ Q (.bl (!(Builtin.Str.occurrences j i 0 j.length 1).isEmpty)) H) (inSM false) := by
  intro W Fo σ st β G H Q d1 f1 v1 d2 f2 v2 R V1 V2 h
  unfold inSM strM at h
  simp only at h
  split at h
  · exact ⟨_, _, ((V1.held R).str).1, ((V2.held R).str).1, Out.ret R h (RepV.val rep_bl)⟩
  · exact h.elim
theorem notInS_ok : OpS w (fun x y H Q => ∃ i j, x = .str i ∧ y = .str j ∧ Q (.bl (!(!(Builtin.Str.occurrences j i 0 j.length 1).isEmpty))) H) (inSM true) := by
  intro W Fo σ st β G H Q d1 f1 v1 d2 f2 v2 R V1 V2 h
  unfold inSM strM at h
  simp only at h
  split at h
  · exact ⟨_, _, ((V1.held R).str).1, ((V2.held R).str).1, Out.ret R h (RepV.val rep_bl)⟩
  · exact h.elim
def inDM (neg : Bool) : DV → DV → M DV := fun x y st => match dGet (deref st y.1) x.1 with
  | some o => .ok (.bl (if neg = true then !o.isSome else o.isSome), false) st
  | none => .bad
theorem isSome_same {o : Option D} {ov : Option V} (h : (o = none ∧ ov = none) ∨ ∃ d v, o = some d ∧ ov = some v ∧ Rep w β G d v) : ov.isSome = o.isSome := by
  rcases h with ⟨rfl, rfl⟩ | ⟨d, v, rfl, rfl, _⟩ <;> rfl
theorem op_din (hu : X.A.units + 1 < cLine) : OpR X (compareOp .In) (fun y x H Q => ∃ a o, x = .ref a ∧ DGet H a y o ∧ Q (.bl o.isSome) H) := by
  intro pins s σ H y x v u Q I ry rx h
  obtain ⟨a, ov, rfl, g, q2⟩ := h
  cases rx
  exact d_in hu I g ry fun s3 I3 => ⟨.bl ov.isSome, H, I3, rfl, q2⟩
theorem op_dnotin (hu : X.A.units + 1 < cLine) : OpR X (compareOp .NotIn) (fun y x H Q => ∃ a o, x = .ref a ∧ DGet H a y o ∧ Q (.bl (!o.isSome)) H) := by
  intro pins s σ H y x v u Q I ry rx h
  obtain ⟨a, ov, rfl, g, q2⟩ := h
  cases rx
  exact d_notIn hu I g ry fun s3 I3 => ⟨.bl (!ov.isSome), H, I3, rfl, q2⟩
theorem inD_ok : OpS w (fun y x H Q => ∃ a o, x = .ref a ∧ DGet H a y o ∧ Q (.bl o.isSome) H) (inDM false) := by
  intro W Fo σ st β G H Q d1 f1 v1 d2 f2 v2 R V1 V2 h
  unfold inDM at h
  simp only at h
  split at h
  · rename_i o e
    obtain ⟨a, ov, rfl, g, h3⟩ := dget_ok R V2 V1 e
    refine ⟨a, ov, rfl, g, ?_⟩
    rw [isSome_same h3]
    exact h _ β G H Fr.refl R (RepV.val rep_bl)
  · exact h.elim
theorem notInD_ok : OpS w (fun y x H Q => ∃ a o, x = .ref a ∧ DGet H a y o ∧ Q (.bl (!o.isSome)) H) (inDM true) := by
  intro W Fo σ st β G H Q d1 f1 v1 d2 f2 v2 R V1 V2 h
  unfold inDM at h
  simp only at h
  split at h
  · rename_i o e
    obtain ⟨a, ov, rfl, g, h3⟩ := dget_ok R V2 V1 e
    refine ⟨a, ov, rfl, g, ?_⟩
    rw [isSome_same h3]
    exact h _ β G H Fr.refl R (RepV.val rep_bl)
  · exact h.elim
/-- a tuple's items -/
def inFM (neg : Bool) : DV → DV → M DV := fun x y st => match toP (deref st x.1), toP (deref st y.1) with
  | some d, some (.tuple ds) => .bad
  | _, _ => .bad
def inM (neg : Bool) : DV → DV → M DV := fun x y st => if isDict st y.1 = true then inDM neg x y st else if isStr y.1 = true then inSM neg x y st else inLM neg x y st
theorem in_ok (hu : X.A.units + 65 < cLine) (hK : X.K = w.K) : ∃ r, OpR X (compareOp .In) r ∧ OpS w r (inM false) :=
  ⟨_, (op_din (by omega)).or (op_in_str.or (op_inD hu)), OpS.or inD_ok (OpS.or inS_ok (by rw [hK]; exact inL_ok) fun _ _ y => isStr y.1) fun st _ y => isDict st y.1⟩
theorem notIn_ok (hu : X.A.units + 65 < cLine) (hK : X.K = w.K) : ∃ r, OpR X (compareOp .NotIn) r ∧ OpS w r (inM true) :=
  ⟨_, (op_dnotin (by omega)).or (op_notIn_str.or (op_notInD hu)), OpS.or notInD_ok (OpS.or notInS_ok (by rw [hK]; exact notInL_ok) fun _ _ y => isStr y.1) fun st _ y => isDict st y.1⟩

/-! ### slices -/
def cutD {α : Type} (xs : List α) (lo hi : Option Int) : List α := (xs.drop (HT.sIx xs.length 0 lo)).take (HT.sIx xs.length xs.length hi - HT.sIx xs.length 0 lo)
theorem Reps.cut {ds : List D} {vs : List V} (h : Reps w β G ds vs) (lo hi : Option Int) : Reps w β G (cutD ds lo hi) (cutV vs lo hi) := by
  unfold cutD cutV
  rw [h.len]
  exact (h.drop _).take _
def sliceM (x : DV) (lo hi : Option Int) : M DV := fun st => match deref st x.1 with
  | .lst ds => newL (cutD ds lo hi) st
  | .fro ds => newL (cutD ds lo hi) st
  | .tup ds => if HT.sIx ds.length 0 lo = 0 ∧ HT.sIx ds.length ds.length hi = ds.length then .bad else newT (cutD ds lo hi) st
  | .ftu ds => if HT.sIx ds.length 0 lo = 0 ∧ HT.sIx ds.length ds.length hi = ds.length then .bad else newT (cutD ds lo hi) st
  | .str z => if (cutS z lo hi).length ≤ sizeLine then .ok (.str (cutS z lo hi), false) st else .bad
  | _ => .bad
def SlS (w : Wo) (r : V → Option Int → Option Int → Hp → VK → Prop) (k : DV → Option Int → Option Int → M DV) : Prop := ∀ (W : WX) (Fo : Addr → Prop) (σ : L2.St) (st : St) (β : List Addr) (G H : Hp) (Q : VK) (d : D) (f : Bool) (v : V) (lo hi : Option Int),
  RS w Fo β G H σ st → RepV w Fo σ st β G H f d v → Out w W Fo σ st β G H Q (k (d, f) lo hi st) → r v lo hi H Q
theorem slice_ok : SlS w (fun x lo hi H Q => rSlL w.K x lo hi H Q ∨ rSlT w.K x lo hi H Q ∨ rSlS x lo hi H Q) sliceM := by
  intro W Fo σ st β G H Q d f v lo hi R V1 h
  unfold sliceM at h
  have h1 := V1.held R
  simp only at h
  split at h
  · rename_i ds e
    rw [e] at h1
    obtain ⟨z, a, vs, rfl, q, r⟩ := h1.lst R.sub
    exact .inl ⟨a, vs, rfl, SqL.of q, (newL_ok R (r.cut lo hi) h).2⟩
  · rename_i ds e
    rw [e] at h1
    obtain ⟨z, a, vs, rfl, q, r⟩ := h1.fro R.sub
    exact .inl ⟨a, vs, rfl, q, (newL_ok R (r.cut lo hi) h).2⟩
  · rename_i ds e
    rw [e] at h1
    obtain ⟨z, a, vs, rfl, q, r⟩ := h1.tup R.sub
    by_cases c : HT.sIx ds.length 0 lo = 0 ∧ HT.sIx ds.length ds.length hi = ds.length
    · rw [if_pos c] at h; exact h.elim
    · rw [if_neg c] at h
      exact .inr (.inl ⟨a, vs, rfl, SqT.of q, by rw [r.len]; exact c, (newT_ok R (r.cut lo hi) h).2⟩)
  · rename_i ds e
    rw [e] at h1
    obtain ⟨z, a, vs, rfl, q, r⟩ := h1.ftu R.sub
    by_cases c : HT.sIx ds.length 0 lo = 0 ∧ HT.sIx ds.length ds.length hi = ds.length
    · rw [if_pos c] at h; exact h.elim
    · rw [if_neg c] at h
      exact .inr (.inl ⟨a, vs, rfl, q, by rw [r.len]; exact c, (newT_ok R (r.cut lo hi) h).2⟩)
  · rename_i z e
    rw [e] at h1
    obtain ⟨rfl, hz⟩ := h1.str
    by_cases c : (cutS z lo hi).length ≤ sizeLine
    · rw [if_pos c] at h
      exact .inr (.inr ⟨z, rfl, hz, h _ β G H Fr.refl R (RepV.val (rep_str c))⟩)
    · rw [if_neg c] at h; exact h.elim
  · exact h.elim
/-- a part of a slice -/
def partM (mo : Option (M DV)) (k : Option Int → M DV) : M DV := match mo with
  | none => k none
  | some m => m.bind fun y => match y.1 with
    | .int i => k (some i)
    | _ => M.bad
def tOpt (w : Wo) (W : WX) : Option (M DV) → TO
  | none => tNoPart
  | some m => tPart (tD w W m)
theorem part_ok {mo : Option (M DV)} {kk : Option Int → M DV} {Q : VK} {R : Option Int → Hp → Prop} {f1 : Bool} {d1 : D} {v1 : V} (RS0 : RS w Fo β G H σ st) (V1 : RepV w Fo σ st β G H f1 d1 v1) (h : Out w W Fo σ st β G H Q (partM mo kk st))
    (hk : ∀ (o : Option Int) (st' : St) (β' : List Addr) (G' H' : Hp), RS w Fo β' G' H' σ st' → RepV w Fo σ st' β' G' H' f1 d1 v1 → Out w W Fo σ st' β' G' H' Q (kk o st') → R o H') : tOpt w W mo σ H R := by
  cases mo with
  | none => exact hk none st β G H RS0 V1 h
  | some m =>
    refine tD_bind2 RS0 V1 h fun d f v st' β' G' H' R' F' V1' V2 h' => ?_
    simp only at h'
    split at h'
    · rename_i i
      have V2' := V2.weak (Fo := Fo) fun _ z => .inl z
      have e := (V2'.held R').int
      exact ⟨i, e, hk (some i) st' β' G' H' R' V1' h'⟩
    · exact h'.elim
def slM (m : M DV) (lo hi : Option (M DV)) : M DV := m.bind fun x => partM lo fun l => partM hi fun u => sliceM x l u
theorem d_slice {lo hi : Option Expr} {ml mh : Option (M DV)} {p2 : Pos} (hK : X.K = w.K) (h : PE X e (tD w W m)) (hl : PO X lo (tOpt w W ml)) (hh : PO X hi (tOpt w W mh)) : PE X (.Subscript e (.Slice lo hi none p2) pos) (tD w W (slM m ml mh)) :=
  PE.imp (pe_slice (SlR.or (sl_list (X := X)) (SlR.or (sl_tup (X := X)) (sl_str (X := X)))) h hl hh) fun σ H Q q => tD_bind q fun Fo d f v st β G H R V1 q => by
    refine part_ok R V1 q fun l st2 β2 G2 H2 R2 V2 q2 => part_ok R2 V2 q2 fun u st3 β3 G3 H3 R3 V3 q3 => ?_
    rw [hK]
    exact slice_ok W Fo σ st3 β3 G3 H3 Q d f v l u R3 V3 q3
theorem po_no : PO X none (tOpt w W none) := po_none
theorem po_yes (h : PE X e (tD w W m)) : PO X (some e) (tOpt w W (some m)) := po_some h
end
end PD

set_option autoImplicit false
namespace PD
open PySem PySem.Spec PyProof.Rows L2

/-! ### what may be changed: a container of the def's own, a stored object -/
def modOf (st : St) : D → Option D
  | .loc i => (match st.env[i]? with
    | some (some (true, d)) => some d
    | _ => none)
  | .obj n => st.sto[n]?
  | _ => none
def setOf (st : St) (x d' : D) : St := match x with
  | .loc i => ⟨st.env.set i (some (true, d')), st.sto⟩
  | .obj n => ⟨st.env, st.sto.set n d'⟩
  | _ => st
section
variable {w : Wo} {g : Prg} {si : SI} {k : Nat} {X : Cx} {W : WX} {a b e : Expr} {es : List Expr} {ma mb m : M DV} {pos : Pos} {Fo : Addr → Prop} {σ : L2.St} {st st1 : St} {β β1 : List Addr} {G H G1 H1 : Hp}
theorem RS.setHeap (R : RS w Fo β G H σ st) {p : Addr} {o : HO} {i : Nat} {d d' : D} (he : st.env[i]? = some (some (true, d))) (hσ : σ[i]? = some (some (.ref p))) (hn : Own w β G (upd H p o) p d') :
    Fr Fo st β G H ⟨st.env.set i (some (true, d')), st.sto⟩ β G (upd H p o) ∧ RS w Fo β G (upd H p o) σ ⟨st.env.set i (some (true, d')), st.sto⟩ := by
  have hi : i < st.env.length := (List.getElem?_eq_some_iff.mp he).1
  obtain ⟨p', hp, hg, hb, ho⟩ := R.own i d he
  rw [hσ] at hp
  cases hp
  have E : ∀ (j : Nat) (b : Bool) (x : D), (st.env.set i (some (true, d')))[j]? = some (some (b, x)) → (j = i ∧ b = true ∧ x = d') ∨ (j ≠ i ∧ st.env[j]? = some (some (b, x))) := fun j b x e => by
    by_cases hj : i = j
    · subst hj; rw [List.getElem?_set_self hi] at e; cases e; exact .inl ⟨rfl, rfl, rfl⟩
    · rw [List.getElem?_set_ne hj] at e; exact .inr ⟨Ne.symm hj, e⟩
  have fne : ∀ q, Fo q → q ≠ p := fun q hq z => (R.fo q hq).2.2.2 i d he (by rw [z]; exact hσ)
  refine ⟨⟨SubH.refl _, SubB.refl _, fun q hq => upd_ne (fne q hq), fun j b x h c => ?_⟩, ⟨R.len, fun q u e => ?_, fun j x e => ?_, fun j x e => ?_, fun j j' x y q e1 e2 => ?_, fun n x q e1 e2 => ?_, R.nd, fun q hq => ?_, fun q hq => ?_, ?_, tabN_upd R.tb ho.ntb.1 ho.ntb.2, R.tq⟩⟩
  · by_cases hj : i = j
    · subst hj
      exact ⟨true, d', List.getElem?_set_self hi, hn.cont⟩
    · exact ⟨b, x, by rw [List.getElem?_set_ne hj]; exact h, c⟩
  · rw [upd_ne]
    · exact R.sub q u e
    · intro z; subst z; rw [hg] at e; cases e
  · rcases E j false x e with ⟨_, z, _⟩ | ⟨_, e⟩
    · cases z
    · exact R.val j x e
  · rcases E j true x e with ⟨rfl, _, rfl⟩ | ⟨hj, e⟩
    · exact ⟨p, hσ, hg, hb, hn⟩
    · obtain ⟨q, h1, h2, h3, h4⟩ := R.own j x e
      refine ⟨q, h1, h2, h3, h4.mono (SubH.refl _) (SubB.refl _) (upd_ne ?_)⟩
      intro z
      exact hj (R.dis j i x d q e he h1 (by rw [z]; exact hσ))
  · intro h1 h2
    rcases E j true x e1 with ⟨z1, _, _⟩ | ⟨hj, e3⟩
    · rcases E j' true y e2 with ⟨z2, _, _⟩ | ⟨hj', e4⟩
      · rw [z1, z2]
      · rw [z1] at h1 ⊢
        exact R.dis i j' d y q he e4 h1 h2
    · rcases E j' true y e2 with ⟨z2, _, _⟩ | ⟨hj', e4⟩
      · rw [z2] at h2 ⊢
        exact R.dis j i x d q e3 he h1 h2
      · exact R.dis j j' x y q e3 e4 h1 h2
  · obtain ⟨h1, h2⟩ := R.sto n x q e1 e2
    refine ⟨h1, h2.mono (SubH.refl _) (SubB.refl _) (upd_ne ?_)⟩
    intro z
    exact hb (by rw [← z]; exact List.mem_of_getElem? e2)
  · obtain ⟨⟨u, hu⟩, h2, h3, h4⟩ := R.fo q hq
    refine ⟨⟨u, by rw [upd_ne (fne q hq)]; exact hu⟩, h2, h3, fun j x e h => ?_⟩
    rcases E j true x e with ⟨rfl, _, _⟩ | ⟨hj, e⟩
    · rw [hσ] at h; cases h; exact fne p hq rfl
    · exact h4 j x e h
  · rw [upd_ne (fne q hq)]
    exact R.ft q hq
  · show σ.length = (st.env.set i (some (true, d'))).length
    rw [List.length_set]; exact R.ln
theorem RS.setSto (R : RS w Fo β G H σ st) {p : Addr} {o : HO} {n : Nat} {d' : D} (he : β[n]? = some p) (hn : Own w β G (upd H p o) p d') :
    Fr Fo st β G H ⟨st.env, st.sto.set n d'⟩ β G (upd H p o) ∧ RS w Fo β G (upd H p o) σ ⟨st.env, st.sto.set n d'⟩ := by
  have hmem : p ∈ β := List.mem_of_getElem? he
  have hlt : n < st.sto.length := by rw [← R.len]; exact (List.getElem?_eq_some_iff.mp he).1
  have hg : G p = none := (R.sto n st.sto[n] p (by simp [hlt]) he).1
  have fne : ∀ q, Fo q → q ≠ p := fun q hq z => (R.fo q hq).2.2.1 (by rw [z]; exact hmem)
  refine ⟨⟨SubH.refl _, SubB.refl _, fun q hq => upd_ne (fne q hq), fun j b x h c => ⟨b, x, h, c⟩⟩, ⟨by rw [List.length_set]; exact R.len, fun q u e => ?_, R.val, fun j x e => ?_, R.dis, fun m x q e1 e2 => ?_, R.nd, fun q hq => ?_, fun q hq => ?_, R.ln, tabN_upd R.tb (R.sto n st.sto[n] p (by simp [hlt]) he).2.ntb.1 (R.sto n st.sto[n] p (by simp [hlt]) he).2.ntb.2, R.tq⟩⟩
  · rw [upd_ne]
    · exact R.sub q u e
    · intro z; subst z; rw [hg] at e; cases e
  · obtain ⟨q, h1, h2, h3, h4⟩ := R.own j x e
    refine ⟨q, h1, h2, h3, h4.mono (SubH.refl _) (SubB.refl _) (upd_ne ?_)⟩
    intro z
    exact h3 (by rw [z]; exact hmem)
  · by_cases hm : n = m
    · subst hm
      rw [List.getElem?_set_self hlt] at e1
      cases e1
      rw [he] at e2
      cases e2
      exact ⟨hg, hn⟩
    · rw [List.getElem?_set_ne hm] at e1
      obtain ⟨h1, h2⟩ := R.sto m x q e1 e2
      refine ⟨h1, h2.mono (SubH.refl _) (SubB.refl _) (upd_ne ?_)⟩
      intro z
      subst z
      obtain ⟨l1, l2⟩ := List.getElem?_eq_some_iff.mp he
      obtain ⟨l3, l4⟩ := List.getElem?_eq_some_iff.mp e2
      have pw := List.pairwise_iff_getElem.mp R.nd
      rcases Nat.lt_trichotomy n m with z | z | z
      · exact pw n m l1 l3 z (l2.trans l4.symm)
      · exact hm z
      · exact pw m n l3 l1 z (l4.trans l2.symm)
  · obtain ⟨⟨u, hu⟩, h2, h3, h4⟩ := R.fo q hq
    exact ⟨⟨u, by rw [upd_ne (fne q hq)]; exact hu⟩, h2, h3, h4⟩
  · rw [upd_ne (fne q hq)]
    exact R.ft q hq
theorem write_ok (R : RS w Fo β G H σ st) {x d : D} {f : Bool} {v : V} (V1 : RepV w Fo σ st β G H f x v) (h : modOf st x = some d) :
    ∃ p, v = .ref p ∧ Own w β G H p d ∧ G p = none ∧ ∀ (o : HO) (d' : D), Own w β G (upd H p o) p d' → Fr Fo st β G H (setOf st x d') β G (upd H p o) ∧ RS w Fo β G (upd H p o) σ (setOf st x d') := by
  cases x with
  | loc i =>
    unfold modOf at h
    simp only at h
    split at h
    · rename_i d2 e
      cases h
      obtain ⟨rfl, h1, _⟩ := V1
      obtain ⟨p, h2, h3, h4, h5⟩ := R.own i d e
      rw [h1] at h2
      cases h2
      exact ⟨p, rfl, h5, h3, fun o d' hn => R.setHeap e h1 hn⟩
    · cases h
  | obj n =>
    have h : st.sto[n]? = some d := h
    have V2 : RepV0 w Fo σ st β G H f (.obj n) v := V1
    unfold RepV0 at V2
    cases f with
    | true =>
      simp only [if_true] at V2
      obtain ⟨_, _, _, _, _, _, o⟩ := V2
      exact o.elim
    | false =>
      simp only [Bool.false_eq_true, if_false] at V2
      unfold Rep at V2
      obtain ⟨p, h1, rfl⟩ := V2
      obtain ⟨h2, h3⟩ := R.sto n d p h h1
      exact ⟨p, rfl, h3, h2, fun o d' hn => R.setSto h1 hn⟩
  | _ => cases h

/-! ### methods of builtins -/
def noStar : Expr → Bool
  | .Starred .. => false
  | _ => true
def plainArgs (es : List Expr) : Bool := es.all noStar
theorem noStar_ne {e : Expr} (h : noStar e = true) : ∀ a p, e ≠ .Starred a p := fun a p z => by subst z; cases h
theorem plain_each {env : Env} : ∀ {es : List Expr}, plainArgs es = true → ∀ x ∈ starEach es env, x.1 = false
  | [], _, x, hx => by cases hx
  | e :: es, h, x, hx => by
    have h : (noStar e && plainArgs es) = true := h
    rw [Bool.and_eq_true] at h
    rw [starEach_plain (noStar_ne h.1)] at hx
    rcases List.mem_cons.mp hx with rfl | hx
    · rfl
    · exact plain_each h.2 x hx
theorem back_fst {p : Pos} : ∀ {l : List (Bool × Sem Value)}, (backTo p l).map (·.1) = l.map (·.1)
  | [] => rfl
  | x :: l => by
    show _ :: _ = _ :: _
    rw [show List.map (·.1) (List.map (fun (x : Bool × Sem Value) => (x.1, if x.1 = true then do let v ← x.2; standAt p; pure v else x.2)) l) = l.map (·.1) from back_fst]
theorem back_any {p : Pos} {es : List Expr} {env : Env} (h : plainArgs es = true) : (backTo p (starEach es env)).any (·.1) = false := by
  have e : (backTo p (starEach es env)).any (·.1) = ((backTo p (starEach es env)).map (·.1)).any id := by rw [List.any_map]; rfl
  rw [e, back_fst, List.any_map, List.any_eq_false]
  intro x hx
  simp [plain_each h x hx]
theorem back_all {p : Pos} {es : List Expr} {env : Env} (h : plainArgs es = true) : (backTo p (starEach es env)).all (fun x => !x.1) = true := by
  have e : (backTo p (starEach es env)).all (fun x => !x.1) = ((backTo p (starEach es env)).map (·.1)).all (fun x => !x) := by rw [List.all_map]; rfl
  rw [e, back_fst, List.all_map, List.all_eq_true]
  intro x hx
  simp [plain_each h x hx]
/-- the receiver is of the builtin type -/
def isTy (T : String) (st : St) (x : D) : Bool := match deref st x with
  | .str _ => T == "str"
  | .lst _ => T == "list"
  | .fro _ => T == "list"
  | _ => false
theorem isTy_ok {T : String} {x : D} {f : Bool} {v : V} (R : RS w Fo β G H σ st) (V1 : RepV w Fo σ st β G H f x v) (h : isTy T st x = true) : tyV w.K T v H := by
  have h1 := V1.held R
  unfold isTy at h
  split at h
  · rename_i z e
    rw [e] at h1
    obtain ⟨rfl, _⟩ := h1.str
    exact eq_of_beq h
  · rename_i ds e
    rw [e] at h1
    obtain ⟨_, a, vs, rfl, q, _⟩ := h1.lst R.sub
    exact .inl ⟨eq_of_beq h, vs, SqL.of q⟩
  · rename_i ds e
    rw [e] at h1
    obtain ⟨_, a, vs, rfl, q, _⟩ := h1.fro R.sub
    exact .inl ⟨eq_of_beq h, vs, q⟩
  · cases h
/-- a method's work -/
def MtS (w : Wo) (r : V → List V → Hp → VK → Prop) (k : D → List D → M DV) : Prop := ∀ (W : WX) (Fo : Addr → Prop) (σ : L2.St) (st : St) (β : List Addr) (G H : Hp) (Q : VK) (x : D) (f : Bool) (v : V) (ds : List D) (vs : List V),
  RS w Fo β G H σ st → RepV w Fo σ st β G H f x v → Reps w β G ds vs → Out w W Fo σ st β G H Q (k x ds st) → r v vs H Q
def methM (T : String) (m : M DV) (ms : M (List D)) (k : D → List D → M DV) : M DV := m.bind fun x st => if isTy T st x.1 = true then (ms.bind fun ds => (frzL ds).bind fun ds' => k x.1 ds') st else .bad
theorem Fr.temp {F : Addr → Prop} (Fr1 : Fr F st β G H st1 β1 G1 H1) (h : ∀ a, Fo a → F a) : Fr Fo st β G H st1 β1 G1 H1 := Fr1.weak h
/-- the arguments behind a pending receiver -/
theorem meth_args {x : D} {f : Bool} {v : V} {ms : M (List D)} {kk : List D → M DV} {Q : VK} {R : List V → Hp → Prop} (RS0 : RS w Fo β G H σ st) (V1 : RepV w Fo σ st β G H f x v) (h : Out w W Fo σ st β G H Q ((ms.bind fun ds => (frzL ds).bind kk) st))
    (hk : ∀ (ds : List D) (vs : List V) (st' : St) (β' : List Addr) (G' H' : Hp), RS w Fo β' G' H' σ st' → RepV w Fo σ st' β' G' H' f x v → Reps w β' G' ds vs → Out w W Fo σ st' β' G' H' Q (kk ds st') → R vs H') : tA w W ms σ H R := by
  refine ⟨_, β, G, st, RS0.pend V1, ?_⟩
  unfold M.bind at h
  cases e : ms st with
  | ok ds st1 =>
    rw [e] at h
    intro vs β1 G1 H1 F R1 A1
    obtain ⟨ds', st2, G2, e2, F2, R2, q2, l2⟩ := frzL_ok R1 A1
    simp only at h
    rw [e2] at h
    simp only at h
    exact hk ds' vs st2 β1 G2 H1 (R2.weak fun _ z => .inl z) (V1.later (F.trans F2) R2) q2 (h.trans ((F.trans F2).weak fun _ z => .inl z))
  | exc c fs st1 =>
    rw [e] at h
    exact fun β' G' H' dx gs F R e2 r => h β' G' H' dx gs (F.weak fun _ z => .inl z) (R.weak fun _ z => .inl z) e2 r
  | bad => rw [e] at h; exact h.elim
def noSup : Expr → Bool
  | .Call (.Name x _) [] [] _ => x != ("super" : Str)
  | _ => true
theorem noSup_ok {o : Expr} {x : Str} {env : Env} {t : Sem Value} (h : noSup o = true) : attributeBase o x env t = t := by
  unfold attributeBase
  split
  · rename_i id p q
    have h : (id != ("super" : Str)) = true := h
    have e : (id != ("super" : Str) || x == ("__class__" : Str) || env.kindOf "super" != some .globalImplicit || env.kindOf "__class__" != some .free) = true := by rw [h] <;> rfl
    first
      | (rw [if_pos e]; done)
      | (rw [if_pos e]; exact bind_pure t)
      | (simp only [e, if_true]; done)
      | (simp only [e, if_true, bind_pure]; done)
  · rfl
variable {name : Str} {apos cpos : Pos} {T id : String} {r : V → List V → Hp → VK → Prop} {kk : D → List D → M DV} {ms : M (List D)} {o : Expr}
theorem d_meth0 (pa : PlainAttrs T) (slot : PySem.Slot T name id) (hty : typeOf (.builtin id) = pure (.type "method_descriptor")) (hm : MtR X id r) (hs : MtS w r kk) (hK : X.K = w.K) (ho : PE X o (tD w W m)) (hn : noSup o = true) (hl : (apos.endLine == cpos.line) = true) :
    PE X (.Call (.Attribute o name apos) [] [] cpos) (tD w W (methM T m argsNil kk)) :=
  PE.imp (pe_bm0 pa slot hty hm ho (noSup_ok hn) hl) fun σ H Q q => tD_bind q fun Fo d f v st β G H R V1 q => by
    by_cases c : isTy T st d = true
    · simp only [c, if_true] at q
      refine ⟨by rw [hK]; exact isTy_ok R V1 c, hs W Fo σ st β G H Q d f v [] [] R V1 Reps.nil q⟩
    · simp only [c, if_false] at q
      exact q.elim
theorem d_meth (pa : PlainAttrs T) (slot : PySem.Slot T name id) (hty : typeOf (.builtin id) = pure (.type "method_descriptor")) (hm : MtR X id r) (hs : MtS w r kk) (hK : X.K = w.K) (ho : PE X o (tD w W m)) (ha : PA X (e :: es) (tA w W ms)) (hn : noSup o = true) (hl : (apos.endLine == cpos.line) = true)
    (hp : plainArgs (e :: es) = true) (hlen : (e :: es).length < 30) :
    PE X (.Call (.Attribute o name apos) (e :: es) [] cpos) (tD w W (methM T m ms kk)) :=
  PE.imp (pe_bm pa slot hty hm ho ha (noSup_ok hn) (by
      rw [back_all hp]
      simp only [keywordEach, backToKw, List.map_nil, List.all_nil, Bool.and_true, Bool.true_and, decide_eq_true_eq, List.length_nil, List.isEmpty_nil, if_true, Nat.add_zero]
      exact hlen) hl (starEach_plain (noStar_ne (by have := hp; unfold plainArgs at this; rw [List.all_cons, Bool.and_eq_true] at this; exact this.1))) (back_any (by have := hp; unfold plainArgs at this ⊢; rw [List.all_cons, Bool.and_eq_true] at this; exact this.2)))
    fun σ H Q q => tD_bind q fun Fo d f v st β G H R V1 q => by
    by_cases c : isTy T st d = true
    · simp only [c, if_true] at q
      exact ⟨by rw [hK]; exact isTy_ok R V1 c, meth_args R V1 q fun ds vs st' β' G' H' R' V' r' q' => hs W Fo σ st' β' G' H' Q d f v ds vs R' V' r' q'⟩
    · simp only [c, if_false] at q
      exact q.elim
/-! ### methods of dicts -/
def tBMD (r : V → List V → Hp → VK → Prop) (to : TE) (t : TA) : TE := fun σ H Q => to σ H fun x H1 => (∃ a, x = .ref a ∧ IsD H1 a) ∧ t σ H1 fun xs H2 => r x xs H2 Q
theorem pe_bmD {to : TE} {t : TA} (slot : PySem.Slot "dict" name id) (hty : typeOf (.builtin id) = pure (.type "method_descriptor")) (hm : MtR X id r) (ho : PE X o to) (ha : PA X (e :: es) t)
    (hbase : attributeBase o name X.env (eval o X.env) = eval o X.env)
    (hfew : ((backTo cpos (starEach (e :: es) X.env)).all (fun x => !x.1) && (backToKw cpos (keywordEach [] X.env)).all (fun x => x.1.isSome)
      && decide ((e :: es).length + ([] : List Keyword).length + (if ([] : List Keyword).isEmpty then 0 else 1) < 30)) = true)
    (hline : (apos.endLine == cpos.line) = true) (hs : starEach (e :: es) X.env = (false, eval e X.env) :: starEach es X.env) (hplain : (backTo cpos (starEach es X.env)).any (·.1) = false) :
    PE X (.Call (.Attribute o name apos) (e :: es) [] cpos) (tBMD r to t) := by
  refine ⟨fun pins s σ H Q I h => ?_⟩
  refine wpAny_Call_method_late hbase hfew hline rfl (thn (ho.run pins s σ H _ I h) fun v s1 ⟨x, H1, I1, r1, ⟨a, ex, d⟩, q1⟩ => ?_)
  subst ex
  obtain rfl : v = Value.ref a := r1
  obtain ⟨h1, h2, _⟩ := isD_at I1 d
  refine ⟨"dict", id, PySem.F.plainAttrs_dict, slot, hty, h1, h2, ?_⟩
  have hA := ha.run cpos pins s1 σ H1 _ I1 q1
  rw [hs] at hA ⊢
  refine Calls.callWith_builtin (by show (false || (backTo cpos (starEach es X.env)).any (·.1)) = false; rw [hplain] <;> rfl) (Calls.evalArgs_plain ?_)
  exact thn hA fun us s2 ⟨vs, H2, I2, r2, q2⟩ => hm pins s2 σ H2 (.ref a) vs (.ref a) us Q I2 rfl r2 q2
def methD (m : M DV) (ms : M (List D)) (k : D → List D → M DV) : M DV := m.bind fun x st => if isDict st x.1 = true then (ms.bind fun ds => (frzL ds).bind fun ds' => k x.1 ds') st else .bad
theorem isDict_ok {x : D} {f : Bool} {v : V} (R : RS w Fo β G H σ st) (V1 : RepV w Fo σ st β G H f x v) (h : isDict st x = true) : ∃ a, v = .ref a ∧ IsD H a := by
  have h1 := V1.held R
  unfold isDict at h
  split at h
  · rename_i ds e
    rw [e] at h1
    obtain ⟨_, a, vs, rfl, q, _⟩ := h1.dct R.sub
    exact ⟨a, rfl, .inl ⟨vs, q⟩⟩
  · rename_i ds e
    rw [e] at h1
    obtain ⟨_, a, vs, rfl, q, _⟩ := h1.dtt R.sub
    exact ⟨a, rfl, .inr ⟨vs, q⟩⟩
  · cases h
theorem d_methD (slot : PySem.Slot "dict" name id) (hty : typeOf (.builtin id) = pure (.type "method_descriptor")) (hm : MtR X id r) (hs : MtS w r kk) (ho : PE X o (tD w W m)) (ha : PA X (e :: es) (tA w W ms)) (hn : noSup o = true) (hl : (apos.endLine == cpos.line) = true)
    (hp : plainArgs (e :: es) = true) (hlen : (e :: es).length < 30) :
    PE X (.Call (.Attribute o name apos) (e :: es) [] cpos) (tD w W (methD m ms kk)) :=
  PE.imp (pe_bmD slot hty hm ho ha (noSup_ok hn) (by
      rw [back_all hp]
      simp only [keywordEach, backToKw, List.map_nil, List.all_nil, Bool.and_true, Bool.true_and, decide_eq_true_eq, List.length_nil, List.isEmpty_nil, if_true, Nat.add_zero]
      exact hlen) hl (starEach_plain (noStar_ne (by have := hp; unfold plainArgs at this; rw [List.all_cons, Bool.and_eq_true] at this; exact this.1))) (back_any (by have := hp; unfold plainArgs at this ⊢; rw [List.all_cons, Bool.and_eq_true] at this; exact this.2)))
    fun σ H Q q => tD_bind q fun Fo d f v st β G H R V1 q => by
    by_cases c : isDict st d = true
    · simp only [c, if_true] at q
      exact ⟨isDict_ok R V1 c, meth_args R V1 q fun ds vs st' β' G' H' R' V' r' q' => hs W Fo σ st' β' G' H' Q d f v ds vs R' V' r' q'⟩
    · simp only [c, if_false] at q
      exact q.elim
end
end PD

set_option autoImplicit false
namespace PD
open PySem PySem.Spec PyProof.Rows L2

section
variable {w : Wo} {g : Prg} {si : SI} {k : Nat} {X : Cx} {W : WX} {a b e : Expr} {es : List Expr} {ma mb m : M DV} {pos : Pos} {Fo : Addr → Prop} {σ : L2.St} {st st1 : St} {β β1 : List Addr} {G H G1 H1 : Hp}
theorem reps1 {d : D} {vs : List V} (h : Reps w β G [d] vs) : ∃ v, vs = [v] ∧ Rep w β G d v := by
  unfold Reps at h
  obtain ⟨v, r, rfl, h1, h2⟩ := h
  unfold Reps at h2
  subst h2
  exact ⟨v, rfl, h1⟩
theorem reps2 {d e : D} {vs : List V} (h : Reps w β G [d, e] vs) : ∃ v u, vs = [v, u] ∧ Rep w β G d v ∧ Rep w β G e u := by
  unfold Reps at h
  obtain ⟨v, r, rfl, h1, h2⟩ := h
  obtain ⟨u, rfl, h3⟩ := reps1 h2
  exact ⟨v, u, rfl, h1, h3⟩
theorem reps0 {vs : List V} (h : Reps w β G [] vs) : vs = [] := by unfold Reps at h; exact h
/-- a write that gives y -/
theorem put_out {x d d' y : D} {f : Bool} {v : V} {Q : VK} {ho : HO} {u : V} (R : RS w Fo β G H σ st) (V1 : RepV w Fo σ st β G H f x v) (hm : modOf st x = some d) (p : Addr) (hp : v = .ref p) (hn : Own w β G (upd H p ho) p d') (hy : Rep w β G y u)
    (h : Out w W Fo σ st β G H Q (.ok (y, false) (setOf st x d'))) : Q u (upd H p ho) := by
  obtain ⟨p', e1, _, _, hw⟩ := write_ok R V1 hm
  rw [hp] at e1
  cases e1
  obtain ⟨F, R'⟩ := hw ho d' hn
  exact h u β G _ F R' (RepV.val hy)
theorem put_lst {x d y : D} {ds' : List D} {ws : List V} {f : Bool} {v : V} {Q : VK} {u : V} (R : RS w Fo β G H σ st) (V1 : RepV w Fo σ st β G H f x v) (hm : modOf st x = some d) (p : Addr) (hp : v = .ref p) (hy : Rep w β G y u)
    (h : Out w W Fo σ st β G H Q (.ok (y, false) (setOf st x (.lst ds')))) (hz : ds'.length ≤ sizeLine) (r : Reps w β G ds' ws) : Q u (upd H p (.lst ws)) :=
  put_out (d' := .lst ds') R V1 hm p hp ⟨hz, ws, upd_same, r⟩ hy h
def appendM (x : D) (args : List D) : M DV := fun st => match modOf st x, args with
  | some (.lst ds), [d] => if ds.length < sizeLine then .ok (.non, false) (setOf st x (.lst (ds ++ [d]))) else .bad
  | _, _ => .bad
theorem append_ok : MtS w rAppend appendM := by
  intro W Fo σ st β G H Q x f v ds vs R V1 r h
  unfold appendM at h
  split at h
  · rename_i xs d hm
    obtain ⟨u, rfl, ru⟩ := reps1 r
    by_cases c : xs.length < sizeLine
    · rw [if_pos c] at h
      obtain ⟨p, rfl, ⟨z, ws, e, rw'⟩, _, _⟩ := write_ok R V1 hm
      refine ⟨p, ws, u, rfl, rfl, e, by rw [rw'.len]; exact c, put_lst R V1 hm p rfl rep_non h ?_ (rw'.app (Reps.cons ru Reps.nil))⟩
      rw [List.length_append, List.length_singleton]; omega
    · rw [if_neg c] at h; exact h.elim
  · exact h.elim
def popM (x : D) (args : List D) : M DV := fun st => match modOf st x, args with
  | some (.lst ds), [] => (match ds[ds.length - 1]? with
    | some d => .ok (d, false) (setOf st x (.lst ds.dropLast))
    | none => .bad)
  | _, _ => .bad
theorem Reps.dropLast {ds : List D} {vs : List V} (h : Reps w β G ds vs) : Reps w β G ds.dropLast vs.dropLast := by
  rw [List.dropLast_eq_take, List.dropLast_eq_take, h.len]
  exact h.take _
theorem pop_ok : MtS w rPop popM := by
  intro W Fo σ st β G H Q x f v ds vs R V1 r h
  unfold popM at h
  split at h
  · rename_i xs hm
    have := reps0 r
    subst this
    split at h
    · rename_i d e1
      obtain ⟨p, rfl, ⟨z, ws, e, rw'⟩, _, _⟩ := write_ok R V1 hm
      obtain ⟨u, e2, ru⟩ := rw'.get e1
      refine ⟨p, ws, u, rfl, rfl, e, by rw [rw'.len]; exact e2, put_lst R V1 hm p rfl ru h ?_ (rw'.dropLast)⟩
      rw [List.length_dropLast]; omega
    · exact h.elim
  · exact h.elim
theorem Reps.eraseIdx : ∀ {ds : List D} {vs : List V} (n : Nat), Reps w β G ds vs → Reps w β G (ds.eraseIdx n) (vs.eraseIdx n)
  | [], vs, n, h => by
    have := reps0 h
    subst this
    simpa using h
  | d :: ds, vs, 0, h => by
    unfold Reps at h
    obtain ⟨v, r, e, s, t⟩ := h
    rw [e]
    exact t
  | d :: ds, vs, n + 1, h => by
    unfold Reps at h
    obtain ⟨v, r, e, s, t⟩ := h
    rw [e]
    exact Reps.cons s (Reps.eraseIdx n t)
def popAtM (x : D) (args : List D) : M DV := fun st => match modOf st x, args with
  | some (.lst ds), [.int i] => (match ixN ds.length i with
    | some j => (match ds[j]? with
      | some d => .ok (d, false) (setOf st x (.lst (ds.eraseIdx j)))
      | none => .bad)
    | none => .bad)
  | _, _ => .bad
theorem popAt_ok : MtS w rPopAt popAtM := by
  intro W Fo σ st β G H Q x f v ds vs R V1 r h
  unfold popAtM at h
  split at h
  · rename_i xs i hm
    obtain ⟨u, rfl, ru⟩ := reps1 r
    unfold Rep at ru
    subst ru
    split at h
    · rename_i j ej
      split at h
      · rename_i d e1
        obtain ⟨p, rfl, ⟨z, ws, e, rw'⟩, _, _⟩ := write_ok R V1 hm
        obtain ⟨u, e2, ru⟩ := rw'.get e1
        obtain ⟨h1, h2, h3, h4⟩ := ixN_seq ej
        have hn := line63
        refine ⟨p, ws, i, j, u, rfl, rfl, e, by omega, by omega, by rw [rw'.len]; exact h1, e2, put_lst R V1 hm p rfl ru h ?_ (rw'.eraseIdx j)⟩
        have := len_erase xs j
        omega
      · exact h.elim
    · exact h.elim
  · exact h.elim
def insertM (x : D) (args : List D) : M DV := fun st => match modOf st x, args with
  | some (.lst ds), [.int i, d] => if ds.length < sizeLine ∧ 0 ≤ i ∧ i < 2 ^ 63 then .ok (.non, false) (setOf st x (.lst (ds.take i.toNat ++ [d] ++ ds.drop i.toNat))) else .bad
  | _, _ => .bad
theorem insert_ok : MtS w (fun x vs H Q => ∃ (l : Addr) (xs : List V) (i : Int) (y : V), x = .ref l ∧ vs = [.int i, y] ∧ H l = some (.lst xs) ∧ xs.length < sizeLine ∧ 0 ≤ i ∧ i < 2 ^ 63 ∧
    Q .non (upd H l (.lst (xs.take i.toNat ++ [y] ++ xs.drop i.toNat)))) insertM := by
  intro W Fo σ st β G H Q x f v ds vs R V1 r h
  unfold insertM at h
  split at h
  · rename_i xs i d hm
    obtain ⟨u1, u, rfl, ru1, ru⟩ := reps2 r
    unfold Rep at ru1
    subst ru1
    by_cases c : xs.length < sizeLine ∧ 0 ≤ i ∧ i < 2 ^ 63
    · rw [if_pos c] at h
      obtain ⟨p, rfl, ⟨z, ws, e, rw'⟩, _, _⟩ := write_ok R V1 hm
      refine ⟨p, ws, i, u, rfl, rfl, e, by rw [rw'.len]; exact c.1, c.2.1, c.2.2, put_lst R V1 hm p rfl rep_non h ?_ (((rw'.take _).app (Reps.cons ru Reps.nil)).app (rw'.drop _))⟩
      simp only [List.length_append, List.length_take, List.length_drop, List.length_singleton]
      omega
    · rw [if_neg c] at h; exact h.elim
  · exact h.elim

/-! ### texts -/
def strsD (ys : List Str) : List D := ys.map D.str
theorem reps_strs {ys : List Str} (h : ∀ y ∈ ys, y.length ≤ sizeLine) : Reps w β G (strsD ys) (ys.map V.str) := by
  induction ys with
  | nil => exact Reps.nil
  | cons y r ih => exact Reps.cons (rep_str (h y (List.mem_cons_self ..))) (ih fun z hz => h z (List.mem_cons_of_mem _ hz))
theorem strs_of : ∀ {ds : List D} {vs : List V} {ys : List Str}, Reps w β G ds vs → ds = strsD ys → vs = ys.map V.str
  | [], vs, ys, h, e => by
    have := reps0 h
    cases ys with
    | nil => exact this
    | cons y r => cases e
  | d :: ds, vs, ys, h, e => by
    cases ys with
    | nil => cases e
    | cons y r =>
      have e1 : d = .str y := (List.cons.inj e).1
      have e2 : ds = strsD r := (List.cons.inj e).2
      unfold Reps at h
      obtain ⟨v, rr, rfl, h1, h2⟩ := h
      subst e1
      unfold Rep at h1
      rw [List.map_cons, h1.1, strs_of h2 e2]
/-- the texts of a list -/
def txs : List D → Option (List Str)
  | [] => some []
  | .str x :: r => (txs r).map (x :: ·)
  | _ => none
theorem txs_eq : ∀ {ds : List D} {ys : List Str}, txs ds = some ys → ds = strsD ys
  | [], ys, h => by simp only [txs, Option.some.injEq] at h; subst h; rfl
  | d :: ds, ys, h => by
    cases d with
    | str x =>
      simp only [txs] at h
      obtain ⟨zs, e1, e2⟩ := Option.map_eq_some_iff.mp h
      subst e2
      show _ :: _ = _ :: _
      rw [txs_eq e1]; rfl
    | _ => simp [txs] at h
def allLen (ys : List Str) : Bool := ys.all fun y => decide (y.length ≤ sizeLine)
def splitM (x : D) (args : List D) : M DV := fun st => match x, args with
  | .str a, [.str b] => if (b.length == 0) = false ∧ a.length + 2 ≤ sizeLine ∧ (Txt.split a b).length ≤ sizeLine ∧ allLen (Txt.split a b) = true then .ok (.lst (strsD (Txt.split a b)), true) st else .bad
  | _, _ => .bad
theorem split_ok : MtS w (fun x xs H Q => ∃ a b, x = .str a ∧ xs = [.str b] ∧ (b.length == 0) = false ∧ a.length + 2 ≤ sizeLine ∧ rNewStrs (Txt.split a b) H Q) splitM := by
  intro W Fo σ st β G H Q x f v ds vs R V1 r h
  unfold splitM at h
  split at h
  · rename_i a b
    obtain ⟨u, rfl, ru⟩ := reps1 r
    unfold Rep at ru
    obtain ⟨rfl, hb⟩ := ru
    obtain ⟨rfl, ha⟩ := (V1.held R).str
    by_cases c : (b.length == 0) = false ∧ a.length + 2 ≤ sizeLine ∧ (Txt.split a b).length ≤ sizeLine ∧ allLen (Txt.split a b) = true
    · rw [if_pos c] at h
      obtain ⟨c1, c2, c3, c4⟩ := c
      refine ⟨a, b, rfl, rfl, c1, c2, ?_⟩
      have rr : Reps w β G (strsD (Txt.split a b)) ((Txt.split a b).map V.str) := reps_strs fun y hy => of_decide_eq_true (List.all_eq_true.mp c4 y hy)
      exact (newL_ok R rr (by
        unfold newL
        rw [if_pos (by unfold strsD; rw [List.length_map]; exact c3)]
        exact h)).2
    · rw [if_neg c] at h; exact h.elim
  · exact h.elim
def partM3 (x : D) (args : List D) : M DV := fun st => match x, args with
  | .str a, [.str b] => if (b.length == 0) = false ∧ a.length ≤ sizeLine ∧ allLen [(Txt.partition a b).1, (Txt.partition a b).2.1, (Txt.partition a b).2.2] = true then newT [.str (Txt.partition a b).1, .str (Txt.partition a b).2.1, .str (Txt.partition a b).2.2] st else .bad
  | _, _ => .bad
theorem partition_ok : MtS w (fun x xs H Q => ∃ a b, x = .str a ∧ xs = [.str b] ∧ (b.length == 0) = false ∧ a.length ≤ sizeLine ∧
    ∀ p, H p = none → Q (.ref p) (upd H p (.tup [.str (Txt.partition a b).1, .str (Txt.partition a b).2.1, .str (Txt.partition a b).2.2]))) partM3 := by
  intro W Fo σ st β G H Q x f v ds vs R V1 r h
  unfold partM3 at h
  split at h
  · rename_i a b
    obtain ⟨u, rfl, ru⟩ := reps1 r
    unfold Rep at ru
    obtain ⟨rfl, hb⟩ := ru
    obtain ⟨rfl, ha⟩ := (V1.held R).str
    split at h
    · rename_i c
      obtain ⟨c1, c2, c3⟩ := c
      refine ⟨a, b, rfl, rfl, c1, c2, ?_⟩
      have rr : Reps w β G (strsD [(Txt.partition a b).1, (Txt.partition a b).2.1, (Txt.partition a b).2.2]) ([(Txt.partition a b).1, (Txt.partition a b).2.1, (Txt.partition a b).2.2].map V.str) := reps_strs fun y hy => of_decide_eq_true (List.all_eq_true.mp c3 y hy)
      exact (newT_ok R rr h).2
    · exact h.elim
  · exact h.elim
def seqD (st : St) (x : D) : Option (List D) := seqOf st x
def joinM (x : D) (args : List D) : M DV := fun st => match x, args with
  | .str a, [y] => (match (seqOf st y).bind txs with
    | some ys => if (ys.map (·.length)).sum + ys.length * a.length ≤ 16777216 ∧ (Txt.join a ys).length ≤ sizeLine then .ok (.str (Txt.join a ys), false) st else .bad
    | none => .bad)
  | _, _ => .bad
theorem join_ok : MtS w (fun x xs H Q => ∃ a p, ∃ ys : List Str, x = .str a ∧ xs = [.ref p] ∧ (SqL w.K H p (ys.map V.str) ∨ SqT w.K H p (ys.map V.str)) ∧
    (ys.map (·.length)).sum + ys.length * a.length ≤ 16777216 ∧ Q (.str (Txt.join a ys)) H) joinM := by
  intro W Fo σ st β G H Q x f v ds vs R V1 r h
  unfold joinM at h
  split at h
  · rename_i a y
    obtain ⟨u, rfl, ru⟩ := reps1 r
    obtain ⟨rfl, ha⟩ := (V1.held R).str
    split at h
    · rename_i ys e
      obtain ⟨ds2, e1, e2⟩ := Option.bind_eq_some_iff.mp e
      obtain ⟨z, p, vs, rfl, hq, rr⟩ := seqOf_ok R (RepV.val ru) e1
      have := strs_of rr (txs_eq e2)
      subst this
      split at h
      · rename_i c
        exact ⟨a, p, ys, rfl, rfl, hq, c.1, h _ β G H Fr.refl R (RepV.val (rep_str c.2))⟩
      · exact h.elim
    · exact h.elim
  · exact h.elim
def startsM (x : D) (args : List D) : M DV := fun st => match x, args with
  | .str a, [.str b] => .ok (.bl (Txt.startswith a b), false) st
  | _, _ => .bad
theorem starts_ok : MtS w (fun x xs H Q => ∃ a b, x = .str a ∧ xs = [.str b] ∧ Q (.bl (Txt.startswith a b)) H) startsM := by
  intro W Fo σ st β G H Q x f v ds vs R V1 r h
  unfold startsM at h
  split at h
  · rename_i a b
    obtain ⟨u, rfl, ru⟩ := reps1 r
    unfold Rep at ru
    obtain ⟨rfl, hb⟩ := ru
    obtain ⟨rfl, ha⟩ := (V1.held R).str
    exact ⟨a, b, rfl, rfl, h _ β G H Fr.refl R (RepV.val rep_bl)⟩
  · exact h.elim
def upperM (x : D) (args : List D) : M DV := fun st => match x, args with
  | .str a, [] => if a.length ≤ 5592405 ∧ (Txt.upper a).length ≤ sizeLine then .ok (.str (Txt.upper a), false) st else .bad
  | _, _ => .bad
theorem upper_ok : MtS w (fun x xs H Q => ∃ a, x = .str a ∧ xs = [] ∧ a.length ≤ 5592405 ∧ Q (.str (Txt.upper a)) H) upperM := by
  intro W Fo σ st β G H Q x f v ds vs R V1 r h
  unfold upperM at h
  split at h
  · rename_i a
    have := reps0 r
    subst this
    obtain ⟨rfl, ha⟩ := (V1.held R).str
    split at h
    · rename_i c
      exact ⟨a, rfl, rfl, c.1, h _ β G H Fr.refl R (RepV.val (rep_str c.2))⟩
    · exact h.elim
  · exact h.elim

/-! ### d.get(y, z) -/
def getM (x : D) (args : List D) : M DV := fun st => match args with
  | [y, z] => (match dGet (deref st x) y with
    | some (some d) => .ok (d, false) st
    | some none => .ok (z, false) st
    | none => .bad)
  | _ => .bad
theorem mt_dget2 (hu : X.A.units + 1 < cLine) : MtR X "dict.get" (fun x xs H Q => ∃ a y z o, x = .ref a ∧ xs = [y, z] ∧ DGet H a y o ∧ Q (o.getD z) H) := by
  intro pins s σ H x xs v us Q I rx rv h
  obtain ⟨a, y, z, o, rfl, rfl, g, q⟩ := h
  cases rx
  obtain ⟨u1, u2, rfl, r1, r2⟩ := rv.two
  exact d_get2 hu I g r1 r2 fun w' s4 I4 rw' => ⟨_, H, I4, rw', q⟩
theorem get_ok : MtS w (fun x xs H Q => ∃ a y z o, x = .ref a ∧ xs = [y, z] ∧ DGet H a y o ∧ Q (o.getD z) H) getM := by
  intro W Fo σ st β G H Q x f v ds vs R V1 r h
  unfold getM at h
  split at h
  · rename_i y z
    obtain ⟨u1, u2, rfl, r1, r2⟩ := reps2 r
    split at h
    · rename_i d e
      obtain ⟨a, ov, rfl, gg, h3⟩ := dget_ok R V1 (RepV.val r1) e
      rcases h3 with ⟨h3, _⟩ | ⟨d', v, h3, h4, h5⟩
      · cases h3
      · cases h3
        subst h4
        exact ⟨a, u1, u2, _, rfl, rfl, gg, h v β G H Fr.refl R (RepV.val h5)⟩
    · rename_i e
      obtain ⟨a, ov, rfl, gg, h3⟩ := dget_ok R V1 (RepV.val r1) e
      rcases h3 with ⟨_, h4⟩ | ⟨d', v, h3, h4, h5⟩
      · subst h4
        exact ⟨a, u1, u2, _, rfl, rfl, gg, h u2 β G H Fr.refl R (RepV.val r2)⟩
      · cases h3
    · exact h.elim
  · exact h.elim
end
end PD

set_option autoImplicit false
namespace PD
open PySem PySem.Spec PyProof.Rows L2

/-! ### o[i] = v -/
def putKD (kvs : List (D × D)) (k v : D) : List (D × D) :=
  if (kvs.any fun kv => beqD kv.1 k) = true then kvs.map (fun kv => if beqD kv.1 k = true then (kv.1, v) else kv) else kvs ++ [(k, v)]
section
variable {w : Wo} {g : Prg} {si : SI} {k : Nat} {X : Cx} {W : WX} {a b e : Expr} {es : List Expr} {ma mb m : M DV} {pos : Pos} {Fo : Addr → Prop} {σ σ1 : L2.St} {st st1 : St} {β β1 : List Addr} {G H G1 H1 : Hp}
theorem beq_key {a b : D} {p q : Key} (h1 : dKey a = some p) (h2 : dKey b = some q) : beqD a b = decide (p = q) := by
  by_cases e : p = q
  · subst e
    have := dKey_inj h1 h2
    subst this
    rw [beqD_refl_key h1]; simp
  · cases eb : beqD a b with
    | false => simp [e]
    | true =>
      have := beqD_eq _ _ eb
      subst this
      rw [h1] at h2
      cases h2
      exact absurd rfl e
theorem beq_tup {a b : D} {p q : List Key} (h1 : dTup a = some p) (h2 : dTup b = some q) : beqD a b = decide (p = q) := by
  by_cases e : p = q
  · subst e
    have := dTup_inj h1 h2
    subst this
    rw [beqD_refl_tup h1]; simp
  · cases eb : beqD a b with
    | false => simp [e]
    | true =>
      have := beqD_eq _ _ eb
      subst this
      rw [h1] at h2
      cases h2
      exact absurd rfl e
theorem RepsK.any {kvs : List (D × D)} {ks : List (Key × V)} (h : RepsK w β G kvs ks) {y : D} {q : Key} (hk : dKey y = some q) : (kvs.any fun kv => beqD kv.1 y) = ks.any fun kv => decide (kv.1 = q) := by
  induction kvs generalizing ks with
  | nil => unfold RepsK at h; subst h; rfl
  | cons kv r ih =>
    obtain ⟨k', d⟩ := kv
    unfold RepsK at h
    obtain ⟨q', v, r', rfl, hq, hd, ht⟩ := h
    rw [List.any_cons, List.any_cons, ih ht, beq_key hq hk]
theorem RepsT.any {kvs : List (D × D)} {ks : List (List Key × V)} (h : RepsT w β G kvs ks) {y : D} {q : List Key} (hk : dTup y = some q) : (kvs.any fun kv => beqD kv.1 y) = ks.any fun kv => decide (kv.1 = q) := by
  induction kvs generalizing ks with
  | nil => unfold RepsT at h; subst h; rfl
  | cons kv r ih =>
    obtain ⟨k', d⟩ := kv
    unfold RepsT at h
    obtain ⟨q', v, r', rfl, hq, hd, ht⟩ := h
    rw [List.any_cons, List.any_cons, ih ht, beq_tup hq hk]
theorem RepsK.snoc {kvs : List (D × D)} {ks : List (Key × V)} (h : RepsK w β G kvs ks) {y d : D} {q : Key} {v : V} (hk : dKey y = some q) (hd : Rep w β G d v) : RepsK w β G (kvs ++ [(y, d)]) (ks ++ [(q, v)]) := by
  induction kvs generalizing ks with
  | nil =>
    unfold RepsK at h; subst h
    show RepsK w β G [(y, d)] [(q, v)]
    unfold RepsK
    exact ⟨q, v, [], rfl, hk, hd, by unfold RepsK; rfl⟩
  | cons kv r ih =>
    obtain ⟨k', d'⟩ := kv
    unfold RepsK at h
    obtain ⟨q', v', r', rfl, hq, hd', ht⟩ := h
    show RepsK w β G ((k', d') :: (r ++ [(y, d)])) ((q', v') :: (r' ++ [(q, v)]))
    unfold RepsK
    exact ⟨q', v', _, rfl, hq, hd', ih ht⟩
theorem RepsT.snoc {kvs : List (D × D)} {ks : List (List Key × V)} (h : RepsT w β G kvs ks) {y d : D} {q : List Key} {v : V} (hk : dTup y = some q) (hd : Rep w β G d v) : RepsT w β G (kvs ++ [(y, d)]) (ks ++ [(q, v)]) := by
  induction kvs generalizing ks with
  | nil =>
    unfold RepsT at h; subst h
    show RepsT w β G [(y, d)] [(q, v)]
    unfold RepsT
    exact ⟨q, v, [], rfl, hk, hd, by unfold RepsT; rfl⟩
  | cons kv r ih =>
    obtain ⟨k', d'⟩ := kv
    unfold RepsT at h
    obtain ⟨q', v', r', rfl, hq, hd', ht⟩ := h
    show RepsT w β G ((k', d') :: (r ++ [(y, d)])) ((q', v') :: (r' ++ [(q, v)]))
    unfold RepsT
    exact ⟨q', v', _, rfl, hq, hd', ih ht⟩
theorem RepsK.repl {kvs : List (D × D)} {ks : List (Key × V)} (h : RepsK w β G kvs ks) {y d : D} {q : Key} {v : V} (hk : dKey y = some q) (hd : Rep w β G d v) : RepsK w β G (kvs.map fun kv => if beqD kv.1 y = true then (kv.1, d) else kv) (ks.map fun kv => if kv.1 = q then (kv.1, v) else kv) := by
  induction kvs generalizing ks with
  | nil => unfold RepsK at h; subst h; simp [RepsK]
  | cons kv r ih =>
    obtain ⟨k', d'⟩ := kv
    unfold RepsK at h
    obtain ⟨q', v', r', rfl, hq, hd', ht⟩ := h
    rw [List.map_cons, List.map_cons]
    simp only [beq_key hq hk, decide_eq_true_eq]
    by_cases e : q' = q
    · simp only [e, if_true]
      unfold RepsK
      exact ⟨q, v, _, rfl, by rw [← e]; exact hq, hd, ih ht⟩
    · simp only [e, if_false]
      unfold RepsK
      exact ⟨q', v', _, rfl, hq, hd', ih ht⟩
theorem RepsT.repl {kvs : List (D × D)} {ks : List (List Key × V)} (h : RepsT w β G kvs ks) {y d : D} {q : List Key} {v : V} (hk : dTup y = some q) (hd : Rep w β G d v) : RepsT w β G (kvs.map fun kv => if beqD kv.1 y = true then (kv.1, d) else kv) (ks.map fun kv => if kv.1 = q then (kv.1, v) else kv) := by
  induction kvs generalizing ks with
  | nil => unfold RepsT at h; subst h; simp [RepsT]
  | cons kv r ih =>
    obtain ⟨k', d'⟩ := kv
    unfold RepsT at h
    obtain ⟨q', v', r', rfl, hq, hd', ht⟩ := h
    rw [List.map_cons, List.map_cons]
    simp only [beq_tup hq hk, decide_eq_true_eq]
    by_cases e : q' = q
    · simp only [e, if_true]
      unfold RepsT
      exact ⟨q, v, _, rfl, by rw [← e]; exact hq, hd, ih ht⟩
    · simp only [e, if_false]
      unfold RepsT
      exact ⟨q', v', _, rfl, hq, hd', ih ht⟩
theorem RepsK.put {kvs : List (D × D)} {ks : List (Key × V)} (h : RepsK w β G kvs ks) {y d : D} {q : Key} {v : V} (hk : dKey y = some q) (hd : Rep w β G d v) : RepsK w β G (putKD kvs y d) (putK ks q v) := by
  unfold putKD putK
  rw [h.any hk]
  split
  · exact h.repl hk hd
  · exact h.snoc hk hd
theorem RepsT.put {kvs : List (D × D)} {ks : List (List Key × V)} (h : RepsT w β G kvs ks) {y d : D} {q : List Key} {v : V} (hk : dTup y = some q) (hd : Rep w β G d v) : RepsT w β G (putKD kvs y d) (putK ks q v) := by
  unfold putKD putK
  rw [h.any hk]
  split
  · exact h.repl hk hd
  · exact h.snoc hk hd
theorem RepsK.len {kvs : List (D × D)} {ks : List (Key × V)} (h : RepsK w β G kvs ks) : ks.length = kvs.length := by
  induction kvs generalizing ks with
  | nil => unfold RepsK at h; subst h; rfl
  | cons kv r ih =>
    obtain ⟨k', d⟩ := kv
    unfold RepsK at h
    obtain ⟨q', v, r', rfl, hq, hd, ht⟩ := h
    rw [List.length_cons, List.length_cons, ih ht]
theorem RepsT.len {kvs : List (D × D)} {ks : List (List Key × V)} (h : RepsT w β G kvs ks) : ks.length = kvs.length := by
  induction kvs generalizing ks with
  | nil => unfold RepsT at h; subst h; rfl
  | cons kv r ih =>
    obtain ⟨k', d⟩ := kv
    unfold RepsT at h
    obtain ⟨q', v, r', rfl, hq, hd, ht⟩ := h
    rw [List.length_cons, List.length_cons, ih ht]
theorem putKD_len (kvs : List (D × D)) (y d : D) : (putKD kvs y d).length ≤ kvs.length + 1 := by
  unfold putKD
  split <;> simp
def setIM (o i v : D) : M Unit := fun st => match modOf st o with
  | some (.lst ds) => (match i with
    | .int j => (match ixN ds.length j with
      | some n => .ok () (setOf st o (.lst (ds.set n v)))
      | none => .bad)
    | _ => .bad)
  | some (.dct kvs) => if (dKey i).isSome = true ∧ kvs.length < sizeLine then .ok () (setOf st o (.dct (putKD kvs i v))) else .bad
  | some (.dtt kvs) => if (dTup i).isSome = true ∧ kvs.length < sizeLine then .ok () (setOf st o (.dtt (putKD kvs i v))) else .bad
  | _ => .bad
theorem set_dict (hu : X.A.units + 1 < cLine) : PSet X (fun o i v H Q => ∃ p H', o = .ref p ∧ DPut H p i v H' ∧ Q H') := by
  intro pins s σ H o i v ov iv u Q I ro ri rv h
  obtain ⟨p, H', rfl, g, q⟩ := h
  cases ro
  exact d_setItem hu I g ri rv fun s' I' => ⟨H', I', q⟩
theorem PSet.or {t t' : TSet} (h : PSet X t) (h' : PSet X t') : PSet X (fun o i v H Q => t o i v H Q ∨ t' o i v H Q) := by
  intro pins s σ H o i v ov iv u Q I ro ri rv q
  exact q.elim (h pins s σ H o i v ov iv u Q I ro ri rv) (h' pins s σ H o i v ov iv u Q I ro ri rv)
def rSet : TSet := fun o i v H Q => rSetL o i v H Q ∨ ∃ p H', o = .ref p ∧ DPut H p i v H' ∧ Q H'
theorem set_any (hu : X.A.units + 1 < cLine) : PSet X rSet := PSet.or set_list (set_dict hu)
theorem setI_ok {o i v : D} {f1 f2 : Bool} {vo vi vv : V} (R : RS w Fo β G H σ st) (V1 : RepV w Fo σ st β G H f1 o vo) (V2 : RepV w Fo σ st β G H f2 i vi) (r : Rep w β G v vv) {Q : Hp → Prop}
    (h : OutG w Fo β G H (fun σ' H' => σ' = σ → Q H') (setIM o i v st)) : rSet vo vi vv H Q := by
  unfold setIM at h
  split at h
  · rename_i ds hm
    split at h
    · rename_i j
      split at h
      · rename_i n en
        obtain ⟨p, rfl, ⟨z, ws, e, rw'⟩, _, hw⟩ := write_ok R V1 hm
        have ei := (V2.held R).int
        subst ei
        refine .inl ⟨p, ws, j, n, rfl, rfl, e, by rw [rw'.len]; exact en, ?_⟩
        obtain ⟨F, R'⟩ := hw (.lst (ws.set n vv)) (.lst (ds.set n v)) ⟨by rw [List.length_set]; exact z, _, upd_same, rw'.set n r⟩
        exact h σ β G _ F.s R' rfl
      · exact h.elim
    · exact h.elim
  · rename_i kvs hm
    split at h
    · rename_i c
      obtain ⟨p, rfl, ⟨z, ws, e, rw'⟩, _, hw⟩ := write_ok R V1 hm
      obtain ⟨q, hq⟩ := Option.isSome_iff_exists.mp c.1
      have ei := rep_key (key_rep V2 hq) hq
      subst ei
      refine .inr ⟨p, _, rfl, DPut.k e (by rw [rw'.len]; exact c.2), ?_⟩
      obtain ⟨F, R'⟩ := hw (.dK (putK ws q vv)) (.dct (putKD kvs i v)) ⟨by have := putKD_len kvs i v; omega, _, upd_same, rw'.put hq r⟩
      exact h σ β G _ F.s R' rfl
    · exact h.elim
  · rename_i kvs hm
    split at h
    · rename_i c
      obtain ⟨p, rfl, ⟨z, ws, e, rw'⟩, _, hw⟩ := write_ok R V1 hm
      obtain ⟨q, hq⟩ := Option.isSome_iff_exists.mp c.1
      obtain ⟨b, rfl, hb⟩ := rep_tupKey (tup_rep V2 hq) hq
      refine .inr ⟨p, _, rfl, DPut.t e (R.sub _ _ hb) (by rw [rw'.len]; exact c.2), ?_⟩
      obtain ⟨F, R'⟩ := hw (.dT (putK ws q vv)) (.dtt (putKD kvs i v)) ⟨by have := putKD_len kvs i v; omega, _, upd_same, rw'.put hq r⟩
      exact h σ β G _ F.s R' rfl
    · exact h.elim
  · exact h.elim
/-- the target o[i] -/
def gSubM (mo mi : M DV) : D → M Unit := fun v => mo.bind fun o => mi.bind fun i => setIM o.1 i.1 v
theorem OutG.trans {Q : L2.St → Hp → Prop} (F : FrS Fo β G H β1 G1 H1) : ∀ (r : Rz Unit), OutG w Fo β G H Q r → OutG w Fo β1 G1 H1 Q r
  | .ok _ st', h => fun σ' β' G' H' F' R' => h σ' β' G' H' (F.trans F') R'
  | .exc _ _ _, h => h.elim
  | .bad, h => h.elim
/-- an expression, then a store -/
theorem tD_tgt {m : M DV} {kk : DV → M Unit} {Q : L2.St → Hp → Prop} {R : VK} (RS0 : RS w Fo β G H σ st) (h : OutG w Fo β G H Q ((m.bind kk) st))
    (hk : ∀ (d : D) (f : Bool) (v : V) (st' : St) (β' : List Addr) (G' H' : Hp), RS w Fo β' G' H' σ st' → Fr Fo st β G H st' β' G' H' → RepV w Fo σ st' β' G' H' f d v → OutG w Fo β' G' H' Q (kk (d, f) st') → R v H') : tD w W m σ H R := by
  refine ⟨Fo, β, G, st, RS0, ?_⟩
  unfold M.bind at h
  cases e : m st with
  | ok a st1 =>
    obtain ⟨d, f⟩ := a
    rw [e] at h
    exact fun v β1 G1 H1 F R1 V1 => hk d f v st1 β1 G1 H1 R1 F V1 (OutG.trans F.s _ h)
  | exc c fs st1 => rw [e] at h; exact h.elim
  | bad => rw [e] at h; exact h.elim
theorem tD_tgt2 {m : M DV} {kk : DV → M Unit} {Q : L2.St → Hp → Prop} {R : VK} {f1 : Bool} {d1 : D} {v1 : V} (RS0 : RS w Fo β G H σ st) (V1 : RepV w Fo σ st β G H f1 d1 v1) (h : OutG w Fo β G H Q ((m.bind kk) st))
    (hk : ∀ (d : D) (f : Bool) (v : V) (st' : St) (β' : List Addr) (G' H' : Hp), RS w Fo β' G' H' σ st' → Fr Fo st β G H st' β' G' H' → RepV w Fo σ st' β' G' H' f1 d1 v1 → RepV w Fo σ st' β' G' H' f d v → OutG w Fo β' G' H' Q (kk (d, f) st') → R v H') : tD w W m σ H R := by
  refine ⟨_, β, G, st, RS0.pend V1, ?_⟩
  unfold M.bind at h
  cases e : m st with
  | ok a st1 =>
    obtain ⟨d, f⟩ := a
    rw [e] at h
    intro v β1 G1 H1 F R1 V2
    have F' := F.weak (Fo := Fo) fun _ z => .inl z
    exact hk d f v st1 β1 G1 H1 (R1.weak fun _ z => .inl z) F' (V1.later F R1) (V2.weak fun _ z => .inl z) (OutG.trans F'.s _ h)
  | exc c fs st1 => rw [e] at h; exact h.elim
  | bad => rw [e] at h; exact h.elim
theorem g_sub {o i : Expr} {mo mi : M DV} (C : Cok2 w g W k si X) (ho : PE X o (tD w W mo)) (hi : PE X i (tD w W mi)) (hp : plainIx i = true) : PG X (.Subscript o i pos) (tG w (gSubM mo mi)) :=
  PG.imp (pg_sub ho hi (set_any (by have := C.hu; omega)) (fun v => by cases i <;> first | rfl | cases hp)) fun v σ H Q h => by
    obtain ⟨Fo, β, G, st, d, R, r, h⟩ := h
    refine tD_tgt R h fun d1 f1 v1 st1 β1 G1 H1 R1 F1 V1 h1 => ?_
    refine tD_tgt2 R1 V1 h1 fun d2 f2 v2 st2 β2 G2 H2 R2 F2 V1' V2 h2 => ?_
    have r2 : Rep w β2 G2 d v := Rep.mono (F1.g.trans F2.g) (F1.b.trans F2.b) d v r
    refine setI_ok R2 V1' V2 r2 (Q := fun H' => Q σ H') ?_
    cases e : setIM d1 d2 d st2 with
    | ok u st3 =>
      simp only [e] at h2
      intro σ' β' G' H' F' R' z
      subst z
      exact h2 σ' β' G' H' F' R'
    | exc c fs st3 => simp only [e] at h2; exact h2.elim
    | bad => simp only [e] at h2; exact h2.elim

/-! ### several targets -/
def gSeq : List (D → M Unit) → List D → M Unit
  | [], [] => M.ret ()
  | t :: ts, d :: ds => (t d).bind fun _ => gSeq ts ds
  | _, _ => M.bad
def tGs (w : Wo) (ts : List (D → M Unit)) : TGs := fun vs σ H Q => ∃ (Fo : Addr → Prop) (β : List Addr) (G : Hp) (st : St) (ds : List D), RS w Fo β G H σ st ∧ Reps w β G ds vs ∧ OutG w Fo β G H Q (gSeq ts ds st)
theorem PGs.imp {g g' : TGs} (h : PGs X es g) (i : ∀ x σ H Q, g' x σ H Q → g x σ H Q) : PGs X es g' := ⟨fun pins s σ H x v Q I r q => h.run pins s σ H x v Q I r (i x σ H Q q)⟩
theorem gs_nil : PGs X [] (tGs w []) := PGs.imp pgs_nil fun vs σ H Q h => by
  obtain ⟨Fo, β, G, st, ds, R, r, h⟩ := h
  cases ds with
  | nil => exact ⟨reps0 r, h σ β G H FrS.refl R⟩
  | cons d ds => exact h.elim
theorem assign_plain {env : Env} (h : noStar e = true) : (assignEach (e :: es) env) = (false, assign e env) :: assignEach es env := by
  cases e <;> first | rfl | cases h
theorem gs_cons {t : D → M Unit} {ts : List (D → M Unit)} (h1 : PG X e (tG w t)) (h2 : PGs X es (tGs w ts)) (hn : noStar e = true) : PGs X (e :: es) (tGs w (t :: ts)) :=
  PGs.imp (pgs_cons h1 h2 (by rw [assign_plain hn]; rfl)) fun vs σ H Q h => by
    obtain ⟨Fo, β, G, st, ds, R, r, h⟩ := h
    cases ds with
    | nil => exact h.elim
    | cons d ds =>
      unfold Reps at r
      obtain ⟨v, rs, rfl, h3, h4⟩ := r
      refine ⟨v, rs, rfl, Fo, β, G, st, d, R, h3, ?_⟩
      simp only [gSeq, M.bind] at h
      cases e1 : t d st with
      | ok u st1 =>
        rw [e1] at h
        intro σ1 β1 G1 H1 F1 R1
        exact ⟨Fo, β1, G1, st1, ds, R1, Reps.mono F1.g F1.b ds rs h4, OutG.trans F1 _ h⟩
      | exc c fs st1 => rw [e1] at h; exact h.elim
      | bad => rw [e1] at h; exact h.elim
def gTupM (ts : List (D → M Unit)) : D → M Unit := fun d => match d with
  | .tup ds => if ds.length = ts.length then gSeq ts ds else M.bad
  | .ftu ds => if ds.length = ts.length then gSeq ts ds else M.bad
  | _ => M.bad
theorem assign_len {env : Env} : ∀ (es : List Expr), (assignEach es env).length = es.length
  | [] => rfl
  | e :: es => by
    cases e <;> (show _ + 1 = _ + 1; rw [assign_len es])
theorem assign_nost {env : Env} : ∀ (es : List Expr), plainArgs es = true → (assignEach es env).findIdx? (·.1) = none
  | [], _ => rfl
  | e :: es, h => by
    have h : (noStar e && plainArgs es) = true := h
    rw [Bool.and_eq_true] at h
    rw [assign_plain h.1, List.findIdx?_cons]
    simp [assign_nost es h.2]
theorem g_tup {ts : List (D → M Unit)} {kk : Nat} (hK : X.K = w.K) (hc : X.calm = true) (h : PGs X es (tGs w ts)) (hp : plainArgs es = true) (hl : ts.length = es.length) : PG X (.Tuple es kk pos) (tG w (gTupM ts)) :=
  PG.imp (pg_tup (n := es.length) hc h (assign_len es) (assign_nost es hp)) fun v σ H Q h => by
    obtain ⟨Fo, β, G, st, d, R, r, h⟩ := h
    unfold gTupM at h
    split at h
    · rename_i ds
      unfold Rep at r
      obtain ⟨_, a, vs, rfl, q, rr⟩ := r
      by_cases c : ds.length = ts.length
      · rw [if_pos c] at h
        exact ⟨a, vs, rfl, SqT.of (R.sub _ _ q), by rw [rr.len, c, hl], Fo, β, G, st, ds, R, rr, h⟩
      · rw [if_neg c] at h; exact h.elim
    · rename_i ds
      unfold Rep at r
      obtain ⟨_, a, vs, rfl, q, rr⟩ := r
      by_cases c : ds.length = ts.length
      · rw [if_pos c] at h
        exact ⟨a, vs, rfl, by rw [hK]; exact SqT.mono R.sub.h q, by rw [rr.len, c, hl], Fo, β, G, st, ds, R, rr, h⟩
      · rw [if_neg c] at h; exact h.elim
    · exact h.elim
/-- a store, then what follows; no exception in a store -/
def thenU (t : M Unit) (n : MS) : MS := fun st => match t st with
  | .ok _ st' => n st'
  | _ => .bad
/-- target = value, the value given away -/
def asgG (m : M DV) (t : D → M Unit) : MS := m.bind fun x => (frz1 x.1).bind fun d => thenU (t d) skip
theorem s_asgG {tg : Expr} {t : D → M Unit} (h : PE X e (tD w W m)) (hg : PG X tg (tG w t)) (hc : noComp e = true) (hn : noStar tg = true) (hw : swappedStores [tg] e X.env = pure none) : PS X (.Assign [tg] e pos) (tS w W (asgG m t)) :=
  PS.imp (ps_asg h hg (swaps_no hc) hw (by rw [assign_plain hn]; rfl)) fun D σ H q => tD_stmt q fun Fo d f v st β G H R V1 q => by
    obtain ⟨G1, F1, R1, A1⟩ := settle R V1
    obtain ⟨d', st2, G2, e2, F2, R2, r2⟩ := frz1_ok R1 A1
    rw [M.bind_ok e2] at q
    have F := F1.trans F2
    have q := OutS.trans F.s _ q
    refine ⟨Fo, β, G2, st2, d', R2, r2, ?_⟩
    unfold thenU at q
    cases e3 : t d' st2 with
    | ok u st3 =>
      rw [e3] at q
      exact fun σ' β' G' H' F' R' => q σ' β' G' H' F' R'
    | exc c fs st3 => rw [e3] at q; exact q.elim
    | bad => rw [e3] at q; exact q.elim
end
end PD

set_option autoImplicit false
namespace PD
open PySem PySem.Spec PyProof.Rows L2

/-! ### a, b = x, y -/
section
variable (w : Wo)
/-- values, each maybe held by no one else; the later ones were made with the earlier ones at hand -/
def RepVs (σ : L2.St) (st : St) (β : List Addr) (G H : Hp) : (Addr → Prop) → List DV → List V → Prop
  | _, [], vs => vs = []
  | Fo, x :: xs, vs => ∃ v r, vs = v :: r ∧ RepV w Fo σ st β G H x.2 x.1 v ∧ RepVs σ st β G H (fun a => Fo a ∨ Tmp x.2 v a) xs r
def OutV (W : WX) (Fo : Addr → Prop) (σ : L2.St) (st : St) (β : List Addr) (G H : Hp) (Q : List V → Hp → Prop) : Rz (List DV) → Prop
  | .ok xs st' => ∀ (vs : List V) (β' : List Addr) (G' H' : Hp), Fr Fo st β G H st' β' G' H' → RS w Fo β' G' H' σ st' → RepVs w σ st' β' G' H' Fo xs vs → Q vs H'
  | .exc c fs st' => ∀ (β' : List Addr) (G' H' : Hp) (dx : Addr) (gs : List (Str × V)), Fr Fo st β G H st' β' G' H' → RS w Fo β' G' H' σ st' → H' dx = some (.xd gs) → RepsF w β' G' fs gs → W (.ref (w.ca c)) (some dx) σ H'
  | .bad => False
def tV (W : WX) (m : M (List DV)) : TA := fun σ H Q => ∃ (Fo : Addr → Prop) (β : List Addr) (G : Hp) (st : St), RS w Fo β G H σ st ∧ OutV w W Fo σ st β G H Q (m st)
end
section
variable {w : Wo} {g : Prg} {si : SI} {k : Nat} {X : Cx} {W : WX} {a b e : Expr} {es : List Expr} {ma mb m : M DV} {pos : Pos} {Fo : Addr → Prop} {σ σ1 : L2.St} {st st1 : St} {β β1 : List Addr} {G H G1 H1 : Hp}
def valsNil : M (List DV) := M.ret []
def valsCons (m : M DV) (ms : M (List DV)) : M (List DV) := m.bind fun x => ms.bind fun xs => M.ret (x :: xs)
theorem v_nil : PA X [] (tV w W valsNil) := PA.imp pa_nil fun σ H Q h => by
  obtain ⟨Fo, β, G, st, R, h⟩ := h
  exact h [] β G H Fr.refl R rfl
theorem v_cons {m : M DV} {ms : M (List DV)} (h : PE X e (tD w W m)) (hs : PA X es (tV w W ms)) (hn : ∀ a p, e ≠ .Starred a p) : PA X (e :: es) (tV w W (valsCons m ms)) :=
  PA.imp (pa_cons h hs (starEach_plain hn)) fun σ H Q h => by
    obtain ⟨Fo, β, G, st, R, h⟩ := h
    refine ⟨Fo, β, G, st, R, ?_⟩
    unfold valsCons M.bind at h
    cases e : m st with
    | ok x st1 =>
      obtain ⟨d, f⟩ := x
      simp only [e] at h
      intro v β1 G1 H1 F1 R1 V1
      refine ⟨_, β1, G1, st1, R1.pend V1, ?_⟩
      cases e2 : ms st1 with
      | ok xs st3 =>
        simp only [e2] at h
        intro vs β3 G3 H3 F3 R3 A3
        have F3' := F3.weak (Fo := Fo) fun _ z => .inl z
        exact h (v :: vs) β3 G3 H3 (F1.trans F3') (R3.weak fun _ z => .inl z) ⟨v, vs, rfl, V1.later F3 R3, A3⟩
      | exc c fs st3 =>
        simp only [e2] at h
        exact fun β' G' H' dx gs F' R' q r => h β' G' H' dx gs (F1.trans (F'.weak fun _ z => .inl z)) (R'.weak fun _ z => .inl z) q r
      | bad => simp only [e2] at h; exact h.elim
    | exc c fs st1 => simp only [e] at h; exact h
    | bad => simp only [e] at h; exact h.elim
/-- no containers of the def's own among them: these change no more -/
def frzV : List DV → M (List DV)
  | [] => M.ret []
  | x :: xs => (match x.1 with
    | .loc i => (frz1 (.loc i)).bind fun d => (frzV xs).bind fun ys => M.ret ((d, false) :: ys)
    | d => (frzV xs).bind fun ys => M.ret ((d, x.2) :: ys))
def allTmp : List DV → List V → Addr → Prop
  | x :: xs, v :: vs, a => Tmp x.2 v a ∨ allTmp xs vs a
  | _, _, _ => False
theorem RepVs.weakF {Fo Fo' : Addr → Prop} : ∀ {xs : List DV} {vs : List V}, RepVs w σ st β G H Fo' xs vs → (∀ a, Fo a → Fo' a) → RepVs w σ st β G H Fo xs vs := by
  intro xs
  induction xs generalizing Fo Fo' with
  | nil => intro vs h _; exact h
  | cons x xs ih =>
    intro vs h hw
    obtain ⟨v, r, e, h1, h2⟩ := h
    exact ⟨v, r, e, h1.weak hw, ih h2 fun a z => z.elim (fun z => .inl (hw a z)) .inr⟩
/-- all of them are held -/
theorem RS.pends : ∀ {xs : List DV} {vs : List V} {Fo : Addr → Prop}, RS w Fo β G H σ st → RepVs w σ st β G H Fo xs vs → RS w (fun a => Fo a ∨ allTmp xs vs a) β G H σ st := by
  intro xs
  induction xs with
  | nil =>
    intro vs Fo R h
    exact R.weak fun a z => z.elim id fun z => by cases vs <;> exact z.elim
  | cons x xs ih =>
    intro vs Fo R h
    obtain ⟨v, r, rfl, h1, h2⟩ := h
    have := ih (R.pend h1) h2
    exact this.weak fun a z => z.elim (fun z => .inl (.inl z)) fun z => z.elim (fun z => .inl (.inr z)) .inr
/-- a value that is no slot stands, whatever the slots -/
theorem RepV.move {f : Bool} {d : D} {v : V} (h : RepV w Fo σ st β G H f d v) (hl : ∀ i, d ≠ .loc i) (F : FrS (fun a => Fo a ∨ Tmp f v a) β G H β1 G1 H1) (R1 : RS w (fun a => Fo a ∨ Tmp f v a) β1 G1 H1 σ1 st1) : RepV w Fo σ1 st1 β1 G1 H1 f d v := by
  rcases repV_cases h with ⟨i, b, d', e, _⟩ | h
  · exact absurd e (hl i)
  · apply repV_of0
    unfold RepV0 at h ⊢
    cases f with
    | true =>
      simp only [if_true] at h ⊢
      obtain ⟨a, e, h1, h2, h3, h4, h5⟩ := h
      obtain ⟨_, k1, k2, k3⟩ := R1.fo a (.inr ⟨rfl, e⟩)
      exact ⟨a, e, k1, k2, k3, h4, h5.mono F.g F.b (F.kp a (.inr ⟨rfl, e⟩))⟩
    | false =>
      simp only [Bool.false_eq_true, if_false] at h ⊢
      exact Rep.mono F.g F.b d v h
def noLocs (xs : List DV) : Prop := ∀ x ∈ xs, ∀ i, x.1 ≠ .loc i
theorem FrS.weak {Fo' : Addr → Prop} (F : FrS Fo' β G H β1 G1 H1) (h : ∀ a, Fo a → Fo' a) : FrS Fo β G H β1 G1 H1 := ⟨F.g, F.b, fun a q => F.kp a (h a q)⟩
theorem RepVs.move : ∀ {xs : List DV} {vs : List V} {Fo : Addr → Prop}, RepVs w σ st β G H Fo xs vs → noLocs xs → FrS (fun a => Fo a ∨ allTmp xs vs a) β G H β1 G1 H1 → RS w (fun a => Fo a ∨ allTmp xs vs a) β1 G1 H1 σ1 st1 → RepVs w σ1 st1 β1 G1 H1 Fo xs vs := by
  intro xs
  induction xs with
  | nil => intro vs Fo h _ _ _; exact h
  | cons x xs ih =>
    intro vs Fo h hl F R1
    obtain ⟨v, r, rfl, h1, h2⟩ := h
    have hw : ∀ a, (Fo a ∨ Tmp x.2 v a) ∨ allTmp xs r a → Fo a ∨ allTmp (x :: xs) (v :: r) a := fun a z => z.elim (fun z => z.elim .inl fun z => .inr (.inl z)) fun z => .inr (.inr z)
    exact ⟨v, r, rfl, h1.move (hl x (List.mem_cons_self ..)) (F.weak fun a z => hw a (.inl z)) (R1.weak fun a z => hw a (.inl z)), ih h2 (fun y hy => hl y (List.mem_cons_of_mem _ hy)) (F.weak hw) (R1.weak hw)⟩
/-- loc's stand in a later state of the same slots -/
theorem RepVs.later : ∀ {xs : List DV} {vs : List V} {Fo : Addr → Prop}, RepVs w σ st β G H Fo xs vs → Fr (fun a => Fo a ∨ allTmp xs vs a) st β G H st1 β1 G1 H1 → RS w (fun a => Fo a ∨ allTmp xs vs a) β1 G1 H1 σ st1 → RepVs w σ st1 β1 G1 H1 Fo xs vs := by
  intro xs
  induction xs with
  | nil => intro vs Fo h _ _; exact h
  | cons x xs ih =>
    intro vs Fo h F R1
    obtain ⟨v, r, rfl, h1, h2⟩ := h
    have hw : ∀ a, (Fo a ∨ Tmp x.2 v a) ∨ allTmp xs r a → Fo a ∨ allTmp (x :: xs) (v :: r) a := fun a z => z.elim (fun z => z.elim .inl fun z => .inr (.inl z)) fun z => .inr (.inr z)
    exact ⟨v, r, rfl, h1.later (F.weak fun a z => hw a (.inl z)) (R1.weak fun a z => hw a (.inl z)), ih h2 (F.weak hw) (R1.weak hw)⟩
theorem frzV_ok : ∀ {xs : List DV} {vs : List V} {Fo : Addr → Prop} {st : St} {G : Hp}, RS w Fo β G H σ st → RepVs w σ st β G H Fo xs vs →
    ∃ ys st' G', frzV xs st = .ok ys st' ∧ Fr (fun a => Fo a ∨ allTmp xs vs a) st β G H st' β G' H ∧ RS w Fo β G' H σ st' ∧ RepVs w σ st' β G' H Fo ys vs ∧ noLocs ys ∧ ys.length = xs.length ∧ (∀ a, allTmp ys vs a → allTmp xs vs a) := by
  intro xs
  induction xs with
  | nil => intro vs Fo st G R h; exact ⟨[], st, G, rfl, Fr.refl, R, h, fun x hx => by simp at hx, rfl, fun a z => z⟩
  | cons x xs ih =>
    intro vs Fo st G R h
    have RA := RS.pends R h
    obtain ⟨v, r, rfl, h1, h2⟩ := h
    obtain ⟨d, f⟩ := x
    by_cases hl : ∃ i, d = .loc i
    · obtain ⟨i, rfl⟩ := hl
      obtain ⟨rfl, h3, b, d', h4, h5⟩ := h1
      have nt : ∀ a, ¬ Tmp false v a := fun a z => Bool.noConfusion z.1
      obtain ⟨G1, F1, R1, r1⟩ := RA.freeze h3 h4
      have hw : ∀ a, (Fo a ∨ Tmp false v a) ∨ allTmp xs r a → Fo a ∨ allTmp ((.loc i, false) :: xs) (v :: r) a := fun a z => z.elim (fun z => z.elim .inl fun z => .inr (.inl z)) fun z => .inr (.inr z)
      have h2' : RepVs w σ _ β G1 H (fun a => Fo a ∨ Tmp false v a) xs r := RepVs.later h2 (F1.weak hw) (R1.weak hw)
      have h2'' : RepVs w σ _ β G1 H Fo xs r := h2'.weakF fun a z => .inl z
      obtain ⟨ys, st', G', e2, F2, R2, q2, nl, ll, tt⟩ := ih (R1.weak (Fo := Fo) fun a z => .inl z) h2''
      refine ⟨(d', false) :: ys, st', G', ?_, F1.trans (F2.weak fun a z => z.elim .inl fun z => z.elim (fun z => absurd z (nt a)) .inr), R2, ⟨v, r, rfl, RepV.val (Rep.mono F2.g F2.b d' v r1), ?_⟩, ?_, by rw [List.length_cons, List.length_cons, ll], ?_⟩
      · simp only [frzV, frz1, h4, M.bind, e2]
        rfl
      · exact RepVs.weakF q2 fun a z => z.elim id fun z => absurd z (nt a)
      · intro y hy j
        rcases List.mem_cons.mp hy with rfl | hy
        · intro z
          have z : d' = .loc j := z
          have : isCont d' = true := h5
          rw [z] at this
          cases this
        · exact nl y hy j
      · intro a z
        exact z.elim (fun z => absurd z (nt a)) fun z => .inr (tt a z)
    · have hl' : ∀ i, d ≠ .loc i := fun i z => hl ⟨i, z⟩
      obtain ⟨ys, st', G', e2, F2, R2, q2, nl, ll, tt⟩ := ih (R.pend h1) h2
      have hw : ∀ a, Fo a ∨ allTmp ((d, f) :: xs) (v :: r) a → (Fo a ∨ Tmp f v a) ∨ allTmp xs r a := fun a z => z.elim (fun z => .inl (.inl z)) fun z => z.elim (fun z => .inl (.inr z)) .inr
      refine ⟨(d, f) :: ys, st', G', ?_, F2.weak hw, R2.weak fun a z => .inl z, ⟨v, r, rfl, h1.later (F2.weak fun a z => .inl z) R2, q2⟩, ?_, by rw [List.length_cons, List.length_cons, ll], ?_⟩
      · have : frzV ((d, f) :: xs) st = ((frzV xs).bind fun ys => M.ret ((d, f) :: ys)) st := by
          cases d with
          | loc i => exact absurd rfl (hl' i)
          | _ => rfl
        rw [this]
        simp only [M.bind, e2]
        rfl
      · intro y hy j
        rcases List.mem_cons.mp hy with rfl | hy
        · exact hl' j
        · exact nl y hy j
      · intro a z
        exact z.elim .inl fun z => .inr (tt a z)
/-- stored one after another -/
def putVs : List (Nat × Md) → List DV → M Unit
  | [], [] => M.ret ()
  | (i, o) :: is, x :: xs => (putM i o x).bind fun _ => putVs is xs
  | _, _ => M.bad
def setAll (σ : L2.St) : List (Nat × Md) → List V → L2.St
  | (i, _) :: is, v :: vs => setAll (σ.set i (some v)) is vs
  | _, _ => σ
theorem putVs_ok : ∀ {is : List (Nat × Md)} {xs : List DV} {vs : List V} {Fo : Addr → Prop} {st : St} {β : List Addr} {G : Hp} {σ : L2.St}, RS w Fo β G H σ st → RepVs w σ st β G H Fo xs vs → noLocs xs →
    putVs is xs st = .bad ∨ ∃ st' β' G', putVs is xs st = .ok () st' ∧ FrS Fo β G H β' G' H ∧ RS w Fo β' G' H (setAll σ is vs) st' ∧ is.length = vs.length := by
  intro is
  induction is with
  | nil =>
    intro xs vs Fo st β G σ R h nl
    cases xs with
    | nil =>
      have : vs = [] := h
      subst this
      exact .inr ⟨st, β, G, rfl, FrS.refl, R, rfl⟩
    | cons x xs => exact .inl rfl
  | cons io is ih =>
    intro xs vs Fo st β G σ R h nl
    obtain ⟨i, o⟩ := io
    cases xs with
    | nil => exact .inl rfl
    | cons x xs =>
      have RA := RS.pends R h
      obtain ⟨v, r, rfl, h1, h2⟩ := h
      obtain ⟨d, f⟩ := x
      -- the first, while the others are held
      have RB : RS w (fun a => Fo a ∨ allTmp xs r a) β G H σ st := RA.weak fun a z => z.elim .inl fun z => .inr (.inr z)
      have hdis : ∀ a, allTmp xs r a → ¬ Tmp f v a := by
        have gen : ∀ (xs : List DV) (r : List V) (F : Addr → Prop), RepVs w σ st β G H F xs r → ∀ a, allTmp xs r a → ¬ F a := by
          intro xs
          induction xs with
          | nil => intro r F h a z; cases r <;> exact z.elim
          | cons y ys ih2 =>
            intro r F h a z hF
            obtain ⟨u, rr, rfl, k1, k2⟩ := h
            rcases z with z | z
            · rcases repV_cases k1 with ⟨j, b, d', _, e2, _⟩ | k0
              · rw [z.1] at e2; cases e2
              · unfold RepV0 at k0
                rw [z.1] at k0
                simp only [if_true] at k0
                obtain ⟨a', e3, _, _, _, nf, _⟩ := k0
                rw [z.2] at e3
                cases e3
                exact nf hF
            · exact ih2 rr _ k2 a z (.inl hF)
        exact fun a z t => gen xs r _ h2 a z (.inr t)
      have V1 : RepV w (fun a => Fo a ∨ allTmp xs r a) σ st β G H f d v := by
        rcases repV_cases h1 with ⟨j, b, d', e2, _⟩ | k0
        · exact absurd e2 (nl (d, f) (List.mem_cons_self ..) j)
        · apply repV_of0
          unfold RepV0 at k0 ⊢
          cases f with
          | false => exact k0
          | true =>
            simp only [if_true] at k0 ⊢
            obtain ⟨a', e3, q1, q2, q3, nf, q5⟩ := k0
            exact ⟨a', e3, q1, q2, q3, fun z => z.elim nf fun z => hdis a' z ⟨rfl, e3⟩, q5⟩
      rcases put_ok (i := i) (own := o) RB V1 with e1 | ⟨st1, β1, G1, e1, F1, R1⟩
      · left
        show ((putM i o (d, f)).bind fun _ => putVs is xs) st = .bad
        exact M.bind_bad e1
      · have h2' : RepVs w (σ.set i (some v)) st1 β1 G1 H Fo xs r := RepVs.move (h2.weakF fun a z => .inl z) (fun y hy => nl y (List.mem_cons_of_mem _ hy)) F1 R1
        have step : putVs ((i, o) :: is) ((d, f) :: xs) st = putVs is xs st1 := by
          show ((putM i o (d, f)).bind fun _ => putVs is xs) st = _
          exact M.bind_ok e1
        rw [step]
        rcases ih (R1.weak (Fo := Fo) fun a z => .inl z) h2' (fun y hy => nl y (List.mem_cons_of_mem _ hy)) with e2 | ⟨st2, β2, G2, e2, F2, R2, l2⟩
        · exact .inl e2
        · exact .inr ⟨st2, β2, G2, e2, (F1.weak fun a z => .inl z).trans F2, R2, by rw [List.length_cons, List.length_cons, l2]⟩
def parM (is : List (Nat × Md)) (ms : M (List DV)) : MS := ms.bind fun xs => (frzV xs).bind fun ys => thenU (putVs is ys) skip
theorem par_out {is : List (Nat × Md)} {ms : M (List DV)} {D : Ends} (h : tS w W (parM is ms) D σ H) : tV w W ms σ H fun vs H1 => is.length = vs.length ∧ D.nx (setAll σ is vs) H1 := by
  obtain ⟨Fo, β, G, st, R, h⟩ := h
  refine ⟨Fo, β, G, st, R, ?_⟩
  unfold parM at h
  cases e : ms st with
  | ok xs st1 =>
    rw [M.bind_ok e] at h
    intro vs β1 G1 H1 F1 R1 A1
    obtain ⟨ys, st2, G2, e2, F2, R2, A2, nl, _⟩ := frzV_ok R1 A1
    rw [M.bind_ok e2] at h
    unfold thenU at h
    rcases putVs_ok (is := is) R2 A2 nl with e3 | ⟨st3, β3, G3, e3, F3, R3, l3⟩
    · rw [e3] at h; exact h.elim
    · rw [e3] at h
      exact ⟨l3, h _ β3 G3 H1 ((F1.s.trans (F2.s.weak fun a z => .inl z)).trans F3) R3⟩
  | exc c fs st1 =>
    unfold M.bind at h
    rw [e] at h
    exact fun β' G' H' dx gs F R e r => h σ β' G' H' dx gs F.s R e r
  | bad => unfold M.bind at h; rw [e] at h; exact h.elim
end
/-- what is stored in the other order -/
def sw2 (si : SI) (x y : Str) (px py : Pos) (a b : Expr) : Bool :=
  decide (si.sc.names.lookup x = some .local) && decide (si.sc.names.lookup y = some .local) && (py.line == px.line) && !(x == y) && noStar a && noStar b && !(foldedForSure 8 a && foldedForSure 8 b) && !(constantsAlone 8 a && constantsAlone 8 b)
theorem star_any : ∀ {es : List Expr}, plainArgs es = true → (es.any fun | .Starred .. => true | _ => false) = false
  | [], _ => rfl
  | e :: es, h => by
    have h : (noStar e && plainArgs es) = true := h
    rw [Bool.and_eq_true] at h
    rw [List.any_cons, star_any h.2]
    cases e <;> first | rfl | cases h.1
def isFun (si : SI) : Bool := match si.sc.kind with
  | .function => true
  | _ => false
section
variable {w : Wo} {g : Prg} {si : SI} {k : Nat} {X : Cx} {W : WX}
theorem isFun_ok (C : Cok w si X) (h : isFun si = true) : X.env.scope.kind = .function := by
  unfold isFun at h
  rw [C.sc]
  split at h
  · assumption
  · cases h
theorem nos {e : Expr} (h : noStar e = true) : (match e with | .Starred .. => true | _ => false) = false := by
  cases e <;> first | rfl | cases h
theorem sw2_ok' (C : Cok w si X) {x y : Str} {px py p1 p2 : Pos} {n1 n2 : Nat} {a b : Expr} (hf : X.env.scope.kind = .function) (h : sw2 si x y px py a b = true) : swappedStores [.Tuple [.Name x px, .Name y py] n1 p1] (.Tuple [a, b] n2 p2) X.env = pure (some [x, y]) := by
  unfold sw2 at h
  simp only [Bool.and_eq_true, decide_eq_true_eq, Bool.not_eq_true', beq_iff_eq] at h
  obtain ⟨⟨⟨⟨⟨⟨⟨h1, h2⟩, h3⟩, h4⟩, h5⟩, h6⟩, h7⟩, h8⟩ := h
  have k1 : X.env.kindOf x = some .local := by unfold Env.kindOf; rw [C.sc]; exact h1
  have k2 : X.env.kindOf y = some .local := by unfold Env.kindOf; rw [C.sc]; exact h2
  have kb : X.env.blockKind = .function := by unfold Env.blockKind; rw [hf]; rfl
  have hxy : (y == x) = false := by
    cases e : (y == x) with
    | false => rfl
    | true =>
      have := eq_of_beq e
      subst this
      simp at h4
  unfold swappedStores
  simp only [List.length_cons, List.length_nil, kb, List.any_cons, List.any_nil, nos h5, nos h6, List.filterMap_cons, List.filterMap_nil, k1, k2, h3, List.head?_cons, Option.map_some, Option.getD_some, Expr.pos, BEq.rfl, Bool.and_self, if_true, Bool.and_true, List.all_cons, List.all_nil]
  simp [List.eraseDups, List.eraseDupsBy, List.eraseDupsBy.loop, hxy, h7, h8]
  intro hh
  exfalso
  rcases hh with hh | hh <;> (split at hh <;> first | (cases hh; done) | (simp [noStar] at h5; done) | (simp [noStar] at h6; done))
/-- three -/
def sw3 (si : SI) (x y z : Str) (px py pz : Pos) (a b c : Expr) : Bool :=
  (decide (si.sc.names.lookup x = some .local) && decide (si.sc.names.lookup y = some .local) && decide (si.sc.names.lookup z = some .local)) && ((py.line == px.line) && (pz.line == px.line)) && (!(y == x) && !(z == x) && !(z == y)) && (noStar a && noStar b && noStar c) &&
    !(foldedForSure 8 a && (foldedForSure 8 b && foldedForSure 8 c)) && !(constantsAlone 8 a && (constantsAlone 8 b && constantsAlone 8 c))
theorem sw3_ok (C : Cok w si X) {x y z : Str} {px py pz p1 p2 : Pos} {n1 n2 : Nat} {a b c : Expr} (hf : X.env.scope.kind = .function) (h : sw3 si x y z px py pz a b c = true) : swappedStores [.Tuple [.Name x px, .Name y py, .Name z pz] n1 p1] (.Tuple [a, b, c] n2 p2) X.env = pure (some [x, y, z]) := by
  unfold sw3 at h
  simp only [Bool.and_eq_true, decide_eq_true_eq, Bool.not_eq_true', beq_iff_eq] at h
  obtain ⟨⟨⟨⟨⟨⟨⟨h1, h2⟩, h3⟩, h4, h4'⟩, ⟨h5, h6⟩, h7⟩, ⟨h8, h9⟩, h10⟩, h11⟩, h12⟩ := h
  have k1 : X.env.kindOf x = some .local := by unfold Env.kindOf; rw [C.sc]; exact h1
  have k2 : X.env.kindOf y = some .local := by unfold Env.kindOf; rw [C.sc]; exact h2
  have k3 : X.env.kindOf z = some .local := by unfold Env.kindOf; rw [C.sc]; exact h3
  have kb : X.env.blockKind = .function := by unfold Env.blockKind; rw [hf]; rfl
  unfold swappedStores
  simp only [List.length_cons, List.length_nil, kb, List.any_cons, List.any_nil, nos h8, nos h9, nos h10, List.filterMap_cons, List.filterMap_nil, k1, k2, k3, h4, h4', List.head?_cons, Option.map_some, Option.getD_some, Expr.pos, BEq.rfl, Bool.and_self, if_true, Bool.and_true, List.all_cons, List.all_nil]
  simp [List.eraseDups, List.eraseDupsBy, List.eraseDupsBy.loop, h5, h6, h7, h11, h12]
  intro hh
  exfalso
  rcases hh with hh | hh | hh <;> (split at hh <;> first | (cases hh; done) | (simp [noStar] at h8; done) | (simp [noStar] at h9; done) | (simp [noStar] at h10; done))
/-- nothing is stored in another order -/
def isName : Expr → Bool
  | .Name .. => true
  | _ => false
def swNo (tg e : Expr) : Bool := match tg, e with
  | .Tuple ts _ _, .Tuple vs _ _ => !(ts.length == 2 || ts.length == 3) || vs.length != ts.length || ts.any fun t => !isName t
  | .List _ _, .Tuple _ _ _ => false
  | _, _ => true
theorem filter_lt {f : Expr → Option Str} : ∀ {l : List Expr}, (l.any fun t => !isName t) = true → (∀ t, isName t = false → f t = none) → (l.filterMap f).length < l.length
  | [], h, _ => by simp at h
  | t :: l, h, hf => by
    rw [List.any_cons, Bool.or_eq_true] at h
    cases e : f t with
    | none =>
      rw [List.filterMap_cons_none e, List.length_cons]
      have := List.length_filterMap_le f l
      omega
    | some x =>
      rw [List.filterMap_cons_some e, List.length_cons, List.length_cons]
      rcases h with h | h
      · have h : isName t = false := by simpa using h
        rw [hf t h] at e; cases e
      · have := filter_lt h hf
        omega
theorem swNo_ok {tg e : Expr} {env : Env} (h : swNo tg e = true) : swappedStores [tg] e env = pure none := by
  unfold swNo at h
  split at h
  · rename_i ts _ _ vs _ _
    unfold swappedStores
    simp only
    by_cases c : (!(ts.length == 2 || ts.length == 3) || vs.length != ts.length || env.blockKind != .function) = true
    · rw [if_pos c]
    · rw [if_neg c]
      split
      · rfl
      · split
        · rfl
        · rename_i c3
          exfalso
          apply c3
          have hn : (ts.any fun t => !isName t) = true := by
            simp only [Bool.or_eq_true, not_or] at c
            simp only [Bool.or_eq_true] at h
            rcases h with (h | h) | h
            · exact absurd h c.1.1
            · exact absurd h c.1.2
            · exact h
          simp only [Bool.or_eq_true, bne_iff_ne, ne_eq]
          left
          exact Nat.ne_of_lt (filter_lt hn fun t ht => by cases t <;> first | rfl | cases ht)
  · cases h
  · rename_i h1 h2
    unfold swappedStores
    split
    · rename_i ts vs e1
      exfalso
      split at e1
      · rename_i z0
        exact h1 _ _ _ _ _ _ (List.cons.inj z0).1 rfl
      · rename_i z0
        exact h2 _ _ _ _ _ (List.cons.inj z0).1 rfl
      · cases e1
    · rfl

theorem tV.mono {ms : M (List DV)} {σ : L2.St} {H : Hp} {Q R : List V → Hp → Prop} (h : tV w W ms σ H Q) (i : ∀ vs H, Q vs H → R vs H) : tV w W ms σ H R := by
  obtain ⟨Fo, β, G, st, R0, h⟩ := h
  refine ⟨Fo, β, G, st, R0, ?_⟩
  cases e : ms st with
  | ok xs st1 => rw [e] at h; exact fun vs β' G' H' F' R' A => i _ _ (h vs β' G' H' F' R' A)
  | exc c fs st1 => rw [e] at h; exact h
  | bad => rw [e] at h; exact h
variable {pos px py pz pt pt2 : Pos} {x y z : Str} {a b c : Expr} {kt k2 : Nat} {ms : M (List DV)}
theorem s_par2 (C : Cok w si X) {i j : Nat} {o1 o2 : Md} (hi : ix x si.N = some i) (hj : ix y si.N = some j) (hij : i ≠ j) (hf : isFun si = true) (hs : sw2 si x y px py a b = true) (ha : PA X [a, b] (tV w W ms)) :
    PS X (.Assign [.Tuple [.Name x px, .Name y py] kt pt] (.Tuple [a, b] k2 pt2) pos) (tS w W (parM [(i, o1), (j, o2)] ms)) := by
  have h := hs
  unfold sw2 at h
  simp only [Bool.and_eq_true, decide_eq_true_eq] at h
  obtain ⟨⟨⟨⟨⟨⟨⟨h1, h2⟩, _⟩, _⟩, _⟩, _⟩, _⟩, _⟩ := h
  refine PS.imp (ps_par (i := i) (j := j) C.calm C.nd (by rw [C.N]; exact ix_get hi) (by rw [C.N]; exact ix_get hj) hij (by rw [C.sc]; exact h1) (by rw [C.sc]; exact h2) ha (sw2_ok' C (isFun_ok C hf) hs)) fun D σ H q => ?_
  refine (par_out q).mono fun vs H1 ⟨hl, q⟩ => ?_
  match vs, hl, q with
  | [v, u], _, q => exact ⟨v, u, rfl, q⟩
theorem s_par3 (C : Cok w si X) {i j l : Nat} {o1 o2 o3 : Md} (hi : ix x si.N = some i) (hj : ix y si.N = some j) (hl : ix z si.N = some l) (hij : i ≠ j) (hil : i ≠ l) (hjl : j ≠ l) (hf : isFun si = true) (hs : sw3 si x y z px py pz a b c = true) (ha : PA X [a, b, c] (tV w W ms)) :
    PS X (.Assign [.Tuple [.Name x px, .Name y py, .Name z pz] kt pt] (.Tuple [a, b, c] k2 pt2) pos) (tS w W (parM [(i, o1), (j, o2), (l, o3)] ms)) := by
  have h := hs
  unfold sw3 at h
  simp only [Bool.and_eq_true, decide_eq_true_eq] at h
  obtain ⟨⟨⟨⟨⟨⟨⟨h1, h2⟩, h3⟩, _⟩, _⟩, _⟩, _⟩, _⟩ := h
  refine PS.imp (ps_par3 (i := i) (j := j) (l := l) C.calm C.nd (by rw [C.N]; exact ix_get hi) (by rw [C.N]; exact ix_get hj) (by rw [C.N]; exact ix_get hl) hij hil hjl (by rw [C.sc]; exact h1) (by rw [C.sc]; exact h2) (by rw [C.sc]; exact h3) ha (sw3_ok C (isFun_ok C hf) hs)) fun D σ H q => ?_
  refine (par_out q).mono fun vs H1 ⟨hl, q⟩ => ?_
  match vs, hl, q with
  | [v, u, t], _, q => exact ⟨v, u, t, rfl, q⟩
end
end PD

set_option autoImplicit false
namespace PD
open PySem PySem.Spec PyProof.Rows L2

/-! ### list comprehensions -/
def wipeE (env : List Slot) : List Nat → List Slot
  | [] => env
  | v :: vs => (wipeE env vs).set v none
def St.wipe (st : St) (vs : List Nat) : St := ⟨wipeE st.env vs, st.sto⟩
theorem wipeE_len (env : List Slot) : ∀ vs, (wipeE env vs).length = env.length
  | [] => rfl
  | v :: vs => by unfold wipeE; rw [List.length_set, wipeE_len env vs]
theorem wipeE_some {env : List Slot} {i : Nat} {x : Bool × D} : ∀ {vs : List Nat}, (wipeE env vs)[i]? = some (some x) → env[i]? = some (some x) ∧ i ∉ vs
  | [], h => ⟨h, by simp⟩
  | v :: vs, h => by
    unfold wipeE at h
    by_cases hi : v = i
    · subst hi
      by_cases hv : v < (wipeE env vs).length
      · rw [List.getElem?_set_self hv] at h; cases h
      · rw [List.getElem?_eq_none (by simpa using hv)] at h; cases h
    · rw [List.getElem?_set_ne hi] at h
      obtain ⟨h1, h2⟩ := wipeE_some h
      exact ⟨h1, by simp only [List.mem_cons, not_or]; exact ⟨fun e => hi e.symm, h2⟩⟩
theorem wipeE_out {env : List Slot} {i : Nat} : ∀ {vs : List Nat}, i ∉ vs → (wipeE env vs)[i]? = env[i]?
  | [], h => rfl
  | v :: vs, h => by
    simp only [List.mem_cons, not_or] at h
    unfold wipeE
    rw [List.getElem?_set_ne (Ne.symm h.1), wipeE_out h.2]
theorem wipeσ_out {σ : L2.St} {i : Nat} : ∀ {vs : List Nat}, i ∉ vs → (wipe σ vs)[i]? = σ[i]?
  | [], h => rfl
  | v :: vs, h => by
    simp only [List.mem_cons, not_or] at h
    unfold wipe
    rw [List.getElem?_set_ne (Ne.symm h.1), wipeσ_out h.2]
theorem wipe_set {σ : L2.St} {i : Nat} {x : Option V} : ∀ {vs : List Nat}, i ∈ vs → wipe (σ.set i x) vs = wipe σ vs
  | [], h => by cases h
  | v :: vs, h => by
    unfold wipe
    by_cases hm : i ∈ vs
    · rw [wipe_set hm]
    · have : i = v := by
        rcases List.mem_cons.mp h with h | h
        · exact h
        · exact absurd h hm
      subst this
      have gen : ∀ (us : List Nat) (τ : L2.St), wipe (τ.set i x) us = (wipe τ us).set i (if i ∈ us then none else x) ∨ i ≥ τ.length := by
        intro us
        induction us with
        | nil => intro τ; left; simp [wipe]
        | cons u us ih =>
          intro τ
          rcases ih τ with e | e
          · left
            unfold wipe
            rw [e]
            by_cases hu : u = i
            · subst hu
              simp
            · rw [List.set_comm _ _ (fun z => hu z.symm)]
              have : (i ∈ u :: us) ↔ i ∈ us := by simp [Ne.symm hu]
              simp only [this]
          · exact .inr e
      rcases gen vs σ with e | e
      · rw [e, if_neg hm, List.set_set]
      · have l1 : (wipe (σ.set i x) vs) = wipe σ vs := by rw [List.set_eq_of_length_le e]
        rw [l1]
section
variable (w : Wo)
/-- a store of the block's own names -/
structure FrB (vs : List Nat) (Fo : Addr → Prop) (st : St) (β : List Addr) (G H : Hp) (st' : St) (β' : List Addr) (G' H' : Hp) : Prop where
  f : FrS Fo β G H β' G' H'
  ow : ∀ (i : Nat) (b : Bool) (d : D), i ∉ vs → st.env[i]? = some (some (b, d)) → isCont d = true → ∃ b' d', st'.env[i]? = some (some (b', d')) ∧ isCont d' = true
def OutB2 (vs : List Nat) (Fo : Addr → Prop) (σ : L2.St) (st : St) (β : List Addr) (G H : Hp) (Q : L2.St → Hp → Prop) : Rz Unit → Prop
  | .ok _ st' => ∀ (σ' : L2.St) (β' : List Addr) (G' H' : Hp), wipe σ' vs = wipe σ vs → FrB vs Fo st β G H st' β' G' H' → RS w Fo β' G' H' σ' st' → Q σ' H'
  | _ => False
def tGB (vs : List Nat) (g : D → M Unit) : TG := fun x σ H Q => ∃ (Fo : Addr → Prop) (β : List Addr) (G : Hp) (st : St) (d : D), RS w Fo β G H σ st ∧ Rep w β G d x ∧ OutB2 w vs Fo σ st β G H Q (g d st)
def tGBs (vs : List Nat) (ts : List (D → M Unit)) : TGs := fun xs σ H Q => ∃ (Fo : Addr → Prop) (β : List Addr) (G : Hp) (st : St) (ds : List D), RS w Fo β G H σ st ∧ Reps w β G ds xs ∧ OutB2 w vs Fo σ st β G H Q (gSeq ts ds st)
end
section
variable {w : Wo} {g : Prg} {si : SI} {k : Nat} {X : Cx} {W : WX} {a b e : Expr} {es : List Expr} {ma mb m : M DV} {pos : Pos} {Fo : Addr → Prop} {σ σ1 : L2.St} {st st1 st2 : St} {β β1 β2 : List Addr} {G H G1 H1 G2 H2 : Hp} {vs : List Nat}
theorem FrB.refl : FrB vs Fo st β G H st β G H := ⟨FrS.refl, fun _ b d _ h c => ⟨b, d, h, c⟩⟩
theorem FrB.trans (F : FrB vs Fo st β G H st1 β1 G1 H1) (F' : FrB vs Fo st1 β1 G1 H1 st2 β2 G2 H2) : FrB vs Fo st β G H st2 β2 G2 H2 :=
  ⟨F.f.trans F'.f, fun i b d hi h c => by
    obtain ⟨b', d', h', c'⟩ := F.ow i b d hi h c
    exact F'.ow i b' d' hi h' c'⟩
theorem Fr.b' (F : Fr Fo st β G H st1 β1 G1 H1) : FrB vs Fo st β G H st1 β1 G1 H1 := ⟨F.s, fun i b d _ h c => F.ow i b d h c⟩
theorem FrB.weak {Fo' : Addr → Prop} (F : FrB vs Fo' st β G H st1 β1 G1 H1) (h : ∀ a, Fo a → Fo' a) : FrB vs Fo st β G H st1 β1 G1 H1 := ⟨F.f.weak h, F.ow⟩
theorem OutB2.trans {Q : L2.St → Hp → Prop} (hw : wipe σ1 vs = wipe σ vs) (F : FrB vs Fo st β G H st1 β1 G1 H1) : ∀ (r : Rz Unit), OutB2 w vs Fo σ st β G H Q r → OutB2 w vs Fo σ1 st1 β1 G1 H1 Q r
  | .ok _ st', h => fun σ' β' G' H' w' F' R' => h σ' β' G' H' (w'.trans hw) (F.trans F') R'
  | .exc _ _ _, h => h.elim
  | .bad, h => h.elim
theorem gb_name {x : Str} {i : Nat} {p : Pos} (C : Cok w si X) (hi : ix x si.N = some i) (hs : sto si x = true) (hv : i ∈ vs) : PG X (.Name x p) (tGB w vs (putD i)) := by
  obtain ⟨hl, hf⟩ := sto_ok C hs
  refine PG.imp (pg_name C.nd (by rw [C.N]; exact ix_get hi) hl hf) fun v σ H Q h => ?_
  obtain ⟨Fo, β, G, st, d, R, r, h⟩ := h
  unfold putD at h
  by_cases hlt : i < st.env.length
  · rw [if_pos hlt] at h
    refine h _ β G H (wipe_set hv) ⟨FrS.refl, fun j b d hj h c => ⟨b, d, ?_, c⟩⟩ (R.setVal hlt r)
    rw [List.getElem?_set_ne (fun z => hj (by rw [← z]; exact hv))]
    exact h
  · rw [if_neg hlt] at h; exact h.elim
theorem gbs_nil : PGs X [] (tGBs w vs []) := PGs.imp pgs_nil fun xs σ H Q h => by
  obtain ⟨Fo, β, G, st, ds, R, r, h⟩ := h
  cases ds with
  | nil => exact ⟨reps0 r, h σ β G H rfl FrB.refl R⟩
  | cons d ds => exact h.elim
theorem gbs_cons {t : D → M Unit} {ts : List (D → M Unit)} (h1 : PG X e (tGB w vs t)) (h2 : PGs X es (tGBs w vs ts)) (hn : noStar e = true) : PGs X (e :: es) (tGBs w vs (t :: ts)) :=
  PGs.imp (pgs_cons h1 h2 (by rw [assign_plain hn]; rfl)) fun xs σ H Q h => by
    obtain ⟨Fo, β, G, st, ds, R, r, h⟩ := h
    cases ds with
    | nil => exact h.elim
    | cons d ds =>
      unfold Reps at r
      obtain ⟨v, rs, rfl, h3, h4⟩ := r
      refine ⟨v, rs, rfl, Fo, β, G, st, d, R, h3, ?_⟩
      simp only [gSeq, M.bind] at h
      cases e1 : t d st with
      | ok u st1 =>
        rw [e1] at h
        intro σ1 β1 G1 H1 w1 F1 R1
        exact ⟨Fo, β1, G1, st1, ds, R1, Reps.mono F1.f.g F1.f.b ds rs h4, OutB2.trans w1 F1 _ h⟩
      | exc c fs st1 => rw [e1] at h; exact h.elim
      | bad => rw [e1] at h; exact h.elim
theorem gb_tup {ts : List (D → M Unit)} {kk : Nat} (hK : X.K = w.K) (hc : X.calm = true) (h : PGs X es (tGBs w vs ts)) (hp : plainArgs es = true) (hl : ts.length = es.length) : PG X (.Tuple es kk pos) (tGB w vs (gTupM ts)) :=
  PG.imp (pg_tup (n := es.length) hc h (assign_len es) (assign_nost es hp)) fun v σ H Q h => by
    obtain ⟨Fo, β, G, st, d, R, r, h⟩ := h
    unfold gTupM at h
    split at h
    · rename_i ds
      unfold Rep at r
      obtain ⟨_, a, us, rfl, q, rr⟩ := r
      by_cases c : ds.length = ts.length
      · rw [if_pos c] at h
        exact ⟨a, us, rfl, SqT.of (R.sub _ _ q), by rw [rr.len, c, hl], Fo, β, G, st, ds, R, rr, h⟩
      · rw [if_neg c] at h; exact h.elim
    · rename_i ds
      unfold Rep at r
      obtain ⟨_, a, us, rfl, q, rr⟩ := r
      by_cases c : ds.length = ts.length
      · rw [if_pos c] at h
        exact ⟨a, us, rfl, by rw [hK]; exact SqT.mono R.sub.h q, by rw [rr.len, c, hl], Fo, β, G, st, ds, R, rr, h⟩
      · rw [if_neg c] at h; exact h.elim
    · exact h.elim
theorem RS.wipe (R : RS w Fo β G H σ st) (vs : List Nat) : RS w Fo β G H (L2.wipe σ vs) (st.wipe vs) where
  len := R.len
  sub := R.sub
  val := fun i d h => by
    obtain ⟨h1, h2⟩ := wipeE_some h
    obtain ⟨v, h3, h4⟩ := R.val i d h1
    exact ⟨v, by rw [wipeσ_out h2]; exact h3, h4⟩
  own := fun i d h => by
    obtain ⟨h1, h2⟩ := wipeE_some h
    obtain ⟨v, h3, h4⟩ := R.own i d h1
    exact ⟨v, by rw [wipeσ_out h2]; exact h3, h4⟩
  dis := fun i j d e a h h' q q' => by
    obtain ⟨h1, h2⟩ := wipeE_some h
    obtain ⟨h3, h4⟩ := wipeE_some h'
    rw [wipeσ_out h2] at q
    rw [wipeσ_out h4] at q'
    exact R.dis i j d e a h1 h3 q q'
  sto := R.sto
  nd := R.nd
  fo := fun a ha => by
    obtain ⟨h1, h2, h3, h4⟩ := R.fo a ha
    refine ⟨h1, h2, h3, fun i d h q => ?_⟩
    obtain ⟨k1, k2⟩ := wipeE_some h
    rw [wipeσ_out k2] at q
    exact h4 i d k1 q
  ft := R.ft
  ln := by
    show (L2.wipe σ vs).length = (wipeE st.env vs).length
    rw [L2.wipe_length, wipeE_len]; exact R.ln
  tb := R.tb
  tq := R.tq
/-- the slots of the block's names as they were -/
def restoreE (old new : List Slot) : List Nat → List Slot
  | [] => new
  | v :: vs => (restoreE old new vs).set v (old[v]?.getD none)
theorem restoreE_len (old new : List Slot) : ∀ vs, (restoreE old new vs).length = new.length
  | [] => rfl
  | v :: vs => by unfold restoreE; rw [List.length_set, restoreE_len old new vs]
theorem restoreE_out {old new : List Slot} {i : Nat} : ∀ {vs : List Nat}, i ∉ vs → (restoreE old new vs)[i]? = new[i]?
  | [], h => rfl
  | v :: vs, h => by
    simp only [List.mem_cons, not_or] at h
    unfold restoreE
    rw [List.getElem?_set_ne (Ne.symm h.1), restoreE_out h.2]
theorem restoreE_in {old new : List Slot} {i : Nat} (hl : old.length = new.length) : ∀ {vs : List Nat}, i ∈ vs → (restoreE old new vs)[i]? = old[i]?
  | [], h => by cases h
  | v :: vs, h => by
    unfold restoreE
    by_cases e : v = i
    · subst e
      by_cases hv : v < old.length
      · rw [List.getElem?_set_self (by rw [restoreE_len, ← hl]; exact hv)]
        simp [hv]
      · rw [List.getElem?_eq_none (by rw [List.length_set, restoreE_len, ← hl]; omega), List.getElem?_eq_none (by omega)]
    · rw [List.getElem?_set_ne e]
      rcases List.mem_cons.mp h with h | h
      · exact absurd h.symm e
      · exact restoreE_in hl h
/-- none of the block's names is a container of the def's own -/
def calmE (env : List Slot) (vs : List Nat) : Bool := vs.all fun v => match env[v]? with
  | some (some (true, _)) => false
  | _ => true
theorem calmE_no {env : List Slot} (h : calmE env vs = true) {i : Nat} (hi : i ∈ vs) {d : D} : env[i]? ≠ some (some (true, d)) := fun e => by
  have := List.all_eq_true.mp h i hi
  rw [e] at this
  cases this
/-- back from a block -/
theorem RS.unwipe {st' : St} (R : RS w Fo β G H σ st) (hc : calmE st.env vs = true) (F : FrB vs Fo (st.wipe vs) β G H st' β1 G1 H1) (R' : RS w Fo β1 G1 H1 (L2.wipe σ vs) (st'.wipe vs)) : RS w Fo β1 G1 H1 σ ⟨restoreE st.env st'.env vs, st'.sto⟩ ∧ Fr Fo st β G H ⟨restoreE st.env st'.env vs, st'.sto⟩ β1 G1 H1 := by
  have hl : st.env.length = st'.env.length := by
    have h1 := R'.ln
    have h2 := R.ln
    rw [L2.wipe_length] at h1
    have h3 : (st'.wipe vs).env.length = st'.env.length := wipeE_len _ _
    omega
  have T : ∀ (i : Nat) (d : D), (restoreE st.env st'.env vs)[i]? = some (some (true, d)) → i ∉ vs ∧ st'.env[i]? = some (some (true, d)) := fun i d e => by
    by_cases hi : i ∈ vs
    · rw [restoreE_in hl hi] at e
      exact absurd e (calmE_no hc hi)
    · rw [restoreE_out hi] at e
      exact ⟨hi, e⟩
  have U : ∀ (i : Nat) (x : Bool × D), i ∉ vs → st'.env[i]? = some (some x) → (st'.wipe vs).env[i]? = some (some x) := fun i x hi e => by
    show (wipeE st'.env vs)[i]? = _
    rw [wipeE_out hi]; exact e
  refine ⟨⟨R'.len, R'.sub, fun i d e => ?_, fun i d e => ?_, fun i j d e' a e1 e2 => ?_, R'.sto, R'.nd, fun a ha => ?_, R'.ft, ?_, R'.tb, R'.tq⟩, ⟨F.f.g, F.f.b, F.f.kp, fun i b d h c => ?_⟩⟩
  · by_cases hi : i ∈ vs
    · have e : (restoreE st.env st'.env vs)[i]? = some (some (false, d)) := e
      rw [restoreE_in hl hi] at e
      obtain ⟨v, h1, h2⟩ := R.val i d e
      exact ⟨v, h1, Rep.mono F.f.g F.f.b d v h2⟩
    · have e : (restoreE st.env st'.env vs)[i]? = some (some (false, d)) := e
      rw [restoreE_out hi] at e
      obtain ⟨v, h1, h2⟩ := R'.val i d (U i _ hi e)
      rw [wipeσ_out hi] at h1
      exact ⟨v, h1, h2⟩
  · obtain ⟨hi, e⟩ := T i d e
    obtain ⟨v, h1, h2⟩ := R'.own i d (U i _ hi e)
    rw [wipeσ_out hi] at h1
    exact ⟨v, h1, h2⟩
  · intro h1 h2
    obtain ⟨hi, e1⟩ := T i d e1
    obtain ⟨hj, e2⟩ := T j e' e2
    exact R'.dis i j d e' a (U i _ hi e1) (U j _ hj e2) (by rw [wipeσ_out hi]; exact h1) (by rw [wipeσ_out hj]; exact h2)
  · obtain ⟨h1, h2, h3, h4⟩ := R'.fo a ha
    refine ⟨h1, h2, h3, fun i d e q => ?_⟩
    obtain ⟨hi, e⟩ := T i d e
    exact h4 i d (U i _ hi e) (by rw [wipeσ_out hi]; exact q)
  · show σ.length = (restoreE st.env st'.env vs).length
    rw [restoreE_len, ← hl]; exact R.ln
  · by_cases hi : i ∈ vs
    · exact ⟨b, d, by show (restoreE st.env st'.env vs)[i]? = _; rw [restoreE_in hl hi]; exact h, c⟩
    · obtain ⟨b', d', h1, h2⟩ := F.ow i b d hi (by show (wipeE st.env vs)[i]? = _; rw [wipeE_out hi]; exact h) c
      exact ⟨b', d', by show (restoreE st.env st'.env vs)[i]? = _; rw [restoreE_out hi]; exact h1, h2⟩
/-- an object that only the others hold is written -/
theorem RS.updF {p : Addr} {o : HO} (R : RS w Fo β G H σ st) (hp : Fo p) (ho : ∀ xs, o ≠ .tup xs) (nt1 : ∀ ps, H p ≠ some (.tbl ps)) (nt2 : ∀ φ, H p ≠ some (.ext φ)) : RS w Fo β G (upd H p o) σ st := by
  obtain ⟨_, hg, hb, hn⟩ := R.fo p hp
  refine ⟨R.len, fun q u e => ?_, R.val, fun i d e => ?_, R.dis, fun n d q e1 e2 => ?_, R.nd, fun q hq => ?_, fun q hq xs => ?_, R.ln, tabN_upd R.tb nt1 nt2, R.tq⟩
  · rw [upd_ne]
    · exact R.sub q u e
    · intro z; subst z; rw [hg] at e; cases e
  · obtain ⟨q, h1, h2, h3, h4⟩ := R.own i d e
    refine ⟨q, h1, h2, h3, h4.mono (SubH.refl _) (SubB.refl _) (upd_ne ?_)⟩
    intro z
    subst z
    exact hn i d e h1
  · obtain ⟨h1, h2⟩ := R.sto n d q e1 e2
    refine ⟨h1, h2.mono (SubH.refl _) (SubB.refl _) (upd_ne ?_)⟩
    intro z
    exact hb (by rw [← z]; exact List.mem_of_getElem? e2)
  · obtain ⟨⟨u, hu⟩, h2⟩ := R.fo q hq
    by_cases z : q = p
    · subst z
      exact ⟨⟨o, upd_same⟩, h2⟩
    · exact ⟨⟨u, by rw [upd_ne z]; exact hu⟩, h2⟩
  · by_cases z : q = p
    · subst z
      rw [upd_same]
      intro e
      exact ho xs (Option.some.inj e)
    · rw [upd_ne z]
      exact R.ft q hq xs
end
end PD

set_option autoImplicit false
namespace PD
open PySem PySem.Spec PyProof.Rows L2

/-- the turns of a comprehension: acc what is made so far; each turn begins with the block's names gone -/
def lcL (vs : List Nat) (k : Wk) (g : D → M Unit) (t : M Bool) (elt : M DV) : List D → List D → M (List D)
  | [], acc => M.ret acc
  | d :: ds, acc => fun st => match g d (st.wipe vs) with
    | .ok _ st1 => (match t st1 with
      | .ok true st2 => (match (elt.bind fun x => frz1 x.1) st2 with
        | .ok y st3 => if k.still st3 = true ∧ acc.length < sizeLine then lcL vs k g t elt ds (acc ++ [y]) st3 else .bad
        | _ => .bad)
      | .ok false st2 => if k.still st2 = true then lcL vs k g t elt ds acc st2 else .bad
      | _ => .bad)
    | _ => .bad
/-- what a comprehension leaves -/
def lcEnd (vs : List Nat) (st0 : St) : Rz (List D) → Rz DV
  | .ok acc st => .ok (.lst acc, true) ⟨restoreE st0.env st.env vs, st.sto⟩
  | _ => .bad
def lcM (vs : List Nat) (mw : M Wk) (g : D → M Unit) (t : M Bool) (elt : M DV) : M DV := mw.bind fun k st => if k.still st = true ∧ calmE st.env vs = true then lcEnd vs st (lcL vs k g t elt k.items [] st) else .bad
section
variable {w : Wo} {gg : Prg} {si : SI} {kk : Nat} {X : Cx} {W : WX} {a b e : Expr} {es : List Expr} {ma mb m : M DV} {pos : Pos} {Fo : Addr → Prop} {σ σ1 : L2.St} {st st1 st2 : St} {β β1 β2 : List Addr} {G H G1 H1 G2 H2 : Hp} {vs : List Nat}
theorem still_wipe {k : Wk} : k.still (st.wipe vs) = k.still st := rfl
theorem wipe_env (vs : List Nat) : (st.wipe vs).wipe vs = st.wipe vs := by
  unfold St.wipe
  simp only
  congr 1
  apply List.ext_getElem?
  intro i
  by_cases hi : i ∈ vs
  · have gen : ∀ (us : List Nat) (E : List Slot), i ∈ us → (wipeE E us)[i]? = (if i < E.length then some none else none) := by
      intro us
      induction us with
      | nil => intro E h; cases h
      | cons u us ih =>
        intro E h
        unfold wipeE
        by_cases e : u = i
        · subst e
          by_cases hlt : u < E.length
          · rw [List.getElem?_set_self (by rw [wipeE_len]; exact hlt), if_pos hlt]
          · rw [List.getElem?_eq_none (by rw [List.length_set, wipeE_len]; omega), if_neg hlt]
        · rw [List.getElem?_set_ne e]
          rcases List.mem_cons.mp h with h | h
          · exact absurd h.symm e
          · exact ih E h
    rw [gen vs _ hi, gen vs _ hi, wipeE_len]
  · rw [wipeE_out hi]
theorem wipe_wipe (σ : L2.St) (vs : List Nat) : L2.wipe (L2.wipe σ vs) vs = L2.wipe σ vs := by
  apply List.ext_getElem?
  intro i
  by_cases hi : i ∈ vs
  · have gen : ∀ (us : List Nat) (E : L2.St), i ∈ us → (L2.wipe E us)[i]? = (if i < E.length then some none else none) := by
      intro us
      induction us with
      | nil => intro E h; cases h
      | cons u us ih =>
        intro E h
        unfold L2.wipe
        by_cases e : u = i
        · subst e
          by_cases hlt : u < E.length
          · rw [List.getElem?_set_self (by rw [L2.wipe_length]; exact hlt), if_pos hlt]
          · rw [List.getElem?_eq_none (by rw [List.length_set, L2.wipe_length]; omega), if_neg hlt]
        · rw [List.getElem?_set_ne e]
          rcases List.mem_cons.mp h with h | h
          · exact absurd h.symm e
          · exact ih E h
    rw [gen vs _ hi, gen vs _ hi, L2.wipe_length]
  · rw [wipeσ_out hi]
/-- the value of an element, given away -/
theorem elt_out {m : M DV} {Q : VK} {Wf : WX} {y : D} {st3 : St} (R : RS w Fo β G H σ st) (e : (m.bind fun x => frz1 x.1) st = .ok y st3)
    (h : ∀ (v : V) (β' : List Addr) (G' H' : Hp), Fr Fo st β G H st3 β' G' H' → RS w Fo β' G' H' σ st3 → Rep w β' G' y v → Q v H') : tD w Wf m σ H Q := by
  refine ⟨Fo, β, G, st, R, ?_⟩
  unfold M.bind at e
  cases e1 : m st with
  | ok x st1 =>
    obtain ⟨d, f⟩ := x
    rw [e1] at e
    intro v β1 G1 H1 F1 R1 V1
    obtain ⟨G2, F2, R2, A2⟩ := settle R1 V1
    obtain ⟨d', st4, G3, e3, F3, R3, r3⟩ := frz1_ok R2 A2
    have e : frz1 d st1 = .ok y st3 := e
    rw [e3] at e
    cases e
    exact h v β1 G3 H1 ((F1.trans F2).trans F3) R3 r3
  | exc c fs st1 => rw [e1] at e; cases e
  | bad => rw [e1] at e; cases e
/-- a turn's state -/
structure LcI (w : Wo) (vs : List Nat) (k : Wk) (Fo : Addr → Prop) (σ : L2.St) (st : St) (β : List Addr) (G H : Hp) (L : Addr) (acc : List D) (st' : St) (H' : Hp) : Prop where
  out : ∃ (β' : List Addr) (G' : Hp) (us : List V), FrB vs Fo (st.wipe vs) β G H st' β' G' H' ∧ RS w (fun a => Fo a ∨ a = L) β' G' H' (L2.wipe σ vs) (st'.wipe vs) ∧ H' L = some (.lst us) ∧ Reps w β' G' acc us ∧ acc.length ≤ sizeLine
  still : k.still st' = true
/-- one turn -/
theorem lc_turn {k : Wk} {g : D → M Unit} {t : M Bool} {elt : M DV} {L : Addr} {acc : List D} {st' : St} {H' : Hp} {x : V} {H2 : Hp} {i : Nat} {d : D} {Nx : Hp → Prop} {r : Rz (List D)} {ds : List D}
    (I : LcI w vs k Fo σ st β G H L acc st' H') (y : YD w β G k i H' x H2) (hd : k.items[i]? = some d) (hr : lcL vs k g t elt (d :: ds) acc st' = r) (hb : r ≠ .bad) (hx : ∀ c fs s, r ≠ .exc c fs s)
    (hnL : ¬ Fo L) (hN : ∀ acc2 st2 H3, LcI w vs k Fo σ st β G H L acc2 st2 H3 → lcL vs k g t elt ds acc2 st2 = r → Nx H3) :
    tGB w vs g x (L2.wipe σ vs) H2 fun σ2 H3 => L2.wipe σ2 vs = L2.wipe σ vs ∧ tB w WF t σ2 H3 fun b H4 =>
      if b = true then tD w WF elt σ2 H4 fun y H5 => ∃ acc, H5 L = some (.lst acc) ∧ acc.length < sizeLine ∧ Nx (upd H5 L (.lst (acc ++ [y]))) else Nx H4 := by
  obtain ⟨⟨β', G', us, F, R, hL, ra, hz⟩, hs⟩ := I
  obtain ⟨d', G2, e1, F2, R2, r2⟩ := yd_in (st := st'.wipe vs) F.f.b F.f.g R hs y
  rw [hd] at e1
  cases e1
  have F2' : FrB vs Fo st' β' G' H' st' β' G2 H2 := ⟨F2.weak fun a z => .inl z, fun _ b d _ h c => ⟨b, d, h, c⟩⟩
  have hL2 : H2 L = some (.lst us) := by rw [F2.kp L (.inr rfl)]; exact hL
  refine ⟨fun a => Fo a ∨ a = L, β', G2, st'.wipe vs, d, R2, r2, ?_⟩
  simp only [lcL] at hr
  cases e1 : g d (st'.wipe vs) with
  | ok u st1 =>
    rw [e1] at hr
    intro σ2 β3 G3 H3 w3 F3 R3
    rw [wipe_wipe] at w3
    refine ⟨w3, fun a => Fo a ∨ a = L, β3, G3, st1, R3, ?_⟩
    simp only at hr
    cases e2 : t st1 with
    | ok b st2 =>
      rw [e2] at hr
      intro β4 G4 H4 F4 R4
      have hL4 : H4 L = some (.lst us) := by rw [F4.kp L (.inr rfl), F3.f.kp L (.inr rfl)]; exact hL2
      have FF : FrB vs Fo (st.wipe vs) β G H st2 β4 G4 H4 := by
        refine F.trans (F2'.trans (FrB.trans ?_ (F4.b'.weak fun a z => .inl z)))
        refine ⟨F3.f.weak fun a z => .inl z, fun i b d hi h c => F3.ow i b d hi ?_ c⟩
        show (wipeE st'.env vs)[i]? = _
        rw [wipeE_out hi]; exact h
      cases b with
      | true =>
        simp only [if_true]
        simp only at hr
        cases e3 : (elt.bind fun x => frz1 x.1) st2 with
        | ok y st3 =>
          rw [e3] at hr
          simp only at hr
          refine elt_out R4 e3 fun v β5 G5 H5 F5 R5 r5 => ?_
          have hL5 : H5 L = some (.lst us) := by rw [F5.kp L (.inr rfl)]; exact hL4
          by_cases c : k.still st3 = true ∧ acc.length < sizeLine
          · rw [if_pos c] at hr
            refine ⟨us, hL5, by rw [ra.len]; exact c.2, hN (acc ++ [y]) st3 _ ⟨⟨β5, G5, us ++ [v], ?_, ?_, upd_same, ?_, by rw [List.length_append, List.length_singleton]; omega⟩, c.1⟩ hr⟩
            · refine FrB.trans FF (FrB.trans (F5.b'.weak fun a z => .inl z) ⟨⟨SubH.refl _, SubB.refl _, fun a ha => upd_ne ?_⟩, fun _ b d _ h c => ⟨b, d, h, c⟩⟩)
              intro z
              subst z
              exact hnL ha
            · have := (R5.updF (p := L) (o := .lst (us ++ [v])) (.inr rfl) (fun xs => by intro z; cases z) (fun _ z => by rw [hL5] at z; cases z) (fun _ z => by rw [hL5] at z; cases z)).wipe vs
              rw [w3] at this
              exact this
            · have m1 : SubH G' G5 := ((F2.g.trans F3.f.g).trans F4.g).trans F5.g
              have m2 : SubB β' β5 := ((F2.b.trans F3.f.b).trans F4.b).trans F5.b
              exact (Reps.mono m1 m2 acc us ra).app (Reps.cons r5 Reps.nil)
          · rw [if_neg c] at hr
            exact absurd hr.symm hb
        | exc c fs st3 => rw [e3] at hr; exact absurd hr.symm hb
        | bad => rw [e3] at hr; exact absurd hr.symm hb
      | false =>
        simp only [Bool.false_eq_true, if_false]
        simp only at hr
        by_cases c : k.still st2 = true
        · rw [if_pos c] at hr
          refine hN acc st2 H4 ⟨⟨β4, G4, us, FF, ?_, hL4, ?_, hz⟩, c⟩ hr
          · have := R4.wipe vs
            rw [w3] at this
            exact this
          · have m1 : SubH G' G4 := (F2.g.trans F3.f.g).trans F4.g
            have m2 : SubB β' β4 := (F2.b.trans F3.f.b).trans F4.b
            exact Reps.mono m1 m2 acc us ra
        · rw [if_neg c] at hr
          exact absurd hr.symm hb
    | exc c fs st2 => rw [e2] at hr; exact absurd hr.symm hb
    | bad => rw [e2] at hr; exact absurd hr.symm hb
  | exc c fs st1 => rw [e1] at hr; exact absurd hr.symm hb
  | bad => rw [e1] at hr; exact absurd hr.symm hb
/-- all turns -/
theorem lc_out {J : It} {k : Wk} {g : D → M Unit} {t : M Bool} {elt : M DV} {L : Addr} {Q : Hp → Prop} {H0 : Hp} (hL0 : H L = none) (wk : WkOk w J k β G) (R : RS w Fo β G H σ st) (hs : k.still st = true)
    {acc : List D} {stn : St} (hr : lcL vs k g t elt k.items [] st = .ok acc stn)
    (hQ : ∀ H', LcI w vs k Fo σ st β G H L acc stn H' → Q H') :
    ∃ Wi : Nat → Nat → Hp → Prop, (∃ m, Wi 0 m (upd H L (.lst []))) ∧ ∀ i m H, Wi i m H →
      (J.stop i H ∧ Q H) ∨ (J.go i H ∧ ∃ Nx : Hp → Prop, (∀ H', Nx H' → ∃ m', m' < m ∧ Wi (i + 1) m' H') ∧ ∀ x H', J.yld i H x H' → tGB w vs g x (L2.wipe σ vs) H' fun σ2 H2 => L2.wipe σ2 vs = L2.wipe σ vs ∧ tB w WF t σ2 H2 fun b H3 =>
        if b = true then tD w WF elt σ2 H3 fun y H4 => ∃ acc, H4 L = some (.lst acc) ∧ acc.length < sizeLine ∧ Nx (upd H4 L (.lst (acc ++ [y]))) else Nx H3) := by
  obtain ⟨C, wk, hC⟩ := wk.wk
  have hnL : ¬ Fo L := R.nofo hL0
  refine lc_it wk (Pv := fun i H' => ∃ acc' st', LcI w vs k Fo σ st β G H L acc' st' H' ∧ lcL vs k g t elt (k.items.drop i) acc' st' = .ok acc stn) ⟨[], st, ⟨⟨β, G, [], ?_, ?_, upd_same, Reps.nil, Nat.zero_le _⟩, hs⟩, hr⟩ ?_ ?_ ?_
  · exact ⟨⟨SubH.refl _, SubB.refl _, fun a ha => upd_ne (fun z => hnL (by rw [← z]; exact ha))⟩, fun i b d hi h c => ⟨b, d, by have h : (wipeE st.env vs)[i]? = _ := h; rw [wipeE_out hi] at h; exact h, c⟩⟩
  · have R1 : RS w (fun a => Fo a ∨ a = L) β G (upd H L (.lst [])) σ st := by
      have N := R.new (o := .lst []) hL0
      exact ⟨N.len, N.sub, N.val, N.own, N.dis, N.sto, N.nd, fun a ha => by
        rcases ha with ha | rfl
        · exact N.fo a ha
        · exact ⟨⟨_, upd_same⟩, R.nog hL0, R.notin hL0, R.noown hL0⟩, fun a ha xs => by
        rcases ha with ha | rfl
        · exact N.ft a ha xs
        · rw [upd_same]; exact fun z => HO.noConfusion (Option.some.inj z), N.ln, N.tb, fun q hq => ⟨(N.tq q hq).1, fun z => by
        rcases z with z | z
        · exact (N.tq q hq).2 z
        · obtain ⟨ps, e5, _⟩ := R.tb q hq
          rw [z, hL0] at e5
          cases e5⟩⟩
    exact R1.wipe vs
  · rintro i H' _ ⟨acc', st', I, _⟩
    obtain ⟨β', G', us, F, R', _⟩ := I.out
    exact hC _ β' G' H' _ (st'.wipe vs) F.f.b F.f.g R' I.still
  · rintro i x H' H2 hi ⟨acc', st', I, e⟩ y
    obtain ⟨d, ed⟩ : ∃ d, k.items[i]? = some d := ⟨_, List.getElem?_eq_getElem hi⟩
    have hd : k.items.drop i = d :: k.items.drop (i + 1) := by
      obtain ⟨hlt, he⟩ := List.getElem?_eq_some_iff.mp ed
      rw [List.drop_eq_getElem_cons hlt, he]
    rw [hd] at e
    exact lc_turn I y ed e (by intro z; cases z) (by intro c fs s z; cases z) hnL fun acc2 st2 H3 I2 e2 => ⟨acc2, st2, I2, e2⟩
  · rintro H' ⟨acc', st', I, e⟩
    rw [List.drop_length] at e
    have e : Rz.ok acc' st' = Rz.ok acc stn := e
    cases e
    exact hQ H' I
theorem lc_val {L : Addr} {k : Wk} {acc : List D} {stn : St} {H' : Hp} {Q : VK} (R : RS w Fo β G H σ st) (hL0 : H L = none) (hc : calmE st.env vs = true) (I : LcI w vs k Fo σ st β G H L acc stn H')
    (h : Out w W Fo σ st β G H Q (.ok (.lst acc, true) ⟨restoreE st.env stn.env vs, stn.sto⟩)) : Q (.ref L) H' := by
  obtain ⟨β', G', us, F, R', hL, ra, hz⟩ := I.out
  obtain ⟨R2, F2⟩ := R.unwipe hc F (R'.weak fun a z => .inl z)
  obtain ⟨_, g1, g2, g3⟩ := R'.fo L (.inr rfl)
  refine h (.ref L) β' G' H' F2 R2 (RepV.fresh g1 g2 (fun i d e q => ?_) (R.nofo hL0) ⟨hz, us, hL, ra⟩)
  have e : (restoreE st.env stn.env vs)[i]? = some (some (true, d)) := e
  have hl : st.env.length = stn.env.length := by
    have h1 := R2.ln
    have h2 : σ.length = (restoreE st.env stn.env vs).length := h1
    rw [restoreE_len] at h2
    rw [← h2]; exact R.ln.symm
  by_cases hi : i ∈ vs
  · rw [restoreE_in hl hi] at e
    exact calmE_no hc hi e
  · rw [restoreE_out hi] at e
    exact g3 i d (by show (wipeE stn.env vs)[i]? = _; rw [wipeE_out hi]; exact e) (by rw [wipeσ_out hi]; exact q)
/-- as HandS has it -/
theorem lc_tLc {mw : M Wk} {g : D → M Unit} {t : M Bool} {elt : M DV} {Q : VK} (h : tD w W (lcM vs mw g t elt) σ H Q) : tLc (tI w W mw) (tGB w vs g) (tB w WF t) (tD w WF elt) vs σ H Q := by
  obtain ⟨Fo, β, G, st, R, h⟩ := h
  refine ⟨Fo, β, G, st, R, ?_⟩
  unfold lcM at h
  cases e1 : mw st with
  | ok k st1 =>
    rw [M.bind_ok e1] at h
    by_cases c : k.still st1 = true ∧ calmE st1.env vs = true
    · rw [if_pos c] at h
      refine ⟨c.1, fun J β1 G1 H1 F1 R1 wk L hL => ?_⟩
      cases e2 : lcL vs k g t elt k.items [] st1 with
      | ok acc stn =>
        rw [e2] at h
        have h := h.trans F1
        exact lc_out (H0 := H1) hL wk R1 c.1 e2 fun H' I => lc_val R1 hL c.2 I h
      | exc _ _ _ => rw [e2] at h; exact h.elim
      | bad => rw [e2] at h; exact h.elim
    · rw [if_neg c] at h
      exact h.elim
  | exc c fs st1 =>
    unfold M.bind at h
    rw [e1] at h
    exact fun β' G' H' dx gs F R e r => h β' G' H' dx gs F R e r
  | bad => unfold M.bind at h; rw [e1] at h; exact h.elim
/-- the block's own names with their places -/
def ownOf (N : List Str) (scope : Scope) : List (Str × Nat) := scope.names.filterMap fun y => match y.2 with
  | .local => (ix y.1 N).map fun i => (y.1, i)
  | .cell => (ix y.1 N).map fun i => (y.1, i)
  | _ => none
theorem d_lc {elt tg iter : Expr} {ifs : List Expr} {scope : Scope} {own : List (Str × Nat)} {mw : M Wk} {g : D → M Unit} {t : M Bool} {me : M DV} (C : Cok w si X) (hi : PI X tg iter (tI w W mw)) (ok : blkC si.N si.sc scope own = true)
    (hg : ∀ (s : Shared) (H : Hp) (A : Addr) (cl : List (Str × Addr)) (fp : List Addr), PG (X.blk s H scope (compEnvC scope cl A X.env) fp) tg (tGB w (own.map (·.2)) g)) (ht : ∀ (s : Shared) (H : Hp) (A : Addr) (cl : List (Str × Addr)) (fp : List Addr), PTs (X.blk s H scope (compEnvC scope cl A X.env) fp) ifs (tB w WF t))
    (he : ∀ (s : Shared) (H : Hp) (A : Addr) (cl : List (Str × Addr)) (fp : List Addr), PE (X.blk s H scope (compEnvC scope cl A X.env) fp) elt (tD w WF me)) (hs : ∀ x, foldedSetIterable iter X.env x = pure x) :
    PE X (.ListComp elt [⟨tg, iter, ifs, 0⟩] scope pos) (tD w W (lcM (own.map (·.2)) mw g t me)) :=
  PE.imp (pe_lc C.calm C.nd hi (blkOk_by (by rw [C.N, C.sc]; exact ok)) hg ht he hs) fun σ H Q h => lc_tLc h
/-- name = [..] on one line -/
theorem s_asgLc {i : Nat} {o : Md} {y : Str} {py spos : Pos} {elt tg iter : Expr} {ifs : List Expr} {scope : Scope} {own : List (Str × Nat)} {mw : M Wk} {g : D → M Unit} {t : M Bool} {me : M DV} (C : Cok w si X) (hi : PI X tg iter (tI w W mw)) (ok : blkC si.N si.sc scope own = true)
    (hy : ix y si.N = some i) (hl : decide (si.sc.names.lookup y = some .local) = true) (hf : X.env.scope.kind = .function) (hline : (py.line == pos.line) = true) (hna : (scope.names.any fun (n, k) => n == y && (k == .local || k == .cell)) = false)
    (hg : ∀ (s : Shared) (H : Hp) (A : Addr) (cl : List (Str × Addr)) (fp : List Addr), PG (X.blk s H scope (compEnvC scope cl A X.env) fp) tg (tGB w (own.map (·.2)) g)) (ht : ∀ (s : Shared) (H : Hp) (A : Addr) (cl : List (Str × Addr)) (fp : List Addr), PTs (X.blk s H scope (compEnvC scope cl A X.env) fp) ifs (tB w WF t))
    (he : ∀ (s : Shared) (H : Hp) (A : Addr) (cl : List (Str × Addr)) (fp : List Addr), PE (X.blk s H scope (compEnvC scope cl A X.env) fp) elt (tD w WF me)) (hs : ∀ x, foldedSetIterable iter X.env x = pure x) :
    PS X (.Assign [.Name y py] (.ListComp elt [⟨tg, iter, ifs, 0⟩] scope pos) spos) (tS w W (asgM i o (lcM (own.map (·.2)) mw g t me))) := by
  have hl' : X.env.scope.names.lookup y = some .local := by rw [C.sc]; exact of_decide_eq_true hl
  refine PS.imp (ps_setLc C.calm C.nd (by rw [C.N]; exact ix_get hy) hl' (sw_true hf hl' hline hna) hi (blkOk_by (by rw [C.N, C.sc]; exact ok)) hg ht he hs) fun D σ H q => ?_
  refine lc_tLc (tD_stmt q fun Fo d f v st β G H R V q => ?_)
  rcases put_ok (i := i) (own := o) R V with h1 | ⟨st', β', G', h1, F, R'⟩
  · rw [M.bind_bad h1] at q
    exact q.elim
  · rw [M.bind_ok h1] at q
    exact q (σ.set i (some v)) β' G' H F R'
end
end PD

set_option autoImplicit false
namespace PD
open PySem PySem.Spec PyProof.Rows L2

/-! ### sorted -/
/-- an item as data -/
def encD (d : D) : PyData := (toP d).getD .none
/-- may such items be sorted -/
def allP (ds : List D) : Bool := ds.all fun d => (toP d).isSome
def allAlike (ds : List D) : Bool := ds.all fun a => ds.all fun b => PySem.W.alike (encD a) (encD b)
def isTupP : PyData → Bool
  | .tuple (_ :: _) => true
  | _ => false
def isPlainP : PyData → Bool
  | .none => false
  | .tuple _ => false
  | _ => true
def sortableD (ds : List D) : Bool := ds.all (fun d => isTupP (encD d)) || ds.all (fun d => isPlainP (encD d))
def shallow (ds : List D) : Bool := ds.all fun d => decide ((encD d).depth ≤ 50)
def leD (a b : D) : Bool := PySem.W.dataLe false encD a b
def sortOk (ds : List D) : Bool := allP ds && allAlike ds && sortableD ds && shallow ds
section
variable {w : Wo} {gg : Prg} {si : SI} {kk : Nat} {X : Cx} {W : WX} {a b e : Expr} {es : List Expr} {ma mb m : M DV} {pos : Pos} {Fo : Addr → Prop} {σ σ1 : L2.St} {st st1 st2 : St} {β β1 β2 : List Addr} {G H G1 H1 G2 H2 : Hp} {vs : List Nat}
theorem alike_of {ds : List D} (h : allAlike ds = true) : PySem.W.AllAlike (ds.map encD) := by
  intro x hx y hy
  obtain ⟨a, ha, rfl⟩ := List.mem_map.mp hx
  obtain ⟨b, hb, rfl⟩ := List.mem_map.mp hy
  exact List.all_eq_true.mp (List.all_eq_true.mp h a ha) b hb
theorem sortable_of {ds : List D} (h : sortableD ds = true) : PySem.W.Sortable (ds.map encD) := by
  unfold sortableD at h
  rw [Bool.or_eq_true] at h
  rcases h with h | h
  · refine .inl fun x hx => ?_
    obtain ⟨a, ha, rfl⟩ := List.mem_map.mp hx
    have h := List.all_eq_true.mp h a ha
    unfold isTupP at h
    split at h
    · rename_i y r e
      exact ⟨y, r, e⟩
    · cases h
  · refine .inr fun x hx => ?_
    obtain ⟨a, ha, rfl⟩ := List.mem_map.mp hx
    have h := List.all_eq_true.mp h a ha
    unfold isPlainP at h
    split at h
    · cases h
    · cases h
    · rename_i h1 h2
      exact ⟨h1, h2⟩
/-- sorted(xs) of a list of data -/
def rSortD (w : Wo) (K : PySem.W.Frag) : List V → Hp → VK → Prop := fun vs H Q => ∃ (a : Addr) (xs : List V) (ds : List D) (β : List Addr) (G : Hp), vs = [V.ref a] ∧ SqL K H a xs ∧ SubE G H ∧ Reps w β G ds xs ∧ sortOk ds = true ∧
  ∀ (ys : List V) (p : Addr), Reps w β G (ds.mergeSort leD) ys → H p = none → Q (.ref p) (upd H p (.lst ys))
theorem vals_each {K : PySem.W.Frag} (hK : K = w.K) {pins : List (Addr × Obj)} {s : Shared} {X : Cx} (hX : X.K = K) (I : Inv X pins σ H s) (sub : SubE G H) : ∀ {ds : List D} {xs : List V} {us : List Value}, Reps w β G ds xs → Vals xs us → allP ds = true →
    PySem.W.EachIs (fun u d => ∃ x, RelV x u ∧ Rep w β G d x) us ds ∧ PySem.W.EachIs (fun u d => ∃ as, Reads s.heap u (encD d) as) us ds
  | [], xs, us, r, v, _ => by
    have := reps0 r
    subst this
    cases v
    exact ⟨.nil, .nil⟩
  | d :: ds, xs, us, r, v, h => by
    unfold Reps at r
    obtain ⟨x, rs, rfl, h1, h2⟩ := r
    have h : ((toP d).isSome && allP ds) = true := h
    rw [Bool.and_eq_true] at h
    cases v with
    | cons v1 v2 =>
      obtain ⟨q1, q2⟩ := vals_each hK hX I sub h2 v2 h.2
      obtain ⟨p, hp⟩ := Option.isSome_iff_exists.mp h.1
      have e : encD d = p := by unfold encD; rw [hp]; rfl
      have dp : Dp X.K H x p := by rw [hX, hK]; exact Rep.dp sub d x p h1 hp
      obtain ⟨as, ra⟩ := Dp.reads I p x _ dp v1
      exact ⟨.cons ⟨x, v1, h1⟩ q1, .cons ⟨as, by rw [e]; exact ra⟩ q2⟩
theorem each_back : ∀ {ds : List D} {us : List Value}, PySem.W.EachIs (fun u d => ∃ x, RelV x u ∧ Rep w β G d x) us ds → ∃ xs, Vals xs us ∧ Reps w β G ds xs
  | [], us, h => by
    cases h
    exact ⟨[], .nil, Reps.nil⟩
  | d :: ds, us, h => by
    cases h with
    | cons h1 h2 =>
      obtain ⟨x, r1, r2⟩ := h1
      obtain ⟨xs, r3, r4⟩ := each_back h2
      exact ⟨x :: xs, .cons r1 r3, Reps.cons r2 r4⟩
theorem cr_sortD (hK : X.K = w.K) (hu : X.A.units + 64 < cLine) : CallR X (.builtin "sorted") (rSortD w X.K) := by
  intro pins s σ H vs us Q I r h
  obtain ⟨a, xs, ds, β, G, rfl, hs, sub, rr, ok, q⟩ := h
  obtain ⟨its, rv, hl, hz⟩ := I.list hs
  rw [Vals.ref1 r]
  unfold sortOk at ok
  simp only [Bool.and_eq_true] at ok
  obtain ⟨⟨⟨h1, h2⟩, h3⟩, h4⟩ := ok
  obtain ⟨e1, e2⟩ := vals_each (X := X) (K := X.K) hK rfl I sub rr rv h1
  have hn : ds.length ≤ sizeLine := by rw [← rr.len]; exact hz
  refine PySem.W.sorted_data (R := fun u d => ∃ x, RelV x u ∧ Rep w β G d x) (enc := encD) (bs := ds) hl.isList e1 e2 (alike_of h2) (sortable_of h3) hn (fun b hb => ?_) fun out ho eo => ?_
  · have := of_decide_eq_true (List.all_eq_true.mp h4 b hb)
    omega
  · obtain ⟨ys, r1, r2⟩ := each_back eo
    obtain ⟨ep, he'⟩ := PyProof.Rows.sortedAll_at s.heap its out.toArray
    have hlen : ys.length ≤ sizeLine := by rw [r1.length, ho]; exact hn
    exact ⟨.ref _, upd H (s.heap.objs.size + 1) (.lst ys), I.laid (t' := s.toks) (fun _ _ => PyProof.Rows.sortedAll_old) (Nat.le_succ _) ⟨hlen, out, ep, r1, he'⟩, rfl, q ys _ r2 (I.hok.fresh (Nat.le_succ _))⟩
/-! ### arguments -/
theorem repA_held (R : RS w Fo β G H σ st) {d : D} {v : V} (A : RepA w σ st β G d v) : Held w β G H (deref st d) v := (A.repV).held R
theorem repAs1 {d : D} {vs : List V} (h : RepAs w σ st β G [d] vs) : ∃ v, vs = [v] ∧ RepA w σ st β G d v := by
  obtain ⟨v, r, e, h1, h2⟩ := h
  have h2 : r = [] := h2
  subst h2
  exact ⟨v, e, h1⟩
theorem repAs2 {d d2 : D} {vs : List V} (h : RepAs w σ st β G [d, d2] vs) : ∃ v u, vs = [v, u] ∧ RepA w σ st β G d v ∧ RepA w σ st β G d2 u := by
  obtain ⟨v, r, e, h1, h2⟩ := h
  obtain ⟨u, e2, h3⟩ := repAs1 h2
  subst e2
  exact ⟨v, u, e, h1, h3⟩
/-- one argument, by what it is -/
def one (k : D → St → Rz DV) : List D → M DV := fun ds st => match ds with
  | [d] => k (deref st d) st
  | _ => .bad
theorem one_ok {r : List V → Hp → VK → Prop} {k : D → St → Rz DV} (h : ∀ (W : WX) (Fo : Addr → Prop) (σ : L2.St) (st : St) (β : List Addr) (G H : Hp) (Q : VK) (d : D) (v : V), RS w Fo β G H σ st → Held w β G H d v → Out w W Fo σ st β G H Q (k d st) → r [v] H Q) : CallS w r (one k) := by
  intro W Fo σ st β G H Q ds vs R A q
  unfold one at q
  split at q
  · obtain ⟨v, rfl, A1⟩ := repAs1 A
    exact h W Fo σ st β G H Q _ v R (repA_held R A1) q
  · exact q.elim
def sortM1 (d : D) (st : St) : Rz DV := match d with
  | .lst ds => if sortOk ds = true then newL (ds.mergeSort leD) st else .bad
  | .fro ds => if sortOk ds = true then newL (ds.mergeSort leD) st else .bad
  | _ => .bad
theorem sort_ok : CallS w (rSortD w w.K) (one sortM1) := one_ok fun W Fo σ st β G H Q d v R hd q => by
  unfold sortM1 at q
  split at q
  · rename_i ds
    obtain ⟨_, a, xs, rfl, e, r⟩ := hd.lst R.sub
    split at q
    · rename_i c
      exact ⟨a, xs, ds, β, G, rfl, SqL.of e, R.sub, r, c, fun ys p hr hp => (newL_ok R hr q).2 p hp⟩
    · exact q.elim
  · rename_i ds
    obtain ⟨_, a, xs, rfl, e, r⟩ := hd.fro R.sub
    split at q
    · rename_i c
      exact ⟨a, xs, ds, β, G, rfl, e, R.sub, r, c, fun ys p hr hp => (newL_ok R hr q).2 p hp⟩
    · exact q.elim
  · exact q.elim
/-! ### len -/
def lenM1 (d : D) (st : St) : Rz DV := match d with
  | .lst ds => .ok (.int ds.length, false) st
  | .fro ds => .ok (.int ds.length, false) st
  | .tup ds => .ok (.int ds.length, false) st
  | .ftu ds => .ok (.int ds.length, false) st
  | .str x => .ok (.int x.length, false) st
  | .dct kvs => .ok (.int kvs.length, false) st
  | .dtt kvs => .ok (.int kvs.length, false) st
  | _ => .bad
def rLen (K : PySem.W.Frag) : List V → Hp → VK → Prop := fun xs H Q => (∃ p ys, xs = [.ref p] ∧ (SqL K H p ys ∨ SqT K H p ys) ∧ Q (.int ys.length) H) ∨ (∃ z, xs = [.str z] ∧ z.length ≤ sizeLine ∧ Q (.int z.length) H) ∨ (∃ a kvs, xs = [V.ref a] ∧ Rd H a (.dK kvs) ∧ Q (.int kvs.length) H) ∨ (∃ a kvs, xs = [V.ref a] ∧ Rd H a (.dT kvs) ∧ Q (.int kvs.length) H)
theorem call_lenRd : CallR X (.builtin "len") (fun xs H Q => ∃ a kvs, xs = [V.ref a] ∧ Rd H a (.dK kvs) ∧ Q (.int kvs.length) H) := by
  intro pins s σ H xs us Q I r h
  obtain ⟨a, kvs, rfl, ha, q⟩ := h
  obtain ⟨u, rfl, ru⟩ := vals1 r
  cases ru
  exact d_len I ha fun t s' I' => ⟨.int kvs.length, H, I', ⟨t, rfl⟩, q⟩
theorem call_lenRdT : CallR X (.builtin "len") (fun xs H Q => ∃ a kvs, xs = [V.ref a] ∧ Rd H a (.dT kvs) ∧ Q (.int kvs.length) H) := by
  intro pins s σ H xs us Q I r h
  obtain ⟨p, kvs, rfl, hp, q⟩ := h
  obtain ⟨u, rfl, ru⟩ := vals1 r
  cases ru
  obtain ⟨z, hd, ys, rel, dd⟩ := dt_rd I.hok hp
  have hl : kvs.length = ys.length := Paired.length rel
  have hn := line63
  refine call_len_dictH hd dd (by rw [← hl]; omega) ⟨.int kvs.length, H, I.tok _, ⟨_, by rw [hl]⟩, q⟩
theorem cr_len : CallR X (.builtin "len") (rLen X.K) := CallR.or call_len_seq (CallR.or call_len_str (CallR.or call_lenRd call_lenRdT))
theorem len_ok : CallS w (rLen w.K) (one lenM1) := one_ok fun W Fo σ st β G H Q d v R hd q => by
  unfold lenM1 at q
  split at q
  · obtain ⟨_, a, xs, rfl, e, r⟩ := hd.lst R.sub
    exact .inl ⟨a, xs, rfl, .inl (SqL.of e), by rw [r.len]; exact q _ β G H Fr.refl R (RepV.val rep_int)⟩
  · obtain ⟨_, a, xs, rfl, e, r⟩ := hd.fro R.sub
    exact .inl ⟨a, xs, rfl, .inl e, by rw [r.len]; exact q _ β G H Fr.refl R (RepV.val rep_int)⟩
  · obtain ⟨_, a, xs, rfl, e, r⟩ := hd.tup R.sub
    exact .inl ⟨a, xs, rfl, .inr (SqT.of e), by rw [r.len]; exact q _ β G H Fr.refl R (RepV.val rep_int)⟩
  · obtain ⟨_, a, xs, rfl, e, r⟩ := hd.ftu R.sub
    exact .inl ⟨a, xs, rfl, .inr e, by rw [r.len]; exact q _ β G H Fr.refl R (RepV.val rep_int)⟩
  · obtain ⟨rfl, hz⟩ := hd.str
    exact .inr (.inl ⟨_, rfl, hz, q _ β G H Fr.refl R (RepV.val rep_int)⟩)
  · obtain ⟨_, a, ks, rfl, e, r⟩ := hd.dct R.sub
    exact .inr (.inr (.inl ⟨a, ks, rfl, e, by rw [r.len]; exact q _ β G H Fr.refl R (RepV.val rep_int)⟩))
  · obtain ⟨_, a, ks, rfl, e, r⟩ := hd.dtt R.sub
    exact .inr (.inr (.inr ⟨a, ks, rfl, e, by rw [r.len]; exact q _ β G H Fr.refl R (RepV.val rep_int)⟩))
  · exact q.elim
/-! ### list, tuple -/
theorem reps_keysK : ∀ {kvs : List (D × D)} {ks : List (Key × V)}, RepsK w β G kvs ks → (∀ kv ∈ kvs, ∀ x, kv.1 = .str x → x.length ≤ sizeLine) → Reps w β G (kvs.map (·.1)) (ks.map fun kv => kV kv.1)
  | [], ks, h, _ => by unfold RepsK at h; subst h; exact Reps.nil
  | (k, d) :: r, ks, h, hl => by
    unfold RepsK at h
    obtain ⟨q, v, rr, rfl, hq, hd, ht⟩ := h
    refine Reps.cons ?_ (reps_keysK ht fun kv hk => hl kv (List.mem_cons_of_mem _ hk))
    have h1 := hl (k, d) (List.mem_cons_self ..)
    cases k with
    | int i => cases hq; exact rep_int
    | str x => cases hq; exact rep_str (h1 x rfl)
    | _ => cases hq
def keyLens (kvs : List (D × D)) : Bool := kvs.all fun kv => match kv.1 with
  | .str x => decide (x.length ≤ sizeLine)
  | _ => true
theorem keyLens_ok {kvs : List (D × D)} (h : keyLens kvs = true) : ∀ kv ∈ kvs, ∀ x, kv.1 = .str x → x.length ≤ sizeLine := fun kv hk x e => by
  have := List.all_eq_true.mp h kv hk
  rw [e] at this
  exact of_decide_eq_true this
theorem keys_reps : ∀ {ds : List D} {qs : List Key}, dKeys ds = some qs → (∀ d ∈ ds, ∀ x, d = .str x → x.length ≤ sizeLine) → Reps w β G ds (qs.map kV)
  | [], qs, h, _ => by
    simp only [dKeys, Option.some.injEq] at h
    subst h
    exact Reps.nil
  | d :: ds, qs, h, hl => by
    simp only [dKeys] at h
    split at h
    · rename_i q qs' e1 e2
      cases h
      refine Reps.cons ?_ (keys_reps e2 fun x hx => hl x (List.mem_cons_of_mem _ hx))
      have h1 := hl d (List.mem_cons_self ..)
      cases d with
      | int i => cases e1; exact rep_int
      | str x => cases e1; exact rep_str (h1 x rfl)
      | _ => cases e1
    · cases h
def intKey (k : D) : Bool := match k with
  | .tup ds => ds.all isInt && decide (ds.length ≤ sizeLine)
  | _ => false
def intKeys (kvs : List (D × D)) : Bool := kvs.all fun kv => intKey kv.1
/-- the key tuples join what does not change -/
theorem keysT_ok : ∀ {kvs : List (D × D)} {ks : List (List Key × V)} {bs : List Addr} {G : Hp}, RS w Fo β G H σ st → RepsT w β G kvs ks → IsKeys H ks bs → intKeys kvs = true → ∃ G', SubH G G' ∧ RS w Fo β G' H σ st ∧ Reps w β G' (kvs.map (·.1)) (bs.map V.ref)
  | [], ks, bs, G, R, h, hb, _ => by
    unfold RepsT at h; subst h
    cases hb
    exact ⟨G, SubH.refl _, R, Reps.nil⟩
  | (k, d) :: r, ks, bs, G, R, h, hb, hi => by
    unfold RepsT at h
    obtain ⟨q, v, rr, rfl, hq, hd, ht⟩ := h
    have hi : (intKey k && intKeys r) = true := hi
    rw [Bool.and_eq_true] at hi
    cases hb with
    | @cons _ b _ bs' hb1 hb2 =>
      have hb1 : H b = some (.tup (q.map kV)) := hb1
      cases k with
      | tup ds =>
        have hi1 : (ds.all isInt && decide (ds.length ≤ sizeLine)) = true := hi.1
        rw [Bool.and_eq_true] at hi1
        have hz : ds.length ≤ sizeLine := of_decide_eq_true hi1.2
        -- the key's own tuple
        have key : ∃ G1, SubH G G1 ∧ RS w Fo β G1 H σ st ∧ G1 b = some (.tup (q.map kV)) := by
          cases eg : G b with
          | some o =>
            have := R.sub b o eg
            rw [hb1] at this
            cases this
            exact ⟨G, SubH.refl _, R, eg⟩
          | none =>
            have nb : b ∉ β := fun hm => by
              obtain ⟨n, hn⟩ := List.getElem?_of_mem hm
              have hlt : n < st.sto.length := by rw [← R.len]; exact (List.getElem?_eq_some_iff.mp hn).1
              exact (R.sto n st.sto[n] b (by simp [hlt]) hn).2.nt _ _ hb1
            have no : NoOwn σ st b := fun i d e1 e2 => by
              obtain ⟨a, q1, _, _, q4⟩ := R.own i d e1
              rw [e2] at q1
              cases q1
              exact q4.nt _ _ hb1
            have nf : ¬ Fo b := fun hf => R.ft b hf _ hb1
            exact ⟨upd G b (.tup (q.map kV)), SubH.new eg, R.keep hb1 eg nb no nf (fun ps z => by cases z), upd_same⟩
        obtain ⟨G1, g1, R1, k1⟩ := key
        obtain ⟨G2, g2, R2, r2⟩ := keysT_ok R1 (RepsT.mono g1 (SubB.refl _) r rr ht) hb2 hi.2
        refine ⟨G2, g1.trans g2, R2, Reps.cons ?_ r2⟩
        have hq : dKeys ds = some q := hq
        unfold Rep
        refine ⟨hz, b, q.map kV, rfl, g2.ex k1 rfl, keys_reps hq fun x hx y e => ?_⟩
        have := List.all_eq_true.mp hi1.1 x hx
        rw [e] at this
        cases this
      | _ => cases hi.1
def listM1 (d : D) (st : St) : Rz DV := match d with
  | .lst ds => newL ds st
  | .fro ds => newL ds st
  | .tup ds => newL ds st
  | .ftu ds => newL ds st
  | .dct kvs => if keyLens kvs = true then newL (kvs.map (·.1)) st else .bad
  | .dtt kvs => if intKeys kvs = true then newL (kvs.map (·.1)) st else .bad
  | _ => .bad
def rList (K : PySem.W.Frag) : List V → Hp → VK → Prop := fun xs H Q => (∃ p ys, xs = [.ref p] ∧ (SqL K H p ys ∨ SqT K H p ys) ∧ ∀ l, H l = none → Q (.ref l) (upd H l (.lst ys))) ∨
  (∃ (a : Addr) (kvs : List (Key × V)), xs = [.ref a] ∧ Rd H a (.dK kvs) ∧ ∀ p, H p = none → Q (.ref p) (upd H p (.lst (kvs.map fun kv => kV kv.1)))) ∨
  (∃ d kvs, xs = [V.ref d] ∧ Rd H d (.dT kvs) ∧ ∀ p bs, H p = none → IsKeys H kvs bs → Q (.ref p) (upd H p (.lst (bs.map V.ref))))
theorem cr_list (hc : X.calm = true) : CallR X (.type "list") (rList X.K) := CallR.or call_list_of (CallR.or (call_listD hc) (call_list_dT hc))
theorem list_ok : CallS w (rList w.K) (one listM1) := one_ok fun W Fo σ st β G H Q d v R hd q => by
  unfold listM1 at q
  split at q
  · obtain ⟨_, a, xs, rfl, e, r⟩ := hd.lst R.sub
    exact .inl ⟨a, xs, rfl, .inl (SqL.of e), (newL_ok R r q).2⟩
  · obtain ⟨_, a, xs, rfl, e, r⟩ := hd.fro R.sub
    exact .inl ⟨a, xs, rfl, .inl e, (newL_ok R r q).2⟩
  · obtain ⟨_, a, xs, rfl, e, r⟩ := hd.tup R.sub
    exact .inl ⟨a, xs, rfl, .inr (SqT.of e), (newL_ok R r q).2⟩
  · obtain ⟨_, a, xs, rfl, e, r⟩ := hd.ftu R.sub
    exact .inl ⟨a, xs, rfl, .inr e, (newL_ok R r q).2⟩
  · split at q
    · rename_i c
      obtain ⟨_, a, ks, rfl, e, r⟩ := hd.dct R.sub
      exact .inr (.inl ⟨a, ks, rfl, e, (newL_ok R (reps_keysK r (keyLens_ok c)) q).2⟩)
    · exact q.elim
  · split at q
    · rename_i c
      obtain ⟨_, a, ks, rfl, e, r⟩ := hd.dtt R.sub
      refine .inr (.inr ⟨a, ks, rfl, e, fun p bs hp hk => ?_⟩)
      obtain ⟨G', g', R', rr⟩ := keysT_ok R r hk c
      exact (newL_ok R' rr (q.trans ⟨g', SubB.refl _, fun _ _ => rfl, fun _ b d h c => ⟨b, d, h, c⟩⟩)).2 p hp
    · exact q.elim
  · exact q.elim
end
end PD

set_option autoImplicit false
namespace PD
open PySem PySem.Spec PyProof.Rows L2

section
variable {w : Wo} {gg : Prg} {si : SI} {kk : Nat} {X : Cx} {W : WX} {a b e : Expr} {es : List Expr} {ma mb m : M DV} {pos : Pos} {Fo : Addr → Prop} {σ σ1 : L2.St} {st st1 st2 : St} {β β1 β2 : List Addr} {G H G1 H1 G2 H2 : Hp} {vs : List Nat}
def tupM1 (d : D) (st : St) : Rz DV := match d with
  | .lst ds => newT ds st
  | .fro ds => newT ds st
  | .tup ds => .ok (.tup ds, false) st
  | _ => .bad
theorem Held.rep {d : D} {v : V} (h : Held w β G H d v) (hc : isCont d = false) : Rep w β G d v := by
  cases h with
  | val h => exact h
  | own h => have := h.cont; rw [hc] at this; cases this
theorem tup_ok : CallS w (fun xs H Q => ∃ p ys, xs = [.ref p] ∧ ((SqL w.K H p ys ∧ ∀ l, H l = none → Q (.ref l) (upd H l (.tup ys))) ∨ (SqT w.K H p ys ∧ Q (.ref p) H))) (one tupM1) := one_ok fun W Fo σ st β G H Q d v R hd q => by
  unfold tupM1 at q
  split at q
  · obtain ⟨_, a, xs, rfl, e, r⟩ := hd.lst R.sub
    exact ⟨a, xs, rfl, .inl ⟨SqL.of e, (newT_ok R r q).2⟩⟩
  · obtain ⟨_, a, xs, rfl, e, r⟩ := hd.fro R.sub
    exact ⟨a, xs, rfl, .inl ⟨e, (newT_ok R r q).2⟩⟩
  · have hr := Held.rep hd rfl
    obtain ⟨_, a, xs, rfl, e, r⟩ := hd.tup R.sub
    exact ⟨a, xs, rfl, .inr ⟨SqT.of e, q _ β G H Fr.refl R (RepV.val hr)⟩⟩
  · exact q.elim
/-- a list of truth values -/
def bls : List D → Option (List Bool)
  | [] => some []
  | .bl b :: r => (bls r).map (b :: ·)
  | _ => none
theorem bls_reps : ∀ {ds : List D} {bs : List Bool} {vs : List V}, bls ds = some bs → Reps w β G ds vs → vs = bs.map V.bl
  | [], bs, vs, h, r => by
    simp only [bls, Option.some.injEq] at h
    subst h
    exact reps0 r
  | d :: ds, bs, vs, h, r => by
    unfold Reps at r
    obtain ⟨v, rr, rfl, h1, h2⟩ := r
    cases d with
    | bl b =>
      simp only [bls] at h
      obtain ⟨zs, e1, e2⟩ := Option.map_eq_some_iff.mp h
      subst e2
      unfold Rep at h1
      rw [h1, bls_reps e1 h2]
      rfl
    | _ => simp [bls] at h
def allM1 (d : D) (st : St) : Rz DV := match d with
  | .lst ds => (match bls ds with
    | some bs => .ok (.bl (bs.all id), false) st
    | none => .bad)
  | _ => .bad
theorem all_ok : CallS w (rAll w.K) (one allM1) := one_ok fun W Fo σ st β G H Q d v R hd q => by
  unfold allM1 at q
  split at q
  · obtain ⟨_, a, xs, rfl, e, r⟩ := hd.lst R.sub
    split at q
    · rename_i bs eb
      have := bls_reps eb r
      subst this
      exact ⟨a, bs, rfl, SqL.of e, q _ β G H Fr.refl R (RepV.val rep_bl)⟩
    · exact q.elim
  · exact q.elim
def anyM1 (d : D) (st : St) : Rz DV := match d with
  | .lst ds => (match bls ds with
    | some bs => .ok (.bl (bs.any id), false) st
    | none => .bad)
  | _ => .bad
theorem any_ok : CallS w (rAny w.K) (one anyM1) := one_ok fun W Fo σ st β G H Q d v R hd q => by
  unfold anyM1 at q
  split at q
  · obtain ⟨_, a, xs, rfl, e, r⟩ := hd.lst R.sub
    split at q
    · rename_i bs eb
      have := bls_reps eb r
      subst this
      exact ⟨a, bs, rfl, SqL.of e, q _ β G H Fr.refl R (RepV.val rep_bl)⟩
    · exact q.elim
  · exact q.elim
def absM1 (d : D) (st : St) : Rz DV := match d with
  | .int i => .ok (.int (if i < 0 then -i else i), false) st
  | _ => .bad
theorem abs_ok : CallS w (fun xs H Q => ∃ i, xs = [.int i] ∧ Q (.int (if i < 0 then -i else i)) H) (one absM1) := one_ok fun W Fo σ st β G H Q d v R hd q => by
  unfold absM1 at q
  split at q
  · have := hd.int
    subst this
    exact ⟨_, rfl, q _ β G H Fr.refl R (RepV.val rep_int)⟩
  · exact q.elim
def intM1 (d : D) (st : St) : Rz DV := match d with
  | .int i => .ok (.int i, false) st
  | .bl k => .ok (.int (if k then 1 else 0), false) st
  | .str x => (match PySem.intText? x with
    | some n => if x.length ≤ 640 then .ok (.int n, false) st else .bad
    | none => .bad)
  | _ => .bad
def rInt : List V → Hp → VK → Prop := fun xs H Q => ((∃ i, xs = [.int i] ∧ Q (.int i) H) ∨ ∃ k, xs = [.bl k] ∧ Q (.int (if k then 1 else 0)) H) ∨ ∃ a n, xs = [.str a] ∧ PySem.intText? a = some n ∧ a.length ≤ 640 ∧ Q (.int n) H
theorem cr_int : CallR X (.type "int") rInt := CallR.or call_int1 call_int_str
theorem int_ok : CallS w rInt (one intM1) := one_ok fun W Fo σ st β G H Q d v R hd q => by
  unfold intM1 at q
  split at q
  · have := hd.int
    subst this
    exact .inl (.inl ⟨_, rfl, q _ β G H Fr.refl R (RepV.val rep_int)⟩)
  · have := hd.bl
    subst this
    exact .inl (.inr ⟨_, rfl, q _ β G H Fr.refl R (RepV.val rep_int)⟩)
  · obtain ⟨rfl, _⟩ := hd.str
    split at q
    · rename_i n en
      split at q
      · rename_i c
        exact .inr ⟨_, n, rfl, en, c, q _ β G H Fr.refl R (RepV.val rep_int)⟩
      · exact q.elim
    · exact q.elim
  · exact q.elim
def strM1 (d : D) (st : St) : Rz DV := match d with
  | .int i => if i.natAbs.log2 < 1920 ∧ (Str.ofString (toString i)).length ≤ sizeLine then .ok (.str (Str.ofString (toString i)), false) st else .bad
  | .str x => .ok (.str x, false) st
  | _ => .bad
def rStr : List V → Hp → VK → Prop := fun xs H Q => (∃ i, xs = [.int i] ∧ i.natAbs.log2 < 1920 ∧ Q (.str (toString i)) H) ∨ ∃ a, xs = [.str a] ∧ Q (.str a) H
theorem cr_str : CallR X (.type "str") rStr := CallR.or call_str_int SkE.call_str_str
theorem str_ok : CallS w rStr (one strM1) := one_ok fun W Fo σ st β G H Q d v R hd q => by
  unfold strM1 at q
  split at q
  · have := hd.int
    subst this
    split at q
    · rename_i c
      exact .inl ⟨_, rfl, c.1, q _ β G H Fr.refl R (RepV.val (rep_str c.2))⟩
    · exact q.elim
  · have hr := Held.rep hd rfl
    obtain ⟨rfl, _⟩ := hd.str
    exact .inr ⟨_, rfl, q _ β G H Fr.refl R (RepV.val hr)⟩
  · exact q.elim
def two (f : Int → Int → Int) : List D → M DV := fun ds st => match ds with
  | [.int i, .int j] => .ok (.int (f i j), false) st
  | _ => .bad
theorem two_ok {f : Int → Int → Int} : CallS w (fun xs H Q => ∃ i j, xs = [.int i, .int j] ∧ Q (.int (f i j)) H) (two f) := by
  intro W Fo σ st β G H Q ds vs R A q
  unfold two at q
  split at q
  · obtain ⟨v, u, rfl, A1, A2⟩ := repAs2 A
    have h1 : Rep w β G (.int _) v := A1
    have h2 : Rep w β G (.int _) u := A2
    unfold Rep at h1 h2
    subst h1 h2
    exact ⟨_, _, rfl, q _ β G H Fr.refl R (RepV.val rep_int)⟩
  · exact q.elim
def maxI (i j : Int) : Int := if j > i then j else i
def minI (i j : Int) : Int := if j < i then j else i
/-- max of a list of ints -/
def intsD : List D → Option (List Int)
  | [] => some []
  | .int b :: r => (intsD r).map (b :: ·)
  | _ => none
theorem intsD_reps : ∀ {ds : List D} {bs : List Int} {vs : List V}, intsD ds = some bs → Reps w β G ds vs → vs = bs.map V.int
  | [], bs, vs, h, r => by
    simp only [intsD, Option.some.injEq] at h
    subst h
    exact reps0 r
  | d :: ds, bs, vs, h, r => by
    unfold Reps at r
    obtain ⟨v, rr, rfl, h1, h2⟩ := r
    cases d with
    | int b =>
      simp only [intsD] at h
      obtain ⟨zs, e1, e2⟩ := Option.map_eq_some_iff.mp h
      subst e2
      unfold Rep at h1
      rw [h1, intsD_reps e1 h2]
      rfl
    | _ => simp [intsD] at h
def maxL : List Int → Option Int
  | [] => none
  | x :: r => some (r.foldl maxI x)
theorem maxL_mem : ∀ (r : List Int) (x : Int), r.foldl maxI x = x ∨ r.foldl maxI x ∈ r
  | [], x => .inl rfl
  | y :: r, x => by
    rw [List.foldl_cons]
    rcases maxL_mem r (maxI x y) with h | h
    · rw [h]
      unfold maxI
      split
      · exact .inr (List.mem_cons_self ..)
      · exact .inl rfl
    · exact .inr (List.mem_cons_of_mem _ h)
theorem maxL_le : ∀ (r : List Int) (x : Int), x ≤ r.foldl maxI x ∧ ∀ y ∈ r, y ≤ r.foldl maxI x
  | [], x => ⟨Int.le_refl _, fun y h => by cases h⟩
  | z :: r, x => by
    rw [List.foldl_cons]
    obtain ⟨h1, h2⟩ := maxL_le r (maxI x z)
    have h3 : x ≤ maxI x z := by unfold maxI; split <;> omega
    have h4 : z ≤ maxI x z := by unfold maxI; split <;> omega
    refine ⟨by omega, fun y hy => ?_⟩
    rcases List.mem_cons.mp hy with rfl | hy
    · omega
    · exact h2 y hy
def maxM1 (d : D) (st : St) : Rz DV := match d with
  | .lst ds => (match (intsD ds).bind maxL with
    | some m => .ok (.int m, false) st
    | none => .bad)
  | _ => .bad
theorem max_ok1 : CallS w (rMax w.K) (one maxM1) := one_ok fun W Fo σ st β G H Q d v R hd q => by
  unfold maxM1 at q
  split at q
  · obtain ⟨_, a, xs, rfl, e, r⟩ := hd.lst R.sub
    split at q
    · rename_i m em
      obtain ⟨ns, e1, e2⟩ := Option.bind_eq_some_iff.mp em
      have := intsD_reps e1 r
      subst this
      cases ns with
      | nil => cases e2
      | cons n ns =>
        have e2 : ns.foldl maxI n = m := Option.some.inj e2
        refine ⟨a, n :: ns, rfl, SqL.of e, by simp, fun y hy hle => ?_⟩
        obtain ⟨l1, l2⟩ := maxL_le ns n
        have hm : m ∈ n :: ns := by
          rw [← e2]
          rcases maxL_mem ns n with h | h
          · rw [h]; exact List.mem_cons_self ..
          · exact List.mem_cons_of_mem _ h
        have h1 := hle m hm
        have h2 : y ≤ m := by
          rw [← e2]
          rcases List.mem_cons.mp hy with rfl | hy
          · exact l1
          · exact l2 y hy
        have : y = m := by omega
        subst this
        exact q _ β G H Fr.refl R (RepV.val rep_int)
    · exact q.elim
  · exact q.elim
/-! ### dict(x) -/
def dictM1 (d : D) (st : St) : Rz DV := match d with
  | .dct kvs => if kvs.length ≤ sizeLine then .ok (.dct kvs, true) st else .bad
  | _ => .bad
theorem dict_ok : CallS w (fun xs H Q => ∃ (a : Addr) (kvs : List (Key × V)), xs = [.ref a] ∧ Rd H a (.dK kvs) ∧ ∀ p, H p = none → Q (.ref p) (upd H p (.dK kvs))) (one dictM1) := one_ok fun W Fo σ st β G H Q d v R hd q => by
  unfold dictM1 at q
  split at q
  · obtain ⟨z, a, ks, rfl, e, r⟩ := hd.dct R.sub
    rw [if_pos z] at q
    exact ⟨a, ks, rfl, e, fun p hp => q _ β G _ (Fr.new R hp) (R.new hp) (RepV.fresh (R.nog hp) (R.notin hp) (R.noown hp) (R.nofo hp) ⟨z, ks, upd_same, r⟩)⟩
  · exact q.elim
/-! ### isinstance -/
/-- the builtin type of a value -/
def tyD : D → Option String
  | .non => some "NoneType"
  | .bl _ => some "bool"
  | .int _ => some "int"
  | .str _ => some "str"
  | .lst _ => some "list"
  | .fro _ => some "list"
  | .tup _ => some "tuple"
  | .ftu _ => some "tuple"
  | .dct _ => some "dict"
  | _ => none
theorem tyD_ok {d : D} {v : V} {T : String} (sub : SubE G H) (hd : Held w β G H d v) (h : tyD d = some T) : TyX w.K H v (.type T) := by
  cases d <;> simp only [tyD, Option.some.injEq] at h <;> first | cases h | skip
  · have := hd.non; subst this; exact .base .non
  · have := hd.bl; subst this; exact .base (.bl _)
  · have := hd.int; subst this; exact .base (.int _)
  · have := hd.str; rw [this.1]; exact .base (.str _)
  · obtain ⟨_, a, xs, rfl, e, r⟩ := hd.tup sub; exact .base (.tup e)
  · obtain ⟨_, a, xs, rfl, e, r⟩ := hd.lst sub; exact .base (.lst e)
  · obtain ⟨_, a, xs, rfl, e, r⟩ := hd.dct sub
    rcases e with e | ⟨o, e⟩
    · exact .base (.dK e)
    · exact .fDict e
  · obtain ⟨_, a, xs, rfl, e, r⟩ := hd.fro sub
    rcases e with (e | ⟨o, e⟩) | ⟨o, its, n, e, hc, _⟩
    · exact .base (.lst e)
    · exact .base (.frz e)
    · exact .kList e hc
  · obtain ⟨_, a, xs, rfl, e, r⟩ := hd.ftu sub
    rcases e with (e | ⟨o, e⟩) | ⟨o, its, n, e, hc, _⟩
    · exact .base (.tup e)
    · exact .fTuple e
    · exact .kTuple e hc
end
end PD

set_option autoImplicit false
/-! enumerate(t), t a tuple -/
namespace PDE
open PySem PySem.Sem
open AutoSeq1 (wpAny_loadPart')
set_option maxHeartbeats 1000000 in
theorem meetsT (l : Addr) (items : Array Value) (n : Nat) (dct : Option Addr) (sl : Array (Option Value)) :
    Meets (Builtin.«enumerate.__new__» ⟨[.type "enumerate", .ref l], []⟩) (fun _ R s => s.heap.get? l = some { cls := .type "tuple", dict := dct, data := .seq items n, slots := sl } ∧
      R (.ok (.ret (.ref (s.heap.push { cls := .type "tuple_iterator", data := .fields #[.ref l, .int 0 0] }).objs.size)))
        { s with heap := (s.heap.push { cls := .type "tuple_iterator", data := .fields #[.ref l, .int 0 0] }).push { cls := .type "enumerate", data := .fields #[.none, .bool false, .ref s.heap.objs.size, rawInt 0, .none, .none] } }) :=
  .of_wp fun prog w A R s h => by
    obtain ⟨hp, g, d, tk, os⟩ := s; obtain ⟨hl, h⟩ := h
    have hsub := sub_enumerate
    have hL : Heap.IsTuple (Shared.heap ⟨hp, g, d, tk, os⟩) l items := ⟨_, hl, rfl, n, rfl⟩
    wp_walk using wpAny_loadPart' hl
    refine wpAny_stack_any fun st => wpAny_pure ?_
    split
    · rename_i c _ _ _ _ _
      cases (c == Value.type "enumerate")
      · wp_walk using wpAny_loadPart' hl, wpAny_pyIter_tuple hL
        exact ⟨_, rfl, h⟩
      · wp_walk using wpAny_loadPart' hl, wpAny_pyIter_tuple hL
        exact ⟨_, rfl, h⟩
    · wp_walk using wpAny_loadPart' hl, wpAny_pyIter_tuple hL
      exact ⟨_, rfl, h⟩
section
variable {prog : Program} {w : World} {A : Around} {E : Value → Shared → Prop} {s : Shared}
theorem call_enumT {l : Addr} {items : Array Value} {Q : Value → Shared → Prop} (hL : s.heap.IsTuple l items)
    (h : ∀ h', IsEnum h' (s.heap.objs.size + 1) s.heap.objs.size 0 .none → h'.IsTupleIter s.heap.objs.size l 0 → h'.objs.size = s.heap.objs.size + 2 →
      (∀ b o, s.heap.get? b = some o → h'.get? b = some o) → Q (.ref (s.heap.objs.size + 1)) { s with heap := h' }) :
    wpAny (model prog w) A (call (.type "enumerate") [.ref l]) Q E s := by
  obtain ⟨⟨c, dct, dt, sl⟩, hl, hc, n, hd⟩ := hL
  replace hc : c = .type "tuple" := hc
  replace hd : dt = .seq items n := hd
  subst hc hd
  refine callType_new F.called_enumerate (by decide) (F.typeCall_enumerate_1 _) (F.newCall_enumerate_1 _) (fun obj => F.args_object_init_2 obj _) F.entry_enumerate_new
    (meetsT l items n dct sl) ⟨hl, ?_⟩
  have hz : (s.heap.push { cls := .type "tuple_iterator", data := .fields #[.ref l, .int 0 0] }).objs.size = s.heap.objs.size + 1 := Heap.size_push ..
  show _ ∧ _
  rw [hz]
  have he : IsEnum ((s.heap.push { cls := .type "tuple_iterator", data := .fields #[.ref l, .int 0 0] }).push
      { cls := .type "enumerate", data := .fields #[.none, .bool false, .ref s.heap.objs.size, rawInt 0, .none, .none] }) (s.heap.objs.size + 1) s.heap.objs.size 0 .none := by
    have := Heap.get?_push_size (s.heap.push { cls := .type "tuple_iterator", data := .fields #[.ref l, .int 0 0] })
      (o := { cls := .type "enumerate", data := .fields #[.none, .bool false, .ref s.heap.objs.size, rawInt 0, .none, .none] }) rfl
    rw [hz] at this; exact this
  refine ⟨⟨_, he, rfl⟩, h _ he ⟨_, Heap.get?_push_of_some _ (Heap.get?_push_size _ rfl), rfl, rfl⟩ (by rw [Heap.size_push, hz]) fun b o x => Heap.get?_push_of_some _ (Heap.get?_push_of_some _ x)⟩
end
end PDE
namespace L2
open PySem PySem.Spec PyProof.Rows
/-- the tuple at a, each item in a new pair -/
def IteT (K : PySem.W.Frag) (a : Addr) : It :=
  ⟨fun i H => ∃ (xs : List V) (x : V), SqT K H a xs ∧ xs[i]? = some x, fun i H v H' => ∃ T x, v = .ref T ∧ H T = none ∧ H' = upd H T (.tup [.int (i : Nat), x]) ∧ ∀ xs, SqT K H a xs → xs[i]? = some x, fun i H => ∃ xs : List V, SqT K H a xs ∧ xs.length = i⟩
theorem turn_enumT {P : Program} {w : World} {K : PySem.W.Frag} {elts : List Expr} {kk : Nat} {tpos : Pos} (a e it : Addr) :
    Turn P w K (.Tuple elts kk tpos) (IteT K a) [e, it] e (fun i h => (∃ old, IsEnum h e it ((i : Nat) : Int) old) ∧ h.IsTupleIter it a i ∧ e ≠ it ∧ a ≠ it ∧ a ≠ e) where
  mem := by simp
  obj := fun i h st b hb => by
    obtain ⟨⟨old, he⟩, ⟨o, ho, hc, hd⟩, _⟩ := st
    have e' : b = e ∨ b = it := by simpa using hb
    rcases e' with z | z
    · rw [z]; exact ⟨_, he, fun v q => nomatch q⟩
    · rw [z]; exact ⟨o, ho, fun v q => by rw [hd] at q; cases q⟩
  keep := fun i h h' st k => let ⟨⟨old, he⟩, hi, hne⟩ := st; ⟨⟨old, k e (by simp) _ he⟩, hi.at fun o q => k it (by simp) o q, hne⟩
  item := by
    intro X hP hw hK hc i pins s σ H E I hf st hg
    subst hP hw hK
    obtain ⟨⟨old, he⟩, hit, hne, hait, hae⟩ := st
    obtain ⟨xs, x, hq, hx⟩ := hg
    obtain ⟨its, rv, p, hz⟩ := I.tuple hq
    obtain ⟨u, hu, ru⟩ := rv.get hx
    have hel : e < s.heap.objs.size := Heap.lt_size he
    have hil : it < s.heap.objs.size := by obtain ⟨_, q, _⟩ := hit; exact Heap.lt_size q
    have hlt : i < its.toArray.size := by
      rw [List.size_toArray]
      exact (List.getElem?_eq_some_iff.mp hu).1
    have D := Draws.tuple (prog := X.prog) (w := X.w) (A := X.A.in1) (by have := I.ok.hd hc; exact this) it a hait its.toArray
    refine wpAny_pyNext_enum_itemC (i := i) D he ⟨hit, show s.heap.IsTuple a its.toArray from p⟩ hlt hne (by simp; exact ⟨hne, fun z => hae z.symm⟩) fun y h' tk hy ho hit' hT hsz hk => ?_
    have ey : y = u := by
      have hy : its.toArray[i]? = some y := hy
      have : its[i]? = some y := by simpa using hy
      rw [hu] at this
      exact (Option.some.inj this).symm
    subst ey
    refine ⟨_, rfl, wpAny_letOwnedTupleGo_enum (s := { s with heap := h', toks := tk + 1 }) ho fun h'' he' sb => ?_⟩
    have hT2 : h''.get? s.heap.objs.size = some { cls := .type "tuple", data := .seq #[.int i tk, y] } := (sb.2 _ (Nat.ne_of_gt hel)).trans hT
    have new : ObjOk X.prog X.w (upd H s.heap.objs.size (.tup [.int (i : Nat), x])) h'' s.heap.objs.size (.tup [.int (i : Nat), x]) :=
      ⟨by show 2 ≤ sizeLine; decide, [.int i tk, y], .cons ⟨_, rfl⟩ (.cons ru .nil), ⟨_, hT2, rfl, _, rfl⟩⟩
    have I1 : Inv X pins σ (upd H s.heap.objs.size (.tup [.int (i : Nat), x])) { s with heap := h'', toks := tk + 1 } :=
      I.turnedNew (ch := [e, it]) (fun b ob hb q => (sb.2 b (fun z => hb (by simp [z]))).trans (hk b ob (fun z => hb (by simp [z])) (fun z => hb (by simp [z])) q)) hf (Nat.le_refl _) new
    refine ⟨.ref s.heap.objs.size, _, I1, rfl, ⟨_, x, rfl, I.hok.fresh (Nat.le_refl _), rfl, fun ys hy => by rw [I.tuple_inj hy hq]; exact hx⟩, ⟨⟨y, ?_⟩, hit'.1.at fun o q => (sb.2 it (Ne.symm hne)).trans q, hne, hait, hae⟩, fun b hb => ?_⟩
    · have e1 : ((i + 1 : Nat) : Int) = (i : Int) + 1 := by omega
      rw [e1]; exact he'
    · have hb' : b < s.heap.objs.size := by
        have e' : b = e ∨ b = it := by simpa using hb
        rcases e' with z | z
        · rw [z]; exact hel
        · rw [z]; exact hil
      rw [upd_ne (Nat.ne_of_lt hb')]
      exact (hf b hb).1
  done := by
    intro X hP hw hK hc i pins s σ H E I hf st hg
    subst hP hw hK
    obtain ⟨⟨old, he⟩, hit, hne, hait, hae⟩ := st
    obtain ⟨xs, hq, hx⟩ := hg
    obtain ⟨its, rv, p, hz⟩ := I.tuple hq
    obtain ⟨f0, f1, f2, f3, f4, f5⟩ := hf it (by simp)
    have hl := rv.length
    have hi : its.toArray.size = i := by rw [List.size_toArray]; omega
    have D := Draws.tuple (prog := X.prog) (w := X.w) (A := X.A.in1) (by have := I.ok.hd hc; exact this) it a hait its.toArray
    rw [← hi] at hit he
    exact wpAny_pyNext_enum_endD D he ⟨hit, show s.heap.IsTuple a its.toArray from p⟩ fun h' eb => ⟨rfl, I.turned (t' := s.toks) (fun b o hb q => eb b o hb q) f0 f1 f3 f4 f5⟩
  self := fun A i s Q E st h => let ⟨⟨_, he⟩, _⟩ := st; wpAny_pyIter_enum he h
/-- enumerate of a list or a tuple -/
def iEnumA (K : PySem.W.Frag) (ta : TA) : TI := fun σ H R => ta σ H fun vs H1 => ∃ a xs, vs = [.ref a] ∧ ((SqL K H1 a xs ∧ R (Ite K a) H1) ∨ (SqT K H1 a xs ∧ R (IteT K a) H1))
theorem pi_enumA {X : Cx} {e : Expr} {ta : TA} {p pos tpos : Pos} {elts : List Expr} {kk : Nat} (hg : Gl X "enumerate") (hm : X.mg "enumerate" = none) (ha : PA X [e] ta) (hs : starEach [e] X.env = [(false, eval e X.env)]) :
    PI X (.Tuple elts kk tpos) (.Call (.Name "enumerate" p) [e] [] pos) (iEnumA X.K ta) := by
  refine ⟨fun pins s σ H R I h => ?_⟩
  refine Call_ (ld_blt I hg hm boot_enumerate (PyProof.Rows.callWith_type1 (thn (ha.run pos pins s σ H _ I h) fun us s1 ⟨vs, H1, I1, r1, q1⟩ => ?_) hs rfl))
  obtain ⟨a, xs, ex, q1⟩ := q1
  subst ex
  cases r1 with
  | cons r rr =>
    cases rr
    cases r
    have fp : ∀ b ∈ [s1.heap.objs.size + 1, s1.heap.objs.size], FpOk X pins H1 b := fun b hb => by
      have e' : b = s1.heap.objs.size + 1 ∨ b = s1.heap.objs.size := by simpa using hb
      have hle : s1.heap.objs.size ≤ b := by
        rcases e' with z | z
        · rw [z]; exact Nat.le_add_right _ _
        · rw [z]; exact Nat.le_refl _
      exact I1.fpOk hle (I1.hok.fresh hle)
    rcases q1 with ⟨hq, q⟩ | ⟨hq, q⟩
    · obtain ⟨its, rv, p', hz⟩ := I1.list hq
      refine call_enumerate_list p'.isList fun h' he hit hsz hk => wpAny_pyIter_enum he ?_
      have I2 : Inv X pins σ H1 { s1 with heap := h' } := I1.kept (t' := s1.toks) hk
      exact ⟨s1.heap.objs.size + 1, [s1.heap.objs.size + 1, s1.heap.objs.size], _, _, H1, rfl, I2, turn_enum a (s1.heap.objs.size + 1) s1.heap.objs.size, ⟨⟨.none, he⟩, hit, Nat.succ_ne_self _⟩, fp, q⟩
    · obtain ⟨its, rv, p', hz⟩ := I1.tuple hq
      have hlt : a < s1.heap.objs.size := by obtain ⟨o, ho, _⟩ := id p'; exact Heap.lt_size ho
      refine PDE.call_enumT (show s1.heap.IsTuple a its.toArray from p') fun h' he hit hsz hk => wpAny_pyIter_enum he ?_
      have I2 : Inv X pins σ H1 { s1 with heap := h' } := I1.kept (t' := s1.toks) hk
      exact ⟨s1.heap.objs.size + 1, [s1.heap.objs.size + 1, s1.heap.objs.size], _, _, H1, rfl, I2, turn_enumT a (s1.heap.objs.size + 1) s1.heap.objs.size, ⟨⟨.none, he⟩, hit, Nat.succ_ne_self _, Nat.ne_of_lt hlt, Nat.ne_of_lt (Nat.lt_succ_of_lt hlt)⟩, fp, q⟩
end L2

set_option autoImplicit false
namespace PD
open PySem PySem.Spec PyProof.Rows L2

section
variable {w : Wo} {gg : Prg} {si : SI} {kk : Nat} {X : Cx} {W : WX} {a b e : Expr} {es : List Expr} {ma mb m : M DV} {pos : Pos} {Fo : Addr → Prop} {σ σ1 : L2.St} {st st1 st2 : St} {β β1 β2 : List Addr} {G H G1 H1 G2 H2 : Hp} {tg : Expr}
/-! ### a dict that will not change, locked -/
theorem SubH.lock {d : Addr} {u : HO} {o : Obj} (h : G d = some u) (hu : isDO u = true) : SubH G (upd G d (.frz o u)) := fun a x e => by
  by_cases z : a = d
  · subst z
    rw [h] at e
    cases e
    exact .inr ⟨hu, o, upd_same⟩
  · exact .inl (by rw [upd_ne z]; exact e)
theorem RS.lock {d : Addr} {u : HO} {o : Obj} (R : RS w Fo β G H σ st) (h : G d = some u) (hu : isDO u = true) : RS w Fo β (upd G d (.frz o u)) (upd H d (.frz o u)) σ st := by
  have L := SubH.lock (o := o) h hu
  have ne : ∀ {q : Addr}, G q = none → q ≠ d := fun hq z => by rw [z, h] at hq; cases hq
  refine ⟨R.len, fun q x e => ?_, fun i d e => ?_, fun i d e => ?_, R.dis, fun n d q e1 e2 => ?_, R.nd, fun q hq => ?_, fun q hq => ?_, R.ln, tabN_upd R.tb (fun _ e => by rw [R.sub _ _ h] at e; cases e; cases hu) (fun _ e => by rw [R.sub _ _ h] at e; cases e; cases hu), fun q hq => ⟨by rw [upd_ne (ne (R.tq q hq).1)]; exact (R.tq q hq).1, (R.tq q hq).2⟩⟩
  · by_cases z : q = d
    · subst z; rw [upd_same] at e ⊢; exact e
    · rw [upd_ne z] at e ⊢; exact R.sub q x e
  · obtain ⟨v, h1, h2⟩ := R.val i d e
    exact ⟨v, h1, Rep.mono L (SubB.refl _) d v h2⟩
  · obtain ⟨q, h1, h2, h3, h4⟩ := R.own i d e
    exact ⟨q, h1, by rw [upd_ne (ne h2)]; exact h2, h3, h4.mono L (SubB.refl _) (upd_ne (ne h2))⟩
  · obtain ⟨h1, h2⟩ := R.sto n d q e1 e2
    exact ⟨by rw [upd_ne (ne h1)]; exact h1, h2.mono L (SubB.refl _) (upd_ne (ne h1))⟩
  · obtain ⟨⟨x, hx⟩, h2, h3, h4⟩ := R.fo q hq
    exact ⟨⟨x, by rw [upd_ne (ne h2)]; exact hx⟩, by rw [upd_ne (ne h2)]; exact h2, h3, h4⟩
  · obtain ⟨_, h2, _⟩ := R.fo q hq
    rw [upd_ne (ne h2)]
    exact R.ft q hq
theorem Fr.lock {d : Addr} {u : HO} {o : Obj} (R : RS w Fo β G H σ st) (h : G d = some u) (hu : isDO u = true) : Fr Fo st β G H st β (upd G d (.frz o u)) (upd H d (.frz o u)) :=
  ⟨SubH.lock h hu, SubB.refl _, fun a ha => by
    obtain ⟨_, h2, _⟩ := R.fo a ha
    exact upd_ne (fun z => by rw [z, h] at h2; simp at h2), fun _ b d h c => ⟨b, d, h, c⟩⟩
/-- the heap with the dict locked -/
def LockTo (H : Hp) (d : Addr) (u : HO) (R : Obj → Hp → Prop) : Prop := (∃ o, H d = some (.frz o u) ∧ R o H) ∨ (H d = some u ∧ ∀ o, R o (upd H d (.frz o u)))
/-- e is a dict: from now on locked -/
def tLockD (u : HO → Prop) (te : TE) : TE := fun σ H Q => te σ H fun x H1 => ∃ d y, x = .ref d ∧ u y ∧ isDO y = true ∧ LockTo H1 d y fun _ H2 => Q x H2
theorem mut_of {u : HO} (h : isDO u = true) : Mut (some u) := by
  cases u <;> first | exact True.intro | cases h
theorem pe_lock {te : TE} {u : HO → Prop} (he : PE X e te) : PE X e (tLockD u te) := by
  refine ⟨fun pins s σ H Q I h => ?_⟩
  refine thn (he.run pins s σ H _ I h) fun v s1 ⟨x, H1, I1, r1, d, y, ex, hu, hy, q⟩ => ?_
  rcases q with ⟨o, _, q⟩ | ⟨h1, q⟩
  · exact ⟨x, H1, I1, r1, q⟩
  · obtain ⟨od, I2⟩ := I1.lock h1 (mut_of hy)
    exact ⟨x, _, I2, r1, q od⟩
/-- a value, made one that does not change -/
def frzM (m : M DV) : M D := m.bind fun x => frz1 x.1
theorem tD_frz {m : M DV} {k : D → M Wk} {R : It → Hp → Prop} {P : V → Hp → Prop} (h : tI w W ((frzM m).bind k) σ H R)
    (hk : ∀ (Fo : Addr → Prop) (d : D) (v : V) (st : St) (β : List Addr) (G H : Hp), RS w Fo β G H σ st → Rep w β G d v → OutI w W Fo σ st β G H R (k d st) → P v H) : tD w W m σ H P := by
  obtain ⟨Fo, β, G, st, R0, h⟩ := h
  refine ⟨Fo, β, G, st, R0, ?_⟩
  unfold frzM M.bind at h
  cases e : m st with
  | ok x st1 =>
    obtain ⟨d, f⟩ := x
    rw [e] at h
    intro v β1 G1 H1 F1 R1 V1
    obtain ⟨G2, F2, R2, A2⟩ := settle R1 V1
    obtain ⟨d', st3, G3, e3, F3, R3, r3⟩ := frz1_ok R2 A2
    simp only [e3] at h
    exact hk Fo d' v st3 β1 G3 H1 R3 r3 (h.trans ((F1.trans F2).trans F3))
  | exc c fs st1 => rw [e] at h; exact h
  | bad => rw [e] at h; exact h.elim
/-- the dict at d, locked -/
theorem lock_out {d : Addr} {y : HO} {P : Obj → Hp → Prop} (R : RS w Fo β G H σ st) (h : Rd G d y) (hy : isDO y = true)
    (hk : ∀ (o : Obj) (G' H' : Hp), Fr Fo st β G H st β G' H' → RS w Fo β G' H' σ st → G' d = some (.frz o y) → P o H') : LockTo H d y P := by
  rcases h with h | ⟨o, h⟩
  · exact .inr ⟨R.sub _ _ h, fun o => hk o _ _ (Fr.lock R h hy) (R.lock h hy) upd_same⟩
  · exact .inl ⟨o, R.sub _ _ h, hk o G H Fr.refl R h⟩
/-! ### dicts, walked -/
theorem wk_keys {d : Addr} {o : Obj} {kvs : List (D × D)} {ks : List (Key × V)} (h : RepsK w β G kvs ks) (hG : G d = some (.frz o (.dK ks))) (hl : keyLens kvs = true) : WkOk0 w (Itk d o ks) ⟨kvs.map (·.1), none⟩ β G := by
  have r := reps_keysK h (keyLens_ok hl)
  refine ⟨fun H => H d = some (.frz o (.dK ks)), ?_, fun Fo β1 G1 H1 σ st _ g R _ => R.sub _ _ (g.ex hG rfl)⟩
  show Walk _ (kvs.map (·.1)).length _ _
  rw [List.length_map, ← h.len]
  exact walk_keys.mono (fun _ z => z) fun i H x H' _ _ y => by
    obtain ⟨y1, k, v, y2, y3⟩ := y
    have : (ks.map fun kv => kV kv.1)[i]? = some x := by rw [List.getElem?_map, y2, y3]; rfl
    obtain ⟨d', e, rd⟩ := r.at this
    exact ⟨d', e, .inl ⟨y1, rd⟩⟩
theorem repsK_get {kvs : List (D × D)} {ks : List (Key × V)} (h : RepsK w β G kvs ks) {i : Nat} {q : Key} {v : V} (e : ks[i]? = some (q, v)) : ∃ k d, kvs[i]? = some (k, d) ∧ dKey k = some q ∧ Rep w β G d v := by
  induction kvs generalizing ks i with
  | nil => unfold RepsK at h; subst h; simp at e
  | cons kv r ih =>
    obtain ⟨k', d⟩ := kv
    unfold RepsK at h
    obtain ⟨q', v', r', rfl, hq, hd, ht⟩ := h
    cases i with
    | zero =>
      simp only [List.getElem?_cons_zero, Option.some.injEq, Prod.mk.injEq] at e
      obtain ⟨rfl, rfl⟩ := e
      exact ⟨k', d, rfl, hq, hd⟩
    | succ i =>
      rw [List.getElem?_cons_succ] at e
      obtain ⟨k, d2, h1, h2⟩ := ih ht e
      exact ⟨k, d2, by rw [List.getElem?_cons_succ]; exact h1, h2⟩
def pairsD (kvs : List (D × D)) : List D := kvs.map fun kv => .tup [kv.1, kv.2]
theorem wk_items {d : Addr} {o : Obj} {kvs : List (D × D)} {ks : List (Key × V)} (h : RepsK w β G kvs ks) (hG : G d = some (.frz o (.dK ks))) (hl : keyLens kvs = true) : WkOk0 w (Iti d o ks) ⟨pairsD kvs, none⟩ β G := by
  have r := reps_keysK h (keyLens_ok hl)
  refine ⟨fun H => H d = some (.frz o (.dK ks)), ?_, fun Fo β1 G1 H1 σ st _ g R _ => R.sub _ _ (g.ex hG rfl)⟩
  show Walk _ (pairsD kvs).length _ _
  unfold pairsD
  rw [List.length_map, ← h.len]
  exact walk_items.mono (fun _ z => z) fun i H x H' _ _ y => by
    obtain ⟨T, x1, x2, y1, y2, y3, y4, y5⟩ := y
    simp only at y4 y5
    cases e : ks[i]? with
    | none => rw [e] at y4; cases y4
    | some kv =>
      obtain ⟨q, v⟩ := kv
      rw [e] at y4 y5
      have e1 : kV q = x1 := Option.some.inj y4
      have e2 : v = x2 := Option.some.inj y5
      subst e1 e2
      obtain ⟨k, d', h1, h2, h3⟩ := repsK_get h e
      have hk : (ks.map fun kv => kV kv.1)[i]? = some (kV q) := by rw [List.getElem?_map, e]; rfl
      obtain ⟨d2, e3, rd⟩ := r.at hk
      rw [List.getElem?_map, h1] at e3
      have e3 : k = d2 := Option.some.inj e3
      subst e3
      refine ⟨.tup [k, d'], ?_, .inr ⟨T, _, _, k, d', y1, y2, y3, rfl, rd, h3⟩⟩
      show (kvs.map fun kv => D.tup [kv.1, kv.2])[i]? = _
      rw [List.getElem?_map, h1]; rfl
theorem wk_values {d : Addr} {o : Obj} {kvs : List (D × D)} {ks : List (Key × V)} (h : RepsK w β G kvs ks) (hG : G d = some (.frz o (.dK ks))) : WkOk0 w (Itd d o ks) ⟨kvs.map (·.2), none⟩ β G := by
  refine ⟨fun H => H d = some (.frz o (.dK ks)), ?_, fun Fo β1 G1 H1 σ st _ g R _ => R.sub _ _ (g.ex hG rfl)⟩
  show Walk _ (kvs.map (·.2)).length _ _
  rw [List.length_map, ← h.len]
  exact L2.walk_values.mono (fun _ z => z) fun i H x H' _ _ y => by
    obtain ⟨y1, k, y2⟩ := y
    obtain ⟨k', d', h1, h2, h3⟩ := repsK_get h y2
    exact ⟨d', by show (kvs.map (·.2))[i]? = _; rw [List.getElem?_map, h1]; rfl, .inl ⟨y1, h3⟩⟩
/-- d.items(), walked -/
def walkItems (m : M DV) : M Wk := (frzM m).bind fun d => match d with
  | .dct kvs => if keyLens kvs = true then M.ret ⟨pairsD kvs, none⟩ else M.bad
  | _ => M.bad
theorem isDO_K {ks : List (Key × V)} : isDO (.dK ks) = true := rfl
theorem d_items {elts : List Expr} {k : Nat} {tpos apos cpos : Pos} {m : M DV} (he : PE X e (tD w W m)) (hn : noSup e = true) (hl : (apos.endLine == cpos.line) = true) :
    PI X (.Tuple elts k tpos) (.Call (.Attribute e "items" apos) [] [] cpos) (tI w W (walkItems m)) :=
  PI.imp (pi_items (pe_lock (u := fun y => ∃ ks, y = .dK ks) he) (noSup_ok hn) hl) fun σ H R h => tD_frz h fun Fo d v st β G H R0 r q => by
    split at q
    · rename_i kvs
      by_cases c : keyLens kvs = true
      · rw [if_pos c] at q
        unfold Rep at r
        obtain ⟨_, a, ks, rfl, hd, rk⟩ := r
        refine ⟨a, .dK ks, rfl, ⟨ks, rfl⟩, rfl, lock_out R0 hd rfl fun o G' H' F' R' hG => ⟨a, o, ks, rfl, R'.sub _ _ hG, ?_⟩⟩
        exact q.2 _ β G' H' F' R' (wk_items (RepsK.mono F'.g F'.b kvs ks rk) hG c)
      · rw [if_neg c] at q; exact q.elim
    · exact q.elim
def walkValues (m : M DV) : M Wk := (frzM m).bind fun d => match d with
  | .dct kvs => M.ret ⟨kvs.map (·.2), none⟩
  | _ => M.bad
theorem d_values {apos cpos : Pos} {m : M DV} (he : PE X e (tD w W m)) (hn : noSup e = true) (hl : (apos.endLine == cpos.line) = true) :
    PI X tg (.Call (.Attribute e "values" apos) [] [] cpos) (tI w W (walkValues m)) :=
  PI.imp (pi_values (pe_lock (u := fun y => ∃ ks, y = .dK ks) he) (noSup_ok hn) hl) fun σ H R h => tD_frz h fun Fo d v st β G H R0 r q => by
    split at q
    · rename_i kvs
      unfold Rep at r
      obtain ⟨_, a, ks, rfl, hd, rk⟩ := r
      refine ⟨a, .dK ks, rfl, ⟨ks, rfl⟩, rfl, lock_out R0 hd rfl fun o G' H' F' R' hG => ⟨a, o, ks, rfl, R'.sub _ _ hG, ?_⟩⟩
      exact q.2 _ β G' H' F' R' (wk_values (RepsK.mono F'.g F'.b kvs ks rk) hG)
    · exact q.elim
/-- any value walked: list, tuple, text, a dict's keys -/
def walkA (m : M DV) : M Wk := (frzM m).bind fun d => match d with
  | .dct kvs => if keyLens kvs = true then M.ret ⟨kvs.map (·.1), none⟩ else M.bad
  | .obj n => fun st => (match st.sto[n]? with
    | some (.lst ds) => .ok ⟨ds, some (n, .lst ds)⟩ st
    | _ => .bad)
  | d => walkD d
theorem it_keys {pins : List (Addr × Obj)} {s1 : Shared} {d : Addr} {o : Obj} {kvs : List (Key × V)} {R : It → Hp → Prop} (I1 : Inv X pins σ H s1) (hd : H d = some (.frz o (.dK kvs))) (q : R (Itk d o kvs) H) : wpAny (model X.prog X.w) X.A (pyIter (.ref d)) (PIE X pins σ tg R) X.xe s1 := by
  obtain ⟨hs, hgd, hx, es, ep, vs, hdt, hsz, kv, hm⟩ := I1.frzK hd
  refine iter_keys hs hgd hx hdt (pi_one (tk := s1.toks) I1 _ (turn_keys _ hdt) ⟨_, Heap.get?_push_size _ rfl, rfl, ?_⟩ q)
  rw [hsz] <;> rfl
theorem d_walkA {m : M DV} (hK : X.K = w.K) (h : PE X e (tD w W m)) : PI X tg e (tI w W (walkA m)) := by
  refine ⟨fun pins s σ H R I h3 => ?_⟩
  have key : tD w W m σ H fun a H1 => (∃ p, a = .ref p ∧ (∃ xs, SqL w.K H1 p xs) ∧ R (Itl w.K p) H1) ∨ (∃ p, a = .ref p ∧ (∃ xs, SqT w.K H1 p xs) ∧ R (Itt w.K p) H1) ∨ (∃ x, a = .str x ∧ R (Its x) H1) ∨
      (∃ p ks, a = .ref p ∧ LockTo H1 p (.dK ks) fun o H2 => H2 p = some (.frz o (.dK ks)) ∧ R (Itk p o ks) H2) := by
    refine tD_frz h3 fun Fo d v st β G H R0 r q => ?_
    have old : (∀ kvs, d ≠ .dct kvs) → OutI w W Fo σ st β G H R (walkD d st) → _ := fun _ q => walk_of R0 r q
    split at q
    · rename_i kvs
      by_cases c : keyLens kvs = true
      · rw [if_pos c] at q
        unfold Rep at r
        obtain ⟨_, a, ks, rfl, hd, rk⟩ := r
        refine .inr (.inr (.inr ⟨a, ks, rfl, lock_out R0 hd rfl fun o G' H' F' R' hG => ⟨R'.sub _ _ hG, ?_⟩⟩))
        exact q.2 _ β G' H' F' R' (wk_keys (RepsK.mono F'.g F'.b kvs ks rk) hG c)
      · rw [if_neg c] at q; exact q.elim
    · rename_i n
      split at q
      · rename_i ds e
        unfold Rep at r
        obtain ⟨a, ha, rfl⟩ := r
        obtain ⟨_, _, vs, h1, h2⟩ := R0.sto n _ a e ha
        exact .inl ⟨a, rfl, ⟨vs, SqL.of h1⟩, q.2 _ β G H Fr.refl R0 (wk_obj ha)⟩
      · exact q.elim
    · rename_i hne _
      rcases old (fun kvs z => hne kvs z) q with q | q | q
      · exact .inl q
      · exact .inr (.inl q)
      · exact .inr (.inr (.inl q))
  refine thn (h.run pins s σ H _ I key) fun v s1 ⟨x, H1, I1, r1, q1⟩ => ?_
  rcases q1 with ⟨p, e1, ⟨xs, q2⟩, q1⟩ | ⟨p, e1, ⟨xs, q2⟩, q1⟩ | ⟨z, e1, q1⟩ | ⟨p, ks, e1, q1⟩
  · subst e1; cases r1; exact it_list I1 (by rw [hK]; exact q2) (by rw [hK]; exact q1)
  · subst e1; cases r1; exact it_tup I1 (by rw [hK]; exact q2) (by rw [hK]; exact q1)
  · subst e1; obtain ⟨t, rfl⟩ := r1; exact it_str I1 q1
  · subst e1; cases r1
    rcases q1 with ⟨o, q2, _, q3⟩ | ⟨q2, q3⟩
    · exact it_keys I1 q2 q3
    · obtain ⟨od, I2⟩ := I1.lock q2 (mut_of rfl)
      exact it_keys I2 (q3 od).1 (q3 od).2
/-! ### range, enumerate, zip -/
theorem tA_walk {ms : M (List D)} {k : List D → M Wk} {R : It → Hp → Prop} {P : List V → Hp → Prop} (h : tI w W (ms.bind fun ds => (frzL ds).bind k) σ H R)
    (hk : ∀ (Fo : Addr → Prop) (ds : List D) (vs : List V) (st : St) (β : List Addr) (G H : Hp), RS w Fo β G H σ st → Reps w β G ds vs → OutI w W Fo σ st β G H R (k ds st) → P vs H) : tA w W ms σ H P := by
  obtain ⟨Fo, β, G, st, R0, h⟩ := h
  refine ⟨Fo, β, G, st, R0, ?_⟩
  unfold M.bind at h
  cases e : ms st with
  | ok ds st1 =>
    rw [e] at h
    intro vs β1 G1 H1 F1 R1 A1
    obtain ⟨ds', st2, G2, e2, F2, R2, q2, l2⟩ := frzL_ok R1 A1
    simp only [e2] at h
    exact hk Fo ds' vs st2 β1 G2 H1 R2 q2 (h.trans (F1.trans F2))
  | exc c fs st1 => rw [e] at h; exact h
  | bad => rw [e] at h; exact h.elim
def okR (i : Int) : Bool := decide (-(2 ^ 62) ≤ i) && decide (i < 2 ^ 62)
theorem okR_ok {i : Int} (h : okR i = true) : -(2 ^ 62) ≤ i ∧ i < 2 ^ 62 := by
  unfold okR at h
  rw [Bool.and_eq_true] at h
  exact ⟨of_decide_eq_true h.1, of_decide_eq_true h.2⟩
def walkRange1 (ms : M (List D)) : M Wk := ms.bind fun ds => (frzL ds).bind fun ds => match ds with
  | [.int j] => if okR j = true then M.ret ⟨ranged 0 j.toNat, none⟩ else M.bad
  | _ => M.bad
def walkRange2 (ms : M (List D)) : M Wk := ms.bind fun ds => (frzL ds).bind fun ds => match ds with
  | [.int i, .int j] => if okR i = true ∧ okR j = true then M.ret ⟨ranged i (j - i).toNat, none⟩ else M.bad
  | _ => M.bad
theorem star1 {a : Expr} {env : Env} (h : noStar a = true) : starEach [a] env = [(false, eval a env)] := starEach_plain (noStar_ne h)
theorem star2 {a b : Expr} {env : Env} (h : noStar a = true) (h' : noStar b = true) : starEach [a, b] env = [(false, eval a env), (false, eval b env)] := by
  rw [starEach_plain (noStar_ne h), star1 h']
theorem d_range1 {ms : M (List D)} {p : Pos} (hg : Gl X "range") (hm : X.mg "range" = none) (ha : PA X [a] (tA w W ms)) (hs : noStar a = true) : PI X tg (.Call (.Name "range" p) [a] [] pos) (tI w W (walkRange1 ms)) :=
  PI.imp (pi_range1 hg hm ha (star1 hs)) fun σ H R h => tA_walk h fun Fo ds vs st β G H R0 r q => by
    split at q
    · rename_i j
      obtain ⟨v, rfl, r1⟩ := reps1 r
      unfold Rep at r1
      subst r1
      by_cases c : okR j = true
      · rw [if_pos c] at q
        obtain ⟨c1, c2⟩ := okR_ok c
        exact ⟨j, rfl, c1, c2, q.2 _ β G H Fr.refl R0 wk_range.up⟩
      · rw [if_neg c] at q; exact q.elim
    · exact q.elim
theorem d_range2 {ms : M (List D)} {p : Pos} (hg : Gl X "range") (hm : X.mg "range" = none) (ha : PA X [a, b] (tA w W ms)) (hs : noStar a = true) (hs' : noStar b = true) : PI X tg (.Call (.Name "range" p) [a, b] [] pos) (tI w W (walkRange2 ms)) :=
  PI.imp (pi_range2 hg hm ha (star2 hs hs') (star1 hs')) fun σ H R h => tA_walk h fun Fo ds vs st β G H R0 r q => by
    split at q
    · rename_i i j
      obtain ⟨v, u, rfl, r1, r2⟩ := reps2 r
      unfold Rep at r1 r2
      subst r1 r2
      by_cases c : okR i = true ∧ okR j = true
      · rw [if_pos c] at q
        obtain ⟨c1, c2⟩ := okR_ok c.1
        obtain ⟨c3, c4⟩ := okR_ok c.2
        exact ⟨i, j, rfl, ⟨c1, c2, c3, c4⟩, q.2 _ β G H Fr.refl R0 wk_range.up⟩
      · rw [if_neg c] at q; exact q.elim
    · exact q.elim
/-- enumerate(..) -/
def enumD (n : Nat) : List D → List D
  | [] => []
  | d :: ds => .tup [.int (n : Int), d] :: enumD (n + 1) ds
theorem enumD_len : ∀ (ds : List D) (n : Nat), (enumD n ds).length = ds.length
  | [], _ => rfl
  | d :: ds, n => by show _ + 1 = _ + 1; rw [enumD_len ds (n + 1)]
theorem enumD_get : ∀ (ds : List D) (n i : Nat) (d : D), ds[i]? = some d → (enumD n ds)[i]? = some (.tup [.int ((n + i : Nat) : Int), d])
  | [], _, _, _, h => by simp at h
  | d :: ds, n, 0, e, h => by
    simp only [List.getElem?_cons_zero, Option.some.injEq] at h
    subst h
    rfl
  | d :: ds, n, i + 1, e, h => by
    rw [List.getElem?_cons_succ] at h
    show (enumD (n + 1) ds)[i]? = _
    rw [enumD_get ds (n + 1) i e h]
    congr 4
    omega
theorem wk_enum {a : Addr} {ds : List D} {vs : List V} (h : Reps w β G ds vs) (hG : SqL w.K G a vs) : WkOk0 w (Ite w.K a) ⟨enumD 0 ds, none⟩ β G := by
  refine ⟨fun H => SqL w.K H a vs, ?_, fun Fo β1 G1 H1 σ st _ g R _ => SqL.mono R.sub.h (SqL.mono g hG)⟩
  show Walk _ (enumD 0 ds).length _ _
  rw [enumD_len, ← h.len]
  exact walk_enum.mono (fun _ z => z) fun i H x H' _ _ y => by
    obtain ⟨T, x1, x2, y1, y2, y3, y4, y5⟩ := y
    simp only at y4 y5
    cases y4
    obtain ⟨d, e, r⟩ := h.at y5
    have e2 := enumD_get ds 0 i d e
    rw [Nat.zero_add] at e2
    exact ⟨_, e2, .inr ⟨T, _, _, _, _, y1, y2, y3, rfl, rep_int, r⟩⟩
theorem walk_enumT {K : PySem.W.Frag} {a : Addr} {xs : List V} : Walk (IteT K a) xs.length (fun H => SqT K H a xs) (YPair (fun i => some (.int (i : Nat))) (fun i => xs[i]?)) := by
  refine ⟨fun i _ hi q => ⟨xs, xs[i], q, by simp [hi]⟩, fun _ q => ⟨xs, q, rfl⟩, fun i H v H' _ q y => ?_⟩
  obtain ⟨T, x, h1, h2, h3, h4⟩ := y
  exact ⟨T, .int (i : Nat), x, h1, h2, h3, rfl, h4 xs q⟩
theorem wk_enumT {a : Addr} {ds : List D} {vs : List V} (h : Reps w β G ds vs) (hG : SqT w.K G a vs) : WkOk0 w (IteT w.K a) ⟨enumD 0 ds, none⟩ β G := by
  refine ⟨fun H => SqT w.K H a vs, ?_, fun Fo β1 G1 H1 σ st _ g R _ => SqT.mono R.sub.h (SqT.mono g hG)⟩
  show Walk _ (enumD 0 ds).length _ _
  rw [enumD_len, ← h.len]
  exact walk_enumT.mono (fun _ z => z) fun i H x H' _ _ y => by
    obtain ⟨T, x1, x2, y1, y2, y3, y4, y5⟩ := y
    simp only at y4 y5
    cases y4
    obtain ⟨d, e, r⟩ := h.at y5
    have e2 := enumD_get ds 0 i d e
    rw [Nat.zero_add] at e2
    exact ⟨_, e2, .inr ⟨T, _, _, _, _, y1, y2, y3, rfl, rep_int, r⟩⟩
/-- the items of a list or a tuple -/
def seqIt : D → Option (List D)
  | .lst ds => some ds
  | .fro ds => some ds
  | .tup ds => some ds
  | .ftu ds => some ds
  | _ => none
theorem seqIt_rep {d : D} {v : V} {ds : List D} (r : Rep w β G d v) (h : seqIt d = some ds) : ∃ a vs, v = .ref a ∧ Reps w β G ds vs ∧ (SqL w.K G a vs ∨ SqT w.K G a vs) := by
  cases d <;> simp only [seqIt, Option.some.injEq] at h <;> first | cases h | skip
  · unfold Rep at r; obtain ⟨_, a, vs, e, q, rr⟩ := r; exact ⟨a, vs, e, rr, .inr (SqT.of q)⟩
  · unfold Rep at r; obtain ⟨_, a, vs, e, q, rr⟩ := r; exact ⟨a, vs, e, rr, .inl (SqL.of q)⟩
  · unfold Rep at r; obtain ⟨_, a, vs, e, q, rr⟩ := r; exact ⟨a, vs, e, rr, .inl q⟩
  · unfold Rep at r; obtain ⟨_, a, vs, e, q, rr⟩ := r; exact ⟨a, vs, e, rr, .inr q⟩
def walkEnum (ms : M (List D)) : M Wk := ms.bind fun ds => (frzL ds).bind fun ds => match ds with
  | [d] => (match seqIt d with
    | some xs => M.ret ⟨enumD 0 xs, none⟩
    | none => M.bad)
  | _ => M.bad
theorem d_enum {elts : List Expr} {k : Nat} {tpos p : Pos} {ms : M (List D)} (hK : X.K = w.K) (hg : Gl X "enumerate") (hm : X.mg "enumerate" = none) (ha : PA X [a] (tA w W ms)) (hs : noStar a = true) :
    PI X (.Tuple elts k tpos) (.Call (.Name "enumerate" p) [a] [] pos) (tI w W (walkEnum ms)) :=
  PI.imp (pi_enumA hg hm ha (star1 hs)) fun σ H R h => tA_walk h fun Fo ds vs st β G H R0 r q => by
    split at q
    · rename_i d
      obtain ⟨v, rfl, r1⟩ := reps1 r
      cases ex : seqIt d with
      | some xs =>
        simp only [ex] at q
        obtain ⟨p, us, rfl, rr, hq⟩ := seqIt_rep r1 ex
        rw [hK]
        rcases hq with hq | hq
        · exact ⟨p, us, rfl, .inl ⟨SqL.mono R0.sub.h hq, q.2 _ β G H Fr.refl R0 (wk_enum rr hq)⟩⟩
        · exact ⟨p, us, rfl, .inr ⟨SqT.mono R0.sub.h hq, q.2 _ β G H Fr.refl R0 (wk_enumT rr hq)⟩⟩
      | none => simp only [ex] at q; exact q.elim
    · exact q.elim
/-- zip -/
def zipD : List D → List D → List D
  | a :: as, b :: bs => .tup [a, b] :: zipD as bs
  | _, _ => []
theorem zipD_len : ∀ (as bs : List D), (zipD as bs).length = min as.length bs.length
  | [], bs => by cases bs <;> simp [zipD]
  | a :: as, [] => by simp [zipD]
  | a :: as, b :: bs => by
    show _ + 1 = min (_ + 1) (_ + 1)
    rw [zipD_len as bs]; omega
theorem zipD_get : ∀ (as bs : List D) (i : Nat) (a b : D), as[i]? = some a → bs[i]? = some b → (zipD as bs)[i]? = some (.tup [a, b])
  | [], _, _, _, _, h, _ => by simp at h
  | _ :: _, [], _, _, _, _, h => by simp at h
  | a :: as, b :: bs, 0, x, y, h, h' => by
    simp only [List.getElem?_cons_zero, Option.some.injEq] at h h'
    subst h h'
    rfl
  | a :: as, b :: bs, i + 1, x, y, h, h' => by
    rw [List.getElem?_cons_succ] at h h'
    show (zipD as bs)[i]? = _
    exact zipD_get as bs i x y h h'
theorem wk_zip {a b : Addr} {ds es : List D} {vs us : List V} (h : Reps w β G ds vs) (h' : Reps w β G es us) (hG : SqL w.K G a vs) (hG' : SqL w.K G b us) : WkOk0 w (Itz w.K a b) ⟨zipD ds es, none⟩ β G := by
  refine ⟨fun H => SqL w.K H a vs ∧ SqL w.K H b us, ?_, fun Fo β1 G1 H1 σ st _ g R _ => ⟨SqL.mono R.sub.h (SqL.mono g hG), SqL.mono R.sub.h (SqL.mono g hG')⟩⟩
  show Walk _ (zipD ds es).length _ _
  rw [zipD_len, ← h.len, ← h'.len]
  exact (walk_zip rfl).mono (fun _ z => z) fun i H x H' _ _ y => by
    obtain ⟨T, x1, x2, y1, y2, y3, y4, y5⟩ := y
    simp only at y4 y5
    obtain ⟨d, e, r⟩ := h.at y4
    obtain ⟨d2, e2, r2⟩ := h'.at y5
    exact ⟨_, zipD_get ds es i d d2 e e2, .inr ⟨T, _, _, _, _, y1, y2, y3, rfl, r, r2⟩⟩
def lstOf : D → Option (List D)
  | .lst ds => some ds
  | .fro ds => some ds
  | _ => none
def tupOf : D → Option (List D)
  | .tup ds => some ds
  | .ftu ds => some ds
  | _ => none
theorem lstOf_rep {d : D} {v : V} {ds : List D} (r : Rep w β G d v) (h : lstOf d = some ds) : ∃ a vs, v = .ref a ∧ Reps w β G ds vs ∧ SqL w.K G a vs := by
  cases d <;> simp only [lstOf, Option.some.injEq] at h <;> first | cases h | skip
  · unfold Rep at r; obtain ⟨_, a, vs, e, q, rr⟩ := r; exact ⟨a, vs, e, rr, SqL.of q⟩
  · unfold Rep at r; obtain ⟨_, a, vs, e, q, rr⟩ := r; exact ⟨a, vs, e, rr, q⟩
theorem tupOf_rep {d : D} {v : V} {ds : List D} (r : Rep w β G d v) (h : tupOf d = some ds) : ∃ a vs, v = .ref a ∧ Reps w β G ds vs ∧ SqT w.K G a vs := by
  cases d <;> simp only [tupOf, Option.some.injEq] at h <;> first | cases h | skip
  · unfold Rep at r; obtain ⟨_, a, vs, e, q, rr⟩ := r; exact ⟨a, vs, e, rr, SqT.of q⟩
  · unfold Rep at r; obtain ⟨_, a, vs, e, q, rr⟩ := r; exact ⟨a, vs, e, rr, q⟩
theorem walk_zipT {K : PySem.W.Frag} {a b : Addr} {xs ys : List V} {n : Nat} (hn : n = min xs.length ys.length) : Walk (RZ.ItzT K a b) n (fun H => SqT K H a xs ∧ SqT K H b ys) (YPair (fun i => xs[i]?) (fun i => ys[i]?)) := by
  subst hn
  refine ⟨fun i _ hi q => ?_, fun _ q => ⟨xs, ys, q.1, q.2, by omega⟩, fun i H v H' _ q y => ?_⟩
  · have h1 : i < xs.length := by omega
    have h2 : i < ys.length := by omega
    exact ⟨xs, ys, xs[i], ys[i], q.1, q.2, by simp [h1], by simp [h2]⟩
  · obtain ⟨T, x, z, h1, h2, h3, h4, h5⟩ := y
    exact ⟨T, x, z, h1, h2, h3, h4 xs q.1, h5 ys q.2⟩
theorem wk_zipT {a b : Addr} {ds es : List D} {vs us : List V} (h : Reps w β G ds vs) (h' : Reps w β G es us) (hG : SqT w.K G a vs) (hG' : SqT w.K G b us) : WkOk0 w (RZ.ItzT w.K a b) ⟨zipD ds es, none⟩ β G := by
  refine ⟨fun H => SqT w.K H a vs ∧ SqT w.K H b us, ?_, fun Fo β1 G1 H1 σ st _ g R _ => ⟨SqT.mono R.sub.h (SqT.mono g hG), SqT.mono R.sub.h (SqT.mono g hG')⟩⟩
  show Walk _ (zipD ds es).length _ _
  rw [zipD_len, ← h.len, ← h'.len]
  exact (walk_zipT rfl).mono (fun _ z => z) fun i H x H' _ _ y => by
    obtain ⟨T, x1, x2, y1, y2, y3, y4, y5⟩ := y
    simp only at y4 y5
    obtain ⟨d, e, r⟩ := h.at y4
    obtain ⟨d2, e2, r2⟩ := h'.at y5
    exact ⟨_, zipD_get ds es i d d2 e e2, .inr ⟨T, _, _, _, _, y1, y2, y3, rfl, r, r2⟩⟩
def zipOf : List D → Option (List D)
  | [x, y] => (match lstOf x, lstOf y with
    | some xs, some ys => some (zipD xs ys)
    | _, _ => (match tupOf x, tupOf y with
      | some xs, some ys => some (zipD xs ys)
      | _, _ => none))
  | _ => none
def walkZip (ms : M (List D)) : M Wk := ms.bind fun ds => (frzL ds).bind fun ds => match zipOf ds with
  | some zs => M.ret ⟨zs, none⟩
  | none => M.bad
theorem d_zip {elts : List Expr} {k : Nat} {tpos p : Pos} {ms : M (List D)} (hK : X.K = w.K) (hg : Gl X "zip") (hm : X.mg "zip" = none) (ha : PA X [a, b] (tA w W ms)) (hs : noStar a = true) (hs' : noStar b = true) :
    PI X (.Tuple elts k tpos) (.Call (.Name "zip" p) [a, b] [] pos) (tI w W (walkZip ms)) :=
  PI.imp (RZ.pi_zipA hg hm ha (starEach_plain (noStar_ne hs)) (by rw [star1 hs']; rfl)) fun σ H R h => tA_walk h fun Fo ds vs st β G H R0 r q => by
    cases hz : zipOf ds with
    | none => simp only [hz] at q; exact q.elim
    | some zs =>
      simp only [hz] at q
      unfold zipOf at hz
      split at hz
      · rename_i x y
        obtain ⟨v, u, rfl, r1, r2⟩ := reps2 r
        split at hz
        · rename_i xs ys e1 e2
          cases hz
          obtain ⟨p, vs1, rfl, rr1, q1⟩ := lstOf_rep r1 e1
          obtain ⟨p2, vs2, rfl, rr2, q2⟩ := lstOf_rep r2 e2
          rw [hK]
          exact ⟨p, p2, vs1, vs2, rfl, .inl ⟨SqL.mono R0.sub.h q1, SqL.mono R0.sub.h q2, q.2 _ β G H Fr.refl R0 (wk_zip rr1 rr2 q1 q2)⟩⟩
        · split at hz
          · rename_i xs ys e1 e2
            cases hz
            obtain ⟨p, vs1, rfl, rr1, q1⟩ := tupOf_rep r1 e1
            obtain ⟨p2, vs2, rfl, rr2, q2⟩ := tupOf_rep r2 e2
            rw [hK]
            exact ⟨p, p2, vs1, vs2, rfl, .inr ⟨SqT.mono R0.sub.h q1, SqT.mono R0.sub.h q2, q.2 _ β G H Fr.refl R0 (wk_zipT rr1 rr2 q1 q2)⟩⟩
          · cases hz
      · cases hz
end
end PD

set_option autoImplicit false
namespace PD
open PySem PySem.Spec PyProof.Rows L2

/-- while, by fuel -/
def whileL (t : M Bool) (body : MS) : Nat → MS
  | 0 => M.bad
  | n + 1 => fun st => match t st with
    | .ok true st1 => (match body st1 with
      | .ok .nx st2 => whileL t body n st2
      | .ok .ct st2 => whileL t body n st2
      | .ok .bk st2 => .ok .nx st2
      | .ok (.rt x) st2 => .ok (.rt x) st2
      | .exc c fs st2 => .exc c fs st2
      | .bad => .bad)
    | .ok false st1 => .ok .nx st1
    | .exc c fs st1 => .exc c fs st1
    | .bad => .bad
/-- for .. else -/
def forEL (k : Wk) (g : D → M Unit) (body els : MS) : List D → MS
  | [] => els
  | d :: ds => fun st => match g d st with
    | .ok _ st1 => (match body st1 with
      | .ok .nx st2 => if k.still st2 = true then forEL k g body els ds st2 else .bad
      | .ok .ct st2 => if k.still st2 = true then forEL k g body els ds st2 else .bad
      | .ok .bk st2 => .ok .nx st2
      | .ok (.rt x) st2 => .ok (.rt x) st2
      | .exc c fs st2 => .exc c fs st2
      | .bad => .bad)
    | _ => .bad
def forEM (mw : M Wk) (g : D → M Unit) (body els : MS) : MS := mw.bind fun k st => if k.still st = true then forEL k g body els k.items st else .bad
section
variable {w : Wo} {gg : Prg} {si : SI} {kk : Nat} {X : Cx} {W : WX} {a b c e : Expr} {es : List Expr} {ma mb mc m : M DV} {pos : Pos} {Fo : Addr → Prop} {σ σ1 : L2.St} {st st1 st2 : St} {β β1 β2 : List Addr} {G H G1 H1 G2 H2 : Hp} {tg : Expr}
theorem while_out {t : M Bool} {body : MS} {D : Ends} {n : Nat} (R : RS w Fo β G H σ st) (h : OutS w W Fo β G H D (whileL t body n st)) : tWhile (tB w W t) (tS w W body) D σ H := by
  refine ⟨fun m σ' H' => ∃ (β' : List Addr) (G' : Hp) (st' : St), FrS Fo β G H β' G' H' ∧ RS w Fo β' G' H' σ' st' ∧ OutS w W Fo β G H D (whileL t body m st'), ⟨n, β, G, st, FrS.refl, R, h⟩, ?_⟩
  rintro m σ' H' ⟨β', G', st', F, R', h'⟩
  refine ⟨Fo, β', G', st', R', ?_⟩
  cases m with
  | zero => exact h'.elim
  | succ m =>
    simp only [whileL] at h'
    cases e1 : t st' with
    | ok b st1 =>
      rw [e1] at h'
      intro β1 G1 H1 F1 R1
      cases b with
      | true =>
        simp only [if_true]
        simp only at h'
        refine ⟨fun σ2 H2 => ∃ (β' : List Addr) (G' : Hp) (st' : St), FrS Fo β G H β' G' H2 ∧ RS w Fo β' G' H2 σ2 st' ∧ OutS w W Fo β G H D (whileL t body m st'), fun σ2 H2 hN => ⟨m, Nat.lt_succ_self m, hN⟩, Fo, β1, G1, st1, R1, ?_⟩
        cases e2 : body st1 with
        | ok f st2 =>
          rw [e2] at h'
          cases f with
          | nx => exact fun σ2 β2 G2 H2 F2 R2 => ⟨β2, G2, st2, (F.trans F1.s).trans F2, R2, h'⟩
          | ct => exact fun σ2 β2 G2 H2 F2 R2 => ⟨β2, G2, st2, (F.trans F1.s).trans F2, R2, h'⟩
          | bk => exact fun σ2 β2 G2 H2 F2 R2 => h' σ2 β2 G2 H2 ((F.trans F1.s).trans F2) R2
          | rt x =>
            obtain ⟨d, f⟩ := x
            exact fun v β2 G2 H2 F2 R2 V2 => h' v β2 G2 H2 ((F.trans F1.s).trans F2) R2 V2
        | exc c fs st2 =>
          rw [e2] at h'
          exact fun σ2 β2 G2 H2 dx gs F2 R2 q r => h' σ2 β2 G2 H2 dx gs ((F.trans F1.s).trans F2) R2 q r
        | bad => rw [e2] at h'; exact h'.elim
      | false =>
        simp only [Bool.false_eq_true, if_false]
        exact h' σ' β1 G1 H1 (F.trans F1.s) R1
    | exc c fs st1 =>
      rw [e1] at h'
      exact fun β1 G1 H1 dx gs F1 R1 q r => h' σ' β1 G1 H1 dx gs (F.trans F1.s) R1 q r
    | bad => rw [e1] at h'; exact h'.elim
theorem s_while {body : List Stmt} {t : M Bool} {mb : MS} {n : Nat} (hp : PassesOwn (model X.prog X.w) X.A X.env X.xe) (hc : PT X c (tB w W t)) (hb : PSs X body (tS w W mb)) : PS X (.While c body [] pos) (tS w W (whileL t mb n)) :=
  PS.imp (ps_while hp hc hb) fun D σ H h => by
    obtain ⟨Fo, β, G, st, R, h⟩ := h
    exact while_out R h
theorem forE_out {J : It} {k : Wk} {g : D → M Unit} {body els : MS} {D : Ends} (wk : WkOk w J k β G) (R : RS w Fo β G H σ st) (hs : k.still st = true) (h : OutS w W Fo β G H D (forEL k g body els k.items st)) :
    ∃ Wi : Nat → Nat → L2.St → Hp → Prop, (∃ m, Wi 0 m σ H) ∧ ∀ i m σ H, Wi i m σ H →
      (J.stop i H ∧ (tS w W els) D σ H) ∨ (J.go i H ∧ ∃ N : L2.St → Hp → Prop, (∀ σ' H', N σ' H' → ∃ m', m' < m ∧ Wi (i + 1) m' σ' H') ∧ ∀ x H', J.yld i H x H' → (tG w g) x σ H' fun σ2 H2 => (tS w W body) { D with nx := N, ct := N, bk := D.nx } σ2 H2) := by
  obtain ⟨C, wk, hC⟩ := wk.wk
  refine forE_by (J := J) k.items.length (Pv := fun i σ' H' => ∃ (β' : List Addr) (G' : Hp) (st' : St), FrS Fo β G H β' G' H' ∧ RS w Fo β' G' H' σ' st' ∧ k.still st' = true ∧ OutS w W Fo β G H D (forEL k g body els (k.items.drop i) st')) ⟨β, G, st, FrS.refl, R, hs, h⟩ ?_ ?_ ?_ ?_
  · rintro i σ' H' hi ⟨β', G', st', F, R', s', _⟩
    exact wk.goes i H' hi (hC Fo β' G' H' σ' st' F.b F.g R' s')
  · rintro σ' H' ⟨β', G', st', F, R', s', _⟩
    exact wk.stops H' (hC Fo β' G' H' σ' st' F.b F.g R' s')
  · rintro i x σ' H' H2 hi ⟨β', G', st', F, R', s', h'⟩ y
    have y := wk.yields i H' x H2 hi (hC Fo β' G' H' σ' st' F.b F.g R' s') y
    obtain ⟨d, G2, e, F2, R2, r2⟩ := yd_in F.b F.g R' s' y
    refine ⟨Fo, β', G2, st', d, R2, r2, ?_⟩
    have hd : k.items.drop i = d :: k.items.drop (i + 1) := by
      obtain ⟨hlt, he⟩ := List.getElem?_eq_some_iff.mp e
      rw [List.drop_eq_getElem_cons hlt, he]
    rw [hd] at h'
    simp only [forEL] at h'
    cases e1 : g d st' with
    | ok u st1 =>
      rw [e1] at h'
      intro σ3 β3 G3 H3 F3 R3
      refine ⟨Fo, β3, G3, st1, R3, ?_⟩
      simp only at h'
      cases e2 : body st1 with
      | ok f st2 =>
        rw [e2] at h'
        cases f with
        | nx =>
          simp only at h'
          intro σ4 β4 G4 H4 F4 R4
          by_cases c : k.still st2 = true
          · rw [if_pos c] at h'
            exact ⟨β4, G4, st2, ((F.trans F2).trans F3).trans F4, R4, c, h'⟩
          · rw [if_neg c] at h'; exact h'.elim
        | ct =>
          simp only at h'
          intro σ4 β4 G4 H4 F4 R4
          by_cases c : k.still st2 = true
          · rw [if_pos c] at h'
            exact ⟨β4, G4, st2, ((F.trans F2).trans F3).trans F4, R4, c, h'⟩
          · rw [if_neg c] at h'; exact h'.elim
        | bk =>
          intro σ4 β4 G4 H4 F4 R4
          exact h' σ4 β4 G4 H4 (((F.trans F2).trans F3).trans F4) R4
        | rt x =>
          obtain ⟨d, f⟩ := x
          intro v β4 G4 H4 F4 R4 V4
          exact h' v β4 G4 H4 (((F.trans F2).trans F3).trans F4) R4 V4
      | exc c fs st2 =>
        rw [e2] at h'
        intro σ4 β4 G4 H4 dx gs F4 R4 q r
        exact h' σ4 β4 G4 H4 dx gs (((F.trans F2).trans F3).trans F4) R4 q r
      | bad => rw [e2] at h'; exact h'.elim
    | exc c fs st1 => rw [e1] at h'; exact h'.elim
    | bad => rw [e1] at h'; exact h'.elim
  · rintro σ' H' ⟨β', G', st', F, R', s', h'⟩
    rw [List.drop_length] at h'
    exact ⟨Fo, β', G', st', R', h'.trans F⟩
theorem s_forE {mw : M Wk} {g : D → M Unit} {body els : List Stmt} {m me : MS} (hp : PassesOwn (model X.prog X.w) X.A X.env X.xe) (hc : X.calm = true) (hi : PI X tg e (tI w W mw)) (hg : PG X tg (tG w g)) (hb : PSs X body (tS w W m)) (ho : PSs X els (tS w W me))
    (hs : ∀ x, foldedSetIterable e X.env x = pure x) : PS X (.For tg e body els pos) (tS w W (forEM mw g m me)) :=
  PS.imp (ps_forE hp hc hi hg hb ho hs) fun D σ H h => by
    obtain ⟨Fo, β, G, st, R, h⟩ := h
    refine ⟨Fo, β, G, st, R, ?_⟩
    unfold forEM M.bind at h
    cases e1 : mw st with
    | ok k st1 =>
      rw [e1] at h
      simp only at h
      by_cases e3 : k.still st1 = true
      · rw [if_pos e3] at h
        exact ⟨e3, fun J β' G' H' F' R' wk => forE_out wk R' e3 (h.trans F'.s)⟩
      · rw [if_neg e3] at h
        exact h.elim
    | exc c fs st1 =>
      rw [e1] at h
      exact fun β' G' H' dx gs F R e r => h σ β' G' H' dx gs F.s R e r
    | bad => rw [e1] at h; exact h.elim
theorem fold_no {x : Value} (h : ∀ a b c, e ≠ .Set a b c) {env : Env} : foldedSetIterable e env x = pure x := by
  cases e with
  | Set a b c => exact absurd rfl (h a b c)
  | _ => rfl

/-! ### a < b < c, of ints -/
/-- the middle one is an int -/
def chainM (ma mb mc : M DV) (p q : Int → Int → Bool) : M DV := ma.bind fun x => mb.bind fun y => match x.1, y.1 with
  | .int i, .int j => if p i j = true then (mc.bind fun z => match z.1 with
      | .int l => M.ret (.bl (q j l), false)
      | _ => M.bad) else M.ret (.bl false, false)
  | _, _ => M.bad
theorem chain_out {p q : Int → Int → Bool} {Q : VK} (h : tD w W (chainM ma mb mc p q) σ H Q) : tChain (rI0 fun i j => .bl (p i j)) (rI0 fun i j => .bl (q i j)) (tD w W ma) (tD w W mb) (tD w W mc) σ H Q := by
  refine tD_bind h fun Fo d f v st β G H R V h => ?_
  refine tD_bind2 R V h fun d2 f2 v2 st2 β2 G2 H2 R2 F2 V1 V2 h2 => ?_
  simp only at h2
  split at h2
  · rename_i i j
    have e1 := (V1.held R2).int
    have V2' := V2.weak (Fo := Fo) fun _ z => .inl z
    have e2 := (V2'.held R2).int
    subst e1 e2
    refine ⟨i, j, rfl, rfl, p i j, rfl, ?_⟩
    cases c : p i j with
    | true =>
      simp only [c, if_true] at h2 ⊢
      refine tD_bind ⟨Fo, β2, G2, st2, R2, h2⟩ fun Fo3 d3 f3 v3 st3 β3 G3 H3 R3 V3 h3 => ?_
      simp only at h3
      split at h3
      · rename_i l
        have e3 := (V3.held R3).int
        subst e3
        exact ⟨j, l, rfl, rfl, Out.ret R3 h3 (RepV.val rep_bl)⟩
      · exact h3.elim
    | false =>
      simp only [c, Bool.false_eq_true, if_false] at h2 ⊢
      exact Out.ret R2 h2 (RepV.val rep_bl)
  · exact h2.elim
theorem last_ok {op op' : CmpOp} (h : (op' == .In) = false) (h' : (op' == .NotIn) = false) : lastMarks [op, op'] [b, c] = false := by
  show behindInMarks op' c = false
  cases c <;> simp [behindInMarks, h, h']
theorem d_chain {op op' : CmpOp} {p q : Int → Int → Bool} (ho : OpR X (compareOp op) (rI0 fun i j => .bl (p i j))) (ho' : OpR X (compareOp op') (rI0 fun i j => .bl (q i j))) (ha : PE X a (tD w W ma)) (hb : PE X b (tD w W mb)) (hc : PE X c (tD w W mc)) (h : (op' == .In) = false) (h' : (op' == .NotIn) = false) :
    PE X (.Compare a [op, op'] [b, c] pos) (tD w W (chainM ma mb mc p q)) := PE.imp (pe_chain ho ho' ha hb hc (last_ok h h')) fun _ _ _ q => chain_out q
theorem d_chainT {op op' : CmpOp} {p q : Int → Int → Bool} (ho : OpR X (compareOp op) (rI0 fun i j => .bl (p i j))) (ho' : OpR X (compareOp op') (rI0 fun i j => .bl (q i j))) (ha : PE X a (tD w W ma)) (hb : PE X b (tD w W mb)) (hc : PE X c (tD w W mc)) (h : (op' == .In) = false) (h' : (op' == .NotIn) = false) :
    PT X (.Compare a [op, op'] [b, c] pos) (tB w W ((chainM ma mb mc p q).bind boolM)) := PT.imp (pt_chain ho ho' ha hb hc (last_ok h h')) fun _ _ _ q => chain_out (tB_of q)

/-! ### x += n -/
def augM (i : Nat) (m : M DV) (f : Int → Int → Int) : MS := fun st => match st.env[i]? with
  | some (some (false, .int x)) => (m.bind fun y => match y.1 with
    | .int j => thenU (putD i (.int (f x j))) skip
    | _ => M.bad) st
  | _ => .bad
theorem s_aug {x : Str} {i : Nat} {p' : Pos} {op : Operator} {f : Int → Int → Int} (C : Cok w si X) (hi : ix x si.N = some i) (hs : sto si x = true) (he : PE X e (tD w W m)) (ho : PIp X op (ipI f)) : PS X (.AugAssign (.Name x p') op e pos) (tS w W (augM i m f)) := by
  obtain ⟨hl, hf⟩ := sto_ok C hs
  refine PS.imp (ps_aug C.nd (by rw [C.N]; exact ix_get hi) hl he ho hf) fun D σ H h => ?_
  obtain ⟨Fo, β, G, st, R, h⟩ := h
  unfold augM at h
  split at h
  · rename_i z ez
    obtain ⟨v, h1, h2⟩ := R.val i _ ez
    unfold Rep at h2
    subst h2
    refine ⟨.int z, h1, ?_⟩
    refine tD_stmt (k := fun y => match y.1 with
      | .int j => thenU (putD i (.int (f z j))) skip
      | _ => M.bad) ⟨Fo, β, G, st, R, h⟩ fun Fo2 d f2 v st2 β2 G2 H2 R2 V2 h2 => ?_
    simp only at h2
    split at h2
    · rename_i j
      have e2 := (V2.held R2).int
      subst e2
      refine ⟨z, j, rfl, rfl, ?_⟩
      unfold thenU putD at h2
      by_cases hlt : i < st2.env.length
      · simp only [hlt, if_true] at h2
        exact h2 _ β2 G2 H2 FrS.refl (R2.setVal hlt rep_int)
      · simp only [hlt, if_false] at h2; exact h2.elim
    · exact h2.elim
  · exact h.elim
end
end PD

set_option autoImplicit false
namespace PD
open PySem PySem.Spec PyProof.Rows L2

/-! ### attributes -/
inductive AtK where
  | fld | con (d : D) | prop (x : Str)
/-- what the classes are: attributes, methods (the def's name in the table), how they are made (the initializer, alone) -/
structure ClT where
  at_ : Str → Str → Option AtK
  me : Str → Str → Option (Str × FnI)
  made : Str → Option (Str × FnI × Bool)
  set_ : Str → Str → Option Str
  eq_ : Str → Option Str
  cm : Str → Str → Option (Bool × Str × FnI)
  ex_ : Str → Str → Bool := fun _ _ => false
/-- C.m is a staticmethod: its def at f -/
structure StM (K : PySem.W.Frag) (C : Addr) (mc : Value) (m : Str) (f : Addr) : Prop where
  ex : ∃ (p : Addr) (rest : List Value), PySem.W.findCls K (.ref C) mc m = some (.get (.builtin "staticmethod.__get__") (.ref p) .none (.ref C)) ∧ PySem.W.recIn K p "staticmethod" = some (.ref f :: rest)
/-- C.m is the def at f: a classmethod (true), a staticmethod -/
def CmAt (K : PySem.W.Frag) (C : Addr) (m : Str) (f : Addr) : Bool → Prop
  | false => ∃ mc, ClX.CRead K C mc ∧ StM K C mc m f
  | true => ∃ mc p, ClX.CRead K C mc ∧ ClX.CMet K C mc m p f
def AtOk (w : Wo) (g : Prg) (k : Nat) (call : Str → List D → List D → Rf) (c f : Str) : AtK → Prop
  | .fld => NoAttr w.K (w.ca c) f
  | .con d => ∃ v u, Con w.K (w.ca c) f v u ∧ ∀ β G, Rep w β G d v
  | .prop x => ∃ p q, PropOf w.K (w.ca c) f p q ∧ FnC g.P g.wd w.K g.mg g.base k q 1 [] (spC w fun ds _ S => call x ds S)
section
variable {w : Wo} {g : Prg} {si : SI} {k : Nat} {X : Cx} {W : WX} {a b e o : Expr} {es : List Expr} {ma mb m : M DV} {pos : Pos} {Fo : Addr → Prop} {σ : L2.St} {st st1 : St} {β β1 : List Addr} {G H G1 H1 : Hp} {call : Str → List D → List D → Rf}
theorem RepsF.look {fs : List (Str × D)} {gs : List (Str × V)} (h : RepsF w β G fs gs) (f : Str) : (fs.lookup f = none ∧ gs.lookup f = none) ∨ ∃ d v, fs.lookup f = some d ∧ gs.lookup f = some v ∧ Rep w β G d v := by
  induction fs generalizing gs with
  | nil => unfold RepsF at h; subst h; exact .inl ⟨rfl, rfl⟩
  | cons kv r ih =>
    obtain ⟨f', d⟩ := kv
    unfold RepsF at h
    obtain ⟨v, r', rfl, hd, ht⟩ := h
    by_cases c : (f == f') = true
    · exact .inr ⟨d, v, by rw [List.lookup_cons, c], by rw [List.lookup_cons, c], hd⟩
    · have c : (f == f') = false := by simpa using c
      rw [List.lookup_cons, List.lookup_cons, c]
      exact ih ht
/-- the attribute f of a value -/
def attrM (ct : ClT) (call : Str → List D → List D → Rf) (f : Str) : DV → M DV := fun x st => match deref st x.1 with
  | .ins c fs => (match ct.at_ c f with
    | some .fld => (match fs.lookup f with
      | some d => .ok (d, false) st
      | none => .bad)
    | some (.con d) => (match fs.lookup f with
      | some _ => .bad
      | none => .ok (d, false) st)
    | some (.prop q) => (match callF 1 0 (fun ds _ S => call q ds S) [x.1] [] st with
      | .ok y st' => .ok y st'
      | _ => .bad)
    | none => .bad)
  | .err c fs => if ct.ex_ c f = true then (match fs.lookup f with
    | some d => .ok (d, false) st
    | none => .bad) else .bad
  | _ => .bad
/-- the setter of a property -/
structure SetOf (K : PySem.W.Frag) (C : Addr) (f : Str) (q : Addr) : Prop where
  ex : ∃ p a rest, PySem.W.takerIn K C f = some (some (.ref p)) ∧ PySem.W.typeIn K (.ref p) = some (.type "property") ∧ PySem.W.recIn K p "property" = some (a :: .ref q :: rest)
structure ClsOk (ct : ClT) (w : Wo) (g : Prg) (k : Nat) (call : Str → List D → List D → Rf) : Prop where
  at_ : ∀ c f a, ct.at_ c f = some a → Cls w.K (w.ca c) ∧ AtOk w g k call c f a
  me : ∀ c m q fi, ct.me c m = some (q, fi) → Cls w.K (w.ca c) ∧ ∃ f, Meth w.K (w.ca c) m f ∧ ∀ n ks how, fi.bind n ks = some how →
    FnC g.P g.wd w.K g.mg g.base k f n ks (spC w fun ds kds S => call q (pickD how ds kds fi.dds) S)
  set_ : ∀ c f q, ct.set_ c f = some q → Cls w.K (w.ca c) ∧ ∃ fa, SetOf w.K (w.ca c) f fa ∧ FnC g.P g.wd w.K g.mg g.base k fa 2 [] (spC w fun ds _ S => call q ds S)
  eq_ : ∀ c q, ct.eq_ c = some q → ∃ fa, PySem.W.findIn w.K (.ref (w.ca c)) "__eq__" = some (some (.ref fa)) ∧ PySem.W.isFn w.K (.ref fa) = true ∧ FnC g.P g.wd w.K g.mg g.base k fa 2 [] (spC w fun ds _ S => call q ds S)
  made : ∀ c q fi al, ct.made c = some (q, fi, al) → ∃ f, Mk w.K (w.ca c) f ∧ ∀ n ks how, fi.bind n ks = some how →
    FnC g.P g.wd w.K g.mg g.base k f n ks (spC w fun ds kds S => call q (pickD how ds kds fi.dds) S)
  cm : ∀ c m b q fi, ct.cm c m = some (b, q, fi) → ∃ f, CmAt w.K (w.ca c) m f b ∧ ∀ n ks how, fi.bind n ks = some how →
    FnC g.P g.wd w.K g.mg g.base k f n ks (spC w fun ds kds S => call q (pickD how ds kds fi.dds) S)
  ex_ : ∀ c f, ct.ex_ c f = true → XfC w.K (w.ca c) ∧ PySem.W.findIn w.K (.ref (w.ca c)) f = some none
/-- a field of an error that is a value -/
theorem exfield_ok {pins : List (Addr × Obj)} {s : Shared} {Q : Value → Shared → Prop} {E' : Value → Shared → Prop} {C a dx : Addr} {gs : List (Str × V)} {f : Str} {v : V} {bb : Bool} (I : Inv X pins σ H s) (ea : H a = some (exo a C (some dx))) (ed : H dx = some (exd dx gs)) (T : XfC X.K C) (hno : PySem.W.findIn X.K (.ref C) f = some none) (hl : gs.lookup f = some v)
    (h : ∀ u s', Inv X pins σ H s' → RelV v u → Q u s') : wpAny (model X.prog X.w) X.A (getAttr (.ref a) f bb) Q E' s := by
  obtain ⟨t1, ho⟩ := exo_at I.hok ea
  obtain ⟨mA, hns, hr⟩ := exd_at I.hok ed
  obtain ⟨od, hd, hl2⟩ := lookIn_ns hns
  obtain ⟨u, hu, ru⟩ := RelO.some_of (v := v) (o := mA f) (by rw [← hl]; exact hr f)
  have J : PySem.W.InstAt s.heap a { cls := .ref C, dict := some dx, data := .fields #[.ref t1, .none, .none, .none, .bool false, .none] } C (some od) := ⟨ho, rfl, rfl, hd⟩
  exact HandSPX.exc_get I.kIn J T.ga T.gg T.exC (PySem.W.findObj_own T.hdC hno rfl (by rw [hl2, hu])) (handed_of ru) (h _ _ (I.tok _) ru)
/-- a property's getter, called by the read -/
theorem getprop_C {pins : List (Addr × Obj)} {s : Shared} {Q : VK} {E' : Value → Shared → Prop} {C p q ad dx : Addr} {gs : List (Str × V)} {f : Str} {sp : List V → List V → Hp → VK → XK → Prop} {bb : Bool} (I : Inv X pins σ H s) (ea : H ad = some (.ins C dx gs)) (c : Cls X.K C) (hp : PropOf X.K C f p q)
    (F : FnC X.prog X.w X.K X.mg X.base k q 1 [] sp) (hr : Room (k + 1) X.A) (h : sp [.ref ad] [] H Q fun _ _ _ => False) :
    wpAny (model X.prog X.w) X.A (getAttr (.ref ad) f bb) (EP X pins σ Q) E' s := by
  obtain ⟨mA, O, _, _, _, _⟩ := ins_get I.hok ea
  obtain ⟨od, J, _⟩ := O.look
  obtain ⟨rest, hrec⟩ := hp.rec_
  have I1 := I.tok (s.toks + 1)
  have hc : (PySem.W.clsIn X.K C).isSome = true := by
    obtain ⟨cd, hc, _⟩ := PySem.W.any_some c.hd
    rw [hc]
    rfl
  refine PySem.W.get_bind I.kIn J (PySem.W.plainGet_of (c.get f)).1 (PySem.W.findObj_data hc hp.at_ hp.get hp.tak) (PySem.W.plainGet_of (c.get f)).2 (wpAny_call (PySem.W.prop_get (s := { s with toks := s.toks + 1 }) I.kIn hrec ?_))
  refine codeAny_mono (F.run X.A.in1 X.stack { s with toks := s.toks + 1 } H [.ref ad] [] [.ref ad] [] Q (fun _ _ _ => False) hr.in1 I1.env0.in1 (.cons rfl .nil) rfl .nil rfl h) fun r s' hq => ?_
  cases r with
  | error er =>
    obtain ⟨_, _, _, _, _, _, _, _, _, _, _, _, f⟩ := hq
    exact f.elim
  | ok fl =>
    cases fl with
    | ret u =>
      obtain ⟨v, H', I3, rv, q3⟩ := I1.after hq
      show wpAny _ _ (handedOut u) _ _ _
      rw [PySem.W.handedOut_of (handed_of rv)]
      exact wpAny_pure ⟨v, H', I3, rv, q3⟩
    | next => exact False.elim hq
    | brk => exact False.elim hq
    | cont => exact False.elim hq
/-- the read itself -/
theorem attr_run {ct : ClT} {pins : List (Addr × Obj)} {s : Shared} {f : Str} {Q : VK} {d : D} {f' : Bool} {v : V} {u : Value} {bb : Bool} (CO : ClsOk ct w g k call) (C : Cok2 w g W k si X) (R : RS w Fo β G H σ st) (V1 : RepV w Fo σ st β G H f' d v) (q : Out w W Fo σ st β G H Q (attrM ct call f (d, f') st))
    (I : Inv X pins σ H s) (rv : RelV v u) : wpAny (model X.prog X.w) X.A (getAttr u f bb) (EP X pins σ Q) X.xe s := by
  unfold attrM at q
  have hh := V1.held R
  split at q
  · rename_i c fs e
    simp only at e
    rw [e] at hh
    obtain ⟨ad, dx, gs, rfl, ea, rf⟩ := hh.ins R.sub
    obtain rfl : u = Value.ref ad := rv
    split at q
    · rename_i ha
      obtain ⟨hc, hn⟩ := CO.at_ c f _ ha
      have hn : NoAttr w.K (w.ca c) f := hn
      rcases rf.look f with ⟨e1, _⟩ | ⟨d', v', e1, e2, r⟩
      · rw [e1] at q; exact q.elim
      · rw [e1] at q
        exact getattr_ok I ea (by rw [C.K]; exact hc) (by rw [C.K]; exact hn) e2 fun u' s' I' r' => ⟨v', H, I', r', q v' β G H Fr.refl R (RepV.val r)⟩
    · rename_i d0 ha
      obtain ⟨hc, v0, u0, hk, hr⟩ := CO.at_ c f _ ha
      rcases rf.look f with ⟨e1, e2⟩ | ⟨d', v', e1, e2, r⟩
      · rw [e1] at q
        exact getcon_ok I ea (by rw [C.K]; exact hc) (by rw [C.K]; exact hk) e2 fun s' I' => ⟨v0, H, I', hk.rel, q v0 β G H Fr.refl R (RepV.val (hr β G))⟩
      · rw [e1] at q; exact q.elim
    · rename_i x ha
      obtain ⟨hc, p, qa, hp, F⟩ := CO.at_ c f _ ha
      obtain ⟨G2, F2, R2, A2⟩ := settle R V1
      have q : Out w (fun _ _ _ _ => False) Fo σ st β G2 H Q (callF 1 0 (fun ds _ S => call x ds S) [d] [] st) := by
        have q := Out.trans F2 _ q
        simp only at q
        cases ec : callF 1 0 (fun ds _ S => call x ds S) [d] [] st with
        | ok y st' => rw [ec] at q; exact q
        | exc c fs st' => rw [ec] at q; exact q.elim
        | bad => rw [ec] at q; exact q.elim
      obtain ⟨_, _, sp⟩ := callF_ok (vs := [.ref ad]) (kvs := []) (ds := [d]) (kds := []) R2 ⟨_, [], rfl, A2, rfl⟩ rfl q
      have F' : FnC X.prog X.w X.K X.mg X.base k qa 1 [] (spC w fun ds _ S => call x ds S) := by
        rw [C.P, C.wd, C.K, C.mg, C.base]; exact F
      exact getprop_C I ea (by rw [C.K]; exact hc) (by rw [C.K]; exact hp) F' C.room sp
    · exact q.elim
  · rename_i c fs e
    simp only at e
    rw [e] at hh
    obtain ⟨ad, dx, gs, rfl, ea, ed, rf⟩ := hh.err R.sub
    obtain rfl : u = Value.ref ad := rv
    split at q
    · rename_i ha
      obtain ⟨hc, hn⟩ := CO.ex_ c f ha
      rcases rf.look f with ⟨e1, _⟩ | ⟨d', v', e1, e2, r⟩
      · rw [e1] at q; exact q.elim
      · rw [e1] at q
        exact exfield_ok I ea ed (by rw [C.K]; exact hc) (by rw [C.K]; exact hn) e2 fun u' s' I' r' => ⟨v', H, I', r', q v' β G H Fr.refl R (RepV.val r)⟩
    · exact q.elim
  · exact q.elim
/-- o.f -/
theorem d_attr {ct : ClT} {f : Str} (CO : ClsOk ct w g k call) (C : Cok2 w g W k si X) (ho : PE X o (tD w W m)) (hn : noSup o = true) : PE X (.Attribute o f pos) (tD w W (m.bind (attrM ct call f))) := by
  refine ⟨fun pins s σ H Q I h => attr_of (noSup_ok hn) (thn (ho.run pins s σ H (fun v H1 => ∀ u s1, Inv X pins σ H1 s1 → RelV v u → wpAny (model X.prog X.w) X.A (getAttr u f true) (EP X pins σ Q) X.xe s1) I (tD_bind h fun Fo d f' v st β G H1 R V q => ?_)) fun u s1 ⟨x, H1, I1, rx, q⟩ => q u s1 I1 rx)⟩
  exact fun u s1 I1 rv => attr_run CO C R V q I1 rv
/-! ### o.m(..), a method of an own class -/
def kwAll (kws : List Keyword) : Bool := kws.all fun k => k.arg.isSome
def kwNames (kws : List Keyword) : List Str := kws.filterMap fun k => k.arg
theorem kw_fst {env : Env} {p : Pos} : ∀ {kws : List Keyword}, (backToKw p (keywordEach kws env)).map (·.1) = kws.map (·.arg)
  | [] => rfl
  | ⟨nm, v, q⟩ :: kws => by
    show nm :: (backToKw p (keywordEach kws env)).map (·.1) = nm :: kws.map (·.arg)
    rw [kw_fst]
theorem kw_all {env : Env} {p : Pos} {kws : List Keyword} (h : kwAll kws = true) : (backToKw p (keywordEach kws env)).all (·.1.isSome) = true := by
  have e : (backToKw p (keywordEach kws env)).all (·.1.isSome) = ((backToKw p (keywordEach kws env)).map (·.1)).all (·.isSome) := by rw [List.all_map]; rfl
  rw [e, kw_fst, List.all_map]
  exact h
theorem kw_none {env : Env} {p : Pos} {kws : List Keyword} (h : kwAll kws = true) : (backToKw p (keywordEach kws env)).any (·.1.isNone) = false := by
  rw [List.any_eq_false]
  intro x hx
  have := List.all_eq_true.mp (kw_all (env := env) (p := p) h) x hx
  cases hx1 : x.1 with
  | none => rw [hx1] at this; cases this
  | some y => simp
theorem kw_names {env : Env} {p : Pos} {kws : List Keyword} : (backToKw p (keywordEach kws env)).filterMap (·.1) = kwNames kws := by
  have e : (backToKw p (keywordEach kws env)).filterMap (·.1) = ((backToKw p (keywordEach kws env)).map (·.1)).filterMap id := by rw [List.filterMap_map]; rfl
  rw [e, kw_fst, List.filterMap_map]
  rfl
theorem call_shape {mn : Str} {apos : Pos} {args : List Expr} {kws : List Keyword} {env : Env} (hn : noSup o = true) (hp : plainArgs args = true) (hk : kwAll kws = true) (hlen : args.length + kws.length + 1 < 30) (hl : (apos.endLine == pos.line) = true) :
    eval (.Call (.Attribute o mn apos) args kws pos) env = (do
      let ov ← eval o env
      standAt apos.atName
      let (f, first) ← holding [ov] (getMethod ov mn (plainOf o env))
      callWith pos f first (backTo pos (starEach args env)) (backToKw pos (keywordEach kws env))) := by
  have hf : methodCallForm (args.length + kws.length) (backTo pos (starEach args env)) (backToKw pos (keywordEach kws env)) = true := by
    unfold methodCallForm
    rw [back_all hp, kw_all hk]
    simp only [Bool.true_and, decide_eq_true_eq]
    split <;> omega
  rw [arm_eval_Call, noSup_ok hn]
  congr 1
  funext ov
  congr 1
  funext _
  exact mcall_line hf hl
def methO (ct : ClT) (call : Str → List D → List D → Rf) (m : M DV) (name : Str) (n : Nat) (ks : List Str) (ms mk : M (List D)) : M DV := m.bind fun x st => match deref st x.1 with
  | .ins c fs => (match ct.me c name with
    | some (q, fi) => (match fs.lookup name, fi.bind (n + 1) ks with
      | none, some how => (ms.bind fun ds => mk.bind fun kds => callF (n + 1) ks.length (fun ds kds S => call q (pickD how ds kds fi.dds) S) (x.1 :: ds) kds) st
      | _, _ => .bad)
    | none => .bad)
  | .glo c => (match ct.cm c name with
    | some (false, q, fi) => (match fi.bind n ks with
      | some how => callM n ks.length ms mk (fun ds kds S => call q (pickD how ds kds fi.dds) S) st
      | none => .bad)
    | some (true, q, fi) => (match fi.bind (n + 1) [], ks with
      | some how, [] => (ms.bind fun ds => callF (n + 1) 0 (fun ds kds S => call q (pickD how ds kds fi.dds) S) (.glo c :: ds) []) st
      | _, _ => .bad)
    | none => .bad)
  | _ => .bad
/-- the callee's arguments, then its run -/
theorem args_run {f : Addr} {v0 : V} {u0 : Value} {d0 : D} {args : List Expr} {kws : List Keyword} {ms mk : M (List D)} {F : List D → List D → List D → Rf} {pins : List (Addr × Obj)} {s : Shared} {Q : VK} (C : Cok2 w g W k si X)
    (hF : FnC X.prog X.w X.K X.mg X.base k f (args.length + 1) (kwNames kws) (spC w F)) (ha : PA X args (tA w W ms)) (hkw : PK X kws (tA w W mk)) (hp : plainArgs args = true) (hk : kwAll kws = true) (hms : args = [] → ms = argsNil)
    (R : RS w Fo β G H σ st) (A0 : RepA w σ st β G d0 v0) (r0 : RelV v0 u0) (q : Out w W Fo σ st β G H Q ((ms.bind fun ds => mk.bind fun kds => callF (args.length + 1) (kwNames kws).length F (d0 :: ds) kds) st)) (I : Inv X pins σ H s) :
    wpAny (model X.prog X.w) X.A (callWith pos (.ref f) [u0] (backTo pos (starEach args X.env)) (backToKw pos (keywordEach kws X.env))) (EP X pins σ Q) X.xe s := by
  have fin : ∀ (us kus : List Value) (vs kvs : List V) (H2 : Hp) (s2 : Shared), Inv X pins σ H2 s2 → Vals vs us → Vals kvs kus → (v0 :: vs).length = args.length + 1 → kvs.length = (kwNames kws).length → spC w F (v0 :: vs) kvs H2 Q (fun cls d H' => W cls d σ H') →
      wpAny (model X.prog X.w) X.A (call (.ref f) ([u0] ++ us) (((backToKw pos (keywordEach kws X.env)).filterMap (·.1)).zip kus)) (EP X pins σ Q) X.xe s2 := by
    intro us kus vs kvs H2 s2 I2 r1 r2 l1 l2 q2
    rw [kw_names]
    refine wpAny_call (codeAny_mono (hF.run X.A X.stack s2 H2 (u0 :: us) kus (v0 :: vs) kvs Q (fun cls d H' => W cls d σ H') (C.room.mono (Nat.le_succ _)) I2.env0 (.cons r0 r1) l1 r2 l2 q2) fun r s' hq => ?_)
    cases r with
    | error e => exact C.tk e s' (L2N.XE.of_call I2 (fun _ _ _ z => z) hq)
    | ok fl =>
      cases fl with
      | ret u => exact I2.after hq
      | next => exact False.elim hq
      | brk => exact False.elim hq
      | cont => exact False.elim hq
  cases args with
  | nil =>
    refine PySem.W.callWith_KW0 (first := [u0]) (h₀ := X.base) I.ok.mod.kin hF.kp (kw_all hk) ?_ (by rw [kw_none hk]; rfl)
    have em := hms rfl
    subst em
    have q : Out w W Fo σ st β G H Q ((mk.bind fun kds => callF 1 (kwNames kws).length F [d0] kds) st) := q
    refine thn (hkw.run pos pins s σ H (fun kvs H2 => kvs.length = (kwNames kws).length ∧ spC w F [v0] kvs H2 Q (fun cls d H' => W cls d σ H')) I (tA_bind2 R q fun kds kvs st2 β2 G2 H2 F2 R2 A2 h2 => ?_)) fun kus s2 ⟨kvs, H2, I2, r2, l2, q2⟩ => ⟨I2.kIn, ?_⟩
    · have A : RepAs w σ st2 β2 G2 [d0] [v0] := ⟨v0, [], rfl, A0.fr F2, rfl⟩
      exact (callF_ok R2 A A2 h2).2
    · exact fin [] kus [] kvs H2 s2 I2 .nil r2 rfl l2 q2
  | cons e es =>
    have hs : starEach (e :: es) X.env = (false, eval e X.env) :: starEach es X.env := starEach_plain (noStar_ne (by have := hp; unfold plainArgs at this; rw [List.all_cons, Bool.and_eq_true] at this; exact this.1))
    refine PySem.W.callWith_KW (first := [u0]) (h₀ := X.base) I.ok.mod.kin hF.kp (kw_all hk) ?_ (by rw [kw_none hk, back_any hp]; rfl) hs
    refine thn (ha.run pos pins s σ H (fun vs H1 => tA w W mk σ H1 fun kvs H2 => (v0 :: vs).length = (e :: es).length + 1 ∧ kvs.length = (kwNames kws).length ∧ spC w F (v0 :: vs) kvs H2 Q (fun cls d H' => W cls d σ H')) I (tA_bind2 R q fun ds vs st1 β1 G1 H1 F1 R1 A1 h1 => ?_)) fun us s1 ⟨vs, H1, I1, r1, q1⟩ => ?_
    · refine tA_bind2 R1 h1 fun kds kvs st2 β2 G2 H2 F2 R2 A2 h2 => ?_
      have A : RepAs w σ st2 β2 G2 (d0 :: ds) (v0 :: vs) := ⟨v0, vs, rfl, (A0.fr F1).fr F2, A1.fr F2⟩
      exact callF_ok R2 A A2 h2
    · refine thn (hkw.run pos pins s1 σ H1 _ I1 q1) fun kus s2 ⟨kvs, H2, I2, r2, l1, l2, q2⟩ => ⟨I2.kIn, ?_⟩
      exact fin us kus vs kvs H2 s2 I2 r1 r2 l1 l2 q2
/-- the callee runs -/
theorem run_C {f : Addr} {n : Nat} {ks : List Str} {F : List D → List D → List D → Rf} {us kus : List Value} {vs kvs : List V} {pins : List (Addr × Obj)} {s : Shared} {Q : VK} (C : Cok2 w g W k si X) (hF : FnC X.prog X.w X.K X.mg X.base k f n ks (spC w F)) (I : Inv X pins σ H s)
    (r1 : Vals vs us) (l1 : vs.length = n) (r2 : Vals kvs kus) (l2 : kvs.length = ks.length) (q : spC w F vs kvs H Q (fun cls d H' => W cls d σ H')) :
    codeAny (model X.prog X.w) X.A (.call (.ref f) ⟨us, ks.zip kus⟩) (fun r s' => match r with | .ok (.ret v) => EP X pins σ Q v s' | .ok _ => False | .error e => X.xe e s') s := by
  refine codeAny_mono (hF.run X.A X.stack s H us kus vs kvs Q (fun cls d H' => W cls d σ H') (C.room.mono (Nat.le_succ _)) I.env0 r1 l1 r2 l2 q) fun r s' hq => ?_
  cases r with
  | error e => exact C.tk e s' (L2N.XE.of_call I (fun _ _ _ z => z) hq)
  | ok fl =>
    cases fl with
    | ret u => exact I.after hq
    | next => exact False.elim hq
    | brk => exact False.elim hq
    | cont => exact False.elim hq
/-- .. its arguments first -/
theorem args_run0 {f : Addr} {args : List Expr} {kws : List Keyword} {ms mk : M (List D)} {F : List D → List D → List D → Rf} {pins : List (Addr × Obj)} {s : Shared} {Q : VK} (C : Cok2 w g W k si X)
    (hF : FnC X.prog X.w X.K X.mg X.base k f args.length (kwNames kws) (spC w F)) (ha : PA X args (tA w W ms)) (hkw : PK X kws (tA w W mk)) (hp : plainArgs args = true) (hk : kwAll kws = true) (hms : args = [] → ms = argsNil)
    (R : RS w Fo β G H σ st) (q : Out w W Fo σ st β G H Q (callM args.length (kwNames kws).length ms mk F st)) (I : Inv X pins σ H s) :
    wpAny (model X.prog X.w) X.A (callWith pos (.ref f) [] (backTo pos (starEach args X.env)) (backToKw pos (keywordEach kws X.env))) (EP X pins σ Q) X.xe s := by
  cases args with
  | nil =>
    refine PySem.W.callWith_KW0 (first := []) (h₀ := X.base) I.ok.mod.kin hF.kp (kw_all hk) ?_ (by rw [kw_none hk]; rfl)
    have em := hms rfl
    subst em
    have q : Out w W Fo σ st β G H Q ((mk.bind fun kds => callF 0 (kwNames kws).length F [] kds) st) := q
    refine thn (hkw.run pos pins s σ H (fun kvs H2 => kvs.length = (kwNames kws).length ∧ spC w F [] kvs H2 Q (fun cls d H' => W cls d σ H')) I (tA_bind2 R q fun kds kvs st2 β2 G2 H2 F2 R2 A2 h2 => ?_)) fun kus s2 ⟨kvs, H2, I2, r2, l2, q2⟩ => ⟨I2.kIn, ?_⟩
    · exact (callF_ok (vs := []) (ds := []) R2 rfl A2 h2).2
    · rw [kw_names]
      exact wpAny_call (run_C (us := []) (vs := []) C hF I2 .nil rfl r2 l2 q2)
  | cons e es =>
    have hs : starEach (e :: es) X.env = (false, eval e X.env) :: starEach es X.env := starEach_plain (noStar_ne (by have := hp; unfold plainArgs at this; rw [List.all_cons, Bool.and_eq_true] at this; exact this.1))
    refine PySem.W.callWith_KW (first := []) (h₀ := X.base) I.ok.mod.kin hF.kp (kw_all hk) ?_ (by rw [kw_none hk, back_any hp]; rfl) hs
    refine thn (ha.run pos pins s σ H (fun vs H1 => tA w W mk σ H1 fun kvs H2 => vs.length = (e :: es).length ∧ kvs.length = (kwNames kws).length ∧ spC w F vs kvs H2 Q (fun cls d H' => W cls d σ H')) I (tA_bind2 R q fun ds vs st1 β1 G1 H1 F1 R1 A1 h1 => ?_)) fun us s1 ⟨vs, H1, I1, r1, q1⟩ => ?_
    · refine tA_bind2 R1 h1 fun kds kvs st2 β2 G2 H2 F2 R2 A2 h2 => ?_
      exact callF_ok R2 (A1.fr F2) A2 h2
    · refine thn (hkw.run pos pins s1 σ H1 _ I1 q1) fun kus s2 ⟨kvs, H2, I2, r2, l1, l2, q2⟩ => ⟨I2.kIn, ?_⟩
      rw [kw_names]
      exact wpAny_call (run_C C hF I2 r1 l1 r2 l2 q2)
/-- the record of a classmethod, called -/
theorem run_cmC {f Ca q : Addr} {n : Nat} {F : List D → List D → List D → Rf} {us : List Value} {vs : List V} {pins : List (Addr × Obj)} {s : Shared} {Q : VK} (C : Cok2 w g W k si X) (hF : FnC X.prog X.w X.K X.mg X.base k f n [] (spC w F)) (I : Inv X ((q, PySem.W.methodObj (.ref f) (.ref Ca)) :: pins) σ H s)
    (r1 : Vals vs us) (l1 : (V.ref Ca :: vs).length = n) (h : spC w F (.ref Ca :: vs) [] H Q (fun cls d H' => W cls d σ H')) : wpAny (model X.prog X.w) X.A (PySem.call (.ref q) us) (EP X pins σ Q) X.xe s := by
  have z : wpAny (model X.prog X.w) X.A (PySem.call (.ref q) us) (EP X ((q, PySem.W.methodObj (.ref f) (.ref Ca)) :: pins) σ Q) X.xe s :=
    wpAny_call (PySem.W.method_call (ClX.pin_at I) (run_C (us := .ref Ca :: us) (kus := []) (vs := .ref Ca :: vs) (kvs := []) C hF I (.cons rfl r1) l1 .nil rfl h))
  exact thn z fun _ _ y => ClX.unpinE y
theorem getsm_ok {Ca f : Addr} {mc : Value} {mn : Str} {pl : Sem Bool} {E : Value → Shared → Prop} {A : Around} {pins : List (Addr × Obj)} {s : Shared} {Q : Value × List Value → Shared → Prop} (I : Inv X pins σ H s) (r : ClX.CRead X.K Ca mc) (c : StM X.K Ca mc mn f)
    (h : ∀ s', Inv X pins σ H s' → Q (.ref f, []) s') : wpAny (model X.prog X.w) A (getMethod (.ref Ca) mn pl) Q E s := by
  obtain ⟨p, rest, h1, h2⟩ := c.ex
  refine PySem.W.method_cls I.kIn r.ga (PySem.W.cls_bind I.kIn r.rd h1 (wpAny_call (PySem.W.sm_get (s := { s with toks := s.toks + 1 }) I.kIn h2 (PySem.W.handed_on rfl ?_))))
  exact h _ (I.tok _)
theorem glo_held {c : Str} {v : V} (h : Held w β G H (.glo c) v) : v = .ref (w.ca c) := by
  cases h with
  | val h => unfold Rep at h; exact h
  | own h => exact h.elim
/-- C.m(..), the record called -/
theorem cm_run {f Ca q : Addr} {c : Str} {args : List Expr} {ms : M (List D)} {F : List D → List D → List D → Rf} {pins : List (Addr × Obj)} {s : Shared} {Q : VK} (C : Cok2 w g W k si X) (hF : FnC X.prog X.w X.K X.mg X.base k f (args.length + 1) [] (spC w F)) (hc : Ca = w.ca c) (hf : PySem.W.fnIn X.K f = true) (hb : X.base.get? q = none)
    (ha : PA X args (tA w W ms)) (hp : plainArgs args = true) (hms : args = [] → ms = argsNil) (R : RS w Fo β G H σ st) (h : Out w W Fo σ st β G H Q ((ms.bind fun ds => callF (args.length + 1) 0 F (.glo c :: ds) []) st)) (I : Inv X ((q, PySem.W.methodObj (.ref f) (.ref Ca)) :: pins) σ H s) :
    wpAny (model X.prog X.w) X.A (callWith pos (.ref q) [] (backTo pos (starEach args X.env)) []) (EP X pins σ Q) X.xe s := by
  have r0 : ∀ {st : St} {β : List Addr} {G : Hp}, RepA w σ st β G (.glo c) (.ref Ca) := fun {st β G} => repA_of (by unfold Rep; rw [hc])
  cases args with
  | nil =>
    have em := hms rfl
    subst em
    have h : Out w W Fo σ st β G H Q (callF 1 0 F [.glo c] [] st) := h
    have A : RepAs w σ st β G [.glo c] [.ref Ca] := ⟨_, [], rfl, r0, rfl⟩
    have q2 := (callF_ok (kvs := []) (kds := []) R A rfl h).2.2
    exact PySem.W.callWith_M0 ⟨ClX.pin_at I, I.kIn⟩ hf (run_cmC (us := []) (vs := []) C hF I .nil rfl q2)
  | cons e es =>
    refine ClX.callwith_cm I hb hf ?_ (starEach_plain (noStar_ne (by have := hp; unfold plainArgs at this; rw [List.all_cons, Bool.and_eq_true] at this; exact this.1))) (back_any (by have := hp; unfold plainArgs at this ⊢; rw [List.all_cons, Bool.and_eq_true] at this; exact this.2))
    refine thn (ha.run pos _ s σ H (fun vs H1 => (V.ref Ca :: vs).length = (e :: es).length + 1 ∧ spC w F (.ref Ca :: vs) [] H1 Q (fun cls d H' => W cls d σ H')) I (tA_bind2 R h fun ds vs st1 β1 G1 H1 F1 R1 A1 h1 => ?_)) fun us s1 ⟨vs, H1, I1, r1, l1, q1⟩ => ⟨⟨ClX.pin_at I1, I1.kIn⟩, ?_⟩
    · have A : RepAs w σ st1 β1 G1 (.glo c :: ds) (.ref Ca :: vs) := ⟨_, vs, rfl, r0, A1⟩
      obtain ⟨q1, _, q3⟩ := callF_ok (kvs := []) (kds := []) R1 A rfl h1
      exact ⟨q1, q3⟩
    · exact run_cmC C hF I1 r1 l1 q1
/-- o.m(..) -/
theorem d_methO {ct : ClT} {mn : Str} {apos : Pos} {args : List Expr} {kws : List Keyword} {ms mk : M (List D)} (CO : ClsOk ct w g k call) (C : Cok2 w g W k si X) (ho : PE X o (tD w W m)) (ha : PA X args (tA w W ms)) (hkw : PK X kws (tA w W mk)) (hms : args = [] → ms = argsNil)
    (hn : noSup o = true) (hp : plainArgs args = true) (hk : kwAll kws = true) (hlen : args.length + kws.length + 1 < 30) (hl : (apos.endLine == pos.line) = true) :
    PE X (.Call (.Attribute o mn apos) args kws pos) (tD w W (methO ct call m mn args.length (kwNames kws) ms mk)) := by
  refine ⟨fun pins s σ H Q I h => ?_⟩
  refine PySem.W.methodCall_KW (pl := plainOf o X.env) (thn (ho.run pins s σ H (fun v H1 => ∀ u s1, Inv X pins σ H1 s1 → RelV v u → wpAny (model X.prog X.w) X.A (getMethod u mn (plainOf o X.env)) (fun fx s₂ => wpAny (model X.prog X.w) X.A (callWith pos fx.1 fx.2 (backTo pos (starEach args X.env)) (backToKw pos (keywordEach kws X.env))) (EP X pins σ Q) X.xe s₂) X.xe s1) I (tD_bind h fun Fo d f' v st β G H1 R V1 q => ?_)) fun u s1 ⟨x, H1, I1, rx, q⟩ => q u s1 I1 rx) (call_shape hn hp hk hlen hl)
  intro u s1 I1 rv
  have hh := V1.held R
  split at q
  · rename_i c fs e
    simp only at e
    rw [e] at hh
    obtain ⟨ad, dx, gs, rfl, ea, rf⟩ := hh.ins R.sub
    obtain rfl : u = Value.ref ad := rv
    split at q
    · rename_i qn fi hme
      split at q
      · rename_i how e1 e2
        obtain ⟨hc, fa, hM, hF⟩ := CO.me c mn qn fi hme
        have F := hF _ _ _ e2
        have F' : FnC X.prog X.w X.K X.mg X.base k fa (args.length + 1) (kwNames kws) (spC w fun ds kds S => call qn (pickD how ds kds fi.dds) S) := by
          rw [C.P, C.wd, C.K, C.mg, C.base]; exact F
        obtain ⟨G2, F2, R2, A2⟩ := settle R V1
        have q := Out.trans F2 _ q
        have hl2 : gs.lookup mn = none := by
          rcases rf.look mn with ⟨_, z⟩ | ⟨d', v', z, _, _⟩
          · exact z
          · rw [e1] at z; cases z
        refine getmeth_ok I1 ea (by rw [C.K]; exact hc) (by rw [C.K]; exact hM) hl2 ?_
        exact args_run C F' ha hkw hp hk hms R2 A2 rfl q I1
      · exact q.elim
    · exact q.elim
  · rename_i c e
    simp only at e
    rw [e] at hh
    have := glo_held hh
    subst this
    obtain rfl : u = Value.ref (w.ca c) := rv
    split at q
    · rename_i qn fi hcm
      split at q
      · rename_i how e2
        obtain ⟨fa, ⟨mc, h1, h2⟩, hF⟩ := CO.cm c mn false qn fi hcm
        have F' : FnC X.prog X.w X.K X.mg X.base k fa args.length (kwNames kws) (spC w fun ds kds S => call qn (pickD how ds kds fi.dds) S) := by
          rw [C.P, C.wd, C.K, C.mg, C.base]; exact hF _ _ _ e2
        exact getsm_ok I1 (by rw [C.K]; exact h1) (by rw [C.K]; exact h2) fun s2 I2 => args_run0 C F' ha hkw hp hk hms R q I2
      · exact q.elim
    · rename_i qn fi hcm
      split at q
      · rename_i how e2 e3
        obtain ⟨fa, ⟨mc, p, h1, h2⟩, hF⟩ := CO.cm c mn true qn fi hcm
        have F' : FnC X.prog X.w X.K X.mg X.base k fa (args.length + 1) [] (spC w fun ds kds S => call qn (pickD how ds kds fi.dds) S) := by
          rw [C.P, C.wd, C.K, C.mg, C.base]; exact hF _ _ _ e2
        have ek : kws = [] := by
          cases kws with
          | nil => rfl
          | cons z zs =>
            unfold kwAll at hk
            rw [List.all_cons, Bool.and_eq_true] at hk
            cases hz : z.arg with
            | none => rw [hz] at hk; cases hk.1
            | some y => unfold kwNames at e3; rw [List.filterMap_cons, hz] at e3; cases e3
        subst ek
        have h2' : ClX.CMet X.K (w.ca c) mc mn p fa := by rw [C.K]; exact h2
        refine ClX.getmethcm_ok I1 (by rw [C.K]; exact h1) h2' fun s2 I2 => ?_
        exact cm_run C F' rfl h2'.fi (ClX.base_none I1 (Nat.le_refl _)) ha hp hms R q I2
      · exact q.elim
    · exact q.elim
  · exact q.elim
end
end PD

set_option autoImplicit false
namespace PD
open PySem PySem.Spec PyProof.Rows L2

mutual
theorem beqD_refl : ∀ a : D, beqD a a = true
  | .non => by simp [beqD]
  | .bl x => by simp [beqD]
  | .int x => by simp [beqD]
  | .str x => by simp [beqD]
  | .tup x => by simp only [beqD]; exact beqDs_refl x
  | .lst x => by simp only [beqD]; exact beqDs_refl x
  | .set x => by simp only [beqD]; exact beqDs_refl x
  | .dct x => by simp only [beqD]; exact beqDd_refl x
  | .dtt x => by simp only [beqD]; exact beqDd_refl x
  | .ins c x => by simp only [beqD, Bool.and_eq_true, decide_eq_true_eq]; exact ⟨trivial, beqDf_refl x⟩
  | .err c x => by simp only [beqD, Bool.and_eq_true, decide_eq_true_eq]; exact ⟨trivial, beqDf_refl x⟩
  | .fro x => by simp only [beqD]; exact beqDs_refl x
  | .ftu x => by simp only [beqD]; exact beqDs_refl x
  | .obj x => by simp [beqD]
  | .loc x => by simp [beqD]
  | .glo x => by simp [beqD]
theorem beqDs_refl : ∀ a : List D, beqDs a a = true
  | [] => by simp [beqDs, beqDf, beqDd]
  | a :: r => by simp only [beqDs, Bool.and_eq_true]; exact ⟨beqD_refl a, beqDs_refl r⟩
theorem beqDf_refl : ∀ a : List (Str × D), beqDf a a = true
  | [] => by simp [beqDs, beqDf, beqDd]
  | (f, a) :: r => by simp only [beqDf, Bool.and_eq_true, decide_eq_true_eq]; exact ⟨trivial, beqD_refl a, beqDf_refl r⟩
theorem beqDd_refl : ∀ a : List (D × D), beqDd a a = true
  | [] => by simp [beqDs, beqDf, beqDd]
  | (f, a) :: r => by simp only [beqDd, Bool.and_eq_true]; exact ⟨beqD_refl f, beqD_refl a, beqDd_refl r⟩
end
/-! ### no stored object from n on is named -/
mutual
def clo (n : Nat) : D → Bool
  | .tup a => clos n a
  | .lst a => clos n a
  | .set a => clos n a
  | .dct a => clod n a
  | .dtt a => clod n a
  | .ins _ a => clof n a
  | .err _ a => clof n a
  | .fro a => clos n a
  | .ftu a => clos n a
  | .obj a => decide (a < n)
  | _ => true
def clos (n : Nat) : List D → Bool
  | [] => true
  | a :: r => clo n a && clos n r
def clof (n : Nat) : List (Str × D) → Bool
  | [] => true
  | (_, a) :: r => clo n a && clof n r
def clod (n : Nat) : List (D × D) → Bool
  | [] => true
  | (_, a) :: r => clo n a && clod n r
end
section
variable {w : Wo} {β : List Addr} {G : Hp}
mutual
theorem Rep.clo : ∀ (d : D) (v : V), Rep w β G d v → clo β.length d = true
  | .non, v, h => rfl
  | .bl b, v, h => rfl
  | .int i, v, h => rfl
  | .str x, v, h => rfl
  | .tup ds, v, h => by unfold Rep at h; obtain ⟨z, a, vs, e, s, r⟩ := h; unfold PD.clo; exact Reps.clo ds vs r
  | .lst ds, v, h => by unfold Rep at h; obtain ⟨z, a, vs, e, s, r⟩ := h; unfold PD.clo; exact Reps.clo ds vs r
  | .fro ds, v, h => by unfold Rep at h; obtain ⟨z, a, vs, e, s, r⟩ := h; unfold PD.clo; exact Reps.clo ds vs r
  | .ftu ds, v, h => by unfold Rep at h; obtain ⟨z, a, vs, e, s, r⟩ := h; unfold PD.clo; exact Reps.clo ds vs r
  | .set _, _, h => by unfold Rep at h; exact h.elim
  | .dct kvs, v, h => by unfold Rep at h; obtain ⟨z, a, ks, e, s, r⟩ := h; unfold PD.clo; exact RepsK.clo kvs ks r
  | .dtt kvs, v, h => by unfold Rep at h; obtain ⟨z, a, ks, e, s, r⟩ := h; unfold PD.clo; exact RepsT.clo kvs ks r
  | .ins c fs, v, h => by unfold Rep at h; obtain ⟨a, dx, gs, e, s, r⟩ := h; unfold PD.clo; exact RepsF.clo fs gs r
  | .err c fs, v, h => by unfold Rep at h; obtain ⟨a, dx, gs, e, s, s2, r⟩ := h; unfold PD.clo; exact RepsF.clo fs gs r
  | .obj n, v, h => by
    unfold Rep at h; obtain ⟨a, e, h⟩ := h; unfold PD.clo
    rw [decide_eq_true_eq]
    exact (List.getElem?_eq_some_iff.mp e).1
  | .loc _, _, h => rfl
  | .glo x, v, h => rfl
theorem Reps.clo : ∀ (ds : List D) (vs : List V), Reps w β G ds vs → clos β.length ds = true
  | [], vs, h => rfl
  | d :: ds, vs, h => by
    unfold Reps at h
    obtain ⟨v, r, e, s, t⟩ := h
    unfold clos
    rw [Rep.clo d v s, Reps.clo ds r t]; rfl
theorem RepsF.clo : ∀ (ds : List (Str × D)) (vs : List (Str × V)), RepsF w β G ds vs → clof β.length ds = true
  | [], vs, h => rfl
  | (f, d) :: ds, vs, h => by
    unfold RepsF at h
    obtain ⟨v, r, e, s, t⟩ := h
    unfold clof
    rw [Rep.clo d v s, RepsF.clo ds r t]; rfl
theorem RepsK.clo : ∀ (ds : List (D × D)) (vs : List (Key × V)), RepsK w β G ds vs → clod β.length ds = true
  | [], vs, h => rfl
  | (k, d) :: ds, vs, h => by
    unfold RepsK at h
    obtain ⟨q, v, r, e, s, t, u⟩ := h
    unfold clod
    rw [Rep.clo d v t, RepsK.clo ds r u]; rfl
theorem RepsT.clo : ∀ (ds : List (D × D)) (vs : List (List Key × V)), RepsT w β G ds vs → clod β.length ds = true
  | [], vs, h => rfl
  | (k, d) :: ds, vs, h => by
    unfold RepsT at h
    obtain ⟨q, v, r, e, s, t, u⟩ := h
    unfold clod
    rw [Rep.clo d v t, RepsT.clo ds r u]; rfl
end
variable {γ : List Addr}
mutual
theorem Rep.shr : ∀ (d : D) (v : V), clo β.length d = true → Rep w (β ++ γ) G d v → Rep w β G d v
  | .non, v, c, h => by unfold Rep at h ⊢; exact h
  | .bl b, v, c, h => by unfold Rep at h ⊢; exact h
  | .int i, v, c, h => by unfold Rep at h ⊢; exact h
  | .str x, v, c, h => by unfold Rep at h ⊢; exact h
  | .tup ds, v, c, h => by unfold Rep at h ⊢; unfold PD.clo at c; obtain ⟨z, a, vs, e, s, r⟩ := h; exact ⟨z, a, vs, e, s, Reps.shr ds vs c r⟩
  | .lst ds, v, c, h => by unfold Rep at h ⊢; unfold PD.clo at c; obtain ⟨z, a, vs, e, s, r⟩ := h; exact ⟨z, a, vs, e, s, Reps.shr ds vs c r⟩
  | .fro ds, v, c, h => by unfold Rep at h ⊢; unfold PD.clo at c; obtain ⟨z, a, vs, e, s, r⟩ := h; exact ⟨z, a, vs, e, s, Reps.shr ds vs c r⟩
  | .ftu ds, v, c, h => by unfold Rep at h ⊢; unfold PD.clo at c; obtain ⟨z, a, vs, e, s, r⟩ := h; exact ⟨z, a, vs, e, s, Reps.shr ds vs c r⟩
  | .set _, _, c, h => by unfold Rep at h; exact h.elim
  | .dct kvs, v, c, h => by unfold Rep at h ⊢; unfold PD.clo at c; obtain ⟨z, a, ks, e, s, r⟩ := h; exact ⟨z, a, ks, e, s, RepsK.shr kvs ks c r⟩
  | .dtt kvs, v, c, h => by unfold Rep at h ⊢; unfold PD.clo at c; obtain ⟨z, a, ks, e, s, r⟩ := h; exact ⟨z, a, ks, e, s, RepsT.shr kvs ks c r⟩
  | .ins _ fs, v, c, h => by unfold Rep at h ⊢; unfold PD.clo at c; obtain ⟨a, dx, gs, e, s, r⟩ := h; exact ⟨a, dx, gs, e, s, RepsF.shr fs gs c r⟩
  | .err _ fs, v, c, h => by unfold Rep at h ⊢; unfold PD.clo at c; obtain ⟨a, dx, gs, e, s, s2, r⟩ := h; exact ⟨a, dx, gs, e, s, s2, RepsF.shr fs gs c r⟩
  | .obj n, v, c, h => by
    unfold Rep at h ⊢
    unfold PD.clo at c
    rw [decide_eq_true_eq] at c
    obtain ⟨a, e, h⟩ := h
    rw [List.getElem?_append_left c] at e
    exact ⟨a, e, h⟩
  | .loc _, _, c, h => by unfold Rep at h; exact h.elim
  | .glo x, v, c, h => by unfold Rep at h ⊢; exact h
theorem Reps.shr : ∀ (ds : List D) (vs : List V), clos β.length ds = true → Reps w (β ++ γ) G ds vs → Reps w β G ds vs
  | [], vs, c, h => by unfold Reps at h ⊢; exact h
  | d :: ds, vs, c, h => by
    unfold Reps at h ⊢
    unfold clos at c
    rw [Bool.and_eq_true] at c
    obtain ⟨v, r, e, s, t⟩ := h
    exact ⟨v, r, e, Rep.shr d v c.1 s, Reps.shr ds r c.2 t⟩
theorem RepsF.shr : ∀ (ds : List (Str × D)) (vs : List (Str × V)), clof β.length ds = true → RepsF w (β ++ γ) G ds vs → RepsF w β G ds vs
  | [], vs, c, h => by unfold RepsF at h ⊢; exact h
  | (f, d) :: ds, vs, c, h => by
    unfold RepsF at h ⊢
    unfold clof at c
    rw [Bool.and_eq_true] at c
    obtain ⟨v, r, e, s, t⟩ := h
    exact ⟨v, r, e, Rep.shr d v c.1 s, RepsF.shr ds r c.2 t⟩
theorem RepsK.shr : ∀ (ds : List (D × D)) (vs : List (Key × V)), clod β.length ds = true → RepsK w (β ++ γ) G ds vs → RepsK w β G ds vs
  | [], vs, c, h => by unfold RepsK at h ⊢; exact h
  | (k, d) :: ds, vs, c, h => by
    unfold RepsK at h ⊢
    unfold clod at c
    rw [Bool.and_eq_true] at c
    obtain ⟨q, v, r, e, s, t, u⟩ := h
    exact ⟨q, v, r, e, s, Rep.shr d v c.1 t, RepsK.shr ds r c.2 u⟩
theorem RepsT.shr : ∀ (ds : List (D × D)) (vs : List (List Key × V)), clod β.length ds = true → RepsT w (β ++ γ) G ds vs → RepsT w β G ds vs
  | [], vs, c, h => by unfold RepsT at h ⊢; exact h
  | (k, d) :: ds, vs, c, h => by
    unfold RepsT at h ⊢
    unfold clod at c
    rw [Bool.and_eq_true] at c
    obtain ⟨q, v, r, e, s, t, u⟩ := h
    exact ⟨q, v, r, e, s, Rep.shr d v c.1 t, RepsT.shr ds r c.2 u⟩
end
theorem Own.clo {H : Hp} {a : Addr} : ∀ (d : D), Own w β G H a d → clo β.length d = true
  | .lst ds, h => by obtain ⟨z, vs, e, r⟩ := h; unfold PD.clo; exact r.clo ds
  | .dct kvs, h => by obtain ⟨z, ks, e, r⟩ := h; unfold PD.clo; exact r.clo kvs
  | .dtt kvs, h => by obtain ⟨z, ks, e, r⟩ := h; unfold PD.clo; exact r.clo kvs
  | .ins c fs, h => by obtain ⟨dx, gs, e, r⟩ := h; unfold PD.clo; exact r.clo fs
  | .non, h => h.elim
  | .bl _, h => h.elim
  | .int _, h => h.elim
  | .str _, h => h.elim
  | .tup _, h => h.elim
  | .set _, h => h.elim
  | .fro _, h => h.elim
  | .ftu _, h => h.elim
  | .obj _, h => h.elim
  | .loc _, h => h.elim
  | .glo _, h => h.elim
theorem Own.shr {H : Hp} {a : Addr} : ∀ (d : D), PD.clo β.length d = true → Own w (β ++ γ) G H a d → Own w β G H a d
  | .lst ds, c, h => by obtain ⟨z, vs, e, r⟩ := h; unfold PD.clo at c; exact ⟨z, vs, e, Reps.shr ds vs c r⟩
  | .dct kvs, c, h => by obtain ⟨z, ks, e, r⟩ := h; unfold PD.clo at c; exact ⟨z, ks, e, RepsK.shr kvs ks c r⟩
  | .dtt kvs, c, h => by obtain ⟨z, ks, e, r⟩ := h; unfold PD.clo at c; exact ⟨z, ks, e, RepsT.shr kvs ks c r⟩
  | .ins _ fs, c, h => by obtain ⟨dx, gs, e, r⟩ := h; unfold PD.clo at c; exact ⟨dx, gs, e, RepsF.shr fs gs c r⟩
  | .non, _, h => h.elim
  | .bl _, _, h => h.elim
  | .int _, _, h => h.elim
  | .str _, _, h => h.elim
  | .tup _, _, h => h.elim
  | .set _, _, h => h.elim
  | .fro _, _, h => h.elim
  | .ftu _, _, h => h.elim
  | .obj _, _, h => h.elim
  | .loc _, _, h => h.elim
  | .glo _, _, h => h.elim
end
/-! ### new instances -/
section
variable {w : Wo} {g : Prg} {si : SI} {k : Nat} {X : Cx} {W : WX} {a b e o : Expr} {es : List Expr} {ma mb m : M DV} {pos : Pos} {Fo : Addr → Prop} {σ : L2.St} {st st1 : St} {β β' β1 : List Addr} {G H G' H' G1 H1 : Hp} {call : Str → List D → List D → Rf}
/-- the new object is no one's but ours again -/
theorem RS.unmake {S : List D} {d : D} {p : Addr} (R : RS w Fo β G H σ st) (F : FrS (fun a => Fo a ∨ OwnAt σ st a) (β ++ [p]) G H1 β' G' H') (hk : ∀ a, Fo a ∨ OwnAt σ st a → H' a = H a) (R' : RS w (fun a => Fo a ∨ OwnAt σ st a) β' G' H' [] ⟨[], S⟩) (hl : S.length = st.sto.length + 1) (hs : S.take st.sto.length = st.sto) (hd : S[st.sto.length]? = some d)
    (hc : clo st.sto.length d = true) : RS w Fo β G' H' σ st ∧ Fr Fo st β G H st β G' H' ∧ RepV w Fo σ st β G' H' true d (.ref p) := by
  have eβ : β' = β ++ [p] := by
    apply List.ext_getElem?
    intro n
    by_cases hn : n < (β ++ [p]).length
    · have := F.b n (β ++ [p])[n] (by simp [hn])
      rw [this]; simp [hn]
    · have h2 : β'.length = (β ++ [p]).length := by rw [R'.len, List.length_append, R.len]; exact hl
      rw [List.getElem?_eq_none (by omega), List.getElem?_eq_none (by omega)]
  subst eβ
  have hnd := R'.nd
  rw [List.nodup_append] at hnd
  have hp : p ∉ β := fun z => hnd.2.2 p z p (by simp) rfl
  obtain ⟨q1, q2⟩ := R'.sto st.sto.length d p hd (by rw [← R.len]; simp)
  have inS : ∀ (n : Nat) (x : D), st.sto[n]? = some x → S[n]? = some x := fun n x e => by
    have hn : n < st.sto.length := (List.getElem?_eq_some_iff.mp e).1
    have : (S.take st.sto.length)[n]? = some x := by rw [hs]; exact e
    rw [List.getElem?_take] at this
    rw [if_pos hn] at this
    exact this
  have RN : RS w Fo β G' H' σ st := {
    len := R.len
    sub := R'.sub
    val := fun i d h => by
      obtain ⟨v, h1, h2⟩ := R.val i d h
      exact ⟨v, h1, Rep.mono F.g (SubB.refl _) d v h2⟩
    own := fun i d h => by
      obtain ⟨a, h1, h2, h3, h4⟩ := R.own i d h
      obtain ⟨_, q2, q3, _⟩ := R'.fo a (.inr ⟨i, d, h, h1⟩)
      exact ⟨a, h1, q2, h3, h4.mono F.g (SubB.refl _) (hk a (.inr ⟨i, d, h, h1⟩))⟩
    dis := R.dis
    sto := fun n x a h1 h2 => by
      obtain ⟨q3, q4⟩ := R'.sto n x a (inS n x h1) (by rw [List.getElem?_append_left (List.getElem?_eq_some_iff.mp h2).1]; exact h2)
      obtain ⟨_, q5⟩ := R.sto n x a h1 h2
      exact ⟨q3, q4.shr x q5.clo⟩
    nd := R.nd
    fo := fun a h => by
      obtain ⟨q1, q2, q3, _⟩ := R'.fo a (.inl h)
      exact ⟨q1, q2, (R.fo a h).2.2.1, (R.fo a h).2.2.2⟩
    ft := fun a h => R'.ft a (.inl h)
    ln := R.ln
    tb := R'.tb
    tq := fun q hq => ⟨(R'.tq q hq).1, (R.tq q hq).2⟩ }
  refine ⟨RN, ⟨F.g, SubB.refl _, fun a h => hk a (.inl h), fun i b d h c => ⟨b, d, h, c⟩⟩, RepV.fresh q1 hp (fun i x h z => ?_) (fun z => ?_) (q2.shr d (by rw [R.len]; exact hc))⟩
  · obtain ⟨_, _, q3, _⟩ := R'.fo p (.inr ⟨i, x, h, z⟩)
    exact q3 (by simp)
  · obtain ⟨_, _, q3, _⟩ := R'.fo p (.inl z)
    exact q3 (by simp)
/-- a new object of the class c, made by F -/
def makeM (alone : Bool) (c : Str) (F : List D → List D → List D → Rf) (ds kds : List D) : M DV := fun st =>
  match F (.obj st.sto.length :: ds) kds (st.sto ++ [.ins c []]) with
  | .ok (d0, _) S => (match d0 with
    | .non => if alone = true then (match S[st.sto.length]? with
        | some d => if (Nat.beq S.length (st.sto.length + 1) && beqDs (S.take st.sto.length) st.sto && clo st.sto.length d) = true then .ok (d, true) st else .bad
        | none => .bad)
      else .ok (.obj st.sto.length, false) ⟨st.env, S⟩
    | _ => .bad)
  | .exc c fs S => .exc c fs ⟨st.env, S⟩
  | .bad => .bad
theorem make_out {alone : Bool} {c : Str} {F : List D → List D → List D → Rf} {ds kds : List D} {vs kvs : List V} {Q : VK} (R : RS w Fo β G H σ st) (r1 : Reps w β G ds vs) (r2 : Reps w β G kds kvs) (q : Out w W Fo σ st β G H Q (makeM alone c F ds kds st)) {p dx : Addr} (hp : H p = none) (hd : H dx = none) (hne : dx ≠ p) :
    spC w F (.ref p :: vs) kvs (upd (upd H dx (.own p)) p (.ins (w.ca c) dx [])) (fun v H2 => v = .non ∧ Q (.ref p) H2) (fun cls d H' => W cls d σ H') := by
  have R1 : RS w Fo β G (upd H dx (.own p)) σ st := R.new hd
  have hp1 : upd H dx (.own p) p = none := by rw [upd_ne (Ne.symm hne)]; exact hp
  have R2 : RS w Fo β G (upd (upd H dx (.own p)) p (.ins (w.ca c) dx [])) σ st := R1.new hp1
  have o : Own w β G (upd (upd H dx (.own p)) p (.ins (w.ca c) dx [])) p (.ins c []) := ⟨dx, [], upd_same, by unfold RepsF; rfl⟩
  have R3 := R2.promote (R1.nog hp1) (R1.notin hp1) (R1.noown hp1) (R1.nofo hp1) o
  have Hk : ∀ a, (∃ u, H a = some u) → upd (upd H dx (.own p)) p (.ins (w.ca c) dx []) a = H a := fun a ⟨u, hu⟩ => by
    rw [upd_ne (ne_of_none hu hp), upd_ne (ne_of_none hu hd)]
  refine ⟨_, β ++ [p], G, st.sto ++ [.ins c []], .obj st.sto.length :: ds, kds, R3.callee, Reps.cons (rep_obj R2) (Reps.mono (SubH.refl _) (SubB.app _ _) ds vs r1), Reps.mono (SubH.refl _) (SubB.app _ _) kds kvs r2, ?_⟩
  have own_there : ∀ a, Fo a ∨ OwnAt σ st a → ∃ u, H a = some u := fun a z => by
    rcases z with z | ⟨i, d, h1, h2⟩
    · exact (R.fo a z).1
    · obtain ⟨b, q1, q2, q3, q4⟩ := R.own i d h1
      rw [h2] at q1; cases q1
      exact q4.there
  have Fr0 : Fr Fo st β G H ⟨st.env, st.sto ++ [.ins c []]⟩ (β ++ [p]) G (upd (upd H dx (.own p)) p (.ins (w.ca c) dx [])) := ⟨SubH.refl _, SubB.app _ _, fun a h => Hk a (own_there a (.inl h)), fun i b d h c => ⟨b, d, h, c⟩⟩
  unfold makeM at q
  split at q
  · rename_i d0 f0 S e
    rw [e]
    split at q
    · intro v β' G' H' F' R' V'
      have hv : v = .non := by
        cases f0 with
        | true => obtain ⟨b, _, _, _, _, _, o⟩ := V'; exact o.elim
        | false =>
          have hr : Rep w β' G' .non v := V'
          unfold Rep at hr
          exact hr
      refine ⟨hv, ?_⟩
      by_cases ha : alone = true
      · rw [if_pos ha] at q
        split at q
        · rename_i d hd'
          by_cases hc : (Nat.beq S.length (st.sto.length + 1) && beqDs (S.take st.sto.length) st.sto && clo st.sto.length d) = true
          · rw [if_pos hc] at q
            simp only [Bool.and_eq_true] at hc
            obtain ⟨⟨c1, c2⟩, c3⟩ := hc
            obtain ⟨RN, FN, VN⟩ := R.unmake F' (fun a z => (F'.kp a z).trans (Hk a (own_there a z))) R' (Nat.eq_of_beq_eq_true c1) (beqDs_eq _ _ c2) hd' c3
            exact q (.ref p) β G' H' FN RN VN
          · rw [if_neg hc] at q; exact q.elim
        · exact q.elim
      · rw [if_neg ha] at q
        refine q (.ref p) β' G' H' (Fr0.trans (Fr.back F')) (R3.back F' R') (RepV.val ?_)
        exact Rep.mono F'.g F'.b _ _ (rep_obj R2)
    · exact q.elim
  · rename_i c' fs S e
    rw [e]
    exact fun β' G' H' dx gs F' R' e2 r => q β' G' H' dx gs (Fr0.trans (Fr.back F')) (R3.back F' R') e2 r
  · exact q.elim
theorem run_make_C {pins : List (Addr × Obj)} {s : Shared} {n : Nat} {ks : List Str} {f cA : Addr} {F : List D → List D → List D → Rf} {us kus : List Value} {vs kvs : List V} {Q : VK} (M : Mk X.K cA f) (C : Cok2 w g W k si X) (hF : FnC X.prog X.w X.K X.mg X.base k f (n + 1) ks (spC w F)) (I : Inv X pins σ H s)
    (r1 : Vals vs us) (l1 : vs.length = n) (r2 : Vals kvs kus) (l2 : kvs.length = ks.length)
    (h : ∀ p dx, H p = none → H dx = none → dx ≠ p → spC w F (.ref p :: vs) kvs (upd (upd H dx (.own p)) p (.ins cA dx [])) (fun v H2 => v = .non ∧ Q (.ref p) H2) (fun cls d H' => W cls d σ H')) :
    wpAny (model X.prog X.w) X.A (PySem.call (.ref cA) us (ks.zip kus)) (EP X pins σ Q) X.xe s := by
  have hq := h (s.heap.objs.size + 1) s.heap.objs.size (I.hok.fresh (Nat.le_succ _)) (I.hok.fresh (Nat.le_refl _)) (Nat.ne_of_lt (Nat.lt_succ_self _))
  have I2 := Inv.made (C := cA) I
  have r3 : Vals (V.ref (s.heap.objs.size + 1) :: vs) (Value.ref (s.heap.objs.size + 1) :: us) := .cons rfl r1
  refine wpAny_call (make_map (f := f) I.kIn M.makes M.init (beq_iff_eq.mp M.fn) (codeAny_mono (hF.run _ X.stack _ _ (Value.ref (s.heap.objs.size + 1) :: us) kus _ kvs _ _ (C.room.make cA us (ks.zip kus))
    (I2.env0.make cA us (ks.zip kus)) r3 (by rw [List.length_cons, l1]) r2 l2 hq) fun r s' hq' => ?_))
  cases r with
  | error e => exact C.tk e s' (L2N.XE.of_call I2 (fun _ _ _ z => z) hq')
  | ok fl =>
    cases fl with
    | ret u =>
      obtain ⟨v, H', I3, rv, ev, q3⟩ := I2.after hq'
      subst ev
      exact ⟨rv, ⟨V.ref (s.heap.objs.size + 1), H', I3, rfl, q3⟩⟩
    | next => exact False.elim hq'
    | brk => exact False.elim hq'
    | cont => exact False.elim hq'
def newF (alone : Bool) (c : Str) (n j : Nat) (F : List D → List D → List D → Rf) (ds kds : List D) : M DV := (frzL ds).bind fun ds' => (frzL kds).bind fun kds' st => if ds'.length = n ∧ kds'.length = j then makeM alone c F ds' kds' st else .bad
def newM (alone : Bool) (c : Str) (n j : Nat) (ms mk : M (List D)) (F : List D → List D → List D → Rf) : M DV := ms.bind fun ds => mk.bind fun kds => newF alone c n j F ds kds
theorem newF_ok {alone : Bool} {c : Str} {n j : Nat} {F : List D → List D → List D → Rf} {ds kds : List D} {vs kvs : List V} {Q : VK} (R : RS w Fo β G H σ st) (A : RepAs w σ st β G ds vs) (A2 : RepAs w σ st β G kds kvs) (h : Out w W Fo σ st β G H Q (newF alone c n j F ds kds st)) :
    vs.length = n ∧ kvs.length = j ∧ ∀ p dx, H p = none → H dx = none → dx ≠ p → spC w F (.ref p :: vs) kvs (upd (upd H dx (.own p)) p (.ins (w.ca c) dx [])) (fun v H2 => v = .non ∧ Q (.ref p) H2) (fun cls d H' => W cls d σ H') := by
  obtain ⟨ds', st1, G1, e1, F1, R1, q1, l1⟩ := frzL_ok R A
  obtain ⟨kds', st2, G2, e2, F2, R2, q2, l2⟩ := frzL_ok R1 (A2.fr F1)
  unfold newF at h
  simp only [M.bind, e1, e2] at h
  by_cases c0 : ds'.length = n ∧ kds'.length = j
  · rw [if_pos c0] at h
    refine ⟨by rw [A.len, ← l1]; exact c0.1, by rw [A2.len, ← l2]; exact c0.2, fun p dx hp hd hne => ?_⟩
    exact make_out R2 (Reps.mono F2.g F2.b ds' vs q1) q2 (h.trans (F1.trans F2)) hp hd hne
  · rw [if_neg c0] at h; exact h.elim
/-- the arguments of a new instance, then its making -/
theorem new_run {f : Addr} {c : Str} {alone : Bool} {args : List Expr} {kws : List Keyword} {ms mk : M (List D)} {F : List D → List D → List D → Rf} {pins : List (Addr × Obj)} {s : Shared} {Q : VK} (C : Cok2 w g W k si X) (M : Mk X.K (w.ca c) f)
    (hF : FnC X.prog X.w X.K X.mg X.base k f (args.length + 1) (kwNames kws) (spC w F)) (ha : PA X args (tA w W ms)) (hkw : PK X kws (tA w W mk)) (hp : (backTo pos (starEach args X.env)).any (·.1) = false) (hk : kwAll kws = true) (hms : args = [] → ms = argsNil)
    (R : RS w Fo β G H σ st) (q : Out w W Fo σ st β G H Q (newM alone c args.length (kwNames kws).length ms mk F st)) (I : Inv X pins σ H s) :
    wpAny (model X.prog X.w) X.A (callWith pos (.ref (w.ca c)) [] (backTo pos (starEach args X.env)) (backToKw pos (keywordEach kws X.env))) (EP X pins σ Q) X.xe s := by
  have hpl : ((backTo pos (starEach args X.env)).any (·.1) || (backToKw pos (keywordEach kws X.env)).any (·.1.isNone)) = false := by rw [hp, kw_none hk]; rfl
  cases args with
  | nil =>
    refine PySem.W.callWith_KW0 (first := []) (h₀ := X.base) I.ok.mod.kin M.kp (kw_all hk) ?_ hpl
    have em := hms rfl
    subst em
    have q : Out w W Fo σ st β G H Q ((mk.bind fun kds => newF alone c 0 (kwNames kws).length F [] kds) st) := q
    refine thn (hkw.run pos pins s σ H (fun kvs H2 => kvs.length = (kwNames kws).length ∧ ∀ p dx, H2 p = none → H2 dx = none → dx ≠ p → spC w F [.ref p] kvs (upd (upd H2 dx (.own p)) p (.ins (w.ca c) dx [])) (fun v H2 => v = .non ∧ Q (.ref p) H2) (fun cls d H' => W cls d σ H')) I (tA_bind2 R q fun kds kvs st2 β2 G2 H2 F2 R2 A2 h2 => ?_)) fun kus s2 ⟨kvs, H2, I2, r2, l2, q2⟩ => ⟨I2.kIn, ?_⟩
    · have A : RepAs w σ st2 β2 G2 [] [] := rfl
      exact (newF_ok R2 A A2 h2).2
    · rw [kw_names]
      exact run_make_C (us := []) (vs := []) M C hF I2 .nil rfl r2 l2 q2
  | cons e es =>
    have he : ∀ a p, e ≠ .Starred a p := fun a p z => by
      subst z
      have : (true || (backTo pos (starEach es X.env)).any (·.1)) = false := hp
      cases this
    refine PySem.W.callWith_KW (first := []) (h₀ := X.base) I.ok.mod.kin M.kp (kw_all hk) ?_ hpl (starEach_plain he)
    refine thn (ha.run pos pins s σ H (fun vs H1 => tA w W mk σ H1 fun kvs H2 => vs.length = (e :: es).length ∧ kvs.length = (kwNames kws).length ∧ ∀ p dx, H2 p = none → H2 dx = none → dx ≠ p → spC w F (.ref p :: vs) kvs (upd (upd H2 dx (.own p)) p (.ins (w.ca c) dx [])) (fun v H2 => v = .non ∧ Q (.ref p) H2) (fun cls d H' => W cls d σ H')) I (tA_bind2 R q fun ds vs st1 β1 G1 H1 F1 R1 A1 h1 => ?_)) fun us s1 ⟨vs, H1, I1, r1, q1⟩ => ?_
    · refine tA_bind2 R1 h1 fun kds kvs st2 β2 G2 H2 F2 R2 A2 h2 => ?_
      exact newF_ok R2 (A1.fr F2) A2 h2
    · refine thn (hkw.run pos pins s1 σ H1 _ I1 q1) fun kus s2 ⟨kvs, H2, I2, r2, l1, l2, q2⟩ => ⟨I2.kIn, ?_⟩
      rw [kw_names]
      exact run_make_C M C hF I2 r1 l1 r2 l2 q2
/-- C(..), C a class of the module -/
theorem d_new {f : Addr} {x : Str} {p : Pos} {alone : Bool} {args : List Expr} {kws : List Keyword} {ms mk : M (List D)} {F : List D → List D → List D → Rf} (C : Cok2 w g W k si X) (M : Mk X.K (w.ca x) f) (hg : Gl X x) (hm : X.mg x = some (.ref (w.ca x)))
    (hF : FnC X.prog X.w X.K X.mg X.base k f (args.length + 1) (kwNames kws) (spC w F)) (ha : PA X args (tA w W ms)) (hkw : PK X kws (tA w W mk)) (hp : plainArgs args = true) (hk : kwAll kws = true) (hms : args = [] → ms = argsNil) (hdb : (x == ("__debug__" : Str)) = false) :
    PE X (.Call (.Name x p) args kws pos) (tD w W (newM alone x args.length (kwNames kws).length ms mk F)) := by
  refine ⟨fun pins s σ H Q I h => ?_⟩
  refine wpAny_Call_Name_kw (ld_glob I hg hm ?_ hdb)
  obtain ⟨Fo, β, G, st, R, h⟩ := h
  exact new_run C M hF ha hkw (back_any hp) hk hms R h I
end
end PD

set_option autoImplicit false
namespace PD
open PySem PySem.Spec PyProof.Rows L2

/-! ### o.f = value -/
def putFD (f : Str) (v : D) : List (Str × D) → List (Str × D)
  | [] => [(f, v)]
  | (g, x) :: r => if g = f then (g, v) :: r else (g, x) :: putFD f v r
/-- a value, given away; a container that no one else holds becomes a stored object if the text says so -/
def giveM (md : Md) (x : DV) : M D := fun st => match md, x.2 with
  | .obj, true => .ok (.obj st.sto.length) ⟨st.env, st.sto ++ [x.1]⟩
  | _, _ => frz1 x.1 st
def setAM (ct : ClT) (call : Str → List D → List D → Rf) (f : Str) (o d : D) : MS := fun st => match modOf st o with
  | some (.ins c fs) => (match ct.set_ c f with
    | some q => ((callF 2 0 (fun ds _ S => call q ds S) [o, d] []).bind fun _ => skip) st
    | none => (match ct.at_ c f with
      | some .fld => if fs.length < 1000 then .ok .nx (setOf st o (.ins c (putFD f d fs))) else .bad
      | _ => .bad))
  | _ => .bad
def sattrM (ct : ClT) (call : Str → List D → List D → Rf) (f : Str) (md : Md) (m mo : M DV) : MS := m.bind fun x => (giveM md x).bind fun d => mo.bind fun o => setAM ct call f o.1 d
section
variable {w : Wo} {g : Prg} {si : SI} {k : Nat} {X : Cx} {W : WX} {a b e o : Expr} {es : List Expr} {ma mb m : M DV} {pos : Pos} {Fo : Addr → Prop} {σ : L2.St} {st st1 : St} {β β' β1 : List Addr} {G H G' H' G1 H1 : Hp} {call : Str → List D → List D → Rf}
theorem RepsF.put {fs : List (Str × D)} {gs : List (Str × V)} (h : RepsF w β G fs gs) {f : Str} {d : D} {v : V} (r : Rep w β G d v) : RepsF w β G (putFD f d fs) (putF f v gs) := by
  induction fs generalizing gs with
  | nil =>
    unfold RepsF at h; subst h
    show RepsF w β G [(f, d)] [(f, v)]
    unfold RepsF
    exact ⟨v, [], rfl, r, by unfold RepsF; rfl⟩
  | cons kv rs ih =>
    obtain ⟨f', d'⟩ := kv
    unfold RepsF at h
    obtain ⟨v', r', rfl, hd, ht⟩ := h
    unfold putFD putF
    by_cases c : f' = f
    · rw [if_pos c, if_pos c]
      unfold RepsF
      exact ⟨v, r', rfl, r, ht⟩
    · rw [if_neg c, if_neg c]
      unfold RepsF
      exact ⟨v', _, rfl, hd, ih ht⟩
theorem RepsF.len {fs : List (Str × D)} {gs : List (Str × V)} (h : RepsF w β G fs gs) : gs.length = fs.length := by
  induction fs generalizing gs with
  | nil => unfold RepsF at h; subst h; rfl
  | cons kv rs ih =>
    obtain ⟨f', d'⟩ := kv
    unfold RepsF at h
    obtain ⟨v', r', rfl, hd, ht⟩ := h
    rw [List.length_cons, List.length_cons, ih ht]
theorem give_ok {md : Md} {f : Bool} {d : D} {v : V} (R : RS w Fo β G H σ st) (V1 : RepV w Fo σ st β G H f d v) : ∃ d' st' β' G', giveM md (d, f) st = .ok d' st' ∧ Fr Fo st β G H st' β' G' H ∧ RS w Fo β' G' H σ st' ∧ Rep w β' G' d' v := by
  have plain : ∃ d' st' β' G', frz1 d st = .ok d' st' ∧ Fr Fo st β G H st' β' G' H ∧ RS w Fo β' G' H σ st' ∧ Rep w β' G' d' v := by
    obtain ⟨G1, F1, R1, A1⟩ := settle R V1
    obtain ⟨d', st2, G2, e2, F2, R2, r2⟩ := frz1_ok R1 A1
    exact ⟨d', st2, β, G2, e2, F1.trans F2, R2, r2⟩
  cases f with
  | false => cases md <;> exact plain
  | true =>
    cases md with
    | val => exact plain
    | own => exact plain
    | obj =>
      rcases repV_cases V1 with ⟨_, _, _, _, z, _⟩ | V0
      · cases z
      · unfold RepV0 at V0
        simp only [if_true] at V0
        obtain ⟨a, rfl, q1, q2, q3, q4, q5⟩ := V0
        exact ⟨_, _, β ++ [a], G, rfl, ⟨SubH.refl _, SubB.app _ _, fun _ _ => rfl, fun i b d h c => ⟨b, d, h, c⟩⟩, R.promote q1 q2 q3 q4 q5, rep_obj R⟩
theorem Room.in2 {j : Nat} {A : Around} (r : Room (j + 1) A) : Room j A.in1.in1 :=
  ⟨r.hd, by have := r.dp; show A.depth + 3 * j + 5 < _; omega, by have := r.un; show A.units + 1 + 1 + 16 * j + 200 < _; omega⟩
theorem setprop_C {pins : List (Addr × Obj)} {s : Shared} {Q : VK} {C q ad dx : Addr} {gs : List (Str × V)} {f : Str} {y : V} {u : Value} {F : List D → List D → List D → Rf} (K : Cok2 w g W k si X) (I : Inv X pins σ H s) (ea : H ad = some (.ins C dx gs)) (c : Cls X.K C) (hp : SetOf X.K C f q)
    (hF : FnC X.prog X.w X.K X.mg X.base k q 2 [] (spC w F)) (ry : RelV y u) (h : spC w F [.ref ad, y] [] H Q (fun cls d H' => W cls d σ H')) :
    wpAny (model X.prog X.w) X.A (setAttr (.ref ad) f u) (fun _ s' => ∃ v H', Inv X pins σ H' s' ∧ Q v H') X.xe s := by
  obtain ⟨mA, O, _, _, _, _⟩ := ins_get I.hok ea
  obtain ⟨od, J, _⟩ := O.look
  obtain ⟨p, pa, rest, h1, h2, h3⟩ := hp.ex
  have I1 := I.tok (s.toks + 1)
  refine PySem.W.set_plain I.kIn J c.sa (PySem.W.osa_descr (s := { s with toks := s.toks + 1 }) PySem.W.KF.slot_pset I.kIn J c.po h1 h2 (PySem.W.prop_set (s := { s with toks := s.toks + 1 }) I.kIn h3 ?_))
  refine codeAny_mono (hF.run X.A.in1.in1 X.stack { s with toks := s.toks + 1 } H [.ref ad, u] [] [.ref ad, y] [] Q (fun cls d H' => W cls d σ H') (Room.in2 K.room) I1.env0.in1.in1 (.cons rfl (.cons ry .nil)) rfl .nil rfl h) fun r s' hq => ?_
  cases r with
  | error er => exact K.tk er s' (L2N.XE.of_call I1 (fun _ _ _ z => z) hq)
  | ok fl =>
    cases fl with
    | ret u =>
      obtain ⟨v, H', I3, rv, q3⟩ := I1.after hq
      exact ⟨v, H', I3, q3⟩
    | next => exact False.elim hq
    | brk => exact False.elim hq
    | cont => exact False.elim hq
/-- o.f = e -/
theorem s_attr {ct : ClT} {f : Str} {md : Md} {mo : M DV} {pos' : Pos} (CO : ClsOk ct w g k call) (C : Cok2 w g W k si X) (h : PE X e (tD w W m)) (ho : PE X o (tD w W mo)) :
    PS X (.Assign [.Attribute o f pos'] e pos) (tS w W (sattrM ct call f md m mo)) := by
  refine ⟨fun pins s σ H D I q => ?_⟩
  refine plainObj_wpAny_Assign_Attribute (thn (h.run pins s σ H (fun y H1 => tD w W mo σ H1 fun x H2 => ∀ (ov u : Value) (s2 : Shared), Inv X pins σ H2 s2 → RelV x ov → RelV y u → wpAny (model X.prog X.w) X.A (setAttr ov f u) (fun _ s' => ∃ σ' H', Inv X pins σ' H' s' ∧ D.nx σ' H') X.xe s2) I
    (tD_stmt q fun Fo d fl v st β G H1 R V q => ?_)) fun u s1 ⟨y, H1, I1, ry, q⟩ => thn (ho.run pins s1 σ H1 _ I1 q) fun ov s2 ⟨x, H2, I2, rx, q2⟩ => q2 ov u s2 I2 rx ry) (by cases e <;> rfl)
  obtain ⟨d', st2, β2, G2, e2, F2, R2, r2⟩ := give_ok (md := md) R V
  rw [M.bind_ok e2] at q
  have q := OutS.trans F2.s _ q
  refine ⟨Fo, β2, G2, st2, R2, ?_⟩
  unfold M.bind at q
  cases e3 : mo st2 with
  | exc c fs st3 => rw [e3] at q; exact fun β' G' H' dx gs F R e r => q σ β' G' H' dx gs F.s R e r
  | bad => rw [e3] at q; exact q.elim
  | ok x st3 =>
    obtain ⟨od, of⟩ := x
    rw [e3] at q
    intro vo β3 G3 H3 F3 R3 V3 ov u s2 I2 rx ry
    have q := OutS.trans F3.s _ q
    have r3 := Rep.mono F3.g F3.b d' v r2
    simp only [setAM] at q
    split at q
    · rename_i c fs hm
      obtain ⟨p, rfl, ⟨dx, gs, ea, rf⟩, hg, hw⟩ := write_ok R3 V3 hm
      obtain rfl : ov = Value.ref p := rx
      split at q
      · rename_i qn hs
        obtain ⟨hc, fa, hS, hF⟩ := CO.set_ c f qn hs
        have F' : FnC X.prog X.w X.K X.mg X.base k fa 2 [] (spC w fun ds _ S => call qn ds S) := by
          rw [C.P, C.wd, C.K, C.mg, C.base]; exact hF
        obtain ⟨G4, F4, R4, A4⟩ := settle R3 V3
        have q := OutS.trans F4.s _ q
        have A : RepAs w σ st3 β3 G4 [od, d'] [.ref p, v] := ⟨_, _, rfl, A4, _, _, rfl, repA_of (Rep.mono F4.g F4.b d' v r3), rfl⟩
        have q2 : Out w W Fo σ st3 β3 G4 H3 (fun _ H' => D.nx σ H') (callF 2 0 (fun ds _ S => call qn ds S) [od, d'] [] st3) := by
          unfold M.bind at q
          cases e5 : callF 2 0 (fun ds _ S => call qn ds S) [od, d'] [] st3 with
          | ok y st5 =>
            rw [e5] at q
            obtain ⟨yd, yf⟩ := y
            exact fun v5 β5 G5 H5 F5 R5 V5 => q σ β5 G5 H5 F5.s R5
          | exc c fs st5 =>
            rw [e5] at q
            exact fun β' G' H' dx gs F R e r => q σ β' G' H' dx gs F.s R e r
          | bad => rw [e5] at q; exact q.elim
        obtain ⟨_, _, sp⟩ := callF_ok (kvs := []) (kds := []) R4 A rfl q2
        exact wpAny_mono (setprop_C C I2 ea (by rw [C.K]; exact hc) (by rw [C.K]; exact hS) F' ry sp) (fun _ s' ⟨_, H', I', q'⟩ => ⟨σ, H', I', q'⟩) fun _ _ z => z
      · split at q
        · rename_i ha
          obtain ⟨hc, hn⟩ := CO.at_ c f _ ha
          have hn : NoAttr w.K (w.ca c) f := hn
          by_cases hl : fs.length < 1000
          · rw [if_pos hl] at q
            refine setattr_ok I2 ea (by rw [C.K]; exact hc) (by rw [C.K]; exact hn) (by rw [rf.len]; exact hl) ry fun s3 I3 => ⟨σ, _, I3, ?_⟩
            obtain ⟨F5, R5⟩ := hw (.ins (w.ca c) dx (putF f v gs)) (.ins c (putFD f d' fs)) ⟨dx, _, upd_same, rf.put r3⟩
            exact q σ β3 G3 _ F5.s R5
          · rw [if_neg hl] at q; exact q.elim
        · exact q.elim
    · exact q.elim
end
end PD

set_option autoImplicit true
namespace GQ2
open PySem PySem.SeqAt
open AutoSeq1 (wpAny_loadPart')
open MeetsSeq MeetsSeq2 MeetsSeq3 SeqRoads2
open GQ (FinOf call_here)

section
variable {prog : Program} {w : World} {A : Around} {R : Result → Shared → Prop}
/-- at each turn the two lists are read anew: N items each; an unequal pair ends it -/
def ListJ (prog : Program) (w : World) (A : Around) (E : Value → Shared → Prop) (l b : Addr) (N : Nat) (I : Nat → Shared → Prop) (F : Shared → Prop) : Prop :=
  (∀ i s, I i s → ∃ (items items2 : Array Value) (n n2 : Nat), s.heap.get? l = some { cls := .type "list", data := .seq items n } ∧ s.heap.get? b = some { cls := .type "list", data := .seq items2 n2 } ∧ items.size = N ∧ items2.size = N ∧
    ∀ (h1 : i < items.size) (h2 : i < items2.size), wpAny (model prog w) A.in1 (eqBool items[i] items2[i]) (fun r s' => (r = true ∧ I (i + 1) s') ∨ (r = false ∧ F s')) E s) ∧
  ∀ s, F s → ∃ (items items2 : Array Value) (n n2 : Nat), s.heap.get? l = some { cls := .type "list", data := .seq items n } ∧ s.heap.get? b = some { cls := .type "list", data := .seq items2 n2 } ∧ items.size = N ∧ items2.size = N
theorem eq_loopJ (l b : Addr) (N : Nat) (I : Nat → Shared → Prop) (F : Shared → Prop) (hl : ListJ prog w A (fun e s' => R (.error e) s') l b N I F)
    (fin : ∀ s, I N s → R (.ok (.ret (.bool true))) s) (finF : ∀ s, F s → R (.ok (.ret (.bool false))) s) (k : Nat) :
    ∀ i : Nat, N - i = k → i ≤ N → ∀ s, I i s →
      wpAny (model prog w) A.in1 (Builtin.«list.__eq__.loop» ⟨[.ref l, .ref b, rawInt i, rawInt 2], []⟩) (FinOf prog w A R) (fun e s' => R (.error e) s') s := by
  induction k with
  | zero =>
    intro i hk hi s h
    obtain ⟨items, items2, n, n2, hl1, hb1, hs1, hs2, _⟩ := hl.1 _ _ h
    have hi' : i = N := by omega
    have hR : R (.ok (.ret (.bool true))) s := fin s (hi' ▸ h)
    obtain ⟨hp, g, d, tk, os⟩ := s
    wp_walk using wpAny_loadPart' hl1, wpAny_loadPart' hb1
    have hi1 : items[((i : Nat) : Int).toNat]? = none := by simp; omega
    have hi2 : items2[((i : Nat) : Int).toNat]? = none := by simp; omega
    rw [hi1, hi2]
    wp_walk using wpAny_loadPart' hl1, wpAny_loadPart' hb1
    show R (.ok (.ret (.bool (items.size == items2.size)))) _
    rw [hs1, hs2]
    simpa using hR
  | succ k ih =>
    intro i hk hi s h
    obtain ⟨items, items2, n, n2, hl1, hb1, hs1, hs2, turn⟩ := hl.1 _ _ h
    have hlt : i < items.size := by omega
    have hlt2 : i < items2.size := by omega
    have ht := turn hlt hlt2
    obtain ⟨hp, g, d, tk, os⟩ := s
    wp_walk using wpAny_loadPart' hl1, wpAny_loadPart' hb1
    have hi1 : items[((i : Nat) : Int).toNat]? = some items[i] := by simp [hlt]
    have hi2 : items2[((i : Nat) : Int).toNat]? = some items2[i] := by simp [hlt2]
    have hc : ((i : Int) + 1) = ((i + 1 : Nat) : Int) := by omega
    rw [hi1, hi2]
    refine wpAny_bind (wpAny_mono ht (fun r s2 h2 => ?_) fun _ _ x => x)
    rcases h2 with ⟨hr, h2⟩ | ⟨hr, h2⟩
    · subst hr
      have hrec := ih (i + 1) (by omega) (by omega) s2 h2
      obtain ⟨hp2, g2, d2, tk2, os2⟩ := s2
      wp_walk
      rw [hc]
      exact ⟨plainId_quiet plain_eq_loop _, codeAny_builtin entry_eq_loop (by
        rw [Around.under_plainId plain_eq_loop _]
        exact hrec)⟩
    · subst hr
      obtain ⟨items', items2', n', n2', hl2, hb2, hs1', hs2'⟩ := hl.2 _ h2
      have hR := finF _ h2
      obtain ⟨hp2, g2, d2, tk2, os2⟩ := s2
      wp_walk using wpAny_loadPart' hl2, wpAny_loadPart' hb2
      have hi1' : ∃ x, items'[((i : Nat) : Int).toNat]? = some x := ⟨items'[i]'(by omega), by simp⟩
      have hi2' : ∃ x, items2'[((i : Nat) : Int).toNat]? = some x := ⟨items2'[i]'(by omega), by simp⟩
      obtain ⟨x1, hx1⟩ := hi1'
      obtain ⟨x2, hx2⟩ := hi2'
      rw [hx1, hx2]
      wp_walk
      exact hR
theorem list_eqJ (l b : Addr) (N : Nat) (I : Nat → Shared → Prop) (F : Shared → Prop) (hl : ListJ prog w A (fun e s' => R (.error e) s') l b N I F)
    (fin : ∀ s, I N s → R (.ok (.ret (.bool true))) s) (finF : ∀ s, F s → R (.ok (.ret (.bool false))) s) {s : Shared} (h : I 0 s) :
    wpAny (model prog w) A.in1 (Builtin.«list.__eq__» ⟨[.ref l, .ref b], []⟩) (FinOf prog w A R) (fun e s' => R (.error e) s') s := by
  obtain ⟨items, items2, n, n2, hl1, hb1, hs1, hs2, _⟩ := hl.1 _ _ h
  have hrec := eq_loopJ (A := A) (R := R) l b N I F hl fin finF _ 0 rfl (Nat.zero_le _) s h
  obtain ⟨hp, g, d, tk, os⟩ := s
  have f3 := AutoSeq1.sub_list_list
  have hne : ¬ (items.size != items2.size) = true := by simp [hs1, hs2]
  wp_walk using wpAny_loadPart' hl1, wpAny_loadPart' hb1
  exact ⟨plainId_quiet plain_eq_loop _, codeAny_builtin entry_eq_loop (by
    rw [Around.under_plainId plain_eq_loop _]
    exact hrec)⟩
/-- lists of different lengths -/
theorem list_neJ (l b : Addr) {items items2 : Array Value} {n n2 : Nat} {s : Shared} (hl1 : s.heap.get? l = some { cls := .type "list", data := .seq items n }) (hb1 : s.heap.get? b = some { cls := .type "list", data := .seq items2 n2 }) (hne : items.size ≠ items2.size)
    (fin : R (.ok (.ret (.bool false))) s) :
    wpAny (model prog w) A.in1 (Builtin.«list.__eq__» ⟨[.ref l, .ref b], []⟩) (FinOf prog w A R) (fun e s' => R (.error e) s') s := by
  obtain ⟨hp, g, d, tk, os⟩ := s
  have f3 := AutoSeq1.sub_list_list
  have hne : (items.size != items2.size) = true := by simp [hne]
  wp_walk using wpAny_loadPart' hl1, wpAny_loadPart' hb1
  exact fin
theorem tuple_eqJ (l b : Addr) (items items2 : Array Value) (n n2 : Nat) (dd dd2 : Option Addr) (sl sl2 : Array (Option Value)) (hsz : items.size = items2.size) (I : Nat → Shared → Prop) (F : Shared → Prop)
    (turn : ∀ i (h1 : i < items.size) (h2 : i < items2.size) s, I i s → wpAny (model prog w) A.in1 (eqBool items[i] items2[i]) (fun r s' => (r = true ∧ I (i + 1) s') ∨ (r = false ∧ F s')) (fun e s' => R (.error e) s') s)
    (fin : ∀ s, I items.size s → R (.ok (.ret (.bool true))) s) (finF : ∀ s, F s → R (.ok (.ret (.bool false))) s) {s : Shared} (hl1 : s.heap.get? l = some { cls := .type "tuple", dict := dd, data := .seq items n, slots := sl }) (hb1 : s.heap.get? b = some { cls := .type "tuple", dict := dd2, data := .seq items2 n2, slots := sl2 }) (h : I 0 s) :
    wpAny (model prog w) A.in1 (Builtin.«tuple.__eq__» ⟨[.ref l, .ref b], []⟩) (FinOf prog w A R) (fun e s' => R (.error e) s') s := by
  have f2 := AutoSeq1.sub_tuple_tuple
  have hZ : (items.toList.zip items2.toList).length = items.size := by simp [hsz]
  have h0 := h
  obtain ⟨hp, g, d, tk, os⟩ := s
  wp_walk using wpAny_loadPart' hl1, wpAny_loadPart' hb1, wpAny_forIn_list _ (fun rest b s' => b.1 = none ∧ ∃ i, rest = (items.toList.zip items2.toList).drop i ∧ i ≤ items.size ∧ I i s') _
  case turn =>
    rintro ⟨y, x⟩ rest b s' ⟨hb', i, hz, hi, hI⟩
    have hlt : i < (items.toList.zip items2.toList).length := by
      rcases Nat.lt_or_ge i (items.toList.zip items2.toList).length with h' | h'
      · exact h'
      · rw [List.drop_of_length_le h'] at hz; cases hz
    have h1 : i < items.size := hZ ▸ hlt
    have h2 : i < items2.size := hsz ▸ h1
    rw [List.drop_eq_getElem_cons hlt] at hz
    injection hz with hyx hrest
    have hy : y = items[i] := by have := congrArg Prod.fst hyx; simpa using this
    have hx : x = items2[i] := by have := congrArg Prod.snd hyx; simpa using this
    subst hy hx
    refine wpAny_bind (wpAny_mono (turn i h1 h2 s' hI) (fun r s2 q2 => ?_) fun _ _ x => x)
    rcases q2 with ⟨hr, q2⟩ | ⟨hr, q2⟩
    · subst hr
      wp_walk
      exact ⟨rfl, i + 1, hrest, h1, q2⟩
    · subst hr
      have hR := finF _ q2
      wp_walk
      exact hR
  case fin =>
    rintro ⟨b1, b2⟩ s' ⟨hb', i, hz, hi, hI⟩
    simp only at hb'
    subst hb'
    have hge : items.size ≤ i := by
      rcases Nat.lt_or_ge i (items.toList.zip items2.toList).length with h' | h'
      · rw [List.drop_eq_getElem_cons h'] at hz; cases hz
      · exact hZ ▸ h'
    have hi' : i = items.size := by omega
    have hR : R (.ok (.ret (.bool true))) s' := fin s' (hi' ▸ hI)
    wp_walk
    simpa [Builtin.Tuple.tupleCompareSizes, hsz] using hR
  case h =>
    exact ⟨rfl, 0, rfl, Nat.zero_le _, h0⟩
end
section
variable {prog : Program} {w : World} {A : Around} {E : Value → Shared → Prop} {s : Shared}
theorem rc_listJ {l b : Addr} {N : Nat} {Q : Value → Shared → Prop} (hu : A.units < cLine) (I : Nat → Shared → Prop) (F : Shared → Prop) (hl : ListJ prog w A E l b N I F)
    (fin : ∀ s, I N s → Q (.bool true) s) (finF : ∀ s, F s → Q (.bool false) s) (h : I 0 s) : wpAny (model prog w) A (richCompare .Eq (.ref l) (.ref b)) Q E s := by
  obtain ⟨items, items2, n, n2, hl1, hb1, _, _, _⟩ := hl.1 _ _ h
  refine wpAny_richCompare_same_room (op := .Eq) ⟨_, hl1, rfl⟩ ⟨_, hb1, rfl⟩ PySem.F.slot_list_eq (call_here PySem.F.slot_list_eq ⟨_, hl1, rfl⟩ PySem.F.entry_list_eq (PySem.F.args_list_eq_2 _ _) ?_) hu
  exact list_eqJ (R := wants (fun v s' => v ≠ .notImplemented ∧ Q v s') E) l b N I F hl (fun s' q => ⟨(fun x => nomatch x), fin s' q⟩) (fun s' q => ⟨(fun x => nomatch x), finF s' q⟩) h
theorem rc_listN {l b : Addr} {items items2 : Array Value} {n n2 : Nat} {Q : Value → Shared → Prop} (hu : A.units < cLine) (hl1 : s.heap.get? l = some { cls := .type "list", data := .seq items n }) (hb1 : s.heap.get? b = some { cls := .type "list", data := .seq items2 n2 }) (hne : items.size ≠ items2.size)
    (h : Q (.bool false) s) : wpAny (model prog w) A (richCompare .Eq (.ref l) (.ref b)) Q E s := by
  refine wpAny_richCompare_same_room (op := .Eq) ⟨_, hl1, rfl⟩ ⟨_, hb1, rfl⟩ PySem.F.slot_list_eq (call_here PySem.F.slot_list_eq ⟨_, hl1, rfl⟩ PySem.F.entry_list_eq (PySem.F.args_list_eq_2 _ _) ?_) hu
  exact list_neJ (R := wants (fun v s' => v ≠ .notImplemented ∧ Q v s') E) l b hl1 hb1 hne ⟨(fun x => nomatch x), h⟩
theorem rc_tupJ {l b : Addr} {items items2 : Array Value} {Q : Value → Shared → Prop} (hsz : items.size = items2.size) (hu : A.units < cLine) (I : Nat → Shared → Prop) (F : Shared → Prop)
    (hl : s.heap.IsTuple l items) (hb : s.heap.IsTuple b items2)
    (turn : ∀ i (h1 : i < items.size) (h2 : i < items2.size) s, I i s → wpAny (model prog w) A.in1 (eqBool items[i] items2[i]) (fun r s' => (r = true ∧ I (i + 1) s') ∨ (r = false ∧ F s')) E s)
    (fin : ∀ s, I items.size s → Q (.bool true) s) (finF : ∀ s, F s → Q (.bool false) s) (h : I 0 s) : wpAny (model prog w) A (richCompare .Eq (.ref l) (.ref b)) Q E s := by
  obtain ⟨⟨cls, dd, data, sl⟩, ho, hc, n, hd⟩ := id hl
  obtain ⟨⟨cls2, dd2, data2, sl2⟩, ho2, hc2, n2, hd2⟩ := id hb
  simp only at hc hd hc2 hd2
  subst hc hd hc2 hd2
  refine wpAny_richCompare_same_room (op := .Eq) ⟨_, ho, rfl⟩ ⟨_, ho2, rfl⟩ PySem.F.slot_tuple_eq (call_here PySem.F.slot_tuple_eq ⟨_, ho, rfl⟩ PySem.F.entry_tuple_eq (PySem.F.args_tuple_eq_2 _ _) ?_) hu
  exact tuple_eqJ (R := wants (fun v s' => v ≠ .notImplemented ∧ Q v s') E) l b items items2 n n2 dd dd2 sl sl2 hsz I F turn (fun s' q => ⟨(fun x => nomatch x), fin s' q⟩) (fun s' q => ⟨(fun x => nomatch x), finF s' q⟩) ho ho2 h
end
end GQ2

set_option autoImplicit false
namespace PD
open PySem PySem.Spec PyProof.Rows L2

/-! ### == of data with own objects in it -/
mutual
/-- data that its value tells -/
def inj : D → Bool
  | .non => true
  | .bl _ => true
  | .int _ => true
  | .str _ => true
  | .tup ds => injs ds
  | .lst ds => injs ds
  | _ => false
def injs : List D → Bool
  | [] => true
  | d :: ds => inj d && injs ds
end
def injF : List (Str × D) → Bool
  | [] => true
  | (_, d) :: ds => inj d && injF ds
section
variable {w : Wo} {β : List Addr} {G : Hp}
mutual
theorem Rep.inj : ∀ (d e : D) (v : V), PD.inj d = true → PD.inj e = true → Rep w β G d v → Rep w β G e v → d = e
  | .non, e, v, h1, h2, r1, r2 => by
    unfold Rep at r1; subst r1
    cases e <;> first | rfl | (simp [PD.inj] at h2; done) | (unfold Rep at r2; simp at r2)
  | .bl b, e, v, h1, h2, r1, r2 => by
    unfold Rep at r1; subst r1
    cases e <;> first | (simp [PD.inj] at h2; done) | (unfold Rep at r2; simp at r2; done) | (unfold Rep at r2; simp at r2; rw [r2])
  | .int b, e, v, h1, h2, r1, r2 => by
    unfold Rep at r1; subst r1
    cases e <;> first | (simp [PD.inj] at h2; done) | (unfold Rep at r2; simp at r2; done) | (unfold Rep at r2; simp at r2; rw [r2])
  | .str b, e, v, h1, h2, r1, r2 => by
    unfold Rep at r1; obtain ⟨r1, _⟩ := r1; subst r1
    cases e <;> first | (simp [PD.inj] at h2; done) | (unfold Rep at r2; simp at r2; done) | (unfold Rep at r2; simp at r2; rw [r2.1])
  | .tup ds, e, v, h1, h2, r1, r2 => by
    unfold Rep at r1; obtain ⟨_, a, vs, rfl, q, t⟩ := r1
    cases e with
    | tup es =>
      unfold Rep at r2
      obtain ⟨_, a', vs', e1, q', t'⟩ := r2
      cases e1
      rw [q] at q'
      cases q'
      unfold PD.inj at h1 h2
      rw [Reps.inj ds es vs h1 h2 t t']
    | lst es =>
      unfold Rep at r2
      obtain ⟨_, a', vs', e1, q', t'⟩ := r2
      cases e1
      rw [q] at q'
      cases q'
    | non => unfold Rep at r2; simp at r2
    | bl b => unfold Rep at r2; simp at r2
    | int b => unfold Rep at r2; simp at r2
    | str b => unfold Rep at r2; simp at r2
    | _ => simp [PD.inj] at h2
  | .lst ds, e, v, h1, h2, r1, r2 => by
    unfold Rep at r1; obtain ⟨_, a, vs, rfl, q, t⟩ := r1
    cases e with
    | lst es =>
      unfold Rep at r2
      obtain ⟨_, a', vs', e1, q', t'⟩ := r2
      cases e1
      rw [q] at q'
      cases q'
      unfold PD.inj at h1 h2
      rw [Reps.inj ds es vs h1 h2 t t']
    | tup es =>
      unfold Rep at r2
      obtain ⟨_, a', vs', e1, q', t'⟩ := r2
      cases e1
      rw [q] at q'
      cases q'
    | non => unfold Rep at r2; simp at r2
    | bl b => unfold Rep at r2; simp at r2
    | int b => unfold Rep at r2; simp at r2
    | str b => unfold Rep at r2; simp at r2
    | _ => simp [PD.inj] at h2
  | .set _, _, _, h1, _, _, _ => by simp [PD.inj] at h1
  | .dct _, _, _, h1, _, _, _ => by simp [PD.inj] at h1
  | .dtt _, _, _, h1, _, _, _ => by simp [PD.inj] at h1
  | .ins _ _, _, _, h1, _, _, _ => by simp [PD.inj] at h1
  | .fro _, _, _, h1, _, _, _ => by simp [PD.inj] at h1
  | .ftu _, _, _, h1, _, _, _ => by simp [PD.inj] at h1
  | .obj _, _, _, h1, _, _, _ => by simp [PD.inj] at h1
  | .loc _, _, _, h1, _, _, _ => by simp [PD.inj] at h1
  | .glo _, _, _, h1, _, _, _ => by simp [PD.inj] at h1
theorem Reps.inj : ∀ (ds es : List D) (vs : List V), injs ds = true → injs es = true → Reps w β G ds vs → Reps w β G es vs → ds = es
  | [], es, vs, h1, h2, r1, r2 => by
    unfold Reps at r1; subst r1
    cases es with
    | nil => rfl
    | cons e es => unfold Reps at r2; obtain ⟨v, r, e1, _⟩ := r2; cases e1
  | d :: ds, es, vs, h1, h2, r1, r2 => by
    unfold Reps at r1
    obtain ⟨v, r, rfl, s, t⟩ := r1
    cases es with
    | nil => unfold Reps at r2; cases r2
    | cons e es =>
      unfold Reps at r2
      obtain ⟨v', r', e1, s', t'⟩ := r2
      cases e1
      unfold injs at h1 h2
      rw [Bool.and_eq_true] at h1 h2
      rw [Rep.inj d e v h1.1 h2.1 s s', Reps.inj ds es r h1.2 h2.2 t t']
end
theorem RepsF.inj : ∀ (ds es : List (Str × D)) (vs : List (Str × V)), injF ds = true → injF es = true → RepsF w β G ds vs → RepsF w β G es vs → ds = es
  | [], es, vs, h1, h2, r1, r2 => by
    unfold RepsF at r1; subst r1
    cases es with
    | nil => rfl
    | cons e es => obtain ⟨f, e⟩ := e; unfold RepsF at r2; obtain ⟨v, r, e1, _⟩ := r2; cases e1
  | (f, d) :: ds, es, vs, h1, h2, r1, r2 => by
    unfold RepsF at r1
    obtain ⟨v, r, rfl, s, t⟩ := r1
    cases es with
    | nil => unfold RepsF at r2; cases r2
    | cons e es =>
      obtain ⟨f', e⟩ := e
      unfold RepsF at r2
      obtain ⟨v', r', e1, s', t'⟩ := r2
      cases e1
      unfold injF at h1 h2
      rw [Bool.and_eq_true] at h1 h2
      rw [Rep.inj d e v h1.1 h2.1 s s', RepsF.inj ds es r h1.2 h2.2 t t']
end
def allO (f : D → D → Option Bool) : List D → List D → Option Bool
  | [], [] => some true
  | x :: xs, y :: ys => match f x y with
    | some true => allO f xs ys
    | some false => some false
    | none => none
  | _, _ => none
/-- data without own objects -/
def eqFb (d e : D) : Option Bool := match eqP d e with
  | some true => some true
  | some false => if (inj d && inj e && !beqD d e) = true then some false else none
  | none => none
def eqIns (eq_ : Str → Option Str) (call : Str → List D → List D → Rf) (S : List D) (c : Str) (fs : List (Str × D)) (c' : Str) (gs : List (Str × D)) : Option Bool := match eq_ c with
  | some q => if c = c' then (match call q [.ins c fs, .ins c' gs] S with
    | .ok (.bl r, _) S' => if beqDs S' S = true then (if r = true then some true else if (injF fs && injF gs && !beqDf fs gs) = true then some false else none) else none
    | _ => none) else none
  | none => none
def eqO (eq_ : Str → Option Str) (call : Str → List D → List D → Rf) (S : List D) : Nat → D → D → Option Bool
  | 0, _, _ => none
  | n + 1, d, e => match d, e with
    | .lst xs, .lst ys => if xs.length = ys.length then allO (eqO eq_ call S n) xs ys else some false
    | .tup xs, .tup ys => if xs.length = ys.length then allO (eqO eq_ call S n) xs ys else none
    | .ins c fs, .ins c' gs => eqIns eq_ call S c fs c' gs
    | d, e => eqFb d e
section
variable {w : Wo} {β : List Addr} {G : Hp} {eq_ : Str → Option Str} {call : Str → List D → List D → Rf} {S : List D}
theorem eqFb_same {d e : D} {v : V} {r : Bool} (h : eqFb d e = some r) (r1 : Rep w β G d v) (r2 : Rep w β G e v) : r = true := by
  unfold eqFb at h
  split at h
  · cases h; rfl
  · split at h
    · rename_i c
      simp only [Bool.and_eq_true] at c
      have := Rep.inj d e v c.1.1 c.1.2 r1 r2
      subst this
      have c2 := c.2
      rw [beqD_refl] at c2
      cases c2
    · cases h
  · cases h
theorem allO_same {f : D → D → Option Bool} (hf : ∀ d e v r, f d e = some r → Rep w β G d v → Rep w β G e v → r = true) : ∀ {ds es : List D} {vs : List V} {r : Bool}, allO f ds es = some r → Reps w β G ds vs → Reps w β G es vs → r = true
  | [], [], vs, r, h, _, _ => by simp only [allO, Option.some.injEq] at h; exact h.symm
  | [], e :: es, vs, r, h, _, _ => by simp [allO] at h
  | d :: ds, [], vs, r, h, _, _ => by simp [allO] at h
  | d :: ds, e :: es, vs, r, h, r1, r2 => by
    unfold Reps at r1 r2
    obtain ⟨v, t, rfl, s1, t1⟩ := r1
    obtain ⟨v', t', e1, s2, t2⟩ := r2
    cases e1
    simp only [allO] at h
    split at h
    · exact allO_same hf h t1 t2
    · rename_i hh
      have := hf d e v false hh s1 s2
      cases this
    · cases h
theorem eqO_same : ∀ (n : Nat) (d e : D) (v : V) (r : Bool), eqO eq_ call S n d e = some r → Rep w β G d v → Rep w β G e v → r = true := by
  intro n
  induction n with
  | zero => intro d e v r h; simp [eqO] at h
  | succ n ih =>
    intro d e v r h r1 r2
    unfold eqO at h
    split at h
    · rename_i xs ys
      unfold Rep at r1 r2
      obtain ⟨_, a, vs, rfl, q, t⟩ := r1
      obtain ⟨_, a', vs', e1, q', t'⟩ := r2
      cases e1
      rw [q] at q'
      cases q'
      rw [if_pos (by rw [← t.len, ← t'.len])] at h
      exact allO_same ih h t t'
    · rename_i xs ys
      unfold Rep at r1 r2
      obtain ⟨_, a, vs, rfl, q, t⟩ := r1
      obtain ⟨_, a', vs', e1, q', t'⟩ := r2
      cases e1
      rw [q] at q'
      cases q'
      rw [if_pos (by rw [← t.len, ← t'.len])] at h
      exact allO_same ih h t t'
    · rename_i c fs c' gs
      unfold Rep at r1 r2
      obtain ⟨a, dx, us, rfl, q, t⟩ := r1
      obtain ⟨a', dx', us', e1, q', t'⟩ := r2
      cases e1
      rw [q] at q'
      injection q' with q'
      injection q' with _ _ e3
      subst e3
      unfold eqIns at h
      split at h
      · split at h
        · split at h
          · split at h
            · split at h
              · cases h; rfl
              · split at h
                · rename_i cc
                  simp only [Bool.and_eq_true] at cc
                  have := RepsF.inj fs gs us cc.1.1 cc.1.2 t t'
                  subst this
                  have c2 := cc.2
                  rw [beqDf_refl] at c2
                  cases c2
                · cases h
            · cases h
          · cases h
        · cases h
      · cases h
    · exact eqFb_same h r1 r2
end
end PD

set_option autoImplicit false
namespace PD
open PySem PySem.Spec PyProof.Rows L2

/-- somewhere below the running body, with room for n more steps inside builtins -/
structure SubN (X : Cx) (k n : Nat) (A : Around) : Prop where
  hd : A.handled = none
  dp : A.depth + 3 * k + 5 < recursionLimit
  un : A.units + 16 * k + 200 + n < cLine
  fr : A.frames = X.A.frames
theorem SubN.room {X : Cx} {k n : Nat} {A : Around} (s : SubN X k n A) : Room k A := ⟨s.hd, s.dp, by have := s.un; omega⟩
theorem SubN.in1 {X : Cx} {k n : Nat} {A : Around} (s : SubN X k (n + 1) A) : SubN X k n A.in1 := ⟨s.hd, by have := s.dp; show A.depth + 3 * k + 5 < _; omega, by have := s.un; show A.units + 1 + 16 * k + 200 + n < _; omega, s.fr⟩
theorem SubN.top {w : Wo} {g : Prg} {W : WX} {k : Nat} {si : SI} {X : Cx} (C : Cok2 w g W k si X) : SubN X k 16 X.A := ⟨C.room.hd, by have := C.room.dp; omega, by have := C.room.un; omega, rfl⟩
/-- the state stands, the heap perhaps with more in it -/
def Still (w : Wo) (X : Cx) (pins : List (Addr × Obj)) (σ : L2.St) (st : St) (Fo : Addr → Prop) (β : List Addr) (G H : Hp) (s' : Shared) : Prop := ∃ G' H', Inv X pins σ H' s' ∧ RS w Fo β G' H' σ st ∧ FrS Fo β G H β G' H'
section
variable {w : Wo} {g : Prg} {si : SI} {k : Nat} {X : Cx} {W : WX} {Fo : Addr → Prop} {σ : L2.St} {st : St} {β : List Addr} {G H : Hp} {call : Str → List D → List D → Rf} {ct : ClT} {pins : List (Addr × Obj)} {s : Shared}
theorem Still.start (R : RS w Fo β G H σ st) (I : Inv X pins σ H s) : Still w X pins σ st Fo β G H s := ⟨G, H, I, R, FrS.refl⟩
theorem allO_step {f : D → D → Option Bool} : ∀ {ds es : List D} {r : Bool} {i : Nat} {d e : D}, allO f (ds.drop i) (es.drop i) = some r → ds[i]? = some d → es[i]? = some e → (f d e = some true ∧ allO f (ds.drop (i + 1)) (es.drop (i + 1)) = some r) ∨ (f d e = some false ∧ r = false) := by
  intro ds es r i d e h h1 h2
  obtain ⟨l1, e1⟩ := List.getElem?_eq_some_iff.mp h1
  obtain ⟨l2, e2⟩ := List.getElem?_eq_some_iff.mp h2
  rw [List.drop_eq_getElem_cons l1, List.drop_eq_getElem_cons l2, e1, e2] at h
  simp only [allO] at h
  split at h
  · rename_i hf; exact .inl ⟨hf, h⟩
  · rename_i hf; cases h; exact .inr ⟨hf, rfl⟩
  · cases h
theorem eqB_flat {A : Around} {n : Nat} {d e : D} {r : Bool} {x y : V} {u v : Value} (C : Cok2 w g W k si X) (sb : SubN X k n A) (R : RS w Fo β G H σ st) (I : Inv X pins σ H s) (h : eqFb d e = some r) (r1 : Rep w β G d x) (r2 : Rep w β G e y) (ru : RelV x u) (rv : RelV y v) :
    wpAny (model X.prog X.w) A (eqBool u v) (fun r' s' => r' = r ∧ Still w X pins σ st Fo β G H s') X.xe s := by
  have hp : eqP d e = some r := by
    unfold eqFb at h
    split at h
    · rename_i q; cases h; exact q
    · rename_i q
      split at h
      · cases h; exact q
      · cases h
    · cases h
  unfold eqP at hp
  split at hp
  · rename_i p q e1 e2
    split at hp
    · rename_i c
      cases hp
      obtain ⟨as, q1⟩ := Dp.reads I p x u (by rw [C.K]; exact Rep.dp R.sub d x p r1 e1) ru
      obtain ⟨bs, q2⟩ := Dp.reads I q y v (by rw [C.K]; exact Rep.dp R.sub e y q r2 e2) rv
      exact SeqAt.eqAt_reads p q A s u v as bs q1 q2 (SeqAt.canLay_of_shaped c.1) (SeqAt.canLay_of_shaped c.2) (SeqAt.room_of_shaped c.1 (by have := sb.un; omega)) X.prog X.w X.xe _ ⟨rfl, Still.start R I⟩
    · cases hp
  · cases hp
/-- a turn in a list or a tuple -/
theorem eqB_turn {A : Around} {n : Nat} {f : D → D → Option Bool} (ih : ∀ (d e : D) (r : Bool) (A : Around) (s : Shared) (G H : Hp) (x y : V) (u v : Value), f d e = some r → SubN X k n A → Inv X pins σ H s → RS w Fo β G H σ st → Rep w β G d x → Rep w β G e y → RelV x u → RelV y v →
      wpAny (model X.prog X.w) A (eqBool u v) (fun r' s' => r' = r ∧ Still w X pins σ st Fo β G H s') X.xe s)
    (sb : SubN X k (n + 1) A) {ds es : List D} {xs ys : List V} {its its2 : List Value} {r : Bool} (r1 : Reps w β G ds xs) (r2 : Reps w β G es ys) (v1 : Vals xs its) (v2 : Vals ys its2) (i : Nat) (h1 : i < its.toArray.size) (h2 : i < its2.toArray.size) {s' : Shared}
    (l : Still w X pins σ st Fo β G H s') (hr : allO f (ds.drop i) (es.drop i) = some r) :
    wpAny (model X.prog X.w) A.in1 (eqBool its.toArray[i] its2.toArray[i]) (fun r' s2 => (r' = true ∧ Still w X pins σ st Fo β G H s2 ∧ allO f (ds.drop (i + 1)) (es.drop (i + 1)) = some r) ∨ (r' = false ∧ Still w X pins σ st Fo β G H s2 ∧ r = false)) X.xe s' := by
  obtain ⟨G1, H1, I1, R1, F1⟩ := l
  have h1' : i < its.length := by simpa using h1
  have h2' : i < its2.length := by simpa using h2
  have g1 : its[i]? = some its.toArray[i] := by rw [List.getElem?_eq_getElem h1'] <;> simp
  have g2 : its2[i]? = some its2.toArray[i] := by rw [List.getElem?_eq_getElem h2'] <;> simp
  have k1 : i < ds.length := by rw [← r1.len, v1.length]; exact h1'
  have k2 : i < es.length := by rw [← r2.len, v2.length]; exact h2'
  obtain ⟨x, hx, rx⟩ := r1.get (List.getElem?_eq_getElem k1)
  obtain ⟨y, hy, ry⟩ := r2.get (List.getElem?_eq_getElem k2)
  obtain ⟨u, hu, ru⟩ := v1.get hx
  obtain ⟨v, hv, rv⟩ := v2.get hy
  rw [g1] at hu
  rw [g2] at hv
  rw [Option.some.inj hu, Option.some.inj hv]
  rcases allO_step hr (List.getElem?_eq_getElem k1) (List.getElem?_eq_getElem k2) with ⟨hf, hn⟩ | ⟨hf, hn⟩
  · exact wpAny_mono (ih _ _ _ A.in1 s' G1 H1 x y u v hf sb.in1 I1 R1 (Rep.mono F1.g F1.b _ x rx) (Rep.mono F1.g F1.b _ y ry) ru rv) (fun r' s2 ⟨q, G2, H2, I2, R2, F2⟩ => .inl ⟨q, ⟨G2, H2, I2, R2, F1.trans F2⟩, hn⟩) fun _ _ z => z
  · exact wpAny_mono (ih _ _ _ A.in1 s' G1 H1 x y u v hf sb.in1 I1 R1 (Rep.mono F1.g F1.b _ x rx) (Rep.mono F1.g F1.b _ y ry) ru rv) (fun r' s2 ⟨q, G2, H2, I2, R2, F2⟩ => .inr ⟨q, ⟨G2, H2, I2, R2, F1.trans F2⟩, hn⟩) fun _ _ z => z
theorem lst_there {a : Addr} {vs : List V} {s' : Shared} (hg : G a = some (.lst vs)) (l : Still w X pins σ st Fo β G H s') : ∃ its m, Vals vs its ∧ s'.heap.get? a = some { cls := .type "list", data := .seq its.toArray m } := by
  obtain ⟨G1, H1, I1, R1, F1⟩ := l
  have h1 : G1 a = some (.lst vs) := F1.g.ex hg rfl
  obtain ⟨z, its, m, r, e⟩ := I1.hok a _ (R1.sub _ _ h1)
  exact ⟨its, m, r, e⟩
theorem drop_all {α : Type} (xs : List α) {n : Nat} (h : xs.length = n) : xs.drop n = [] := by rw [← h]; simp
/-- the comparison of two lists -/
theorem rc_lst {A : Around} {n : Nat} {f : D → D → Option Bool} (ih : ∀ (d e : D) (r : Bool) (A : Around) (s : Shared) (G H : Hp) (x y : V) (u v : Value), f d e = some r → SubN X k n A → Inv X pins σ H s → RS w Fo β G H σ st → Rep w β G d x → Rep w β G e y → RelV x u → RelV y v →
      wpAny (model X.prog X.w) A (eqBool u v) (fun r' s' => r' = r ∧ Still w X pins σ st Fo β G H s') X.xe s)
    (sb : SubN X k (n + 1) A) (R : RS w Fo β G H σ st) (I : Inv X pins σ H s) {ds es : List D} {xs ys : List V} {a b : Addr} {r : Bool} (g1 : G a = some (.lst xs)) (g2 : G b = some (.lst ys)) (r1 : Reps w β G ds xs) (r2 : Reps w β G es ys) (hr : (if ds.length = es.length then allO f ds es else some false) = some r) :
    wpAny (model X.prog X.w) A (richCompare .Eq (.ref a) (.ref b)) (fun r' s' => r' = .bool r ∧ Still w X pins σ st Fo β G H s') X.xe s := by
  by_cases c : ds.length = es.length
  · rw [if_pos c] at hr
    refine GQ2.rc_listJ (N := xs.length) (by have := sb.un; omega) (fun i s' => Still w X pins σ st Fo β G H s' ∧ allO f (ds.drop i) (es.drop i) = some r) (fun s' => Still w X pins σ st Fo β G H s' ∧ r = false) ⟨fun i s' q => ?_, fun s' q => ?_⟩ (fun s' q => ?_) (fun s' q => ?_) ⟨Still.start R I, hr⟩
    · obtain ⟨its, m, v1, e1⟩ := lst_there g1 q.1
      obtain ⟨its2, m2, v2, e2⟩ := lst_there g2 q.1
      refine ⟨its.toArray, its2.toArray, m, m2, e1, e2, by rw [List.size_toArray, ← v1.length], by rw [List.size_toArray, ← v2.length, r2.len, r1.len, c], fun h1 h2 => ?_⟩
      exact eqB_turn ih sb r1 r2 v1 v2 i h1 h2 q.1 q.2
    · obtain ⟨its, m, v1, e1⟩ := lst_there g1 q.1
      obtain ⟨its2, m2, v2, e2⟩ := lst_there g2 q.1
      exact ⟨its.toArray, its2.toArray, m, m2, e1, e2, by rw [List.size_toArray, ← v1.length], by rw [List.size_toArray, ← v2.length, r2.len, r1.len, c]⟩
    · have q2 := q.2
      rw [drop_all ds r1.len.symm, drop_all es (by rw [r1.len, c])] at q2
      simp only [allO, Option.some.injEq] at q2
      subst q2
      exact ⟨rfl, q.1⟩
    · rw [q.2]; exact ⟨rfl, q.1⟩
  · rw [if_neg c] at hr
    cases hr
    obtain ⟨its, m, v1, e1⟩ := lst_there g1 (Still.start R I)
    obtain ⟨its2, m2, v2, e2⟩ := lst_there g2 (Still.start R I)
    refine GQ2.rc_listN (by have := sb.un; omega) e1 e2 ?_ ⟨rfl, Still.start R I⟩
    rw [List.size_toArray, List.size_toArray, ← v1.length, ← v2.length, r1.len, r2.len]
    exact c
theorem rc_tup {A : Around} {n : Nat} {f : D → D → Option Bool} (ih : ∀ (d e : D) (r : Bool) (A : Around) (s : Shared) (G H : Hp) (x y : V) (u v : Value), f d e = some r → SubN X k n A → Inv X pins σ H s → RS w Fo β G H σ st → Rep w β G d x → Rep w β G e y → RelV x u → RelV y v →
      wpAny (model X.prog X.w) A (eqBool u v) (fun r' s' => r' = r ∧ Still w X pins σ st Fo β G H s') X.xe s)
    (sb : SubN X k (n + 1) A) (R : RS w Fo β G H σ st) (I : Inv X pins σ H s) {ds es : List D} {xs ys : List V} {a b : Addr} {r : Bool} (g1 : G a = some (.tup xs)) (g2 : G b = some (.tup ys)) (r1 : Reps w β G ds xs) (r2 : Reps w β G es ys) (hr : (if ds.length = es.length then allO f ds es else none) = some r) :
    wpAny (model X.prog X.w) A (richCompare .Eq (.ref a) (.ref b)) (fun r' s' => r' = .bool r ∧ Still w X pins σ st Fo β G H s') X.xe s := by
  by_cases c : ds.length = es.length
  · rw [if_pos c] at hr
    obtain ⟨its, v1, e1, z1⟩ := I.tuple (SqT.of (R.sub _ _ g1))
    obtain ⟨its2, v2, e2, z2⟩ := I.tuple (SqT.of (R.sub _ _ g2))
    refine GQ2.rc_tupJ (by rw [List.size_toArray, List.size_toArray, ← v1.length, ← v2.length, r1.len, r2.len]; exact c) (by have := sb.un; omega) (fun i s' => Still w X pins σ st Fo β G H s' ∧ allO f (ds.drop i) (es.drop i) = some r) (fun s' => Still w X pins σ st Fo β G H s' ∧ r = false) e1 e2 (fun i h1 h2 s' q => eqB_turn ih sb r1 r2 v1 v2 i h1 h2 q.1 q.2) (fun s' q => ?_) (fun s' q => ?_) ⟨Still.start R I, hr⟩
    · have q2 := q.2
      rw [drop_all ds (by rw [List.size_toArray, ← v1.length, r1.len]), drop_all es (by rw [List.size_toArray, ← v1.length, r1.len, c])] at q2
      simp only [allO, Option.some.injEq] at q2
      subst q2
      exact ⟨rfl, q.1⟩
    · rw [q.2]; exact ⟨rfl, q.1⟩
  · rw [if_neg c] at hr; cases hr
end
end PD

set_option autoImplicit false
namespace PD
open PySem PySem.Spec PyProof.Rows L2

section
variable {w : Wo} {g : Prg} {si : SI} {k : Nat} {X : Cx} {W : WX} {Fo : Addr → Prop} {σ : L2.St} {st : St} {β : List Addr} {G H : Hp} {call : Str → List D → List D → Rf} {ct : ClT} {pins : List (Addr × Obj)} {s : Shared}
/-- the own ==, called by a comparison -/
theorem rc_own {A : Around} {n : Nat} {c c' q : Str} {d e : D} {dx dy : Addr} {fs gs : List (Str × V)} {a b : Addr} {r : Bool} {f : Bool} {S' : List D} (CO : ClsOk ct w g k call) (C : Cok2 w g W k si X) (sb : SubN X k n A) (R : RS w Fo β G H σ st) (I : Inv X pins σ H s)
    (h1 : Rep w β G d (.ref a)) (h2 : Rep w β G e (.ref b)) (ea : H a = some (.ins (w.ca c) dx fs)) (eb : H b = some (.ins (w.ca c') dy gs)) (hq : ct.eq_ c = some q) (hcc : c = c') (hc : call q [d, e] st.sto = .ok (.bl r, f) S') (hS : S' = st.sto) :
    wpAny (model X.prog X.w) A (richCompare .Eq (.ref a) (.ref b)) (fun r' s' => r' = .bool r ∧ Still w X pins σ st Fo β G H s') X.xe s := by
  subst hcc
  obtain ⟨fa, hs, hf, hF⟩ := CO.eq_ c q hq
  have F : FnC X.prog X.w X.K X.mg X.base k fa 2 [] (spC w fun ds _ S => call q ds S) := by
    rw [C.P, C.wd, C.K, C.mg, C.base]; exact hF
  obtain ⟨mA, J, _⟩ := ins_get I.hok ea
  obtain ⟨mB, J', _⟩ := ins_get I.hok eb
  obtain ⟨od, J, _⟩ := J.look
  obtain ⟨od', J', _⟩ := J'.look
  obtain ⟨m, hFr⟩ := I.fr
  refine PySem.W.cmp_K (op := .Eq) (tb := .ref (w.ca c)) sb.room.units0 hFr I.ok.mod.kin J J'.type (by simp [PySem.W.notFirst]) (by rw [C.K]; exact hs) (by rw [C.K]; exact hf) ?_
  have e0 : Env0 X.prog X.w X.K X.mg X.base A X.stack s H := by
    have e := I.env0
    exact ⟨by rw [sb.fr]; exact e.frames, e.mod, e.bs, e.bsz, e.funs, e.frf, e.hok, e.bare⟩
  have hsp : spC w (fun ds _ S => call q ds S) [.ref a, .ref b] [] H (fun v H' => v = .bl r ∧ ∃ G', RS w Fo β G' H' σ st ∧ FrS Fo β G H β G' H') (fun _ _ _ => False) := by
    refine ⟨_, β, G, st.sto, [d, e], [], R.callee, Reps.cons h1 (Reps.cons h2 Reps.nil), Reps.nil, ?_⟩
    show OutF w _ β G H _ _ (call q [d, e] st.sto)
    rw [hc]
    intro v β' G' H' F' R' V'
    subst hS
    have hv : v = .bl r := by
      cases f with
      | true => obtain ⟨b, _, _, _, _, _, o⟩ := V'; exact o.elim
      | false =>
        have hr : Rep w β' G' (.bl r) v := V'
        unfold Rep at hr
        exact hr
    have eβ : β' = β := by
      apply List.ext_getElem?
      intro i
      by_cases hi : i < β.length
      · have := F'.b i β[i] (by simp [hi])
        rw [this]; simp [hi]
      · have h2 : β'.length = β.length := by rw [R'.len, R.len]
        rw [List.getElem?_eq_none (by omega), List.getElem?_eq_none (by omega)]
    subst eβ
    exact ⟨hv, G', R.back F' R', F'.weak fun a z => .inl z⟩
  refine wpAny_call (codeAny_mono (F.run A X.stack s H [.ref a, .ref b] [] [.ref a, .ref b] [] _ (fun _ _ _ => False) sb.room e0 (.cons rfl (.cons rfl .nil)) rfl .nil rfl hsp) fun r0 s' hq' => ?_)
  cases r0 with
  | error er =>
    obtain ⟨_, _, _, _, _, _, _, _, _, _, _, _, f⟩ := hq'
    exact f.elim
  | ok fl =>
    cases fl with
    | ret u =>
      obtain ⟨z, H', I', rz, ez, G', R', F'⟩ := I.after hq'
      subst ez
      cases rz
      exact ⟨rfl, G', H', I', R', F'⟩
    | next => exact False.elim hq'
    | brk => exact False.elim hq'
    | cont => exact False.elim hq'
/-- == inside a builtin, its answer by the data -/
theorem eqO_ok (CO : ClsOk ct w g k call) (C : Cok2 w g W k si X) : ∀ (n : Nat) (d e : D) (r : Bool) (A : Around) (s : Shared) (G H : Hp) (x y : V) (u v : Value), eqO ct.eq_ call st.sto n d e = some r → SubN X k n A → Inv X pins σ H s → RS w Fo β G H σ st → Rep w β G d x → Rep w β G e y → RelV x u → RelV y v →
      wpAny (model X.prog X.w) A (eqBool u v) (fun r' s' => r' = r ∧ Still w X pins σ st Fo β G H s') X.xe s := by
  intro n
  induction n with
  | zero => intro d e r A s G H x y u v h; simp [eqO] at h
  | succ n ih =>
    intro d e r A s G H x y u v h sb I R h1 h2 ru rv
    have hsame := eqO_same (w := w) (β := β) (G := G) (eq_ := ct.eq_) (call := call) (S := st.sto) (n + 1) d e
    have h0 := h
    unfold eqO at h
    split at h
    · rename_i xs ys
      have h1' := h1
      have h2' := h2
      unfold Rep at h1 h2
      obtain ⟨_, a, vs, rfl, q, t⟩ := h1
      obtain ⟨_, b, vs', rfl, q', t'⟩ := h2
      cases ru
      cases rv
      by_cases hab : a = b
      · subst hab
        have := hsame (.ref a) r h0 h1' h2'
        subst this
        exact SeqAt.EqAt.same (A := A) (s := s) (.ref a) X.prog X.w X.xe _ ⟨rfl, Still.start R I⟩
      · exact GQ.eqBool_refG hab (wpAny_mono (rc_lst ih sb R I q q' t t' h) (fun r' s' z => ⟨r, z.1, rfl, z.2⟩) fun _ _ z => z)
    · rename_i xs ys
      have h1' := h1
      have h2' := h2
      unfold Rep at h1 h2
      obtain ⟨_, a, vs, rfl, q, t⟩ := h1
      obtain ⟨_, b, vs', rfl, q', t'⟩ := h2
      cases ru
      cases rv
      by_cases hab : a = b
      · subst hab
        have := hsame (.ref a) r h0 h1' h2'
        subst this
        exact SeqAt.EqAt.same (A := A) (s := s) (.ref a) X.prog X.w X.xe _ ⟨rfl, Still.start R I⟩
      · exact GQ.eqBool_refG hab (wpAny_mono (rc_tup ih sb R I q q' t t' h) (fun r' s' z => ⟨r, z.1, rfl, z.2⟩) fun _ _ z => z)
    · rename_i c fs c' gs
      have h1' := h1
      have h2' := h2
      unfold Rep at h1 h2
      obtain ⟨a, dx, us, rfl, q, t⟩ := h1
      obtain ⟨b, dx', us', rfl, q', t'⟩ := h2
      cases ru
      cases rv
      by_cases hab : a = b
      · subst hab
        have := hsame (.ref a) r h0 h1' h2'
        subst this
        exact SeqAt.EqAt.same (A := A) (s := s) (.ref a) X.prog X.w X.xe _ ⟨rfl, Still.start R I⟩
      · unfold eqIns at h
        split at h
        · rename_i qn hq
          split at h
          · rename_i hcc
            split at h
            · rename_i r' f S' hcall
              split at h
              · rename_i hS
                have hr : r' = r := by
                  split at h
                  · rename_i z; cases h; exact z
                  · rename_i z
                    split at h
                    · cases h; simpa using z
                    · cases h
                subst hr
                refine GQ.eqBool_refG hab (wpAny_mono (rc_own CO C sb R I h1' h2' (R.sub _ _ q) (R.sub _ _ q') hq hcc hcall (beqDs_eq _ _ hS)) (fun r' s' z => ⟨_, z.1, rfl, z.2⟩) fun _ _ z => z)
              · cases h
            · cases h
          · cases h
        · cases h
    · exact eqB_flat C sb R I h h1 h2 ru rv
end
end PD

set_option autoImplicit false
namespace PD
open PySem PySem.Spec PyProof.Rows L2

/-- an operator on two values, by the data -/
def OpD (X : Cx) (w : Wo) (W : WX) (op : Value → Value → Sem Value) (k : DV → DV → M DV) : Prop :=
  ∀ (pins : List (Addr × Obj)) (s : Shared) (Fo : Addr → Prop) (σ : L2.St) (st : St) (β : List Addr) (G H : Hp) (Q : VK) (d1 : D) (f1 : Bool) (v1 : V) (d2 : D) (f2 : Bool) (v2 : V) (u1 u2 : Value),
    Inv X pins σ H s → RS w Fo β G H σ st → RepV w Fo σ st β G H f1 d1 v1 → RepV w (fun a => Fo a ∨ Tmp f1 v1 a) σ st β G H f2 d2 v2 → RelV v1 u1 → RelV v2 u2 → Out w W Fo σ st β G H Q (k (d1, f1) (d2, f2) st) →
      wpAny (model X.prog X.w) X.A (op u1 u2) (EP X pins σ Q) X.xe s
section
variable {w : Wo} {g : Prg} {si : SI} {k : Nat} {X : Cx} {W : WX} {a b e o : Expr} {ma mb m : M DV} {pos : Pos} {Fo : Addr → Prop} {σ : L2.St} {st st1 : St} {β β' β1 : List Addr} {G H G' H' G1 H1 : Hp} {call : Str → List D → List D → Rf}
theorem OpS.opD {op : Value → Value → Sem Value} {r : R2} {kk : DV → DV → M DV} (ho : OpR X op r) (hs : OpS w r kk) : OpD X w W op kk := by
  intro pins s Fo σ st β G H Q d1 f1 v1 d2 f2 v2 u1 u2 I R V1 V2 r1 r2 h
  exact ho pins s σ H v1 v2 u1 u2 Q I r1 r2 (hs W Fo σ st β G H Q d1 f1 v1 d2 f2 v2 R V1 (V2.weak fun _ z => .inl z) h)
theorem pc_of {op : CmpOp} {kk : DV → DV → M DV} (ho : OpD X w W (compareOp op) kk) (ha : PE X a (tD w W ma)) (hb : PE X b (tD w W mb)) : PC X op a b (tD w W (bin2 ma mb kk)) := by
  refine ⟨fun pins s σ H Q I h => ?_⟩
  refine thn (ha.run pins s σ H (fun x H1 => tD w W mb σ H1 fun y H2 => ∀ (v u : Value) (s2 : Shared), Inv X pins σ H2 s2 → RelV x v → RelV y u → wpAny (model X.prog X.w) X.A (compareOp op v u) (EP X pins σ Q) X.xe s2) I (tD_bind h fun Fo d f v st β G H R V h => ?_)) fun v s1 ⟨x, H1, I1, rx, q⟩ => ?_
  · refine tD_bind2 R V h fun d2 f2 v2 st2 β2 G2 H2 R2 F2 V1 V2 h2 => ?_
    exact fun v' u s2 I2 rx ry => ho pins s2 Fo σ st2 β2 G2 H2 Q d f v d2 f2 v2 v' u I2 R2 V1 V2 rx ry h2
  · exact thn (hb.run pins s1 σ H1 _ I1 q) fun u s2 ⟨y, H2, I2, ry, q2⟩ => q2 v u s2 I2 rx ry
theorem d_cmpX {op : CmpOp} {kk : DV → DV → M DV} (ho : OpD X w W (compareOp op) kk) (ha : PE X a (tD w W ma)) (hb : PE X b (tD w W mb)) (hm : behindInMarks op b = false) : PE X (.Compare a [op] [b] pos) (tD w W (bin2 ma mb kk)) := pe_cmp (pc_of ho ha hb) hm
theorem d_testCmpX {op : CmpOp} {kk : DV → DV → M DV} (ho : OpD X w W (compareOp op) kk) (ha : PE X a (tD w W ma)) (hb : PE X b (tD w W mb)) (hm : behindInMarks op b = false) :
    PT X (.Compare a [op] [b] pos) (tB w W ((bin2 ma mb kk).bind boolM)) := PT.imp (pt_cmp (pc_of ho ha hb) hm) fun σ H Q q => tB_of q
/-! ### == of own objects, and of data with such in it -/
def isLoc : D → Bool
  | .loc _ => true
  | _ => false
def ownEq (ct : ClT) (call : Str → List D → List D → Rf) (st : St) (x y : D) : Option Bool :=
  if (isLoc x || isLoc y) = true then (match deref st x, deref st y with
    | .lst ds, .lst es => if ds.length = es.length then none else some false
    | _, _ => none)
  else match deref st x, deref st y with
  | .ins c _, .ins c' _ => (match ct.eq_ c with
    | some q => if c = c' then (match call q [x, y] st.sto with
      | .ok (.bl r, _) S' => if beqDs S' st.sto = true then some r else none
      | _ => none) else none
    | none => none)
  | .lst ds, .lst es => if ds.length = es.length then (match x, y with
      | .lst ds, .lst es => if ds.length = es.length then allO (eqO ct.eq_ call st.sto 12) ds es else some false
      | _, _ => none) else some false
  | .tup ds, .tup es => (match x, y with
      | .tup ds, .tup es => if ds.length = es.length then allO (eqO ct.eq_ call st.sto 12) ds es else none
      | _, _ => none)
  | _, _ => none
def eqOM (ct : ClT) (call : Str → List D → List D → Rf) : DV → DV → M DV := fun x y st => match eqP (deref st x.1) (deref st y.1) with
  | some b => .ok (.bl b, false) st
  | none => (match ownEq ct call st x.1 y.1 with
    | some b => .ok (.bl b, false) st
    | none => .bad)
theorem still_ep {pins : List (Addr × Obj)} {Q : VK} {r : Bool} {r' : Value} {s' : Shared} (q : Out w W Fo σ st β G H Q (.ok (.bl r, false) st)) (h : r' = .bool r ∧ Still w X pins σ st Fo β G H s') : EP X pins σ Q r' s' := by
  obtain ⟨rfl, G', H', I', R', F'⟩ := h
  exact ⟨.bl r, H', I', rfl, q (.bl r) β G' H' ⟨F'.g, F'.b, F'.kp, fun i b d h c => ⟨b, d, h, c⟩⟩ R' (RepV.val rep_bl)⟩
theorem eqOM_ok {ct : ClT} (CO : ClsOk ct w g k call) (C : Cok2 w g W k si X) : OpD X w W (compareOp .Eq) (eqOM ct call) := by
  intro pins s Fo σ st β G H Q d1 f1 v1 d2 f2 v2 u1 u2 I R V1 V2 r1 r2 h
  unfold eqOM at h
  simp only at h
  split at h
  · rename_i b hb
    refine OpS.opD (W := W) (op_eqD C.hu) (eqD_ok C.K) pins s Fo σ st β G H Q d1 f1 v1 d2 f2 v2 u1 u2 I R V1 V2 r1 r2 ?_
    unfold eqM
    simp only [hb]
    exact h
  · split at h
    · rename_i b hb
      have V2w := V2.weak (Fo := Fo) fun _ z => .inl z
      have hh1 := V1.held R
      have hh2 := V2w.held R
      have short : ∀ ds es, deref st d1 = .lst ds → deref st d2 = .lst es → ds.length ≠ es.length → b = false → wpAny (model X.prog X.w) X.A (compareOp .Eq u1 u2) (EP X pins σ Q) X.xe s := fun ds es e1 e2 hne hbf => by
        subst hbf
        rw [e1] at hh1
        rw [e2] at hh2
        obtain ⟨_, a1, vs1, rfl, q1, t1⟩ := hh1.lst R.sub
        obtain ⟨_, a2, vs2, rfl, q2, t2⟩ := hh2.lst R.sub
        cases r1
        cases r2
        obtain ⟨z, its, m, v1', e1'⟩ := I.hok a1 _ q1
        obtain ⟨z2, its2, m2, v2', e2'⟩ := I.hok a2 _ q2
        refine GQ2.rc_listN (by have := C.hu; omega) e1' e2' ?_ (still_ep h ⟨rfl, Still.start R I⟩)
        rw [List.size_toArray, List.size_toArray, ← v1'.length, ← v2'.length, t1.len, t2.len]
        exact hne
      unfold ownEq at hb
      split at hb
      · split at hb
        · rename_i ds es e1 e2
          split at hb
          · cases hb
          · rename_i hne
            exact short ds es e1 e2 hne (Option.some.inj hb).symm
        · cases hb
      · rename_i hl
        simp only [Bool.or_eq_true, not_or, Bool.not_eq_true] at hl
        have n1 : ∀ i, d1 ≠ .loc i := fun i z => by rw [z] at hl; simp [isLoc] at hl
        have n2 : ∀ i, d2 ≠ .loc i := fun i z => by rw [z] at hl; simp [isLoc] at hl
        obtain ⟨G1, g1, k1, R1, p1⟩ := release R V1 n1
        have V2' : RepV w Fo σ st β G1 H f2 d2 v2 := by
          rcases repV_cases V2 with ⟨i, _, _, z, _⟩ | V0
          · exact absurd z (n2 i)
          · apply repV_of0
            unfold RepV0 at V0 ⊢
            cases f2 with
            | false =>
              simp only [Bool.false_eq_true, if_false] at V0 ⊢
              exact Rep.mono g1 (SubB.refl _) d2 v2 V0
            | true =>
              simp only [if_true] at V0 ⊢
              obtain ⟨a, e, h1, h2, h3, h4, h5⟩ := V0
              have ht : ¬ Tmp f1 v1 a := fun z => h4 (.inr z)
              exact ⟨a, e, by rw [k1 a ht]; exact h1, h2, h3, fun z => h4 (.inl z), h5.mono g1 (SubB.refl _) rfl⟩
        obtain ⟨G2, g2, k2, R2, p2⟩ := release R1 V2' n2
        have p1 := Rep.mono g2 (SubB.refl β) d1 v1 p1
        have h2 : Out w W Fo σ st β G2 H Q (.ok (.bl b, false) st) := Out.trans ⟨g1.trans g2, SubB.refl _, fun _ _ => rfl, fun i b d h c => ⟨b, d, h, c⟩⟩ _ h
        split at hb
        · rename_i c fs c' gs e1 e2
          rw [e1] at hh1
          rw [e2] at hh2
          obtain ⟨a1, dx1, us1, rfl, q1, t1⟩ := hh1.ins R.sub
          obtain ⟨a2, dx2, us2, rfl, q2, t2⟩ := hh2.ins R.sub
          cases r1
          cases r2
          split at hb
          · rename_i qn hq
            split at hb
            · rename_i hcc
              split at hb
              · rename_i r f S' hcall
                split at hb
                · rename_i hS
                  cases hb
                  exact wpAny_mono (rc_own CO C (SubN.top C) R2 I p1 p2 q1 q2 hq hcc hcall (beqDs_eq _ _ hS)) (fun r' s' z => still_ep h2 z) fun _ _ z => z
                · cases hb
              · cases hb
            · cases hb
          · cases hb
        · rename_i ds es e1 e2
          split at hb
          · split at hb
            · rename_i ds' es' _ _ _
              unfold Rep at p1 p2
              obtain ⟨_, a1, vs1, rfl, q1, t1⟩ := p1
              obtain ⟨_, a2, vs2, rfl, q2, t2⟩ := p2
              cases r1
              cases r2
              exact wpAny_mono (rc_lst (n := 12) (fun d e r A s G H x y u v h sb I R r1 r2 => eqO_ok CO C 12 d e r A s G H x y u v h sb I R r1 r2) ⟨(SubN.top C).hd, (SubN.top C).dp, by have := (SubN.top C).un; omega, rfl⟩ R2 I q1 q2 t1 t2 hb) (fun r' s' z => still_ep h2 z) fun _ _ z => z
            · cases hb
          · rename_i hne
            exact short ds es e1 e2 hne (Option.some.inj hb).symm
        · split at hb
          · unfold Rep at p1 p2
            obtain ⟨_, a1, vs1, rfl, q1, t1⟩ := p1
            obtain ⟨_, a2, vs2, rfl, q2, t2⟩ := p2
            cases r1
            cases r2
            exact wpAny_mono (rc_tup (n := 12) (fun d e r A s G H x y u v h sb I R r1 r2 => eqO_ok CO C 12 d e r A s G H x y u v h sb I R r1 r2) ⟨(SubN.top C).hd, (SubN.top C).dp, by have := (SubN.top C).un; omega, rfl⟩ R2 I q1 q2 t1 t2 hb) (fun r' s' z => still_ep h2 z) fun _ _ z => z
          · cases hb
        · cases hb
    · exact h.elim
end
end PD

set_option autoImplicit false
namespace PD
open PySem PySem.Spec PyProof.Rows L2

/-! ### isinstance -/
def TyN.v (w : Wo) : TyN → V
  | .ty s => .ty s
  | .own c => .ref (w.ca c)
theorem TyN.cls (w : Wo) : ∀ t : TyN, ClsV (t.v w) (t.val w)
  | .ty s => .ty s
  | .own c => .own _
def tyN : D → Option TyN
  | .ins c _ => some (.own c)
  | .err c _ => some (.own c)
  | d => (tyD d).map .ty
/-- what isinstance asks of an own class -/
structure InsTy (K : PySem.W.Frag) (C : Addr) : Prop where
  cl : Cls K C
  ha : PySem.W.findIn K (.ref C) "__class__" = some (some (.builtin "object.__class__"))
  hn : PySem.W.specialIn K (.builtin "object.__class__") "__get__" = some (some (.builtin "getset_descriptor.__get__"))
  htk : PySem.W.takesIn K (.builtin "object.__class__") = some true
  hm : PySem.W.mroIn K C (.type "object") = some true
structure IsiT where
  nam : Str → Option TyN
  isi : TyN → TyN → Option Bool
  insT : Str → Bool
  excT : Str → Bool := fun _ => false
structure IsiOk (t : IsiT) (w : Wo) (g : Prg) : Prop where
  nam : ∀ x n, t.nam x = some n → match n with
    | .ty s => g.mg x = none ∧ bootBuiltins x = some (.type s)
    | .own c => g.mg x = some (.ref (w.ca c))
  isi : ∀ a b r, t.isi a b = some r → PySem.W.kitOne w.K (a.val w) (b.val w) = some r
  insT : ∀ c, t.insT c = true → InsTy w.K (w.ca c)
  excT : ∀ c, t.excT c = true → ExcC w.K (w.ca c)
def isiAny (isi : TyN → TyN → Option Bool) (t : TyN) : List TyN → Option Bool
  | [] => some false
  | c :: cs => match isi t c with
    | some true => some true
    | some false => isiAny isi t cs
    | none => none
def insOk (t : IsiT) : D → Bool
  | .ins c _ => t.insT c
  | .err c _ => t.excT c
  | _ => true
def isi1M (t : IsiT) (c : TyN) : DV → M DV := fun x st => match tyN (deref st x.1) with
  | some a => if insOk t (deref st x.1) = true then (match t.isi a c with
    | some b => .ok (.bl b, false) st
    | none => .bad) else .bad
  | none => .bad
def isiTM (t : IsiT) (cs : List TyN) : DV → M DV := fun x st => match tyN (deref st x.1) with
  | some a => if insOk t (deref st x.1) = true ∧ cs.length ≤ sizeLine then (match isiAny t.isi a cs with
    | some b => .ok (.bl b, false) st
    | none => .bad) else .bad
  | none => .bad
def isiNames (t : IsiT) : List Expr → Option (List TyN)
  | [] => some []
  | .Name x _ :: es => match t.nam x, isiNames t es with
    | some a, some r => some (a :: r)
    | _, _ => none
  | _ => none
section
variable {w : Wo} {g : Prg} {si : SI} {k : Nat} {X : Cx} {W : WX} {a b e o : Expr} {es : List Expr} {ma mb m : M DV} {pos p : Pos} {Fo : Addr → Prop} {σ : L2.St} {st st1 : St} {β β' β1 : List Addr} {G H G' H' G1 H1 : Hp} {t : IsiT}
/-- what isinstance may be asked of -/
def TyZ (K : PySem.W.Frag) (H : Hp) (v : V) (t : Value) : Prop := TyX K H v t ∨ ∃ a dx gs C, v = .ref a ∧ t = .ref C ∧ H a = some (exo a C (some dx)) ∧ H dx = some (exd dx gs) ∧ ExcC K C
theorem kit_ofZ {pins : List (Addr × Obj)} {s : Shared} {x : V} {u t : Value} (I : Inv X pins σ H s) (rx : RelV x u) (ty : TyZ X.K H x t) : ∃ P : Heap → Prop, PySem.W.KitX X.K u t P ∧ P s.heap ∧ u ≠ .builtin "__main__.__loader__#opaque" := by
  rcases ty with ty | ⟨a, dx, gs, C, rfl, rfl, ea, ed, T⟩
  · exact kit_of I rx ty
  · obtain rfl : u = Value.ref a := rx
    obtain ⟨t1, ho⟩ := exo_at I.hok ea
    obtain ⟨mA, hns, _⟩ := exd_at I.hok ed
    obtain ⟨od, hd, _⟩ := lookIn_ns hns
    have hcl : (PySem.W.clsIn X.K C).isSome = true := by
      obtain ⟨cd, hc, _⟩ := PySem.W.any_some T.hd
      rw [hc]
      rfl
    exact ⟨_, PySem.W.kitx_exc (ox := { cls := .ref C, dict := some dx, data := .fields #[.ref t1, .none, .none, .none, .bool false, .none] }) (od := some od) hcl T.hg T.hk T.hs T.ha T.hn T.ht T.hm, ⟨ho, rfl, rfl, hd⟩, fun z => nomatch z⟩
def rIsZ (K : PySem.W.Frag) : List V → Hp → VK → Prop := fun xs H Q => ∃ (x c : V) (t u : Value) (b : Bool), xs = [x, c] ∧ ClsV c u ∧ TyZ K H x t ∧ PySem.W.kitOne K t u = some b ∧ Q (.bl b) H
def rIsTZ (K : PySem.W.Frag) : List V → Hp → VK → Prop := fun xs H Q => ∃ (x : V) (tp : Addr) (cs : List V) (t : Value) (us : List Value) (b : Bool), xs = [x, .ref tp] ∧ H tp = some (.tup cs) ∧ Paired ClsV cs us ∧ TyZ K H x t ∧ PySem.W.kitAny K t us = some b ∧ Q (.bl b) H
theorem call_isZ : CallR X (.builtin "isinstance") (rIsZ X.K) := by
  intro pins s σ H xs us Q I r h
  obtain ⟨x, c, t, u, b, rfl, k, ty, e, q⟩ := h
  obtain ⟨u1, u2, rfl, r1, r2⟩ := vals2 r
  obtain rfl := k.eq r2
  obtain ⟨P, Z, p, hx⟩ := kit_ofZ I r1 ty
  exact PySem.W.kia_one Z I.kIn p e hx fun tk => ⟨.bl b, H, I.tok tk, rfl, q⟩
theorem call_isTZ : CallR X (.builtin "isinstance") (rIsTZ X.K) := by
  intro pins s σ H xs us Q I r h
  obtain ⟨x, tp, cs, t, ws, b, rfl, hT, k, ty, e, q⟩ := h
  obtain ⟨u1, u2, rfl, r1, r2⟩ := vals2 r
  obtain rfl : u2 = Value.ref tp := r2
  obtain ⟨P, Z, p, hx⟩ := kit_ofZ I r1 ty
  obtain ⟨_, its, rv, o, h1, h2, n, h3⟩ := (show ObjOk X.prog X.w H s.heap tp (.tup cs) from I.hok tp _ hT)
  obtain rfl := ClsV.all k rv
  obtain ⟨oc, od, dt, sl⟩ := o
  simp only at h2 h3
  subst h2 h3
  exact PySem.W.kia_tup Z I.kIn p h1 e hx fun tk => ⟨.bl b, H, I.tok tk, rfl, q⟩
theorem tyN_ok {d : D} {v : V} {n : TyN} (TI : IsiOk t w g) (sub : SubE G H) (hd : Held w β G H d v) (h : tyN d = some n) (hi : insOk t d = true) : TyZ w.K H v (n.val w) := by
  unfold tyN at h
  split at h
  · rename_i c fs
    cases h
    obtain ⟨ad, dx, gs, rfl, ea, _⟩ := hd.ins sub
    have i := TI.insT c hi
    exact .inl (.base (.ins ea i.cl i.ha i.hn i.htk i.hm))
  · rename_i c fs
    cases h
    obtain ⟨ad, dx, gs, rfl, ea, ed, _⟩ := hd.err sub
    exact .inr ⟨ad, dx, gs, _, rfl, rfl, ea, ed, TI.excT c hi⟩
  · obtain ⟨s, h1, h2⟩ := Option.map_eq_some_iff.mp h
    subst h2
    exact .inl (tyD_ok sub hd h1)
theorem pe_nam {x : Str} {n : TyN} (TI : IsiOk t w g) (C : Cok2 w g W k si X) (h : t.nam x = some n) (hg : isGl si.sc x = true) (n1 : x ≠ "__name__") (n2 : (x == ("__debug__" : Str)) = false) : PE X (.Name x pos) (tC (n.v w)) := by
  have := TI.nam x n h
  cases n with
  | ty s => exact pe_bltn (C.gl hg) (by rw [C.mg]; exact this.1) this.2 rfl n1 n2
  | own c => exact pe_glob (C.gl hg) (by rw [C.mg]; exact this) rfl n2
theorem d_isi1 {x : Str} {n : TyN} {q : Pos} (TI : IsiOk t w g) (C : Cok2 w g W k si X) (h : t.nam x = some n) (hg : isGl si.sc x = true) (n1 : x ≠ "__name__") (n2 : (x == ("__debug__" : Str)) = false) (hi : isGl si.sc "isinstance" = true) (hm : g.mg "isinstance" = none) (ha : PE X a (tD w W m)) (hn : noStar a = true) :
    PE X (.Call (.Name "isinstance" p) [a, .Name x q] [] pos) (tD w W (m.bind (isi1M t n))) :=
  PE.imp (pe_callB (call_isZ) (C.gl hi) (by rw [C.mg]; exact hm) (by decide +kernel) (pa_cons ha (pa_cons (pe_nam TI C h hg n1 n2) pa_nil) (starEach_plain (noStar_ne hn))) (by decide) (by decide) (starEach_plain (noStar_ne hn)) rfl) fun σ H Q q => tD_bind q fun Fo d f v st β G H R V1 q => by
    unfold isi1M at q
    have hh := V1.held R
    simp only at q
    split at q
    · rename_i a0 e0
      split at q
      · rename_i hin
        split at q
        · rename_i b0 e1
          exact ⟨v, n.v w, a0.val w, n.val w, b0, rfl, n.cls w, by rw [C.K]; exact tyN_ok TI R.sub hh e0 hin, by rw [C.K]; exact TI.isi _ _ _ e1, q _ β G H Fr.refl R (RepV.val rep_bl)⟩
        · exact q.elim
      · exact q.elim
    · exact q.elim
theorem kitAny_ok (TI : IsiOk t w g) {a0 : TyN} : ∀ {cs : List TyN} {b : Bool}, isiAny t.isi a0 cs = some b → PySem.W.kitAny w.K (a0.val w) (cs.map (·.val w)) = some b
  | [], b, h => by simp only [isiAny, Option.some.injEq] at h; subst h; rfl
  | c :: cs, b, h => by
    simp only [isiAny] at h
    split at h
    · rename_i e
      cases h
      exact kitAny_cons (TI.isi _ _ _ e) (fun z => by cases z) fun _ => rfl
    · rename_i e
      exact kitAny_cons (TI.isi _ _ _ e) (fun _ => kitAny_ok TI h) fun z => by cases z
    · cases h
def tVs : List V → TA
  | [] => tNil
  | v :: vs => tCons (tC v) (tVs vs)
theorem tVs_run : ∀ {vs : List V} {Q : List V → Hp → Prop}, Q vs H → tVs vs σ H Q
  | [], Q, h => h
  | v :: vs, Q, h => tVs_run (vs := vs) h
theorem pa_nams (TI : IsiOk t w g) (C : Cok2 w g W k si X) : ∀ {es : List Expr} {cs : List TyN}, isiNames t es = some cs → (es.all fun e => match e with | .Name x _ => isGl si.sc x && !(x == ("__name__" : Str)) && !(x == ("__debug__" : Str)) | _ => false) = true → PA X es (tVs (cs.map (·.v w)))
  | [], cs, h, _ => by simp only [isiNames, Option.some.injEq] at h; subst h; exact pa_nil
  | e :: es, cs, h, ho => by
    cases e with
    | Name x q =>
      simp only [isiNames] at h
      rw [List.all_cons, Bool.and_eq_true] at ho
      obtain ⟨h1, h2⟩ := ho
      simp only [Bool.and_eq_true, Bool.not_eq_true', beq_eq_false_iff_ne] at h1
      split at h
      · rename_i a0 r e1 e2
        cases h
        exact pa_cons (pe_nam TI C e1 h1.1.1 h1.1.2 (by simpa using h1.2)) (pa_nams TI C e2 h2)
      · cases h
    | _ => simp [isiNames] at h
theorem paired_cls : ∀ (cs : List TyN), Paired ClsV (cs.map (·.v w)) (cs.map (·.val w))
  | [] => .nil
  | c :: cs => .cons (c.cls w) (paired_cls cs)
theorem d_isiT {cs : List TyN} {q : Pos} {kk : Nat} (TI : IsiOk t w g) (C : Cok2 w g W k si X) (h : isiNames t es = some cs) (ho : (es.all fun e => match e with | .Name x _ => isGl si.sc x && !(x == ("__name__" : Str)) && !(x == ("__debug__" : Str)) | _ => false) = true) (hi : isGl si.sc "isinstance" = true) (hm : g.mg "isinstance" = none) (ha : PE X a (tD w W m)) (hn : noStar a = true) :
    PE X (.Call (.Name "isinstance" p) [a, .Tuple es kk q] [] pos) (tD w W (m.bind (isiTM t cs))) :=
  PE.imp (pe_callB (call_isTZ) (C.gl hi) (by rw [C.mg]; exact hm) (by decide +kernel) (pa_cons ha (pa_cons (pe_tup (pa_nams TI C h ho)) pa_nil) (starEach_plain (noStar_ne hn))) (by decide) (by decide) (starEach_plain (noStar_ne hn)) rfl) fun σ H Q q => tD_bind q fun Fo d f v st β G H R V1 q => by
    unfold isiTM at q
    have hh := V1.held R
    simp only at q
    split at q
    · rename_i a0 e0
      split at q
      · rename_i hin
        split at q
        · rename_i b0 e1
          refine tVs_run ⟨by rw [List.length_map]; exact hin.2, fun p hp => ?_⟩
          have R1 := R.new (o := .tup (cs.map (·.v w))) hp
          have hh1 : Held w β G (upd H p (.tup (cs.map (·.v w)))) (deref st d) v := by
            cases hh with
            | val h => exact .val h
            | own h =>
              obtain ⟨u, hu⟩ := h.there
              exact .own (h.mono (SubH.refl _) (SubB.refl _) (upd_ne (ne_of_none hu hp)))
          exact ⟨v, p, cs.map (·.v w), a0.val w, cs.map (·.val w), b0, rfl, upd_same, paired_cls cs, by rw [C.K]; exact tyN_ok TI R1.sub hh1 e0 hin.1, by rw [C.K]; exact kitAny_ok TI e1, q _ β G _ (Fr.new R hp) R1 (RepV.val rep_bl)⟩
        · exact q.elim
      · exact q.elim
    · exact q.elim
end
end PD

set_option autoImplicit false
namespace PD
open PySem PySem.Spec PyProof.Rows L2

/-! ### o.f as a target -/
def gFldM (ct : ClT) (f : Str) (mo : M DV) : D → M Unit := fun d => mo.bind fun o st => match modOf st o.1 with
  | some (.ins c fs) => (match ct.at_ c f with
    | some .fld => if fs.length < 1000 then .ok () (setOf st o.1 (.ins c (putFD f d fs))) else .bad
    | _ => .bad)
  | _ => .bad
section
variable {w : Wo} {g : Prg} {si : SI} {k : Nat} {X : Cx} {W : WX} {a b e o : Expr} {es : List Expr} {ma mb m : M DV} {pos p : Pos} {Fo : Addr → Prop} {σ : L2.St} {st st1 : St} {β β' β1 : List Addr} {G H G' H' G1 H1 : Hp} {call : Str → List D → List D → Rf}
theorem g_attr {ct : ClT} {f : Str} {mo : M DV} (CO : ClsOk ct w g k call) (C : Cok2 w g W k si X) (ho : PE X o (tD w W mo)) : PG X (.Attribute o f pos) (tG w (gFldM ct f mo)) := by
  refine ⟨fun pins s σ H v u Q I r h => ?_⟩
  rw [arm_assign_Attribute]
  obtain ⟨Fo, β, G, st, d, R, rd, h⟩ := h
  refine wpAny_bind (wpAny_holding (thn (ho.run pins s σ H (fun x H1 => ∀ (ov : Value) (s1 : Shared), Inv X pins σ H1 s1 → RelV x ov → wpAny (model X.prog X.w) X.A (setAttr ov f u) (fun _ s' => ∃ σ' H', Inv X pins σ' H' s' ∧ Q σ' H') X.xe s1) I
    (tD_tgt R h fun d1 f1 v1 st1 β1 G1 H1 R1 F1 V1 h1 => ?_)) fun ov s1 ⟨x, H1, I1, rx, q⟩ => wpAny_bind (wpAny_standAt (wpAny_bind (wpAny_holding (thn (q ov s1 I1 rx) fun _ s2 z => wpAny_release z))))))
  intro ov s1 I1 rx
  have r1 := Rep.mono F1.g F1.b d v rd
  simp only at h1
  split at h1
  · rename_i c fs hm
    obtain ⟨p, rfl, ⟨dx, gs, ea, rf⟩, hg, hw⟩ := write_ok R1 V1 hm
    obtain rfl : ov = Value.ref p := rx
    split at h1
    · rename_i ha
      obtain ⟨hc, hn⟩ := CO.at_ c f _ ha
      have hn : NoAttr w.K (w.ca c) f := hn
      by_cases hl : fs.length < 1000
      · rw [if_pos hl] at h1
        refine setattr_ok I1 ea (by rw [C.K]; exact hc) (by rw [C.K]; exact hn) (by rw [rf.len]; exact hl) r fun s3 I3 => ⟨σ, _, I3, ?_⟩
        obtain ⟨F5, R5⟩ := hw (.ins (w.ca c) dx (putF f v gs)) (.ins c (putFD f d fs)) ⟨dx, _, upd_same, rf.put r1⟩
        exact h1 σ β1 G1 _ F5.s R5
      · rw [if_neg hl] at h1; exact h1.elim
    · exact h1.elim
  · exact h1.elim
end
end PD

set_option autoImplicit false
namespace PD
open PySem PySem.Spec PyProof.Rows L2

/-! ### {} -/
def dnewM (tup : Bool) : M DV := M.ret (if tup = true then .dtt [] else .dct [], true)
section
variable {w : Wo} {X : Cx} {W : WX} {pos : Pos}
theorem d_dnew {tup : Bool} : PE X (.Dict [] [] pos) (tD w W (dnewM tup)) := by
  cases tup with
  | false =>
    refine PE.imp pe_dnewK fun σ H Q h => ?_
    obtain ⟨Fo, β, G, st, R, h⟩ := h
    exact fun p hp => h _ β G _ (Fr.new R hp) (R.new hp) (RepV.fresh (R.nog hp) (R.notin hp) (R.noown hp) (R.nofo hp) ⟨Nat.zero_le _, [], upd_same, by unfold RepsK; rfl⟩)
  | true =>
    refine PE.imp pe_dnewT fun σ H Q h => ?_
    obtain ⟨Fo, β, G, st, R, h⟩ := h
    exact fun p hp => h _ β G _ (Fr.new R hp) (R.new hp) (RepV.fresh (R.nog hp) (R.notin hp) (R.noown hp) (R.nofo hp) ⟨Nat.zero_le _, [], upd_same, by unfold RepsT; rfl⟩)
end
end PD

set_option autoImplicit true
namespace PySem
section
variable {prog : Program} {w : World} {K : Type} [DecidableEq K] {knd : KeyKind prog w K} {A : Around} {E : Value → Shared → Prop} {s : Shared}
theorem wpAny_dictPut_pairs {d : Addr} {kvs : List (K × Value)} {k : K} {key v : Value} {Q : Unit → Shared → Prop} (hkey : knd.is k key = true) (hm : s.heap.DictOf knd d kvs)
    (hQ : ∀ h', h'.DictOf knd d (stored kvs k v) → Heap.SameBut d s.heap h' → Q () { s with heap := h' })
    (hsz : kvs.length ≤ sizeLine) :
    wpAny (model prog w) A (dictPut d (knd.hash k) key v) Q E s := by
  obtain ⟨o, es, ep, ho, hc, hd, hk, hp, hn⟩ := hm
  have hes : es.size ≤ sizeLine := by
    have e1 := hp.length
    have e2 : es.toList.length = es.size := by simp
    omega
  unfold dictPut
  refine wpAny_bind (wpAny_dictFind_of hkey ho hd hk ?_)
  have hidx : (es.findIdx? fun e => knd.is k e.key) = kvs.findIdx? fun kv => decide (kv.1 = k) := by
    rw [← hp.findIdx k]; obtain ⟨l⟩ := es; simp
  cases hi : es.findIdx? fun e => knd.is k e.key with
  | some i =>
    refine wpAny_updateDict ho hd (hQ _ ⟨_, _, ep, Heap.get?_update_self _ ho (Obj.isFreed_of_dict (Obj.data_mapDict hd _)),
      hc.mapDict _, Obj.data_mapDict hd _, hk.modify _ _, ?_, ?_⟩ (Heap.SameBut.update ..))
    · rw [stored, if_pos (any_of_findIdx_some (hidx ▸ hi))]
      have hl : (es.toList.findIdx? fun e => knd.is k e.key) = some i := by rw [← hi]; obtain ⟨l⟩ := es; simp
      have := hp.modify hn hl v
      obtain ⟨l⟩ := es
      simpa using this
    · rw [stored, if_pos (any_of_findIdx_some (hidx ▸ hi)), keys_map_store]; exact hn
  | none =>
    have hnot : k ∉ kvs.map (·.1) := not_mem_of_findIdx_none (hidx ▸ hi)
    have hany : ¬ (kvs.any fun kv => decide (kv.1 = k)) = true := by
      rw [List.any_eq_true]; rintro ⟨kv, hkv, he⟩
      exact hnot (List.mem_map.mpr ⟨kv, hkv, of_decide_eq_true he⟩)
    refine wpAny_updateDictKeys (hz := hes) ho hd (hQ _ ⟨_, _, ep + 1, Heap.get?_update_self _ ho (Obj.isFreed_of_dict (Obj.data_mapDictKeys hd _)),
      hc.mapDictKeys _, Obj.data_mapDictKeys hd _, hk.push hkey _, ?_, ?_⟩ (Heap.SameBut.update ..))
    · rw [stored, if_neg hany]
      have := hp.append hkey (knd.hash k) v
      obtain ⟨l⟩ := es
      simpa using this
    · rw [stored, if_neg hany, List.map_append, List.nodup_append]
      refine ⟨hn, by simp, ?_⟩
      intro a ha b hb
      simp only [List.map_cons, List.map_nil, List.mem_singleton] at hb
      subst hb
      exact fun e => hnot (e ▸ ha)
end
end PySem

set_option autoImplicit true
namespace PySem
section
variable {prog : Program} {w : World} {K : Type} [DecidableEq K] {knd : KeyKind prog w K} {A : Around} {E : Value → Shared → Prop} {s : Shared}
theorem wpAny_mergeMapping_pairs {d o : Addr} {kvs more : List (K × Value)} {Q : Unit → Shared → Prop} (hdo : d ≠ o) (hoS : (o == sysModules) = false) (hd : s.heap.DictOf knd d kvs) (ho : s.heap.DictOf knd o more) (hnr : ∀ k v, knd.is k v = true → ∀ b, v ≠ .ref b)
    (hsz : kvs.length + more.length ≤ sizeLine) (hQ : ∀ h', h'.DictOf knd d (merged kvs more) → h'.DictOf knd o more → Heap.SameBut d s.heap h' → Q () { s with heap := h' }) : wpAny (model prog w) A (mergeMapping d (.ref o) false) Q E s := by
  obtain ⟨od, esd, epd, hod, hcd, hdd, hkd, hpd, hnd⟩ := id hd
  obtain ⟨oo, eso, epo, hoo, hco, hdo', hko, hpo, hno⟩ := id ho
  have hlen : more.length = eso.size := by rw [← hpo.length]; simp
  have loop : wpAny (model prog w) A (do
      let l ← dictEntries o
      let epoch ← dictEpoch o
      forIn (List.range l.size) PUnit.unit fun i (_ : PUnit) => (do
          let l' ← dictEntries o
          match l'[i]? with
            | some e => do
              holding [e.key, e.val] (dictPut d e.hash e.key e.val)
              let ep' ← dictEpoch o
              if (ep' != epoch) = true then do
                  (unsupported "dict.changed-during-merge" : Sem PUnit)
                  pure (ForInStep.yield PUnit.unit)
                else pure (ForInStep.yield PUnit.unit)
            | _ => do
              (unsupported "dict.changed-during-merge" : Sem PUnit)
              pure (ForInStep.yield PUnit.unit) : Sem (ForInStep PUnit))
      pure ()) Q E s := by
    refine wpAny_bind (wpAny_dictEntries hoo hdo' ?_)
    refine wpAny_bind (wpAny_dictEpoch hoo hdo' ?_)
    refine wpAny_bind ?_
    rw [List.range_eq_range']
    refine wpAny_forIn_list _
      (fun rest _ s' => ∃ h' i, s' = { s with heap := h' } ∧ rest = List.range' i (eso.size - i) ∧ i ≤ eso.size ∧ h'.DictOf knd d (merged kvs (more.take i)) ∧ h'.get? o = some oo ∧ Heap.SameBut d s.heap h')
      _ ?_ ?_ _ _ ⟨s.heap, 0, rfl, by simp, Nat.zero_le _, by simpa [merged] using hd, hoo, Heap.SameBut.refl _ _⟩
    · rintro x rest b s' ⟨h', i, rfl, hr, hi, hd', hoo', hs'⟩
      have hlt : i < eso.size := by
        rcases Nat.lt_or_ge i eso.size with h | h
        · exact h
        · rw [Nat.sub_eq_zero_of_le h] at hr; simp at hr
      obtain ⟨rfl, hrest⟩ : x = i ∧ rest = List.range' (i + 1) (eso.size - (i + 1)) := by
        have e : eso.size - i = (eso.size - (i + 1)) + 1 := by omega
        rw [e, List.range'_succ] at hr
        injection hr with h1 h2
        exact ⟨h1, h2⟩
      refine wpAny_bind (wpAny_dictEntries hoo' hdo' ?_)
      rw [Array.getElem?_eq_getElem hlt]
      obtain ⟨kv, hkv⟩ : ∃ kv, more[x]? = some kv := ⟨more[x]'(by rw [hlen]; exact hlt), List.getElem?_eq_getElem _⟩
      obtain ⟨k, v⟩ := kv
      obtain ⟨hkey, hval⟩ := hpo.get? (e := eso[x]) (by simp [hlt]) hkv
      obtain ⟨k', hkey', hhash⟩ := hko eso[x] (Array.getElem_mem hlt)
      obtain rfl : k' = k := knd.inj _ _ _ hkey' hkey
      show wpAny _ _ (holding [eso[x].key, eso[x].val] (dictPut d eso[x].hash eso[x].key eso[x].val) >>= _) _ _ _
      rw [hhash, hval]
      have hmx : (merged kvs (more.take x)).length ≤ sizeLine := by
        have e1 := merged_length_le kvs (more.take x)
        have e2 : (more.take x).length ≤ more.length := by rw [List.length_take]; omega
        omega
      refine wpAny_bind (wpAny_holding (wpAny_dictPut_pairs (hsz := hmx) hkey hd' fun h'' hd'' hs'' => ?_))
      have hoo'' : h''.get? o = some oo := (hs''.2 o (Ne.symm hdo)).trans hoo'
      refine wpAny_bind (wpAny_dictEpoch hoo'' hdo' ?_)
      rw [if_neg (by simp)]
      exact wpAny_pure ⟨h'', x + 1, rfl, hrest, hlt, by rw [merged_take_succ kvs more x (k', v) hkv]; exact hd'', hoo'', hs'.trans hs''⟩
    · rintro b s' ⟨h', i, rfl, hr, hi, hd', hoo', hs'⟩
      have hin : i = eso.size := by
        rcases Nat.lt_or_ge i eso.size with h | h
        · have e : eso.size - i = (eso.size - (i + 1)) + 1 := by omega
          rw [e, List.range'_succ] at hr; exact nomatch hr
        · exact Nat.le_antisymm hi h
      refine wpAny_pure (hQ h' ?_ ⟨oo, eso, epo, hoo', hco, hdo', hko, hpo, hno⟩ hs')
      rw [hin, ← hlen, List.take_length] at hd'; exact hd'
  unfold mergeMapping
  refine wpAny_bind (wpAny_isInstance ho.typeIs isSubtype_dict_dict ?_)
  simp only [if_true]
  refine wpAny_bind (wpAny_specialOf ho.typeIs F.slot_dict_iter.lookup (wpAny_bind (wpAny_pure ?_)))
  simp only [beq_self_eq_true]
  rw [if_neg (by rw [hoS]; exact Bool.false_ne_true)]
  refine wpAny_bind (wpAny_dictEntries hod hdd ?_)
  split
  · refine wpAny_bind (wpAny_dictEntries hoo hdo' ?_)
    refine wpAny_bind ?_
    rw [← Array.forIn_toList]
    refine wpAny_forIn_list _ (fun rest _ s' => s' = s ∧ ∀ e ∈ rest, e ∈ eso) _ ?_ ?_ _ _ ⟨rfl, fun e he => by simpa using he⟩
    · rintro e rest b s' ⟨rfl, hr⟩
      obtain ⟨k, hk, _⟩ := hko e (hr e (List.mem_cons_self ..))
      have hn := hnr k e.key hk
      cases hkey : e.key with
      | ref b => exact absurd hkey (hn b)
      | _ => exact wpAny_pure ⟨rfl, fun e he => hr e (List.mem_cons_of_mem _ he)⟩
    · rintro b s' ⟨rfl, _⟩
      exact loop
  · exact loop
end
end PySem

set_option autoImplicit true
namespace PySem
section
variable {prog : Program} {w : World} {A : Around} {E : Value → Shared → Prop} {s : Shared} {env : Env}
/-- {**t, k: v}, the parts in a row -/
theorem wpAny_Dict_splat {t k v : Expr} {pos : Pos} {Q : Value → Shared → Prop}
    (h : wpAny (model prog w) A (eval t env) (fun m s1 => wpAny (model prog w) A (mergeMapping s.heap.objs.size m false) (fun _ s2 =>
        wpAny (model prog w) A (subDict [(eval k env, do let x ← eval v env; standAt pos; pure x)]) (fun sub s3 =>
          wpAny (model prog w) A (mergeMapping s.heap.objs.size (.ref sub) false) (fun _ s4 => Q (.ref s.heap.objs.size) s4) (fun _ _ => False) s3) E s2) (fun _ _ => False) s1) E
      { s with heap := s.heap.push { cls := .type "dict", data := .dict #[] } }) :
    wpAny (model prog w) A (eval (.Dict [none, some k] [t, v] pos) env) Q E s := by
  rw [arm_eval_Dict]
  refine wpAny_bind (wpAny_standAt ?_)
  unfold dictDisplay
  simp only [evalEachOpt, evalEach, List.map_cons, List.map_nil, List.zip_cons_cons, List.zip_nil_right, List.forIn_cons, List.forIn_nil, evalOpt, List.isEmpty_nil, if_true, List.nil_append, pure_bind, bind_assoc]
  refine wpAny_bind (wpAny_alloc ?_)
  refine wpAny_bind (wpAny_holding (wpAny_bind (wpAny_mono h (fun m s1 h1 => ?_) fun _ _ z => z)))
  refine wpAny_bind (wpAny_standAt (wpAny_pure ?_))
  refine wpAny_bind (wpAny_onRaise (wpAny_tryCatch (wpAny_onRaise (wpAny_holding (wpAny_mono h1 (fun _ s2 h2 => ?_) fun _ _ z => z.elim)))))
  rw [if_neg (by simp)]
  simp only [pure_bind, List.isEmpty_cons, Bool.false_eq_true, if_false, bind_assoc]
  refine wpAny_bind (wpAny_holding (wpAny_mono h2 (fun sub s3 h3 => ?_) fun _ _ z => z))
  refine wpAny_bind (wpAny_onRaise (wpAny_holding (wpAny_mono h3 (fun _ s4 h4 => ?_) fun _ _ z => z.elim)))
  exact wpAny_pure h4
end
end PySem

set_option autoImplicit false
namespace PD
open PySem PySem.Spec PyProof.Rows L2

/-! ### match over texts -/
def patL : List Pattern → Option (List Str)
  | [] => some []
  | .MatchValue (.Constant (.str x) _ _) _ :: r => (patL r).map (x :: ·)
  | _ => none
def patS : Pattern → Option (List Str)
  | .MatchOr ps _ => patL ps
  | p => patL [p]
def goCases (t : Expr → M Bool) (ss : List Stmt → MS) : List MatchCase → Str → MS
  | [], _ => skip
  | ⟨p, g, b⟩ :: r, z => match patS p with
    | none => M.bad
    | some xs => if xs.any (fun x => decide (z = x)) = true then (match g with
        | none => ss b
        | some g => (t g).bind fun ok => if ok = true then ss b else goCases t ss r z)
      else goCases t ss r z
def matchM (m : M DV) (t : Expr → M Bool) (ss : List Stmt → MS) (cs : List MatchCase) : MS := m.bind fun x => match x.1 with
  | .str z => goCases t ss cs z
  | _ => M.bad
section
variable {w : Wo} {si : SI} {X : Cx} {W : WX} {e : Expr} {es : List Expr} {m : M DV} {pos : Pos} {Fo : Addr → Prop} {σ : L2.St} {st : St} {β : List Addr} {G H : Hp} {t : Expr → M Bool} {ss : List Stmt → MS} {s : Shared} {pins : List (Addr × Obj)}
theorem skip_out {D : Ends} (I : Inv X pins σ H s) (R : RS w Fo β G H σ st) (q : OutS w W Fo β G H D (skip st)) : SP X pins D .next s := ⟨σ, H, I, q σ β G H FrS.refl R⟩
theorem pat1_ok {z x : Str} {tk : Tok} {k : Nat} {p1 p2 : Pos} {Q : Option (List (Str × Value)) → Shared → Prop} (I : Inv X pins σ H s) (h : ∀ s', Inv X pins σ H s' → Q (if z = x then some [] else none) s') :
    wpAny (model X.prog X.w) X.A (matchPattern (.MatchValue (.Constant (.str x) k p1) p2) X.env (.str z tk)) Q X.xe s := by
  refine wpAny_matchPattern_Value ?_
  refine thn ((pe_str (X := X) (x := x) (j := k) (pos := p1)).run pins s σ H (fun v H' => v = .str x ∧ H' = H) I ⟨rfl, rfl⟩) fun u s1 ⟨v, H1, I1, rv, e1, e2⟩ => ?_
  subst e1 e2
  refine thn (op_eq pins s1 σ H1 (.str z) (.str x) (.str z tk) u (fun v H' => v = .bl (decide (z = x)) ∧ H' = H1) I1 ⟨_, rfl⟩ rv ⟨rfl, by
    refine ⟨?_, rfl⟩
    by_cases c : z = x
    · subst c; simp
    · have : (V.str z) ≠ V.str x := fun q => c (by injection q)
      simp [c]⟩) fun u2 s2 ⟨v2, H2, I2, rv2, e1, e2⟩ => ?_
  subst e1 e2
  obtain rfl : u2 = Value.bool (decide (z = x)) := rv2
  refine wpAny_truthy_bool ?_
  by_cases c : z = x
  · simp only [c, decide_true, if_true]; have := h s2 I2; rw [if_pos c] at this; exact this
  · simp only [c, decide_false, Bool.false_eq_true, if_false]; have := h s2 I2; rw [if_neg c] at this; exact this
theorem patL_ok {z : Str} {tk : Tok} : ∀ {ps : List Pattern} {xs : List Str} {s : Shared} {Q : Option (List (Str × Value)) → Shared → Prop}, patL ps = some xs → Inv X pins σ H s → (∀ s', Inv X pins σ H s' → Q (if xs.any (fun x => decide (z = x)) = true then some [] else none) s') →
    wpAny (model X.prog X.w) X.A (matchFirst ps X.env (.str z tk)) Q X.xe s
  | [], xs, s, Q, hp, I, h => by
    simp only [patL, Option.some.injEq] at hp
    subst hp
    exact wpAny_matchFirst_nil (by have := h s I; simpa using this)
  | p :: ps, xs, s, Q, hp, I, h => by
    unfold patL at hp
    split at hp
    · rename_i z1 e1; cases e1
    · rename_i x k p1 p2 r e1
      cases e1
      obtain ⟨ys, h1, h2⟩ := Option.map_eq_some_iff.mp hp
      subst h2
      refine wpAny_matchFirst_cons (pat1_ok I fun s1 I1 => ?_)
      by_cases c : z = x
      · rw [if_pos c]
        have := h s1 I1
        simp only [List.any_cons, c, decide_true, Bool.true_or, if_true] at this
        exact this
      · rw [if_neg c]
        refine patL_ok h1 I1 fun s2 I2 => ?_
        have := h s2 I2
        simp only [List.any_cons, c, decide_false, Bool.false_or] at this
        exact this
    · cases hp
theorem patS_ok {z : Str} {tk : Tok} {p : Pattern} {xs : List Str} {Q : Option (List (Str × Value)) → Shared → Prop} (hp : patS p = some xs) (I : Inv X pins σ H s) (h : ∀ s', Inv X pins σ H s' → Q (if xs.any (fun x => decide (z = x)) = true then some [] else none) s') :
    wpAny (model X.prog X.w) X.A (matchPattern p X.env (.str z tk)) Q X.xe s := by
  unfold patS at hp
  split at hp
  · rename_i ps pp
    refine wpAny_matchPattern_Or (patL_ok hp I fun s1 I1 => ?_)
    have := h s1 I1
    by_cases c : xs.any (fun x => decide (z = x)) = true
    · rw [if_pos c] at this ⊢
      simp only
      have e : ((namesOfAll (ps.take 1)).filterMap fun n => (List.lookup n ([] : List (Str × Value))).map (n, ·)) = [] := by
        induction namesOfAll (ps.take 1) with
        | nil => rfl
        | cons a l ih => simpa using ih
      rw [e]
      exact this
    · rw [if_neg c] at this ⊢
      exact this
  · unfold patL at hp
    split at hp
    · rename_i z1 e1; cases e1
    · rename_i x k p1 p2 r e1
      cases e1
      simp only [patL, Option.map_some, Option.some.injEq] at hp
      subst hp
      refine pat1_ok I fun s1 I1 => ?_
      have := h s1 I1
      by_cases c : z = x
      · rw [if_pos c]; simpa [c] using this
      · rw [if_neg c]; simpa [c] using this
    · cases hp
theorem cases_ok {z : Str} {tk : Tok} {D : Ends} (ht : ∀ e, PT X e (tB w W (t e))) (hs : ∀ b, PSs X b (tS w W (ss b))) : ∀ {cs : List MatchCase} {first : Bool} {s : Shared} {st : St} {β : List Addr} {G H : Hp}, Inv X pins σ H s → RS w Fo β G H σ st → OutS w W Fo β G H D (goCases t ss cs z st) →
    wpAny (model X.prog X.w) X.A (matchCases cs X.env (.str z tk) first) (SP X pins D) X.xe s
  | [], first, s, st, β, G, H, I, R, q => wpAny_matchCases_nil (skip_out I R q)
  | ⟨p, g, b⟩ :: r, first, s, st, β, G, H, I, R, q => by
    unfold goCases at q
    cases hp : patS p with
    | none => rw [hp] at q; exact q.elim
    | some xs =>
      rw [hp] at q
      refine wpAny_matchCases_cons (patS_ok hp I fun s1 I1 => ?_)
      simp only at q
      by_cases c : xs.any (fun x => decide (z = x)) = true
      · rw [if_pos c] at q ⊢
        simp only
        refine wpAny_assignInOrder_none ?_
        cases g with
        | none => exact (hs b).run pins s1 σ H D I1 ⟨Fo, β, G, st, R, q⟩
        | some g =>
          simp only at q ⊢
          refine thn ((ht g).run pins s1 σ H (fun ok H1 => ∃ β1 G1 st1, RS w Fo β1 G1 H1 σ st1 ∧ OutS w W Fo β1 G1 H1 D ((if ok = true then ss b else goCases t ss r z) st1)) I1 ?_) fun ok s2 ⟨H2, I2, β2, G2, st2, R2, q2⟩ => ?_
          · refine ⟨Fo, β, G, st, R, ?_⟩
            unfold M.bind at q
            cases e : t g st with
            | ok a st1 => rw [e] at q; exact fun β1 G1 H1 F1 R1 => ⟨β1, G1, st1, R1, q.trans F1.s⟩
            | exc c fs st1 => rw [e] at q; exact fun β' G' H' dx gs F R e r => q σ β' G' H' dx gs F.s R e r
            | bad => rw [e] at q; exact q.elim
          · cases ok with
            | true => exact (hs b).run pins s2 σ H2 D I2 ⟨Fo, β2, G2, st2, R2, q2⟩
            | false => exact cases_ok ht hs I2 R2 q2
      · rw [if_neg c] at q ⊢
        exact cases_ok ht hs I1 R q
/-- match e: case .. -/
theorem s_match {cs : List MatchCase} (he : PE X e (tD w W m)) (ht : ∀ e, PT X e (tB w W (t e))) (hs : ∀ b, PSs X b (tS w W (ss b))) : PS X (.Match e cs pos) (tS w W (matchM m t ss cs)) := by
  refine ⟨fun pins s σ H D I q => wpAny_Match (thn (he.run pins s σ H (fun v H1 => ∃ z, v = .str z ∧ ∃ Fo β G st, RS w Fo β G H1 σ st ∧ OutS w W Fo β G H1 D (goCases t ss cs z st)) I (tD_stmt q fun Fo d f v st β G H1 R V q => ?_)) fun u s1 ⟨v, H1, I1, rv, z, e1, Fo, β, G, st, R, q1⟩ => ?_)⟩
  · have hh := V.held R
    simp only at q
    split at q
    · rename_i z
      exact ⟨z, hh.str.1, Fo, β, G, st, R, q⟩
    · exact q.elim
  · subst e1
    obtain ⟨tk, rfl⟩ := rv
    exact cases_ok ht hs I1 R q1
end
end PD

set_option autoImplicit false
namespace PD
open PySem PySem.Spec PyProof.Rows L2

/-! ### try: .. finally: .., nothing raised -/
def calmR {α : Type} : Rz α → Rz α
  | .exc _ _ _ => .bad
  | r => r
def finM (m n : MS) : MS := fun st => match m st with
  | .ok .nx st1 => calmR (n st1)
  | _ => .bad
theorem Cok2.nox {w : Wo} {g : Prg} {W : WX} {k : Nat} {si : SI} {X : Cx} (C : Cok2 w g W k si X) : Cok2 w g WF k si X.nox where
  K := C.K
  N := C.N
  nd := C.nd
  sc := C.sc
  fn := C.fn
  calm := C.calm
  P := C.P
  wd := C.wd
  mg := C.mg
  base := C.base
  tk := takes_false
  po := PassesOwn.never
  room3 := C.room3
theorem Cok2.tr {w : Wo} {g : Prg} {W : WX} {k : Nat} {si : SI} {X : Cx} (C : Cok2 w g W k si X) {pn : List (Addr × Obj)} {xe : Value → Shared → Prop} {W' : WX} (tk : L2N.Takes (X.tr pn xe) W') (po : PassesOwn (model X.prog X.w) X.A X.env xe) : Cok2 w g W' k si (X.tr pn xe) where
  K := C.K
  N := C.N
  nd := C.nd
  sc := C.sc
  fn := C.fn
  calm := C.calm
  P := C.P
  wd := C.wd
  mg := C.mg
  base := C.base
  tk := tk
  po := po
  room3 := C.room3
section
variable {w : Wo} {g : Prg} {si : SI} {k : Nat} {X : Cx} {W : WX} {m n : MS} {pos : Pos} {body : List Stmt} {f0 : Stmt} {fs : List Stmt}
theorem calm_out {Fo : Addr → Prop} {β : List Addr} {G H : Hp} {D : Ends} : ∀ {r : Rz Fl}, OutS w W Fo β G H D (calmR r) → OutS w WF Fo β G H D r
  | .ok .nx st', h => h
  | .ok .bk st', h => h
  | .ok .ct st', h => h
  | .ok (.rt (d, f)) st', h => h
  | .exc c fs st', h => h.elim
  | .bad, h => h
theorem s_fin (hb : ∀ (pn : List (Addr × Obj)) (xe : Value → Shared → Prop), PassesOwn (model X.prog X.w) X.A X.env xe → PSs (X.tr pn xe) body (tS w WF m)) (hf : PSs X.nox (f0 :: fs) (tS w WF n)) : PS X (.Try body [] [] (f0 :: fs) pos) (tS w W (finM m n)) := by
  refine ⟨fun pins s σ H D I h => ?_⟩
  have ok := I.ok
  obtain ⟨Fo, β, G, st, R, q⟩ := h
  refine wpAny_Try_finally ?_
  refine wpAny_mono ((hb (X.pn ++ pins) (fun x s₁ => wpAny (model X.prog X.w) X.A (noteFrame x X.env) (fun _ s₂ => FinallyRaised X.prog X.w X.A X.xe X.env (f0 :: fs) (SP X pins D) x s₂) (FinallyRaised X.prog X.w X.A X.xe X.env (f0 :: fs) (SP X pins D)) s₁) PassesOwn.looking).run [] s σ H
    { nx := fun σ1 H1 => tS w WF n D σ1 H1, rt := fun _ _ => False } (I.toTry _) ⟨Fo, β, G, st, R, ?_⟩) (fun gg s1 z => ?_) (fun x s1 hx => hx)
  · unfold finM at q
    cases e : m st with
    | ok fl st1 =>
      rw [e] at q
      cases fl with
      | nx => exact fun σ' β' G' H' F' R' => ⟨Fo, β', G', st1, R', calm_out (q.trans F')⟩
      | bk => exact q.elim
      | ct => exact q.elim
      | rt x => exact q.elim
    | exc c fs st1 => rw [e] at q; exact q.elim
    | bad => rw [e] at q; exact q.elim
  · cases gg with
    | ret u => obtain ⟨_, _, _, _, _, q⟩ := z; exact q.elim
    | brk => obtain ⟨_, _, _, q⟩ := z; exact q.elim
    | cont => obtain ⟨_, _, _, q⟩ := z; exact q.elim
    | next =>
      obtain ⟨σ1, H1, J1, q1⟩ := z
      refine wpAny_execs_nil ?_
      refine wpAny_mono (hf.run pins s1 σ1 H1 D ((J1.ofTry ok).wish _) q1) (fun g2 s2 q2 => ?_) fun _ _ e => False.elim e
      have q3 : SP X pins D g2 s2 := q2.unwish
      cases g2 <;> exact q3
end
end PD

set_option autoImplicit false
namespace PD
open PySem PySem.Spec PyProof.Rows L2

/-! ### len(set(xs)), xs a list of tuples of ints -/
def tupInts (d : D) : Option (List Int) := match d with
  | .tup ds => intsD ds
  | .ftu ds => intsD ds
  | _ => none
def allInts : List D → Option (List (List Int))
  | [] => some []
  | d :: ds => match tupInts d, allInts ds with
    | some k, some ks => some (k :: ks)
    | _, _ => none
def dedupI : List (List Int) → List (List Int)
  | [] => []
  | a :: r => if (r.any fun b => decide (b = a)) = true then dedupI r else a :: dedupI r
theorem any_mem {r : List (List Int)} {a : List Int} : (r.any fun b => decide (b = a)) = true ↔ a ∈ r := by
  rw [List.any_eq_true]
  constructor
  · rintro ⟨b, h1, h2⟩; rw [← of_decide_eq_true h2]; exact h1
  · intro h; exact ⟨a, h, decide_eq_true rfl⟩
theorem dedup_mem : ∀ (l : List (List Int)) (x : List Int), x ∈ dedupI l ↔ x ∈ l
  | [], x => by simp [dedupI]
  | a :: r, x => by
    unfold dedupI
    by_cases c : (r.any fun b => decide (b = a)) = true
    · rw [if_pos c, dedup_mem r x, List.mem_cons]
      have := any_mem.mp c
      constructor
      · exact .inr
      · rintro (rfl | h)
        · exact this
        · exact h
    · rw [if_neg c, List.mem_cons, List.mem_cons, dedup_mem r x]
theorem dedup_nodup : ∀ (l : List (List Int)), (dedupI l).Nodup
  | [] => by simp [dedupI]
  | a :: r => by
    unfold dedupI
    by_cases c : (r.any fun b => decide (b = a)) = true
    · rw [if_pos c]; exact dedup_nodup r
    · rw [if_neg c, List.nodup_cons]
      exact ⟨fun h => c (any_mem.mpr ((dedup_mem r a).mp h)), dedup_nodup r⟩
theorem nodup_len {α : Type} [DecidableEq α] : ∀ (l D : List α), l.Nodup → (∀ x ∈ l, x ∈ D) → l.length ≤ D.length
  | [], _, _, _ => Nat.zero_le _
  | x :: l, D, hn, hs => by
    obtain ⟨h1, h2⟩ := List.nodup_cons.mp hn
    have hx : x ∈ D := hs x List.mem_cons_self
    have ih := nodup_len l (D.erase x) h2 fun y hy => by
      have hne : y ≠ x := fun e => h1 (e ▸ hy)
      exact (List.mem_erase_of_ne hne).2 (hs y (List.mem_cons_of_mem _ hy))
    have e := List.length_erase_of_mem hx
    have hp : 0 < D.length := List.length_pos_of_mem hx
    rw [List.length_cons]
    omega
theorem dedup_len {l : List (List Int)} {L : List (List Int)} (hn : L.Nodup) (h1 : ∀ x ∈ L, x ∈ l) (h2 : ∀ x ∈ l, x ∈ L) : L.length = (dedupI l).length := by
  have a := nodup_len L (dedupI l) hn fun x hx => (dedup_mem l x).mpr (h1 x hx)
  have b := nodup_len (dedupI l) L (dedup_nodup l) fun x hx => h2 x ((dedup_mem l x).mp hx)
  omega
def lenSetM (x : DV) : M DV := fun st => match deref st x.1 with
  | .lst ds => (match allInts ds with
    | some ks => if ks.length < 64 then .ok (.int (dedupI ks).length, false) st else .bad
    | none => .bad)
  | _ => .bad
section
variable {w : Wo} {g : Prg} {si : SI} {k : Nat} {X : Cx} {W : WX} {e : Expr} {m : M DV} {pos : Pos} {Fo : Addr → Prop} {σ : L2.St} {st : St} {β : List Addr} {G H : Hp}
theorem tupInts_rep (sub : SubE G H) {d : D} {v : V} {ns : List Int} (r : Rep w β G d v) (h : tupInts d = some ns) : ∃ t, v = .ref t ∧ SqT w.K H t (ns.map V.int) := by
  unfold tupInts at h
  split at h
  · unfold Rep at r
    obtain ⟨z, a, vs, rfl, e, rr⟩ := r
    have := intsD_reps h rr
    subst this
    exact ⟨a, rfl, SqT.of (sub _ _ e)⟩
  · unfold Rep at r
    obtain ⟨z, a, vs, rfl, e, rr⟩ := r
    have := intsD_reps h rr
    subst this
    exact ⟨a, rfl, SqT.mono sub.h e⟩
  · cases h
theorem allInts_rep (sub : SubE G H) : ∀ {ds : List D} {vs : List V} {ks : List (List Int)}, Reps w β G ds vs → allInts ds = some ks → ∃ as : List (Addr × List Int), vs = as.map (fun p => V.ref p.1) ∧ as.map (·.2) = ks ∧ ∀ p ∈ as, SqT w.K H p.1 (p.2.map V.int)
  | [], vs, ks, r, h => by
    simp only [allInts, Option.some.injEq] at h
    subst h
    exact ⟨[], reps0 r, rfl, fun p hp => nomatch hp⟩
  | d :: ds, vs, ks, r, h => by
    unfold Reps at r
    obtain ⟨v, rr, rfl, h1, h2⟩ := r
    simp only [allInts] at h
    split at h
    · rename_i k ks' e1 e2
      cases h
      obtain ⟨t, rfl, ht⟩ := tupInts_rep sub h1 e1
      obtain ⟨as, rfl, e3, h3⟩ := allInts_rep sub h2 e2
      refine ⟨(t, k) :: as, rfl, by rw [List.map_cons, e3], fun p hp => ?_⟩
      rcases List.mem_cons.mp hp with rfl | hp
      · exact ht
      · exact h3 p hp
    · cases h
theorem cr_lenSetT {P : Program} {wd : World} (hP : X.prog = P) (hw : X.w = wd) : CallR X (.builtin "len") (fun xs H Q => ∃ a L, xs = [V.ref a] ∧ H a = some (SetTO P wd a L) ∧ (∀ p ∈ L, SqT X.K H p.1 (p.2.map V.int)) ∧ ((L.map (·.2)).Nodup → Q (.int L.length) H)) := by
  subst hP hw
  intro pins s σ H xs us Q I r h
  obtain ⟨a, L, rfl, ha, hk, q⟩ := h
  have R0 : SetT0 X.prog X.w s.heap a L := (I.hok a _ ha).1
  obtain ⟨es, ep, t, R⟩ := R0.full fun p hp => I.isT (hk p hp)
  rw [Vals.ref1 r]
  obtain ⟨o, ho, hex, hd⟩ := R.ob
  refine call_len_set ho hex hd R.fits (by have := R.size; have := R.few; omega) ?_
  have e : (es.size : Int) = (L.length : Int) := by rw [R.size]
  exact ⟨.int L.length, H, (I.tok (s.toks + 1)).tok (s.toks + 1 + 1), ⟨s.toks + 1, by rw [e]⟩, q R.nd⟩
/-- len(set(e)) -/
theorem d_lenSet {p1 p2 q : Pos} (C : Cok2 w g W k si X) (h1 : Gl X "len") (m1 : X.mg "len" = none) (h2 : Gl X "set") (m2 : X.mg "set" = none) (he : PE X e (tD w W m)) (hn : noStar e = true) :
    PE X (.Call (.Name "len" p1) [.Call (.Name "set" p2) [e] [] q] [] pos) (tD w W (m.bind lenSetM)) := by
  have inner : PE X (.Call (.Name "set" p2) [e] [] q) _ := pe_callTy (p := p2) (pos := q) (cr_setOfT C.calm (by have := C.hu; omega)) h2 m2 (by decide +kernel) (pa_cons he pa_nil (starEach_plain (noStar_ne hn))) (by decide) (by decide +kernel) (starEach_plain (noStar_ne hn)) rfl
  refine PE.imp (pe_callB (p := p1) (pos := pos) (cr_lenSetT rfl rfl) h1 m1 (by decide +kernel) (pa_cons inner pa_nil rfl) (by decide) (by decide +kernel) rfl rfl) fun σ H Q q => ?_
  refine tD_bind q fun Fo d f v st β G H R V q => ?_
  have hh := V.held R
  unfold lenSetM at q
  split at q
  · rename_i ds e1
    simp only at e1
    rw [e1] at hh
    obtain ⟨z, a, vs, rfl, eh, r⟩ := hh.lst R.sub
    split at q
    · rename_i ks e2
      obtain ⟨as, rfl, e3, h3⟩ := allInts_rep R.sub r e2
      by_cases c : ks.length < 64
      · rw [if_pos c] at q
        refine ⟨a, as, rfl, SqL.of eh, fun p hp => by rw [C.K]; exact h3 p hp, by rw [← e3, List.length_map] at c; exact c, fun b L hb l1 l2 => ?_⟩
        refine ⟨b, L, rfl, upd_same, fun p hp => ?_, fun nd => ?_⟩
        · have := h3 p (l1 p hp)
          rw [C.K]
          rcases this with (t | ⟨o, t⟩) | t
          · exact .inl (.inl (by rw [upd_ne (ne_of_none t hb)]; exact t))
          · exact .inl (.inr ⟨o, by rw [upd_ne (ne_of_none t hb)]; exact t⟩)
          · exact .inr t
        · have el : L.length = (dedupI ks).length := by
            have := dedup_len (l := ks) (L := L.map (·.2)) nd (fun x hx => by
              obtain ⟨p, hp, rfl⟩ := List.mem_map.mp hx
              rw [← e3]; exact List.mem_map.mpr ⟨p, l1 p hp, rfl⟩) (fun x hx => by
              rw [← e3] at hx
              obtain ⟨p, hp, rfl⟩ := List.mem_map.mp hx
              exact l2 p hp)
            rw [← this, List.length_map]
          rw [el]
          exact q (.int (dedupI ks).length) β G _ (Fr.new R hb) (R.new hb) (RepV.val rep_int)
      · rw [if_neg c] at q; exact q.elim
    · exact q.elim
  · exact q.elim
end
end PD

set_option autoImplicit false
/-! ### != by object.__ne__ -/
namespace PySem.W
open PySem PyProof.Rows
section
variable {prog : Program} {w : World} {A : Around} {E : Value → Shared → Prop} {s : Shared} {K : Frag} {x y C f : Addr} {ox : Obj} {od : Option Obj} {b tb : Value} {h₀ : Heap} {L : Addr} {m : Str → Option Value}
theorem cmp_one {op : CmpOp} {Q : Value → Shared → Prop} (hu : A.units < cLine) (F : Fr h₀ L s.heap m) (X₀ : K.In h₀) (I : InstAt s.heap x ox C od) (hb : Looks (model prog w) s.heap (typeOf b) tb) (hn : notFirst K C tb = true)
    (one : wpAny (model prog w) A (tryCompare (.ref x) (cmpInfo op).2.1 b) (fun r s' => ∃ v, r = some v ∧ Q v s') E s) : wpAny (model prog w) A (richCompare op (.ref x) b) Q E s := by
  have X := X₀.keeps F.keep
  unfold richCompare
  simp only [oneThing_ref]
  refine wpAny_holding (wpAny_bind (wpAny_cRoomFor hu ?_))
  refine wpAny_bind (I.type.here (wpAny_bind (hb.here ?_)))
  split
  · rename_i q
    have e : subIn K tb (.ref C) = some false := by
      rcases Bool.or_eq_true_iff.mp hn with e | e
      · rw [beq_iff_eq.mp e] at q; simp at q
      · exact beq_iff_eq.mp e
    refine wpAny_bind ((looks_subIn X e).here ?_)
    simp only [Bool.false_eq_true, if_false]
    refine wpAny_bind (wpAny_mono one (fun r s' z => ?_) fun _ _ e => e)
    obtain ⟨v, rfl, hq⟩ := z
    exact wpAny_pure hq
  · refine wpAny_bind (wpAny_pure ?_)
    simp only [Bool.false_eq_true, if_false]
    refine wpAny_bind (wpAny_mono one (fun r s' z => ?_) fun _ _ e => e)
    obtain ⟨v, rfl, hq⟩ := z
    exact wpAny_pure hq
theorem slot_ne : Slot "object" "__ne__" "object.__ne__" := .of (owner := "object") (n := "__ne__") (by rw [typeLookup_type, builtinLookup_eq_fast]; kernel_rfl) (by decide +kernel) (by decide +kernel) (by decide +kernel)
    (.inl (by decide +kernel)) (by rw [isSubtype_type]; kernel_rfl)
theorem ifBound_B {M : Model} {name : Str} {id : String} {args : List Value} {Q : Option Value → Shared → Prop} (X : K.In s.heap) (I : InstAt s.heap x ox C od) (hs : findIn K (.ref C) name = some (some (.builtin id))) (hb : ∀ self, bindSpecial (.builtin id) self = pure (.builtin id, [self]))
    (h : wpAny M A (call (.builtin id) (.ref x :: args)) (fun v => Q (some v)) E s) : wpAny M A (callSpecialIfBound? (.ref x) name args) Q E s := by
  simp only [callSpecialIfBound?, bindSpecialIfBound?]
  refine wpAny_holding (wpAny_bind (wpAny_bind (wpAny_bind (I.type.here ((looks_findIn X hs).here ?_)))))
  simp only [hb]
  refine wpAny_bind (wpAny_askSetting (wpAny_ite ?_))
  have fin : wpAny M A (call (.builtin id) ([.ref x] ++ args) >>= fun v => pure (some v)) Q E s := wpAny_bind (wpAny_mono h (fun v s' h' => wpAny_pure h') fun _ _ h' => h')
  split
  · exact wpAny_bind (wpAny_pure (wpAny_pure fin))
  · exact wpAny_tryCatch (wpAny_bind (wpAny_pure (wpAny_pure fin)))
theorem ne_body {Q : PySem.Fin → Shared → Prop} (hu : A.units < cLine) (X : K.In s.heap) (I : InstAt s.heap x ox C od) (hs : findIn K (.ref C) "__eq__" = some (some (.ref f))) (hf : isFn K (.ref f) = true)
    (hcall : wpAny (model prog w) A (call (.ref f) [.ref x, .ref y]) (fun v s' => ∃ b, v = .bool b ∧ Q (.done (.ret (.bool (!b)))) s') E s) :
    wpAny (model prog w) A (Builtin.«object.__ne__» ⟨[.ref x, .ref y], []⟩) Q E s := by
  unfold Builtin.«object.__ne__»
  repeat (first
    | with_reducible refine wpAny_cRoomFor hu ?_
    | (refine wpAny_bind (m := callSpecialIfBound? (.ref x) (Str.ofString "__eq__") [.ref y])
        (ifBound_K X I hs hf (wpAny_mono hcall (fun r s' hr => by
          obtain ⟨b, rfl, hq⟩ := hr
          repeat (first | exact hq | exact wpAny_pure hq | exact wpAny_truthy_bool hq | (refine wpAny_bind (m := truthy (.bool _)) (wpAny_truthy_bool ?_)) | wp_step)) fun _ _ e => e)))
    | wp_step)
theorem ne_K {Q : Value → Shared → Prop} (hu : A.units + 1 < cLine) (FF : Fr h₀ L s.heap m) (X₀ : K.In h₀) (I : InstAt s.heap x ox C od) (hb : Looks (model prog w) s.heap (typeOf (.ref y)) tb) (hn : notFirst K C tb = true)
    (hne : findIn K (.ref C) "__ne__" = some (some (.builtin "object.__ne__"))) (hob : mroIn K C (.type "object") = some true) (hs : findIn K (.ref C) "__eq__" = some (some (.ref f))) (hf : isFn K (.ref f) = true)
    (hcall : wpAny (model prog w) A.in1 (call (.ref f) [.ref x, .ref y]) (fun v s' => ∃ b, v = .bool b ∧ Q (.bool (!b)) s') E s) : wpAny (model prog w) A (richCompare .NotEq (.ref x) (.ref y)) Q E s := by
  have X := X₀.keeps FF.keep
  refine cmp_one (Nat.lt_of_succ_lt hu) FF X₀ I hb hn ?_
  rw [cmpInfo_NotEq]
  show wpAny _ _ (tryCompare (.ref x) "__ne__" (.ref y)) _ _ _
  unfold tryCompare
  refine wpAny_bind (ifBound_B X I hne (fun self => slot_ne.bind self) (wpAny_call (codeAny_call_builtin slot_ne.plain F.cmpEntry_ne
    (@check_slot (model prog w) _ _ s "object.__ne__" "object" "__ne__" (.ref x) [.ref y] [] _ F.cmpKind_ne F.cmpSplit_ne (I.type.andThen (looks_mroIn X hob)) (F.cmpArgs_ne _ _) (ne_body (A := A.in1) hu X I hs hf (wpAny_mono hcall (fun v s' hv => ?_) fun _ _ e => e))))))
  obtain ⟨b, rfl, hq⟩ := hv
  first | exact ⟨b, rfl, wpAny_pure ⟨_, rfl, hq⟩⟩ | exact ⟨b, rfl, wpAny_pure (wpAny_pure ⟨_, rfl, hq⟩)⟩ | exact ⟨b, rfl, ⟨_, rfl, hq⟩⟩
end
end PySem.W
namespace PD
open PySem PySem.Spec PyProof.Rows L2
structure NeOk (K : PySem.W.Frag) (C : Addr) : Prop where
  ne : PySem.W.findIn K (.ref C) "__ne__" = some (some (.builtin "object.__ne__"))
  ob : PySem.W.mroIn K C (.type "object") = some true
/-- o != p of own objects -/
def neOM (ct : ClT) (nes : Str → Bool) (call : Str → List D → List D → Rf) : DV → DV → M DV := fun x y st => match eqP (deref st x.1) (deref st y.1) with
  | some b => .ok (.bl (!b), false) st
  | none => (match deref st x.1, deref st y.1 with
    | .ins c _, .ins c' _ => if (nes c && !isLoc x.1 && !isLoc y.1) = true then (match ownEq ct call st x.1 y.1 with
        | some b => .ok (.bl (!b), false) st
        | none => .bad) else .bad
    | _, _ => .bad)
section
variable {w : Wo} {g : Prg} {si : SI} {k : Nat} {X : Cx} {W : WX} {Fo : Addr → Prop} {σ : L2.St} {st : St} {β : List Addr} {G H : Hp} {call : Str → List D → List D → Rf} {ct : ClT} {pins : List (Addr × Obj)} {s : Shared}
theorem own_call {A : Around} {n : Nat} {q : Str} {d e : D} {a b fa : Addr} {r : Bool} {f : Bool} {S' : List D} (C : Cok2 w g W k si X) (sb : SubN X k n A) (R : RS w Fo β G H σ st) (I : Inv X pins σ H s)
    (h1 : Rep w β G d (.ref a)) (h2 : Rep w β G e (.ref b)) (F : FnC X.prog X.w X.K X.mg X.base k fa 2 [] (spC w fun ds _ S => call q ds S)) (hc : call q [d, e] st.sto = .ok (.bl r, f) S') (hS : S' = st.sto) :
    wpAny (model X.prog X.w) A (PySem.call (.ref fa) [.ref a, .ref b]) (fun r' s' => r' = .bool r ∧ Still w X pins σ st Fo β G H s') X.xe s := by
  have e0 : Env0 X.prog X.w X.K X.mg X.base A X.stack s H := by
    have e := I.env0
    exact ⟨by rw [sb.fr]; exact e.frames, e.mod, e.bs, e.bsz, e.funs, e.frf, e.hok, e.bare⟩
  have hsp : spC w (fun ds _ S => call q ds S) [.ref a, .ref b] [] H (fun v H' => v = .bl r ∧ ∃ G', RS w Fo β G' H' σ st ∧ FrS Fo β G H β G' H') (fun _ _ _ => False) := by
    refine ⟨_, β, G, st.sto, [d, e], [], R.callee, Reps.cons h1 (Reps.cons h2 Reps.nil), Reps.nil, ?_⟩
    show OutF w _ β G H _ _ (call q [d, e] st.sto)
    rw [hc]
    intro v β' G' H' F' R' V'
    subst hS
    have hv : v = .bl r := by
      cases f with
      | true => obtain ⟨b, _, _, _, _, _, o⟩ := V'; exact o.elim
      | false =>
        have hr : Rep w β' G' (.bl r) v := V'
        unfold Rep at hr
        exact hr
    have eβ : β' = β := by
      apply List.ext_getElem?
      intro i
      by_cases hi : i < β.length
      · have := F'.b i β[i] (by simp [hi])
        rw [this]; simp [hi]
      · have h2 : β'.length = β.length := by rw [R'.len, R.len]
        rw [List.getElem?_eq_none (by omega), List.getElem?_eq_none (by omega)]
    subst eβ
    exact ⟨hv, G', R.back F' R', F'.weak fun a z => .inl z⟩
  refine wpAny_call (codeAny_mono (F.run A X.stack s H [.ref a, .ref b] [] [.ref a, .ref b] [] _ (fun _ _ _ => False) sb.room e0 (.cons rfl (.cons rfl .nil)) rfl .nil rfl hsp) fun r0 s' hq' => ?_)
  cases r0 with
  | error er =>
    obtain ⟨_, _, _, _, _, _, _, _, _, _, _, _, f⟩ := hq'
    exact f.elim
  | ok fl =>
    cases fl with
    | ret u =>
      obtain ⟨z, H', I', rz, ez, G', R', F'⟩ := I.after hq'
      subst ez
      cases rz
      exact ⟨rfl, G', H', I', R', F'⟩
    | next => exact False.elim hq'
    | brk => exact False.elim hq'
    | cont => exact False.elim hq'
theorem neOM_ok {nes : Str → Bool} (CO : ClsOk ct w g k call) (NO : ∀ c, nes c = true → NeOk w.K (w.ca c)) (C : Cok2 w g W k si X) : OpD X w W (compareOp .NotEq) (neOM ct nes call) := by
  intro pins s Fo σ st β G H Q d1 f1 v1 d2 f2 v2 u1 u2 I R V1 V2 r1 r2 h
  unfold neOM at h
  simp only at h
  split at h
  · rename_i b hb
    refine OpS.opD (W := W) (op_neD C.hu) (neD_ok C.K) pins s Fo σ st β G H Q d1 f1 v1 d2 f2 v2 u1 u2 I R V1 V2 r1 r2 ?_
    unfold eqM
    simp only [hb]
    exact h
  · have V2w := V2.weak (Fo := Fo) fun _ z => .inl z
    have hh1 := V1.held R
    have hh2 := V2w.held R
    split at h
    · rename_i c fs c' gs e1 e2
      split at h
      · rename_i hc
        simp only [Bool.and_eq_true, Bool.not_eq_true'] at hc
        obtain ⟨⟨hn, hl1⟩, hl2⟩ := hc
        split at h
        · rename_i b hb
          unfold ownEq at hb
          rw [if_neg (by rw [hl1, hl2]; decide), e1, e2] at hb
          simp only at hb
          have n1 : ∀ i, d1 ≠ .loc i := fun i z => by rw [z] at hl1; simp [isLoc] at hl1
          have n2 : ∀ i, d2 ≠ .loc i := fun i z => by rw [z] at hl2; simp [isLoc] at hl2
          obtain ⟨G1, g1, k1, R1, p1⟩ := release R V1 n1
          have V2' : RepV w Fo σ st β G1 H f2 d2 v2 := by
            rcases repV_cases V2 with ⟨i, _, _, z, _⟩ | V0
            · exact absurd z (n2 i)
            · apply repV_of0
              unfold RepV0 at V0 ⊢
              cases f2 with
              | false =>
                simp only [Bool.false_eq_true, if_false] at V0 ⊢
                exact Rep.mono g1 (SubB.refl _) d2 v2 V0
              | true =>
                simp only [if_true] at V0 ⊢
                obtain ⟨a, e, h1, h2, h3, h4, h5⟩ := V0
                have ht : ¬ Tmp f1 v1 a := fun z => h4 (.inr z)
                exact ⟨a, e, by rw [k1 a ht]; exact h1, h2, h3, fun z => h4 (.inl z), h5.mono g1 (SubB.refl _) rfl⟩
          obtain ⟨G2, g2, k2, R2, p2⟩ := release R1 V2' n2
          have p1 := Rep.mono g2 (SubB.refl β) d1 v1 p1
          have h2 : Out w W Fo σ st β G2 H Q (.ok (.bl (!b), false) st) := Out.trans ⟨g1.trans g2, SubB.refl _, fun _ _ => rfl, fun i b d h c => ⟨b, d, h, c⟩⟩ _ h
          rw [e1] at hh1
          rw [e2] at hh2
          obtain ⟨a1, dx1, us1, rfl, q1, t1⟩ := hh1.ins R.sub
          obtain ⟨a2, dx2, us2, rfl, q2, t2⟩ := hh2.ins R.sub
          cases r1
          cases r2
          split at hb
          · rename_i qn hq
            split at hb
            · rename_i hcc
              subst hcc
              split at hb
              · rename_i r f S' hcall
                split at hb
                · rename_i hS
                  cases hb
                  obtain ⟨fa, hs, hf, hF⟩ := CO.eq_ c qn hq
                  have FF : FnC X.prog X.w X.K X.mg X.base k fa 2 [] (spC w fun ds _ S => call qn ds S) := by
                    rw [C.P, C.wd, C.K, C.mg, C.base]; exact hF
                  have NK := NO c hn
                  obtain ⟨mA, J, _⟩ := ins_get I.hok q1
                  obtain ⟨mB, J', _⟩ := ins_get I.hok q2
                  obtain ⟨od, J, _⟩ := J.look
                  obtain ⟨od', J', _⟩ := J'.look
                  obtain ⟨m, hFr⟩ := I.fr
                  have sb := SubN.top C
                  show wpAny _ _ (richCompare .NotEq (.ref a1) (.ref a2)) _ _ _
                  refine PySem.W.ne_K (by have := sb.un; omega) hFr I.ok.mod.kin J J'.type (by simp [PySem.W.notFirst]) (by rw [C.K]; exact NK.ne) (by rw [C.K]; exact NK.ob) (by rw [C.K]; exact hs) (by rw [C.K]; exact hf) ?_
                  exact wpAny_mono (own_call C (SubN.in1 (n := 15) sb) R2 I p1 p2 FF hcall (beqDs_eq _ _ hS)) (fun r' s' z => ⟨b, z.1, still_ep (r := !b) h2 ⟨rfl, z.2⟩⟩) fun _ _ z => z
                · cases hb
              · cases hb
            · cases hb
          · cases hb
        · exact h.elim
      · exact h.elim
    · exact h.elim
end
end PD

set_option autoImplicit false
namespace PD
open PySem PySem.Spec PyProof.Rows L2

/-! ### a new object, held by hand -/
section
variable {w : Wo} {g : Prg} {si : SI} {k : Nat} {X : Cx} {W : WX} {pos : Pos} {Fo : Addr → Prop} {σ : L2.St} {st st1 : St} {β β1 : List Addr} {G H G1 H1 : Hp}
theorem RS.hold {p : Addr} {o : HO} (R : RS w Fo β G H σ st) (hH : H p = some o) (hG : G p = none) (hb : p ∉ β) (hn : NoOwn σ st p) (ht : ∀ xs, o ≠ .tup xs) (nt : ∀ ps, o ≠ .tbl ps) : RS w (fun a => Fo a ∨ a = p) β G H σ st :=
  ⟨R.len, R.sub, R.val, R.own, R.dis, R.sto, R.nd, fun a q => by
    rcases q with q | rfl
    · exact R.fo a q
    · exact ⟨⟨o, hH⟩, hG, hb, hn⟩, fun a q xs e => by
    rcases q with q | rfl
    · exact R.ft a q xs e
    · rw [hH] at e; cases e; exact ht xs rfl, R.ln, R.tb, fun q hq => ⟨(R.tq q hq).1, fun z => by
    rcases z with z | z
    · exact (R.tq q hq).2 z
    · obtain ⟨ps, e5, _⟩ := R.tb q hq
      rw [z, hH] at e5
      exact nt ps (Option.some.inj e5)⟩⟩
theorem Rd.some {H : Hp} {a : Addr} {u : HO} (h : Rd H a u) : ∃ o, H a = some o := by
  rcases h with h | ⟨o, h⟩
  · exact ⟨_, h⟩
  · exact ⟨_, h⟩
/-- a container that is read is not one that others hold -/
theorem repV_apart (R : RS w Fo β G H σ st) {f : Bool} {d : D} {a p : Addr} (V : RepV w Fo σ st β G H f d (.ref a)) (hd : isCont (deref st d) = true) (hp : Fo p) : a ≠ p := by
  intro e
  subst e
  obtain ⟨_, g1, g2, g3⟩ := R.fo a hp
  have val : ∀ d', isCont d' = true → Rep w β G d' (.ref a) → False := fun d' hc r => by
    cases d' with
    | lst ds => unfold Rep at r; obtain ⟨z, a', vs, e, s, _⟩ := r; cases e; rw [g1] at s; cases s
    | dct ds => unfold Rep at r; obtain ⟨z, a', vs, e, s, _⟩ := r; cases e; obtain ⟨o, s⟩ := Rd.some s; rw [g1] at s; cases s
    | dtt ds => unfold Rep at r; obtain ⟨z, a', vs, e, s, _⟩ := r; cases e; obtain ⟨o, s⟩ := Rd.some s; rw [g1] at s; cases s
    | ins c fs => unfold Rep at r; obtain ⟨a', dx, gs, e, s, _⟩ := r; cases e; rw [g1] at s; cases s
    | _ => cases hc
  rcases repV_cases V with ⟨i, b, d', rfl, rfl, h1, h2, hc⟩ | V0
  · cases b with
    | true => exact g3 i d' h2 h1
    | false =>
      obtain ⟨v, h3, h4⟩ := R.val i d' h2
      rw [h1] at h3
      cases h3
      exact val d' hc h4
  · unfold RepV0 at V0
    cases f with
    | true =>
      simp only [if_true] at V0
      obtain ⟨a', e, _, _, _, h4, _⟩ := V0
      cases e
      exact h4 hp
    | false =>
      simp only [Bool.false_eq_true, if_false] at V0
      cases d with
      | obj n =>
        unfold Rep at V0
        obtain ⟨a', e, e2⟩ := V0
        cases e2
        exact g2 (List.mem_of_getElem? e)
      | loc i => unfold Rep at V0; exact V0
      | lst ds => exact val _ hd V0
      | dct ds => exact val _ hd V0
      | dtt ds => exact val _ hd V0
      | ins c fs => exact val _ hd V0
      | _ => cases hd
end

/-! ### {**t, k: v} -/
def splatM (mt mk mv : M DV) : M DV := mt.bind fun x st => match deref st x.1 with
  | .dct kvs => if kvs.length < 1000000 then (mk.bind fun y => mv.bind fun z => (frz1 z.1).bind fun z' => if (dKey y.1).isSome = true then M.ret (.dct (putKD kvs y.1 z'), true) else M.bad) st else .bad
  | _ => .bad
section
variable {w : Wo} {g : Prg} {si : SI} {k : Nat} {X : Cx} {W : WX} {t kk v : Expr} {mt mk mv : M DV} {pos : Pos} {Fo : Addr → Prop} {σ : L2.St} {st st1 : St} {β β1 : List Addr} {G H G1 H1 : Hp} {pins : List (Addr × Obj)} {s : Shared} {Q : VK}
theorem dKey_rep {y : D} {q : Key} {f : Bool} {v : V} (V1 : RepV w Fo σ st β G H f y v) (hk : dKey y = some q) : v = kV q := rep_key (key_rep V1 hk) hk
theorem mix_noref {P : Program} {wd : World} (k : Key) (v : Value) (h : (mixKind P wd).is k v = true) : ∀ b, v ≠ .ref b := fun b e => by
  subst e
  rcases keyIs_shape h with ⟨i, t, _, e⟩ | ⟨x, t, _, e⟩ <;> cases e
/-- the merge of a dict that is read into one that we hold -/
theorem merge_run {d a : Addr} {ks0 ks : List (Key × V)} {Q : Unit → Shared → Prop} {E : Value → Shared → Prop} {A : Around} (I : Inv X pins σ H s) (e0 : H d = some (.dK ks0)) (ea : Rd H a (.dK ks)) (hne : d ≠ a) (hz : ks0.length + ks.length ≤ sizeLine)
    (h : ∀ s', Inv X pins σ (upd H d (.dK (mergeK ks0 ks))) s' → Q () s') : wpAny (model X.prog X.w) A (mergeMapping d (.ref a) false) Q E s := by
  obtain ⟨z0, hd0, vs0, rel0, dd0⟩ := dk_of I.hok e0
  obtain ⟨z, hd, vs, rel, dd⟩ := dk_rd I.hok ea
  refine wpAny_mergeMapping_pairs (knd := mixKind X.prog X.w) hne hd dd0 dd (fun k v hk => mix_noref k v hk) (by rw [← rel0.length, ← rel.length]; exact hz) fun h' dd' _ hs => h _ ?_
  have he : ∃ q, h'.get? d = some q := let ⟨q, _, _, hq, _⟩ := dd'; ⟨q, hq⟩
  have hl : (mergeK ks0 ks).length ≤ sizeLine := by have := length_mergeK ks ks0; omega
  exact d_write (t' := s.toks) I (by rw [e0]; exact True.intro) hs he (dk_new hl hd0 (rel.merge rel0) dd')
theorem mergeK_nil {ks : List (Key × V)} {vs : List (Key × Value)} (r : KV ks vs) (hn : (vs.map (·.1)).Nodup) : mergeK [] ks = ks := by
  have key : ∀ (ks : List (Key × V)) (acc : List (Key × V)), ((acc ++ ks).map (·.1)).Nodup → mergeK acc ks = acc ++ ks := by
    intro ks
    induction ks with
    | nil => intro acc _; simp [mergeK]
    | cons p r ih =>
      intro acc hn
      have hp : putK acc p.1 p.2 = acc ++ [p] := by
        unfold putK
        rw [if_neg]
        rw [List.any_eq_true]
        rintro ⟨kv, hm, he⟩
        rw [List.map_append, List.nodup_append] at hn
        exact hn.2.2 kv.1 (List.mem_map.mpr ⟨kv, hm, rfl⟩) p.1 (by simp) (of_decide_eq_true he)
      show mergeK (putK acc p.1 p.2) r = _
      rw [hp, ih (acc ++ [p]) (by simpa using hn)]
      simp
  have e : ks.map (·.1) = vs.map (·.1) := by
    unfold KV at r
    induction r with
    | nil => rfl
    | cons h t ih => rw [List.map_cons, List.map_cons, h.1, ih (by rw [List.map_cons, List.nodup_cons] at hn; exact hn.2)]
  rw [key ks [] (by rw [List.nil_append, e]; exact hn), List.nil_append]
theorem subDict_run {k v : Expr} {ta tb : TE} (hk : PE X k ta) (hv : PE X v tb) (I : Inv X pins σ H s) {Q : Addr → Shared → Prop}
    (h : ∀ p, H p = none → ta σ (upd H p (.dK [])) fun y H1 => tb σ H1 fun z H2 => ∃ y' z', [(y, z)] = [(y', z')] ∧ H2 p = some (.dK []) ∧ ∃ q, y' = kV q ∧ ∀ s', Inv X pins σ (upd H2 p (.dK [(q, z')])) s' → Q p s') :
    wpAny (model X.prog X.w) X.A (subDict [(eval k X.env, do let x ← eval v X.env; standAt pos; pure x)]) Q X.xe s := by
  have hn := I.hok.fresh (Nat.le_refl s.heap.objs.size)
  have I1 := I.laid (a := s.heap.objs.size) (o := .dK []) (h' := s.heap.push { cls := .type "dict", data := .dict #[] }) (t' := s.toks) (fun _ _ q => Heap.get?_push_of_some _ q) (Nat.le_refl _) (dk_empty s.heap I.big)
  refine wpAny_subDict (knd := mixKind X.prog X.w) (by simp) (thn ((pps_cons (pos := pos) hk hv pps_nil).run pins _ σ _ (fun ps H2 => ∃ y z, ps = [(y, z)] ∧ H2 s.heap.objs.size = some (.dK []) ∧ ∃ q, y = kV q ∧ ∀ s', Inv X pins σ (upd H2 s.heap.objs.size (.dK [(q, z)])) s' → Q s.heap.objs.size s') I1 (h _ hn)) fun ws s2 ⟨ps, H2, I2, rel, y, z, ep, e, q, ey, qq⟩ => ?_)
  subst ep ey
  obtain ⟨rs, c, rk⟩ := carries_of (P := X.prog) (w := X.w) (kvs := [(q, z)]) rel
  obtain ⟨z1, hd, vs0, r0, dd⟩ := dk_of I2.hok e
  cases r0
  refine ⟨rs, c, dd, fun h' dd' hs => qq _ ?_⟩
  have he : ∃ q, h'.get? s.heap.objs.size = some q := let ⟨q, _, _, hq, _⟩ := dd'; ⟨q, hq⟩
  exact d_write I2 (by rw [e]; exact True.intro) hs he (dk_new (by rw [sizeLine_eq]; simp) hd (rk.merge .nil) dd')
theorem d_splat (ht : PE X t (tD w W mt)) (hk : PE X kk (tD w W mk)) (hv : PE X v (tD w W mv)) : PE X (.Dict [none, some kk] [t, v] pos) (tD w W (splatM mt mk mv)) := by
  refine ⟨fun pins s σ H Q I h => ?_⟩
  obtain ⟨Fo, β, G, st, R, h⟩ := h
  refine wpAny_Dict_splat ?_
  have hn := I.hok.fresh (Nat.le_refl s.heap.objs.size)
  have I1 := I.laid (a := s.heap.objs.size) (o := .dK []) (h' := s.heap.push { cls := .type "dict", data := .dict #[] }) (t' := s.toks) (fun _ _ q => Heap.get?_push_of_some _ q) (Nat.le_refl _) (dk_empty s.heap I.big)
  generalize s.heap.objs.size = p at *
  have F0 : Fr Fo st β G H st β G (upd H p (.dK [])) := Fr.new R hn
  have R1 : RS w (fun a => Fo a ∨ a = p) β G (upd H p (.dK [])) σ st := (R.new hn).hold upd_same (R.nog hn) (R.notin hn) (R.noown hn) (fun xs e => by cases e) (fun xs e => by cases e)
  have nF : ¬ Fo p := R.nofo hn
  unfold splatM M.bind at h
  refine thn (ht.run pins _ σ (upd H p (.dK [])) (fun x H1 => ∃ d f st1 β1 G1, RS w (fun a => Fo a ∨ a = p) β1 G1 H1 σ st1 ∧ RepV w (fun a => Fo a ∨ a = p) σ st1 β1 G1 H1 f d x ∧ Fr Fo st β G H st1 β1 G1 H1 ∧ H1 p = some (.dK []) ∧
    Out w W Fo σ st β G H Q (match deref st1 d with
      | .dct kvs => if kvs.length < 1000000 then (mk.bind fun y => mv.bind fun z => (frz1 z.1).bind fun z' => if (dKey y.1).isSome = true then M.ret (.dct (putKD kvs y.1 z'), true) else M.bad) st1 else .bad
      | _ => .bad)) I1 ⟨_, β, G, st, R1, ?_⟩) fun m s1 ⟨x, H1, I2, rx, d, f, st1, β1, G1, R2, V, F1, e1, q⟩ => ?_
  · cases e : mt st with
    | ok a st1 =>
      obtain ⟨d, f⟩ := a
      rw [e] at h
      exact fun x β1 G1 H1 F R2 V => ⟨d, f, st1, β1, G1, R2, V, F0.trans (F.weak fun a z => .inl z), (F.kp p (.inr rfl)).trans upd_same, h⟩
    | exc c fs st1 =>
      rw [e] at h
      exact fun β' G' H' dx gs F R e r => h β' G' H' dx gs (F0.trans (F.weak fun a z => .inl z)) (R.weak fun a z => .inl z) e r
    | bad => rw [e] at h; exact h.elim
  · split at q
    · rename_i kvs ed
      have hh := V.held R2
      rw [ed] at hh
      obtain ⟨z, a, ks, rfl, er, rk⟩ := hh.dct R2.sub
      obtain rfl : m = Value.ref a := rx
      have hne := repV_apart R2 V (by rw [ed]; rfl) (.inr rfl)
      split at q
      · rename_i hl
        have hkl := rk.len
        refine merge_run I2 e1 er (Ne.symm hne) (by rw [sizeLine_eq]; simp; omega) fun s2 I3 => ?_
        obtain ⟨_, _, vs0, rel0, o0, es0, ep0, ho0, _, _, _, _, hnd⟩ := dk_rd I2.hok er
        rw [mergeK_nil rel0 hnd] at I3
        have R3 : RS w (fun a => Fo a ∨ a = p) β1 G1 (upd H1 p (.dK ks)) σ st1 := R2.updF (.inr rfl) (fun xs e => by cases e) (fun _ z => by rw [e1] at z; cases z) (fun _ z => by rw [e1] at z; cases z)
        have F2 : Fr Fo st1 β1 G1 H1 st1 β1 G1 (upd H1 p (.dK ks)) := ⟨SubH.refl _, SubB.refl _, fun a ha => upd_ne (fun e => nF (e ▸ ha)), fun _ b d h c => ⟨b, d, h, c⟩⟩
        have F2 := F1.trans F2
        refine subDict_run (pos := pos) hk hv I3 (fun p2 hp2 => ?_)
        have n2 : p2 ≠ p := fun e => by rw [e, upd_same] at hp2; cases hp2
        have R4 : RS w (fun a => (Fo a ∨ a = p) ∨ a = p2) β1 G1 (upd (upd H1 p (.dK ks)) p2 (.dK [])) σ st1 := (R3.new hp2).hold upd_same (R3.nog hp2) (R3.notin hp2) (R3.noown hp2) (fun xs e => by cases e) (fun xs e => by cases e)
        have F3 : Fr Fo st β G H st1 β1 G1 (upd (upd H1 p (.dK ks)) p2 (.dK [])) := F2.trans ((Fr.new R3 hp2).weak fun a z => .inl z)
        have ep : upd (upd H1 p (.dK ks)) p2 (.dK []) p = some (.dK ks) := by rw [upd_ne (Ne.symm n2), upd_same]
        unfold M.bind at q
        refine ⟨_, β1, G1, st1, R4, ?_⟩
        cases e2 : mk st1 with
        | exc c fs st2 =>
          rw [e2] at q
          exact fun β' G' H' dx gs F R e r => q β' G' H' dx gs (F3.trans (F.weak fun a z => .inl (.inl z))) (R.weak fun a z => .inl (.inl z)) e r
        | bad => rw [e2] at q; exact q.elim
        | ok y st2 =>
          obtain ⟨yd, yf⟩ := y
          rw [e2] at q
          intro yv β2 G2 H2 F4 R5 V5
          have F5 := F3.trans (F4.weak (Fo := Fo) fun a z => .inl (.inl z))
          have ep2 := (F4.kp p (.inl (.inr rfl))).trans ep
          have eq2 : H2 p2 = some (.dK []) := (F4.kp p2 (.inr rfl)).trans upd_same
          refine ⟨_, β2, G2, st2, R5, ?_⟩
          simp only at q
          cases e3 : mv st2 with
          | exc c fs st3 =>
            rw [e3] at q
            exact fun β' G' H' dx gs F R e r => q β' G' H' dx gs (F5.trans (F.weak fun a z => .inl (.inl z))) (R.weak fun a z => .inl (.inl z)) e r
          | bad => rw [e3] at q; exact q.elim
          | ok zz st3 =>
            obtain ⟨zd, zf⟩ := zz
            rw [e3] at q
            intro zv β3 G3 H3 F6 R6 V6
            have F7 := F5.trans (F6.weak (Fo := Fo) fun a z => .inl (.inl z))
            have ep3 := (F6.kp p (.inl (.inr rfl))).trans ep2
            have eq3 := (F6.kp p2 (.inr rfl)).trans eq2
            obtain ⟨G4, F8, R7, A7⟩ := settle R6 V6
            obtain ⟨z', st4, G5, e4, F9, R8, r8⟩ := frz1_ok R7 A7
            simp only [e4] at q
            split at q
            · rename_i hsome
              obtain ⟨qk, hq⟩ := Option.isSome_iff_exists.mp hsome
              have eyv := dKey_rep V5 hq
              refine ⟨_, _, rfl, eq3, qk, eyv, fun s3 I4 => ?_⟩
              have rd2 : Rd (upd H3 p2 (.dK [(qk, zv)])) p2 (.dK [(qk, zv)]) := .inl upd_same
              have ep4 : upd H3 p2 (.dK [(qk, zv)]) p = some (.dK ks) := by rw [upd_ne (Ne.symm n2)]; exact ep3
              have hsz : ks.length + 1 ≤ sizeLine := by rw [sizeLine_eq]; omega
              refine merge_run I4 ep4 rd2 (Ne.symm n2) hsz fun s4 I5 => ?_
              have hz4 : (putKD kvs yd z').length ≤ sizeLine := by have := putKD_len kvs yd z'; rw [sizeLine_eq]; omega
              have R9 := (R8.updF (p := p2) (o := .dK [(qk, zv)]) (.inr rfl) (fun xs e => by cases e) (fun _ z => by rw [eq3] at z; cases z) (fun _ z => by rw [eq3] at z; cases z)).updF (p := p) (o := .dK (mergeK ks [(qk, zv)])) (.inl (.inr rfl)) (fun xs e => by cases e) (fun _ z => by rw [ep4] at z; cases z) (fun _ z => by rw [ep4] at z; cases z)
              have n3 : ∀ a, Fo a → a ≠ p2 := fun a ha e => by
                subst e
                obtain ⟨⟨o, ho⟩, _⟩ := R3.fo a (.inl ha)
                rw [hp2] at ho
                cases ho
              have F11 : Fr Fo st4 β3 G5 H3 st4 β3 G5 (upd (upd H3 p2 (.dK [(qk, zv)])) p (.dK (mergeK ks [(qk, zv)]))) :=
                ⟨SubH.refl _, SubB.refl _, fun a ha => (upd_ne (fun e => nF (by rw [← e]; exact ha))).trans (upd_ne (n3 a ha)), fun _ b d h c => ⟨b, d, h, c⟩⟩
              have F10 := (F7.trans ((F8.trans F9).weak (Fo := Fo) fun a z => .inl (.inl z))).trans F11
              obtain ⟨_, g1, g2, g3⟩ := R9.fo p (.inl (.inr rfl))
              have rk3 : RepsK w β3 G5 kvs ks := RepsK.mono (((F4.g.trans F6.g).trans F8.g).trans F9.g) ((F4.b.trans F6.b).trans (F8.b.trans F9.b)) kvs ks rk
              refine ⟨.ref p, _, I5, rfl, q (.ref p) β3 G5 _ F10 (R9.weak fun a z => .inl (.inl z)) (RepV.fresh g1 g2 g3 nF ⟨hz4, _, upd_same, ?_⟩)⟩
              show RepsK w β3 G5 (putKD kvs yd z') (putK ks qk zv)
              exact rk3.put hq r8
            · exact q.elim
      · exact q.elim
    · exact q.elim
end
end PD

set_option autoImplicit false
namespace PD
open PySem PySem.Spec PyProof.Rows L2

/-! ### {k: v for ..}, keys ints or texts -/
def dcL (vs : List Nat) (k : Wk) (g : D → M Unit) (t : M Bool) (mk mv : M DV) : List D → List (D × D) → M (List (D × D))
  | [], acc => M.ret acc
  | d :: ds, acc => fun st => match g d (st.wipe vs) with
    | .ok _ st1 => (match t st1 with
      | .ok true st2 => (match mk st2 with
        | .ok y st3 => (match (mv.bind fun x => frz1 x.1) st3 with
          | .ok z st4 => if (k.still st4 && decide (acc.length < 1000000) && (dKey y.1).isSome) = true then dcL vs k g t mk mv ds (putKD acc y.1 z) st4 else .bad
          | _ => .bad)
        | _ => .bad)
      | .ok false st2 => if k.still st2 = true then dcL vs k g t mk mv ds acc st2 else .bad
      | _ => .bad)
    | _ => .bad
def dcEnd (vs : List Nat) (st0 : St) : Rz (List (D × D)) → Rz DV
  | .ok acc st => .ok (.dct acc, true) ⟨restoreE st0.env st.env vs, st.sto⟩
  | _ => .bad
def dcM (vs : List Nat) (mw : M Wk) (g : D → M Unit) (t : M Bool) (mk mv : M DV) : M DV := mw.bind fun k st => if k.still st = true ∧ calmE st.env vs = true then dcEnd vs st (dcL vs k g t mk mv k.items [] st) else .bad
section
variable {w : Wo} {gg : Prg} {si : SI} {kk : Nat} {X : Cx} {W : WX} {a b e : Expr} {es : List Expr} {ma mb m mk mv : M DV} {pos : Pos} {Fo : Addr → Prop} {σ σ1 : L2.St} {st st1 st2 : St} {β β1 β2 : List Addr} {G H G1 H1 G2 H2 : Hp} {vs : List Nat}
/-- a turn's state -/
structure DcI (w : Wo) (vs : List Nat) (k : Wk) (Fo : Addr → Prop) (σ : L2.St) (st : St) (β : List Addr) (G H : Hp) (L : Addr) (acc : List (D × D)) (st' : St) (H' : Hp) : Prop where
  out : ∃ (β' : List Addr) (G' : Hp) (us : List (Key × V)), FrB vs Fo (st.wipe vs) β G H st' β' G' H' ∧ RS w (fun a => Fo a ∨ a = L) β' G' H' (L2.wipe σ vs) (st'.wipe vs) ∧ H' L = some (.dK us) ∧ RepsK w β' G' acc us ∧ acc.length ≤ 1000000
  still : k.still st' = true
/-- one turn -/
theorem dc_turn {k : Wk} {g : D → M Unit} {t : M Bool} {L : Addr} {acc : List (D × D)} {st' : St} {H' : Hp} {x : V} {H2 : Hp} {i : Nat} {d : D} {Nx : Hp → Prop} {r : Rz (List (D × D))} {ds : List D}
    (I : DcI w vs k Fo σ st β G H L acc st' H') (y : YD w β G k i H' x H2) (hd : k.items[i]? = some d) (hr : dcL vs k g t mk mv (d :: ds) acc st' = r) (hb : r ≠ .bad) (hx : ∀ c fs s, r ≠ .exc c fs s)
    (hnL : ¬ Fo L) (hN : ∀ acc2 st2 H3, DcI w vs k Fo σ st β G H L acc2 st2 H3 → dcL vs k g t mk mv ds acc2 st2 = r → Nx H3) :
    tGB w vs g x (L2.wipe σ vs) H2 fun σ2 H3 => L2.wipe σ2 vs = L2.wipe σ vs ∧ tB w WF t σ2 H3 fun b H4 =>
      if b = true then tD w WF mk σ2 H4 fun y H5 => tD w WF mv σ2 H5 fun z H6 => ∃ kvs k, y = kV k ∧ H6 L = some (.dK kvs) ∧ kvs.length < sizeLine ∧ Nx (upd H6 L (.dK (putK kvs k z))) else Nx H4 := by
  obtain ⟨⟨β', G', us, F, R, hL, ra, hz⟩, hs⟩ := I
  obtain ⟨d', G2, e1, F2, R2, r2⟩ := yd_in (st := st'.wipe vs) F.f.b F.f.g R hs y
  rw [hd] at e1
  cases e1
  have F2' : FrB vs Fo st' β' G' H' st' β' G2 H2 := ⟨F2.weak fun a z => .inl z, fun _ b d _ h c => ⟨b, d, h, c⟩⟩
  have hL2 : H2 L = some (.dK us) := by rw [F2.kp L (.inr rfl)]; exact hL
  refine ⟨fun a => Fo a ∨ a = L, β', G2, st'.wipe vs, d, R2, r2, ?_⟩
  simp only [dcL] at hr
  cases e1 : g d (st'.wipe vs) with
  | exc c fs st1 => rw [e1] at hr; exact absurd hr.symm hb
  | bad => rw [e1] at hr; exact absurd hr.symm hb
  | ok u st1 =>
    rw [e1] at hr
    intro σ2 β3 G3 H3 w3 F3 R3
    rw [wipe_wipe] at w3
    refine ⟨w3, fun a => Fo a ∨ a = L, β3, G3, st1, R3, ?_⟩
    simp only at hr
    cases e2 : t st1 with
    | exc c fs st2 => rw [e2] at hr; exact absurd hr.symm hb
    | bad => rw [e2] at hr; exact absurd hr.symm hb
    | ok b st2 =>
      rw [e2] at hr
      intro β4 G4 H4 F4 R4
      have hL4 : H4 L = some (.dK us) := by rw [F4.kp L (.inr rfl), F3.f.kp L (.inr rfl)]; exact hL2
      have FF : FrB vs Fo (st.wipe vs) β G H st2 β4 G4 H4 := by
        refine F.trans (F2'.trans (FrB.trans ?_ (F4.b'.weak fun a z => .inl z)))
        refine ⟨F3.f.weak fun a z => .inl z, fun i b d hi h c => F3.ow i b d hi ?_ c⟩
        show (wipeE st'.env vs)[i]? = _
        rw [wipeE_out hi]; exact h
      have m1 : SubH G' G4 := (F2.g.trans F3.f.g).trans F4.g
      have m2 : SubB β' β4 := (F2.b.trans F3.f.b).trans F4.b
      cases b with
      | false =>
        simp only [Bool.false_eq_true, if_false]
        simp only at hr
        by_cases c : k.still st2 = true
        · rw [if_pos c] at hr
          refine hN acc st2 H4 ⟨⟨β4, G4, us, FF, ?_, hL4, RepsK.mono m1 m2 acc us ra, hz⟩, c⟩ hr
          have := R4.wipe vs
          rw [w3] at this
          exact this
        · rw [if_neg c] at hr
          exact absurd hr.symm hb
      | true =>
        simp only [if_true]
        simp only at hr
        refine ⟨fun a => Fo a ∨ a = L, β4, G4, st2, R4, ?_⟩
        cases e3 : mk st2 with
        | exc c fs st3 => rw [e3] at hr; exact absurd hr.symm hb
        | bad => rw [e3] at hr; exact absurd hr.symm hb
        | ok y st3 =>
          obtain ⟨yd, yf⟩ := y
          rw [e3] at hr
          intro yv β5 G5 H5 F5 R5 V5
          simp only at hr
          have hL5 : H5 L = some (.dK us) := by rw [F5.kp L (.inr rfl)]; exact hL4
          cases e4 : (mv.bind fun x => frz1 x.1) st3 with
          | exc c fs st4 => rw [e4] at hr; exact absurd hr.symm hb
          | bad => rw [e4] at hr; exact absurd hr.symm hb
          | ok z st4 =>
            rw [e4] at hr
            simp only at hr
            refine elt_out R5 e4 fun zv β6 G6 H6 F6 R6 r6 => ?_
            have hL6 : H6 L = some (.dK us) := by rw [F6.kp L (.inr rfl)]; exact hL5
            by_cases c : (k.still st4 && decide (acc.length < 1000000) && (dKey yd).isSome) = true
            · rw [if_pos c] at hr
              simp only [Bool.and_eq_true, decide_eq_true_eq] at c
              obtain ⟨⟨c1, c2⟩, c3⟩ := c
              obtain ⟨q, hq⟩ := Option.isSome_iff_exists.mp c3
              have ey := dKey_rep V5 hq
              have n1 : SubH G' G6 := (m1.trans F5.g).trans F6.g
              have n2 : SubB β' β6 := (m2.trans F5.b).trans F6.b
              refine ⟨us, q, ey, hL6, by rw [ra.len, sizeLine_eq]; omega, hN (putKD acc yd z) st4 _ ⟨⟨β6, G6, putK us q zv, ?_, ?_, upd_same, (RepsK.mono n1 n2 acc us ra).put hq r6, by have := putKD_len acc yd z; omega⟩, c1⟩ hr⟩
              · refine FrB.trans FF (FrB.trans ((F5.trans F6).b'.weak fun a z => .inl z) ⟨⟨SubH.refl _, SubB.refl _, fun a ha => upd_ne ?_⟩, fun _ b d _ h c => ⟨b, d, h, c⟩⟩)
                intro e
                subst e
                exact hnL ha
              · have := (R6.updF (p := L) (o := .dK (putK us q zv)) (.inr rfl) (fun xs => by intro z; cases z) (fun _ z => by rw [hL6] at z; cases z) (fun _ z => by rw [hL6] at z; cases z)).wipe vs
                rw [w3] at this
                exact this
            · rw [if_neg c] at hr
              exact absurd hr.symm hb
/-- all turns -/
theorem dc_out {J : It} {k : Wk} {g : D → M Unit} {t : M Bool} {L : Addr} {Q : Hp → Prop} (hL0 : H L = none) (wk : WkOk w J k β G) (R : RS w Fo β G H σ st) (hs : k.still st = true)
    {acc : List (D × D)} {stn : St} (hr : dcL vs k g t mk mv k.items [] st = .ok acc stn) (hQ : ∀ H', DcI w vs k Fo σ st β G H L acc stn H' → Q H') :
    ∃ Wi : Nat → Nat → Hp → Prop, (∃ m, Wi 0 m (upd H L (.dK []))) ∧ ∀ i m H, Wi i m H →
      (J.stop i H ∧ Q H) ∨ (J.go i H ∧ ∃ Nx : Hp → Prop, (∀ H', Nx H' → ∃ m', m' < m ∧ Wi (i + 1) m' H') ∧ ∀ x H', J.yld i H x H' → tGB w vs g x (L2.wipe σ vs) H' fun σ2 H2 => L2.wipe σ2 vs = L2.wipe σ vs ∧ tB w WF t σ2 H2 fun b H3 =>
        if b = true then tD w WF mk σ2 H3 fun y H4 => tD w WF mv σ2 H4 fun z H5 => ∃ kvs k, y = kV k ∧ H5 L = some (.dK kvs) ∧ kvs.length < sizeLine ∧ Nx (upd H5 L (.dK (putK kvs k z))) else Nx H3) := by
  obtain ⟨C, wk, hC⟩ := wk.wk
  have hnL : ¬ Fo L := R.nofo hL0
  have R1 : RS w (fun a => Fo a ∨ a = L) β G (upd H L (.dK [])) σ st := (R.new hL0).hold upd_same (R.nog hL0) (R.notin hL0) (R.noown hL0) (fun xs z => by cases z) (fun xs z => by cases z)
  have base : DcI w vs k Fo σ st β G H L [] st (upd H L (.dK [])) := ⟨⟨β, G, [], ⟨⟨SubH.refl _, SubB.refl _, fun a ha => upd_ne (fun z => hnL (by rw [← z]; exact ha))⟩, fun i b d hi h c => ⟨b, d, by have h : (wipeE st.env vs)[i]? = _ := h; rw [wipeE_out hi] at h; exact h, c⟩⟩, R1.wipe vs, upd_same, by unfold RepsK; rfl, Nat.zero_le _⟩, hs⟩
  let Pv : Nat → Hp → Prop := fun i H' => ∃ acc' st', DcI w vs k Fo σ st β G H L acc' st' H' ∧ dcL vs k g t mk mv (k.items.drop i) acc' st' = .ok acc stn
  have inv : ∀ i H', Pv i H' → C H' := fun i H' ⟨acc', st', I, _⟩ => by
    obtain ⟨β', G', us, F, R', _⟩ := I.out
    exact hC _ β' G' H' _ (st'.wipe vs) F.f.b F.f.g R' I.still
  refine ⟨fun i m H' => m = k.items.length - i ∧ i ≤ k.items.length ∧ Pv i H', ⟨k.items.length, by simp, Nat.zero_le _, [], st, base, hr⟩, ?_⟩
  rintro i m H' ⟨rfl, hi, p⟩
  by_cases hlt : i < k.items.length
  · refine .inr ⟨wk.goes i H' hlt (inv i H' p), Pv (i + 1), fun H'' p' => ⟨k.items.length - (i + 1), by omega, rfl, hlt, p'⟩, fun x H2 y => ?_⟩
    obtain ⟨acc', st', I, e⟩ := id p
    have y := wk.yields i H' x H2 hlt (inv i H' p) y
    obtain ⟨d, ed⟩ : ∃ d, k.items[i]? = some d := ⟨_, List.getElem?_eq_getElem hlt⟩
    have hd : k.items.drop i = d :: k.items.drop (i + 1) := by
      obtain ⟨hlt, he⟩ := List.getElem?_eq_some_iff.mp ed
      rw [List.drop_eq_getElem_cons hlt, he]
    rw [hd] at e
    exact dc_turn I y ed e (by intro z; cases z) (by intro c fs s z; cases z) hnL fun acc2 st2 H3 I2 e2 => ⟨acc2, st2, I2, e2⟩
  · have e : i = k.items.length := by omega
    subst e
    refine .inl ⟨wk.stops H' (inv _ H' p), ?_⟩
    obtain ⟨acc', st', I, e⟩ := p
    rw [List.drop_length] at e
    have e : Rz.ok acc' st' = Rz.ok acc stn := e
    cases e
    exact hQ H' I
theorem dc_val {L : Addr} {k : Wk} {acc : List (D × D)} {stn : St} {H' : Hp} {Q : VK} (R : RS w Fo β G H σ st) (hL0 : H L = none) (hc : calmE st.env vs = true) (I : DcI w vs k Fo σ st β G H L acc stn H')
    (h : Out w W Fo σ st β G H Q (.ok (.dct acc, true) ⟨restoreE st.env stn.env vs, stn.sto⟩)) : Q (.ref L) H' := by
  obtain ⟨β', G', us, F, R', hL, ra, hz⟩ := I.out
  obtain ⟨R2, F2⟩ := R.unwipe hc F (R'.weak fun a z => .inl z)
  obtain ⟨_, g1, g2, g3⟩ := R'.fo L (.inr rfl)
  refine h (.ref L) β' G' H' F2 R2 (RepV.fresh g1 g2 (fun i d e q => ?_) (R.nofo hL0) ⟨by rw [sizeLine_eq]; omega, us, hL, ra⟩)
  have e : (restoreE st.env stn.env vs)[i]? = some (some (true, d)) := e
  have hl : st.env.length = stn.env.length := by
    have h1 := R2.ln
    have h2 : σ.length = (restoreE st.env stn.env vs).length := h1
    rw [restoreE_len] at h2
    rw [← h2]; exact R.ln.symm
  by_cases hi : i ∈ vs
  · rw [restoreE_in hl hi] at e
    exact calmE_no hc hi e
  · rw [restoreE_out hi] at e
    exact g3 i d (by show (wipeE stn.env vs)[i]? = _; rw [wipeE_out hi]; exact e) (by rw [wipeσ_out hi]; exact q)
theorem dc_tDc {mw : M Wk} {g : D → M Unit} {t : M Bool} {Q : VK} (h : tD w W (dcM vs mw g t mk mv) σ H Q) : tDc (tI w W mw) (tGB w vs g) (tB w WF t) (tD w WF mk) (tD w WF mv) vs σ H Q := by
  obtain ⟨Fo, β, G, st, R, h⟩ := h
  refine ⟨Fo, β, G, st, R, ?_⟩
  unfold dcM at h
  cases e1 : mw st with
  | ok k st1 =>
    rw [M.bind_ok e1] at h
    by_cases c : k.still st1 = true ∧ calmE st1.env vs = true
    · rw [if_pos c] at h
      refine ⟨c.1, fun J β1 G1 H1 F1 R1 wk L hL => ?_⟩
      cases e2 : dcL vs k g t mk mv k.items [] st1 with
      | ok acc stn =>
        rw [e2] at h
        have h := h.trans F1
        exact dc_out hL wk R1 c.1 e2 fun H' I => dc_val R1 hL c.2 I h
      | exc _ _ _ => rw [e2] at h; exact h.elim
      | bad => rw [e2] at h; exact h.elim
    · rw [if_neg c] at h
      exact h.elim
  | exc c fs st1 =>
    unfold M.bind at h
    rw [e1] at h
    exact fun β' G' H' dx gs F R e r => h β' G' H' dx gs F R e r
  | bad => unfold M.bind at h; rw [e1] at h; exact h.elim
theorem d_dc {kx vx tg iter : Expr} {ifs : List Expr} {scope : Scope} {own : List (Str × Nat)} {mw : M Wk} {g : D → M Unit} {t : M Bool} (C : Cok w si X) (hi : PI X tg iter (tI w W mw)) (ok : blkC si.N si.sc scope own = true)
    (hg : ∀ (s : Shared) (H : Hp) (A : Addr) (cl : List (Str × Addr)) (fp : List Addr), PG (X.blk s H scope (compEnvC scope cl A X.env) fp) tg (tGB w (own.map (·.2)) g)) (ht : ∀ (s : Shared) (H : Hp) (A : Addr) (cl : List (Str × Addr)) (fp : List Addr), PTs (X.blk s H scope (compEnvC scope cl A X.env) fp) ifs (tB w WF t))
    (hk : ∀ (s : Shared) (H : Hp) (A : Addr) (cl : List (Str × Addr)) (fp : List Addr), PE (X.blk s H scope (compEnvC scope cl A X.env) fp) kx (tD w WF mk)) (hv : ∀ (s : Shared) (H : Hp) (A : Addr) (cl : List (Str × Addr)) (fp : List Addr), PE (X.blk s H scope (compEnvC scope cl A X.env) fp) vx (tD w WF mv))
    (hs : ∀ x, foldedSetIterable iter X.env x = pure x) :
    PE X (.DictComp kx vx [⟨tg, iter, ifs, 0⟩] scope pos) (tD w W (dcM (own.map (·.2)) mw g t mk mv)) :=
  PE.imp (pe_dc C.calm C.nd hi (blkOk_by (by rw [C.N, C.sc]; exact ok)) hg ht hk hv hs) fun σ H Q h => dc_tDc h
end
end PD

set_option autoImplicit false
/-! ### a, *b, c = xs -/
namespace PySem.W
open PySem PyProof.Rows
section
variable {prog : Program} {w : World} {A : Around} {E : Value → Shared → Prop} {s : Shared}
def starTail (it : Addr) (first : List Value) (n i : Nat) : Sem (List Value) := do
  let rest ← holding first (collect (.ref it))
  let after := n - 1 - i
  if rest.length < after then
    rule "unpack.star.too-few"
    raiseError "ValueError" s!"not enough values to unpack (expected at least {n - 1}, got {i + rest.length})"
  let mid := rest.length - after
  return first ++ [← newList (rest.take mid)] ++ rest.drop mid
/-- behind the iterator's making: some items drawn, the others collected, a list made of the middle ones -/
theorem star_rest {T : String} {l it : Addr} {items : Array Value} {n i : Nat} {St : Nat → Heap → Prop} {Q : List Value → Shared → Prop} {h₁ : Heap} (hi : i < n) (hn : n ≤ items.size + 1) (hz : items.size ≤ 16384)
    (hTm : T = "str_ascii_iterator" ∨ T = "str_iterator" ∨ T = "list_iterator" ∨ T = "tuple_iterator") (Wk : Walks prog w A.in1 it [it, l] [it] items.size (fun i v => items[i]? = some v) St)
    (hT : ∀ i (u : Shared), St i u.heap → u.TypeIs (.ref it) T) (hst : St i h₁) (h1 : it < h₁.objs.size) (h2 : l < h₁.objs.size) (hk : ∀ b o, s.heap.get? b = some o → h₁.get? b = some o) (hit : s.heap.get? it = none)
    (hQ : ∀ (h' : Heap) (tk : Nat), (∀ b o, s.heap.get? b = some o → h'.get? b = some o) → Q (items.toList.take i ++ [.ref h'.objs.size] ++ (items.toList.drop i).drop (items.size + 1 - n))
      { s with heap := h'.push { cls := .type "list", data := .seq ((items.toList.drop i).take (items.size + 1 - n)).toArray }, toks := tk }) :
    wpAny (model prog w) A (starTail it (items.toList.take i) n i) Q E { s with heap := h₁ } := by
  unfold starTail
  refine wpAny_bind (wpAny_holding (kun_collect (s := { s with heap := h₁ }) hTm Wk hT (k := i) (by omega) hst h1 h2 (fun h₂ tk keep => ?_) (by rw [sizeLine_eq]; omega)))
  have len : (items.toList.drop i).length = items.size - i := by rw [List.length_drop, Array.length_toList]
  have mid : (items.toList.drop i).length - (n - 1 - i) = items.size + 1 - n := by rw [len]; omega
  have few : ¬ (items.toList.drop i).length < n - 1 - i := by rw [len]; omega
  dsimp only
  rw [if_neg few, mid]
  have all : ∀ b o, s.heap.get? b = some o → h₂.get? b = some o := fun b o e => keep b o (fun z => by rw [z, hit] at e; cases e) (hk b o e)
  exact wpAny_bind (wpAny_newList (wpAny_pure (hQ h₂ tk all)) (by rw [List.length_take, len, sizeLine_eq]; omega))
theorem star_tup {l : Addr} {items : Array Value} {n i : Nat} {Q : List Value → Shared → Prop} (hl : IsTup s.heap l items) (hh : A.handled = none) (hi : i < n) (hn : n ≤ items.size + 1) (hz : items.size ≤ 16384)
    (hQ : ∀ (h' : Heap) (tk : Nat), (∀ b o, s.heap.get? b = some o → h'.get? b = some o) → Q (items.toList.take i ++ [.ref h'.objs.size] ++ (items.toList.drop i).drop (items.size + 1 - n))
      { s with heap := h'.push { cls := .type "list", data := .seq ((items.toList.drop i).take (items.size + 1 - n)).toArray }, toks := tk }) :
    wpAny (model prog w) A (unpackItems (.ref l) n (some i)) Q E s := by
  have apart : l ≠ s.heap.objs.size := by
    obtain ⟨o, ho, _⟩ := hl
    exact Nat.ne_of_lt (Heap.lt_size ho)
  have fl : (items.toList.take i).length = i := by rw [List.length_take, Array.length_toList]; omega
  unfold unpackItems
  refine wpAny_bind (m := notIterableAtAll (.ref l)) ?_
  unfold notIterableAtAll
  refine wpAny_bind (wpAny_specialOf hl.typeIs slot_tuple_iter.lookup (wpAny_pure ?_))
  rw [if_neg (by simp)]
  refine wpAny_bind (wpAny_holding (iter_tuple hl ?_))
  refine wpAny_bind (wpAny_holding (draw_tuple apart i 0 _ _ ⟨_, Heap.get?_push_size _ rfl, rfl, rfl⟩ (hl.push _) (by omega) fun h₁ at1 same => ?_))
  have there : IsTup h₁ l items := (hl.push _).extBut same.extBut apart
  rw [Nat.zero_add] at at1
  obtain ⟨_, e1, _⟩ := id at1
  obtain ⟨_, e2, _⟩ := id there
  rw [List.drop_zero, if_neg (by rw [fl]; omega)]
  have keep : ∀ b o, s.heap.get? b = some o → h₁.get? b = some o := fun b o e => same.extBut b o (Nat.ne_of_lt (Heap.lt_size e)) (Heap.get?_push_of_some _ e)
  have none_ : s.heap.get? s.heap.objs.size = none := by
    cases e : s.heap.get? s.heap.objs.size with
    | none => rfl
    | some o => exact absurd (Heap.lt_size e) (Nat.lt_irrefl _)
  exact star_rest (s := s) (T := "tuple_iterator") hi hn hz (.inr (.inr (.inr rfl))) (Walks.tuple (A := A.in1) hh s.heap.objs.size l apart items) (fun j u st => st.1.typeIs) ⟨at1, there⟩ (Heap.lt_size e1) (Heap.lt_size e2) keep none_ hQ
theorem star_lst {l : Addr} {items : Array Value} {n i : Nat} {Q : List Value → Shared → Prop} (hl : s.heap.IsList l items) (hh : A.handled = none) (hi : i < n) (hn : n ≤ items.size + 1) (hz : items.size ≤ 16384)
    (hQ : ∀ (h' : Heap) (tk : Nat), (∀ b o, s.heap.get? b = some o → h'.get? b = some o) → Q (items.toList.take i ++ [.ref h'.objs.size] ++ (items.toList.drop i).drop (items.size + 1 - n))
      { s with heap := h'.push { cls := .type "list", data := .seq ((items.toList.drop i).take (items.size + 1 - n)).toArray }, toks := tk }) :
    wpAny (model prog w) A (unpackItems (.ref l) n (some i)) Q E s := by
  have apart : l ≠ s.heap.objs.size := by
    obtain ⟨o, ho, _⟩ := hl
    exact Nat.ne_of_lt (Heap.lt_size ho)
  have fl : (items.toList.take i).length = i := by rw [List.length_take, Array.length_toList]; omega
  unfold unpackItems
  refine wpAny_bind (m := notIterableAtAll (.ref l)) ?_
  unfold notIterableAtAll
  refine wpAny_bind (wpAny_specialOf hl.typeIs slot_list_iter.lookup (wpAny_pure ?_))
  rw [if_neg (by simp)]
  refine wpAny_bind (wpAny_holding (wpAny_pyIter_list hl ?_))
  refine wpAny_bind (wpAny_holding (kun_draw apart i 0 _ _ ⟨_, Heap.get?_push_size _ rfl, rfl, rfl⟩ (hl.push _) (by omega) fun h₁ at1 same => ?_))
  have there : h₁.IsList l items := (hl.push _).extBut same.extBut apart
  rw [Nat.zero_add] at at1
  obtain ⟨_, e1, _⟩ := id at1
  obtain ⟨_, e2, _⟩ := id there
  rw [List.drop_zero, if_neg (by rw [fl]; omega)]
  have keep : ∀ b o, s.heap.get? b = some o → h₁.get? b = some o := fun b o e => same.extBut b o (Nat.ne_of_lt (Heap.lt_size e)) (Heap.get?_push_of_some _ e)
  have none_ : s.heap.get? s.heap.objs.size = none := by
    cases e : s.heap.get? s.heap.objs.size with
    | none => rfl
    | some o => exact absurd (Heap.lt_size e) (Nat.lt_irrefl _)
  exact star_rest (s := s) (T := "list_iterator") hi hn hz (.inr (.inr (.inl rfl))) (Walks.list (A := A.in1) hh s.heap.objs.size l apart items) (fun j u st => st.1.typeIs) ⟨at1, there⟩ (Heap.lt_size e1) (Heap.lt_size e2) keep none_ hQ
end
end PySem.W
namespace PD
open PySem PySem.Spec PyProof.Rows L2
/-- targets with a star at i: the rest between is a new list -/
def gStarM (i n : Nat) (ts : List (D → M Unit)) : D → M Unit := fun d => match d with
  | .tup ds => if (decide (n ≤ ds.length + 1) && decide (ds.length ≤ 16384)) = true then gSeq ts (ds.take i ++ [.lst ((ds.drop i).take (ds.length + 1 - n))] ++ (ds.drop i).drop (ds.length + 1 - n)) else M.bad
  | .lst ds => if (decide (n ≤ ds.length + 1) && decide (ds.length ≤ 16384)) = true then gSeq ts (ds.take i ++ [.lst ((ds.drop i).take (ds.length + 1 - n))] ++ (ds.drop i).drop (ds.length + 1 - n)) else M.bad
  | _ => M.bad
/-- the targets without the star -/
def unstar : List Expr → List Expr
  | [] => []
  | .Starred e _ :: es => e :: unstar es
  | e :: es => e :: unstar es
def starAt : List Expr → Option Nat
  | [] => none
  | .Starred _ _ :: _ => some 0
  | _ :: es => (starAt es).map (· + 1)
section
variable {w : Wo} {X : Cx} {W : WX} {es : List Expr} {pos : Pos} {Fo : Addr → Prop} {σ : L2.St} {st : St} {β : List Addr} {G H : Hp}
theorem unstar_each {env : Env} : ∀ (es : List Expr), plainArgs (unstar es) = true → (assignEach es env).map (·.2) = (assignEach (unstar es) env).map (·.2)
  | [], _ => rfl
  | e :: es, h => by
    cases e with
    | Starred a p =>
      have h : (noStar a && plainArgs (unstar es)) = true := h
      rw [Bool.and_eq_true] at h
      show assign a env :: (assignEach es env).map (·.2) = (assignEach (a :: unstar es) env).map (·.2)
      rw [assign_plain h.1, unstar_each es h.2]
      rfl
    | _ => exact congrArg (List.cons _) (unstar_each es (Bool.and_eq_true_iff.mp (show (true && plainArgs (unstar es)) = true from h)).2)
theorem star_idx {env : Env} : ∀ (es : List Expr), (assignEach es env).findIdx? (·.1) = starAt es
  | [] => rfl
  | e :: es => by
    cases e with
    | Starred a p => show List.findIdx? _ ((true, assign a env) :: assignEach es env) = _; rw [List.findIdx?_cons]; rfl
    | _ => show List.findIdx? _ ((false, _) :: assignEach es env) = _; rw [List.findIdx?_cons, star_idx es]; rfl
theorem starAt_lt : ∀ {es : List Expr} {i : Nat}, starAt es = some i → i < es.length
  | [], i, h => by cases h
  | e :: es, i, h => by
    cases e with
    | Starred a p => cases h; exact Nat.succ_pos _
    | _ =>
      obtain ⟨j, h1, rfl⟩ := Option.map_eq_some_iff.mp (show (starAt es).map (· + 1) = some i from h)
      exact Nat.succ_lt_succ (starAt_lt h1)
theorem star_done {ts : List (D → M Unit)} {i n : Nat} {Q : L2.St → Hp → Prop} {pins : List (Addr × Obj)} {s : Shared} {ds : List D} {vs : List V} {its : List Value} (I : Inv X pins σ H s) (R : RS w Fo β G H σ st) (r : Reps w β G ds vs) (rv : Vals vs its)
    (hz : ds.length ≤ 16384) (h : PGs X (unstar es) (tGs w ts)) (hp : plainArgs (unstar es) = true) {h' : Heap} {tk : Nat} (keep : ∀ b o, s.heap.get? b = some o → h'.get? b = some o)
    (q : OutG w Fo β G H Q (gSeq ts (ds.take i ++ [.lst ((ds.drop i).take (ds.length + 1 - n))] ++ (ds.drop i).drop (ds.length + 1 - n)) st)) :
    wpAny (model X.prog X.w) X.A (assignInOrder ((assignEach es X.env).map (·.2)) (its.take i ++ [.ref h'.objs.size] ++ (its.drop i).drop (its.length + 1 - n))) (fun _ s' => ∃ σ' H', Inv X pins σ' H' s' ∧ Q σ' H') X.xe
      { s with heap := h'.push { cls := .type "list", data := .seq ((its.drop i).take (its.length + 1 - n)).toArray }, toks := tk } := by
  rw [unstar_each es hp]
  have I1 : Inv X pins σ H { s with heap := h', toks := tk } := I.kept (t' := tk) keep
  have hn : H h'.objs.size = none := I1.hok.fresh (Nat.le_refl _)
  have len : its.length = vs.length := rv.length.symm
  have len2 := r.len
  have sub : Vals ((vs.drop i).take (vs.length + 1 - n)) ((its.drop i).take (its.length + 1 - n)) := by rw [len]; exact (rv.drop i).take _
  have rsub : Reps w β G ((ds.drop i).take (ds.length + 1 - n)) ((vs.drop i).take (vs.length + 1 - n)) := by rw [len2]; exact (r.drop i).take _
  have small : ((vs.drop i).take (vs.length + 1 - n)).length ≤ sizeLine := by rw [List.length_take, List.length_drop, sizeLine_eq]; omega
  have I2 := I1.laid (a := h'.objs.size) (o := .lst ((vs.drop i).take (vs.length + 1 - n))) (h' := h'.push { cls := .type "list", data := .seq ((its.drop i).take (its.length + 1 - n)).toArray }) (t' := tk) (fun _ _ e => Heap.get?_push_of_some _ e) (Nat.le_refl _)
    ⟨small, _, 0, sub, Heap.get?_push_size _ rfl⟩
  have R1 := R.new (o := .lst ((vs.drop i).take (vs.length + 1 - n))) hn
  have R2 := R1.keep upd_same (R.nog hn) (R.notin hn) (R.noown hn) (R.nofo hn) (fun ps z => by cases z)
  have F2 : Fr Fo st β G H st β (upd G h'.objs.size (.lst ((vs.drop i).take (vs.length + 1 - n)))) (upd H h'.objs.size (.lst ((vs.drop i).take (vs.length + 1 - n)))) := (Fr.new R hn).trans (Fr.keep (R.nog hn))
  have mono : ∀ {a : List D} {b : List V}, Reps w β G a b → Reps w β (upd G h'.objs.size (.lst ((vs.drop i).take (vs.length + 1 - n)))) a b := fun z => Reps.mono F2.g (SubB.refl _) _ _ z
  refine h.run pins _ σ _ (vs.take i ++ [.ref h'.objs.size] ++ (vs.drop i).drop (vs.length + 1 - n)) _ Q I2 (((rv.take i).append (.cons (show RelV (V.ref h'.objs.size) (Value.ref h'.objs.size) from rfl) .nil)).append (by rw [len]; exact (rv.drop i).drop _)) ⟨Fo, β, _, st, _, R2, ?_, OutG.trans F2.s _ q⟩
  refine (mono (r.take i)).app (Reps.cons ?_ Reps.nil) |>.app (by rw [← len2]; exact mono ((r.drop i).drop _))
  unfold Rep
  refine ⟨by rw [← rsub.len]; exact small, h'.objs.size, _, rfl, upd_same, mono rsub⟩
theorem g_star {ts : List (D → M Unit)} {kk i : Nat} (hK : X.K = w.K) (hc : X.calm = true) (h : PGs X (unstar es) (tGs w ts)) (hp : plainArgs (unstar es) = true) (hs : starAt es = some i) : PG X (.Tuple es kk pos) (tG w (gStarM i es.length ts)) := by
  refine ⟨fun pins s σ H v u Q I rv q => ?_⟩
  obtain ⟨Fo, β, G, st, d, R, r, q⟩ := q
  have hh : X.A.handled = none := I.ok.hd hc
  have hi := starAt_lt hs
  rw [arm_assign_Tuple]
  refine wpAny_bind (wpAny_standAt ?_)
  unfold unpack
  rw [assign_len, star_idx es, hs]
  refine wpAny_bind (wpAny_holding ?_)
  unfold gStarM at q
  split at q
  · rename_i ds
    split at q
    · rename_i c
      simp only [Bool.and_eq_true, decide_eq_true_eq] at c
      unfold Rep at r
      obtain ⟨_, a, vs, rfl, ea, rr⟩ := r
      obtain rfl : u = Value.ref a := rv
      obtain ⟨its, rv, ht, hz⟩ := I.tuple (SqT.of (R.sub _ _ ea))
      have l1 : its.toArray.size = ds.length := by rw [List.size_toArray, ← rv.length, rr.len]
      refine PySem.W.star_tup ht hh hi (by rw [l1]; exact c.1) (by rw [l1]; exact c.2) fun h' tk keep => ?_
      have := star_done (es := es) (i := i) (n := es.length) (h' := h') (tk := tk) I R rr rv c.2 h hp keep q
      simpa using this
    · exact q.elim
  · rename_i ds
    split at q
    · rename_i c
      simp only [Bool.and_eq_true, decide_eq_true_eq] at c
      unfold Rep at r
      obtain ⟨_, a, vs, rfl, ea, rr⟩ := r
      obtain rfl : u = Value.ref a := rv
      obtain ⟨its, rv, ht, hz⟩ := I.list (SqL.of (R.sub _ _ ea))
      have l1 : its.toArray.size = ds.length := by rw [List.size_toArray, ← rv.length, rr.len]
      refine PySem.W.star_lst ht.isList hh hi (by rw [l1]; exact c.1) (by rw [l1]; exact c.2) fun h' tk keep => ?_
      have := star_done (es := es) (i := i) (n := es.length) (h' := h') (tk := tk) I R rr rv c.2 h hp keep q
      simpa using this
    · exact q.elim
  · exact q.elim
end
end PD

set_option autoImplicit false
namespace PD
open PySem PySem.Spec PyProof.Rows L2

/-! ### list(d.items()) -/
def listItemsM (x : DV) : M DV := fun st => match deref st x.1 with
  | .dct kvs => if (keyLens kvs && decide (kvs.length < 1000000)) = true then .ok (.lst (pairsD kvs), true) st else .bad
  | _ => .bad
section
variable {w : Wo} {g : Prg} {si : SI} {k : Nat} {X : Cx} {W : WX} {e : Expr} {m : M DV} {pos p apos cpos : Pos} {Fo : Addr → Prop} {σ : L2.St} {st : St} {β : List Addr} {G H H' : Hp}
/-- more is tracked -/
theorem RS.more (R : RS w Fo β G H σ st) (h : ∀ b o, H b = some o → H' b = some o) : RS w Fo β G H' σ st where
  len := R.len
  sub := fun a u e => h a u (R.sub a u e)
  val := R.val
  own := fun i d e => by
    obtain ⟨a, h1, h2, h3, h4⟩ := R.own i d e
    obtain ⟨u, hu⟩ := h4.there
    exact ⟨a, h1, h2, h3, h4.mono (SubH.refl _) (SubB.refl _) (by rw [hu]; exact h a u hu)⟩
  dis := R.dis
  sto := fun n d a h1 h2 => by
    obtain ⟨h3, h4⟩ := R.sto n d a h1 h2
    obtain ⟨u, hu⟩ := h4.there
    exact ⟨h3, h4.mono (SubH.refl _) (SubB.refl _) (by rw [hu]; exact h a u hu)⟩
  nd := R.nd
  fo := fun a ha => by
    obtain ⟨⟨u, hu⟩, h2⟩ := R.fo a ha
    exact ⟨⟨u, h a u hu⟩, h2⟩
  ft := fun a ha xs => by
    obtain ⟨⟨u, hu⟩, _⟩ := R.fo a ha
    rw [h a u hu, ← hu]
    exact R.ft a ha xs
  ln := R.ln
  tb := R.tb.ext h
  tq := R.tq
theorem Fr.more (R : RS w Fo β G H σ st) (h : ∀ b o, H b = some o → H' b = some o) : Fr Fo st β G H st β G H' :=
  ⟨SubH.refl _, SubB.refl _, fun a ha => by
    obtain ⟨⟨u, hu⟩, _⟩ := R.fo a ha
    rw [hu, h a u hu], fun _ b d h c => ⟨b, d, h, c⟩⟩
/-- several objects that no one holds join what does not change -/
theorem keep_all {f : Addr → HO} : ∀ (ts : List Addr) {G : Hp}, RS w Fo β G H σ st → (∀ t ∈ ts, H t = some (f t) ∧ t ∉ β ∧ NoOwn σ st t ∧ ¬ Fo t ∧ ∀ ps, f t ≠ .tbl ps) → ∃ G', SubH G G' ∧ RS w Fo β G' H σ st ∧ (∀ t ∈ ts, G' t = some (f t)) ∧ ∀ a, a ∉ ts → G' a = G a
  | [], G, R, _ => ⟨G, SubH.refl _, R, (fun t h => by cases h), fun _ _ => rfl⟩
  | t :: ts, G, R, h => by
    obtain ⟨h1, h2, h3, h4, h5⟩ := h t List.mem_cons_self
    cases e : G t with
    | some o =>
      have := R.sub t o e
      rw [h1] at this
      cases this
      obtain ⟨G', g1, g2, g3, g4⟩ := keep_all ts R fun t ht => h t (List.mem_cons_of_mem _ ht)
      refine ⟨G', g1, g2, fun a ha => ?_, fun a ha => g4 a fun z => ha (List.mem_cons_of_mem _ z)⟩
      rcases List.mem_cons.mp ha with rfl | ha
      · by_cases c : a ∈ ts
        · exact g3 a c
        · rw [g4 a c]; exact e
      · exact g3 a ha
    | none =>
      obtain ⟨G', g1, g2, g3, g4⟩ := keep_all ts (R.keep h1 e h2 h3 h4 h5) fun t ht => h t (List.mem_cons_of_mem _ ht)
      refine ⟨G', (SubH.new e).trans g1, g2, fun a ha => ?_, fun a ha => ?_⟩
      · by_cases c : a ∈ ts
        · exact g3 a c
        · rcases List.mem_cons.mp ha with rfl | ha
          · rw [g4 a c, upd_same]
          · exact absurd ha c
      · rw [g4 a fun z => ha (List.mem_cons_of_mem _ z), upd_ne fun z => ha (by rw [z]; exact List.mem_cons_self)]
theorem pairs_reps {f : Addr → HO} : ∀ {kvs : List (D × D)} {ks : List (Key × V)} {ts : List Addr} {G : Hp}, RepsK w β G kvs ks → (∀ kv ∈ kvs, ∀ x, kv.1 = .str x → x.length ≤ sizeLine) → Paired (fun (t : Addr) (q : Key × V) => G t = some (.tup [kV q.1, q.2])) ts ks → Reps w β G (pairsD kvs) (ts.map V.ref)
  | [], ks, ts, G, h, _, pr => by
    unfold RepsK at h
    subst h
    cases pr
    exact Reps.nil
  | (kd, d) :: kvs, ks, ts, G, h, hk, pr => by
    unfold RepsK at h
    obtain ⟨q, v, r, rfl, h1, h2, h3⟩ := h
    cases pr with
    | @cons t _ ts' _ a b =>
      refine Reps.cons ?_ (pairs_reps (f := f) h3 (fun kv hkv => hk kv (List.mem_cons_of_mem _ hkv)) b)
      have key : Rep w β G kd (kV q) := by
        cases kd with
        | int i => cases h1; exact rep_int
        | str x => cases h1; exact rep_str (hk _ List.mem_cons_self x rfl)
        | _ => cases h1
      unfold Rep
      exact ⟨by show 2 ≤ sizeLine; decide, t, _, rfl, a, Reps.cons key (Reps.cons h2 Reps.nil)⟩
theorem d_listItems (C : Cok2 w g W k si X) (he : PE X e (tD w W m)) (hn : noSup e = true) (hl : (apos.endLine == cpos.line) = true) (hg : Gl X "list") (hm : X.mg "list" = none) :
    PE X (.Call (.Name "list" p) [.Call (.Attribute e "items" apos) [] [] cpos] [] pos) (tD w W (m.bind listItemsM)) := by
  have hv : bootBuiltins "list" = some (.type "list") := by decide +kernel
  have st1 : starEach [.Call (.Attribute e "items" apos) [] [] cpos] X.env = (false, eval (.Call (.Attribute e "items" apos) [] [] cpos) X.env) :: starEach [] X.env := rfl
  refine ⟨fun pins s σ H Q I hq => ?_⟩
  refine wpAny_Call_Name_kw (ld_blt I hg hm hv (PyProof.Rows.callWith_type1 ?_ st1 rfl))
  rw [st1]
  refine Calls.spliced_cons (wpAny_Call_method (T := "dict") (id := "dict.items") (noSup_ok hn) rfl hl F.plainAttrs_dict F.slot_dict_items F.type_dict_items (thn (he.run pins s σ H (fun x H1 => ∃ (d : Addr) (ks : List (Key × V)), x = .ref d ∧ Rd H1 d (.dK ks) ∧
    ∀ (H' : Hp) (p : Addr) (ts : List Addr), (∀ b o, H1 b = some o → H' b = some o) → H1 p = none → (∀ t ∈ ts, H1 t = none) → p ∉ ts → H' p = some (.lst (ts.map V.ref)) → Paired (fun (t : Addr) (q : Key × V) => H' t = some (.tup [kV q.1, q.2])) ts ks → Q (.ref p) H') I
    (tD_bind hq fun Fo d f v st β G H1 R V q => ?_)) fun u s1 ⟨x, H1, I1, rx, d, ks, ex, hd, q⟩ => ?_))
  · have hh := V.held R
    unfold listItemsM at q
    split at q
    · rename_i kvs ed
      simp only at ed
      rw [ed] at hh
      split at q
      · rename_i c
        simp only [Bool.and_eq_true, decide_eq_true_eq] at c
        obtain ⟨_, a, ks, rfl, er, rk⟩ := hh.dct R.sub
        refine ⟨a, ks, rfl, er, fun H' p ts h1 h2 h3 h4 h5 h6 => ?_⟩
        have R1 := R.more h1
        have F1 := Fr.more R h1
        have tt : ∀ t ∈ ts, ∃ q : Key × L2.V, H' t = some (.tup [kV q.1, q.2]) := by
          clear q rk er hh h5 R1 F1
          induction h6 with
          | nil => intro t h; cases h
          | cons a b ih =>
            intro t h
            rcases List.mem_cons.mp h with rfl | h
            · exact ⟨_, a⟩
            · exact ih (fun t ht => h3 t (List.mem_cons_of_mem _ ht)) (fun z => h4 (List.mem_cons_of_mem _ z)) t h
        obtain ⟨G', g1, R2, g3, g4⟩ := keep_all (f := fun t => (H' t).getD (.tup [])) ts R1 fun t ht => by
          obtain ⟨q, e⟩ := tt t ht
          exact ⟨by rw [e]; rfl, R.notin (h3 t ht), R.noown (h3 t ht), R.nofo (h3 t ht), fun ps z => by
            have z : (H' t).getD (.tup []) = .tbl ps := z
            rw [e] at z; cases z⟩
        have pr : Paired (fun (t : Addr) (q : Key × L2.V) => G' t = some (.tup [kV q.1, q.2])) ts ks := by
          have key : ∀ t ∈ ts, ∀ q : Key × L2.V, H' t = some (.tup [kV q.1, q.2]) → G' t = some (.tup [kV q.1, q.2]) := fun t ht q e => by rw [g3 t ht, e]; rfl
          clear g3 g4 q rk er hh h5 tt h3 h4
          induction h6 with
          | nil => exact .nil
          | cons a b ih => exact .cons (key _ List.mem_cons_self _ a) (ih fun t ht => key t (List.mem_cons_of_mem _ ht))
        have rp := pairs_reps (f := fun _ => .tup []) (RepsK.mono g1 (SubB.refl _) kvs ks rk) (keyLens_ok c.1) pr
        have gp : G' p = none := by rw [g4 p h4]; exact R.nog h2
        refine q (.ref p) β G' H' (F1.trans ⟨g1, SubB.refl _, fun _ _ => rfl, fun _ b d h c => ⟨b, d, h, c⟩⟩) R2 (RepV.fresh gp (R.notin h2) (R.noown h2) (R.nofo h2) ⟨?_, _, h5, rp⟩)
        unfold pairsD
        rw [List.length_map, sizeLine_eq]; omega
      · exact q.elim
    · exact q.elim
  · subst ex
    obtain rfl : u = Value.ref d := rx
    obtain ⟨hz, hs0, vs, kv, hdo⟩ := dk_rd I1.hok hd
    obtain ⟨ep, hat⟩ := hdo.dictAt
    have lk : ks.length = vs.length := Paired.length kv
    have I2 : Inv X pins σ H1 { s1 with heap := s1.heap.push { cls := .type "dict_items", data := .fields #[.ref d] } } := I1.kept (t' := s1.toks) fun b ob q => Heap.get?_push_of_some _ q
    refine ⟨hdo.typeIs, hdo.mapOf.noDict, method_meetsIn F.slot_dict_items F.entry_dict_items rfl (PySem.evalArgs_none ⟨rfl, hdo.typeIs, F.args_dict_items_1 _, _, meets_dict_items (mixKind X.prog X.w) d hs0, ⟨vs, hdo⟩, Calls.spliced_nil ?_⟩)⟩
    refine PySem.W.kdx_call (knd := mixKind X.prog X.w) (kvs := vs) (ep := ep) (I1.ok.hd C.calm) ⟨_, Heap.get?_push_size _ rfl, rfl, rfl⟩ (hat.push _) (by omega) fun h' tk acc c as hk hS hl hG hacc => ?_
    obtain ⟨H', k1, k2, k3, k4, k5, k6, J⟩ := LiI.items_laid (tk := tk) I2 hz kv hk hS hl hG hacc
    exact ⟨.ref _, H', J, rfl, q H' _ as k1 k2 k3 k4 k5 k6⟩
end
end PD

set_option autoImplicit false
namespace PD
open PySem PySem.Spec PyProof.Rows L2

/-! ### a dict of the module with text keys -/
structure GdOk (gd : Str → Option (List (Str × D))) (w : Wo) (wd : World) : Prop where
  ok : ∀ c kvs, gd c = some kvs → ∃ es n, KDict w.K wd (w.ca c) es n ∧ ∀ z d, kvs.lookup z = some d → ∃ u v, PySem.W.nsIn w.K (w.ca c) z = some (some u) ∧ RelV v u ∧ ∀ β G, Rep w β G d v
def kgetM (kvs : List (Str × D)) (args : List D) : M DV := fun st => match args with
  | [.str z, _] => (match kvs.lookup z with
    | some d => .ok (d, false) st
    | none => .bad)
  | _ => .bad
def getDM (gd : Str → Option (List (Str × D))) (m : M DV) (ms : M (List D)) : M DV := m.bind fun x st => match deref st x.1 with
  | .glo c => (match gd c with
    | some kvs => (ms.bind fun ds => (frzL ds).bind fun ds' => kgetM kvs ds') st
    | none => .bad)
  | _ => if isDict st x.1 = true then (ms.bind fun ds => (frzL ds).bind fun ds' => getM x.1 ds') st else .bad
section
variable {w : Wo} {g : Prg} {si : SI} {k : Nat} {X : Cx} {W : WX} {a b e o : Expr} {es : List Expr} {ma mb m : M DV} {ms : M (List D)} {pos apos cpos : Pos} {Fo : Addr → Prop} {σ : L2.St} {st st1 : St} {β β1 : List Addr} {G H G1 H1 : Hp} {call : Str → List D → List D → Rf}
theorem frzL_args {kk : List D → M DV} {Q : VK} {R : List V → Hp → Prop} (RS0 : RS w Fo β G H σ st) (h : Out w W Fo σ st β G H Q ((ms.bind fun ds => (frzL ds).bind kk) st))
    (hk : ∀ (ds : List D) (vs : List V) (st' : St) (β' : List Addr) (G' H' : Hp), RS w Fo β' G' H' σ st' → Reps w β' G' ds vs → Out w W Fo σ st' β' G' H' Q (kk ds st') → R vs H') : tA w W ms σ H R := by
  refine tA_bind2 RS0 h fun ds vs st' β' G' H' F' R' A' h' => ?_
  obtain ⟨ds', st2, G2, e2, F2, R2, q2, l2⟩ := frzL_ok R' A'
  refine hk ds' vs st2 β' G2 H' R2 q2 ?_
  have : ((frzL ds).bind kk) st' = kk ds' st2 := by simp only [M.bind, e2]
  rw [this] at h'
  exact Out.trans F2 _ h'
theorem d_getD {gd : Str → Option (List (Str × D))} (GO : GdOk gd w g.wd) (C : Cok2 w g W k si X) (ho : PE X o (tD w W m)) (ha : PA X (e :: es) (tA w W ms)) (hn : noSup o = true) (hl : (apos.endLine == cpos.line) = true)
    (hp : plainArgs (e :: es) = true) (hlen : (e :: es).length < 30) :
    PE X (.Call (.Attribute o "get" apos) (e :: es) [] cpos) (tD w W (getDM gd m ms)) := by
  have hs : starEach (e :: es) X.env = (false, eval e X.env) :: starEach es X.env := starEach_plain (noStar_ne (by have := hp; unfold plainArgs at this; rw [List.all_cons, Bool.and_eq_true] at this; exact this.1))
  have hplain : (backTo cpos (starEach es X.env)).any (·.1) = false := back_any (by have := hp; unfold plainArgs at this ⊢; rw [List.all_cons, Bool.and_eq_true] at this; exact this.2)
  have hu : X.A.units + 1 < cLine := by have := C.hu; omega
  refine ⟨fun pins s σ H Q I h => ?_⟩
  refine wpAny_Call_method_late (noSup_ok hn) (by
      rw [back_all hp]
      simp only [keywordEach, backToKw, List.map_nil, List.all_nil, Bool.and_true, Bool.true_and, decide_eq_true_eq, List.length_nil, List.isEmpty_nil, if_true, Nat.add_zero]
      exact hlen) hl rfl (thn (ho.run pins s σ H (fun v H1 => ∃ r a, v = .ref a ∧ (∀ s1, Inv X pins σ H1 s1 → s1.TypeIs (.ref a) "dict" ∧ (∀ b, Value.ref a = .ref b → ∃ ob, s1.heap.get? b = some ob ∧ ob.dict = none)) ∧ MtR X "dict.get" r ∧ tA w W ms σ H1 fun xs H2 => r v xs H2 Q) I (tD_bind h fun Fo d f' v st β G H1 R V1 q => ?_)) fun u s1 ⟨x, H1, I1, rx, r, a, ex, q1, q2, q3⟩ => ?_)
  · have hh := V1.held R
    split at q
    · rename_i c e
      simp only at e
      rw [e] at hh
      have := glo_held hh
      subst this
      split at q
      · rename_i kvs hg
        obtain ⟨esd, n, KD, hv⟩ := GO.ok c kvs hg
        have KD' : KDict X.K X.w (w.ca c) esd n := by rw [C.K, C.wd]; exact KD
        refine ⟨fun x xs H Q => ∃ z zz u v, x = .ref (w.ca c) ∧ xs = [.str z, zz] ∧ PySem.W.nsIn X.K (w.ca c) z = some (some u) ∧ RelV v u ∧ Q v H, w.ca c, rfl, fun s1 I1 => ⟨kd_type KD' I1, fun b q => ?_⟩, ?_, ?_⟩
        · cases q
          exact ⟨_, I1.kIn _ _ KD'.at_, rfl⟩
        · intro pins s σ H x xs v us Q I rx rv h
          obtain ⟨z, zz, u, v', rfl, rfl, h1, h2, h3⟩ := h
          cases rx
          obtain ⟨u1, u2, rfl, r1, r2⟩ := rv.two
          obtain ⟨t, rfl⟩ := r1
          have M := PySem.W.mapOf_K (prog := X.prog) (w := X.w) I.kIn KD'.at_ KD'.lit
          refine call_meetsIn PySem.F.slot_dict_get M.typeIs PySem.F.entry_dict_get (PySem.F.args_dict_get_3 _ _ _) (meets_dict_get_default (strKind X.prog X.w) _ (PySem.strKind_is X.prog X.w z t) KD'.low u2) ⟨_, M, ?_⟩
          rw [PySem.W.find_K KD'.at_ h1]
          exact ⟨v', H, I.tok _, h2, h3⟩
        · refine frzL_args R q fun ds vs st' β' G' H' R' rr q' => ?_
          unfold kgetM at q'
          split at q'
          · rename_i z zz
            obtain ⟨v1, v2, rfl, r1, r2⟩ := reps2 rr
            unfold Rep at r1
            obtain ⟨rfl, _⟩ := r1
            split at q'
            · rename_i d0 hd
              obtain ⟨u0, v0, k1, k2, k3⟩ := hv z d0 hd
              exact ⟨z, v2, u0, v0, rfl, rfl, by rw [C.K]; exact k1, k2, q' v0 β' G' H' Fr.refl R' (RepV.val (k3 β' G'))⟩
            · exact q'.elim
          · exact q'.elim
      · exact q.elim
    · by_cases c : isDict st d = true
      · simp only [c, if_true] at q
        obtain ⟨a, rfl, hd⟩ := isDict_ok R V1 c
        exact ⟨_, a, rfl, fun s1 I1 => ⟨(isD_at I1 hd).1, (isD_at I1 hd).2.1⟩, mt_dget2 hu, meth_args R V1 q fun ds vs st' β' G' H' R' V' r' q' => get_ok W Fo σ st' β' G' H' Q d f' _ ds vs R' V' r' q'⟩
      · simp only [c, if_false] at q
        exact q.elim
  · subst ex
    obtain rfl : u = Value.ref a := rx
    obtain ⟨h1, h2⟩ := q1 s1 I1
    refine ⟨"dict", "dict.get", PySem.F.plainAttrs_dict, PySem.F.slot_dict_get, PySem.F.type_dict_get, h1, h2, ?_⟩
    have hA := ha.run cpos pins s1 σ H1 _ I1 q3
    rw [hs] at hA ⊢
    refine Calls.callWith_builtin (by show (false || (backTo cpos (starEach es X.env)).any (·.1)) = false; rw [hplain] <;> rfl) (Calls.evalArgs_plain ?_)
    exact thn hA fun us s2 ⟨vs, H2, I2, r2, q⟩ => q2 pins s2 σ H2 (.ref a) vs (.ref a) us Q I2 rfl r2 q
/-! ### x(..), x a name of the def that holds a class -/
def newLM (ct : ClT) (call : Str → List D → List D → Rf) (m : M DV) (n : Nat) (ks : List Str) (ms mk : M (List D)) : M DV := m.bind fun x st => match deref st x.1 with
  | .glo c => (match ct.made c with
    | some (q, fi, al) => (match fi.bind (n + 1) ks with
      | some how => newM al c n ks.length ms mk (fun ds kds S => call q (pickD how ds kds fi.dds) S) st
      | none => .bad)
    | none => .bad)
  | _ => .bad
theorem d_newL {ct : ClT} {x : Str} {p : Pos} {args : List Expr} {kws : List Keyword} {mk : M (List D)} (CO : ClsOk ct w g k call) (C : Cok2 w g W k si X) (hx : PE X (.Name x p) (tD w W m)) (ha : PA X args (tA w W ms)) (hkw : PK X kws (tA w W mk)) (hms : args = [] → ms = argsNil)
    (hp : plainArgs args = true) (hk : kwAll kws = true) : PE X (.Call (.Name x p) args kws pos) (tD w W (newLM ct call m args.length (kwNames kws) ms mk)) := by
  refine ⟨fun pins s σ H Q I h => ?_⟩
  refine wpAny_Call_Name_kw (thn (hx.run pins s σ H (fun v H1 => ∀ u s1, Inv X pins σ H1 s1 → RelV v u → wpAny (model X.prog X.w) X.A (callWith pos u [] (backTo pos (starEach args X.env)) (backToKw pos (keywordEach kws X.env))) (EP X pins σ Q) X.xe s1) I (tD_bind h fun Fo d f' v st β G H1 R V1 q => ?_)) fun u s1 ⟨x, H1, I1, rx, q⟩ => q u s1 I1 rx)
  intro u s1 I1 rv
  have hh := V1.held R
  split at q
  · rename_i c e
    simp only at e
    rw [e] at hh
    have := glo_held hh
    subst this
    obtain rfl : u = Value.ref (w.ca c) := rv
    split at q
    · rename_i qn fi al hm
      split at q
      · rename_i how e2
        obtain ⟨fa, hM, hF⟩ := CO.made c qn fi al hm
        have F' : FnC X.prog X.w X.K X.mg X.base k fa (args.length + 1) (kwNames kws) (spC w fun ds kds S => call qn (pickD how ds kds fi.dds) S) := by
          rw [C.P, C.wd, C.K, C.mg, C.base]; exact hF _ _ _ e2
        exact new_run C (by rw [C.K]; exact hM) F' ha hkw (back_any hp) hk hms R q I1
      · exact q.elim
    · exact q.elim
  · exact q.elim
/-! ### C.m( *y), m a classmethod -/
def methSM (ct : ClT) (call : Str → List D → List D → Rf) (m : M DV) (name : Str) (me : M DV) : M DV := m.bind fun x st => match deref st x.1 with
  | .glo c => (match ct.cm c name with
    | some (true, q, fi) => (argsStar me argsNil).bind (fun ds => match fi.bind (ds.length + 1) [] with
      | some how => callF (ds.length + 1) 0 (fun ds kds S => call q (pickD how ds kds fi.dds) S) (.glo c :: ds) []
      | none => M.bad) st
    | _ => .bad)
  | _ => .bad
theorem lone_ok {Q' : List Value → Shared → Prop} {R : List V → Hp → Prop} (hK : X.K = w.K) (he : PE X e (tD w W m)) {pins : List (Addr × Obj)} {s : Shared} (I : Inv X pins σ H s) (h : tA w W (argsStar m argsNil) σ H R) (hq : ∀ us vs H2 s2, Inv X pins σ H2 s2 → Vals vs us → R vs H2 → Q' us s2) :
    wpAny (model X.prog X.w) X.A (eval e X.env) (fun v s1 => PySem.W.StarOf (model X.prog X.w) X.A X.xe v Q' s1) X.xe s := by
  refine thn (he.run pins s σ H (fun v H1 => ∃ p xs, v = V.ref p ∧ (SqT X.K H1 p xs ∨ SqL X.K H1 p xs) ∧ R xs H1) I ?_) fun u s1 ⟨v, H1, I1, ru, p, xs, ev, hx, q⟩ => ?_
  · obtain ⟨Fo, β, G, st, R0, q⟩ := h
    refine ⟨Fo, β, G, st, R0, ?_⟩
    unfold argsStar M.bind at q
    cases e1 : m st with
    | ok x st1 =>
      obtain ⟨d, f⟩ := x
      simp only [e1] at q
      intro v β1 G1 H1 F1 R1 V1
      cases e2 : seqOf st1 d with
      | none => simp only [e2] at q; exact q.elim
      | some ds =>
        simp only [e2] at q
        obtain ⟨_, a, vs, rfl, hq, r⟩ := seqOf_ok R1 V1 e2
        refine ⟨a, vs, rfl, by rw [hK]; exact hq.symm, ?_⟩
        exact q vs β1 G1 H1 F1 R1 (by rw [List.append_nil]; exact RepAs.of r)
    | exc c fs st1 => simp only [e1] at q; exact q
    | bad => simp only [e1] at q; exact q.elim
  · subst ev
    obtain rfl : u = Value.ref p := ru
    exact StX.star_any I1 hx fun us s2 I2 rv => hq us xs H1 s2 I2 rv q
theorem d_methS {ct : ClT} {mn : Str} {p : Pos} {me : M DV} (CO : ClsOk ct w g k call) (C : Cok2 w g W k si X) (ho : PE X o (tD w W m)) (he : PE X e (tD w W me)) (hn : noSup o = true) :
    PE X (.Call (.Attribute o mn apos) [.Starred e p] [] pos) (tD w W (methSM ct call m mn me)) := by
  refine ⟨fun pins s σ H Q I h => ?_⟩
  refine starcall_of (noSup_ok hn) (thn (ho.run pins s σ H (fun v H1 => ∀ u s1, Inv X pins σ H1 s1 → RelV v u → wpAny (model X.prog X.w) X.A (getAttr u mn true) (fun f s₂ => wpAny (model X.prog X.w) X.A (callWith pos f [] (backTo pos [(true, eval e X.env)]) []) (EP X pins σ Q) X.xe s₂) X.xe s1) I (tD_bind h fun Fo d f' v st β G H1 R V1 q => ?_)) fun u s1 ⟨x, H1, I1, rx, q⟩ => q u s1 I1 rx)
  intro u s1 I1 rv
  have hh := V1.held R
  split at q
  · rename_i c e
    simp only at e
    rw [e] at hh
    have := glo_held hh
    subst this
    obtain rfl : u = Value.ref (w.ca c) := rv
    split at q
    · rename_i qn fi hcm
      obtain ⟨fa, ⟨mc, pp, h1, h2⟩, hF⟩ := CO.cm c mn true qn fi hcm
      have h2' : ClX.CMet X.K (w.ca c) mc mn pp fa := by rw [C.K]; exact h2
      refine ClX.getcmet_ok I1 (by rw [C.K]; exact h1) h2' fun s2 I2 => ?_
      refine PySem.W.ks_call (P := PySem.W.MethP X.K _ fa (.ref (w.ca c))) rfl (PySem.W.keeps_M h2'.fi) (PySem.W.ks_lone ?_)
      refine lone_ok (R := fun vs H2 => ∃ how, fi.bind (vs.length + 1) [] = some how ∧ spC w (fun ds kds S => call qn (pickD how ds kds fi.dds) S) (.ref (w.ca c) :: vs) [] H2 Q (fun cls d H' => W cls d σ H')) C.K he I2 ?_ fun us vs H2 s3 I3 rv ⟨how, e2, q2⟩ => ⟨⟨ClX.pin_at I3, I3.kIn⟩, ?_⟩
      · refine tA_bind2 R q fun ds vs st1 β1 G1 H1 F1 R1 A1 q1 => ?_
        have l := A1.len
        cases e2 : fi.bind (ds.length + 1) [] with
        | some how =>
          rw [e2] at q1
          have A : RepAs w σ st1 β1 G1 (.glo c :: ds) (.ref (w.ca c) :: vs) := ⟨_, vs, rfl, repA_of (by unfold Rep; rfl), A1⟩
          exact ⟨how, by rw [l]; exact e2, (callF_ok (kvs := []) (kds := []) R1 A rfl q1).2.2⟩
        | none => rw [e2] at q1; exact q1.elim
      · have F' : FnC X.prog X.w X.K X.mg X.base k fa (vs.length + 1) [] (spC w fun ds kds S => call qn (pickD how ds kds fi.dds) S) := by
          rw [C.P, C.wd, C.K, C.mg, C.base]; exact hF _ _ _ e2
        exact run_cmC C F' I3 rv rfl q2
    · exact q.elim
  · exact q.elim
end
end PD

set_option autoImplicit false
namespace PD
open PySem PySem.Spec PyProof.Rows L2

/-! ### def f(a, .., *v) -/
theorem starHow_get {us kus dfs : List D} : ∀ {m : Nat}, m ≤ us.length → pickD (starHow m) us kus dfs = us.take m ++ [.tup (us.drop m)] := by
  intro m hm
  have key : ∀ (j : Nat), j ≤ us.length → ((List.range j).map Src.pos).filterMap (Src.getD us kus dfs) = us.take j := by
    intro j
    induction j with
    | zero => intro _; rfl
    | succ j ih =>
      intro hj
      have h1 : us[j]? = some us[j] := List.getElem?_eq_getElem (by omega)
      rw [List.range_succ, List.map_append, List.filterMap_append, ih (by omega), List.take_succ]
      rw [h1]
      show _ ++ List.filterMap (Src.getD us kus dfs) [Src.pos j] = _
      have h2 : Src.getD us kus dfs (Src.pos j) = us[j]? := rfl
      rw [List.filterMap_cons, h2, h1]
      rfl
  unfold pickD starHow
  rw [List.filterMap_append, key m hm]
  rfl
section
variable {w : Wo} {Fo : Addr → Prop} {σ : L2.St} {st : St} {β : List Addr} {G H : Hp}
theorem OutF.trans {β1 : List Addr} {G1 H1 : Hp} {Q : VK} {E : XK} (F : FrS Fo β G H β1 G1 H1) : ∀ (r : Rf), OutF w Fo β G H Q E r → OutF w Fo β1 G1 H1 Q E r
  | .ok (d, f) S, h => fun v β' G' H' F' R' V' => h v β' G' H' (F.trans F') R' V'
  | .exc c fs S, h => fun β' G' H' dx gs F' R' e r => h β' G' H' dx gs (F.trans F') R' e r
  | .bad, h => h
theorem Reps.td {ds : List D} {vs : List V} (h : Reps w β G ds vs) : ∀ (m : Nat), Reps w β G (ds.take m) (vs.take m) ∧ Reps w β G (ds.drop m) (vs.drop m) := by
  induction ds generalizing vs with
  | nil =>
    intro m
    have h : vs = [] := by unfold Reps at h; exact h
    subst h
    simp only [List.take_nil, List.drop_nil]
    exact ⟨Reps.nil, Reps.nil⟩
  | cons d r ih =>
    intro m
    have h0 := h
    unfold Reps at h
    obtain ⟨v, vr, rfl, h1, h2⟩ := h
    cases m with
    | zero => exact ⟨Reps.nil, h0⟩
    | succ m => exact ⟨Reps.cons h1 (ih h2 m).1, (ih h2 m).2⟩
theorem cxUpN {P : Program} {w : World} : StX.CXUp (L2N.CX P w) := fun outer s H s2 H2 E e s' un kp ho h => by
  obtain ⟨a, B, H', cls, d, ea, fl, hok, ub, na, os, ag, he⟩ := h
  have fr : ∀ {b : Addr} {o : Obj}, s.heap.get? b = some o → H b = none → H2 b = none := fun {b o} q n => un.free b o q n List.not_mem_nil
  exact ⟨a, B, H', cls, d, ea, fl, hok, {
    keep := fun b o q n => ub.keep b o (kp b o q) (fr q n)
    slot := fun b o q => ub.slot b o (kp b o q)
    free := fun b o q n => ub.free b o (kp b o q) (fr q n)
    there := fun b o q => ub.there b o (kp b o q)
    tups := fun b xs q => ub.tups b xs (un.tups b xs q)
    frzs := fun b o xs q => ub.frzs b o xs (un.frzs b o xs q)
    tbls := fun b ps q => by
      obtain ⟨m1, e1⟩ := un.tbls b ps q
      obtain ⟨m2, e2⟩ := ub.tbls b _ e1
      exact ⟨m1 ++ m2, by rw [e2, Array.append_assoc]⟩ }, na, os.trans ho, ag, he⟩
theorem fnC_star {P : Program} {wd : World} {K : PySem.W.Frag} {mg : Str → Option Value} {base : Heap} {x qual : Str} {params : Arguments} {body : List Stmt} {scope : Scope} {dvs : List V} {kws : List (Str × V)} {f : Addr} {fd : FuncData} {N ps : List Str} {pv : Str} {k : Nat} {m : MS} {dds : List D}
    (F : FunD K x qual params body scope dvs kws f fd) (S : FnScope N (ps ++ [pv]) scope)
    (hbd : ∀ us rest : List Value, us.length = ps.length → bindArgs fd ⟨us ++ rest, []⟩ = (newTuple rest >>= fun t => pure (ps.zip us ++ [(pv, t)])))
    (hb : ∀ (cdv : Value) (A : Around) (outer : List Env) (s : Shared) (H : Hp) (E : XK), Room k (A.deeper (envOfC qual scope s.heap.objs.size f cdv)) →
      PSs (cxOf (L2N.CX P wd) P wd K mg base N qual scope f cdv A outer s H E) body (tS w (fun cls d _ H => E cls d H) m)) {n : Nat} (h1 : ps.length ≤ n) (h2 : n ≤ sizeLine) :
    FnC P wd K mg base (k + 1) f n [] (spC w fun ds kds S => runF N.length m (pickD (starHow ps.length) ds kds dds) S) where
  kp := F.kp
  run := fun A outer s H us kus vs kvs Q E hr e0 r1 l1 r2 l2 q => by
    obtain ⟨oc, od, dV, kV, doc, pm, an, cdv, ct, osl, rfl, lk, hcd, _, _⟩ := F.ex
    have ek : kvs = [] := List.length_eq_zero_iff.mp l2
    subst ek
    have eu : kus = [] := by cases r2; rfl
    subst eu
    refine StX.fn_star (CX := L2N.CX P wd) (sp := spF w (ps ++ [pv]).length (runF N.length m)) lk hcd S cxUpN hbd (fun A outer s H vs Q E hr h => ⟨_, hb cdv A outer s H E hr, body_out h⟩) A outer s H us vs Q E hr e0 r1 ?_
    obtain ⟨Fo, β, G, S0, ds, kds, R, q1, q2, q3⟩ := q
    have ld : ds.length = n := by rw [← l1, q1.len]
    obtain ⟨t1, t2⟩ := q1.td ps.length
    refine ⟨vs.take ps.length, vs.drop ps.length, (List.take_append_drop ..).symm, by rw [List.length_take, l1]; omega, by rw [List.length_drop, l1]; omega, fun p hp => ?_⟩
    have hG : G p = none := R.nog hp
    have R1 : RS w Fo β G (upd H p (.tup (vs.drop ps.length))) [] ⟨[], S0⟩ := R.new hp
    have R2 := R1.keep upd_same hG (R.notin hp) (R.noown hp) (R.nofo hp) (fun ps z => by cases z)
    have F1 : FrS Fo β G H β (upd G p (.tup (vs.drop ps.length))) (upd H p (.tup (vs.drop ps.length))) := (Fr.new R hp).s.trans (Fr.keep (Fo := Fo) (st := ⟨[], S0⟩) hG).s
    refine ⟨by simp only [List.length_append, List.length_take, l1, List.length_cons, List.length_nil]; omega, Fo, β, _, S0, ds.take ps.length ++ [.tup (ds.drop ps.length)], R2, ?_, ?_⟩
    · refine Reps.app (Reps.mono F1.g F1.b _ _ t1) (Reps.cons ?_ Reps.nil)
      unfold Rep
      exact ⟨by rw [List.length_drop]; omega, p, _, rfl, upd_same, Reps.mono F1.g F1.b _ _ t2⟩
    · simp only [starHow_get (show ps.length ≤ ds.length by omega)] at q3
      exact OutF.trans F1 _ q3
end
end PD

set_option autoImplicit false
namespace PD
open PySem PySem.Spec PyProof.Rows L2
/-! ### super().__init__ of an error's class -/
section
open PySem.W PySem.Calls
variable {prog : Program} {w : World} {A : Around} {E : Value → Shared → Prop} {h : Heap} {g : Array GenState} {d : Drawn} {t : Nat} {os : OsState}
variable {nm q : Str} {C N : Addr} {bs bm bmB : List Value} {hdct : Bool} {sn : List Str} {sub : List Value} {ab : Bool} {col : Option Bool} {dd : Option Addr} {k0 k1 k2 k3 k5 : Option Value} {B newId i : String}
theorem call_mw {u x t0 : Addr} {dv : Option Addr} {c2 : Value} {rest : List Value} {Q : Value → Shared → Prop} (FB : ExcBaseFacts B newId i bmB)
    (hC : h.get? C = some (excClassObj nm q C N bs bm hdct sn sub ab col dd k0 k1 k2 k3 k5 newId)) (he : h.get? x = some (excObj C t0 dv c2)) (hu : h.get? u = some (kxs_mw i x)) (hz : rest.length ≤ sizeLine)
    (hq : ∀ h', (∀ b o, b ≠ x → h.get? b = some o → h'.get? b = some o) → h'.get? x = some (excObj C h.objs.size dv c2) → Q .none ⟨h', g, d, t, os⟩) :
    wpAny (model prog w) A (call (.ref u) rest) Q E ⟨h, g, d, t, os⟩ := by
  refine wpAny_call (codeAny_of_tree ?_)
  show wpAny _ A.in1 (callAny (.ref u) ⟨rest, []⟩) _ _ _
  simp only [callAny]
  refine wpAny_bind (wpAny_load hu ?_)
  have hb : (Value.type "method-wrapper" == Value.type "method" || Value.type "method-wrapper" == Value.type "builtin_function_or_method" || Value.type "method-wrapper" == Value.type "method-wrapper") = true := by decide
  simp only [kxs_mw, hb, if_true]
  refine KFB.if_so (by decide) ?_
  refine wpAny_bind (check_bound_init FB.toExcCallFacts hC he rfl ?_)
  refine wpAny_bind (wpAny_pure (wpAny_pure ?_))
  refine ⟨plainId_quiet FB.init.plain _, codeAny_builtin FB.initEntry ?_⟩
  exact exc_init_tree (cls := .ref C) (t0 := t0) (dv := dv) (c2 := c2) (c3 := .none) (b4 := .bool false) he hz fun h' k e' _ => hq h' k e'
end
end PD

set_option autoImplicit false
namespace PD
open PySem PySem.Spec PyProof.Rows L2
open PySem.W in
/-- what the written part says of an error's class: over the built-in class B, whose initializer is i -/
structure ErrC (K : PySem.W.Frag) (C : Addr) (B newId i : String) (bmB : List Value) : Prop where
  kf : KxsFacts B i
  fb : ExcBaseFacts B newId i bmB
  q : excInitIn K C bmB newId = true
  sup : ks_superIn K C C "__init__" = some (some (.builtin i))
  sB : subIn K (.ref C) (.type B) = some true
  cls : ∃ cd, clsIn K C = some cd
  sub : mroIn K C (.ref C) = some true
  op : nsIn K cStatics "thirdparty.any" = some none
section
variable {X : Cx} {pins : List (Addr × Obj)} {σ : L2.St} {H : Hp} {s : Shared}
theorem super_stmt {C a : Addr} {B newId i : String} {bmB : List Value} (T : ErrC X.K C B newId i bmB) {body : List Stmt} {e : Expr} {p0 p1 p2 p3 p4 : Pos} {f cc cl : Addr} {fd : FuncData} {ar : Arg} {vs : Array Value} {file : Str} {tf : Tok} {oc cv ccl : Value} {od ccd cld : Option Addr} {osl ccs csl : Array (Option Value)} {ta : TA} {pl : Sem Bool}
    (hks : Gl X "super") (hm : X.mg ("super" : Str) = none) (hb : bootBuiltins "super" = some (.type "super")) (hkc : X.env.kindOf "__class__" = some .free) (hfu : X.env.func = some f) (hf : X.K.lookup f = some ⟨oc, od, .func fd, osl⟩)
    (hp : (fd.params.posonlyargs ++ fd.params.args).head? = some ar) (hco : X.env.code = .ref cc) (hcc : X.K.lookup cc = some ⟨cv, ccd, .fields vs, ccs⟩) (hvs : vs[2]? = some (.str file tf))
    (hfile : ((X.prog.main.file : Str) == file) = true) (htop : (X.prog.main.scope.names.lookup ("super" : Str)).isSome = false)
    (hcl : X.env.cells.lookup ("__class__" : Str) = some cl) (hcell : X.K.lookup cl = some ⟨ccl, cld, .cell (some (.ref C)), csl⟩)
    (hN : X.N[0]? = some ar.arg) (hl : X.env.kindOf ar.arg = some .local) (hσ : σ[0]? = some (some (.ref a)))
    (I : Inv X pins σ H s) (ea : H a = some (exo a C none)) (ha : PA X [e] ta) (hta : ∀ Q, (∀ v, Q [v] H) → ta σ H Q)
    (hi : interactive X.env = false := by rfl) (hsw : swapsWith (.Call (.Attribute (.Call (.Name "super" p0) [] [] p1) "__init__" p2) [e] [] p3) none p4.line X.env = pure false := by rfl)
    (he : starEach [e] X.env = [(false, eval e X.env)] := by rfl)
    (hc : eval (.Call (.Attribute (.Call (.Name "super" p0) [] [] p1) "__init__" p2) [e] [] p3) X.env = (do
      let ov ← attributeBase (.Call (.Name "super" p0) [] [] p1) "__init__" X.env (eval (.Call (.Name "super" p0) [] [] p1) X.env)
      standAt p2.atName
      let (f, first) ← holding [ov] (getMethod ov "__init__" pl)
      callWith p3 f first (backTo p3 (starEach [e] X.env)) []) := by rfl) :
    PySem.wpAt (model X.prog X.w) X.A (.func body X.env) (exec (.Expr (.Call (.Attribute (.Call (.Name "super" p0) [] [] p1) "__init__" p2) [e] [] p3) p4) X.env) (fun fl s' => fl = .next ∧ Inv X pins σ H s') X.xe s := by
  refine ks_wpAt_Expr_any ?_ hi hsw
  refine ks_wpAt_MethodCall (pl := pl) ?_ hc
  obtain ⟨t1, ho⟩ := exo_at I.hok ea
  obtain ⟨cd, hcd⟩ := T.cls
  obtain ⟨oD, hD1, hD2⟩ : ∃ oD, s.heap.get? C = some oD ∧ oD.data = .cls cd := by
    unfold PySem.W.clsIn at hcd
    split at hcd
    · rename_i c d cd' sl ho
      cases hcd
      exact ⟨_, I.kIn _ _ ho, rfl⟩
    · cases hcd
  refine ks_wpAt_super_base (env := X.env) hks hkc (by decide) hfu (I.kIn _ _ hf) rfl hp hco (I.kIn _ _ hcc) rfl hvs hfile htop ?_
  obtain ⟨m, hns, hloc⟩ := id I.loc
  obtain ⟨mb, b1, b2⟩ := I.mod.blt
  refine PySem.W.ks_loadName_global I.ok.kind hks (Calls.loadGlobal_builtin (by rw [I.ok.glob]; exact I.mod.glob.keeps I.bk) hm (by rw [I.ok.blt]; exact b1.keeps I.bk) ((b2 _ (by decide)).trans hb) ⟨rfl, ?_⟩)
  refine wpAny_loadName_free I.ok.kind hkc hcl ⟨_, I.kIn _ _ hcell, rfl⟩ ?_
  obtain ⟨u0, ru, lu⟩ := hloc 0 ar.arg (.ref a) hN hσ (.inl hl)
  have eu : u0 = .ref a := ru
  subst eu
  have hma : m ar.arg = some (.ref a) := by
    rcases lu with ⟨_, h⟩ | ⟨h, _⟩
    · exact h
    · rcases h with h | h <;> rw [hl] at h <;> cases h
  refine wpAny_loadName_local I.ok.kind hl hns hma ?_
  obtain ⟨hp0, g, d, tk, os⟩ := s
  refine ks_wpAny_isType_cls hD1 hD2 ⟨rfl, ?_⟩
  refine ks_wpAny_call_super hD1 hD2 ho rfl (fun c e => by cases e) (PySem.W.looks_mroIn I.kIn T.sub) (fun h1 e1 k1 => ?_)
  have I1 := I.kept (t' := tk) k1
  have o1 := k1 _ _ ho
  have hmd := T.sup
  unfold PySem.W.ks_superIn at hmd
  rw [hcd] at hmd
  refine PySem.W.kxs_getMethod T.kf e1 (PySem.W.looks_opaque I1.kIn T.op) (l₀ := cd.mro) ?_ rfl I1.kIn hmd ?_ ?_ (by decide) ?_
  · exact fun A Q E s k q => wpAny_bind ((PySem.W.looks_clsIn I1.kIn hcd) A _ E s k (wpAny_pure q))
  · exact (PySem.W.InstAt.type (x := a) (od := none) ⟨o1, rfl, rfl, trivial⟩).andThen (PySem.W.looks_subIn I1.kIn T.sB)
  · exact PySem.W.ks_ne (ox := { cls := .ref C, dict := none, data := .fields #[.ref t1, .none, .none, .none, .bool false, .none] }) (odx := none) I1.kIn ⟨o1, rfl, rfl, trivial⟩ hcd
  have hu : (h1.push (PySem.W.kxs_mw i a)).get? h1.objs.size = some (PySem.W.kxs_mw i a) := Heap.get?_push_at rfl rfl
  have k2 : ∀ b o, h1.get? b = some o → (h1.push (PySem.W.kxs_mw i a)).get? b = some o := fun b o e => Heap.get?_push_of_some _ e
  have I2 := I1.kept (t' := tk + 1) k2
  have nu : H h1.objs.size = none := I1.hok.fresh (Nat.le_refl _)
  have I3 : Inv X ((h1.objs.size, PySem.W.kxs_mw i a) :: pins) σ H _ := I2.pins_of fun p hp => by
    rcases List.mem_cons.mp hp with rfl | hp
    · refine ⟨hu, nu, Nat.ne_of_gt I1.lt, fun z => ?_, fun v => by intro z; cases z⟩
      exact I1.nofs (Nat.le_refl _) z
    · exact I2.pin p (List.mem_append_right _ hp)
  rw [he]
  refine PySem.W.kxs_callWith (i := i) (x := a) rfl (PySem.Calls.evalArgs_plain ?_)
  have run := ha.run p3 _ _ σ H (fun vs H1 => ∃ v, vs = [v] ∧ H1 = H) I3 (hta _ fun v => ⟨v, rfl, rfl⟩)
  rw [he] at run
  refine wpAny_mono run (fun us s1 hx => ?_) fun _ _ z => z
  obtain ⟨ws, H1, I4, r4, v, rfl, rfl⟩ := hx
  have hu4 := (I4.pin _ (List.mem_append_right _ List.mem_cons_self)).1
  refine ⟨hu4, ?_⟩
  obtain ⟨nm, N', qn, bs, bm, hdct, sn, sub, ab, col, dd, k0, k1', k2', k3, k5, hC, hT⟩ := PySem.W.excInit_of I4.kIn T.q
  obtain ⟨t4, ho4⟩ := exo_at I4.hok ea
  have hlen : ([] ++ us).length ≤ sizeLine := by
    have := Paired.length r4
    simp only [List.nil_append, ← this]
    show 1 ≤ sizeLine
    decide
  obtain ⟨h4, g4, d4, tk4, os4⟩ := s1
  refine call_mw T.fb hC (dv := none) (c2 := .none) ho4 hu4 hlen fun h5 k5' e5 => ?_
  have J := I4.write (t' := tk4) (x := a) (e := a) (o := exo a C none) (by rw [ea]; exact True.intro) (.inl rfl) k5' ⟨_, e5⟩ (exo_ok e5)
  have eu : upd H1 a (exo a C none) = H1 := by
    funext b
    by_cases hb : b = a
    · rw [hb, upd_same, ea]
    · rw [upd_ne hb]
  rw [eu] at J
  exact ⟨rfl, J.pins_of fun p hp => J.pin p (List.mem_append_right _ (List.mem_cons_of_mem _ hp))⟩
end
end PD

set_option autoImplicit false
namespace PD
open PySem PySem.Spec PyProof.Rows L2
open NdefX (NScope ncx startF inv_startN CellsAt NF)
theorem exinit_ok {P : Program} {w : World} {K : PySem.W.Frag} {mg : Str → Option Value} {base : Heap} {CX : CXT} {k : Nat} {C f cc cl : Addr} {B newId i : String} {bmB : List Value} (T : ErrC K C B newId i bmB)
    {x qual : Str} {params : Arguments} {rest : List Stmt} {scope : Scope} {N ps : List Str} {z : Str} {j5 : Nat} {p0 p1 p2 p3 p4 p5 : Pos} {ar : Arg} {dV kV doc pm ct oc cv ccl : Value} {an od ccd cld : Option Addr} {osl ccs csl : Array (Option Value)} {vs : Array Value} {file : Str} {tf : Tok}
    (lk : K.lookup f = some ⟨oc, od, .func (PySem.W.fnX x qual params (.Expr (.Call (.Attribute (.Call (.Name "super" p0) [] [] p1) "__init__" p2) [.Constant (.str z) j5 p5] [] p3) p4 :: rest) scope [("__class__", cl)] dV kV doc pm an (.ref cc) ct), osl⟩)
    (hcd : PySem.W.codeIn K (.ref cc) qual = true) (S : NScope N ps ["__class__"] scope) (hcc : K.lookup cc = some ⟨cv, ccd, .fields vs, ccs⟩) (hvs : vs[2]? = some (.str file tf)) (hfile : ((P.main.file : Str) == file) = true) (htop : (P.main.scope.names.lookup ("super" : Str)).isSome = false)
    (hcell : K.lookup cl = some ⟨ccl, cld, .cell (some (.ref C)), csl⟩) (hsu : scope.names.lookup ("super" : Str) = some .globalImplicit) (hm : mg ("super" : Str) = none) (hb : bootBuiltins "super" = some (.type "super"))
    (hp : (params.posonlyargs ++ params.args).head? = some ar) (hps : ps.head? = some ar.arg) {pl : Sem Bool}
    (hc : ∀ env : Env, eval (.Call (.Attribute (.Call (.Name "super" p0) [] [] p1) "__init__" p2) [.Constant (.str z) j5 p5] [] p3) env = (do
      let ov ← attributeBase (.Call (.Name "super" p0) [] [] p1) "__init__" env (eval (.Call (.Name "super" p0) [] [] p1) env)
      standAt p2.atName
      let (f, first) ← holding [ov] (getMethod ov "__init__" pl)
      callWith p3 f first (backTo p3 (starEach [.Constant (.str z) j5 p5] env)) [])) {t : TS} (sp : Sp) (hlen : ∀ vs H Q E, sp vs H Q E → vs.length = ps.length) {ta : TA} (hta : ∀ σ H Q, (∀ v, Q [v] H) → ta σ H Q)
    (hpa : ∀ (A : Around) (outer : List Env) (s : Shared) (H : Hp) (E : XK), PA (ncx CX P w K mg base N ⟨x, qual, params, .Expr (.Call (.Attribute (.Call (.Name "super" p0) [] [] p1) "__init__" p2) [.Constant (.str z) j5 p5] [] p3) p4 :: rest, scope, [("__class__", cl)], cc⟩ f A outer s H E) [.Constant (.str z) j5 p5] ta)
    (hbody : ∀ (A : Around) (outer : List Env) (s : Shared) (H : Hp) (E : XK), PSs (ncx CX P w K mg base N ⟨x, qual, params, .Expr (.Call (.Attribute (.Call (.Name "super" p0) [] [] p1) "__init__" p2) [.Constant (.str z) j5 p5] [] p3) p4 :: rest, scope, [("__class__", cl)], cc⟩ f A outer s H E) rest t)
    (hsp : ∀ vs H Q E, sp vs H Q E → ∃ a vs', vs = .ref a :: vs' ∧ H a = some (exo a C none) ∧ t { nx := fun _ H' => Q .non H', rt := Q } (startF N vs [some (.ref C)]) H) :
    FnOk P w K mg base CX (k + 1) f (PySem.W.fnX x qual params (.Expr (.Call (.Attribute (.Call (.Name "super" p0) [] [] p1) "__init__" p2) [.Constant (.str z) j5 p5] [] p3) p4 :: rest) scope [("__class__", cl)] dV kV doc pm an (.ref cc) ct) ps sp := by
  refine ⟨hlen, fun A outer s H args us vs1 Q E hr e0 hbi r hs => ?_⟩
  have hl := hlen _ _ _ _ hs
  have kIn : K.In s.heap := e0.mod.kin.keeps fun b o e => (e0.bs b o e).1
  have lim : s.heap.NoLimit := e0.mod.nolimit.keeps fun b o e => (e0.bs b o e).1
  refine ks_codeAny_call_defAt (fd := PySem.W.fnX x qual params (.Expr (.Call (.Attribute (.Call (.Name "super" p0) [] [] p1) "__init__" p2) [.Constant (.str z) j5 p5] [] p3) p4 :: rest) scope [("__class__", cl)] dV kV doc pm an (.ref cc) ct) hr.depth (kIn _ _ lk) rfl lim (PySem.W.codeRec_of kIn hcd) rfl hbi S.nocell (fun ⟨n, _⟩ hy => S.par n (List.of_mem_zip hy).1) (fun h1 hns kp => ?_) S.co S.gen S.kind
  obtain ⟨a, vs', rfl, ea, q⟩ := hsp _ _ _ _ hs
  have CA : CellsAt [(("__class__" : Str), cl)] ["__class__"] [some (V.ref C)] s.heap H := by
    have nc : H cl = none := (e0.bs cl _ (e0.mod.kin _ _ hcell)).2
    have ic : s.heap.IsCell cl (some (.ref C)) := ⟨_, kIn _ _ hcell, rfl⟩
    have lk1 : ∀ y c, List.lookup y [(("__class__" : Str), cl)] = some c → y = ("__class__" : Str) ∧ c = cl := fun y c z => by
      rw [List.lookup_cons] at z
      cases ez : (y == ("__class__" : Str)) with
      | true => rw [ez] at z; cases z; exact ⟨eq_of_beq ez, rfl⟩
      | false => rw [ez] at z; cases z
    refine ⟨rfl, fun y c z => ?_, fun y z c h1 h2 => ?_, fun i y z => ?_⟩
    · obtain ⟨_, rfl⟩ := lk1 y c z
      exact ⟨nc, _, ic⟩
    · rw [(lk1 _ _ h1).1, (lk1 _ _ h2).1]
    · match i, z with
      | 0, z =>
        cases z
        refine ⟨cl, by simp [List.lookup], fun v z => ?_⟩
        cases z
        exact ⟨.ref C, rfl, ic⟩
      | n + 1, z => simp at z
  have I := inv_startN (CX := CX) (F := ⟨x, qual, params, .Expr (.Call (.Attribute (.Call (.Name "super" p0) [] [] p1) "__init__" p2) [.Constant (.str z) j5 p5] [] p3) p4 :: rest, scope, [("__class__", cl)], cc⟩) (f := f) (E := E) (tk := s.toks + (ps.zip us).length) S hr.hd e0 hl r CA hns kp
  refine ks_wpAt_execs_cons ?_
  refine PySem.wpAt_mono (super_stmt T (X := ncx CX P w K mg base N ⟨x, qual, params, .Expr (.Call (.Attribute (.Call (.Name "super" p0) [] [] p1) "__init__" p2) [.Constant (.str z) j5 p5] [] p3) p4 :: rest, scope, [("__class__", cl)], cc⟩ f A outer s H E) hsu hm hb (S.frk _ List.mem_cons_self) rfl lk hp rfl hcc hvs hfile htop (by rfl) hcell ?_ ?_ ?_ I ea (hpa ..) (hta _ _) (hi := ?_) (hc := hc _)) (fun fl s1 hx => ?_) fun _ _ z => z
  · have hn := S.pre
    obtain ⟨r0, hr0⟩ : ∃ r0, ps = ar.arg :: r0 := by
      cases ps with
      | nil => cases hps
      | cons y r0 => cases hps; exact ⟨r0, rfl⟩
    subst hr0
    show N[0]? = some ar.arg
    have := congrArg (fun l : List Str => l[0]?) hn
    rw [List.getElem?_take_of_lt (by simp)] at this
    exact this
  · exact S.par _ (List.mem_of_mem_head? hps)
  · rfl
  · show (scope.kind == .module && _) = false
    rw [S.kind]
    rfl
  obtain ⟨rfl, J⟩ := hx
  refine wpAt_of_wpAny (wpAny_mono ((hbody A outer s H E).run [] _ _ H _ J q) (fun fl s' hz => ?_) fun _ _ z => z)
  have fin : ∀ {σ' : L2.St} {H' : Hp} {v : V} {u : Value}, Inv (ncx CX P w K mg base N ⟨x, qual, params, .Expr (.Call (.Attribute (.Call (.Name "super" p0) [] [] p1) "__init__" p2) [.Constant (.str z) j5 p5] [] p3) p4 :: rest, scope, [("__class__", cl)], cc⟩ f A outer s H E) [] σ' H' s' → L2.RelV v u → Q v H' → CE outer P w H s Q u s' :=
    fun {σ' H' v u} J rv q => ⟨v, H', J.os, J.bare, J.base, J.hok, rv, q⟩
  cases fl with
  | ret u =>
    obtain ⟨v, σ', H', J, rv, q⟩ := hz
    exact fin J rv q
  | next =>
    obtain ⟨σ', H', J, q⟩ := hz
    exact fin (v := V.non) (u := Value.none) J rfl q
  | brk =>
    obtain ⟨_, _, _, q⟩ := hz
    exact False.elim q
  | cont =>
    obtain ⟨_, _, _, q⟩ := hz
    exact False.elim q
end PD

set_option autoImplicit false
namespace PD
open PySem PySem.Spec PyProof.Rows L2
open Builtin Builtin.ObjectAttr
/-! ### self.f = v of an error that is being made -/
open PySem.W in
structure ErrS (K : PySem.W.Frag) (C : Addr) (B newId i : String) (bmB : List Value) : Prop extends ErrC K C B newId i bmB where
  sf : StoreFacts B bmB "object.__setattr__" "object"
  ov : excOver K C bmB = true
  sa : findIn K (.ref C) "__setattr__" = some (some (.builtin "object.__setattr__"))
  hd : ∃ cd, clsIn K C = some cd ∧ cd.hasDict = true
section
variable {X : Cx} {pins : List (Addr × Obj)} {σ : L2.St} {H : Hp} {s : Shared} {A : Around} {E : Value → Shared → Prop}
theorem est_old {C a dx : Addr} {B newId i : String} {bmB : List Value} (T : ErrS X.K C B newId i bmB) {fs : List (Str × V)} {f : Str} {y : V} {u : Value} {Q : Unit → Shared → Prop} (I : Inv X pins σ H s) (e : H a = some (exo a C (some dx))) (ed : H dx = some (exd dx fs)) (hl : fs.length ≤ 900) (hno : PySem.W.findIn X.K (.ref C) f = some none) (ry : RelV y u)
    (h : ∀ s', Inv X pins σ (upd H dx (exd dx ((f, y) :: fs))) s' → Q () s') : wpAny (model X.prog X.w) A (setAttr (.ref a) f u) Q E s := by
  obtain ⟨cd, hcd, hdt⟩ := T.hd
  obtain ⟨t1, ho⟩ := exo_at I.hok e
  obtain ⟨mA, hns, rel⟩ := exd_at I.hok ed
  have hw := within_of rel
  obtain ⟨hp, g, d, t, os⟩ := s
  obtain ⟨oD, _, _, hoD, _, _⟩ := hns.count hw
  refine PySem.W.set_plain I.kIn (ox := { cls := .ref C, dict := some dx, data := .fields #[.ref t1, .none, .none, .none, .bool false, .none] }) (od := some oD) ⟨ho, rfl, rfl, hoD⟩ T.sa ?_
  refine PySem.W.osa_openX (od := some oD) T.sf I.kIn ⟨ho, rfl, rfl, hoD⟩ T.ov (r := none) (by unfold PySem.W.takerIn; rw [hno]; rfl) fun b => ?_
  have hcls : PySem.W.Looks (model X.prog X.w) hp (classData C) cd := PySem.W.looks_clsIn I.kIn hcd
  have fin : ∀ h' tk', h'.Ns1 dx (fun y => if y = f then some u else mA y) → Heap.SameBut dx hp h' → Q () ⟨h', g, d, tk', os⟩ := fun h' tk' hn' hs => by
    have hd : ∃ o, h'.get? dx = some o := by
      obtain ⟨o, _, _, e', _⟩ := hn'
      exact ⟨o, e'⟩
    exact h _ (I.write (t' := tk') (x := dx) (e := dx) (o := exd dx ((f, y) :: fs)) (by rw [ed]; exact True.intro) (.inl rfl) (fun b o hb ho => (hs.2 b hb).trans ho) hd (exd_ok hn' (relO_put ry rel)))
  show wpAny _ _ (storeInOwnDict (.ref a) (.ref C) _ f u b) _ _ _
  obtain ⟨nm, bs, mro, ns, qn, hd, sn, sb, ab, col, del⟩ := cd
  dsimp only at hdt
  subst hdt
  unfold storeInOwnDict ownDictForStores
  repeat (first | with_reducible refine PySem.OEX.store_in_old hns hw (by rw [List.length_map]; omega) ?_ | with_reducible refine wpAny_loadPart_at ho ?_ | with_reducible refine hcls.at ?_ | wp_step)
  intro h' tk' hn' hs
  exact fin h' tk' hn' hs
theorem est_new {C a : Addr} {B newId i : String} {bmB : List Value} (T : ErrS X.K C B newId i bmB) {f : Str} {y : V} {u : Value} {Q : Unit → Shared → Prop} (I : Inv X pins σ H s) (e : H a = some (exo a C none)) (hno : PySem.W.findIn X.K (.ref C) f = some none) (ry : RelV y u)
    (h : ∀ dx s', H dx = none → dx ≠ a → Inv X pins σ (upd (upd H dx (exd dx [(f, y)])) a (exo a C (some dx))) s' → Q () s') : wpAny (model X.prog X.w) A (setAttr (.ref a) f u) Q E s := by
  obtain ⟨cd, hcd, hdt⟩ := T.hd
  obtain ⟨t1, ho⟩ := exo_at I.hok e
  obtain ⟨hp, g, d, t, os⟩ := s
  refine PySem.W.set_plain I.kIn (ox := { cls := .ref C, dict := none, data := .fields #[.ref t1, .none, .none, .none, .bool false, .none] }) (od := none) ⟨ho, rfl, rfl, trivial⟩ T.sa ?_
  refine PySem.W.osa_openX (od := none) T.sf I.kIn ⟨ho, rfl, rfl, trivial⟩ T.ov (r := none) (by unfold PySem.W.takerIn; rw [hno]; rfl) fun b => ?_
  have hcls : PySem.W.Looks (model X.prog X.w) hp (classData C) cd := PySem.W.looks_clsIn I.kIn hcd
  have fin : ∀ (h1 : Heap) (k1 : Nat) (dx : Addr), (∀ z o, z ≠ a → hp.get? z = some o → h1.get? z = some o) → hp.objs.size ≤ dx → dx ≠ a → h1.get? a = some { cls := .ref C, dict := some dx, data := .fields #[.ref t1, .none, .none, .none, .bool false, .none] } →
      h1.Ns1 dx (fun w => if w = f then some u else none) → Q () ⟨h1, g, d, k1, os⟩ := fun h1 k1 dx kp dn dne hx hn => by
    have fr : H dx = none := I.hok.fresh dn
    have nd1 : ∀ {z : Addr} {o : Obj}, hp.get? z = some o → z ≠ dx := fun {z o} q1 => Nat.ne_of_lt (Nat.lt_of_lt_of_le (Heap.lt_size q1) dn)
    have na1 : ∀ {z : Addr}, H z = none → z ≠ a := fun {z} n1 z1 => by
      rw [z1, e] at n1
      cases n1
    have U : Un X.fs [] H (upd (upd H dx (exd dx [(f, y)])) a (exo a C (some dx))) hp h1 := {
      keep := fun z o q1 n1 _ _ => kp z o (na1 n1) q1
      slot := fun z o q1 n1 _ _ => ⟨o.slots, kp z o (na1 n1) q1⟩
      free := fun z o q1 n1 _ => by rw [upd_ne (na1 n1), upd_ne (nd1 q1)]; exact n1
      there := fun z o q1 _ => by
        by_cases hz : z = a
        · exact ⟨_, by rw [hz]; exact hx⟩
        · exact ⟨o, kp z o hz q1⟩
      tups := fun z xs q1 => by rw [upd_ne (at_ne e q1 exo_tup), upd_ne (ne_of_none q1 fr)]; exact q1
      frzs := fun z o v q1 => by rw [upd_ne (at_ne e q1 exo_frz), upd_ne (ne_of_none q1 fr)]; exact q1
      tbls := fun z ps q1 => ⟨#[], by rw [upd_ne (at_ne e q1 exo_tbl), upd_ne (ne_of_none q1 fr), q1]; simp⟩ }
    refine h dx _ fr dne (I.un (t' := k1) U fun z o q1 => ?_)
    by_cases hz : z = a
    · subst hz
      rw [upd_same] at q1
      cases q1
      exact exo_ok hx
    · rw [upd_ne hz] at q1
      by_cases hz2 : z = dx
      · subst hz2
        rw [upd_same] at q1
        cases q1
        exact exd_ok hn (relO_put (fs := []) ry fun _ => True.intro)
      · rw [upd_ne hz2] at q1
        refine (I.hok z o q1).stay (fun c v hc z1 => kp c v ?_ z1) (fun c hc => by rw [upd_ne (at_ne e hc exo_own), upd_ne (ne_of_none hc fr)]; exact hc) (fun c xs hc => by rw [upd_ne (at_ne e hc exo_tup), upd_ne (ne_of_none hc fr)]; exact hc)
        rcases hc with hc | hc
        · rw [hc]; exact hz
        · exact at_ne e hc exo_own
  show wpAny _ _ (storeInOwnDict (.ref a) (.ref C) _ f u b) _ _ _
  have hxs : a ≠ hp.objs.size := Nat.ne_of_lt (Heap.lt_size ho)
  obtain ⟨nm, bs, mro, ns, qn, hd, sn, sb, ab, col, del⟩ := cd
  dsimp only at hdt
  subst hdt
  unfold storeInOwnDict ownDictForStores
  repeat (first | with_reducible refine PySem.HandSPX.store_in_new ?_ ?_ | with_reducible refine wpAny_loadPart_at ho ?_ | with_reducible refine hcls.at ?_ | wp_step)
  · exact ⟨_, #[], _, (Heap.get?_update_ne _ _ _ _ hxs.symm).trans (Heap.get?_push_at rfl rfl), rfl, fun w hw => absurd hw (by simp), fun _ => rfl⟩
  · intro h1 k1 hn1 hs1
    have hx1 : (hp.push { cls := .type "dict", data := .dict #[] }).get? a = some { cls := .ref C, dict := none, data := .fields #[.ref t1, .none, .none, .none, .bool false, .none] } := Heap.get?_push_of_some _ ho
    refine fin h1 k1 hp.objs.size (fun z o hz ho1 => ?_) (Nat.le_refl _) hxs.symm ?_ hn1
    · exact (hs1.2 z (Nat.ne_of_lt (Heap.lt_size ho1))).trans ((Heap.get?_update_ne _ _ _ _ hz).trans (Heap.get?_push_of_some _ ho1))
    · exact (hs1.2 a hxs).trans (Heap.get?_update_self _ hx1 rfl)
end
end PD

set_option autoImplicit false
namespace PD
open PySem PySem.Spec PyProof.Rows L2
def IsErr (K : PySem.W.Frag) (C : Addr) : Prop := ∃ B newId i bmB, ErrS K C B newId i bmB
/-- self.f = e -/
def tEst (K : PySem.W.Frag) (f : Str) (to te : TE) : TS := fun D σ H => te σ H fun y H1 => to σ H1 fun x H2 => ∃ a C : Addr, x = .ref a ∧ IsErr K C ∧ PySem.W.findIn K (.ref C) f = some none ∧
  ((H2 a = some (exo a C none) ∧ ∀ dx, H2 dx = none → dx ≠ a → D.nx σ (upd (upd H2 dx (exd dx [(f, y)])) a (exo a C (some dx)))) ∨
    ∃ (dx : Addr) (fs : List (Str × V)), H2 a = some (exo a C (some dx)) ∧ H2 dx = some (exd dx fs) ∧ fs.length ≤ 900 ∧ D.nx σ (upd H2 dx (exd dx ((f, y) :: fs))))
theorem ps_est {X : Cx} {o e : Expr} {to te : TE} {f : Str} {p' pos : Pos} (ho : PE X o to) (he : PE X e te) (hs : swapsWith e (some (.Attribute o f p')) pos.line X.env = pure false := by rfl) : PS X (.Assign [.Attribute o f p'] e pos) (tEst X.K f to te) := by
  refine ⟨fun pins s σ H D I h => plainObj_wpAny_Assign_Attribute (thn (he.run pins s σ H _ I h) fun v s1 hx => ?_) hs⟩
  obtain ⟨y, H1, I1, r1, q1⟩ := hx
  refine thn (ho.run pins s1 σ H1 _ I1 q1) fun u s2 hx => ?_
  obtain ⟨x, H2, I2, r2, a, C, ex, ⟨B, newId, i, bmB, T⟩, hno, q⟩ := hx
  subst ex
  obtain rfl : u = Value.ref a := r2
  rcases q with ⟨ea, q⟩ | ⟨dx, fs, ea, ed, hl, q⟩
  · exact est_new T I2 ea hno r1 fun dx s' n ne J => ⟨σ, _, J, q dx n ne⟩
  · exact est_old T I2 ea ed hl hno r1 fun s' J => ⟨σ, _, J, q⟩
end PD

set_option autoImplicit false
namespace PD
open PySem PySem.Spec PyProof.Rows L2
/-- the class of an error, called: its initializer keeping sp -/
theorem err_call {X : Cx} {CX : CXT} {C fI : Addr} {B newId i : String} {bmB : List Value} {k : Nat} {fd : FuncData} {ps : List Str} {sp : Sp} (T : ErrS X.K C B newId i bmB)
    (iC : PySem.W.findIn X.K (.ref C) "__init__" = some (some (.ref fI))) (tI : PySem.W.typeIn X.K (.ref fI) = some (.type "function"))
    (F1 : FnOk X.prog X.w X.K X.mg X.base CX k fI fd ps sp) (hr : Room (k + 1) X.A) (hb : Binds X.K fd ps []) (hx : Passes CX X (fun _ _ _ => False))
    {pins : List (Addr × Obj)} {σ : L2.St} {H1 : Hp} {hp : Heap} {g : Array GenState} {dr : Drawn} {tk : Nat} {os : OsState} {us : List Value} {vs : List V} {Q : VK} {P : Value → Shared → Prop} (I1 : Inv X pins σ H1 ⟨hp, g, dr, tk, os⟩) (r1 : Vals vs us) (hz : vs.length ≤ 1000)
    (hq : sp (.ref (hp.objs.size + 1) :: vs) (upd H1 (hp.objs.size + 1) (exo (hp.objs.size + 1) C none)) Q (fun _ _ _ => False))
    (fin : Inv X pins σ (upd H1 (hp.objs.size + 1) (exo (hp.objs.size + 1) C none)) ⟨(hp.push (PySem.W.kdv_tup us)).push (PySem.HandSPX.excO C hp.objs.size), g, dr, tk, os⟩ → (∀ b o, hp.get? b = some o → ((hp.push (PySem.W.kdv_tup us)).push (PySem.HandSPX.excO C hp.objs.size)).get? b = some o) →
      ∀ u s', CE X.stack X.prog X.w (upd H1 (hp.objs.size + 1) (exo (hp.objs.size + 1) C none)) ⟨(hp.push (PySem.W.kdv_tup us)).push (PySem.HandSPX.excO C hp.objs.size), g, dr, tk, os⟩ Q u s' → u = .none ∧ P (.ref (hp.objs.size + 1)) s') :
    wpAny (model X.prog X.w) X.A (call (.ref C) us) P X.xe ⟨hp, g, dr, tk, os⟩ := by
  obtain ⟨nm, N', qn, bs, bm, hdct, sn, sub, ab, col, dd, k0, k1, k2, k3, k5, hC, hT⟩ := PySem.W.excInit_of I1.kIn T.q
  have hsz : hp.objs.size ≤ hp.objs.size + 1 := Nat.le_succ _
  have kk : ∀ b o, hp.get? b = some o → ((hp.push (PySem.W.kdv_tup us)).push (PySem.HandSPX.excO C hp.objs.size)).get? b = some o := fun b o z => Heap.get?_push_of_some _ (Heap.get?_push_of_some _ z)
  have gt : ((hp.push (PySem.W.kdv_tup us)).push (PySem.HandSPX.excO C hp.objs.size)).get? (hp.objs.size + 1) = some (PySem.HandSPX.excO C hp.objs.size) := by heap_get
  have I2 := I1.laid (t' := tk) (a := hp.objs.size + 1) (o := exo (hp.objs.size + 1) C none) kk hsz (exo_ok gt)
  have r2 : Vals (V.ref (hp.objs.size + 1) :: vs) (Value.ref (hp.objs.size + 1) :: us) := .cons rfl r1
  have hl : (Value.ref (hp.objs.size + 1) :: us).length = ps.length := by
    have z := r2.length
    rw [F1.len _ _ _ _ hq] at z
    exact z.symm
  have hus : us.length ≤ sizeLine := by
    rw [← Paired.length r1, sizeLine_eq]
    omega
  have bnd := hb _ (Value.ref (hp.objs.size + 1) :: us) I2.kIn (by rw [List.append_nil]; exact hl)
  rw [List.append_nil] at bnd
  refine wpAny_call (PySem.HandSPX.call_own T.fb hT hC (PySem.W.looks_findIn I1.kIn iC) (fun self => PySem.W.bind_fn I1.kIn self tI) hus
    (codeAny_mono (F1.run _ X.stack _ _ ⟨Value.ref (hp.objs.size + 1) :: us, []⟩ (Value.ref (hp.objs.size + 1) :: us) _ _ (fun _ _ _ => False) (hr.make C us []) (I2.env0.make C us []) bnd r2 hq) fun r s' hq' => ?_))
  cases r with
  | error er => exact hx pins σ _ _ er s' I2 hq'
  | ok fl =>
    cases fl with
    | ret u => exact fin I2 kk u s' hq'
    | next => exact False.elim hq'
    | brk => exact False.elim hq'
    | cont => exact False.elim hq'
/-- an error is made, to be raised -/
theorem mk_endN {X : Cx} {pins : List (Addr × Obj)} {σ : L2.St} {H1 H2 : Hp} {Q : XK} {hp hp2 h2 : Heap} {g1 g2 : Array GenState} {d1 d2 : Drawn} {t1 t2 : Nat} {os1 os2 : OsState} {a C d : Addr} {fs : List (Str × V)} (T : Raises X (.ref C)) (I1 : Inv X pins σ H1 ⟨hp, g1, d1, t1, os1⟩)
    (ha : hp.objs.size ≤ a) (k : ∀ b o, hp.get? b = some o → hp2.get? b = some o) (un : Un (frs X.stack) [] (upd H1 a (exo a C none)) H2 hp2 h2) (hok : HOk X.prog X.w H2 h2) (ho : os2 = os1) (hb : AllBare g2)
    (ea : H2 a = some (exo a C (some d))) (ed : H2 d = some (exd d fs)) (hd1 : H1 d = none) (q : Q (.ref C) (some d) (upd (L2.del H2 a) d (.xd fs))) : L2N.MkP X pins σ Q (.ref a) ⟨h2, g2, d2, t2, os2⟩ := by
  obtain ⟨t0, G, J, kG, ge, hoe, na⟩ := mk_end0 (d2 := d2) (t2 := t2) I1 ha k un hok ho hb ea ed hd1
  exact ⟨a, _, _, ⟨G, g2, d2, t2, os2⟩, _, .ref C, some d, rfl, J, kG, ge, hoe, ⟨rfl, rfl, fun vs hv => by cases hv; rfl⟩, rfl, rfl, na, rfl, hb, T, q⟩
theorem pmk_run {X : Cx} {CX : CXT} {C fI : Addr} {B newId i : String} {bmB : List Value} {k : Nat} {fd : FuncData} {ps : List Str} {sp : Sp} (T : ErrS X.K C B newId i bmB) (exC : PySem.W.subIn X.K (.ref C) (.type "BaseException") = some true) (tyC : PySem.W.typeIn X.K (.ref C) = some (.type "type"))
    (iC : PySem.W.findIn X.K (.ref C) "__init__" = some (some (.ref fI))) (tI : PySem.W.typeIn X.K (.ref fI) = some (.type "function"))
    (F1 : FnOk X.prog X.w X.K X.mg X.base CX k fI fd ps sp) (hr : Room (k + 1) X.A) (hb : Binds X.K fd ps []) (hx : Passes CX X (fun _ _ _ => False))
    {pins : List (Addr × Obj)} {σ : L2.St} {H1 : Hp} {s1 : Shared} {us : List Value} {vs : List V} {Q : XK} (I1 : Inv X pins σ H1 s1) (r1 : Vals vs us) (hz : vs.length ≤ 1000)
    (q1 : ∀ a, H1 a = none → sp (.ref a :: vs) (upd H1 a (exo a C none)) (fun v H2 => v = .non ∧ ∃ (d : Addr) (fs : List (Str × V)), H2 a = some (exo a C (some d)) ∧ H2 d = some (exd d fs) ∧ H1 d = none ∧ Q (.ref C) (some d) (upd (L2.del H2 a) d (.xd fs))) (fun _ _ _ => False)) :
    wpAny (model X.prog X.w) X.A (call (.ref C) us) (L2N.MkP X pins σ Q) X.xe s1 := by
  obtain ⟨hp, g, dr, tk, os⟩ := s1
  have hsz : hp.objs.size ≤ hp.objs.size + 1 := Nat.le_succ _
  refine err_call T iC tI F1 hr hb hx I1 r1 hz (q1 _ (I1.hok.fresh hsz)) fun I2 kk u s' hq' => ?_
  obtain ⟨v, H2, os2, bare2, un2, hok2, rv, ev, d, fs, ea, ed, hd1, q2⟩ := hq'
  subst ev
  obtain ⟨h2, g2, d2, t2, os'⟩ := s'
  exact ⟨rv, mk_endN (raises_own exC tyC) I1 hsz kk un2 hok2 os2 bare2 ea ed hd1 q2⟩
/-- C(e, ..): an error is made, its initializer keeping sp -/
theorem pmk_err {X : Cx} {e : Expr} {es : List Expr} {ta : TA} {p pos : Pos} {CX : CXT} {x : Str} {C fI : Addr} {B newId i : String} {bmB : List Value} {k : Nat} {fd : FuncData} {ps : List Str} {sp : Sp} (T : ErrS X.K C B newId i bmB) (exC : PySem.W.subIn X.K (.ref C) (.type "BaseException") = some true)
    (tyC : PySem.W.typeIn X.K (.ref C) = some (.type "type")) (kC : PySem.W.keepIn X.K (.ref C) = true) (iC : PySem.W.findIn X.K (.ref C) "__init__" = some (some (.ref fI))) (tI : PySem.W.typeIn X.K (.ref fI) = some (.type "function"))
    (F1 : FnOk X.prog X.w X.K X.mg X.base CX k fI fd ps sp) (hr : Room (k + 1) X.A) (hb : Binds X.K fd ps []) (hx : Passes CX X (fun _ _ _ => False)) (hg : Gl X x) (hm : X.mg x = some (.ref C)) (ha : PA X (e :: es) ta)
    (hdb : (x == ("__debug__" : Str)) = false := by decide) (he : starEach (e :: es) X.env = (false, eval e X.env) :: starEach es X.env := by rfl) (hpl : (backTo pos (starEach es X.env)).any (·.1) = false := by rfl) :
    L2N.PMk X (.Call (.Name x p) (e :: es) [] pos) (tMkO C sp [] ta) := by
  intro pins s σ H Q I h
  refine wpAny_Call_Name_kw (ld_glob I hg hm ?_ hdb)
  refine PySem.W.callWith_K (h₀ := X.base) I.ok.mod.kin kC (thn (ha.run pos pins s σ H _ I h) fun us s1 hx1 => ?_) he hpl
  obtain ⟨vs, H1, I1, r1, hz, q1⟩ := hx1
  refine ⟨I1.kIn, ?_⟩
  simp only [List.append_nil] at q1
  exact pmk_run T exC tyC iC tI F1 hr hb hx I1 r1 hz q1
/-- C(): an error is made -/
theorem pmk_err0 {X : Cx} {p pos : Pos} {CX : CXT} {x : Str} {C fI : Addr} {B newId i : String} {bmB : List Value} {k : Nat} {fd : FuncData} {ps : List Str} {sp : Sp} (T : ErrS X.K C B newId i bmB) (exC : PySem.W.subIn X.K (.ref C) (.type "BaseException") = some true)
    (tyC : PySem.W.typeIn X.K (.ref C) = some (.type "type")) (kC : PySem.W.keepIn X.K (.ref C) = true) (iC : PySem.W.findIn X.K (.ref C) "__init__" = some (some (.ref fI))) (tI : PySem.W.typeIn X.K (.ref fI) = some (.type "function"))
    (F1 : FnOk X.prog X.w X.K X.mg X.base CX k fI fd ps sp) (hr : Room (k + 1) X.A) (hb : Binds X.K fd ps []) (hx : Passes CX X (fun _ _ _ => False)) (hg : Gl X x) (hm : X.mg x = some (.ref C))
    (hdb : (x == ("__debug__" : Str)) = false := by decide) :
    L2N.PMk X (.Call (.Name x p) [] [] pos) (tMkO C sp [] fun _ H Q => Q [] H) := by
  intro pins s σ H Q I h
  refine wpAny_Call_Name_kw (ld_glob I hg hm ?_ hdb)
  refine PySem.W.callWith_K0 I.kIn kC ?_
  obtain ⟨hz, q1⟩ := h
  simp only [List.append_nil] at q1
  exact pmk_run T exC tyC iC tI F1 hr hb hx I .nil hz q1
end PD

set_option autoImplicit false
namespace PD
open PySem PySem.Spec PyProof.Rows L2
open NdefX (NScope ncx startF inv_startN CellsAt NF)
/-- what an error's initializer does: the tag, then the field -/
def spErr (C : Addr) (tag : Str) : Option Str → Sp
  | none => fun vs H Q _ => ∃ a, vs = [.ref a] ∧ H a = some (exo a C none) ∧ ∀ dx, H dx = none → dx ≠ a → Q .non (upd (upd H dx (exd dx [("tag", .str tag)])) a (exo a C (some dx)))
  | some f => fun vs H Q _ => ∃ a v, vs = [.ref a, v] ∧ H a = some (exo a C none) ∧ ∀ dx, H dx = none → dx ≠ a → Q .non (upd (upd (upd H dx (exd dx [("tag", .str tag)])) a (exo a C (some dx))) dx (exd dx [(f, v), ("tag", .str tag)]))
def tErr0 (K : PySem.W.Frag) (tag : Str) : TS := tSeq (tEst K "tag" (tVar 0) (tC (.str tag))) tNext
def tErr1 (K : PySem.W.Frag) (tag f : Str) : TS := tSeq (tEst K "tag" (tVar 0) (tC (.str tag))) (tSeq (tEst K f (tVar 0) (tVar 1)) tNext)
theorem tErr0_ok {K : PySem.W.Frag} {C : Addr} {tag : Str} (T : IsErr K C) (hno : PySem.W.findIn K (.ref C) "tag" = some none) {N : List Str} {vs : List V} {ws : List (Option V)} {H : Hp} {Q : VK} {E : XK} {D : Ends} (hD : ∀ σ H, Q .non H → D.nx σ H) (h : spErr C tag none vs H Q E) : ∃ a vs', vs = .ref a :: vs' ∧ H a = some (exo a C none) ∧ tErr0 K tag D (startF N vs ws) H := by
  obtain ⟨a, rfl, ea, q⟩ := h
  exact ⟨a, [], rfl, ea, ⟨.ref a, rfl, a, C, rfl, T, hno, .inl ⟨ea, fun dx n ne => hD _ _ (q dx n ne)⟩⟩⟩
theorem tErr1_ok {K : PySem.W.Frag} {C : Addr} {tag f : Str} (T : IsErr K C) (hno : PySem.W.findIn K (.ref C) "tag" = some none) (hno2 : PySem.W.findIn K (.ref C) f = some none) {N : List Str} {vs : List V} {ws : List (Option V)} {H : Hp} {Q : VK} {E : XK} {D : Ends} (hD : ∀ σ H, Q .non H → D.nx σ H) (h : spErr C tag (some f) vs H Q E) : ∃ a vs', vs = .ref a :: vs' ∧ H a = some (exo a C none) ∧ tErr1 K tag f D (startF N vs ws) H := by
  obtain ⟨a, v, rfl, ea, q⟩ := h
  refine ⟨a, [v], rfl, ea, ⟨.ref a, rfl, a, C, rfl, T, hno, .inl ⟨ea, fun dx n ne => ?_⟩⟩⟩
  refine ⟨v, rfl, .ref a, rfl, a, C, rfl, T, hno2, .inr ⟨dx, [("tag", .str tag)], upd_same, ?_, (by show 1 ≤ 900; decide), hD _ _ (q dx n ne)⟩⟩
  rw [upd_ne ne]
  exact upd_same
end PD

set_option autoImplicit false
namespace PD
open PySem PySem.Spec PyProof.Rows L2
section
variable {w : Wo} {si : SI} {X : Cx} {W : WX} {Fo : Addr → Prop} {σ : L2.St} {st : St} {β : List Addr} {G H : Hp}
end
/-- C(d): the error that it makes -/
def errFs (tag : Str) : Option Str → List D → Option (List (Str × D))
  | none, [] => some [("tag", .str tag)]
  | some f, [d] => some [(f, d), ("tag", .str tag)]
  | _, _ => none
def raiseF (c tag : Str) (f : Option Str) (ds : List D) : MS := (frzL ds).bind fun ds' st => match errFs tag f ds' with
  | some fs => .exc c fs st
  | none => .bad
def raiseM (c tag : Str) (f : Option Str) (ms : M (List D)) : MS := ms.bind fun ds => raiseF c tag f ds
theorem upd_del {H H2 : Hp} {a dx : Addr} {o : HO} (ha : H a = none) (hd : dx ≠ a) (h2 : ∀ z, z ≠ a → z ≠ dx → H2 z = H z) : upd (L2.del H2 a) dx o = upd H dx o := by
  funext z
  by_cases e1 : z = dx
  · subst e1
    rw [upd_same, upd_same]
  · rw [upd_ne e1, upd_ne e1]
    by_cases e2 : z = a
    · subst e2
      rw [del_same, ha]
    · rw [del_ne e2, h2 z e2 e1]
section
variable {w : Wo} {W : WX} {Fo : Addr → Prop} {σ : L2.St} {st : St} {β : List Addr} {G H : Hp}
theorem frS_new {o : HO} {p : Addr} (R : RS w Fo β G H σ st) (hp : H p = none) : FrS Fo β G H β G (upd H p o) :=
  ⟨SubH.refl _, SubB.refl _, fun a h => upd_ne fun z => R.nofo hp (by rw [← z]; exact h)⟩
theorem raiseF_ok {c tag : Str} {f : Option Str} {ds : List D} {vs : List V} {D : Ends} (htag : tag.length ≤ sizeLine) (R : RS w Fo β G H σ st) (A : RepAs w σ st β G ds vs) (h : OutS w W Fo β G H D (raiseF c tag f ds st)) :
    vs.length ≤ 1000 ∧ ∀ a, H a = none → spErr (w.ca c) tag f (.ref a :: vs) (upd H a (exo a (w.ca c) none)) (fun v H2 => v = .non ∧ ∃ (d : Addr) (fs : List (Str × V)), H2 a = some (exo a (w.ca c) (some d)) ∧ H2 d = some (exd d fs) ∧ H d = none ∧ W (.ref (w.ca c)) (some d) σ (upd (L2.del H2 a) d (.xd fs))) (fun _ _ _ => False) := by
  obtain ⟨ds', st1, G1, e1, F1, R1, q1, l1⟩ := frzL_ok R A
  unfold raiseF at h
  rw [M.bind_ok e1] at h
  have rt : Rep w β G1 (.str tag) (.str tag) := by unfold Rep; exact ⟨rfl, htag⟩
  cases f with
  | none =>
    match ds', h with
    | [], h =>
      have hv : vs = [] := by unfold Reps at q1; exact q1
      subst hv
      refine ⟨Nat.zero_le _, fun a ha => ⟨a, rfl, upd_same, fun dx n ne => ⟨rfl, dx, [("tag", .str tag)], upd_same, ?_, ?_, ?_⟩⟩⟩
      · rw [upd_ne ne, upd_same]
      · rw [upd_ne ne] at n; exact n
      · have n1 : H dx = none := by rw [upd_ne ne] at n; exact n
        rw [upd_del ha ne fun z z1 z2 => by rw [upd_ne z1, upd_ne z2, upd_ne z1]]
        exact h σ β G1 _ dx [("tag", .str tag)] (F1.s.trans (frS_new R1 n1)) (R1.new n1) upd_same (by unfold RepsF; exact ⟨_, _, rfl, rt, by unfold RepsF; rfl⟩)
    | _ :: _, h => exact h.elim
  | some f =>
    match ds', h with
    | [d], h =>
      obtain ⟨v, r, rfl, rd, hr⟩ : ∃ v r, vs = v :: r ∧ Rep w β G1 d v ∧ Reps w β G1 [] r := by unfold Reps at q1; exact q1
      have hr : r = [] := by unfold Reps at hr; exact hr
      subst hr
      refine ⟨by show 1 ≤ 1000; decide, fun a ha => ⟨a, v, rfl, upd_same, fun dx n ne => ⟨rfl, dx, [(f, v), ("tag", .str tag)], ?_, upd_same, ?_, ?_⟩⟩⟩
      · rw [upd_ne ne.symm, upd_same]
      · rw [upd_ne ne] at n; exact n
      · have n1 : H dx = none := by rw [upd_ne ne] at n; exact n
        rw [upd_del ha ne fun z z1 z2 => by rw [upd_ne z2, upd_ne z1, upd_ne z2, upd_ne z1]]
        exact h σ β G1 _ dx [(f, v), ("tag", .str tag)] (F1.s.trans (frS_new R1 n1)) (R1.new n1) upd_same (by unfold RepsF; exact ⟨_, _, rfl, rd, by unfold RepsF; exact ⟨_, _, rfl, rt, by unfold RepsF; rfl⟩⟩)
    | [], h => exact h.elim
    | _ :: _ :: _, h => exact h.elim
theorem raise_tA {c tag : Str} {f : Option Str} {ms : M (List D)} {D : Ends} (htag : tag.length ≤ sizeLine) (h : tS w W (raiseM c tag f ms) D σ H) : tMkO (w.ca c) (spErr (w.ca c) tag f) [] (tA w W ms) σ H (fun cls d H' => W cls d σ H') := by
  obtain ⟨Fo, β, G, st, R0, h⟩ := h
  refine ⟨Fo, β, G, st, R0, ?_⟩
  unfold raiseM M.bind at h
  cases e : ms st with
  | ok ds st1 =>
    rw [e] at h
    intro vs β' G' H' F R A
    obtain ⟨l, q⟩ := raiseF_ok htag R A (OutS.trans F.s _ h)
    exact ⟨l, fun a ha => by rw [List.append_nil]; exact q a ha⟩
  | exc c' fs st1 =>
    rw [e] at h
    exact fun β' G' H' dx gs F R e r => h σ β' G' H' dx gs F.s R e r
  | bad => rw [e] at h; exact h
end
/-- what the written part and the module say of an error's class: its tag, its field -/
structure ErrAt (w : Wo) (g : Prg) (c tag : Str) (f : Option Str) : Prop where
  ex : ∃ (B newId i : String) (bmB : List Value) (fI : Addr) (fd : FuncData) (ps : List Str), ErrS w.K (w.ca c) B newId i bmB ∧ PySem.W.findIn w.K (.ref (w.ca c)) "__init__" = some (some (.ref fI)) ∧ PySem.W.typeIn w.K (.ref fI) = some (.type "function") ∧
    Binds w.K fd ps [] ∧ (∀ n, f = some n → ∀ (s : Shared) (u v : Value), w.K.In s.heap → BindsTo s fd ⟨[u], [(n, v)]⟩ (ps.zip [u, v])) ∧ ∀ CX, FnOk g.P g.wd w.K g.mg g.base CX 1 fI fd ps (spErr (w.ca c) tag f)
  exC : PySem.W.subIn w.K (.ref (w.ca c)) (.type "BaseException") = some true
  tyC : PySem.W.typeIn w.K (.ref (w.ca c)) = some (.type "type")
  kC : PySem.W.keepIn w.K (.ref (w.ca c)) = true
  mg : g.mg c = some (.ref (w.ca c))
  tag : tag.length ≤ sizeLine
section
variable {w : Wo} {g : Prg} {W : WX} {k : Nat} {si : SI} {X : Cx} {e : Expr} {es : List Expr} {ms : M (List D)} {p pos pos' : Pos} {c tag : Str} {f : Option Str}
theorem passes_none {X : Cx} : Passes (fun _ _ _ _ _ _ => False) X (fun _ _ _ => False) := fun _ _ _ _ _ _ _ h => h.elim
theorem s_raise (E : ErrAt w g c tag f) (C : Cok2 w g W k si X) (hr : Room 2 X.A) (hg : isGl si.sc c = true) (ha : PA X (e :: es) (tA w W ms)) (hp : plainArgs (e :: es) = true) (hdb : (c == ("__debug__" : Str)) = false) : PS X (.Raise (some (.Call (.Name c p) (e :: es) [] pos)) none pos') (tS w W (raiseM c tag f ms)) := by
  obtain ⟨B, newId, i, bmB, fI, fd, ps, T, iC, tI, hb, _, F⟩ := E.ex
  have he := noStar_ne (by have := hp; unfold plainArgs at this; rw [List.all_cons, Bool.and_eq_true] at this; exact this.1)
  have hpl : (backTo pos (starEach es X.env)).any (·.1) = false := back_any (by have := hp; unfold plainArgs at this ⊢; rw [List.all_cons, Bool.and_eq_true] at this; exact this.2)
  have hK := C.K
  have F' := F (fun _ _ _ _ _ _ => False)
  rw [← C.P, ← C.wd, ← C.mg, ← C.base, ← hK] at F'
  refine PS.imp (L2N.ps_raise C.calm C.tk (pmk_err (by rw [hK]; exact T) (by rw [hK]; exact E.exC) (by rw [hK]; exact E.tyC) (by rw [hK]; exact E.kC) (by rw [hK]; exact iC) (by rw [hK]; exact tI) F' hr (by rw [hK]; exact hb) passes_none (C.gl hg) (by rw [C.mg]; exact E.mg) ha hdb (starEach_plain he) hpl)) fun D σ H q => raise_tA E.tag q
theorem s_raise0 (E : ErrAt w g c tag f) (C : Cok2 w g W k si X) (hr : Room 2 X.A) (hg : isGl si.sc c = true) (hdb : (c == ("__debug__" : Str)) = false) : PS X (.Raise (some (.Call (.Name c p) [] [] pos)) none pos') (tS w W (raiseM c tag f argsNil)) := by
  obtain ⟨B, newId, i, bmB, fI, fd, ps, T, iC, tI, hb, _, F⟩ := E.ex
  have hK := C.K
  have F' := F (fun _ _ _ _ _ _ => False)
  rw [← C.P, ← C.wd, ← C.mg, ← C.base, ← hK] at F'
  refine PS.imp (L2N.ps_raise C.calm C.tk (pmk_err0 (by rw [hK]; exact T) (by rw [hK]; exact E.exC) (by rw [hK]; exact E.tyC) (by rw [hK]; exact E.kC) (by rw [hK]; exact iC) (by rw [hK]; exact tI) F' hr (by rw [hK]; exact hb) passes_none (C.gl hg) (by rw [C.mg]; exact E.mg) hdb)) fun D σ H q => ?_
  have z := raise_tA (tag := tag) (f := f) E.tag q
  obtain ⟨Fo, β, G, st, R, z⟩ := z
  exact z [] β G H Fr.refl R rfl
end
end PD

set_option autoImplicit false
namespace PD
open PySem PySem.Spec PyProof.Rows L2
open PySem.HandSPX (FlyingZ HeldZ TracedZ)

/-! ### an exception meets a finally -/
section
variable {X : Cx} {pins : List (Addr × Obj)} {f₀ : Stmt} {fs : List Stmt} {tfs : TS} {Wout : WX} {D : Ends} {σ : L2.St} {H : Hp}
/-- the two records of an exception in flight, as pins of the suite -/
theorem suite_two {a T : Addr} {oe oT : Obj} {vs ts : Array Value} {s : Shared} (J : Inv X pins σ H s) (ha : s.heap.get? a = some oe) (hd : oe.data = .fields vs) (hT : s.heap.get? T = some oT) (hdT : oT.data = .fields ts) (na : H a = none) (nT : H T = none)
    (la : a ≠ X.env.locals ∧ a ∉ X.fs) (lT : T ≠ X.env.locals ∧ T ∉ X.fs) : Inv (X.suite a ((a, oe) :: (T, oT) :: (X.pn ++ pins))) [] σ H s := by
  refine ⟨J.ok.suite _ _, J.os, J.bare, J.base, J.loc, J.cell, J.free, J.freeC, fun p hp => ?_, J.hok, J.len⟩
  have hp : p ∈ (a, oe) :: (T, oT) :: (X.pn ++ pins) := by simpa using hp
  have rec_ : ∀ {o : Obj} {xs : Array Value}, o.data = .fields xs → ∀ v, o.data ≠ .cell v := fun e v z => by rw [e] at z; cases z
  rcases List.mem_cons.mp hp with z | hp
  · subst z; exact ⟨ha, na, la.1, la.2, rec_ hd⟩
  · rcases List.mem_cons.mp hp with z | hp
    · subst z; exact ⟨hT, nT, lT.1, lT.2, rec_ hdT⟩
    · exact J.pin p hp
/-- the suite behind it run, it flies on -/
theorem fin_on (hs : X.stack = X.env :: X.outer) (hf : X.env.frame = some X.env.locals) (hex : X.ex = []) (ok : X.Ok) (tk : L2N.Takes X Wout) {a : Addr} {B : Heap} {sI s1 : Shared} {cls : Value} {d : Option Addr} (J : Inv X pins σ H sI)
    (nb : ∀ b o, sI.heap.get? b = some o → b ∉ frs X.stack → B.get? b = some o) (up : sI.heap.UpToSlots s1.heap) (na : H a = none) (os : s1.os = sI.os) (ag : AllBare s1.gens) (fl : FlyingZ B (X.env :: X.outer) a (L2N.Zn cls d) s1.heap)
    (hsu : ∀ (a : Addr) (pn : List (Addr × Obj)), PSs (X.suite a pn) (f₀ :: fs) tfs) (hw : tfs { nx := fun σ2 H2 => Wout cls d σ2 H2, rt := fun _ _ => False } σ H) :
    wpAny (model X.prog X.w) (X.A.mark (some (.ref a))) (execs (f₀ :: fs) X.env) (fun g s₂ => match g with
      | .next => wpAny (model X.prog X.w) X.A (PySem.passOn "try.finally" (.ref a) X.env) (SP X pins D) X.xe s₂
      | g => wpAny (model X.prog X.w) X.A (setFlight (.ref a) none) (fun _ s₃ => SP X pins D g s₃) X.xe s₂) (PySem.notedBy (model X.prog X.w) (X.A.mark (some (.ref a))) X.env (PySem.cameBackBy (model X.prog X.w) X.A X.env X.xe)) s1 := by
  obtain ⟨st, nB, ff, oe, vs, T, oT, ts, ha, hz, hd, h1, nBT, hTa, hT, hdT, h3⟩ := id fl
  have J1 : Inv X pins σ H s1 := J.landed nb st up os ag
  have nT : H T = none := (J.inGround nb).gone nBT
  -- neither record is a frame
  have apart : ∀ {b : Addr} {o : Obj} {xs : Array Value}, s1.heap.get? b = some o → o.data = .fields xs → b ∉ frs (X.env :: X.outer) := fun {b o xs} e dd hm => by
    obtain ⟨_, o', e', hnf⟩ := ff.mem hm
    rw [e] at e'
    cases e'
    exact hnf _ dd
  have off : ∀ {b : Addr}, b ∉ frs (X.env :: X.outer) → b ≠ X.env.locals ∧ b ∉ X.fs := fun {b} hb =>
    ⟨fun z => hb (List.mem_filterMap.mpr ⟨X.env, List.mem_cons_self, by rw [hf, z]⟩), fun hm => by
      obtain ⟨e, he, q⟩ := List.mem_filterMap.mp hm
      exact hb (List.mem_filterMap.mpr ⟨e, List.mem_cons_of_mem _ he, q⟩)⟩
  have fa := apart ha hd
  have fT := apart hT hdT
  have S := suite_two J1 ha hd hT hdT na nT (off fa) (off fT)
  refine wpAny_mono ((hsu a _).run [] s1 σ H _ S hw) (fun g s6 z => ?_) fun _ _ z => z.elim
  cases g with
  | ret u => obtain ⟨_, _, _, _, _, q⟩ := z; exact q.elim
  | brk => obtain ⟨_, _, _, q⟩ := z; exact q.elim
  | cont => obtain ⟨_, _, _, q⟩ := z; exact q.elim
  | next =>
    obtain ⟨σ6, H6, S6, q6⟩ := z
    have J6 : Inv X pins σ6 H6 s6 := ⟨ok, S6.os, S6.bare, S6.base, S6.loc, S6.cell, S6.free, S6.freeC, fun p hp => S6.pin p (by simpa using List.mem_cons_of_mem _ (List.mem_cons_of_mem _ hp)), S6.hok, S6.len⟩
    obtain ⟨ga, na6, _⟩ := S6.pin (a, oe) (by simp [Cx.suite])
    obtain ⟨gT, nT6, _⟩ := S6.pin (T, oT) (by simp [Cx.suite])
    -- the state without the two
    obtain ⟨G, g1, g2⟩ := restrict s6.heap fun b => decide (b ≠ a ∧ b ≠ T)
    have gin : ∀ b o, G.get? b = some o → (b ≠ a ∧ b ≠ T) ∧ s6.heap.get? b = some o := fun b o e => by
      by_cases c : b ≠ a ∧ b ≠ T
      · exact ⟨c, by rw [← g1 b (decide_eq_true c)]; exact e⟩
      · rw [g2 b (decide_eq_false c)] at e; cases e
    have far : ∀ b o, sI.heap.get? b = some o → b ≠ a ∧ b ≠ T := fun b o e => by
      by_cases hb : b ∈ frs X.stack
      · rw [hs] at hb
        exact ⟨fun z => fa (z ▸ hb), fun z => fT (z ▸ hb)⟩
      · have q := nb b o e hb
        exact ⟨(fun z => by subst z; rw [nB] at q; cases q), (fun z => by subst z; rw [nBT] at q; cases q)⟩
    have I6 : Inv X pins σ6 H6 { s6 with heap := G } := J6.less (fun b o e => (gin b o e).2) (fun b o h1 h2 e => by rw [g1 b (decide_eq_true ⟨h1, h2⟩)]; exact e) ⟨oe, vs, ga, hd⟩ ⟨oT, ts, gT, hdT⟩ na6 nT6
      (fun b o e => by
        obtain ⟨o', q⟩ := J.base.there b o e (by rw [hex]; simp)
        exact far b o' q) fun p hp => far p.1 p.2 (J.pin p hp).1
    have gone : ∀ b, b = a ∨ b = T → (PySem.W.hideAll G (frs X.stack)).get? b = none := fun b hb => by
      cases q : (PySem.W.hideAll G (frs X.stack)).get? b with
      | none => rfl
      | some o =>
        obtain ⟨⟨n1, n2⟩, _⟩ := gin b o (PySem.W.of_hideAll _ q)
        exact (hb.elim n1 n2).elim
    have fl6 : FlyingZ (PySem.W.hideAll G (frs X.stack)) (X.env :: X.outer) a (L2N.Zn cls d) s6.heap :=
      ⟨fun b o e => (gin b o (PySem.W.of_hideAll _ e)).2, gone a (.inl rfl), hs ▸ funFrames_none J6.stack fun b hb => PySem.W.hideAll_none _ hb, oe, vs, T, oT, ts, ga, hz, hd, h1, gone T (.inr rfl), hTa, gT, hdT, h3⟩
    show wpAny (model X.prog X.w) X.A (PySem.passOn "try.finally" (.ref a) X.env) (SP X pins D) X.xe s6
    have goOn : wpAny (model X.prog X.w) X.A (setFlight (.ref a) X.env.frame) (fun _ s7 => wpAny (model X.prog X.w) X.A (throw (.ref a) : Sem Flow) (SP X pins D) X.xe s7) X.xe s6 := by
      rw [hf]
      exact HandSPX.setFlight_upZ fl6 fun h7 hh7 up7 => wpAny_throw (tk _ _ ⟨a, PySem.W.hideAll G (frs X.stack), { s6 with heap := G }, pins, σ6, H6, cls, d, rfl, I6, fun b o e hb => PySem.W.hideAll_get _ e hb,
        (Heap.UpToSlots.of_keeps fun b o e => (gin b o e).2).trans up7, .inr (.inr (hs ▸ hh7)), na6, rfl, J6.bare, q6⟩)
    unfold PySem.passOn
    refine wpAny_bind (wpAny_field ga hd h1 ?_)
    rw [if_neg (by simp)]
    first
      | exact wpAny_bind (wpAny_pure (wpAny_bind goOn))
      | exact wpAny_bind goOn
/-- noted, then the suite -/
theorem fin_excN (hs : X.stack = X.env :: X.outer) (hf : X.env.frame = some X.env.locals) (hex : X.ex = []) (ok : X.Ok) (tk : L2N.Takes X Wout) (hsu : ∀ (a : Addr) (pn : List (Addr × Obj)), PSs (X.suite a pn) (f₀ :: fs) tfs) {xe : Value → Shared → Prop} {u : Value} {s' : Shared}
    (xx : L2N.XE (X.tr (X.pn ++ pins) xe) (wFin tfs Wout) u s') :
    wpAny (model X.prog X.w) X.A (noteFrame u X.env) (fun _ s₂ => FinallyRaised X.prog X.w X.A X.xe X.env (f₀ :: fs) (SP X pins D) u s₂) (FinallyRaised X.prog X.w X.A X.xe X.env (f₀ :: fs) (SP X pins D)) s' := by
  have hfr : X.A.frames = some (X.env :: X.outer) := by rw [ok.frames, hs]
  obtain ⟨a, B, sI, pins', σ', H', cls, d, rfl, J', nb, up, sky, na, os, ag, hw⟩ := xx
  have J : Inv X pins σ' H' sI := J'.ofTry ok
  have fin : ∀ h1, HeldZ B (X.env :: X.outer) a (L2N.Zn cls d) X.env.locals h1 → s'.heap.UpToSlots h1 → FinallyRaised X.prog X.w X.A X.xe X.env (f₀ :: fs) (SP X pins D) (.ref a) { s' with heap := h1 } := fun h1 hh up1 =>
    ⟨ref_ne_byPass a, HandSPX.againZ hf hh.2.2.2 (HandSPX.landsZ hh fun h3 fl up3 => fin_on hs hf hex ok tk J nb ((up.trans up1).trans up3) na os ag fl hsu hw)⟩
  have sky : Sky B (X.env :: X.outer) a (L2N.Zn cls d) X.env.locals s'.heap := hs ▸ sky
  rcases sky with ⟨hB, hn, hl, oe, vs, he, hz, hd, h1⟩ | fl | hh
  · exact PXN.look_newZ L2N.Zn.steady hfr hl hf he hB hn hd h1 hz fin
  · exact PXN.looks_onZ L2N.Zn.steady hfr hf fl fin
  · exact HandSPX.againZ hf hh.2.2.2 (fin s'.heap hh (Heap.UpToSlots.refl _))
end
end PD

set_option autoImplicit false
namespace PD
open PySem PySem.Spec PyProof.Rows L2

def okName (x : Str) : Bool := !(x == ("__debug__" : Str)) && !(x == ("__classdict__" : Str)) && !(x == ("__name__" : Str))
theorem okName_ok {x : Str} (h : okName x = true) : (x == ("__debug__" : Str)) = false ∧ (x == ("__classdict__" : Str)) = false ∧ x ≠ "__name__" := by
  unfold okName at h
  simp only [Bool.and_eq_true, Bool.not_eq_true'] at h
  exact ⟨h.1.1, h.1.2, fun z => by rw [z] at h; simp at h⟩
/-! ### self.f = c where an exception is in flight -/
def setA0 (ct : ClT) (f : Str) (o d : D) : MS := fun st => match modOf st o with
  | some (.ins c fs) => (match ct.set_ c f with
    | some _ => .bad
    | none => (match ct.at_ c f with
      | some .fld => if fs.length < 1000 then .ok .nx (setOf st o (.ins c (putFD f d fs))) else .bad
      | _ => .bad))
  | _ => .bad
/-- what the context is, but for what is handled -/
structure Cok0 (w : Wo) (si : SI) (X : Cx) : Prop where
  K : X.K = w.K
  N : X.N = si.N
  sc : X.env.scope = si.sc
theorem Cok.c0 {w : Wo} {si : SI} {X : Cx} (C : Cok w si X) : Cok0 w si X := ⟨C.K, C.N, C.sc⟩
def hotF (ct : ClT) (i : Nat) (f : Str) (m : M DV) : MS := m.bind fun x => (slotM i).bind fun o => setA0 ct f o.1 x.1
def flatC : Const → Option D
  | .none => some .non
  | .bool b => some (.bl b)
  | .int i => some (.int i)
  | _ => none
/-- the suite of a finally, run where an exception is in flight -/
def hotS (ct : ClT) (si : SI) : List Stmt → Option MS
  | [.Assign [.Attribute (.Name x _) f _] (.Constant c _ _) _] => if okName x = true then (match ix x si.N, flatC c with
    | some i, some d => if vis si.sc x = true then some (hotF ct i f (M.ret (d, false))) else none
    | _, _ => none) else none
  | _ => none
section
variable {w : Wo} {g : Prg} {si : SI} {k : Nat} {X : Cx} {W : WX} {pos p1 p2 p3 : Pos} {ct : ClT} {call : Str → List D → List D → Rf}
theorem d_slot0 {x : Str} {i : Nat} (C : Cok0 w si X) (hi : ix x si.N = some i) (hv : vis si.sc x = true) (hd : (x == ("__debug__" : Str)) = false) (hc : (x == ("__classdict__" : Str)) = false) :
    PE X (.Name x pos) (tD w W (slotM i)) := by
  refine PE.imp (pe_var (i := i) (by rw [C.N]; exact ix_get hi) (by rw [C.sc]; exact vis_ok hv) hd hc) fun σ H Q h => ?_
  obtain ⟨Fo, β, G, st, R, h⟩ := h
  unfold slotM at h
  split at h
  · rename_i d e
    obtain ⟨v, h1, h2⟩ := R.val i d e
    exact ⟨v, h1, h v β G H Fr.refl R (RepV.val h2)⟩
  · rename_i d e
    obtain ⟨a, h1, h2⟩ := R.own i d e
    exact ⟨_, h1, h _ β G H Fr.refl R ⟨rfl, h1, true, d, e, h2.2.2.cont⟩⟩
  · exact h.elim
theorem pe_flat {c : Const} {j : Nat} {d : D} (h : flatC c = some d) : PE X (.Constant c j pos) (tD w W (M.ret (d, false))) := by
  have z := d_constant (X := X) (w := w) (W := W) (c := c) (k := j) (pos := pos)
  cases c <;> simp only [flatC, Option.some.injEq] at h <;> first | (subst h; exact z) | (cases h; done)
theorem s_hotF {x f : Str} {i : Nat} {c : Const} {j : Nat} {d : D} {p4 : Pos} (CO : ClsOk ct w g k call) (C : Cok0 w si X) (hi : ix x si.N = some i) (hv : vis si.sc x = true) (hd : (x == ("__debug__" : Str)) = false) (hcd : (x == ("__classdict__" : Str)) = false) (hc : flatC c = some d) :
    PS X (.Assign [.Attribute (.Name x p1) f p2] (.Constant c j p3) p4) (tS w W (hotF ct i f (M.ret (d, false)))) := by
  refine ⟨fun pins s σ H D I q => ?_⟩
  refine plainObj_wpAny_Assign_Attribute (thn ((pe_flat (w := w) (W := WF) hc).run pins s σ H (fun y H1 => tD w WF (slotM i) σ H1 fun x H2 => ∀ (ov u : Value) (s2 : Shared), Inv X pins σ H2 s2 → RelV x ov → RelV y u → wpAny (model X.prog X.w) X.A (setAttr ov f u) (fun _ s' => ∃ σ' H', Inv X pins σ' H' s' ∧ D.nx σ' H') X.xe s2) I ?_) fun u s1 ⟨y, H1, I1, ry, q⟩ => thn ((d_slot0 C hi hv hd hcd).run pins s1 σ H1 _ I1 q) fun ov s2 ⟨x, H2, I2, rx, q2⟩ => q2 ov u s2 I2 rx ry) rfl
  obtain ⟨Fo, β, G, st, R, q⟩ := q
  refine ⟨Fo, β, G, st, R, fun v β1 G1 H1 F1 R1 V1 => ⟨Fo, β1, G1, st, R1, ?_⟩⟩
  have q : OutS w W Fo β G H D (((slotM i).bind fun o => setA0 ct f o.1 d) st) := q
  have r1 : Rep w β1 G1 d v := repV_rep V1 (by cases c <;> simp only [flatC, Option.some.injEq] at hc <;> first | (subst hc; rfl) | (cases hc; done)) (by cases c <;> simp only [flatC, Option.some.injEq] at hc <;> first | (subst hc; intro i z; cases z) | (cases hc; done))
  unfold M.bind at q
  cases e3 : slotM i st with
  | exc c fs st3 =>
    unfold slotM at e3
    split at e3 <;> cases e3
  | bad => rw [e3] at q; exact q.elim
  | ok x st3 =>
    obtain ⟨od, of⟩ := x
    rw [e3] at q
    intro vo β3 G3 H3 F3 R3 V3 ov u s2 I2 rx ry
    have q := OutS.trans (F1.s.trans F3.s) _ q
    have r3 := Rep.mono F3.g F3.b d v r1
    simp only [setA0] at q
    split at q
    · rename_i c fs hm
      obtain ⟨p, rfl, ⟨dx, gs, ea, rf⟩, hg, hw⟩ := write_ok R3 V3 hm
      obtain rfl : ov = Value.ref p := rx
      split at q
      · exact q.elim
      · split at q
        · rename_i ha
          obtain ⟨hc, hn⟩ := CO.at_ c f _ ha
          have hn : NoAttr w.K (w.ca c) f := hn
          by_cases hl : fs.length < 1000
          · rw [if_pos hl] at q
            refine setattr_ok I2 ea (by rw [C.K]; exact hc) (by rw [C.K]; exact hn) (by rw [rf.len]; exact hl) ry fun s3 I3 => ⟨σ, _, I3, ?_⟩
            obtain ⟨F5, R5⟩ := hw (.ins (w.ca c) dx (putF f v gs)) (.ins c (putFD f d fs)) ⟨dx, _, upd_same, rf.put r3⟩
            exact q σ β3 G3 _ F5.s R5
          · rw [if_neg hl] at q; exact q.elim
        · exact q.elim
    · exact q.elim
theorem hotS_ok {b : List Stmt} {m : MS} (CO : ClsOk ct w g k call) (C : Cok0 w si X) (h : hotS ct si b = some m) : PSs X b (tS w W m) := by
  unfold hotS at h
  split at h
  · rename_i x _ f _ c _ _ _
    split at h
    · rename_i ho
      obtain ⟨c1, c2, _⟩ := okName_ok ho
      split at h
      · rename_i i d hi hc
        split at h
        · rename_i hv
          cases h
          refine PSs.imp (s_cons (s_hotF (W := W) CO C hi hv c1 c2 hc) s_nil) fun D σ H q => ?_
          obtain ⟨Fo, β, G, st, R, q⟩ := q
          refine ⟨Fo, β, G, st, R, ?_⟩
          unfold seqM M.bind
          cases e : hotF ct i f (M.ret (d, false)) st with
          | ok fl st1 => rw [e] at q; cases fl <;> exact q
          | exc c fs st1 => rw [e] at q; exact q
          | bad => rw [e] at q; exact q
        · cases h
      · cases h
    · cases h
  · cases h
end
/-! ### try: .. finally: .. -/
def finX (m n x : MS) : MS := fun st => match m st with
  | .ok .nx st1 => calmR (n st1)
  | .exc c fs st1 => (match x st1 with
    | .ok .nx st2 => .exc c fs st2
    | _ => .bad)
  | _ => .bad
/-- the def's own frame -/
structure CokT (X : Cx) : Prop where
  hs : X.stack = X.env :: X.outer
  hf : X.env.frame = some X.env.locals
  ex : X.ex = []
section
variable {w : Wo} {g : Prg} {si : SI} {k : Nat} {X : Cx} {W : WX} {m n x : MS} {pos : Pos} {body : List Stmt} {f0 : Stmt} {fs : List Stmt}
theorem xd_apart {Fo : Addr → Prop} {β : List Addr} {G H : Hp} {σ : L2.St} {st : St} (R : RS w Fo β G H σ st) {dx : Addr} {gs : List (Str × V)} (e : H dx = some (.xd gs)) : dx ∉ β ∧ NoOwn σ st dx := by
  have no : ∀ d, ¬ Own w β G H dx d := fun d o => by
    cases d with
    | lst ds => obtain ⟨_, vs, e2, r⟩ := o; rw [e] at e2; cases e2
    | dct ds => obtain ⟨_, vs, e2, r⟩ := o; rw [e] at e2; cases e2
    | dtt ds => obtain ⟨_, vs, e2, r⟩ := o; rw [e] at e2; cases e2
    | ins c fs => obtain ⟨dx, gs, e2, r⟩ := o; rw [e] at e2; cases e2
    | _ => exact o.elim
  refine ⟨fun hb => ?_, fun i d h1 h2 => ?_⟩
  · obtain ⟨n, hn⟩ := List.getElem?_of_mem hb
    have hl : n < st.sto.length := by rw [← R.len]; exact (List.getElem?_eq_some_iff.mp hn).1
    exact no _ (R.sto n st.sto[n] dx (by simp [hl]) hn).2
  · obtain ⟨b, q1, _, _, q4⟩ := R.own i d h1
    rw [h2] at q1
    cases q1
    exact no _ q4
theorem s_finX (CT : CokT X) (tk : L2N.Takes X W) (hb : ∀ (W' : WX) (pn : List (Addr × Obj)) (xe : Value → Shared → Prop), L2N.Takes (X.tr pn xe) W' → PassesOwn (model X.prog X.w) X.A X.env xe → PSs (X.tr pn xe) body (tS w W' m)) (hf : PSs X.nox (f0 :: fs) (tS w WF n))
    (hsu : ∀ (a : Addr) (pn : List (Addr × Obj)), PSs (X.suite a pn) (f0 :: fs) (tS w WF x)) : PS X (.Try body [] [] (f0 :: fs) pos) (tS w W (finX m n x)) := by
  refine ⟨fun pins s σ H D I h => ?_⟩
  have ok := I.ok
  obtain ⟨Fo, β, G, st, R, q⟩ := h
  refine wpAny_Try_finally ?_
  refine wpAny_mono ((hb (wFin (tS w WF x) W) (X.pn ++ pins) (fun x s₁ => wpAny (model X.prog X.w) X.A (noteFrame x X.env) (fun _ s₂ => FinallyRaised X.prog X.w X.A X.xe X.env (f0 :: fs) (SP X pins D) x s₂) (FinallyRaised X.prog X.w X.A X.xe X.env (f0 :: fs) (SP X pins D)) s₁) (fun u s' xx => fin_excN CT.hs CT.hf CT.ex ok tk hsu xx) PassesOwn.looking).run [] s σ H
    { nx := fun σ1 H1 => tS w WF n D σ1 H1, rt := fun _ _ => False } (I.toTry _) ⟨Fo, β, G, st, R, ?_⟩) (fun gg s1 z => ?_) (fun x s1 hx => hx)
  · unfold finX at q
    cases e : m st with
    | ok fl st1 =>
      rw [e] at q
      cases fl with
      | nx => exact fun σ' β' G' H' F' R' => ⟨Fo, β', G', st1, R', calm_out (q.trans F')⟩
      | bk => exact q.elim
      | ct => exact q.elim
      | rt x => exact q.elim
    | bad => rw [e] at q; exact q.elim
    | exc c fs st1 =>
      rw [e] at q
      simp only at q
      cases e2 : x st1 with
      | ok fl st2 =>
        rw [e2] at q
        cases fl with
        | nx =>
          intro σ' β' G' H' dx gs F' R' hx rx
          show tS w WF x _ σ' H'
          obtain ⟨nb, no⟩ := xd_apart R' hx
          by_cases hG : G' dx = none
          · refine ⟨_, β', G', st1, R'.hold hx hG nb no (fun xs z => by cases z) (fun xs z => by cases z), ?_⟩
            rw [e2]
            intro σ2 β2 G2 H2 F2 R2
            exact q σ2 β2 G2 H2 dx gs (F'.trans ⟨F2.g, F2.b, fun a ha => F2.kp a (.inl ha)⟩) (R2.weak fun a ha => .inl ha) ((F2.kp dx (.inr rfl)).trans hx) (RepsF.mono F2.g F2.b fs gs rx)
          · obtain ⟨o, ho⟩ := Option.ne_none_iff_exists'.mp hG
            have eo := R'.sub dx o ho
            rw [hx] at eo
            cases eo
            refine ⟨Fo, β', G', st1, R', ?_⟩
            rw [e2]
            intro σ2 β2 G2 H2 F2 R2
            exact q σ2 β2 G2 H2 dx gs (F'.trans F2) R2 (R2.sub _ _ (F2.g.ex ho rfl)) (RepsF.mono F2.g F2.b fs gs rx)
        | bk => exact q.elim
        | ct => exact q.elim
        | rt x => exact q.elim
      | exc c fs st2 => rw [e2] at q; exact q.elim
      | bad => rw [e2] at q; exact q.elim
  · cases gg with
    | ret u => obtain ⟨_, _, _, _, _, q⟩ := z; exact q.elim
    | brk => obtain ⟨_, _, _, q⟩ := z; exact q.elim
    | cont => obtain ⟨_, _, _, q⟩ := z; exact q.elim
    | next =>
      obtain ⟨σ1, H1, J1, q1⟩ := z
      refine wpAny_execs_nil ?_
      refine wpAny_mono (hf.run pins s1 σ1 H1 D ((J1.ofTry ok).wish _) q1) (fun g2 s2 q2 => ?_) fun _ _ e => False.elim e
      have q3 : SP X pins D g2 s2 := q2.unwish
      cases g2 <;> exact q3
end
end PD

set_option autoImplicit false
namespace PD
open PySem PySem.Spec PyProof.Rows L2
open PySem.HandSPX (FlyingZ HeldZ TracedZ)

/-! ### try: .., clauses that name the exception -/
/-- an exception of the kind Z in the air; a context that takes such -/
def XEz (Z : Value → Option Addr → Obj → Prop) (X : Cx) (W : WX) (u : Value) (s' : Shared) : Prop :=
  ∃ (a : Addr) (B : Heap) (sI : Shared) (pins : List (Addr × Obj)) (σ : L2.St) (H : Hp) (cls : Value) (d : Option Addr),
    u = .ref a ∧ Inv X pins σ H sI ∧ (∀ b o, sI.heap.get? b = some o → b ∉ frs X.stack → B.get? b = some o) ∧ sI.heap.UpToSlots s'.heap ∧ Sky B X.stack a (Z cls d) X.env.locals s'.heap ∧ H a = none ∧ s'.os = sI.os ∧ AllBare s'.gens ∧ W cls d σ H
def TkZ (Z : Value → Option Addr → Obj → Prop) (X : Cx) (W : WX) : Prop := ∀ u s', XEz Z X W u s' → X.xe u s'
/-- of such an exception its class is known; it may be noted and land -/
structure KindX (Z : Value → Option Addr → Obj → Prop) : Prop where
  zc : ∀ {cls : Value} {d : Option Addr} {o : Obj}, Z cls d o → Zc cls d o
  land : ∀ {M : Model} {A : Around} {E₁ : Value → Shared → Prop} {env : Env} {outer : List Env} {L a : Addr} {B : Heap} {s : Shared} {cls : Value} {d : Option Addr} {Q : Unit → Shared → Prop}, A.frames = some (env :: outer) → env.frame = some L →
    Sky B (env :: outer) a (Z cls d) L s.heap → (∀ h', FlyingZ B (env :: outer) a (Z cls d) h' → s.heap.UpToSlots h' → Q () { s with heap := h' }) → wpAny M A (noteFrame (.ref a) env) (fun _ s₂ => wpAny M A (setFlight (.ref a) none) Q E₁ s₂) E₁ s
theorem kindC : KindX Zc := ⟨fun h => h, fun h1 h2 h3 h4 => Sky.land Zc.steady h1 h2 h3 h4⟩
theorem kindN : KindX L2N.Zn := ⟨fun h => h.zc, fun h1 h2 h3 h4 => L2N.Sky.land L2N.Zn.steady h1 h2 h3 h4⟩
theorem tkN {X : Cx} {W : WX} (h : L2N.Takes X W) : TkZ L2N.Zn X W := h
theorem tkC {X : Cx} {W : WX} (h : Takes X W) : TkZ Zc X W := h
theorem tkC' {X : Cx} {W : WX} (h : TkZ Zc X W) : Takes X W := h
theorem tkN' {X : Cx} {W : WX} (h : TkZ L2N.Zn X W) : L2N.Takes X W := h
/-- what takes any exception takes those without a context -/
theorem takesN_of {X : Cx} {W : WX} (h : Takes X W) : L2N.Takes X W := fun u s' xx => by
  obtain ⟨a, B, sI, pins, σ, H, cls, d, e, I, nb, up, sky, rest⟩ := xx
  have tr : ∀ {fl : Value}, TracedZ s'.heap B a (L2N.Zn cls d) fl → TracedZ s'.heap B a (Zc cls d) fl := fun ⟨oe, vs, T, oT, ts, h1, h2, r⟩ => ⟨oe, vs, T, oT, ts, h1, h2.zc, r⟩
  refine h u s' ⟨a, B, sI, pins, σ, H, cls, d, e, I, nb, up, ?_, rest⟩
  rcases sky with ⟨hB, hn, hl, oe, vs, he, hz, hd⟩ | ⟨q1, q2, q3, q4⟩ | ⟨q1, q2, q3, q4⟩
  · exact .inl ⟨hB, hn, hl, oe, vs, he, hz.zc, hd⟩
  · exact .inr (.inl ⟨q1, q2, q3, tr q4⟩)
  · exact .inr (.inr ⟨q1, q2, q3, tr q4⟩)
abbrev SuiteT := Addr → Value → Option Addr → TS
/-- behind the suite the clause's name is gone -/
def gone (i : Nat) (D : Ends) : Ends := ⟨fun σ H => D.nx (σ.set i none) H, D.rt, fun σ H => D.bk (σ.set i none) H, fun σ H => D.ct (σ.set i none) H⟩
def wClauses (K : PySem.W.Frag) (Wout : WX) (i : Nat) (D : Ends) : List (Value × SuiteT) → WX
  | [] => Wout
  | p :: l => fun cls d σ H => ∃ b, PySem.W.exmOne K cls p.1 = some b ∧ if b = true then ∀ a, H a = none → p.2 a cls d (gone i D) (σ.set i (some (.ref a))) H else wClauses K Wout i D l cls d σ H
inductive Clauses (Z : Value → Option Addr → Obj → Prop) (X : Cx) (n : Str) : List ExceptHandler → List (Value × SuiteT) → Prop
  | nil : Clauses Z X n [] []
  | cons {x : Str} {p : Value × SuiteT} {b : Stmt} {bs : List Stmt} {np q : Pos} {hds : List ExceptHandler} {l : List (Value × SuiteT)} (hc : Names X x p.1)
      (hsu : ∀ (a : Addr) (oe : Obj) (cls : Value) (d : Option Addr) (pn : List (Addr × Obj)), Z cls d oe → (∃ vs, oe.data = .fields vs) → PSs (X.suite a ((a, oe) :: pn)) (b :: bs) (p.2 a cls d)) (r : Clauses Z X n hds l) :
      Clauses Z X n (.ExceptHandler (some (.Name x np)) (some n) (b :: bs) q :: hds) (p :: l)
section
variable {Z : Value → Option Addr → Obj → Prop} {X : Cx} {pins : List (Addr × Obj)} {Wout : WX} {D : Ends} {σ : L2.St} {H : Hp} {n : Str} {i : Nat}
/-- no clause was its own: it flies on -/
theorem try_on (hs : X.stack = X.env :: X.outer) (hf : X.env.frame = some X.env.locals) (tk : TkZ Z X Wout) {a : Addr} {B : Heap} {sI s1 : Shared} {cls : Value} {d : Option Addr} {w : String} (J : Inv X pins σ H sI)
    (nb : ∀ b o, sI.heap.get? b = some o → b ∉ frs X.stack → B.get? b = some o) (up : sI.heap.UpToSlots s1.heap) (na : H a = none) (os : s1.os = sI.os) (ag : AllBare s1.gens) (fl : FlyingZ B (X.env :: X.outer) a (Z cls d) s1.heap) (hw : Wout cls d σ H) :
    wpAny (model X.prog X.w) X.A (PySem.passOn w (.ref a) X.env) (SP X pins D) X.xe s1 := by
  obtain ⟨st, nB, ff, oe, vs, T, oT, ts, ha, hz, hd, h1, hr⟩ := id fl
  have goOn : wpAny (model X.prog X.w) X.A (setFlight (.ref a) X.env.frame) (fun _ s4 => wpAny (model X.prog X.w) X.A (throw (.ref a) : Sem Flow) (SP X pins D) X.xe s4) X.xe s1 := by
    rw [hf]
    exact HandSPX.setFlight_upZ fl fun h4 hh up4 => wpAny_throw (tk _ _ ⟨a, B, sI, pins, σ, H, cls, d, rfl, J, nb, up.trans up4, .inr (.inr (hs ▸ hh)), na, os, ag, hw⟩)
  unfold PySem.passOn
  refine wpAny_bind (wpAny_field ha hd h1 ?_)
  rw [if_neg (by simp)]
  first
    | exact wpAny_bind (wpAny_pure (wpAny_bind goOn))
    | exact wpAny_bind goOn
/-- the clauses, one after the other -/
theorem clauses_run (ZK : KindX Z) (hs : X.stack = X.env :: X.outer) (hf : X.env.frame = some X.env.locals) (hN : X.N.Nodup) (hi : X.N[i]? = some n) (hln : X.env.kindOf n = some .local) (ok : X.Ok) (tk : TkZ Z X Wout) {a : Addr} {B : Heap} {sI s1 : Shared} {cls : Value} {d : Option Addr} (J : Inv X pins σ H sI)
    (nb : ∀ b o, sI.heap.get? b = some o → b ∉ frs X.stack → B.get? b = some o) (up : sI.heap.UpToSlots s1.heap) (na : H a = none) (os : s1.os = sI.os) (ag : AllBare s1.gens) (fl : FlyingZ B (X.env :: X.outer) a (Z cls d) s1.heap) :
    ∀ {hds : List ExceptHandler} {l : List (Value × SuiteT)}, Clauses Z X n hds l → wClauses X.K Wout i D l cls d σ H → wpAny (model X.prog X.w) X.A (handleBy (.ref a) X.env hds) (SP X pins D) X.xe s1 := by
  have J1 : Inv X pins σ H s1 := J.landed nb fl.1 up os ag
  have off : ∀ {h : Heap} {o : Obj} {xs : Array Value}, h.FunFrames B (X.env :: X.outer) → h.get? a = some o → o.data = .fields xs → a ≠ X.env.locals ∧ a ∉ X.fs := fun {h o xs} ff e dd => by
    have no : a ∉ frs (X.env :: X.outer) := fun hm => by
      obtain ⟨_, o', e', hnf⟩ := ff.mem hm
      rw [e] at e'
      cases e'
      exact hnf _ dd
    refine ⟨fun z => no (List.mem_filterMap.mpr ⟨X.env, List.mem_cons_self, by rw [hf, z]⟩), fun hm => ?_⟩
    obtain ⟨e, he, q⟩ := List.mem_filterMap.mp hm
    exact no (List.mem_filterMap.mpr ⟨e, List.mem_cons_of_mem _ he, q⟩)
  obtain ⟨oe, vs, ha, hz, hd⟩ := fl.there
  obtain ⟨nL, nF⟩ := off fl.2.2.1 ha hd
  have S1 := J1.suite ha hd na nL nF
  intro hds l hk
  induction hk with
  | nil => exact fun w => wpAny_handleBy_nil (try_on hs hf tk J nb up na os ag fl w)
  | @cons x p b₀ bs np q hds l hc hsu r ih =>
    intro w
    obtain ⟨b, hb, w⟩ := w
    refine wpAny_handleBy_cons (codeAny_handlers_test ?_) (by intro q; cases q)
    have LT : PySem.W.Looks (model X.prog X.w) s1.heap (typeOf (.ref a)) cls := fun A Q E s k q => wpAny_typeOf_ref (k _ _ ha) (by rw [(ZK.zc hz).1]; exact q)
    have LM := PySem.W.exm_one (M := model X.prog X.w) J1.kIn LT hb
    have test : ∀ {Q : Value → Shared → Prop} {E : Value → Shared → Prop}, Q p.1 s1 → wpAny (model X.prog X.w) (X.A.mark (some (.ref a))) (eval (.Name x np) X.env) Q E s1 := fun {Q E} q => by
      obtain ⟨hg, hdbg, hm | ⟨hm, hv, hnn⟩⟩ := hc
      · exact ld_glob (X := X.suite a ((a, oe) :: (X.pn ++ pins))) S1 hg hm q hdbg
      · exact ld_blt (X := X.suite a ((a, oe) :: (X.pn ++ pins))) S1 hg hm hv q hnn hdbg
    refine test (LM.here ?_)
    cases b with
    | false =>
      show wpAny _ X.A (handleBy (.ref a) X.env hds) _ _ _
      exact ih w
    | true =>
      have w : ∀ a, H a = none → p.2 a cls d (gone i D) (σ.set i (some (.ref a))) H := w
      refine codeAny_handlers_suite_as (HandSPX.lands_againZ fl fun h4 fl4 up4 => ?_)
      have J4 : Inv X pins σ H { s1 with heap := h4 } := J.landed nb fl4.1 (up.trans up4) os ag
      obtain ⟨oe4, vs4, ha4, hz4, hd4⟩ := fl4.there
      refine store_ok (X := X.suite a ((a, oe4) :: (X.pn ++ pins))) (v := .ref a) (J4.suite ha4 hd4 na nL nF) hN hi (.inl hln) rfl (fun s5 S5 => ?_) (.inr hln)
      refine wpAny_mono ((hsu a oe4 cls d (X.pn ++ pins) hz4 ⟨_, hd4⟩).run [] s5 _ H _ S5 (w a na)) (fun f s6 z => ?_) (fun _ _ z => z.elim)
      have bye : ∀ {σ6 : L2.St} {H6 : Hp} {Q : Shared → Prop}, Inv (X.suite a ((a, oe4) :: (X.pn ++ pins))) [] σ6 H6 s6 → (∀ s7, Inv X pins (σ6.set i none) H6 s7 → Q s7) →
          wpAny (model X.prog X.w) X.A (do bindName X.env n .none; unbindBehindTheSuite X.env n q) (fun _ s7 => Q s7) X.xe s6 := fun S6 hq => gone_ok (S6.unsuite ok) hN hi hln hq
      cases f with
      | ret u =>
        obtain ⟨v6, σ6, H6, S6, r6, q6⟩ := z
        exact bye S6 fun s7 J7 => ⟨_, _, _, J7, r6, q6⟩
      | next =>
        obtain ⟨σ6, H6, S6, q6⟩ := z
        exact bye S6 fun s7 J7 => ⟨_, _, J7, q6⟩
      | brk =>
        obtain ⟨σ6, H6, S6, q6⟩ := z
        exact bye S6 fun s7 J7 => ⟨_, _, J7, q6⟩
      | cont =>
        obtain ⟨σ6, H6, S6, q6⟩ := z
        exact bye S6 fun s7 J7 => ⟨_, _, J7, q6⟩
theorem ps_try_clauses (ZK : KindX Z) {body : List Stmt} {h₀ : ExceptHandler} {hds : List ExceptHandler} {l : List (Value × SuiteT)} {pos : Pos} {tb : WX → TS} (hs : X.stack = X.env :: X.outer) (hf : X.env.frame = some X.env.locals) (hN : X.N.Nodup) (hi : X.N[i]? = some n) (hln : X.env.kindOf n = some .local) (tk : TkZ Z X Wout)
    (hb : ∀ (W : WX) (pn : List (Addr × Obj)) (xe : Value → Shared → Prop), TkZ Z (X.tr pn xe) W → PassesOwn (model X.prog X.w) X.A X.env xe → PSs (X.tr pn xe) body (tb W)) (hk : Clauses Z X n (h₀ :: hds) l) :
    PS X (.Try body (h₀ :: hds) [] [] pos) (fun D σ H => tb (wClauses X.K Wout i D l) D σ H) := by
  refine ⟨fun pins s σ H D I h => ?_⟩
  have ok := I.ok
  have hfr : X.A.frames = some (X.env :: X.outer) := by rw [ok.frames, hs]
  refine wpAny_Try_except ?_
  refine wpAny_mono ((hb (wClauses X.K Wout i D l) (X.pn ++ pins) (fun e s₁ => wpAny (model X.prog X.w) X.A (noteFrame e X.env) (fun _ s₂ => wpAny (model X.prog X.w) X.A (setFlight e none) (fun _ s₃ =>
    wpAny (model X.prog X.w) X.A (handleBy e X.env (h₀ :: hds)) (SP X pins D) X.xe s₃) X.xe s₂) X.xe s₁) (fun u s' xx => ?_) PassesOwn.looking).run [] s σ H D (I.toTry _) h) (fun f s1 z => ?_) (fun e s1 he => he)
  · obtain ⟨a, B, sI, pins', σ', H', cls, d, rfl, J', nb, up, sky, na, os, ag, w⟩ := xx
    exact ZK.land hfr hf (hs ▸ sky) fun h3 fl3 up3 => clauses_run ZK (s1 := { s' with heap := h3 }) hs hf hN hi hln ok tk (J'.ofTry ok) nb (up.trans up3) na os ag fl3 hk w
  · cases f with
    | next =>
      obtain ⟨σ', H', J', q⟩ := z
      exact wpAny_execs_nil ⟨σ', H', J'.ofTry ok, q⟩
    | brk =>
      obtain ⟨σ', H', J', q⟩ := z
      exact ⟨σ', H', J'.ofTry ok, q⟩
    | cont =>
      obtain ⟨σ', H', J', q⟩ := z
      exact ⟨σ', H', J'.ofTry ok, q⟩
    | ret u =>
      obtain ⟨v, σ', H', J', r, q⟩ := z
      exact ⟨v, σ', H', J'.ofTry ok, r, q⟩
end
end PD

set_option autoImplicit false
namespace PD
open PySem PySem.Spec PyProof.Rows L2
open L2H (RoomH PinOk cxH)

/-! ### a def called in an except suite that raises nothing -/
abbrev CXno : CXT := fun _ _ _ _ _ _ => False
structure FnQ (P : Program) (w : World) (K : PySem.W.Frag) (mg : Str → Option Value) (base : Heap) (k : Nat) (f : Addr) (fd : FuncData) (ps : List Str) (sp : Addr × Obj → Sp) : Prop where
  len : ∀ p vs H Q E, sp p vs H Q E → vs.length = ps.length
  run : ∀ (A : Around) (outer : List Env) (s : Shared) (H : Hp) (args : Args) (us : List Value) (vs : List V) (Q : VK) (p : Addr × Obj), RoomH k A → PinOk outer H s p → Env0 P w K mg base A outer s H → BindsTo s fd args (ps.zip us) → Vals vs us → sp p vs H Q (fun _ _ _ => False) →
    codeAny (model P w) A (.call (.ref f) args) (CR CXno outer P w H s Q fun _ _ _ => False) s
section
variable {P : Program} {w : World} {K : PySem.W.Frag} {mg : Str → Option Value} {base : Heap} {k : Nat} {f : Addr} {name qual : Str} {params : Arguments} {body : List Stmt} {scope : Scope} {dV kV doc pm cdv ct oc : Value} {an od : Option Addr} {osl : Array (Option Value)} {N ps : List Str} {sp : Addr × Obj → Sp}
theorem fn_ofQ (lk : K.lookup f = some ⟨oc, od, .func (PySem.W.fnOf name qual params body scope dV kV doc pm an cdv ct), osl⟩) (hcd : PySem.W.codeIn K cdv qual = true) (S : FnScope N ps scope) (len : ∀ p vs H Q E, sp p vs H Q E → vs.length = ps.length)
    (hbody : ∀ (A : Around) (outer : List Env) (s : Shared) (H : Hp) (vs : List V) (Q : VK) (p : Addr × Obj), RoomH k (A.deeper (envOfC qual scope s.heap.objs.size f cdv)) → sp p vs H Q (fun _ _ _ => False) →
      ∃ t, PSs (cxH CXno P w K mg base N qual scope f cdv A outer s H (fun _ _ _ => False) p) body t ∧ t { nx := fun _ H' => Q .non H', rt := Q } (L2.start N vs) H) :
    FnQ P w K mg base (k + 1) f (PySem.W.fnOf name qual params body scope dV kV doc pm an cdv ct) ps sp where
  len := len
  run := fun A outer s H args us vs Q p hr hpin e0 hb r hsp => by
    have KX : K.In s.heap := e0.mod.kin.keeps fun b o e => (e0.bs b o e).1
    have par : ∀ y ∈ ps.zip us, scope.names.lookup y.1 = some .local ∨ (scope.names.lookup y.1 = some .cell ∧ ((cellsFrom (s.heap.objs.size + 1) scope.names []).lookup y.1).isSome = true) := fun y hy =>
      (S.par y.1 (List.of_mem_zip (a := y.1) (b := y.2) hy).1).imp id fun q => ⟨q, PySem.W.cellsFrom_some _ _ _ (.inl q)⟩
    refine codeAny_call_function hr.depth (KX _ _ lk) rfl S.co S.gen rfl (PySem.W.codeRec_of KX hcd) (hb _ _ _ _ (wpAny_newFunctionEnv_cells S.kind par fun env he s1 x => ?_))
    subst he
    obtain ⟨t, ht, hq⟩ := hbody A outer s H vs Q p (hr.deeper _) hsp
    refine ⟨(e0.mod.nolimit.keeps fun b o e => (e0.bs b o e).1).keeps x.toInCall.keep, codeAny_func (wpAny_mono (ht.run [] s1 _ H _ (L2H.inv_startH S hpin e0 (len _ _ _ _ _ hsp) r x) hq) (fun fl s' z => ?_) fun e s' z => z)⟩
    cases fl with
    | ret u =>
      obtain ⟨v, _, H', J, rv, q⟩ := z
      exact ⟨v, H', J.os, J.bare, J.base, J.hok, rv, q⟩
    | next =>
      obtain ⟨_, H', J, q⟩ := z
      exact ⟨.non, H', J.os, J.bare, J.base, J.hok, rfl, q⟩
    | brk =>
      obtain ⟨_, _, _, q⟩ := z
      exact q.elim
    | cont =>
      obtain ⟨_, _, _, q⟩ := z
      exact q.elim
/-- f(e, ..) in such a suite: p is the exception that is handled -/
theorem pe_callQ {X : Cx} {fd : FuncData} {x : Str} {q pos : Pos} {e : Expr} {es : List Expr} {t : TA} {p : Addr × Obj} (F : FnQ X.prog X.w X.K X.mg X.base k f fd ps sp) (hp : p ∈ X.pn) (hr : RoomH k X.A) (hg : Gl X x) (hm : X.mg x = some (.ref f)) (hk : PySem.W.keepIn X.K (.ref f) = true) (hb : Binds X.K fd ps []) (ha : PA X (e :: es) t)
    (hdb : (x == ("__debug__" : Str)) = false := by decide) (he : starEach (e :: es) X.env = (false, eval e X.env) :: starEach es X.env := by rfl) (hpl : (backTo pos (starEach es X.env)).any (·.1) = false := by rfl) :
    PE X (.Call (.Name x q) (e :: es) [] pos) (fun σ H Q => t σ H fun vs H1 => sp p vs H1 Q (fun _ _ _ => False)) := by
  refine ⟨fun pins s σ H Q I h => ?_⟩
  refine wpAny_Call_Name_kw (ld_glob I hg hm ?_ hdb)
  refine PySem.W.callWith_K (h₀ := X.base) I.ok.mod.kin hk (thn (ha.run pos pins s σ H _ I h) fun us s1 z => ?_) he hpl
  obtain ⟨vs, H1, I1, r, h1⟩ := z
  have P1 := I1.pin p (List.mem_append_left _ hp)
  have bnd := hb s1 us I1.kIn (by rw [List.append_nil, ← r.length]; exact F.len _ _ _ _ _ h1)
  rw [List.append_nil] at bnd
  refine ⟨I1.kIn, wpAny_call (codeAny_mono (F.run X.A X.stack s1 H1 ⟨us, []⟩ us vs Q p hr ⟨P1.1, P1.2.1, fun hm => (List.mem_cons.mp (I1.stkSub p.1 hm)).elim P1.2.2.1 P1.2.2.2.1, P1.2.2.2.2⟩ I1.env0 bnd r h1) fun r s' z => ?_)⟩
  cases r with
  | error er => exact (show False from z).elim
  | ok fl =>
    cases fl with
    | ret u => exact I1.after z
    | next => exact z.elim
    | brk => exact z.elim
    | cont => exact z.elim
end
/-! ### a field of the exception that is handled -/
section
variable {X : Cx} {a C dd : Addr} {oe : Obj}
/-- e.n, e the handled exception: gs its fields -/
def tXfG (a dd : Addr) (n : Str) (te : TE) : TE := fun σ H Q => te σ H fun x H1 => x = .ref a ∧ ∃ (gs : List (Str × V)) (v : V), H1 dd = some (.xd gs) ∧ gs.lookup n = some v ∧ Q v H1
theorem pe_xfG {e : Expr} {te : TE} {pos : Pos} {n : Str} (hp : (a, oe) ∈ X.pn) (T : XfC X.K C) (hno : PySem.W.findIn X.K (.ref C) n = some none) (hz : Zc (.ref C) (some dd) oe) (hf : ∃ vs, oe.data = .fields vs) (he : PE X e te) (hb : attributeBase e n X.env (eval e X.env) = eval e X.env := by rfl) :
    PE X (.Attribute e n pos) (tXfG a dd n te) := by
  refine ⟨fun pins s σ H Q I h => attr_of hb (thn (he.run pins s σ H _ I h) fun u s1 z => ?_)⟩
  obtain ⟨x, H1, I1, rx, rfl, gs, v, ea, l, q⟩ := z
  obtain rfl : u = Value.ref a := rx
  obtain ⟨ha, _⟩ := I1.pin (a, oe) (List.mem_append_left _ hp)
  obtain ⟨vs, hd⟩ := hf
  obtain ⟨mA, hns, hr⟩ := (show ObjOk X.prog X.w H1 s1.heap dd (.xd gs) from I1.hok dd _ ea)
  obtain ⟨od, ho, hl⟩ := lookIn_ns hns
  obtain ⟨u, hu, ru⟩ := RelO.some_of (v := v) (o := mA n) (by rw [← l]; exact hr n)
  exact HandSPX.exc_get I1.kIn (ox := oe) (od := some od) ⟨ha, hz.1, by unfold PySem.W.notCls; rw [hd] <;> rfl, by rw [hz.2]; exact ho⟩ T.ga T.gg T.exC (PySem.W.findObj_own T.hdC hno rfl (by rw [hl, hu])) (handed_of ru) ⟨v, H1, I1.tok _, ru, q⟩
end
/-! ### a def that looks at the tag and gives a field: if e.tag in [..]: return e.f .. -/
def lfE (x : Str) : Expr → Option Str
  | .Attribute (.Name y _) f _ => if y = x then some f else none
  | _ => none
def lfR (x : Str) : List Stmt → Option (Option Str)
  | [.Return (some (.Constant .none _ _)) _] => some none
  | [.Return (some e) _] => (lfE x e).map some
  | _ => none
def lfStrs : List Expr → Option (List Str)
  | [] => some []
  | .Constant (.str z) _ _ :: r => (lfStrs r).map (z :: ·)
  | _ => none
def lfTest (x tag : Str) : Expr → Option Bool
  | .Compare e [.In] [.List es _] _ => if lfE x e = some ("tag" : Str) then (match lfStrs es with
    | some zs => if (SeqAt.shaped (.list (zs.map PyData.str)) = true ∧ zs.length ≤ sizeLine) ∧ SeqAt.shaped (.str tag) = true then some (zs.any fun z => PyData.eqv (.str z) (.str tag)) else none
    | none => none) else none
  | .Compare e [.Eq] [.Constant (.str z) _ _] _ => if lfE x e = some ("tag" : Str) ∧ SeqAt.shaped (.str tag) = true ∧ SeqAt.shaped (.str z) = true then some (PyData.eqv (.str tag) (.str z)) else none
  | _ => none
def lfGo (x tag : Str) : List Stmt → Option (Option Str)
  | .If c b [] _ :: r => match lfTest x tag c with
    | some true => lfR x b
    | some false => lfGo x tag r
    | none => none
  | b => lfR x b
section
variable {X : Cx} {a C dd : Addr} {oe : Obj} {x tag : Str} {gs : List (Str × V)}
/-- the readings stand while the exception does -/
structure LfC (X : Cx) (a C dd : Addr) (oe : Obj) (x : Str) (tag : Str) (f : Option Str) : Prop where
  hp : (a, oe) ∈ X.pn
  T : XfC X.K C
  hz : Zc (.ref C) (some dd) oe
  hf : ∃ vs, oe.data = .fields vs
  ht : PySem.W.findIn X.K (.ref C) ("tag" : Str) = some none
  hn : ∀ n, f = some n → PySem.W.findIn X.K (.ref C) n = some none
  N : X.N[0]? = some x
  V : Vis X.env.scope x
  d1 : (x == ("__debug__" : Str)) = false
  d2 : (x == ("__classdict__" : Str)) = false
  hu : X.A.units + 65 < cLine
theorem pss_no {b : List Stmt} : PSs X b (fun _ _ _ => False) := ⟨fun _ _ _ _ _ _ h => h.elim⟩
theorem lfE_ok {f : Option Str} (L : LfC X a C dd oe x tag f) {e : Expr} {n : Str} (h : lfE x e = some n) (hno : PySem.W.findIn X.K (.ref C) n = some none) : PE X e (tXfG a dd n (tVar 0)) := by
  unfold lfE at h
  split at h
  · split at h
    · rename_i y _ m _ e1
      subst e1
      cases h
      exact pe_xfG L.hp L.T hno L.hz L.hf (pe_var L.N L.V L.d1 L.d2)
    · cases h
  · cases h
theorem lfStrs_ok : ∀ {es : List Expr} {zs : List Str}, lfStrs es = some zs → ∃ t, PA X es t ∧ ∀ σ H Q, Q (zs.map V.str) H → t σ H Q
  | [], zs, h => by
    cases h
    exact ⟨_, pa_nil, fun σ H Q q => q⟩
  | e :: es, zs, h => by
    unfold lfStrs at h
    split at h
    · rename_i heq; cases heq
    · rename_i z j p r heq
      cases heq
      obtain ⟨ys, h1, rfl⟩ := Option.map_eq_some_iff.mp h
      obtain ⟨t, h2, h3⟩ := lfStrs_ok (es := es) h1
      exact ⟨_, pa_cons pe_str h2, fun σ H Q q => h3 σ H _ q⟩
    · cases h
theorem dp_strs {K : PySem.W.Frag} {H : Hp} : ∀ zs : List Str, DpAll K H (zs.map V.str) (zs.map PyData.str)
  | [] => .nil
  | z :: r => .cons (.str z) (dp_strs r)
/-- what is asked of the state -/
def LfS (a dd : Addr) (gs : List (Str × V)) (σ : L2.St) (H : Hp) : Prop := σ[0]? = some (some (.ref a)) ∧ H dd = some (.xd gs)
theorem lfTest_ok {f : Option Str} (L : LfC X a C dd oe x tag f) {c : Expr} {b : Bool} (h : lfTest x tag c = some b) (hg : gs.lookup ("tag" : Str) = some (.str tag)) : ∃ t, PT X c t ∧ ∀ σ H Q, LfS a dd gs σ H → (∀ H', (∀ b o, H b = some o → H' b = some o) → Q b H') → t σ H Q := by
  unfold lfTest at h
  split at h
  · rename_i e es p1 p2
    split at h
    · rename_i he
      split at h
      · rename_i zs hz
        split at h
        · rename_i c1
          cases h
          obtain ⟨tl, h2, h3⟩ := lfStrs_ok (X := X) hz
          refine ⟨_, pt_cmpR (op_inD L.hu) (lfE_ok L he L.ht) (pe_lst h2) rfl, fun σ H Q s q => ?_⟩
          refine ⟨.ref a, s.1, rfl, gs, .str tag, s.2, hg, h3 _ _ _ ⟨by rw [List.length_map]; exact c1.1.2, fun p hp => ?_⟩⟩
          refine ⟨.str tag, zs.map PyData.str, .str tag, .lst (.inl (.inl upd_same)) (dp_strs zs), c1.2, c1.1.1, _, rfl, ?_⟩
          have e1 : ((zs.map PyData.str).any fun z => PyData.eqv z (.str tag)) = zs.any fun z => PyData.eqv (.str z) (.str tag) := by rw [List.any_map]; rfl
          rw [e1]
          exact q _ fun b o e => by rw [upd_ne (ne_of_none e hp)]; exact e
        · cases h
      · cases h
    · cases h
  · rename_i e z j p1 p2
    split at h
    · rename_i he
      cases h
      refine ⟨_, pt_cmpR (op_eqD (by have := L.hu; omega)) (lfE_ok L he.1 L.ht) pe_str rfl, fun σ H Q s q => ?_⟩
      exact ⟨.ref a, s.1, rfl, gs, .str tag, s.2, hg, .str tag, .str z, .str tag, .str z, he.2.1, he.2.2, _, rfl, q H fun _ _ e => e⟩
    · cases h
  · cases h
/-- the value that is given -/
def lfV (gs : List (Str × V)) : Option Str → V → Prop
  | some f, v => gs.lookup f = some v
  | none, v => v = .non
theorem lfR_ok {f : Option Str} (L : LfC X a C dd oe x tag f) {b : List Stmt} (h : lfR x b = some f) {v : V} (hv : lfV gs f v) : ∃ t, PSs X b t ∧ ∀ D σ H, LfS a dd gs σ H → D.rt v H → t D σ H := by
  unfold lfR at h
  split at h
  · cases h
    cases hv
    exact ⟨_, pss_one (ps_ret pe_non), fun D σ H s q => q⟩
  · obtain ⟨n, h1, rfl⟩ := Option.map_eq_some_iff.mp h
    exact ⟨_, pss_one (ps_ret (lfE_ok L h1 (L.hn n rfl))), fun D σ H s q => ⟨.ref a, s.1, rfl, gs, v, s.2, hv, q⟩⟩
  · cases h
theorem lfGo_ok {f : Option Str} (L : LfC X a C dd oe x tag f) (hg : gs.lookup ("tag" : Str) = some (.str tag)) {v : V} (hv : lfV gs f v) : ∀ {b : List Stmt}, lfGo x tag b = some f → ∃ t, PSs X b t ∧ ∀ D σ H, LfS a dd gs σ H → (∀ H', (∀ b o, H b = some o → H' b = some o) → D.rt v H') → t D σ H
  | [], h => by unfold lfGo lfR at h; cases h
  | s :: r, h => by
    unfold lfGo at h
    split at h
    · rename_i c b p r' heq
      cases heq
      split at h
      · rename_i hc
        obtain ⟨tc, h1, h2⟩ := lfTest_ok L hc hg
        obtain ⟨tb, h3, h4⟩ := lfR_ok L h hv
        refine ⟨_, pss_cons (ps_if h1 h3 pss_nil) (pss_no (b := r)), fun D σ H s q => h2 σ H _ s fun H' e => ?_⟩
        exact h4 _ σ H' ⟨s.1, e _ _ s.2⟩ (q H' e)
      · rename_i hc
        obtain ⟨tc, h1, h2⟩ := lfTest_ok L hc hg
        obtain ⟨tr, h3, h4⟩ := lfGo_ok L hg hv h
        refine ⟨_, pss_cons (ps_if h1 (pss_no (b := b)) pss_nil) h3, fun D σ H s q => h2 σ H _ s fun H' e => ?_⟩
        exact h4 D σ H' ⟨s.1, e _ _ s.2⟩ fun H2 e2 => q H2 fun b o z => e2 b o (e b o z)
      · cases h
    · obtain ⟨t, h1, h2⟩ := lfR_ok L h hv
      exact ⟨t, h1, fun D σ H s q => h2 D σ H s (q H fun _ _ e => e)⟩
end
end PD

set_option autoImplicit false
set_option maxHeartbeats 2000000
namespace PD
open PySem PySem.Spec PySem.Calls PyProof.Rows
open PySem.W (kdv_tup)
/-! ### an error's class called with a keyword -/
section
variable {M : Model} {A : Around} {E : Value → Shared → Prop} {h : Heap} {g : Array GenState} {d : Drawn} {t : Nat} {os : OsState}
variable {nm q : Str} {C N : Addr} {bs bm bmB : List Value} {hdct : Bool} {sn : List Str} {sub : List Value} {ab : Bool} {col : Option Bool} {dd : Option Addr} {k0 k1 k2 k3 k5 : Option Value} {B newId initId : String}
theorem check_newK (F : ExcBaseFacts B newId initId bmB) (hT : ∀ X : String, bm.contains (.type X) = bmB.contains (.type X)) {rest : List Value} {n : Str} {v : Value} {Q : Unit → Shared → Prop}
    (hC : h.get? C = some (excClassObj nm q C N bs bm hdct sn sub ab col dd k0 k1 k2 k3 k5 newId)) (hq : Q () ⟨h, g, d, t, os⟩) : wpAny M A (checkBuiltinCall newId ⟨.ref C :: rest, [(n, v)]⟩) Q E ⟨h, g, d, t, os⟩ := by
  have hcont : (Value.ref C :: bm).contains (.type B) = true := by rw [List.contains_cons, hT, F.hasB, Bool.or_true]
  have hstar := F.noStar
  simp only [checkBuiltinCall, F.newKind, F.newSplit, F.newRow]
  repeat (first | refine wpAny_loadPart_at hC ?_ | (refine wpAny_isSubtype_exc hC ?_; rw [hcont]) | refine wpAny_staticBase_exc hC ?_ | refine wpAny_madeBy_exc hC ?_ | simp only [bne_self_eq_false, Bool.false_eq_true, if_false] | wp_step)
  exact hq
end
section
variable {prog : Program} {w : World} {A : Around} {E : Value → Shared → Prop} {R : Result → Shared → Prop} {h : Heap} {g : Array GenState} {d : Drawn} {t : Nat} {os : OsState}
variable {nm q : Str} {C N : Addr} {bs bm bmB : List Value} {hdct : Bool} {sn : List Str} {sub : List Value} {ab : Bool} {col : Option Bool} {dd : Option Addr} {k0 k1 k2 k3 k5 : Option Value} {B newId initId : String}
theorem check_tcK {M : Model} {rest : List Value} {kw : List (Str × Value)} {Q : Unit → Shared → Prop} (hC : h.get? C = some (excClassObj nm q C N bs bm hdct sn sub ab col dd k0 k1 k2 k3 k5 newId))
    (hq : Q () ⟨h, g, d, t, os⟩) : wpAny M A (checkBuiltinCall "type.__call__" ⟨.ref C :: rest, kw⟩) Q E ⟨h, g, d, t, os⟩ := by
  have f3 := tc_sub
  have hT : (⟨h, g, d, t, os⟩ : Shared).TypeIs (.ref C) "type" := ⟨_, hC, rfl⟩
  simp only [checkBuiltinCall, tc_kind, tc_split]
  repeat (any_goals (first | assumption | with_reducible refine wpAny_loadPart_at hC ?_ | with_reducible refine wpAny_onRaise ?_ | with_reducible refine wpAny_map ?_ | wp_step))
theorem new_ownK (F : ExcBaseFacts B newId initId bmB) (hT : ∀ X : String, bm.contains (.type X) = bmB.contains (.type X)) {rest : List Value} {kw : List (Str × Value)}
    (hC : h.get? C = some (excClassObj nm q C N bs bm hdct sn sub ab col dd k0 k1 k2 k3 k5 newId))
    (hq : R (.ok (.ret (.ref (h.objs.size + 1)))) ⟨(h.push { cls := .type "tuple", data := .seq rest.toArray }).push
      { cls := .ref C, data := .fields #[.ref h.objs.size, .none, .none, .none, .bool false, .none] }, g, d, t, os⟩) (hrest : rest.length ≤ sizeLine) :
    codeAny (model prog w) A (.builtin newId ⟨.ref C :: rest, kw⟩) R ⟨h, g, d, t, os⟩ := by
  have hends := F.ends
  have hcB : (Value.ref C :: bm).contains (.type B) = true := by rw [List.contains_cons, hT, F.hasB, Bool.or_true]
  have hcA : (Value.ref C :: bm).contains (.type "AttributeError") = false := by rw [List.contains_cons, hT, F.noAttr]; rfl
  have hcN : (Value.ref C :: bm).contains (.type "NameError") = false := by rw [List.contains_cons, hT, F.noName]; rfl
  refine codeAny_builtinAt F.entry ?_
  unfold Builtin.«BaseException.__new__»
  refine PySem.wpAt_bind ?_
  show PySem.wpAt _ _ _ (stack >>= _) _ _ _
  refine PySem.wpAt_bind (PySem.wpAt_stack fun p below => PySem.wpAt_of_wpAny ?_)
  wp_walk
  refine PySem.wpAt_of_wpAny ?_
  rw [F.owner]
  repeat (first | with_reducible refine wpAny_madeHere_exc F.canon hC ?_ | with_reducible refine wpAny_loadPart_at hC ?_ | (with_reducible refine wpAny_isSubtype_exc hC ?_; first | rw [hcB] | rw [hcA] | rw [hcN]) | wp_step)
  show R _ _
  rw [Heap.size_push]
  exact hq
theorem type_callK (F : ExcBaseFacts B newId initId bmB) (hT : ∀ X : String, bm.contains (.type X) = bmB.contains (.type X)) {rest : List Value} {n : Str} {v : Value} {fI : Addr} {Q : Fin → Shared → Prop}
    (hC : h.get? C = some (excClassObj nm q C N bs bm hdct sn sub ab col dd k0 k1 k2 k3 k5 newId))
    (hi : W.Looks (model prog w) h (typeLookup (.ref C) "__init__") (some (.ref fI))) (hb : ∀ self, W.Looks (model prog w) h (bindSpecial (.ref fI) self) (.ref fI, [self])) (hrest : rest.length ≤ sizeLine)
    (hq : codeAny (model prog w) A (.call (.ref fI) ⟨.ref (h.objs.size + 1) :: rest, [(n, v)]⟩)
      (fun r s' => match r with | .ok (.ret v) => v = .none ∧ Q (.done (.ret (.ref (h.objs.size + 1)))) s' | .ok _ => False | .error e => E e s')
      ⟨(h.push (W.kdv_tup rest)).push (PySem.HandSPX.excO C h.objs.size), g, d, t, os⟩) :
    wpAny (model prog w) A (Builtin.«type.__call__» ⟨.ref C :: rest, [(n, v)]⟩) Q E ⟨h, g, d, t, os⟩ := by
  repeat (first | with_reducible refine wpAny_loadPart_at hC ?_ | with_reducible refine wpAny_madeBy_exc hC ?_ | wp_step)
  refine codeAny_call_builtin_code (Code.quiet_builtin _ F.quiet) (check_newK F hT hC ?_)
  refine new_ownK F hT hC ?_ hrest
  show wpAny _ _ _ _ _ _
  have k : ∀ b o, h.get? b = some o → ((h.push (W.kdv_tup rest)).push (PySem.HandSPX.excO C h.objs.size)).get? b = some o := fun b o e => Heap.get?_push_of_some _ (Heap.get?_push_of_some _ e)
  have hC₁ := k _ _ hC
  have hget : ((h.push (W.kdv_tup rest)).push (PySem.HandSPX.excO C h.objs.size)).get? (h.objs.size + 1) = some (PySem.HandSPX.excO C h.objs.size) := by heap_get
  have hcC : (Value.ref C :: bm).contains (.ref C) = true := by simp
  have i1 := hi.keeps k
  have b1 := (hb (.ref (h.objs.size + 1))).keeps k
  unfold isInstance
  repeat (first | with_reducible refine wpAny_loadPart_at hget ?_ | (with_reducible refine wpAny_isSubtype_exc hC₁ ?_; rw [hcC]) | wp_step)
  show wpAny _ _ (typeLookup (.ref C) _) _ _ _
  refine i1.at ?_
  refine wpAny_holding (wpAny_bind (b1.at ?_))
  refine wpAny_bind (wpAny_call (codeAny_mono hq fun r s' z => ?_))
  rcases r with e | (v | _ | _ | _) <;> first | exact z | exact z.elim | skip
  obtain ⟨rfl, z⟩ := z
  first
    | exact wpAny_pure (wpAny_pure z)
    | (wp_walk; exact z)
theorem call_ownK (F : ExcBaseFacts B newId initId bmB) (hT : ∀ X : String, bm.contains (.type X) = bmB.contains (.type X)) {rest : List Value} {n : Str} {v : Value} {fI : Addr}
    (hC : h.get? C = some (excClassObj nm q C N bs bm hdct sn sub ab col dd k0 k1 k2 k3 k5 newId))
    (hi : W.Looks (model prog w) h (typeLookup (.ref C) "__init__") (some (.ref fI))) (hb : ∀ self, W.Looks (model prog w) h (bindSpecial (.ref fI) self) (.ref fI, [self])) (hrest : rest.length ≤ sizeLine)
    (hq : codeAny (model prog w) (A.under (.builtin "type.__call__" ⟨.ref C :: rest, [(n, v)]⟩)) (.call (.ref fI) ⟨.ref (h.objs.size + 1) :: rest, [(n, v)]⟩) (W.InitBack (h.objs.size + 1) R)
      ⟨(h.push (W.kdv_tup rest)).push (PySem.HandSPX.excO C h.objs.size), g, d, t, os⟩) :
    codeAny (model prog w) A (.call (.ref C) ⟨rest, [(n, v)]⟩) R ⟨h, g, d, t, os⟩ := by
  have f1 := tc_lookup
  have f2 := tc_bind (.ref C)
  have hTy : (⟨h, g, d, t, os⟩ : Shared).TypeIs (.ref C) "type" := ⟨_, hC, rfl⟩
  refine codeAny_of_tree ?_
  show wpAny _ _ (callAny (.ref C) _) _ _ _
  repeat (any_goals (first | assumption | with_reducible refine wpAny_loadPart_at hC ?_ | wp_step))
  refine ⟨rfl, ?_⟩
  refine codeAny_call_builtin_at (Code.quiet_builtin _ (by decide +kernel)) entry_typeCall (check_tcK hC (type_callK F hT hC hi hb hrest ?_))
  refine codeAny_mono hq fun r s' z => ?_
  rcases r with e | (v | _ | _ | _) <;> exact z
end
end PD

set_option autoImplicit false
namespace PD
open PySem PySem.Spec PyProof.Rows L2
/-! ### an error made as a value -/
theorem err_callK {X : Cx} {CX : CXT} {C fI : Addr} {B newId i : String} {bmB : List Value} {k : Nat} {fd : FuncData} {ps : List Str} {sp : Sp} {n : Str} (T : ErrS X.K C B newId i bmB)
    (iC : PySem.W.findIn X.K (.ref C) "__init__" = some (some (.ref fI))) (tI : PySem.W.typeIn X.K (.ref fI) = some (.type "function"))
    (F1 : FnOk X.prog X.w X.K X.mg X.base CX k fI fd ps sp) (hr : Room (k + 1) X.A) (hb : ∀ (s : Shared) (u v : Value), X.K.In s.heap → BindsTo s fd ⟨[u], [(n, v)]⟩ (ps.zip [u, v])) (hx : Passes CX X (fun _ _ _ => False)) {pins : List (Addr × Obj)} {σ : L2.St} {H1 : Hp} {hp : Heap} {g : Array GenState} {dr : Drawn} {tk : Nat} {os : OsState} {u0 : Value} {v0 : V} {Q : VK} {P : Value → Shared → Prop} (I1 : Inv X pins σ H1 ⟨hp, g, dr, tk, os⟩) (r1 : RelV v0 u0)
    (hq : sp [.ref (hp.objs.size + 1), v0] (upd H1 (hp.objs.size + 1) (exo (hp.objs.size + 1) C none)) Q (fun _ _ _ => False))
    (fin : Inv X pins σ (upd H1 (hp.objs.size + 1) (exo (hp.objs.size + 1) C none)) ⟨(hp.push (PySem.W.kdv_tup [])).push (PySem.HandSPX.excO C hp.objs.size), g, dr, tk, os⟩ →
      ∀ u s', CE X.stack X.prog X.w (upd H1 (hp.objs.size + 1) (exo (hp.objs.size + 1) C none)) ⟨(hp.push (PySem.W.kdv_tup [])).push (PySem.HandSPX.excO C hp.objs.size), g, dr, tk, os⟩ Q u s' → u = .none ∧ P (.ref (hp.objs.size + 1)) s') :
    wpAny (model X.prog X.w) X.A (PySem.call (.ref C) [] [(n, u0)]) P X.xe ⟨hp, g, dr, tk, os⟩ := by
  obtain ⟨nm, N', qn, bs, bm, hdct, sn, sub, ab, col, dd, k0, k1, k2, k3, k5, hC, hT⟩ := PySem.W.excInit_of I1.kIn T.q
  have hsz : hp.objs.size ≤ hp.objs.size + 1 := Nat.le_succ _
  have kk : ∀ b o, hp.get? b = some o → ((hp.push (PySem.W.kdv_tup [])).push (PySem.HandSPX.excO C hp.objs.size)).get? b = some o := fun b o z => Heap.get?_push_of_some _ (Heap.get?_push_of_some _ z)
  have gt : ((hp.push (PySem.W.kdv_tup [])).push (PySem.HandSPX.excO C hp.objs.size)).get? (hp.objs.size + 1) = some (PySem.HandSPX.excO C hp.objs.size) := by heap_get
  have I2 := I1.laid (t' := tk) (a := hp.objs.size + 1) (o := exo (hp.objs.size + 1) C none) kk hsz (exo_ok gt)
  have r2 : Vals [V.ref (hp.objs.size + 1), v0] [Value.ref (hp.objs.size + 1), u0] := .cons rfl (.cons r1 .nil)
  refine wpAny_call (call_ownK T.fb hT hC (PySem.W.looks_findIn I1.kIn iC) (fun self => PySem.W.bind_fn I1.kIn self tI) (Nat.zero_le _)
    (codeAny_mono (F1.run _ X.stack _ _ ⟨[Value.ref (hp.objs.size + 1)], [(n, u0)]⟩ [Value.ref (hp.objs.size + 1), u0] _ _ (fun _ _ _ => False) (hr.make C [] [(n, u0)]) (I2.env0.make C [] [(n, u0)]) (hb _ _ _ I2.kIn) r2 hq) fun r s' hq' => ?_))
  cases r with
  | error er => exact hx pins σ _ _ er s' I2 hq'
  | ok fl =>
    cases fl with
    | ret u => exact fin I2 u s' hq'
    | next => exact False.elim hq'
    | brk => exact False.elim hq'
    | cont => exact False.elim hq'
def errGs (tag : Str) : Option Str → List V → List (Str × V)
  | some f, [v] => [(f, v), ("tag", .str tag)]
  | _, _ => [("tag", .str tag)]
def errN : Option Str → Nat
  | some _ => 1
  | none => 0
/-- what the making leaves -/
def MadeE (C : Addr) (tag : Str) (f : Option Str) (ws : List V) (H : Hp) (Q : VK) : Prop := ∀ a dx, H a = none → H dx = none → dx ≠ a → Q (.ref a) (upd (upd H a (exo a C (some dx))) dx (exd dx (errGs tag f ws)))
theorem upd_upd_same {H : Hp} {a : Addr} {o o' : HO} : upd (upd H a o) a o' = upd H a o' := by
  funext z
  by_cases e : z = a
  · subst e; rw [upd_same, upd_same]
  · rw [upd_ne e, upd_ne e, upd_ne e]
theorem upd_comm {H : Hp} {a b : Addr} {o o' : HO} (h : a ≠ b) : upd (upd H a o) b o' = upd (upd H b o') a o := by
  funext z
  by_cases e : z = b
  · subst e; rw [upd_same, upd_ne (Ne.symm h), upd_same]
  · rw [upd_ne e]
    by_cases e2 : z = a
    · subst e2; rw [upd_same, upd_same]
    · rw [upd_ne e2, upd_ne e2, upd_ne e]
theorem made_sp {C : Addr} {tag : Str} {f : Option Str} {ws : List V} {H : Hp} {Q : VK} {a : Addr} (ha : H a = none) (hl : ws.length = errN f) (h : MadeE C tag f ws H Q) : spErr C tag f (.ref a :: ws) (upd H a (exo a C none)) (fun v H2 => v = .non ∧ Q (.ref a) H2) (fun _ _ _ => False) := by
  cases f with
  | none =>
    have e : ws = [] := List.length_eq_zero_iff.mp hl
    subst e
    refine ⟨a, rfl, upd_same, fun dx n ne => ⟨rfl, ?_⟩⟩
    rw [upd_ne ne] at n
    have z := h a dx ha n ne
    rw [upd_comm (Ne.symm ne), upd_upd_same, upd_comm ne]
    exact z
  | some f =>
    match ws, hl with
    | [v], _ =>
      refine ⟨a, v, rfl, upd_same, fun dx n ne => ⟨rfl, ?_⟩⟩
      rw [upd_ne ne] at n
      have z := h a dx ha n ne
      rw [upd_comm (Ne.symm ne), upd_upd_same, upd_comm ne, upd_upd_same]
      exact z
def tErrV (C : Addr) (tag : Str) (f : Option Str) (ta : TA) : TE := fun σ H Q => ta σ H fun vs H1 => vs.length = errN f ∧ MadeE C tag f vs H1 Q
section
variable {w : Wo} {g : Prg} {W : WX} {k : Nat} {si : SI} {X : Cx} {e : Expr} {es : List Expr} {ms : M (List D)} {p pos pos' : Pos} {c tag : Str} {f : Option Str}
theorem errN_le {f : Option Str} : errN f ≤ 1000 := by cases f <;> simp [errN]
theorem pe_err (E : ErrAt w g c tag f) (C : Cok2 w g W k si X) (hg : isGl si.sc c = true) {ta : TA} (ha : PA X (e :: es) ta) (hp : plainArgs (e :: es) = true) (hdb : (c == ("__debug__" : Str)) = false) : PE X (.Call (.Name c p) (e :: es) [] pos) (tErrV (w.ca c) tag f ta) := by
  obtain ⟨B, newId, i, bmB, fI, fd, ps, T, iC, tI, hb, _, F⟩ := E.ex
  have he := noStar_ne (by have := hp; unfold plainArgs at this; rw [List.all_cons, Bool.and_eq_true] at this; exact this.1)
  have hpl : (backTo pos (starEach es X.env)).any (·.1) = false := back_any (by have := hp; unfold plainArgs at this ⊢; rw [List.all_cons, Bool.and_eq_true] at this; exact this.2)
  have hK := C.K
  have F' := F (fun _ _ _ _ _ _ => False)
  rw [← C.P, ← C.wd, ← C.mg, ← C.base, ← hK] at F'
  refine ⟨fun pins s σ H Q I h => ?_⟩
  refine wpAny_Call_Name_kw (ld_glob I (C.gl hg) (by rw [C.mg]; exact E.mg) ?_ hdb)
  refine PySem.W.callWith_K (h₀ := X.base) I.ok.mod.kin (by rw [hK]; exact E.kC) (thn (ha.run pos pins s σ H _ I h) fun us s1 hx1 => ?_) (starEach_plain he) hpl
  obtain ⟨vs, H1, I1, r1, hz, q1⟩ := hx1
  refine ⟨I1.kIn, ?_⟩
  obtain ⟨hp1, g1, dr, tk, os⟩ := s1
  refine err_call (k := 1) (P := EP X pins σ Q) (by rw [hK]; exact T) (by rw [hK]; exact iC) (by rw [hK]; exact tI) F' (C.room3.mono (by omega)) (by rw [hK]; exact hb) passes_none I1 r1 (by rw [hz]; exact errN_le) (made_sp (I1.hok.fresh (Nat.le_succ _)) hz q1) fun I2 kk u s' hq' => ?_
  obtain ⟨v, H', I3, rv, ev, q3⟩ := I2.after hq'
  subst ev
  exact ⟨rv, ⟨V.ref (hp1.objs.size + 1), H', I3, rfl, q3⟩⟩
theorem pe_err0 (E : ErrAt w g c tag f) (C : Cok2 w g W k si X) (hg : isGl si.sc c = true) (hdb : (c == ("__debug__" : Str)) = false) : PE X (.Call (.Name c p) [] [] pos) (tErrV (w.ca c) tag f fun _ H Q => Q [] H) := by
  obtain ⟨B, newId, i, bmB, fI, fd, ps, T, iC, tI, hb, _, F⟩ := E.ex
  have hK := C.K
  have F' := F (fun _ _ _ _ _ _ => False)
  rw [← C.P, ← C.wd, ← C.mg, ← C.base, ← hK] at F'
  refine ⟨fun pins s σ H Q I h => ?_⟩
  refine wpAny_Call_Name_kw (ld_glob I (C.gl hg) (by rw [C.mg]; exact E.mg) ?_ hdb)
  refine PySem.W.callWith_K0 I.kIn (by rw [hK]; exact E.kC) ?_
  obtain ⟨hz, q1⟩ := h
  obtain ⟨hp1, g1, dr, tk, os⟩ := s
  refine err_call (k := 1) (us := []) (P := EP X pins σ Q) (by rw [hK]; exact T) (by rw [hK]; exact iC) (by rw [hK]; exact tI) F' (C.room3.mono (by omega)) (by rw [hK]; exact hb) passes_none I .nil (by rw [hz]; exact errN_le) (made_sp (I.hok.fresh (Nat.le_succ _)) hz q1) fun I2 kk u s' hq' => ?_
  obtain ⟨v, H', I3, rv, ev, q3⟩ := I2.after hq'
  subst ev
  exact ⟨rv, ⟨V.ref (hp1.objs.size + 1), H', I3, rfl, q3⟩⟩
theorem pe_errK {n : Str} {v : Expr} {kp : Pos} {ta : TA} (E : ErrAt w g c tag (some n)) (C : Cok2 w g W k si X) (hg : isGl si.sc c = true) (ha : PK X [⟨some n, v, kp⟩] ta) (hdb : (c == ("__debug__" : Str)) = false) : PE X (.Call (.Name c p) [] [⟨some n, v, kp⟩] pos) (tErrV (w.ca c) tag (some n) ta) := by
  obtain ⟨B, newId, i, bmB, fI, fd, ps, T, iC, tI, _, hb, F⟩ := E.ex
  have hK := C.K
  have F' := F (fun _ _ _ _ _ _ => False)
  rw [← C.P, ← C.wd, ← C.mg, ← C.base, ← hK] at F'
  refine ⟨fun pins s σ H Q I h => ?_⟩
  refine wpAny_Call_Name_kw (ld_glob I (C.gl hg) (by rw [C.mg]; exact E.mg) ?_ hdb)
  refine PySem.W.callWith_KW0 (first := []) (h₀ := X.base) I.ok.mod.kin (by rw [hK]; exact E.kC) (by rfl) (thn (ha.run pos pins s σ H _ I h) fun us s1 hx1 => ?_) (by rfl)
  obtain ⟨vs, H1, I1, r1, hz, q1⟩ := hx1
  refine ⟨I1.kIn, ?_⟩
  obtain ⟨hp1, g1, dr, tk, os⟩ := s1
  match vs, hz, r1 with
  | [v0], hz, .cons (b := u0) rx .nil =>
    refine err_callK (k := 1) (P := EP X pins σ Q) (by rw [hK]; exact T) (by rw [hK]; exact iC) (by rw [hK]; exact tI) F' (C.room3.mono (by omega)) (by rw [hK]; exact hb n rfl) passes_none I1 rx (made_sp (I1.hok.fresh (Nat.le_succ _)) hz q1) fun I2 u s' hq' => ?_
    obtain ⟨v, H', I3, rv, ev, q3⟩ := I2.after hq'
    subst ev
    exact ⟨rv, ⟨V.ref (hp1.objs.size + 1), H', I3, rfl, q3⟩⟩
end
/-- C(d): the value -/
def errV (c tag : Str) (f : Option Str) (ds : List D) : M DV := (frzL ds).bind fun ds' st => match errFs tag f ds' with
  | some fs => .ok (.err c fs, false) st
  | none => .bad
section
variable {w : Wo} {W : WX} {Fo : Addr → Prop} {σ : L2.St} {st : St} {β : List Addr} {G H : Hp} {c tag : Str} {f : Option Str}
theorem errV_ok {ds : List D} {vs : List V} {Q : VK} (htag : tag.length ≤ sizeLine) (R : RS w Fo β G H σ st) (A : RepAs w σ st β G ds vs) (h : Out w W Fo σ st β G H Q (errV c tag f ds st)) : vs.length = errN f ∧ MadeE (w.ca c) tag f vs H Q := by
  obtain ⟨ds', st1, G1, e1, F1, R1, q1, l1⟩ := frzL_ok R A
  unfold errV at h
  rw [M.bind_ok e1] at h
  have rt : ∀ β G, Rep w β G (.str tag) (.str tag) := fun β G => by unfold Rep; exact ⟨rfl, htag⟩
  have fin : ∀ {fs : List (Str × D)}, RepsF w β G1 fs (errGs tag f vs) → Out w W Fo σ st β G H Q (.ok (.err c fs, false) st1) → MadeE (w.ca c) tag f vs H Q := fun {fs} r q a dx ha hd ne => by
    have R2 := R1.new (o := exo a (w.ca c) (some dx)) ha
    have hd2 : upd H a (exo a (w.ca c) (some dx)) dx = none := by rw [upd_ne ne]; exact hd
    have R3 := R2.new (o := exd dx (errGs tag f vs)) hd2
    have ga := R1.nog ha
    have gd := R1.nog hd
    have hG1 : upd G1 a (exo a (w.ca c) (some dx)) dx = none := by rw [upd_ne ne]; exact gd
    have ea : upd (upd H a (exo a (w.ca c) (some dx))) dx (exd dx (errGs tag f vs)) a = some (exo a (w.ca c) (some dx)) := by rw [upd_ne ne.symm, upd_same]
    have R4 := R3.keep ea ga (R1.notin ha) (R1.noown ha) (R1.nofo ha) (fun ps z => by cases z)
    have R5 := R4.keep upd_same hG1 (R1.notin hd) (R1.noown hd) (R1.nofo hd) (fun ps z => by cases z)
    have F2 : Fr Fo st1 β G1 H st1 β (upd (upd G1 a (exo a (w.ca c) (some dx))) dx (exd dx (errGs tag f vs))) (upd (upd H a (exo a (w.ca c) (some dx))) dx (exd dx (errGs tag f vs))) :=
      (((Fr.new R1 ha).trans (Fr.new R2 hd2)).trans (Fr.keep ga)).trans (Fr.keep hG1)
    refine Out.trans (F1.trans F2) _ q (.ref a) _ _ _ Fr.refl R5 (RepV.val ?_)
    unfold Rep
    refine ⟨a, dx, errGs tag f vs, rfl, ?_, upd_same, RepsF.mono F2.g (SubB.refl _) _ _ r⟩
    rw [upd_ne ne.symm, upd_same]
  cases f with
  | none =>
    match ds', h, q1 with
    | [], h, q1 =>
      have hv : vs = [] := by unfold Reps at q1; exact q1
      subst hv
      exact ⟨rfl, fin (by unfold RepsF; exact ⟨_, _, rfl, rt _ _, by unfold RepsF; rfl⟩) h⟩
    | _ :: _, h, _ => exact h.elim
  | some f =>
    match ds', h, q1 with
    | [d], h, q1 =>
      obtain ⟨v, r, rfl, rd, hr⟩ : ∃ v r, vs = v :: r ∧ Rep w β G1 d v ∧ Reps w β G1 [] r := by unfold Reps at q1; exact q1
      have hr : r = [] := by unfold Reps at hr; exact hr
      subst hr
      exact ⟨rfl, fin (by unfold RepsF; exact ⟨_, _, rfl, rd, by unfold RepsF; exact ⟨_, _, rfl, rt _ _, by unfold RepsF; rfl⟩⟩) h⟩
    | [], h, _ => exact h.elim
    | _ :: _ :: _, h, _ => exact h.elim
end
section
variable {w : Wo} {g : Prg} {W : WX} {k : Nat} {si : SI} {X : Cx} {e : Expr} {es : List Expr} {ms : M (List D)} {p pos pos' : Pos} {c tag : Str} {f : Option Str}
theorem d_err (E : ErrAt w g c tag f) (C : Cok2 w g W k si X) (hg : isGl si.sc c = true) (ha : PA X (e :: es) (tA w W ms)) (hp : plainArgs (e :: es) = true) (hdb : (c == ("__debug__" : Str)) = false) : PE X (.Call (.Name c p) (e :: es) [] pos) (tD w W (ms.bind (errV c tag f))) :=
  PE.imp (pe_err E C hg ha hp hdb) fun σ H Q q => tA_bind q fun Fo ds vs st β G H R A q => errV_ok E.tag R A q
theorem d_err0 (E : ErrAt w g c tag f) (C : Cok2 w g W k si X) (hg : isGl si.sc c = true) (hdb : (c == ("__debug__" : Str)) = false) : PE X (.Call (.Name c p) [] [] pos) (tD w W (argsNil.bind (errV c tag f))) :=
  PE.imp (pe_err0 E C hg hdb) fun σ H Q q => by
    obtain ⟨Fo, β, G, st, R, q⟩ := q
    exact errV_ok (ds := []) E.tag R rfl q
theorem d_errK {n : Str} {v : Expr} {kp : Pos} (E : ErrAt w g c tag (some n)) (C : Cok2 w g W k si X) (hg : isGl si.sc c = true) (ha : PK X [⟨some n, v, kp⟩] (tA w W ms)) (hdb : (c == ("__debug__" : Str)) = false) : PE X (.Call (.Name c p) [] [⟨some n, v, kp⟩] pos) (tD w W (ms.bind (errV c tag (some n)))) :=
  PE.imp (pe_errK E C hg ha hdb) fun σ H Q q => tA_bind q fun Fo ds vs st β G H R A q => errV_ok E.tag R A q
end
end PD

set_option autoImplicit false
namespace PD
open PySem PySem.Spec PyProof.Rows L2

/-! ### what is known of the text -/
structure Tab where
  free : Str → Bool
  con : Str → Option D
  fn : Str → Option FnI
  md : Str → Md
  fuel : Nat
  cls : ClT
  ownM : Str → Bool
  amd : Str → Md
  isi : IsiT
  dtup : Nat → Bool
  nes : Str → Bool
  gd : Str → Option (List (Str × D))
  err : Str → Option (Str × Option Str) := fun _ => none
abbrev Sem3 := Str → List D → List D → Rf

/-! ### operators -/
def binK : Operator → Option (DV → DV → M DV)
  | .Add => some addM
  | .Sub => some PD.subM
  | .Mult => some mulM
  | .FloorDiv => some fdivM
  | .Mod => some modM
  | .Pow => some powM
  | _ => none
theorem binK_ok {w : Wo} {op : Operator} {k : DV → DV → M DV} (h : binK op = some k) : ∃ r, (∀ X : Cx, OpR X (binaryOp op) r) ∧ OpS w r k := by
  cases op <;> simp only [binK, Option.some.injEq] at h <;> first | (subst h; first | exact add_ok | exact sub_ok | exact mul_ok | exact fdiv_ok | exact mod_ok | exact pow_ok) | (cases h; done)
def intP : CmpOp → Option (Int → Int → Bool)
  | .Lt => some fun i j => decide (i < j)
  | .LtE => some fun i j => decide (i ≤ j)
  | .Gt => some fun i j => decide (j < i)
  | .GtE => some fun i j => decide (j ≤ i)
  | _ => none
theorem intP_ok {X : Cx} {op : CmpOp} {p : Int → Int → Bool} (h : intP op = some p) : OpR X (compareOp op) (rI0 fun i j => .bl (p i j)) ∧ (op == .In) = false ∧ (op == .NotIn) = false := by
  cases op <;> simp only [intP, Option.some.injEq] at h <;> first | (subst h; refine ⟨?_, rfl, rfl⟩; first | exact op_lt | exact op_le | exact op_gt | exact op_ge) | (cases h; done)
def cmpK (ct : ClT) (nes : Str → Bool) (call : Sem3) : CmpOp → Option (DV → DV → M DV)
  | .Eq => some (eqOM ct call)
  | .NotEq => some (neOM ct nes call)
  | .Is => some (isNM false)
  | .IsNot => some (isNM true)
  | .In => some (inM false)
  | .NotIn => some (inM true)
  | op => (intP op).map cmpI
theorem cmpK_ok {w : Wo} {g : Prg} {W : WX} {k0 : Nat} {si : SI} {X : Cx} {ct : ClT} {nes : Str → Bool} {call : Sem3} (CO : ClsOk ct w g k0 call) (NO : ∀ c, nes c = true → NeOk w.K (w.ca c)) (C : Cok2 w g W k0 si X) {op : CmpOp} {k : DV → DV → M DV} (h : cmpK ct nes call op = some k) : OpD X w W (compareOp op) k := by
  have hu : X.A.units + 65 < cLine := by have := C.room.un; omega
  have num : ∀ p, intP op = some p → k = cmpI p → OpD X w W (compareOp op) k := fun p hp e => by
    subst e
    exact OpS.opD (intP_ok hp).1 cmpI_ok
  have two : ∀ k', (∃ r, OpR X (compareOp op) r ∧ OpS w r k') → OpD X w W (compareOp op) k' := fun k' ⟨r, h1, h2⟩ => OpS.opD h1 h2
  cases op <;> simp only [cmpK, intP, Option.map_some, Option.some.injEq] at h
  · subst h; exact eqOM_ok CO C
  · subst h; exact neOM_ok CO NO C
  · exact num _ rfl h.symm
  · exact num _ rfl h.symm
  · exact num _ rfl h.symm
  · exact num _ rfl h.symm
  · subst h; exact OpS.opD op_isN isN_ok
  · subst h; exact OpS.opD op_notN notN_ok
  · subst h; exact two _ (in_ok hu C.K)
  · subst h; exact two _ (notIn_ok hu C.K)

/-! ### builtins -/
def bltK (x : Str) : Option (List D → M DV) :=
  if x = "len" then some (one lenM1) else if x = "all" then some (one allM1) else if x = "any" then some (one anyM1) else if x = "abs" then some (one absM1)
  else if x = "sorted" then some (one sortM1) else if x = "list" then some (one listM1) else if x = "tuple" then some (one tupM1) else if x = "int" then some (one intM1) else if x = "str" then some (one strM1) else if x = "dict" then some (one dictM1) else none
section
variable {w : Wo} {g : Prg} {W : WX} {k0 : Nat} {si : SI} {X : Cx} {e : Expr} {es : List Expr} {ms : M (List D)} {p pos : Pos}
theorem blt_ok {x : Str} {k : List D → M DV} (C : Cok2 w g W k0 si X) (h : bltK x = some k) (hg : Gl X x) (hm : X.mg x = none) (ha : PA X (e :: es) (tA w W ms)) (hp : plainArgs (e :: es) = true) : PE X (.Call (.Name x p) (e :: es) [] pos) (tD w W (ms.bind k)) := by
  have he := noStar_ne (by have := hp; unfold plainArgs at this; rw [List.all_cons, Bool.and_eq_true] at this; exact this.1)
  have hpl : (backTo pos (starEach es X.env)).any (·.1) = false := back_any (by have := hp; unfold plainArgs at this ⊢; rw [List.all_cons, Bool.and_eq_true] at this; exact this.2)
  have K := C.K
  unfold bltK at h
  split at h
  · rename_i e1; subst e1; cases h
    exact d_builtin cr_len (by rw [K]; exact len_ok) hg hm (by decide +kernel) ha (by decide) (by decide +kernel) he hpl
  split at h
  · rename_i e1; subst e1; cases h
    exact d_builtin (cr_all C.calm) (by rw [K]; exact all_ok) hg hm (by decide +kernel) ha (by decide) (by decide +kernel) he hpl
  split at h
  · rename_i e1; subst e1; cases h
    exact d_builtin (cr_any C.calm) (by rw [K]; exact any_ok) hg hm (by decide +kernel) ha (by decide) (by decide +kernel) he hpl
  split at h
  · rename_i e1; subst e1; cases h
    exact d_builtin call_abs abs_ok hg hm (by decide +kernel) ha (by decide) (by decide +kernel) he hpl
  split at h
  · rename_i e1; subst e1; cases h
    exact d_builtin (cr_sortD K C.hu) (by rw [K]; exact sort_ok) hg hm (by decide +kernel) ha (by decide) (by decide +kernel) he hpl
  split at h
  · rename_i e1; subst e1; cases h
    exact d_type (cr_list C.calm) (by rw [K]; exact list_ok) hg hm (by decide +kernel) ha (by decide) (by decide +kernel) he hpl
  split at h
  · rename_i e1; subst e1; cases h
    exact d_type call_tuple_of (by rw [K]; exact tup_ok) hg hm (by decide +kernel) ha (by decide) (by decide +kernel) he hpl
  split at h
  · rename_i e1; subst e1; cases h
    exact d_type cr_int int_ok hg hm (by decide +kernel) ha (by decide) (by decide +kernel) he hpl
  split at h
  · rename_i e1; subst e1; cases h
    exact d_type cr_str str_ok hg hm (by decide +kernel) ha (by decide) (by decide +kernel) he hpl
  split at h
  · rename_i e1; subst e1; cases h
    exact d_type call_dictD dict_ok hg hm (by decide +kernel) ha (by decide) (by decide +kernel) he hpl
  cases h
theorem max2_ok (C : Cok2 w g W k0 si X) (hg : Gl X "max") (hm : X.mg "max" = none) (ha : PA X (e :: es) (tA w W ms)) (hp : plainArgs (e :: es) = true) : PE X (.Call (.Name "max" p) (e :: es) [] pos) (tD w W (ms.bind (two maxI))) := by
  have he := noStar_ne (by have := hp; unfold plainArgs at this; rw [List.all_cons, Bool.and_eq_true] at this; exact this.1)
  have hpl : (backTo pos (starEach es X.env)).any (·.1) = false := back_any (by have := hp; unfold plainArgs at this ⊢; rw [List.all_cons, Bool.and_eq_true] at this; exact this.2)
  exact d_builtin (call_max2 C.calm) two_ok hg hm (by decide +kernel) ha (by decide) (by decide +kernel) he hpl
/-! ### methods -/
def methK (m : Str) (n : Nat) : Option (String × (D → List D → M DV)) :=
  if m = "append" ∧ n = 1 then some ("list", appendM) else if m = "pop" ∧ n = 0 then some ("list", popM) else if m = "pop" ∧ n = 1 then some ("list", popAtM) else if m = "insert" ∧ n = 2 then some ("list", insertM)
  else if m = "join" ∧ n = 1 then some ("str", joinM) else if m = "split" ∧ n = 1 then some ("str", splitM) else if m = "startswith" ∧ n = 1 then some ("str", startsM) else if m = "partition" ∧ n = 1 then some ("str", partM3) else if m = "upper" ∧ n = 0 then some ("str", upperM) else none
variable {o : Expr} {mo : M DV} {apos cpos : Pos}
theorem meth1_ok {m T : _} {k : D → List D → M DV} (C : Cok2 w g W k0 si X) (h : methK m (e :: es).length = some (T, k)) (ho : PE X o (tD w W mo)) (ha : PA X (e :: es) (tA w W ms)) (hn : noSup o = true) (hl : (apos.endLine == cpos.line) = true) (hp : plainArgs (e :: es) = true) :
    PE X (.Call (.Attribute o m apos) (e :: es) [] cpos) (tD w W (methM T mo ms k)) := by
  have K := C.K
  unfold methK at h
  split at h
  · rename_i e1; obtain ⟨e1, e2⟩ := e1; subst e1; cases h
    exact d_meth PySem.F.plainAttrs_list PySem.F.slot_list_append PySem.F.type_list_append mt_append append_ok K ho ha hn hl hp (by rw [e2]; decide)
  split at h
  · rename_i e1; obtain ⟨e1, e2⟩ := e1; cases e2
  split at h
  · rename_i e1; obtain ⟨e1, e2⟩ := e1; subst e1; cases h
    exact d_meth PySem.F.plainAttrs_list PySem.F.slot_list_pop PySem.F.type_list_pop mt_popAt popAt_ok K ho ha hn hl hp (by rw [e2]; decide)
  split at h
  · rename_i e1; obtain ⟨e1, e2⟩ := e1; subst e1; cases h
    exact d_meth PySem.F.plainAttrs_list PySem.F.slot_list_insert PySem.F.type_list_insert mt_insert insert_ok K ho ha hn hl hp (by rw [e2]; decide)
  split at h
  · rename_i e1; obtain ⟨e1, e2⟩ := e1; subst e1; cases h
    exact d_meth PySem.F.plainAttrs_str PySem.F.slot_str_join PySem.F.type_str_join mt_join (by rw [K]; exact join_ok) K ho ha hn hl hp (by rw [e2]; decide)
  split at h
  · rename_i e1; obtain ⟨e1, e2⟩ := e1; subst e1; cases h
    exact d_meth PySem.F.plainAttrs_str PySem.F.slot_str_split PySem.F.type_str_split mt_split split_ok K ho ha hn hl hp (by rw [e2]; decide)
  split at h
  · rename_i e1; obtain ⟨e1, e2⟩ := e1; subst e1; cases h
    exact d_meth PySem.F.plainAttrs_str PySem.F.slot_str_startswith PySem.F.type_str_startswith mt_startswith starts_ok K ho ha hn hl hp (by rw [e2]; decide)
  split at h
  · rename_i e1; obtain ⟨e1, e2⟩ := e1; subst e1; cases h
    exact d_meth PySem.F.plainAttrs_str PySem.F.slot_str_partition PySem.F.type_str_partition mt_partition partition_ok K ho ha hn hl hp (by rw [e2]; decide)
  split at h
  · rename_i e1; obtain ⟨e1, e2⟩ := e1; cases e2
  cases h
theorem meth0_ok {m T : _} {k : D → List D → M DV} (C : Cok2 w g W k0 si X) (h : methK m 0 = some (T, k)) (ho : PE X o (tD w W mo)) (hn : noSup o = true) (hl : (apos.endLine == cpos.line) = true) :
    PE X (.Call (.Attribute o m apos) [] [] cpos) (tD w W (methM T mo argsNil k)) := by
  have K := C.K
  unfold methK at h
  split at h
  · rename_i e1; cases e1.2
  split at h
  · rename_i e1; obtain ⟨e1, _⟩ := e1; subst e1; cases h
    exact d_meth0 PySem.F.plainAttrs_list PySem.F.slot_list_pop PySem.F.type_list_pop mt_pop pop_ok K ho hn hl
  split at h
  · rename_i e1; cases e1.2
  split at h
  · rename_i e1; cases e1.2
  split at h
  · rename_i e1; cases e1.2
  split at h
  · rename_i e1; cases e1.2
  split at h
  · rename_i e1; cases e1.2
  split at h
  · rename_i e1; cases e1.2
  split at h
  · rename_i e1; obtain ⟨e1, _⟩ := e1; subst e1; cases h
    exact d_meth0 PySem.F.plainAttrs_str PySem.F.slot_str_upper PySem.F.type_str_upper mt_upper upper_ok K ho hn hl
  cases h
end
end PD

set_option autoImplicit false
namespace PD
open PySem PySem.Spec PyProof.Rows L2

/-! ### the reading of the text -/
def evName (T : Tab) (si : SI) (x : Str) : M DV :=
  if okName x = true then (match ix x si.N with
    | some i => if vis si.sc x = true then slotM i else M.bad
    | none => if isGl si.sc x = true then (match T.con x with
      | some d => M.ret (d, false)
      | none => M.bad) else M.bad) else M.bad
def evA (f : Expr → M DV) : List Expr → M (List D)
  | [] => argsNil
  | .Starred e _ :: es => argsStar (f e) (evA f es)
  | e :: es => argsCons (f e) (evA f es)
def evK (f : Expr → M DV) : List Keyword → M (List D)
  | [] => argsNil
  | k :: ks => argsCons (f k.value) (evK f ks)
def evV (f : Expr → M DV) : List Expr → M (List DV)
  | [] => valsNil
  | e :: es => valsCons (f e) (evV f es)
def evBool (f : Expr → M DV) (op : BoolOp) : List Expr → M DV
  | [] => M.bad
  | [a] => f a
  | a :: b :: r => match op with
    | .And => andM (f a) (evBool f op (b :: r))
    | .Or => orM (f a) (evBool f op (b :: r))
def evTs (t : Expr → M Bool) (op : BoolOp) : List Expr → M Bool
  | [] => M.bad
  | [a] => t a
  | a :: b :: r => match op with
    | .And => andB (t a) (evTs t op (b :: r))
    | .Or => orB (t a) (evTs t op (b :: r))
def okNames (si : SI) (es : List Expr) : Bool := es.all fun e => match e with | .Name x _ => isGl si.sc x && !(x == ("__name__" : Str)) && !(x == ("__debug__" : Str)) | _ => false
def evIsi (T : Tab) (f : Expr → M DV) (si : SI) : List Expr → M DV
  | [a, .Name x _] => (match T.isi.nam x with
    | some n => if (isGl si.sc x && !(x == ("__name__" : Str)) && !(x == ("__debug__" : Str)) && noStar a) = true then (f a).bind (isi1M T.isi n) else M.bad
    | none => M.bad)
  | [a, .Tuple es _ _] => (match isiNames T.isi es with
    | some cs => if (okNames si es && noStar a) = true then (f a).bind (isiTM T.isi cs) else M.bad
    | none => M.bad)
  | _ => M.bad
/-- len(set(e)), list(e.items()) -/
def evPair (T : Tab) (f : Expr → M DV) (si : SI) (x : Str) (a : Expr) : Option (M DV) := match a with
  | .Call (.Name y _) [e] [] _ => if x = "len" ∧ y = "set" ∧ T.free "set" = true ∧ isGl si.sc "set" = true ∧ noStar e = true then some ((f e).bind lenSetM) else none
  | .Call (.Attribute e m apos) [] [] cpos => if x = "list" ∧ m = "items" ∧ noSup e = true ∧ (apos.endLine == cpos.line) = true then some ((f e).bind listItemsM) else none
  | _ => none
def evFree (T : Tab) (f : Expr → M DV) (si : SI) (x : Str) (args : List Expr) : M DV := match args with
  | [a] => (match evPair T f si x a with
    | some m => m
    | none => (match bltK x with
      | some k => (evA f args).bind k
      | none => M.bad))
  | _ :: _ => if x = "isinstance" then evIsi T f si args else if x = "max" then (evA f args).bind (two maxI) else (match bltK x with
    | some k => (evA f args).bind k
    | none => M.bad)
  | [] => M.bad
def evErr (f : Expr → M DV) (x tag : Str) (fo : Option Str) (args : List Expr) (kws : List Keyword) : M DV := match args, kws with
  | a :: r, [] => (evA f (a :: r)).bind (errV x tag fo)
  | [], [] => argsNil.bind (errV x tag fo)
  | [], [⟨some n, v, kp⟩] => if fo = some n then (evK f [⟨some n, v, kp⟩]).bind (errV x tag (some n)) else M.bad
  | _, _ => M.bad
def evCall (T : Tab) (call : Sem3) (f : Expr → M DV) (si : SI) (fn : Expr) (args : List Expr) (kws : List Keyword) (cpos : Pos) : M DV := match fn with
  | .Name x p => if (ix x si.N).isSome = true then (if (plainArgs args && kwAll kws) = true then newLM T.cls call (f (.Name x p)) args.length (kwNames kws) (evA f args) (evK f kws) else M.bad)
    else if (okName x && isGl si.sc x && plainArgs args) = true then
      if T.free x = true then (match kws with
        | [] => evFree T f si x args
        | _ => M.bad)
      else (match T.err x with
        | some (tag, fo) => evErr f x tag fo args kws
        | none => (match T.cls.made x with
        | some (q, fi, al) => if kwAll kws = true then (match fi.bind (args.length + 1) (kwNames kws) with
          | some how => newM al x args.length (kwNames kws).length (evA f args) (evK f kws) fun ds kds S => call q (pickD how ds kds fi.dds) S
          | none => M.bad) else M.bad
        | none => (match T.fn x with
        | some fi => if kwAll kws = true then (match fi.bind args.length (kwNames kws) with
          | some how => callM args.length (kwNames kws).length (evA f args) (evK f kws) fun ds kds S => call x (pickD how ds kds fi.dds) S
          | none => M.bad) else M.bad
        | none => M.bad)))
    else M.bad
  | .Attribute o m apos => if T.ownM m = true then (match args, kws with
    | [.Starred e _], [] => if noSup o = true then methSM T.cls call (f o) m (f e) else M.bad
    | _, _ => if (plainArgs args && kwAll kws && decide (args.length + kws.length + 1 < 30) && noSup o && (apos.endLine == cpos.line)) = true then
      methO T.cls call (f o) m args.length (kwNames kws) (evA f args) (evK f kws) else M.bad) else (match kws with
    | [] => if (plainArgs args && decide (args.length < 30) && noSup o && (apos.endLine == cpos.line)) = true then
        if m = "get" ∧ args.length = 2 then getDM T.gd (f o) (evA f args)
        else (match methK m args.length with
          | some (Ty, k) => methM Ty (f o) (evA f args) k
          | none => M.bad)
      else M.bad
    | _ => M.bad)
  | _ => M.bad
def isTupE : Expr → Bool
  | .Tuple .. => true
  | _ => false
def isSetE : Expr → Bool
  | .Set .. => true
  | _ => false
def evIter (T : Tab) (f : Expr → M DV) (si : SI) (tg it : Expr) : M Wk := match it with
  | .Call (.Name x _) args [] _ => if (okName x && isGl si.sc x && T.free x && plainArgs args) = true then
      if x = "range" then (match args with
        | [_] => walkRange1 (evA f args)
        | [_, _] => walkRange2 (evA f args)
        | _ => M.bad)
      else if x = "enumerate" ∧ isTupE tg = true then (match args with
        | [_] => walkEnum (evA f args)
        | _ => M.bad)
      else if x = "zip" ∧ isTupE tg = true then (match args with
        | [_, _] => walkZip (evA f args)
        | _ => M.bad)
      else walkA (f it)
    else walkA (f it)
  | .Call (.Attribute o m apos) [] [] cpos => if m = "items" ∧ isTupE tg = true ∧ noSup o = true ∧ (apos.endLine == cpos.line) = true then walkItems (f o)
      else if m = "values" ∧ noSup o = true ∧ (apos.endLine == cpos.line) = true then walkValues (f o)
      else walkA (f it)
  | it => if isSetE it = true then M.bad else walkA (f it)
def tg1 (T : Tab) (f : Expr → M DV) (si : SI) : Expr → Option (D → M Unit)
  | .Name x _ => if sto si x = true then (ix x si.N).map putD else none
  | .Subscript o i _ => if plainIx i = true then some (gSubM (f o) (f i)) else none
  | .Attribute o a _ => some (gFldM T.cls a (f o))
  | _ => none
def tgL (t : Expr → Option (D → M Unit)) : List Expr → Option (List (D → M Unit))
  | [] => some []
  | e :: es => match t e, tgL t es with
    | some a, some r => some (a :: r)
    | _, _ => none
def tgt (T : Tab) (f : Expr → M DV) (si : SI) : Expr → Option (D → M Unit)
  | .Tuple es _ _ => if plainArgs es = true then (tgL (tg1 T f si) es).map gTupM else (match starAt es, tgL (tg1 T f si) (unstar es) with
    | some i, some ts => if plainArgs (unstar es) = true then some (gStarM i es.length ts) else none
    | _, _ => none)
  | e => tg1 T f si e
/-- the targets of a block: its own names -/
def tb1 (si : SI) (vs : List Nat) : Expr → Option (D → M Unit)
  | .Name x _ => if sto si x = true then (match ix x si.N with
    | some i => if i ∈ vs then some (putD i) else none
    | none => none) else none
  | _ => none
def tbt (si : SI) (vs : List Nat) : Expr → Option (D → M Unit)
  | .Tuple es _ _ => if plainArgs es = true then (tgL (tb1 si vs) es).map gTupM else none
  | e => tb1 si vs e
def evIfs (t : Expr → M Bool) : List Expr → Option (M Bool)
  | [] => some (M.ret true)
  | [c] => some (t c)
  | _ => none
def evLc (T : Tab) (f : Expr → M DV) (fb : SI → Expr → M DV) (tb : SI → Expr → M Bool) (si : SI) (elt : Expr) (gs : List Comprehension) (scope : Scope) : M DV := match gs with
  | [c] => if c.is_async = 0 ∧ blkC si.N si.sc scope (ownOf si.N scope) = true ∧ isSetE c.iter = false then
      (match tbt (si.blk scope) ((ownOf si.N scope).map (·.2)) c.target, evIfs (tb (si.blk scope)) c.ifs with
        | some g, some t => lcM ((ownOf si.N scope).map (·.2)) (evIter T f si c.target c.iter) g t (fb (si.blk scope) elt)
        | _, _ => M.bad)
    else M.bad
  | _ => M.bad
def evDc (T : Tab) (f : Expr → M DV) (fb : SI → Expr → M DV) (tb : SI → Expr → M Bool) (si : SI) (kx vx : Expr) (gs : List Comprehension) (scope : Scope) : M DV := match gs with
  | [c] => if c.is_async = 0 ∧ blkC si.N si.sc scope (ownOf si.N scope) = true ∧ isSetE c.iter = false then
      (match tbt (si.blk scope) ((ownOf si.N scope).map (·.2)) c.target, evIfs (tb (si.blk scope)) c.ifs with
        | some g, some t => dcM ((ownOf si.N scope).map (·.2)) (evIter T f si c.target c.iter) g t (fb (si.blk scope) kx) (fb (si.blk scope) vx)
        | _, _ => M.bad)
    else M.bad
  | _ => M.bad
mutual
def ev (T : Tab) (call : Sem3) : Nat → SI → Expr → M DV
  | 0, _, _ => M.bad
  | n + 1, si, e => match e with
    | .Name x _ => evName T si x
    | .Constant c _ _ => constM c
    | .BinOp a op b _ => (match binK op with
      | some k => bin2 (ev T call n si a) (ev T call n si b) k
      | none => M.bad)
    | .UnaryOp .Not a _ => notM (ev T call n si a)
    | .UnaryOp .USub a _ => negM (ev T call n si a)
    | .BoolOp op vs _ => evBool (ev T call n si) op vs
    | .IfExp c a b _ => ifM (evT T call n si c) (ev T call n si a) (ev T call n si b)
    | .Compare a [op] [b] _ => if behindInMarks op b = false then (match cmpK T.cls T.nes call op with
      | some k => bin2 (ev T call n si a) (ev T call n si b) k
      | none => M.bad) else M.bad
    | .Compare a [op, op'] [b, c] _ => (match intP op, intP op' with
      | some p, some q => chainM (ev T call n si a) (ev T call n si b) (ev T call n si c) p q
      | _, _ => M.bad)
    | .Attribute o a _ => if noSup o = true then (ev T call n si o).bind (attrM T.cls call a) else M.bad
    | .Dict [] [] p => dnewM (T.dtup p.line)
    | .Dict [none, some kk] [t, v] _ => splatM (ev T call n si t) (ev T call n si kk) (ev T call n si v)
    | .DictComp kx vx gs scope _ => evDc T (ev T call n si) (ev T call n) (evT T call n) si kx vx gs scope
    | .Tuple es _ _ => tupM (evA (ev T call n si) es)
    | .List es _ => lstM (evA (ev T call n si) es)
    | .Subscript a (.Slice lo hi none _) _ => slM (ev T call n si a) (lo.map (ev T call n si)) (hi.map (ev T call n si))
    | .Subscript a b _ => if plainIx b = true then bin2 (ev T call n si a) (ev T call n si b) sbM else M.bad
    | .Call fn args kws cpos => evCall T call (ev T call n si) si fn args kws cpos
    | .ListComp elt gs scope _ => evLc T (ev T call n si) (ev T call n) (evT T call n) si elt gs scope
    | _ => M.bad
def evT (T : Tab) (call : Sem3) : Nat → SI → Expr → M Bool
  | 0, _, _ => M.bad
  | n + 1, si, e => match e with
    | .UnaryOp .Not a _ => (evT T call n si a).bind fun b => M.ret !b
    | .BoolOp op vs _ => evTs (evT T call n si) op vs
    | .IfExp .. => M.bad
    | .Compare a [op] [b] _ => if behindInMarks op b = false then (match cmpK T.cls T.nes call op with
      | some k => (bin2 (ev T call n si a) (ev T call n si b) k).bind boolM
      | none => M.bad) else M.bad
    | .Compare a [op, op'] [b, c] _ => (match intP op, intP op' with
      | some p, some q => (chainM (ev T call n si a) (ev T call n si b) (ev T call n si c) p q).bind boolM
      | _, _ => M.bad)
    | .Compare .. => M.bad
    | e => (ev T call n si e).bind boolM
end
/-! ### statements -/
def exSs (f : Stmt → MS) : List Stmt → MS
  | [] => skip
  | s :: ss => seqM (f s) (exSs f ss)
/-- does the comprehension's value leave its block by the store -/
def lcStore (si : SI) (x : Str) (py : Pos) (e : Expr) : Bool := match e with
  | .ListComp _ [_] scope pos => isFun si && decide (si.sc.names.lookup x = some .local) && (py.line == pos.line) && !(scope.names.any fun (n, k) => n == x && (k == .local || k == .cell))
  | _ => false
def augK : Operator → Option (Int → Int → Int)
  | .Add => some fun i j => i + j
  | .Sub => some fun i j => i - j
  | _ => none
def exAsg (T : Tab) (call : Sem3) (f : Expr → M DV) (si : SI) (tg e : Expr) : MS := match tg with
  | .Attribute o a _ => sattrM T.cls call a (T.amd a) (f e) (f o)
  | .Name x py => (match ix x si.N with
    | some i => if sto si x = true ∧ (noComp e = true ∨ lcStore si x py e = true) then asgM i (T.md x) (f e) else M.bad
    | none => M.bad)
  | .Tuple [.Name x px, .Name y py] k1 p1 => (match e with
    | .Tuple [a, b] k2 p2 => (match ix x si.N, ix y si.N with
      | some i, some j => if i ≠ j ∧ isFun si = true ∧ sw2 si x y px py a b = true then parM [(i, T.md x), (j, T.md y)] (evV f [a, b]) else M.bad
      | _, _ => M.bad)
    | e => (match tgt T f si tg with
      | some g => if noComp e = true ∧ swNo tg e = true then asgG (f e) g else M.bad
      | none => M.bad))
  | .Tuple [.Name x px, .Name y py, .Name z pz] k1 p1 => (match e with
    | .Tuple [a, b, c] k2 p2 => (match ix x si.N, ix y si.N, ix z si.N with
      | some i, some j, some l => if i ≠ j ∧ i ≠ l ∧ j ≠ l ∧ isFun si = true ∧ sw3 si x y z px py pz a b c = true then parM [(i, T.md x), (j, T.md y), (l, T.md z)] (evV f [a, b, c]) else M.bad
      | _, _, _ => M.bad)
    | e => (match tgt T f si tg with
      | some g => if noComp e = true ∧ swNo tg e = true then asgG (f e) g else M.bad
      | none => M.bad))
  | tg => (match tgt T f si tg with
    | some g => if noComp e = true ∧ swNo tg e = true ∧ noStar tg = true then asgG (f e) g else M.bad
    | none => M.bad)
def exRaise (T : Tab) (f : Expr → M DV) (si : SI) (x : Str) (args : List Expr) : MS := if (okName x && isGl si.sc x && plainArgs args) = true then (match T.err x, args with
    | some (tag, fo), [] => raiseM x tag fo argsNil
    | some (tag, fo), a :: r => raiseM x tag fo (evA f (a :: r))
    | none, _ => M.bad) else M.bad
def exFin (ct : ClT) (si : SI) (m n : MS) (fs : List Stmt) : MS := match hotS ct si fs with
  | some x => finX m n x
  | none => finM m n
def ex (T : Tab) (call : Sem3) : Nat → SI → Stmt → MS
  | 0, _, _ => M.bad
  | n + 1, si, s => match s with
    | .Pass _ => skip
    | .Break _ => M.ret .bk
    | .Continue _ => M.ret .ct
    | .Expr (.Constant (.str _) _ _) _ => skip
    | .Expr e _ => if noComp e = true then exprM (ev T call n si e) else M.bad
    | .Return none _ => M.ret (.rt (.non, false))
    | .Return (some e) _ => retM (ev T call n si e)
    | .If c a b _ => ifS (evT T call n si c) (exSs (ex T call n si) a) (exSs (ex T call n si) b)
    | .While c b [] _ => whileL (evT T call n si c) (exSs (ex T call n si) b) T.fuel
    | .For tg it b els _ => if isSetE it = true then M.bad else (match tgt T (ev T call n si) si tg with
      | some g => forEM (evIter T (ev T call n si) si tg it) g (exSs (ex T call n si) b) (exSs (ex T call n si) els)
      | none => M.bad)
    | .Match e cs _ => matchM (ev T call n si e) (evT T call n si) (exSs (ex T call n si)) cs
    | .Try b [] [] (f0 :: fs) _ => exFin T.cls si (exSs (ex T call n si) b) (exSs (ex T call n si) (f0 :: fs)) (f0 :: fs)
    | .Raise (some (.Call (.Name x _) args [] _)) none _ => exRaise T (ev T call n si) si x args
    | .Assign [tg] e _ => exAsg T call (ev T call n si) si tg e
    | .AugAssign (.Name x _) op e _ => (match ix x si.N, augK op with
      | some i, some f => if sto si x = true then augM i (ev T call n si e) f else M.bad
      | _, _ => M.bad)
    | _ => M.bad
end PD

set_option autoImplicit false
namespace PD
open PySem PySem.Spec PyProof.Rows L2

structure TabOk (T : Tab) (w : Wo) (g : Prg) : Prop where
  free : ∀ x, T.free x = true → g.mg x = none
  isi : IsiOk T.isi w g
  made : ∀ x z, T.cls.made x = some z → g.mg x = some (.ref (w.ca x))
  nes : ∀ c, T.nes c = true → NeOk w.K (w.ca c)
  gd : GdOk T.gd w g.wd
  err : ∀ x tag f, T.err x = some (tag, f) → ErrAt w g x tag f
  con : ∀ x d, T.con x = some d → ∃ u v, g.mg x = some u ∧ RelV v u ∧ ∀ β G, Rep w β G d v
structure CallOk (T : Tab) (w : Wo) (g : Prg) (k : Nat) (call : Sem3) : Prop where
  fn : ∀ x fi, T.fn x = some fi → ∃ f, g.mg x = some (.ref f) ∧ ∀ n ks how, fi.bind n ks = some how →
    FnC g.P g.wd w.K g.mg g.base k f n ks (spC w fun ds kds S => call x (pickD how ds kds fi.dds) S)
  cls : ClsOk T.cls w g k call
section
variable {T : Tab} {w : Wo} {g : Prg} {k : Nat} {call : Sem3} {W : WX} {si : SI} {X : Cx} {e : Expr} {es : List Expr} {pos : Pos} {f : Expr → M DV} {ft : Expr → M Bool} {tg : Expr}
theorem pt_bad : PT X e (tB w W M.bad) := ⟨fun pins s σ H Q I h => by
  obtain ⟨Fo, β, G, st, _, h⟩ := h
  exact h.elim⟩
theorem evName_ok (TO : TabOk T w g) (C : Cok2 w g W k si X) {x : Str} : PE X (.Name x pos) (tD w W (evName T si x)) := by
  unfold evName
  by_cases c : okName x = true
  · obtain ⟨c1, c2, c3⟩ := okName_ok c
    rw [if_pos c]
    cases e : ix x si.N with
    | some i =>
      simp only
      by_cases hv : vis si.sc x = true
      · rw [if_pos hv]; exact d_slot C.toCok e hv c1 c2
      · rw [if_neg hv]; exact pe_bad
    | none =>
      simp only
      by_cases hg : isGl si.sc x = true
      · rw [if_pos hg]
        cases e2 : T.con x with
        | some d =>
          obtain ⟨u, v, h1, h2, h3⟩ := TO.con x d e2
          exact d_const (pe_glob (C.gl hg) (by rw [C.mg]; exact h1) h2 c1) h3
        | none => exact pe_bad
      · rw [if_neg hg]; exact pe_bad
  · rw [if_neg c]; exact pe_bad
theorem evA_ok (hK : X.K = w.K) (he : ∀ e, PE X e (tD w W (f e))) : ∀ es, PA X es (tA w W (evA f es))
  | [] => a_nil
  | e :: es => by
    cases e with
    | Starred a p => exact a_star hK (he a) (evA_ok hK he es)
    | _ => exact a_cons (he _) (evA_ok hK he es) (fun _ _ z => by cases z)
theorem evK_ok (he : ∀ e, PE X e (tD w W (f e))) : ∀ ks, PK X ks (tA w W (evK f ks))
  | [] => k_nil
  | ⟨nm, v, p⟩ :: ks => k_cons (he v) (evK_ok he ks)
theorem evV_ok (he : ∀ e, PE X e (tD w W (f e))) : ∀ es, plainArgs es = true → PA X es (tV w W (evV f es))
  | [], _ => v_nil
  | e :: es, h => by
    have h : (noStar e && plainArgs es) = true := h
    rw [Bool.and_eq_true] at h
    exact v_cons (he e) (evV_ok he es h.2) (noStar_ne h.1)
theorem evBool_ok (he : ∀ e, PE X e (tD w W (f e))) {op : BoolOp} : ∀ es, PE X (.BoolOp op es pos) (tD w W (evBool f op es))
  | [] => pe_bad
  | [a] => pe_one (he a)
  | a :: b :: r => by
    have ih := evBool_ok he (op := op) (b :: r)
    cases op with
    | And => exact d_andV (he a) ih
    | Or => exact d_orV (he a) ih
theorem evTs_ok (ht : ∀ e, PT X e (tB w W (ft e))) {op : BoolOp} : ∀ es, es ≠ [] → PW X (.BoolOp op es pos) (tB w W (evTs ft op es))
  | [], h => absurd rfl h
  | [a], _ => by
    cases op with
    | And => exact d_and1 (ht a)
    | Or => exact d_or1 (ht a)
  | a :: b :: r, _ => by
    have ih := evTs_ok ht (op := op) (b :: r) (by simp)
    cases op with
    | And => exact d_and (ht a) ih
    | Or => exact d_or (ht a) ih
theorem evIsi_ok (TO : TabOk T w g) (C : Cok2 w g W k si X) (he : ∀ e, PE X e (tD w W (f e))) {args : List Expr} {p : Pos} (hi : isGl si.sc "isinstance" = true) (hm : g.mg "isinstance" = none) : PE X (.Call (.Name "isinstance" p) args [] pos) (tD w W (evIsi T f si args)) := by
  unfold evIsi
  split
  · rename_i a x q
    cases hn : T.isi.nam x with
    | some n =>
      simp only
      by_cases c : (isGl si.sc x && !(x == ("__name__" : Str)) && !(x == ("__debug__" : Str)) && noStar a) = true
      · rw [if_pos c]
        simp only [Bool.and_eq_true, Bool.not_eq_true'] at c
        obtain ⟨⟨⟨c1, c2⟩, c3⟩, c4⟩ := c
        exact d_isi1 TO.isi C hn c1 (by simpa using c2) c3 hi hm (he a) c4
      · rw [if_neg c]; exact pe_bad
    | none => exact pe_bad
  · rename_i a es kk q
    cases hn : isiNames T.isi es with
    | some cs =>
      simp only
      by_cases c : (okNames si es && noStar a) = true
      · rw [if_pos c]
        rw [Bool.and_eq_true] at c
        exact d_isiT TO.isi C hn c.1 hi hm (he a) c.2
      · rw [if_neg c]; exact pe_bad
    | none => exact pe_bad
  · exact pe_bad
theorem evPair_ok (TO : TabOk T w g) (C : Cok2 w g W k si X) (he : ∀ e, PE X e (tD w W (f e))) {x : Str} {a : Expr} {m : M DV} {p : Pos} (h : evPair T f si x a = some m) (hg : Gl X x) (hm : X.mg x = none) : PE X (.Call (.Name x p) [a] [] pos) (tD w W m) := by
  unfold evPair at h
  split at h
  · rename_i y p2 e q
    by_cases c : x = "len" ∧ y = "set" ∧ T.free "set" = true ∧ isGl si.sc "set" = true ∧ noStar e = true
    · rw [if_pos c] at h
      cases h
      obtain ⟨rfl, rfl, c3, c4, c5⟩ := c
      exact d_lenSet C hg hm (C.gl c4) (by rw [C.mg]; exact TO.free _ c3) (he e) c5
    · rw [if_neg c] at h; cases h
  · rename_i e m apos cpos
    by_cases c : x = "list" ∧ m = "items" ∧ noSup e = true ∧ (apos.endLine == cpos.line) = true
    · rw [if_pos c] at h
      cases h
      obtain ⟨rfl, rfl, c3, c4⟩ := c
      exact d_listItems C (he e) c3 c4 hg hm
    · rw [if_neg c] at h; cases h
  · cases h
theorem evFree_ok (TO : TabOk T w g) (C : Cok2 w g W k si X) (he : ∀ e, PE X e (tD w W (f e))) {x : Str} {args : List Expr} {p : Pos} (c2 : isGl si.sc x = true) (hf : T.free x = true) (c3 : plainArgs args = true) : PE X (.Call (.Name x p) args [] pos) (tD w W (evFree T f si x args)) := by
  have hm : X.mg x = none := by rw [C.mg]; exact TO.free x hf
  unfold evFree
  split
  · rename_i a
    cases hp : evPair T f si x a with
    | some m => exact evPair_ok TO C he hp (C.gl c2) hm
    | none =>
      simp only
      cases hb : bltK x with
      | some kk => exact blt_ok C hb (C.gl c2) hm (evA_ok C.K he _) c3
      | none => exact pe_bad
  · rename_i a as _
    by_cases hx0 : x = "isinstance"
    · rw [if_pos hx0]
      subst hx0
      exact evIsi_ok TO C he c2 (TO.free _ hf)
    rw [if_neg hx0]
    by_cases hx : x = "max"
    · rw [if_pos hx]
      subst hx
      exact max2_ok C (C.gl c2) hm (evA_ok C.K he _) c3
    · rw [if_neg hx]
      cases hb : bltK x with
      | some kk => exact blt_ok C hb (C.gl c2) hm (evA_ok C.K he _) c3
      | none => exact pe_bad
  · exact pe_bad
theorem evErr_ok {x tag : Str} {fo : Option Str} {args : List Expr} {kws : List Keyword} {p : Pos} (E : ErrAt w g x tag fo) (C : Cok2 w g W k si X) (he : ∀ e, PE X e (tD w W (f e))) (hg : isGl si.sc x = true) (hp : plainArgs args = true) (hdb : (x == ("__debug__" : Str)) = false) : PE X (.Call (.Name x p) args kws pos) (tD w W (evErr f x tag fo args kws)) := by
  unfold evErr
  split
  · exact d_err E C hg (evA_ok C.K he _) hp hdb
  · exact d_err0 E C hg hdb
  · rename_i n v kp
    by_cases c : fo = some n
    · subst c
      rw [if_pos rfl]
      exact d_errK E C hg (evK_ok he _) hdb
    · rw [if_neg c]; exact pe_bad
  · exact pe_bad
theorem evCall_ok (TO : TabOk T w g) (CO : CallOk T w g k call) (C : Cok2 w g W k si X) (he : ∀ e, PE X e (tD w W (f e))) {fn : Expr} {args : List Expr} {kws : List Keyword} : PE X (.Call fn args kws pos) (tD w W (evCall T call f si fn args kws pos)) := by
  unfold evCall
  split
  · rename_i x p
    by_cases hix : (ix x si.N).isSome = true
    · rw [if_pos hix]
      by_cases c : (plainArgs args && kwAll kws) = true
      · rw [if_pos c]
        rw [Bool.and_eq_true] at c
        exact d_newL CO.cls C (he _) (evA_ok C.K he _) (evK_ok he kws) (fun z => by subst z; rfl) c.1 c.2
      · rw [if_neg c]; exact pe_bad
    rw [if_neg hix]
    by_cases c : (okName x && isGl si.sc x && plainArgs args) = true
    · rw [if_pos c]
      simp only [Bool.and_eq_true] at c
      obtain ⟨⟨c1, c2⟩, c3⟩ := c
      obtain ⟨n1, n2, n3⟩ := okName_ok c1
      by_cases hf : T.free x = true
      · rw [if_pos hf]
        split
        · exact evFree_ok TO C he c2 hf c3
        · exact pe_bad
      · rw [if_neg hf]
        cases hee : T.err x with
        | some tf =>
          obtain ⟨tag, fo⟩ := tf
          exact evErr_ok (TO.err x tag fo hee) C he c2 c3 n1
        | none =>
        simp only
        cases hmd : T.cls.made x with
        | some z =>
          obtain ⟨q, fi, al⟩ := z
          simp only
          by_cases hk : kwAll kws = true
          · rw [if_pos hk]
            cases hb : fi.bind (args.length + 1) (kwNames kws) with
            | some how =>
              simp only
              obtain ⟨fa, hM, hF⟩ := CO.cls.made x q fi al hmd
              have F := hF _ _ _ hb
              have F' : FnC X.prog X.w X.K X.mg X.base k fa (args.length + 1) (kwNames kws) (spC w fun ds kds S => call q (pickD how ds kds fi.dds) S) := by
                rw [C.P, C.wd, C.K, C.mg, C.base]; exact F
              exact d_new C (by rw [C.K]; exact hM) (C.gl c2) (by rw [C.mg]; exact TO.made x _ hmd) F' (evA_ok C.K he _) (evK_ok he kws) c3 hk (fun z => by subst z; rfl) n1
            | none => exact pe_bad
          · rw [if_neg hk]; exact pe_bad
        | none =>
        simp only
        cases hfn : T.fn x with
        | some fi =>
          simp only
          by_cases hk : kwAll kws = true
          · rw [if_pos hk]
            cases hb : fi.bind args.length (kwNames kws) with
            | some how =>
              simp only
              obtain ⟨fa, h1, h2⟩ := CO.fn x fi hfn
              have F := h2 _ _ _ hb
              have F' : FnC X.prog X.w X.K X.mg X.base k fa args.length (kwNames kws) (spC w fun ds kds S => call x (pickD how ds kds fi.dds) S) := by
                rw [C.P, C.wd, C.K, C.mg, C.base]; exact F
              have hmg : X.mg x = some (.ref fa) := by rw [C.mg]; exact h1
              cases args with
              | nil => exact d_call0 C.tk F' (C.room.mono (Nat.le_succ _)) (C.gl c2) hmg (evK_ok he kws) (kw_all hk) kw_names n1 (by rw [kw_none hk]; rfl)
              | cons a as =>
                have hp := c3
                unfold plainArgs at hp
                rw [List.all_cons, Bool.and_eq_true] at hp
                exact d_call C.tk F' (C.room.mono (Nat.le_succ _)) (C.gl c2) hmg (evA_ok C.K he _) (evK_ok he kws) (kw_all hk) kw_names n1 (noStar_ne hp.1) (by rw [kw_none hk, back_any c3]; rfl)
            | none => exact pe_bad
          · rw [if_neg hk]; exact pe_bad
        | none => exact pe_bad
    · rw [if_neg c]; exact pe_bad
  · rename_i o m apos
    by_cases hown : T.ownM m = true
    · rw [if_pos hown]
      split
      · rename_i e q
        by_cases c : noSup o = true
        · rw [if_pos c]; exact d_methS CO.cls C (he o) (he e) c
        · rw [if_neg c]; exact pe_bad
      by_cases c : (plainArgs args && kwAll kws && decide (args.length + kws.length + 1 < 30) && noSup o && (apos.endLine == pos.line)) = true
      · rw [if_pos c]
        simp only [Bool.and_eq_true, decide_eq_true_eq] at c
        obtain ⟨⟨⟨⟨c1, c2⟩, c3⟩, c4⟩, c5⟩ := c
        exact d_methO CO.cls C (he o) (evA_ok C.K he _) (evK_ok he kws) (fun z => by subst z; rfl) c4 c1 c2 c3 c5
      · rw [if_neg c]; exact pe_bad
    rw [if_neg hown]
    split
    · by_cases c : (plainArgs args && decide (args.length < 30) && noSup o && (apos.endLine == pos.line)) = true
      · rw [if_pos c]
        simp only [Bool.and_eq_true] at c
        obtain ⟨⟨⟨c1, c2⟩, c3⟩, c4⟩ := c
        by_cases hg : m = "get" ∧ args.length = 2
        · rw [if_pos hg]
          obtain ⟨rfl, hl⟩ := hg
          match args, hl with
          | [a, b], _ =>
            exact d_getD TO.gd C (he o) (evA_ok C.K he _) c3 c4 c1 (by simp)
        · rw [if_neg hg]
          cases hm : methK m args.length with
          | some tk =>
            obtain ⟨Ty, kk⟩ := tk
            simp only
            cases args with
            | nil => exact meth0_ok C hm (he o) c3 c4
            | cons a as => exact meth1_ok C hm (he o) (evA_ok C.K he _) c3 c4 c1
          | none => exact pe_bad
      · rw [if_neg c]; exact pe_bad
    · exact pe_bad
  · exact pe_bad
theorem fold_ok (h : isSetE e = false) {env : Env} {x : Value} : foldedSetIterable e env x = pure x := fold_no fun a b c z => by subst z; cases h
theorem evIter_ok (TO : TabOk T w g) (C : Cok2 w g W k si X) (he : ∀ e, PE X e (tD w W (f e))) (hn : isSetE e = false) : PI X tg e (tI w W (evIter T f si tg e)) := by
  have dflt : PI X tg e (tI w W (walkA (f e))) := d_walkA C.K (he e)
  unfold evIter
  split
  · rename_i x p args q
    by_cases c : (okName x && isGl si.sc x && T.free x && plainArgs args) = true
    · rw [if_pos c]
      simp only [Bool.and_eq_true] at c
      obtain ⟨⟨⟨c1, c2⟩, c3⟩, c4⟩ := c
      have hm : X.mg x = none := by rw [C.mg]; exact TO.free x c3
      have hg := C.gl c2
      by_cases h1 : x = "range"
      · rw [if_pos h1]
        subst h1
        split
        · rename_i a
          exact d_range1 hg hm (evA_ok C.K he _) (by simpa [plainArgs] using c4)
        · rename_i a b
          simp only [plainArgs, List.all_cons, List.all_nil, Bool.and_true, Bool.and_eq_true] at c4
          exact d_range2 hg hm (evA_ok C.K he _) c4.1 c4.2
        · exact pi_bad (he _)
      · rw [if_neg h1]
        by_cases h2 : x = "enumerate" ∧ isTupE tg = true
        · rw [if_pos h2]
          obtain ⟨rfl, ht⟩ := h2
          cases tg with
          | Tuple ts kk tp =>
            split
            · exact d_enum C.K hg hm (evA_ok C.K he _) (by simpa [plainArgs] using c4)
            · exact pi_bad (he _)
          | _ => cases ht
        · rw [if_neg h2]
          by_cases h3 : x = "zip" ∧ isTupE tg = true
          · rw [if_pos h3]
            obtain ⟨rfl, ht⟩ := h3
            cases tg with
            | Tuple ts kk tp =>
              split
              · simp only [plainArgs, List.all_cons, List.all_nil, Bool.and_true, Bool.and_eq_true] at c4
                exact d_zip C.K hg hm (evA_ok C.K he _) c4.1 c4.2
              · exact pi_bad (he _)
            | _ => cases ht
          · rw [if_neg h3]; exact dflt
    · rw [if_neg c]; exact dflt
  · rename_i o m apos cpos
    by_cases h1 : m = "items" ∧ isTupE tg = true ∧ noSup o = true ∧ (apos.endLine == cpos.line) = true
    · rw [if_pos h1]
      obtain ⟨rfl, ht, h2, h3⟩ := h1
      cases tg with
      | Tuple ts kk tp => exact d_items (he o) h2 h3
      | _ => cases ht
    · rw [if_neg h1]
      by_cases h4 : m = "values" ∧ noSup o = true ∧ (apos.endLine == cpos.line) = true
      · rw [if_pos h4]
        obtain ⟨rfl, h2, h3⟩ := h4
        exact d_values (he o) h2 h3
      · rw [if_neg h4]; exact dflt
  · rw [if_neg (by rw [hn]; simp)]; exact dflt
theorem tg1_ok (CO : CallOk T w g k call) (C : Cok2 w g W k si X) (he : ∀ e, PE X e (tD w W (f e))) {t : D → M Unit} (h : tg1 T f si e = some t) : PG X e (tG w t) := by
  unfold tg1 at h
  split at h
  · rename_i x p
    by_cases c : sto si x = true
    · rw [if_pos c] at h
      obtain ⟨i, h1, h2⟩ := Option.map_eq_some_iff.mp h
      subst h2
      exact g_name C.toCok h1 c
    · rw [if_neg c] at h; cases h
  · rename_i o i p
    by_cases c : plainIx i = true
    · rw [if_pos c] at h
      cases h
      exact g_sub C (he o) (he i) c
    · rw [if_neg c] at h; cases h
  · cases h
    exact g_attr CO.cls C (he _)
  · cases h
theorem tgL_ok {t1 : Expr → Option (D → M Unit)} (h1 : ∀ e t, t1 e = some t → PG X e (tG w t)) : ∀ {es : List Expr} {ts : List (D → M Unit)}, tgL t1 es = some ts → plainArgs es = true → PGs X es (tGs w ts) ∧ ts.length = es.length
  | [], ts, h, _ => by
    simp only [tgL, Option.some.injEq] at h
    subst h
    exact ⟨gs_nil, rfl⟩
  | e :: es, ts, h, hp => by
    have hp : (noStar e && plainArgs es) = true := hp
    rw [Bool.and_eq_true] at hp
    simp only [tgL] at h
    split at h
    · rename_i a r e1 e2
      cases h
      obtain ⟨q1, q2⟩ := tgL_ok h1 e2 hp.2
      exact ⟨gs_cons (h1 e a e1) q1 hp.1, by rw [List.length_cons, List.length_cons, q2]⟩
    · cases h
theorem tgt_ok (CO : CallOk T w g k call) (C : Cok2 w g W k si X) (he : ∀ e, PE X e (tD w W (f e))) {t : D → M Unit} (h : tgt T f si e = some t) : PG X e (tG w t) := by
  unfold tgt at h
  split at h
  · rename_i es kk p
    by_cases c : plainArgs es = true
    · rw [if_pos c] at h
      obtain ⟨ts, h1, h2⟩ := Option.map_eq_some_iff.mp h
      subst h2
      obtain ⟨q1, q2⟩ := tgL_ok (fun e t h => tg1_ok CO C he h) h1 c
      exact g_tup C.K C.calm q1 c q2
    · rw [if_neg c] at h
      split at h
      · rename_i i ts e1 e2
        by_cases c2 : plainArgs (unstar es) = true
        · rw [if_pos c2] at h
          cases h
          exact g_star C.K C.calm (tgL_ok (fun e t h => tg1_ok CO C he h) e2 c2).1 c2 e1
        · rw [if_neg c2] at h; cases h
      · cases h
  · exact tg1_ok CO C he h
theorem tb1_ok {vs : List Nat} (C : Cok2 w g W k si X) {t : D → M Unit} (h : tb1 si vs e = some t) : PG X e (tGB w vs t) := by
  unfold tb1 at h
  split at h
  · rename_i x p
    by_cases c : sto si x = true
    · rw [if_pos c] at h
      split at h
      · rename_i i hi
        by_cases hv : i ∈ vs
        · rw [if_pos hv] at h
          cases h
          exact gb_name C.toCok hi c hv
        · rw [if_neg hv] at h; cases h
      · cases h
    · rw [if_neg c] at h; cases h
  · cases h
theorem tbL_ok {vs : List Nat} {t1 : Expr → Option (D → M Unit)} (h1 : ∀ e t, t1 e = some t → PG X e (tGB w vs t)) : ∀ {es : List Expr} {ts : List (D → M Unit)}, tgL t1 es = some ts → plainArgs es = true → PGs X es (tGBs w vs ts) ∧ ts.length = es.length
  | [], ts, h, _ => by
    simp only [tgL, Option.some.injEq] at h
    subst h
    exact ⟨gbs_nil, rfl⟩
  | e :: es, ts, h, hp => by
    have hp : (noStar e && plainArgs es) = true := hp
    rw [Bool.and_eq_true] at hp
    simp only [tgL] at h
    split at h
    · rename_i a r e1 e2
      cases h
      obtain ⟨q1, q2⟩ := tbL_ok h1 e2 hp.2
      exact ⟨gbs_cons (h1 e a e1) q1 hp.1, by rw [List.length_cons, List.length_cons, q2]⟩
    · cases h
theorem tbt_ok {vs : List Nat} (C : Cok2 w g W k si X) {t : D → M Unit} (h : tbt si vs e = some t) : PG X e (tGB w vs t) := by
  unfold tbt at h
  split at h
  · rename_i es kk p
    by_cases c : plainArgs es = true
    · rw [if_pos c] at h
      obtain ⟨ts, h1, h2⟩ := Option.map_eq_some_iff.mp h
      subst h2
      obtain ⟨q1, q2⟩ := tbL_ok (fun e t h => tb1_ok C h) h1 c
      exact gb_tup C.K C.calm q1 c q2
    · rw [if_neg c] at h; cases h
  · exact tb1_ok C h
theorem pts_yes : PTs X [] (tB w W (M.ret true)) := ⟨fun pins s σ H Q I h => pts_nil.run pins s σ H Q I (by
  obtain ⟨Fo, β, G, st, R, h⟩ := h
  exact h β G H Fr.refl R)⟩
theorem evIfs_ok (ht : ∀ e, PT X e (tB w W (ft e))) {t : M Bool} (h : evIfs ft es = some t) : PTs X es (tB w W t) := by
  unfold evIfs at h
  split at h
  · cases h; exact pts_yes
  · cases h; exact pts_one (ht _)
  · cases h
theorem evLc_ok {fb : SI → Expr → M DV} {tb : SI → Expr → M Bool} (TO : TabOk T w g) (C : Cok2 w g W k si X) (he : ∀ e, PE X e (tD w W (f e))) (hb : ∀ si W X e, Cok2 w g W k si X → PE X e (tD w W (fb si e))) (ht : ∀ si W X e, Cok2 w g W k si X → PT X e (tB w W (tb si e)))
    {elt : Expr} {gs : List Comprehension} {scope : Scope} : PE X (.ListComp elt gs scope pos) (tD w W (evLc T f fb tb si elt gs scope)) := by
  unfold evLc
  split
  · rename_i c
    obtain ⟨ct, ci, cf, ca⟩ := c
    simp only
    by_cases h : ca = 0 ∧ blkC si.N si.sc scope (ownOf si.N scope) = true ∧ isSetE ci = false
    · rw [if_pos h]
      obtain ⟨rfl, h1, h2⟩ := h
      split
      · rename_i g0 t0 e1 e2
        exact d_lc C.toCok (evIter_ok TO C he h2) h1 (fun s H A cl fp => tbt_ok (C.blk s H scope cl A fp) e1) (fun s H A cl fp => evIfs_ok (fun e => ht _ _ _ e (C.blk s H scope cl A fp)) e2) (fun s H A cl fp => hb _ _ _ elt (C.blk s H scope cl A fp)) (fun x => fold_ok h2)
      · exact pe_bad
    · rw [if_neg h]; exact pe_bad
  · exact pe_bad
theorem evDc_ok {fb : SI → Expr → M DV} {tb : SI → Expr → M Bool} (TO : TabOk T w g) (C : Cok2 w g W k si X) (he : ∀ e, PE X e (tD w W (f e))) (hb : ∀ si W X e, Cok2 w g W k si X → PE X e (tD w W (fb si e))) (ht : ∀ si W X e, Cok2 w g W k si X → PT X e (tB w W (tb si e)))
    {kx vx : Expr} {gs : List Comprehension} {scope : Scope} : PE X (.DictComp kx vx gs scope pos) (tD w W (evDc T f fb tb si kx vx gs scope)) := by
  unfold evDc
  split
  · rename_i c
    obtain ⟨ct, ci, cf, ca⟩ := c
    simp only
    by_cases h : ca = 0 ∧ blkC si.N si.sc scope (ownOf si.N scope) = true ∧ isSetE ci = false
    · rw [if_pos h]
      obtain ⟨rfl, h1, h2⟩ := h
      split
      · rename_i g0 t0 e1 e2
        exact d_dc C.toCok (evIter_ok TO C he h2) h1 (fun s H A cl fp => tbt_ok (C.blk s H scope cl A fp) e1) (fun s H A cl fp => evIfs_ok (fun e => ht _ _ _ e (C.blk s H scope cl A fp)) e2) (fun s H A cl fp => hb _ _ _ kx (C.blk s H scope cl A fp)) (fun s H A cl fp => hb _ _ _ vx (C.blk s H scope cl A fp)) (fun x => fold_ok h2)
      · exact pe_bad
    · rw [if_neg h]; exact pe_bad
  · exact pe_bad
theorem test_plain (h : PE X e (tD w W (f e))) (he : ∀ whole, isTrue e X.env whole = (do let v ← whole; standAt e.pos; holding [v] (truthy v))) : PT X e (tB w W ((f e).bind boolM)) := d_test h he
theorem ev_ok (TO : TabOk T w g) (CO : CallOk T w g k call) : ∀ n, (∀ si W X e, Cok2 w g W k si X → PE X e (tD w W (ev T call n si e))) ∧ (∀ si W X e, Cok2 w g W k si X → PT X e (tB w W (evT T call n si e))) := by
  intro n
  induction n with
  | zero => exact ⟨fun si W X e C => by unfold ev; exact pe_bad, fun si W X e C => by unfold evT; exact pt_bad⟩
  | succ n ih =>
    obtain ⟨ihE, ihT⟩ := ih
    have E1 : ∀ si W X e, Cok2 w g W k si X → PE X e (tD w W (ev T call (n + 1) si e)) := fun si W X e C => by
      have he : ∀ e, PE X e (tD w W (ev T call n si e)) := fun e => ihE si W X e C
      have ht : ∀ e, PT X e (tB w W (evT T call n si e)) := fun e => ihT si W X e C
      unfold ev
      split
      · exact evName_ok TO C
      · exact d_constant
      · rename_i a op b p
        cases hk : binK op with
        | some kk =>
          obtain ⟨r, h1, h2⟩ := binK_ok (w := w) hk
          exact d_binop (h1 X) h2 (he a) (he b)
        | none => exact pe_bad
      · exact d_notV (he _)
      · exact d_neg (he _)
      · exact evBool_ok he _
      · exact d_ifExp (ht _) (he _) (he _)
      · rename_i a op b p
        by_cases hm : behindInMarks op b = false
        · rw [if_pos hm]
          cases hk : cmpK T.cls T.nes call op with
          | some kk => exact d_cmpX (cmpK_ok CO.cls TO.nes C hk) (he a) (he b) hm
          | none => exact pe_bad
        · rw [if_neg hm]; exact pe_bad
      · rename_i a op op' b c p
        split
        · rename_i p1 p2 e1 e2
          obtain ⟨q1, _, _⟩ := intP_ok (X := X) e1
          obtain ⟨q2, q3, q4⟩ := intP_ok (X := X) e2
          exact d_chain q1 q2 (he a) (he b) (he c) q3 q4
        · exact pe_bad
      · rename_i o a p
        by_cases hn : noSup o = true
        · rw [if_pos hn]; exact d_attr CO.cls C (he o) hn
        · rw [if_neg hn]; exact pe_bad
      · exact d_dnew
      · exact d_splat (he _) (he _) (he _)
      · exact evDc_ok TO C he ihE ihT
      · exact d_tuple (evA_ok C.K he _)
      · exact d_list (evA_ok C.K he _)
      · rename_i a lo hi p1 p2
        refine d_slice C.K (he a) ?_ ?_
        · cases lo with
          | none => exact po_no
          | some x => exact po_yes (he x)
        · cases hi with
          | none => exact po_no
          | some x => exact po_yes (he x)
      · rename_i a b p _
        by_cases hb : plainIx b = true
        · rw [if_pos hb]; exact d_sub C (he a) (he b) hb
        · rw [if_neg hb]; exact pe_bad
      · exact evCall_ok TO CO C he
      · exact evLc_ok TO C he ihE ihT
      · exact pe_bad
    refine ⟨E1, fun si W X e C => ?_⟩
    have he : ∀ e, PE X e (tD w W (ev T call n si e)) := fun e => ihE si W X e C
    have ht : ∀ e, PT X e (tB w W (evT T call n si e)) := fun e => ihT si W X e C
    unfold evT
    split
    · exact d_testNot (ht _)
    · rename_i op vs p
      cases vs with
      | nil =>
        cases op <;> exact pt_bad
      | cons a r =>
        exact (evTs_ok ht (op := op) (pos := p) (a :: r) (by simp)).pt
    · exact pt_bad
    · rename_i a op b p
      by_cases hm : behindInMarks op b = false
      · rw [if_pos hm]
        cases hk : cmpK T.cls T.nes call op with
        | some kk => exact d_testCmpX (cmpK_ok CO.cls TO.nes C hk) (he a) (he b) hm
        | none => exact pt_bad
      · rw [if_neg hm]; exact pt_bad
    · rename_i a op op' b c p
      split
      · rename_i p1 p2 e1 e2
        obtain ⟨q1, _, _⟩ := intP_ok (X := X) e1
        obtain ⟨q2, q3, q4⟩ := intP_ok (X := X) e2
        exact d_chainT q1 q2 (he a) (he b) (he c) q3 q4
      · exact pt_bad
    · exact pt_bad
    · rename_i h1 h2 h3 h4 h5 h6
      refine test_plain (he _) fun whole => ?_
      cases e with
      | UnaryOp op a p => cases op <;> first | rfl | exact absurd rfl (h1 _ _)
      | BoolOp op vs p => exact absurd rfl (h2 _ _ _)
      | IfExp a b c p => exact absurd rfl (h3 _ _ _ _)
      | Compare a ops cs p => exact absurd rfl (h6 _ _ _ _)
      | _ => rfl
end
end PD

set_option autoImplicit false
namespace PD
open PySem PySem.Spec PyProof.Rows L2

section
variable {T : Tab} {w : Wo} {g : Prg} {k : Nat} {call : Sem3} {W : WX} {si : SI} {X : Cx} {e : Expr} {es : List Expr} {pos : Pos} {f : Expr → M DV} {ft : Expr → M Bool} {tg : Expr} {fs : Stmt → MS}
theorem exSs_ok (h : ∀ s, PS X s (tS w W (fs s))) : ∀ ss, PSs X ss (tS w W (exSs fs ss))
  | [] => s_nil
  | s :: ss => s_cons (h s) (exSs_ok h ss)
/-- name = a comprehension on one line -/
theorem s_lcStore {fb : SI → Expr → M DV} {tb : SI → Expr → M Bool} (TO : TabOk T w g) (C : Cok2 w g W k si X) (he : ∀ e, PE X e (tD w W (f e))) (hb : ∀ si W X e, Cok2 w g W k si X → PE X e (tD w W (fb si e))) (ht : ∀ si W X e, Cok2 w g W k si X → PT X e (tB w W (tb si e)))
    {x : Str} {py : Pos} {i : Nat} {md : Md} {elt : Expr} {gs : List Comprehension} {scope : Scope} {lp : Pos} (hi : ix x si.N = some i) (h : lcStore si x py (.ListComp elt gs scope lp) = true) :
    PS X (.Assign [.Name x py] (.ListComp elt gs scope lp) pos) (tS w W (asgM i md (evLc T f fb tb si elt gs scope))) := by
  unfold lcStore at h
  split at h
  · rename_i e2 c sc2 p2 heq
    cases heq
    simp only [Bool.and_eq_true, decide_eq_true_eq, Bool.not_eq_true'] at h
    obtain ⟨⟨⟨h1, h2⟩, h3⟩, h4⟩ := h
    unfold evLc
    obtain ⟨ct, ci, cf, ca⟩ := c
    simp only
    by_cases hh : ca = 0 ∧ blkC si.N si.sc scope (ownOf si.N scope) = true ∧ isSetE ci = false
    · rw [if_pos hh]
      obtain ⟨rfl, q1, q2⟩ := hh
      split
      · rename_i g0 t0 e1 e2
        exact s_asgLc C.toCok (evIter_ok TO C he q2) q1 hi (decide_eq_true h2) (isFun_ok C.toCok h1) h3 h4 (fun s H A cl fp => tbt_ok (C.blk s H scope cl A fp) e1) (fun s H A cl fp => evIfs_ok (fun e => ht _ _ _ e (C.blk s H scope cl A fp)) e2) (fun s H A cl fp => hb _ _ _ elt (C.blk s H scope cl A fp)) (fun x => fold_ok q2)
      · exact PS.imp (ps_bad (w := w) (W := W)) fun D σ H q => by
          obtain ⟨Fo, β, G, st, R, q⟩ := q
          exact q.elim
    · rw [if_neg hh]
      exact PS.imp (ps_bad (w := w) (W := W)) fun D σ H q => by
        obtain ⟨Fo, β, G, st, R, q⟩ := q
        exact q.elim
  · cases h
theorem exAsg_ok {n : Nat} (TO : TabOk T w g) (CO : CallOk T w g k call) (C : Cok2 w g W k si X) :
    PS X (.Assign [tg] e pos) (tS w W (exAsg T call (ev T call n si) si tg e)) := by
  have he : ∀ e, PE X e (tD w W (ev T call n si e)) := fun e => (ev_ok TO CO n).1 si W X e C
  have gen : ∀ (tg e : Expr), noStar tg = true → PS X (.Assign [tg] e pos) (tS w W (match tgt T (ev T call n si) si tg with
      | some g => if noComp e = true ∧ swNo tg e = true then asgG (ev T call n si e) g else M.bad
      | none => M.bad)) := fun tg e hn => by
    cases h : tgt T (ev T call n si) si tg with
    | some t =>
      simp only
      by_cases c : noComp e = true ∧ swNo tg e = true
      · rw [if_pos c]
        exact s_asgG (he e) (tgt_ok CO C he h) c.1 hn (swNo_ok c.2)
      · rw [if_neg c]; exact ps_bad
    | none => exact ps_bad
  unfold exAsg
  split
  · rename_i o a p
    exact s_attr CO.cls C (he e) (he o)
  · rename_i x py
    cases hi : ix x si.N with
    | some i =>
      simp only
      by_cases c : sto si x = true ∧ (noComp e = true ∨ lcStore si x py e = true)
      · rw [if_pos c]
        by_cases hc : noComp e = true
        · exact s_asg C.toCok hi c.1 (he e) hc
        · have h2 := c.2.resolve_left hc
          cases e with
          | ListComp elt gs scope lp =>
            cases n with
            | zero =>
              have e1 : ev T call 0 si (.ListComp elt gs scope lp) = M.bad := by rw [ev]
              rw [e1]
              exact PS.imp (ps_bad (w := w) (W := W)) fun D σ H q => by
                obtain ⟨Fo, β, G, st, R, q⟩ := q
                exact q.elim
            | succ n =>
              have e1 : ev T call (n + 1) si (.ListComp elt gs scope lp) = evLc T (ev T call n si) (ev T call n) (evT T call n) si elt gs scope := by
                rw [ev]
              rw [e1]
              exact s_lcStore TO C (fun e => (ev_ok TO CO n).1 si W X e C) (ev_ok TO CO n).1 (ev_ok TO CO n).2 hi h2
          | _ => simp [lcStore] at h2
      · rw [if_neg c]; exact ps_bad
    | none => exact ps_bad
  · rename_i x px y py k1 p1
    split
    · rename_i a b k2 p2
      split
      · rename_i i j hi hj
        by_cases c : i ≠ j ∧ isFun si = true ∧ sw2 si x y px py a b = true
        · rw [if_pos c]
          have hp : plainArgs [a, b] = true := by
            have h := c.2.2
            unfold sw2 at h
            simp only [Bool.and_eq_true] at h
            obtain ⟨⟨⟨⟨_, h5⟩, h6⟩, _⟩, _⟩ := h
            simp [plainArgs, h5, h6]
          exact s_par2 C.toCok hi hj c.1 c.2.1 c.2.2 (evV_ok he _ hp)
        · rw [if_neg c]; exact ps_bad
      · exact ps_bad
    · exact gen _ _ rfl
  · rename_i x px y py z pz k1 p1
    split
    · rename_i a b c0 k2 p2
      split
      · rename_i i j l hi hj hl
        by_cases c : i ≠ j ∧ i ≠ l ∧ j ≠ l ∧ isFun si = true ∧ sw3 si x y z px py pz a b c0 = true
        · rw [if_pos c]
          have hp : plainArgs [a, b, c0] = true := by
            have h := c.2.2.2.2
            unfold sw3 at h
            simp only [Bool.and_eq_true] at h
            obtain ⟨⟨⟨_, ⟨h5, h6⟩, h7⟩, _⟩, _⟩ := h
            simp [plainArgs, h5, h6, h7]
          exact s_par3 C.toCok hi hj hl c.1 c.2.1 c.2.2.1 c.2.2.2.1 c.2.2.2.2 (evV_ok he _ hp)
        · rw [if_neg c]; exact ps_bad
      · exact ps_bad
    · exact gen _ _ rfl
  · cases h : tgt T (ev T call n si) si tg with
    | some t =>
      simp only
      by_cases c : noComp e = true ∧ swNo tg e = true ∧ noStar tg = true
      · rw [if_pos c]
        exact s_asgG (he e) (tgt_ok CO C he h) c.1 c.2.2 (swNo_ok c.2.1)
      · rw [if_neg c]; exact ps_bad
    | none => exact ps_bad
theorem augK_ok {op : Operator} {f : Int → Int → Int} (h : augK op = some f) : PIp X op (ipI f) := by
  cases op <;> simp only [augK, Option.some.injEq] at h <;> first | (subst h; first | exact ip_add | exact ip_sub) | (cases h; done)
theorem ex_ok (TO : TabOk T w g) (CO : CallOk T w g k call) : ∀ n W X, Cok2 w g W k si X → CokT X → ∀ s, PS X s (tS w W (ex T call n si s)) := by
  intro n
  induction n with
  | zero => intro W X C _ s; unfold ex; exact ps_bad
  | succ n ih0 =>
    intro W X C CT s
    have ih := ih0 W X C CT
    have he : ∀ e, PE X e (tD w W (ev T call n si e)) := fun e => (ev_ok TO CO n).1 si W X e C
    have ht : ∀ e, PT X e (tB w W (evT T call n si e)) := fun e => (ev_ok TO CO n).2 si W X e C
    have hss : ∀ ss, PSs X ss (tS w W (exSs (ex T call n si) ss)) := exSs_ok ih
    unfold ex
    split
    · exact s_pass
    · exact s_break
    · exact s_continue
    · exact s_doc
    · rename_i e p _
      by_cases c : noComp e = true
      · rw [if_pos c]; exact s_expr (he e) c
      · rw [if_neg c]; exact ps_bad
    · exact s_retN
    · exact s_ret (he _)
    · exact s_if (ht _) (hss _) (hss _)
    · exact s_while C.po (ht _) (hss _)
    · rename_i tg it b els p
      by_cases c : isSetE it = true
      · rw [if_pos c]; exact ps_bad
      · rw [if_neg c]
        have c' : isSetE it = false := by simpa using c
        cases h : tgt T (ev T call n si) si tg with
        | some t => exact s_forE C.po C.calm (evIter_ok TO C he c') (tgt_ok CO C he h) (hss _) (hss _) (fun x => fold_ok c')
        | none => exact ps_bad
    · exact s_match (he _) ht (fun b => hss b)
    · rename_i b f0 fs p
      unfold exFin
      split
      · rename_i x hx
        exact s_finX CT C.tk (fun W' pn xe tk po => exSs_ok (ih0 W' _ (C.tr tk po) ⟨CT.hs, CT.hf, CT.ex⟩) _) (exSs_ok (ih0 WF _ C.nox ⟨CT.hs, CT.hf, CT.ex⟩) _) fun a pn => hotS_ok CO.cls ⟨C.K, C.N, C.sc⟩ hx
      · exact s_fin (fun pn xe po => exSs_ok (ih0 WF _ (C.tr takes_false po) ⟨CT.hs, CT.hf, CT.ex⟩) _) (exSs_ok (ih0 WF _ C.nox ⟨CT.hs, CT.hf, CT.ex⟩) _)
    · rename_i x p1 args p2 p3
      unfold exRaise
      by_cases c : (okName x && isGl si.sc x && plainArgs args) = true
      · rw [if_pos c]
        simp only [Bool.and_eq_true] at c
        obtain ⟨⟨c1, c2⟩, c3⟩ := c
        obtain ⟨n1, _, _⟩ := okName_ok c1
        split
        · rename_i tag fo ht
          exact s_raise0 (TO.err x tag fo ht) C (C.room3.mono (by omega)) c2 n1
        · rename_i tag fo a r ht
          exact s_raise (TO.err x tag fo ht) C (C.room3.mono (by omega)) c2 (evA_ok C.K he _) c3 n1
        · exact ps_bad
      · rw [if_neg c]; exact ps_bad
    · exact exAsg_ok TO CO C
    · rename_i x p' op e p
      split
      · rename_i i f0 hi hf
        by_cases c : sto si x = true
        · rw [if_pos c]; exact s_aug C.toCok hi c (he e) (augK_ok hf)
        · rw [if_neg c]; exact ps_bad
      · exact ps_bad
    · exact ps_bad
end
end PD

set_option autoImplicit false
namespace PD
open PySem PySem.Spec PyProof.Rows L2

def DefI.si (d : DefI) : SI := ⟨d.N, d.scope, fun _ => true⟩
def DefI.T (d : DefI) (T : Tab) : Tab := { T with md := fun x => match d.md.lookup x with
  | some m => m
  | none => T.md x }
theorem TabOk.at {T : Tab} {w : Wo} {g : Prg} (h : TabOk T w g) (d : DefI) : TabOk (d.T T) w g := ⟨h.free, h.isi, h.made, h.nes, h.gd, h.err, h.con⟩
theorem CallOk.at {T : Tab} {w : Wo} {g : Prg} {k : Nat} {call : Sem3} (h : CallOk T w g k call) (d : DefI) : CallOk (d.T T) w g k call := ⟨h.fn, h.cls⟩
/-- what the defs compute, by the depth of calls -/
def semK (T : Tab) (nf : Nat) (defs : Str → Option DefI) : Nat → Sem3
  | 0 => fun _ _ _ => .bad
  | k + 1 => fun x ds S => match defs x with
    | some d => runF d.N.length (exSs (ex (d.T T) (semK T nf defs k) nf d.si) d.body) ds S
    | none => .bad
/-- the def d stands at f -/
structure DefPlain (w : Wo) (d : DefI) (f : Addr) : Prop where
  ex : ∃ (fd : FuncData) (dv0 : List V) (kw0 : List (Str × V)), FunD w.K d.name d.qual d.params d.body d.scope dv0 kw0 f fd ∧
    ∀ n ks how, d.fi.bind n ks = some how → ∃ (dvs : List V) (dus : List Value), BindC w.K fd d.ps n ks how dus ∧ Vals dvs dus ∧ (∀ β G, Reps w β G d.fi.dds dvs) ∧
      ∀ {α : Type} (us ws fs : List α), us.length = n → ws.length = ks.length → fs.length = dus.length → (pick how us ws fs).length = d.ps.length
  pl : ∀ n ks how, d.fi.bind n ks = some how → plainHow how = true
structure DefStar (w : Wo) (d : DefI) (f : Addr) : Prop where
  ex : ∃ (fd : FuncData) (ps : List Str) (pv : Str), (∃ (dv0 : List V) (kw0 : List (Str × V)), FunD w.K d.name d.qual d.params d.body d.scope dv0 kw0 f fd) ∧ d.ps = ps ++ [pv] ∧
    (∀ us rest : List Value, us.length = ps.length → bindArgs fd ⟨us ++ rest, []⟩ = (newTuple rest >>= fun t => pure (ps.zip us ++ [(pv, t)]))) ∧
    ∀ n ks how, d.fi.bind n ks = some how → ks = [] ∧ ps.length ≤ n ∧ n ≤ sizeLine ∧ how = starHow ps.length
def DefAt (w : Wo) (d : DefI) (f : Addr) : Prop := DefPlain w d f ∨ DefStar w d f
def AtFit (w : Wo) (defs : Str → Option DefI) (c f : Str) : AtK → Prop
  | .fld => NoAttr w.K (w.ca c) f
  | .con d => ∃ v u, Con w.K (w.ca c) f v u ∧ ∀ β G, Rep w β G d v
  | .prop x => ∃ p q d, PropOf w.K (w.ca c) f p q ∧ defs x = some d ∧ DefAt w d q ∧ d.fi.bind 1 [] = some [.pos 0]
/-- the classes' tables fit the text -/
structure ClsFit (ct : ClT) (w : Wo) (defs : Str → Option DefI) : Prop where
  at_ : ∀ c f a, ct.at_ c f = some a → Cls w.K (w.ca c) ∧ AtFit w defs c f a
  me : ∀ c m q fi, ct.me c m = some (q, fi) → Cls w.K (w.ca c) ∧ ∃ f d, Meth w.K (w.ca c) m f ∧ defs q = some d ∧ d.fi = fi ∧ DefAt w d f
  set_ : ∀ c f q, ct.set_ c f = some q → Cls w.K (w.ca c) ∧ ∃ fa d, SetOf w.K (w.ca c) f fa ∧ defs q = some d ∧ DefAt w d fa ∧ d.fi.bind 2 [] = some [.pos 0, .pos 1]
  eq_ : ∀ c q, ct.eq_ c = some q → ∃ fa d, PySem.W.findIn w.K (.ref (w.ca c)) "__eq__" = some (some (.ref fa)) ∧ PySem.W.isFn w.K (.ref fa) = true ∧ defs q = some d ∧ DefAt w d fa ∧ d.fi.bind 2 [] = some [.pos 0, .pos 1]
  made : ∀ c q fi al, ct.made c = some (q, fi, al) → ∃ f d, Mk w.K (w.ca c) f ∧ defs q = some d ∧ d.fi = fi ∧ DefAt w d f
  cm : ∀ c m b q fi, ct.cm c m = some (b, q, fi) → ∃ f d, CmAt w.K (w.ca c) m f b ∧ defs q = some d ∧ d.fi = fi ∧ DefAt w d f
  ex_ : ∀ c f, ct.ex_ c f = true → XfC w.K (w.ca c) ∧ PySem.W.findIn w.K (.ref (w.ca c)) f = some none
section
variable {T : Tab} {w : Wo} {g : Prg} {defs : Str → Option DefI} {nf : Nat}
theorem FnC.congr {P : Program} {wd : World} {K : PySem.W.Frag} {mg : Str → Option Value} {base : Heap} {k n : Nat} {f : Addr} {ks : List Str} {F F' : List D → List D → List D → Rf} (h : FnC P wd K mg base k f n ks (spC w F)) (e : ∀ ds kds S, ds.length = n → kds.length = ks.length → F ds kds S = F' ds kds S) : FnC P wd K mg base k f n ks (spC w F') :=
  ⟨h.kp, fun A outer s H us kus vs kvs Q E hr e0 r1 l1 r2 l2 q => h.run A outer s H us kus vs kvs Q E hr e0 r1 l1 r2 l2 (by
    obtain ⟨Fo, β, G, S, ds, kds, R, q1, q2, q3⟩ := q
    exact ⟨Fo, β, G, S, ds, kds, R, q1, q2, by rw [e ds kds S (by rw [← q1.len, l1]) (by rw [← q2.len, l2])]; exact q3⟩)⟩
theorem len1 {α : Type} : ∀ {xs : List α}, xs.length = 1 → ∃ a, xs = [a]
  | [a], _ => ⟨a, rfl⟩
theorem len2 {α : Type} : ∀ {xs : List α}, xs.length = 2 → ∃ a b, xs = [a, b]
  | [a, b], _ => ⟨a, b, rfl⟩
theorem clsOk_of {k : Nat} {call : Sem3} (CF : ClsFit T.cls w defs) (h : ∀ x d f, defs x = some d → DefAt w d f → ∀ n ks how, d.fi.bind n ks = some how → FnC g.P g.wd w.K g.mg g.base k f n ks (spC w fun ds kds S => call x (pickD how ds kds d.fi.dds) S)) : ClsOk T.cls w g k call where
  at_ := fun c f a e => by
    obtain ⟨h1, h2⟩ := CF.at_ c f a e
    refine ⟨h1, ?_⟩
    cases a with
    | fld => exact h2
    | con d => exact h2
    | prop x =>
      obtain ⟨p, q, d, h3, h4, h5, h6⟩ := h2
      refine ⟨p, q, h3, (h x d q h4 h5 1 [] _ h6).congr fun ds kds S l1 l2 => ?_⟩
      obtain ⟨a, rfl⟩ := len1 l1
      rfl
  me := fun c m q fi e => by
    obtain ⟨h1, f, d, h2, h3, h4, h5⟩ := CF.me c m q fi e
    subst h4
    exact ⟨h1, f, h2, h q d f h3 h5⟩
  set_ := fun c f q e => by
    obtain ⟨h1, fa, d, h2, h3, h4, h5⟩ := CF.set_ c f q e
    refine ⟨h1, fa, h2, (h q d fa h3 h4 2 [] _ h5).congr fun ds kds S l1 l2 => ?_⟩
    obtain ⟨a, b, rfl⟩ := len2 l1
    rfl
  eq_ := fun c q e => by
    obtain ⟨fa, d, h1, h2, h3, h4, h5⟩ := CF.eq_ c q e
    refine ⟨fa, h1, h2, (h q d fa h3 h4 2 [] _ h5).congr fun ds kds S l1 l2 => ?_⟩
    obtain ⟨a, b, rfl⟩ := len2 l1
    rfl
  made := fun c q fi al e => by
    obtain ⟨f, d, h2, h3, h4, h5⟩ := CF.made c q fi al e
    subst h4
    exact ⟨f, h2, h q d f h3 h5⟩
  cm := fun c m b q fi e => by
    obtain ⟨f, d, h2, h3, h4, h5⟩ := CF.cm c m b q fi e
    subst h4
    exact ⟨f, h2, h q d f h3 h5⟩
  ex_ := CF.ex_
theorem cok_def {k : Nat} {d : DefI} {f : Addr} (S : FnScope d.N d.ps d.scope) (cdv : Value) (A : Around) (outer : List Env) (s : Shared) (H : Hp) (E : XK) (hr : Room (k + 3) (A.deeper (envOfC d.qual d.scope s.heap.objs.size f cdv))) :
    Cok2 w g (fun cls d _ H => E cls d H) k d.si (cxOf (L2N.CX g.P g.wd) g.P g.wd w.K g.mg g.base d.N d.qual d.scope f cdv A outer s H E) where
  K := rfl
  N := rfl
  nd := S.nd
  sc := rfl
  fn := rfl
  calm := rfl
  P := rfl
  wd := rfl
  mg := rfl
  base := rfl
  tk := L2N.takes_of rfl rfl rfl rfl
  po := passes_of rfl
  room3 := hr
theorem sem_fn (TO : TabOk T w g) (hT : ∀ x fi, T.fn x = some fi → ∃ d f, defs x = some d ∧ d.fi = fi ∧ g.mg x = some (.ref f) ∧ DefAt w d f) (CF : ClsFit T.cls w defs) (hD : ∀ x d, defs x = some d → FnScope d.N d.ps d.scope) :
    ∀ k, CallOk T w g (4 * k + 1) (semK T nf defs k) ∧ ∀ x d f fd (dv0 : List V) (kw0 : List (Str × V)), defs x = some d → FunD w.K d.name d.qual d.params d.body d.scope dv0 kw0 f fd → FnOk g.P g.wd w.K g.mg g.base (L2N.CX g.P g.wd) (4 * k + 5) f fd d.ps (spF w d.ps.length (semK T nf defs (k + 1) x)) := by
  have step : ∀ k, CallOk T w g (4 * k + 1) (semK T nf defs k) → ∀ x d f fd (dv0 : List V) (kw0 : List (Str × V)), defs x = some d → FunD w.K d.name d.qual d.params d.body d.scope dv0 kw0 f fd → FnOk g.P g.wd w.K g.mg g.base (L2N.CX g.P g.wd) (4 * k + 5) f fd d.ps (spF w d.ps.length (semK T nf defs (k + 1) x)) := by
    intro k C0 x d f fd dv0 kw0 hd hf
    have e : semK T nf defs (k + 1) x = runF d.N.length (exSs (ex (d.T T) (semK T nf defs k) nf d.si) d.body) := by
      funext ds S
      simp only [semK, hd]
    rw [e]
    exact fn_ok (k := 4 * k + 4) hf (hD x d hd) fun cdv A outer s H E hr => exSs_ok (fun st => ex_ok (TO.at d) (C0.at d) nf _ _ (cok_def (hD x d hd) cdv A outer s H E hr) ⟨rfl, rfl, rfl⟩ st) _
  have stepS : ∀ k, CallOk T w g (4 * k + 1) (semK T nf defs k) → ∀ x d f, defs x = some d → DefStar w d f → ∀ n ks how, d.fi.bind n ks = some how → FnC g.P g.wd w.K g.mg g.base (4 * k + 5) f n ks (spC w fun ds kds S => semK T nf defs (k + 1) x (pickD how ds kds d.fi.dds) S) := by
    intro k C0 x d f hd hs n ks how hb
    obtain ⟨fd, ps, pv, ⟨dv0, kw0, h1⟩, h2, h3, h4⟩ := hs.ex
    obtain ⟨rfl, h5, h6, rfl⟩ := h4 n ks how hb
    have e : semK T nf defs (k + 1) x = runF d.N.length (exSs (ex (d.T T) (semK T nf defs k) nf d.si) d.body) := by
      funext ds S
      simp only [semK, hd]
    rw [e]
    exact fnC_star (k := 4 * k + 4) h1 (by rw [← h2]; exact hD x d hd) h3 (fun cdv A outer s H E hr => exSs_ok (fun st => ex_ok (TO.at d) (C0.at d) nf _ _ (cok_def (hD x d hd) cdv A outer s H E hr) ⟨rfl, rfl, rfl⟩ st) _) h5 h6
  have mk : ∀ k, (∀ x d f, defs x = some d → DefAt w d f → ∀ n ks how, d.fi.bind n ks = some how → FnC g.P g.wd w.K g.mg g.base (4 * k + 1) f n ks (spC w fun ds kds S => semK T nf defs k x (pickD how ds kds d.fi.dds) S)) → CallOk T w g (4 * k + 1) (semK T nf defs k) := fun k h => by
    refine ⟨fun x fi hx => ?_, clsOk_of CF h⟩
    obtain ⟨d, f, h1, h2, h3, h4⟩ := hT x fi hx
    subst h2
    exact ⟨f, h3, h x d f h1 h4⟩
  intro k
  induction k with
  | zero =>
    have C0 : CallOk T w g (4 * 0 + 1) (semK T nf defs 0) := mk 0 fun x d f hd hf n ks how hb => by
      have kp : PySem.W.keepIn w.K (.ref f) = true := by
        rcases hf with hf | hf
        · obtain ⟨fd, dv0, kw0, h5, h6⟩ := hf.ex; exact h5.kp
        · obtain ⟨fd, ps, pv, ⟨dv0, kw0, h5⟩, h6⟩ := hf.ex; exact h5.kp
      refine ⟨kp, fun A outer s H us kus vs kvs Q E hr e0 r1 l1 r2 l2 q => ?_⟩
      obtain ⟨Fo, β, G, S, ds, kds, R, q1, q2, q3⟩ := q
      exact q3.elim
    exact ⟨C0, step 0 C0⟩
  | succ k ih =>
    obtain ⟨ih1, ih2⟩ := ih
    have C1 : CallOk T w g (4 * (k + 1) + 1) (semK T nf defs (k + 1)) := mk (k + 1) fun x d f hd hf n ks how hb => by
      rcases hf with hf | hf
      · obtain ⟨fd, dv0, kw0, h5, h6⟩ := hf.ex
        obtain ⟨dvs, dus, q1, q2, q3, q4⟩ := h6 n ks how hb
        have z := fnC_of (F := semK T nf defs (k + 1) x) (ih2 x d f fd dv0 kw0 hd h5) h5.kp q1 q2 q3 q4
        exact z.congr fun ds kds S _ _ => by rw [pickD_plain (hf.pl n ks how hb)]
      · exact stepS k ih1 x d f hd hf n ks how hb
    exact ⟨C1, step (k + 1) C1⟩
/-- the law's own promise -/
theorem law_sp {F : List D → List D → Rf} (K : PySem.W.Frag) (hK : w.K = K) {vs : List V} {H : Hp} {Q : VK} {E : XK} (hT : NdefX.TabsN w.T H) (h : ∃ (a : Addr) (ns : List Int), vs = [.ref a] ∧ SqL K H a (ns.map V.int) ∧ ns.length ≤ sizeLine ∧ (∀ H', Q (.bl true) H') ∧ ∃ f S, F [.fro (ns.map D.int)] [] = .ok (.bl true, f) S) : spF w 1 F vs H Q E := by
  obtain ⟨a, ns, rfl, hs, hz, hq, f, S, e⟩ := h
  have ne : ∀ b o, H b = some o → (∀ ps, o ≠ .tbl ps) → b ∉ w.T.map (·.1) := fun b o e n hb => by
    obtain ⟨q, hq, rfl⟩ := List.mem_map.mp hb
    obtain ⟨ps, e5, _⟩ := hT q hq
    rw [e] at e5
    exact n ps (Option.some.inj e5)
  refine ⟨rfl, fun _ => False, [], fun b => if b ∈ w.T.map (·.1) then none else H b, [], [.fro (ns.map D.int)], ⟨rfl, fun b o h => ?_, fun i d h => by simp at h, fun i d h => by simp at h, fun i j d e a h => by simp at h, fun n d a h => by simp at h, List.nodup_nil, fun a h => h.elim, fun a h => h.elim, rfl, hT, fun q hq => ⟨if_pos (List.mem_map.mpr ⟨q, hq, rfl⟩), fun z => z⟩⟩, ?_, ?_⟩
  · by_cases c : b ∈ w.T.map (·.1)
    · rw [if_pos c] at h; cases h
    · rw [if_neg c] at h; exact h
  · refine Reps.cons ?_ Reps.nil
    unfold Rep
    refine ⟨by rw [List.length_map]; exact hz, a, ns.map V.int, rfl, ?_, ?_⟩
    · rw [hK]
      rcases hs with (hs | ⟨o, hs⟩) | hs
      · exact .inl (.inl (by show (if _ then _ else _) = _; rw [if_neg (ne a _ hs fun ps z => by cases z)]; exact hs))
      · exact .inl (.inr ⟨o, by show (if _ then _ else _) = _; rw [if_neg (ne a _ hs fun ps z => by cases z)]; exact hs⟩)
      · exact .inr hs
    clear hs hz e
    induction ns with
    | nil => exact Reps.nil
    | cons n r ih => exact Reps.cons rep_int ih
  · rw [e]
    intro v β' G' H' F' R' V'
    have hv : v = .bl true := by
      cases f with
      | true =>
        obtain ⟨b, _, _, _, _, _, o⟩ := V'
        exact o.elim
      | false =>
        have hr : Rep w β' G' (.bl true) v := V'
        unfold Rep at hr
        exact hr
    subst hv
    exact hq H'
/-- whatever the world -/
def CXany (P : Program) : CXT := fun outer H s E u s' => ∃ wd, L2N.CX P wd outer H s E u s'
theorem CXany.no {P : Program} {H : Hp} {s : Shared} {e : Value} {s' : Shared} (h : CXany P [] H s (fun _ _ _ => False) e s') : False := by
  obtain ⟨wd, a, B, H', cls, d, _, _, _, _, _, _, _, f⟩ := h
  exact f
theorem FnOk.any {P : Program} {wd : World} {K : PySem.W.Frag} {mg : Str → Option Value} {base : Heap} {k : Nat} {f : Addr} {fd : FuncData} {ps : List Str} {sp : Sp} (F : FnOk P wd K mg base (L2N.CX P wd) k f fd ps sp) : FnOk P wd K mg base (CXany P) k f fd ps sp :=
  ⟨F.len, fun A outer s H args us vs Q E hr e0 hb r hs => codeAny_mono (F.run A outer s H args us vs Q E hr e0 hb r hs) fun r s' q => by
    cases r with
    | error e => exact ⟨wd, q⟩
    | ok fl => cases fl <;> exact q⟩
end
end PD

set_option autoImplicit false
namespace PD
open PySem PySem.Spec PyProof.Rows L2
open NdefX (NScope ncx startF inv_startN CellsAt NF)
/-! ### the classes of errors, as data -/
theorem BK.kf : ∀ b : BK, PySem.W.KxsFacts b.B b.i
  | .V => PySem.W.kxs_ValueError | .L => PySem.W.kxs_LookupError | .I => PySem.W.kxs_IndexError
theorem BK.fb : ∀ b : BK, ExcBaseFacts b.B b.n b.i b.bm
  | .V => PySem.F.excBase_ValueError | .L => PySem.F.excBase_LookupError | .I => PySem.F.excBase_IndexError
theorem BK.sf : ∀ b : BK, StoreFacts b.B b.bm "object.__setattr__" "object"
  | .V => PySem.F.store_ValueError | .L => PySem.F.store_LookupError | .I => PySem.F.store_IndexError
def ErrQ.ps (e : ErrQ) : List Str := ("self" : Str) :: e.f.toList
def ErrQ.N (e : ErrQ) : List Str := e.ps ++ [("__class__" : Str)]
def tagIs (tag : Str) : Stmt → Bool
  | .Assign [.Attribute (.Name x _) t _] (.Constant (.str z) _ _) _ => decide (x = ("self" : Str)) && (decide (t = ("tag" : Str)) && decide (z = tag))
  | _ => false
def fldIs (f : Str) : Stmt → Bool
  | .Assign [.Attribute (.Name x _) t _] (.Name y _) _ => decide (x = ("self" : Str)) && (decide (t = f) && decide (y = f))
  | _ => false
def restOk (tag : Str) : Option Str → List Stmt → Bool
  | none, [s] => tagIs tag s
  | some f, [s, t] => tagIs tag s && (fldIs f t && (!(f == ("__debug__" : Str)) && !(f == ("__classdict__" : Str))))
  | _, _ => false
def bodyOk (tag : Str) (f : Option Str) : List Stmt → Bool
  | .Expr (.Call (.Attribute (.Call (.Name s0 _) [] [] _) m p2) [.Constant (.str _) _ _] [] p3) _ :: rest => decide (s0 = ("super" : Str)) && (decide (m = ("__init__" : Str)) && ((p2.endLine == p3.line) && restOk tag f rest))
  | _ => false
def ErrQ.stat (e : ErrQ) : Bool := bodyOk e.tag e.f (defBody e.st) && (NdefX.nscB e.N e.ps ["__class__"] (defScope e.st) && (decide ((defScope e.st).names.lookup ("super" : Str) = some .globalImplicit) && (decide (((defArgs e.st).posonlyargs ++ (defArgs e.st).args).head?.map (·.arg) = some ("self" : Str)) && decide (e.tag.length ≤ sizeLine))))
/-! ### what is read of the written part -/
section
variable (K : PySem.W.Frag)
end
/-- how the initializer binds -/
structure ErrB (e : ErrQ) : Prop where
  stat : e.stat = true
  bind : ∀ (cl : List (Str × Addr)) (kV doc pm : Value) (an : Option Addr) (cdv ct : Value) (us : List Value), us.length = e.ps.length → bindArgs (PySem.W.fnX "__init__" e.qual (defArgs e.st) (defBody e.st) (defScope e.st) cl .none kV doc pm an cdv ct) ⟨us, []⟩ = pure (e.ps.zip us)
  kw : ∀ n, e.f = some n → ∀ (cl : List (Str × Addr)) (kV doc pm : Value) (an : Option Addr) (cdv ct : Value) (u v : Value), bindArgs (PySem.W.fnX "__init__" e.qual (defArgs e.st) (defBody e.st) (defScope e.st) cl .none kV doc pm an cdv ct) ⟨[u], [(n, v)]⟩ = pure (e.ps.zip [u, v])
theorem tagIs_ok {tag : Str} {s : Stmt} (h : tagIs tag s = true) : ∃ p1 p2 j p3 p4, s = .Assign [.Attribute (.Name ("self" : Str) p1) ("tag" : Str) p2] (.Constant (.str tag) j p3) p4 := by
  unfold tagIs at h
  split at h
  · rename_i x p1 t p2 z j p3 p4
    simp only [Bool.and_eq_true, decide_eq_true_eq] at h
    obtain ⟨rfl, rfl, rfl⟩ := h
    exact ⟨_, _, _, _, _, rfl⟩
  · cases h
theorem fldIs_ok {f : Str} {s : Stmt} (h : fldIs f s = true) : ∃ p1 p2 p3 p4, s = .Assign [.Attribute (.Name ("self" : Str) p1) f p2] (.Name f p3) p4 := by
  unfold fldIs at h
  split at h
  · rename_i x p1 t p2 y p3 p4
    simp only [Bool.and_eq_true, decide_eq_true_eq] at h
    obtain ⟨rfl, rfl, rfl⟩ := h
    exact ⟨_, _, _, _, rfl⟩
  · cases h
/-- the rest of the body -/
theorem rest_ok {K : PySem.W.Frag} {C : Addr} {tag : Str} {f : Option Str} {rest : List Stmt} (T : IsErr K C) (h : restOk tag f rest = true) (ht : PySem.W.findIn K (.ref C) "tag" = some none) (hf : ∀ n, f = some n → PySem.W.findIn K (.ref C) n = some none) :
    ∃ t, (∀ X : Cx, X.K = K → X.N = ("self" : Str) :: (f.toList ++ [("__class__" : Str)]) → Vis X.env.scope ("self" : Str) → (∀ n, f = some n → Vis X.env.scope n) → PSs X rest t) ∧
      ∀ (N : List Str) (ws : List (Option V)) vs H (Q : VK) E, spErr C tag f vs H Q E → ∃ a vs', vs = .ref a :: vs' ∧ H a = some (exo a C none) ∧ t { nx := fun _ H' => Q .non H', rt := Q } (startF N vs ws) H := by
  unfold restOk at h
  split at h
  · obtain ⟨p1, p2, j, p3, p4, rfl⟩ := tagIs_ok h
    refine ⟨tErr0 K tag, fun X hK hN hv _ => ?_, fun N ws vs H Q E hq => tErr0_ok T ht (fun σ H q => q) hq⟩
    subst hK
    exact pss_cons (ps_est (pe_var (i := 0) (by rw [hN]; rfl) hv) pe_str) pss_nil
  · rename_i n s t
    simp only [Bool.and_eq_true, Bool.not_eq_true'] at h
    obtain ⟨h1, h2, h3, h4⟩ := h
    obtain ⟨p1, p2, j, p3, p4, rfl⟩ := tagIs_ok h1
    obtain ⟨q1, q2, q3, q4, rfl⟩ := fldIs_ok h2
    refine ⟨tErr1 K tag n, fun X hK hN hv hv2 => ?_, fun N ws vs H Q E hq => tErr1_ok T ht (hf n rfl) (fun σ H q => q) hq⟩
    subst hK
    exact pss_cons (ps_est (pe_var (i := 0) (by rw [hN]; rfl) hv) pe_str) (pss_cons (ps_est (pe_var (i := 0) (by rw [hN]; rfl) hv) (pe_var (i := 1) (by rw [hN]; rfl) (hv2 n rfl) h3 h4)) pss_nil)
  · cases h
theorem sup_shape {o : Expr} {mn : Str} {apos pos : Pos} {args : List Expr} {env : Env} (hp : plainArgs args = true) (hlen : args.length + 1 < 30) (hl : (apos.endLine == pos.line) = true) :
    eval (.Call (.Attribute o mn apos) args [] pos) env = (do
      let ov ← attributeBase o mn env (eval o env)
      standAt apos.atName
      let (f, first) ← holding [ov] (getMethod ov mn (plainOf o env))
      callWith pos f first (backTo pos (starEach args env)) []) := by
  have hf : methodCallForm (args.length + 0) (backTo pos (starEach args env)) (backToKw pos (keywordEach [] env)) = true := by
    unfold methodCallForm
    rw [back_all hp]
    simp only [Bool.true_and]
    show (true && decide _) = true
    rw [Bool.true_and, decide_eq_true_eq]
    split <;> omega
  rw [arm_eval_Call]
  congr 1
  funext ov
  congr 1
  funext _
  exact mcall_line hf hl
section
variable {K : PySem.W.Frag} {h : Heap} {mg : Str → Option Value} {e : ErrQ} {file : Str}
open He (ba)
theorem cloB_ok {C : Addr} {l : List (Str × Addr)} (h : cloB K C l = true) : ∃ cl ccl cld csl, l = [(("__class__" : Str), cl)] ∧ K.lookup cl = some ⟨ccl, cld, .cell (some (.ref C)), csl⟩ := by
  unfold cloB at h
  split at h
  · rename_i x cl
    obtain ⟨c1, c2⟩ := ba h
    split at c2
    · rename_i a b C' d eq
      have := of_decide_eq_true c1
      have e2 := of_decide_eq_true c2
      subst this e2
      exact ⟨cl, _, _, _, rfl, eq⟩
    · cases c2
  · cases h
theorem codB_ok {v : Value} (h : codB K file v = true) : ∃ cc cv ccd vs ccs fl tf, v = .ref cc ∧ K.lookup cc = some ⟨cv, ccd, .fields vs, ccs⟩ ∧ vs[2]? = some (.str fl tf) ∧ (file == fl) = true := by
  unfold codB at h
  split at h
  · rename_i cc
    split at h
    · rename_i cv ccd vs ccs eq
      split at h
      · rename_i fl tf e2
        exact ⟨cc, _, _, _, _, fl, tf, rfl, eq, e2, h⟩
      · cases h
    · cases h
  · cases h
theorem errS_of (X : K.In h) (c : e.ok K file = true) : ErrS K (He.ga K e.c) e.b.B e.b.n e.b.i e.b.bm := by
  unfold ErrQ.ok at c
  obtain ⟨c1, c⟩ := ba c
  obtain ⟨c2, c⟩ := ba c
  obtain ⟨c3, c⟩ := ba c
  obtain ⟨c4, c⟩ := ba c
  obtain ⟨c5, c⟩ := ba c
  obtain ⟨c6, c⟩ := ba c
  obtain ⟨c7, c⟩ := ba c
  obtain ⟨c8, c⟩ := ba c
  obtain ⟨c9, c⟩ := ba c
  obtain ⟨cd, h1, h2⟩ := PySem.W.any_some c9
  exact { kf := e.b.kf, fb := e.b.fb, q := c2, sup := He.eqO_ok c3, sB := of_decide_eq_true c4, cls := ⟨cd, h1⟩, sub := of_decide_eq_true c5, op := He.eqO_ok c6, sf := e.b.sf, ov := c7, sa := He.eqO_ok c8, hd := ⟨cd, h1, h2⟩ }
theorem bodyOk_ok {tag : Str} {f : Option Str} {b : List Stmt} (h : bodyOk tag f b = true) : ∃ p0 p1 p2 z j5 p5 p3 p4 rest, b = .Expr (.Call (.Attribute (.Call (.Name ("super" : Str) p0) [] [] p1) ("__init__" : Str) p2) [.Constant (.str z) j5 p5] [] p3) p4 :: rest ∧ (p2.endLine == p3.line) = true ∧ restOk tag f rest = true := by
  unfold bodyOk at h
  split at h
  · simp only [Bool.and_eq_true, decide_eq_true_eq] at h
    obtain ⟨rfl, rfl, h6, h7⟩ := h
    exact ⟨_, _, _, _, _, _, _, _, _, rfl, h6, h7⟩
  · cases h
theorem fn_err {P : Program} {wd : World} {base : Heap} (X : K.In h) (B : ErrB e) {oc n9 n10 n11 n14 : Value} {od n12 : Option Addr} {osl : Array (Option Value)} {C cl cc : Addr} {ccl cv : Value} {cld ccd : Option Addr} {csl ccs : Array (Option Value)} {vs : Array Value} {tf : Tok}
    (TS : ErrS K C e.b.B e.b.n e.b.i e.b.bm) (ht : PySem.W.findIn K (.ref C) "tag" = some none) (hf : ∀ n, e.f = some n → PySem.W.findIn K (.ref C) n = some none)
    (lk : K.lookup (e.fI K) = some ⟨oc, od, .func (PySem.W.fnX "__init__" e.qual (defArgs e.st) (defBody e.st) (defScope e.st) [("__class__", cl)] .none n9 n10 n11 n12 (.ref cc) n14), osl⟩) (hcd : PySem.W.codeIn K (.ref cc) e.qual = true)
    (lcl : K.lookup cl = some ⟨ccl, cld, .cell (some (.ref C)), csl⟩) (lcc : K.lookup cc = some ⟨cv, ccd, .fields vs, ccs⟩) (lvs : vs[2]? = some (.str file tf)) (hfile : ((P.main.file : Str) == file) = true) (htop : (P.main.scope.names.lookup ("super" : Str)).isSome = false) (hm : mg ("super" : Str) = none) (hbb : bootBuiltins "super" = some (.type "super")) (CX : CXT) :
    FnOk P wd K mg base CX 1 (e.fI K) (PySem.W.fnX "__init__" e.qual (defArgs e.st) (defBody e.st) (defScope e.st) [("__class__", cl)] .none n9 n10 n11 n12 (.ref cc) n14) e.ps (spErr C e.tag e.f) := by
  have st := B.stat
  unfold ErrQ.stat at st
  obtain ⟨s1, st⟩ := ba st
  obtain ⟨s2, st⟩ := ba st
  obtain ⟨s3, st⟩ := ba st
  obtain ⟨s4, s5⟩ := ba st
  have S := NdefX.nscope_by s2
  obtain ⟨p0, p1, p2, z, j5, p5, p3, p4, rest, hbd, s6, s7⟩ := bodyOk_ok s1
  have IE : IsErr K C := ⟨_, _, _, _, TS⟩
  obtain ⟨t, t1, t2⟩ := rest_ok IE s7 ht hf
  obtain ⟨ar, har⟩ : ∃ ar, ((defArgs e.st).posonlyargs ++ (defArgs e.st).args).head? = some ar := by
    cases q : ((defArgs e.st).posonlyargs ++ (defArgs e.st).args).head? with
    | none => rw [q] at s4; exact absurd (of_decide_eq_true s4) (by simp)
    | some ar => exact ⟨ar, rfl⟩
  have har2 : ar.arg = ("self" : Str) := by
    have z := of_decide_eq_true s4
    rw [har] at z
    simpa using z
  rw [hbd] at lk ⊢
  refine exinit_ok (N := e.N) (ta := tCons (tC (.str z)) tNil) (t := t) TS.toErrC lk hcd S lcc lvs hfile htop lcl (of_decide_eq_true s3) hm hbb har (by rw [har2]; rfl) (fun env => sup_shape rfl (by simp) s6) _ ?_ (fun σ H Q q => q _) (fun A outer s H E => pa_cons pe_str pa_nil) (fun A outer s H E => t1 _ rfl rfl ?_ ?_) (fun vs H Q E q => t2 _ _ _ _ _ _ q)
  · intro vs H Q E q
    unfold ErrQ.ps
    cases hfe : e.f with
    | none => rw [hfe] at q; obtain ⟨a, rfl, _⟩ := q; rfl
    | some n => rw [hfe] at q; obtain ⟨a, v, rfl, _⟩ := q; rfl
  · exact .inl (S.par _ (by unfold ErrQ.ps; exact List.mem_cons_self))
  · intro n en
    exact .inl (S.par _ (by unfold ErrQ.ps; rw [en]; simp))
theorem errAt_of {P : Program} {wd : World} {base : Heap} (X : K.In h) (G : h.Ns mainGlobals mg) (B : ErrB e) (c : e.ok K file = true) (hv : fnB K (e.fI K) = e.val) (hfile : ((P.main.file : Str) == file) = true) (htop : (P.main.scope.names.lookup ("super" : Str)).isSome = false) (hm : mg ("super" : Str) = none) (hbb : bootBuiltins "super" = some (.type "super")) :
    ErrAt ⟨K, He.ga K, []⟩ ⟨P, wd, mg, base⟩ e.c e.tag e.f := by
  have TS := errS_of X c
  unfold ErrQ.ok at c
  obtain ⟨c1, c⟩ := ba c
  obtain ⟨_, c⟩ := ba c
  obtain ⟨_, c⟩ := ba c
  obtain ⟨_, c⟩ := ba c
  obtain ⟨_, c⟩ := ba c
  obtain ⟨_, c⟩ := ba c
  obtain ⟨_, c⟩ := ba c
  obtain ⟨_, c⟩ := ba c
  obtain ⟨_, c⟩ := ba c
  obtain ⟨c10, c⟩ := ba c
  obtain ⟨c11, c⟩ := ba c
  obtain ⟨c12, c⟩ := ba c
  obtain ⟨c13, c⟩ := ba c
  obtain ⟨c14, c⟩ := ba c
  obtain ⟨c15, c⟩ := ba c
  obtain ⟨c16, c⟩ := ba c
  have st := B.stat
  unfold ErrQ.stat at st
  obtain ⟨s1, st⟩ := ba st
  obtain ⟨s2, st⟩ := ba st
  obtain ⟨s3, st⟩ := ba st
  obtain ⟨s4, s5⟩ := ba st
  have ht : PySem.W.findIn K (.ref (He.ga K e.c)) "tag" = some none := He.eqO_ok c15
  have hf : ∀ n, e.f = some n → PySem.W.findIn K (.ref (He.ga K e.c)) n = some none := fun n en => by
    rw [en] at c16
    exact He.eqO_ok c16
  unfold ErrQ.fnOk at c
  split at c
  · rename_i oc od fd osl lk
    obtain ⟨d1, c⟩ := ba c
    obtain ⟨d2, c⟩ := ba c
    obtain ⟨d3, d4⟩ := ba c
    unfold fnB at hv
    rw [lk] at hv
    obtain ⟨n1, n2, n3, n4, n5, n6, n7, n8, n9, n10, n11, n12, n13, n14, n15⟩ := fd
    simp only [ErrQ.val, Option.some.injEq, Prod.mk.injEq] at hv
    obtain ⟨h1, h2, h3, h4, h5, h6, _, h8⟩ := hv
    simp only at d1 d2 d3 d4
    subst h1 h2 h3 h4 h5 h6 h8
    obtain ⟨cl, ccl, cld, csl, rfl, lcl⟩ := cloB_ok d3
    obtain ⟨cc, cv, ccd, vs, ccs, fl, tf, rfl, lcc, lvs, lfl⟩ := codB_ok d4
    have hn8 : n8 = .none := by cases n8 <;> first | rfl | cases d2
    subst hn8
    have hfl : file = fl := eq_of_beq lfl
    subst hfl
    exact ⟨⟨e.b.B, e.b.n, e.b.i, e.b.bm, e.fI K, _, e.ps, TS, He.eqO_ok c10, of_decide_eq_true c11, .all fun us hl => B.bind _ _ _ _ _ _ _ us hl, fun n en s u v _ => .of_eq (B.kw n en _ _ _ _ _ _ _ u v), fn_err X B TS ht hf lk d1 lcl lcc lvs hfile htop hm hbb⟩,
      of_decide_eq_true c12, of_decide_eq_true c13, c14, He.glo_ok X G c1, of_decide_eq_true s5⟩
  · cases c
end
end PD

set_option autoImplicit false
namespace PD
open PySem PySem.Spec PyProof.Rows L2

/-! ### the tables of a text, as data -/
def AtQ.k : AtQ → AtK
  | .fld => .fld
  | .con d => .con d
  | .prop k => .prop k
def QTab.df (Q : QTab) (k : Str) : Option DefI := (Q.defs.lookup k).map fun q => q.d
def QTab.cls (Q : QTab) : ClT where
  at_ := fun c f => (Q.at_.lookup (c, f)).map AtQ.k
  me := fun c m => (Q.me.lookup (c, m)).bind fun k => (Q.fi k).map fun fi => (k, fi)
  made := fun c => (Q.made.lookup c).bind fun p => (Q.fi p.1).map fun fi => (p.1, fi, p.2)
  set_ := fun c f => Q.set_.lookup (c, f)
  eq_ := fun c => Q.eq_.lookup c
  cm := fun c m => (Q.cm.lookup (c, m)).bind fun p => (Q.fi p.2).map fun fi => (p.1, p.2, fi)
  ex_ := fun c f => Q.exf.contains (c, f)
def QTab.T (Q : QTab) : Tab where
  free := fun x => Q.free.contains x
  con := fun x => Q.con.lookup x
  fn := fun x => if Q.fns.contains x = true then Q.fi x else none
  md := fun x => (Q.md.lookup x).getD .val
  fuel := Q.fuel
  cls := Q.cls
  ownM := fun m => Q.ownM.contains m
  amd := fun x => (Q.amd.lookup x).getD .val
  isi := ⟨fun x => Q.nam.lookup x, fun a b => (Q.isi.lookup a).bind fun l => l.lookup b, fun c => Q.insT.contains c, fun c => Q.excT.contains c⟩
  dtup := fun n => Q.dtup.contains n
  nes := fun c => Q.nes.contains c
  gd := fun c => Q.gd.lookup c
  err := fun x => (Q.err.lookup x).map fun e => (e.tag, e.f)
theorem lk_mem {α β : Type} [BEq α] [LawfulBEq α] {a : α} {b : β} : ∀ {l : List (α × β)}, l.lookup a = some b → (a, b) ∈ l
  | [], h => by cases h
  | (c, d) :: r, h => by
    rw [List.lookup_cons] at h
    cases e : (a == c) with
    | true =>
      rw [e] at h
      cases h
      rw [eq_of_beq e]
      exact List.mem_cons_self
    | false =>
      rw [e] at h
      exact List.mem_cons_of_mem _ (lk_mem h)
/-! ### what is checked of the written part -/
section
variable (K : PySem.W.Frag)
theorem dInts_eq : ∀ {ds : List D} {is : List Int}, dInts ds = some is → ds = is.map D.int
  | [], is, h => by cases h; rfl
  | d :: r, is, h => by
    cases d <;> simp only [dInts] at h <;> first | (cases h; done) | skip
    obtain ⟨js, h1, h2⟩ := Option.map_eq_some_iff.mp h
    subst h2
    rw [dInts_eq h1]
    rfl
end
section
variable {K : PySem.W.Frag} {Q : QTab} {h : Heap} {mg : Str → Option Value}
open He (ba)
theorem all_at {α : Type} {l : List α} {f : α → Bool} (h : l.all f = true) {a : α} (ha : a ∈ l) : f a = true := List.all_eq_true.mp h a ha
theorem dDv_ok {d : D} {v : He.Dv} (e : dDv d = some v) : ∀ (K : PySem.W.Frag) (β : List Addr) (G : Hp), Rep (wK K) β G d (v.v K) := fun K β G => by
  cases d <;> simp only [dDv] at e <;> first | (cases e; done) | skip
  all_goals (cases e; unfold Rep; rfl)
theorem reps_is {w : Wo} {β : List Addr} {G : Hp} : ∀ is : List Int, Reps w β G (is.map D.int) (is.map V.int)
  | [] => Reps.nil
  | i :: r => Reps.cons rep_int (reps_is r)
theorem conChk_ok (X : K.In h) (G : h.Ns mainGlobals mg) {x : Str} {d : D} (c : conChk K x d = true) : ∃ u v, mg x = some u ∧ RelV v u ∧ ∀ β G, Rep (wK K) β G d v := by
  unfold conChk at c
  split at c
  · rename_i i
    obtain ⟨t, e⟩ := He.int_ok X G c
    exact ⟨_, .int i, e, ⟨t, rfl⟩, fun _ _ => by unfold Rep; rfl⟩
  · rename_i z
    obtain ⟨c1, c2⟩ := ba c
    obtain ⟨t, e⟩ := He.str_ok X G c1
    exact ⟨_, .str z, e, ⟨t, rfl⟩, fun _ _ => by unfold Rep; exact ⟨rfl, of_decide_eq_true c2⟩⟩
  · rename_i c0
    obtain ⟨c1, c2⟩ := ba c
    have := of_decide_eq_true c1
    subst this
    exact ⟨_, .ref (He.ga K c0), He.glo_ok X G c2, rfl, fun _ _ => by unfold Rep; rfl⟩
  · rename_i ds
    split at c
    · rename_i is e
      obtain ⟨c1, c⟩ := ba c
      obtain ⟨c2, c3⟩ := ba c
      have := dInts_eq e
      subst this
      refine ⟨_, .ref (He.ga K x), He.glo_ok X G c1, rfl, fun β G => ?_⟩
      unfold Rep
      refine ⟨of_decide_eq_true c3, _, is.map V.int, rfl, ?_, ?_⟩
      · have := He.tupB_ok c2 G
        rw [List.map_map] at this
        exact this
      · exact reps_is is
    · cases c
  · cases c
theorem isDef_ok {k : Str} {a : Addr} (c : isDef K Q k a = true) : ∃ q, Q.defs.lookup k = some q ∧ q.at_ K = a := by
  unfold isDef at c
  split at c
  · rename_i q e; exact ⟨q, e, of_decide_eq_true c⟩
  · cases c
theorem propB_ok {C : Addr} {f : Str} {q : Addr} (c : propB K C f q = true) : ∃ p, PropOf K C f p q := by
  unfold propB at c
  split at c
  · rename_i p e
    obtain ⟨c1, c⟩ := ba c
    obtain ⟨c2, c3⟩ := ba c
    split at c3
    · rename_i g r e2
      have := of_decide_eq_true c3
      subst this
      exact ⟨p, ⟨e, He.eqO_ok c1, of_decide_eq_true c2, ⟨r, e2⟩⟩⟩
    · cases c3
  · cases c
theorem setB_ok {C : Addr} {f : Str} {q : Addr} (c : setB K C f q = true) : SetOf K C f q := by
  unfold setB at c
  split at c
  · rename_i p e
    obtain ⟨c1, c3⟩ := ba c
    split at c3
    · rename_i a g r e2
      have := of_decide_eq_true c3
      subst this
      exact ⟨p, a, r, e, of_decide_eq_true c1, e2⟩
    · cases c3
  · cases c
theorem gdVs_ok : ∀ {kvs : List (Str × D)} {vs : List (Str × He.Dv)}, gdVs kvs = some vs → ∀ {k : Str} {d : D}, (k, d) ∈ kvs → ∃ v, (k, v) ∈ vs ∧ dDv d = some v
  | [], vs, e, k, d, hm => by cases hm
  | (k0, d0) :: r, vs, e, k, d, hm => by
    simp only [gdVs] at e
    split at e
    · rename_i v0 vs0 e1 e2
      cases e
      rcases List.mem_cons.mp hm with z | z
      · cases z; exact ⟨v0, List.mem_cons_self, e1⟩
      · obtain ⟨v, h1, h2⟩ := gdVs_ok e2 z
        exact ⟨v, List.mem_cons_of_mem _ h1, h2⟩
    · cases e
structure QTab.Chk (K : PySem.W.Frag) (Q : QTab) : Prop where
  free : Q.free.all (fun x => (He.Fa.free x).ok K) = true
  con : Q.con.all (fun p => conChk K p.1 p.2) = true
  fns : Q.fns.all (fun x => (He.Fa.glo x).ok K && isDef K Q x (He.ga K x)) = true
  at_ : Q.at_.all (fun p => atChk K Q p.1.1 p.1.2 p.2) = true
  me : Q.me.all (fun p => (He.Fa.cls p.1.1).ok K && ((He.Fa.meth p.1.1 p.1.2).ok K && isDef K Q p.2 (He.ma K (He.ga K p.1.1) p.1.2))) = true
  made : Q.made.all (fun p => (He.Fa.mkr p.1).ok K && ((He.Fa.glo p.1).ok K && isDef K Q p.2.1 (He.ma K (He.ga K p.1) "__init__"))) = true
  set_ : Q.set_.all (fun p => (He.Fa.cls p.1.1).ok K && (match Q.defs.lookup p.2 with
    | some q => setB K (He.ga K p.1.1) p.1.2 (q.at_ K) && decide (q.d.fi.bind 2 [] = some [.pos 0, .pos 1])
    | none => false)) = true
  eq_ : Q.eq_.all (fun p => (match Q.defs.lookup p.2 with
    | some q => He.eqO (PySem.W.findIn K (.ref (He.ga K p.1)) "__eq__") (some (some (.ref (q.at_ K)))) && (PySem.W.isFn K (.ref (q.at_ K)) && decide (q.d.fi.bind 2 [] = some [.pos 0, .pos 1]))
    | none => false)) = true
  cm : Q.cm.all (fun p => cmChk K Q p.1.1 p.1.2 p.2) = true
  nes : Q.nes.all (fun c => He.eqO (PySem.W.findIn K (.ref (He.ga K c)) "__ne__") (some (some (.builtin "object.__ne__"))) && decide (PySem.W.mroIn K (He.ga K c) (.type "object") = some true)) = true
  gd : Q.gd.all (fun p => gdChk K p.1 p.2) = true
  nam : Q.nam.all (fun p => namChk K p.1 p.2) = true
  isi : Q.isi.all (fun p => p.2.all fun q => decide (PySem.W.kitOne K (p.1.val (wK K)) (q.1.val (wK K)) = some q.2)) = true
  insT : Q.insT.all (fun c => insChk K c) = true
  err : Q.err.all (fun p => decide (p.2.c = p.1) && p.2.ok K Q.file) = true
  exf : Q.exf.all (fun p => xfB K (He.ga K p.1) && He.eqO (PySem.W.findIn K (.ref (He.ga K p.1)) p.2) (some none)) = true
  excT : Q.excT.all (fun c => excB K (He.ga K c)) = true
theorem QTab.chk_ok (c : Q.chk K = true) : Q.Chk K := by
  unfold QTab.chk at c
  obtain ⟨ce, c⟩ := ba c
  unfold QTab.chkE at ce
  obtain ⟨e1, ce⟩ := ba ce
  obtain ⟨e2, e3⟩ := ba ce
  obtain ⟨c1, c⟩ := ba c
  obtain ⟨c2, c⟩ := ba c
  obtain ⟨c3, c⟩ := ba c
  obtain ⟨c4, c⟩ := ba c
  obtain ⟨c5, c⟩ := ba c
  obtain ⟨c6, c⟩ := ba c
  obtain ⟨c7, c⟩ := ba c
  obtain ⟨c8, c⟩ := ba c
  obtain ⟨c9, c⟩ := ba c
  obtain ⟨c10, c⟩ := ba c
  obtain ⟨c11, c⟩ := ba c
  obtain ⟨c12, c⟩ := ba c
  obtain ⟨c13, c14⟩ := ba c
  exact ⟨c1, c2, c3, c4, c5, c6, c7, c8, c9, c10, c11, c12, c13, c14, e1, e2, e3⟩
theorem QTab.tabOk {P : Program} {wd : World} {base : Heap} (X : K.In h) (G : h.Ns mainGlobals mg) (C : Q.Chk K) (hgd : ∀ c kvs, Q.gd.lookup c = some kvs → ∃ es n, KDict K wd (He.ga K c) es n) (hE : ∀ x e, Q.err.lookup x = some e → ErrAt (wK K) ⟨P, wd, mg, base⟩ x e.tag e.f) : TabOk Q.T (wK K) ⟨P, wd, mg, base⟩ where
  free := fun x hx => He.free_ok X G (all_at C.free (by
    have hx : Q.free.contains x = true := hx
    exact List.contains_iff_mem.mp hx))
  isi := {
    nam := fun x n e => by
      have c := all_at C.nam (lk_mem (show Q.nam.lookup x = some n from e))
      cases n with
      | ty s =>
        obtain ⟨c1, c2⟩ := ba c
        exact ⟨He.free_ok X G c1, of_decide_eq_true c2⟩
      | own c0 =>
        obtain ⟨c1, c2⟩ := ba c
        have c1 : c0 = x := of_decide_eq_true c1
        subst c1
        exact He.glo_ok X G c2
    isi := fun a b r e => by
      obtain ⟨l, h1, h2⟩ := Option.bind_eq_some_iff.mp (show ((Q.isi.lookup a).bind fun l => l.lookup b) = some r from e)
      exact of_decide_eq_true (all_at (all_at C.isi (lk_mem h1)) (lk_mem h2))
    insT := fun c e => by
      have c := all_at C.insT (List.contains_iff_mem.mp (show Q.insT.contains c = true from e))
      obtain ⟨c1, c⟩ := ba c
      obtain ⟨c2, c⟩ := ba c
      obtain ⟨c3, c⟩ := ba c
      obtain ⟨c4, c5⟩ := ba c
      exact ⟨He.cls_ok c1, He.eqO_ok c2, He.eqO_ok c3, of_decide_eq_true c4, of_decide_eq_true c5⟩
    excT := fun c e => by
      have c := all_at C.excT (List.contains_iff_mem.mp (show Q.excT.contains c = true from e))
      unfold excB at c
      obtain ⟨c1, c⟩ := ba c
      obtain ⟨c2, c⟩ := ba c
      obtain ⟨c3, c⟩ := ba c
      obtain ⟨c4, c5⟩ := ba c
      have T := xfB_ok c1
      exact ⟨T.ga, T.gg, T.exC, T.hdC, He.eqO_ok c2, He.eqO_ok c3, of_decide_eq_true c4, of_decide_eq_true c5⟩ }
  err := fun x tag f e => by
    obtain ⟨q, h1, h2⟩ := Option.map_eq_some_iff.mp (show (Q.err.lookup x).map (fun e => (e.tag, e.f)) = some (tag, f) from e)
    cases h2
    exact hE x q h1
  made := fun x z e => by
    obtain ⟨p, h1, _⟩ := Option.bind_eq_some_iff.mp (show (Q.made.lookup x).bind _ = some z from e)
    obtain ⟨_, c⟩ := ba (all_at C.made (lk_mem h1))
    exact He.glo_ok X G (ba c).1
  nes := fun c e => by
    obtain ⟨c1, c2⟩ := ba (all_at C.nes (List.contains_iff_mem.mp (show Q.nes.contains c = true from e)))
    exact ⟨He.eqO_ok c1, of_decide_eq_true c2⟩
  gd := ⟨fun c kvs e => by
    have e : Q.gd.lookup c = some kvs := e
    obtain ⟨es, n, KD⟩ := hgd c kvs e
    refine ⟨es, n, KD, fun z d hz => ?_⟩
    have ck := all_at C.gd (lk_mem e)
    unfold gdChk at ck
    simp only at ck
    split at ck
    · rename_i vs e2
      obtain ⟨v, hv, ev⟩ := gdVs_ok e2 (lk_mem hz)
      obtain ⟨u, h1, h2⟩ := He.valsB_ok ck hv
      exact ⟨u, v.v K, h1, h2, fun β G => dDv_ok ev K β G⟩
    · cases ck⟩
  con := fun x d e => conChk_ok X G (all_at C.con (lk_mem (show Q.con.lookup x = some d from e)))
theorem fi_ok {k : Str} {fi : FnI} (e : Q.fi k = some fi) {a : Addr} (c : isDef K Q k a = true) (hd : ∀ k q, Q.defs.lookup k = some q → DefAt (wK K) q.d (q.at_ K)) : ∃ d, Q.df k = some d ∧ d.fi = fi ∧ DefAt (wK K) d a := by
  obtain ⟨q, h1, rfl⟩ := isDef_ok c
  unfold QTab.fi at e
  rw [h1] at e
  cases e
  exact ⟨q.d, by unfold QTab.df; rw [h1]; rfl, rfl, hd k q h1⟩
theorem QTab.clsFit (C : Q.Chk K) (hd : ∀ k q, Q.defs.lookup k = some q → DefAt (wK K) q.d (q.at_ K)) : ClsFit Q.T.cls (wK K) Q.df where
  at_ := fun c f a e => by
    obtain ⟨z, h1, rfl⟩ := Option.map_eq_some_iff.mp (show (Q.at_.lookup (c, f)).map AtQ.k = some a from e)
    have ck := all_at C.at_ (lk_mem h1)
    cases z with
    | fld =>
      obtain ⟨c1, c2⟩ := ba ck
      exact ⟨He.cls_ok c1, He.noat_ok c2⟩
    | con d =>
      obtain ⟨c1, c2⟩ := ba ck
      refine ⟨He.cls_ok c1, ?_⟩
      split at c2
      · rename_i v ev
        obtain ⟨c3, c4⟩ := ba c2
        obtain ⟨u, hu⟩ := He.conB_ok c3 (by simpa using c4)
        exact ⟨_, u, hu, fun β G => dDv_ok ev K β G⟩
      · cases c2
    | prop k =>
      obtain ⟨c1, c2⟩ := ba ck
      refine ⟨He.cls_ok c1, ?_⟩
      split at c2
      · rename_i q hq
        obtain ⟨c3, c4⟩ := ba c2
        obtain ⟨p, hp⟩ := propB_ok c3
        exact ⟨p, _, q.d, hp, by unfold QTab.df; rw [hq]; rfl, hd k q hq, of_decide_eq_true c4⟩
      · cases c2
  me := fun c m q fi e => by
    obtain ⟨k, h1, h2⟩ := Option.bind_eq_some_iff.mp (show (Q.me.lookup (c, m)).bind _ = some (q, fi) from e)
    obtain ⟨fi', h3, h4⟩ := Option.map_eq_some_iff.mp h2
    cases h4
    obtain ⟨c1, ck⟩ := ba (all_at C.me (lk_mem h1))
    obtain ⟨c2, c3⟩ := ba ck
    obtain ⟨d, q1, q2, q3⟩ := fi_ok h3 c3 hd
    exact ⟨He.cls_ok c1, _, d, He.meth_ok c2, q1, q2, q3⟩
  set_ := fun c f q e => by
    obtain ⟨c1, c2⟩ := ba (all_at C.set_ (lk_mem (show Q.set_.lookup (c, f) = some q from e)))
    refine ⟨He.cls_ok c1, ?_⟩
    split at c2
    · rename_i qd hq
      obtain ⟨c3, c4⟩ := ba c2
      exact ⟨_, qd.d, setB_ok c3, by unfold QTab.df; rw [hq]; rfl, hd _ qd hq, of_decide_eq_true c4⟩
    · cases c2
  eq_ := fun c q e => by
    have c2 := all_at C.eq_ (lk_mem (show Q.eq_.lookup c = some q from e))
    simp only at c2
    split at c2
    · rename_i qd hq
      obtain ⟨c3, c4⟩ := ba c2
      obtain ⟨c4, c5⟩ := ba c4
      exact ⟨_, qd.d, He.eqO_ok c3, c4, by unfold QTab.df; rw [hq]; rfl, hd _ qd hq, of_decide_eq_true c5⟩
    · cases c2
  made := fun c q fi al e => by
    obtain ⟨p, h1, h2⟩ := Option.bind_eq_some_iff.mp (show (Q.made.lookup c).bind _ = some (q, fi, al) from e)
    obtain ⟨fi', h3, h4⟩ := Option.map_eq_some_iff.mp h2
    cases h4
    obtain ⟨c1, ck⟩ := ba (all_at C.made (lk_mem h1))
    obtain ⟨c2, c3⟩ := ba ck
    obtain ⟨d, q1, q2, q3⟩ := fi_ok h3 c3 hd
    exact ⟨_, d, He.mkr_ok c1, q1, q2, q3⟩
  cm := fun c m b q fi e => by
    obtain ⟨p, h1, h2⟩ := Option.bind_eq_some_iff.mp (show (Q.cm.lookup (c, m)).bind _ = some (b, q, fi) from e)
    obtain ⟨fi', h3, h4⟩ := Option.map_eq_some_iff.mp h2
    obtain ⟨p1, p2⟩ := p
    cases h4
    obtain ⟨c1, ck⟩ := ba (all_at C.cm (lk_mem h1))
    obtain ⟨c1, c2⟩ := ba c1
    have rd : ClX.CRead K (He.ga K c) (.type "type") := ⟨c1, He.eqO_ok c2⟩
    cases p1 with
    | false =>
      obtain ⟨c3, c4⟩ := ba ck
      obtain ⟨d, q1, q2, q3⟩ := fi_ok h3 c4 hd
      obtain ⟨k1, rest, k2⟩ := He5.wrapB_ok c3
      exact ⟨_, d, ⟨_, rd, ⟨_, rest, k1, k2⟩⟩, q1, q2, q3⟩
    | true =>
      obtain ⟨c3, c4⟩ := ba ck
      obtain ⟨c5, c6⟩ := ba c4
      obtain ⟨d, q1, q2, q3⟩ := fi_ok h3 c6 hd
      exact ⟨_, d, ⟨_, _, rd, He5.cmet_of c3 c5⟩, q1, q2, q3⟩
  ex_ := fun c f e => by
    obtain ⟨c1, c2⟩ := ba (all_at C.exf (List.contains_iff_mem.mp (show Q.exf.contains (c, f) = true from e)))
    exact ⟨xfB_ok c1, He.eqO_ok c2⟩
theorem QTab.fnFit (X : K.In h) (G : h.Ns mainGlobals mg) (C : Q.Chk K) (hd : ∀ k q, Q.defs.lookup k = some q → DefAt (wK K) q.d (q.at_ K)) : ∀ x fi, Q.T.fn x = some fi → ∃ d f, Q.df x = some d ∧ d.fi = fi ∧ mg x = some (.ref f) ∧ DefAt (wK K) d f := fun x fi e => by
  have e : (if Q.fns.contains x = true then Q.fi x else none) = some fi := e
  split at e
  · rename_i hx
    obtain ⟨c1, c2⟩ := ba (all_at C.fns (List.contains_iff_mem.mp hx))
    obtain ⟨d, q1, q2, q3⟩ := fi_ok e c2 hd
    exact ⟨d, _, q1, q2, He.glo_ok X G c1, q3⟩
  · cases e
/-! ### how the defs bind -/
theorem defPlain_of {w : Wo} {d : DefI} {bl : BL} {dds : List D} {f : Addr} {fd : FuncData} {dv0 : List V} {kw0 : List (Str × V)} (F : FunD w.K d.name d.qual d.params d.body d.scope dv0 kw0 f fd) (hf : d.fi = blFi bl dds) (hp : bl.all (fun p => plainHow p.2) = true)
    (hb : ∀ p ∈ bl, ∃ (dvs : List V) (dus : List Value), BindC w.K fd d.ps p.1.1 p.1.2 p.2 dus ∧ Vals dvs dus ∧ (∀ β G, Reps w β G dds dvs) ∧
      ∀ {α : Type} (us ws fs : List α), us.length = p.1.1 → ws.length = p.1.2.length → fs.length = dus.length → (pick p.2 us ws fs).length = d.ps.length) : DefAt w d f := .inl
  ⟨⟨fd, dv0, kw0, F, fun n ks how e => by
    rw [hf] at e ⊢
    exact hb _ (lk_mem (show bl.lookup (n, ks) = some how from e))⟩, fun n ks how e => by
    rw [hf] at e
    exact all_at hp (lk_mem (show bl.lookup (n, ks) = some how from e))⟩
theorem defStar_of {w : Wo} {d : DefI} {bl : BL} {dds : List D} {f : Addr} {fd : FuncData} {dv0 : List V} {kw0 : List (Str × V)} {ps : List Str} {pv : Str} (F : FunD w.K d.name d.qual d.params d.body d.scope dv0 kw0 f fd) (hf : d.fi = blFi bl dds) (hps : d.ps = ps ++ [pv])
    (hb : ∀ us rest : List Value, us.length = ps.length → bindArgs fd ⟨us ++ rest, []⟩ = (newTuple rest >>= fun t => pure (ps.zip us ++ [(pv, t)])))
    (hh : bl.all (fun p => decide (p.1.2 = []) && (decide (ps.length ≤ p.1.1) && (decide (p.1.1 ≤ 1000) && decide (p.2 = starHow ps.length)))) = true) : DefAt w d f := .inr
  ⟨fd, ps, pv, ⟨dv0, kw0, F⟩, hps, hb, fun n ks how e => by
    rw [hf] at e
    have c := all_at hh (lk_mem (show bl.lookup (n, ks) = some how from e))
    obtain ⟨c1, c⟩ := ba c
    obtain ⟨c2, c⟩ := ba c
    obtain ⟨c3, c4⟩ := ba c
    exact ⟨of_decide_eq_true c1, of_decide_eq_true c2, Nat.le_trans (of_decide_eq_true c3) (by decide), of_decide_eq_true c4⟩⟩
theorem bindC_dfl {K : PySem.W.Frag} {x qual : Str} {params : Arguments} {body : List Stmt} {scope : Scope} {dvs : List V} {kws : List (Str × V)} {f : Addr} {fd : FuncData} {ps : List Str} {n : Nat} {how : List Src} (F : FunD K x qual params body scope dvs kws f fd) (hd : dvs ≠ [])
    (h : ∀ (T : Addr) (kV doc pm : Value) (an : Option Addr) (cdv ct : Value) (us its : List Value), us.length = n → its.length = dvs.length →
      ∃ k, bindArgs (PySem.W.fnOf x qual params body scope (.ref T) kV doc pm an cdv ct) ⟨us, []⟩ = seqItems? (.ref T) >>= k ∧ k (some its.toArray) = pure (ps.zip (pick how us [] its))) : ∃ dus, Vals dvs dus ∧ BindC K fd ps n [] how dus := by
  obtain ⟨oc, od, dV, kV, doc, pm, an, cdv, ct, osl, rfl, lk, hcd, hD, hK⟩ := F.ex
  rcases hD with ⟨e, _⟩ | ⟨_, T, o, its, m, rfl, lT, oT, rT⟩
  · exact absurd e hd
  · refine ⟨its, rT, ⟨fun s us ws X l1 l2 => ?_⟩⟩
    have ew : ws = [] := List.length_eq_zero_iff.mp l2
    subst ew
    obtain ⟨k, e1, e2⟩ := h T kV doc pm an cdv ct us its l1 rT.length.symm
    refine BindsTo.of_looks fun M => ?_
    show PySem.W.Looks M s.heap (bindArgs _ ⟨us, []⟩) _
    rw [e1]
    exact looks_items X lT oT (.of_pure e2)
def selK (kws : List (Str × V)) (its : List Value) (sel : List Nat) : List (Str × Value) := sel.filterMap fun i => match kws[i]?, its[i]? with
  | some q, some u => some (q.1, u)
  | _, _ => none
theorem bindC_kwd {K : PySem.W.Frag} {x qual : Str} {params : Arguments} {body : List Stmt} {scope : Scope} {kws : List (Str × V)} {f : Addr} {fd : FuncData} {ps : List Str} {n : Nat} {ks : List Str} {how : List Src} {sel : List Nat} (F : FunD K x qual params body scope [] kws f fd) (hk : kws ≠ [])
    (h : ∀ (D : Addr) (doc pm : Value) (an : Option Addr) (cdv ct : Value) (us ws its : List Value), us.length = n → ws.length = ks.length → its.length = kws.length →
      KwChain D (selK kws its sel) (bindArgs (PySem.W.fnOf x qual params body scope .none (.ref D) doc pm an cdv ct) ⟨us, ks.zip ws⟩) (ps.zip (pick how us ws its))) : ∃ dus, Vals (kws.map (·.2)) dus ∧ BindC K fd ps n ks how dus := by
  obtain ⟨oc, od, dV, kV, doc, pm, an, cdv, ct, osl, rfl, lk, hcd, hD, hK⟩ := F.ex
  rcases hD with ⟨_, rfl⟩ | ⟨e, _⟩
  · rcases hK with e | ⟨D, rfl, hq⟩
    · exact absurd e hk
    · obtain ⟨its, hl, rk, hks⟩ := kwd_vals hq
      refine ⟨its, rk, ⟨fun s us ws X l1 l2 => BindsTo.of_looks fun M => KwChain.looks X (fun q hm => ?_) (h D doc pm an cdv ct us ws its l1 l2 hl)⟩⟩
      unfold selK at hm
      obtain ⟨i, _, e⟩ := List.mem_filterMap.mp hm
      split at e
      · rename_i q0 u e1 e2
        cases e
        refine hks _ ?_
        refine List.mem_of_getElem? (i := i) ?_
        rw [List.getElem?_zip_eq_some]
        exact ⟨by rw [List.getElem?_map, e1]; rfl, e2⟩
      · cases e
  · exact absurd rfl e
theorem bindC_n {K : PySem.W.Frag} {fd : FuncData} {ps : List Str} {n : Nat} (hb : Binds K fd ps []) (hn : ps.length = n) : BindC K fd ps n [] ((List.range n).map .pos) [] := ⟨fun s us ws X l1 l2 => by
  have ew : ws = [] := List.length_eq_zero_iff.mp l2
  subst ew
  have e : pick ((List.range n).map Src.pos) us [] [] = us := by
    subst l1
    unfold pick
    apply List.ext_getElem?
    intro i
    have key : ∀ (xs : List Value) (j : Nat), j ≤ xs.length → ((List.range j).map Src.pos).filterMap (Src.get xs [] []) = xs.take j := by
      intro xs j
      induction j with
      | zero => intro _; rfl
      | succ j ih =>
        intro hj
        have h1 : xs[j]? = some xs[j] := List.getElem?_eq_getElem (by omega)
        rw [List.range_succ, List.map_append, List.filterMap_append, ih (by omega), List.take_succ, h1]
        show _ ++ List.filterMap (Src.get xs [] []) [Src.pos j] = _
        have h2 : Src.get xs [] [] (Src.pos j) = xs[j]? := rfl
        rw [List.filterMap_cons, h2, h1]
        rfl
    rw [key us us.length (Nat.le_refl _), List.take_length]
  rw [e]
  have := hb s us X (by rw [List.append_nil, l1, hn])
  rw [List.append_nil] at this
  exact this⟩
theorem pick_len {α : Type} {us ws fs : List α} : ∀ {m : Nat}, m ≤ us.length → (pick ((List.range m).map Src.pos) us ws fs).length = m := by
  intro m
  induction m with
  | zero => intro _; rfl
  | succ m ih =>
    intro hm
    unfold pick at ih ⊢
    have h1 : us[m]? = some us[m] := List.getElem?_eq_getElem (by omega)
    rw [List.range_succ, List.map_append, List.filterMap_append, List.length_append, ih (by omega)]
    show m + (List.filterMap (Src.get us ws fs) [Src.pos m]).length = _
    have h2 : Src.get us ws fs (Src.pos m) = us[m]? := rfl
    rw [List.filterMap_cons, h2, h1]
    rfl
/-- a def without defaults -/
theorem def_n {w : Wo} {d : DefI} {f : Addr} {fd : FuncData} {kw0 : List (Str × V)} {n : Nat} (F : FunD w.K d.name d.qual d.params d.body d.scope [] kw0 f fd) (hn : d.ps.length = n) (hf : d.fi = blFi [((n, []), (List.range n).map .pos)] [])
    (h : ∀ (kV doc pm : Value) (an : Option Addr) (cdv ct : Value) (us : List Value), us.length = d.ps.length → bindArgs (PySem.W.fnOf d.name d.qual d.params d.body d.scope .none kV doc pm an cdv ct) ⟨us, []⟩ = pure (d.ps.zip us)) : DefAt w d f :=
  defPlain_of F hf (by
    rw [List.all_cons, Bool.and_eq_true]
    refine ⟨?_, rfl⟩
    unfold plainHow
    rw [List.all_map]
    exact List.all_eq_true.mpr fun _ _ => rfl) fun p hp => by
    rw [List.mem_singleton] at hp
    subst hp
    refine ⟨[], [], bindC_n (F.bindsN h) hn, .nil, fun _ _ => Reps.nil, fun us ws fs l1 l2 l3 => ?_⟩
    rw [pick_len (by rw [l1]; exact Nat.le_refl _), hn]
end
theorem tup0_ok {K : PySem.W.Frag} {a : Addr} (h : tup0 K a = true) (β : List Addr) (G : Hp) : Rep (wK K) β G (.ftu []) (.ref a) := by
  unfold tup0 at h
  split at h
  · rename_i c od its n sl e
    obtain ⟨h1, h2⟩ := He.ba h
    unfold Rep
    refine ⟨by decide, a, [], rfl, .inr ⟨_, its, n, e, congrArg Value.type (of_decide_eq_true h1), rfl, ?_, ?_⟩, Reps.nil⟩
    · rw [Array.isEmpty_iff.mp h2]; decide
    · rw [Array.isEmpty_iff.mp h2]; exact .nil
  · cases h
def mB (m : M DV) (f : Str → MS) : MS := m.bind fun x => match x.1 with
  | .str z => f z
  | _ => M.bad
/-! ### the scopes -/
def scB (d : DefI) : Bool := decide (d.scope.kind = .function) && (!d.scope.isCoroutine && (!d.scope.isGenerator && (decide d.N.Nodup && (decide (d.N.take d.ps.length = d.ps) && (d.ps.all (fun x => decide (d.scope.names.lookup x = some .local ∨ d.scope.names.lookup x = some .cell)) && d.scope.names.all (fun y => !decide (y.2 = .free)))))))
theorem scB_ok {d : DefI} (h : scB d = true) : FnScope d.N d.ps d.scope := by
  obtain ⟨c1, h⟩ := He.ba h
  obtain ⟨c2, h⟩ := He.ba h
  obtain ⟨c3, h⟩ := He.ba h
  obtain ⟨c4, h⟩ := He.ba h
  obtain ⟨c5, h⟩ := He.ba h
  obtain ⟨c6, c7⟩ := He.ba h
  exact ⟨of_decide_eq_true c1, by simpa using c2, by simpa using c3, of_decide_eq_true c4, of_decide_eq_true c5, fun x hx => of_decide_eq_true (all_at c6 hx), fun y hy => by
    have := all_at c7 hy
    simpa using this⟩
/-! ### the Hook: an explicit list of addresses -/
section
variable {ex : PySem.W.Frag → Bool} {fn : List He5.DefA} {er : List ErrQ} {ts : List He.Tab} {K : PySem.W.Frag} {w : World}
theorem saysQ_ex (c : obsQ ex fn er ts K = valQ fn er ts w) : ex K = true := (He.ba (show (ex K && fn.all fun d => d.ok K) = true from congrArg (fun z : AlQ => z.1.1) c)).1
theorem saysQ_def (c : obsQ ex fn er ts K = valQ fn er ts w) {d : He5.DefA} (h : d ∈ fn) : ∃ fd, FunD K d.name d.qual d.params d.body d.scope (d.dvs K) (d.kws K) (d.at_ K) fd := by
  have c2 := (He.ba (show (ex K && fn.all fun d => d.ok K) = true from congrArg (fun z : AlQ => z.1.1) c)).2
  have e0 : fn.map (fun d => He5.fnA K (d.at_ K)) ++ er.map (fun e => fnB K (e.fI K)) = fn.map He5.DefA.val ++ er.map ErrQ.val := congrArg (fun z : AlQ => z.1.2) c
  have e := (List.append_inj e0 (by simp)).1
  exact He5.DefA.funD (List.map_inj_left.mp e d h) (List.all_eq_true.mp c2 d h)
theorem saysQ_err (c : obsQ ex fn er ts K = valQ fn er ts w) {e : ErrQ} (h : e ∈ er) : fnB K (e.fI K) = e.val := by
  have e0 : fn.map (fun d => He5.fnA K (d.at_ K)) ++ er.map (fun e => fnB K (e.fI K)) = fn.map He5.DefA.val ++ er.map ErrQ.val := congrArg (fun z : AlQ => z.1.2) c
  exact List.map_inj_left.mp (List.append_inj e0 (by simp)).2 e h
theorem saysQ_tab (c : obsQ ex fn er ts K = valQ fn er ts w) {t : He.Tab} (h : t ∈ ts) : ∃ es n, KDict K w (t.1 K) es n := by
  have e : ts.map (fun t => He.dicW K (t.1 K)) = ts.map fun t => some (He.keysIn w.params t.2) := congrArg (fun z : AlQ => z.2) c
  exact He.dicW_ok (List.map_inj_left.mp e t h)
end
end PD

set_option autoImplicit false
namespace K73
open PySem PySem.Spec PyProof.Rows L2 PD
theorem b0 {K : PySem.W.Frag} {fd : FuncData} (F : FunD K d0.name d0.qual d0.params d0.body d0.scope (q0.a.dvs K) (q0.a.kws K) (q0.at_ K) fd) : DefAt (wK K) d0 (q0.at_ K) :=
  def_n (n := 1) F rfl rfl fun _ _ _ _ _ _ us hl => match us, hl with | [_], _ => rfl
theorem b1 {K : PySem.W.Frag} {fd : FuncData} (F : FunD K d1.name d1.qual d1.params d1.body d1.scope (q1.a.dvs K) (q1.a.kws K) (q1.at_ K) fd) : DefAt (wK K) d1 (q1.at_ K) :=
  def_n (n := 2) F rfl rfl fun _ _ _ _ _ _ us hl => match us, hl with | [_, _], _ => rfl
theorem b2 {K : PySem.W.Frag} {fd : FuncData} (F : FunD K d2.name d2.qual d2.params d2.body d2.scope (q2.a.dvs K) (q2.a.kws K) (q2.at_ K) fd) : DefAt (wK K) d2 (q2.at_ K) :=
  def_n (n := 2) F rfl rfl fun _ _ _ _ _ _ us hl => match us, hl with | [_, _], _ => rfl
theorem b3 {K : PySem.W.Frag} {fd : FuncData} (F : FunD K d3.name d3.qual d3.params d3.body d3.scope (q3.a.dvs K) (q3.a.kws K) (q3.at_ K) fd) : DefAt (wK K) d3 (q3.at_ K) :=
  def_n (n := 2) F rfl rfl fun _ _ _ _ _ _ us hl => match us, hl with | [_, _], _ => rfl
theorem b4 {K : PySem.W.Frag} {fd : FuncData} (F : FunD K d4.name d4.qual d4.params d4.body d4.scope (q4.a.dvs K) (q4.a.kws K) (q4.at_ K) fd) : DefAt (wK K) d4 (q4.at_ K) :=
  def_n (n := 1) F rfl rfl fun _ _ _ _ _ _ us hl => match us, hl with | [_], _ => rfl
theorem b5 {K : PySem.W.Frag} {fd : FuncData} (F : FunD K d5.name d5.qual d5.params d5.body d5.scope (q5.a.dvs K) (q5.a.kws K) (q5.at_ K) fd) : DefAt (wK K) d5 (q5.at_ K) :=
  def_n (n := 1) F rfl rfl fun _ _ _ _ _ _ us hl => match us, hl with | [_], _ => rfl
theorem b6 {K : PySem.W.Frag} {fd : FuncData} (F : FunD K d6.name d6.qual d6.params d6.body d6.scope (q6.a.dvs K) (q6.a.kws K) (q6.at_ K) fd) : DefAt (wK K) d6 (q6.at_ K) :=
  def_n (n := 1) F rfl rfl fun _ _ _ _ _ _ us hl => match us, hl with | [_], _ => rfl
theorem b7 {K : PySem.W.Frag} {fd : FuncData} (F : FunD K d7.name d7.qual d7.params d7.body d7.scope (q7.a.dvs K) (q7.a.kws K) (q7.at_ K) fd) : DefAt (wK K) d7 (q7.at_ K) :=
  def_n (n := 1) F rfl rfl fun _ _ _ _ _ _ us hl => match us, hl with | [_], _ => rfl
theorem b8 {K : PySem.W.Frag} {fd : FuncData} (F : FunD K d8.name d8.qual d8.params d8.body d8.scope (q8.a.dvs K) (q8.a.kws K) (q8.at_ K) fd) : DefAt (wK K) d8 (q8.at_ K) :=
  def_n (n := 1) F rfl rfl fun _ _ _ _ _ _ us hl => match us, hl with | [_], _ => rfl
theorem eb0 : ErrB e0 := ⟨by decide +kernel, fun _ _ _ _ _ _ _ us hl => match us, hl with | [_], _ => rfl, fun n hn => by cases hn⟩
theorem eb1 : ErrB e1 := ⟨by decide +kernel, fun _ _ _ _ _ _ _ us hl => match us, hl with | [_], _ => rfl, fun n hn => by cases hn⟩
theorem eb2 : ErrB e2 := ⟨by decide +kernel, fun _ _ _ _ _ _ _ us hl => match us, hl with | [_], _ => rfl, fun n hn => by cases hn⟩
theorem eb3 : ErrB e3 := ⟨by decide +kernel, fun _ _ _ _ _ _ _ us hl => match us, hl with | [_], _ => rfl, fun n hn => by cases hn⟩
theorem eb4 : ErrB e4 := ⟨by decide +kernel, fun _ _ _ _ _ _ _ us hl => match us, hl with | [_], _ => rfl, fun n hn => by cases hn⟩
theorem eb5 : ErrB e5 := ⟨by decide +kernel, fun _ _ _ _ _ _ _ us hl => match us, hl with | [_, _], _ => rfl, fun n hn => by cases hn; intros; rfl⟩
theorem eb6 : ErrB e6 := ⟨by decide +kernel, fun _ _ _ _ _ _ _ us hl => match us, hl with | [_, _], _ => rfl, fun n hn => by cases hn; intros; rfl⟩
theorem eb7 : ErrB e7 := ⟨by decide +kernel, fun _ _ _ _ _ _ _ us hl => match us, hl with | [_, _], _ => rfl, fun n hn => by cases hn; intros; rfl⟩
theorem eb8 : ErrB e8 := ⟨by decide +kernel, fun _ _ _ _ _ _ _ us hl => match us, hl with | [_, _], _ => rfl, fun n hn => by cases hn; intros; rfl⟩
theorem eb9 : ErrB e9 := ⟨by decide +kernel, fun _ _ _ _ _ _ _ us hl => match us, hl with | [_, _], _ => rfl, fun n hn => by cases hn; intros; rfl⟩
theorem eb10 : ErrB e10 := ⟨by decide +kernel, fun _ _ _ _ _ _ _ us hl => match us, hl with | [_, _], _ => rfl, fun n hn => by cases hn; intros; rfl⟩
theorem eb11 : ErrB e11 := ⟨by decide +kernel, fun _ _ _ _ _ _ _ us hl => match us, hl with | [_, _], _ => rfl, fun n hn => by cases hn; intros; rfl⟩
theorem eb12 : ErrB e12 := ⟨by decide +kernel, fun _ _ _ _ _ _ _ us hl => match us, hl with | [_, _], _ => rfl, fun n hn => by cases hn; intros; rfl⟩
theorem eb13 : ErrB e13 := ⟨by decide +kernel, fun _ _ _ _ _ _ _ us hl => match us, hl with | [_, _], _ => rfl, fun n hn => by cases hn; intros; rfl⟩
theorem eb14 : ErrB e14 := ⟨by decide +kernel, fun _ _ _ _ _ _ _ us hl => match us, hl with | [_, _], _ => rfl, fun n hn => by cases hn; intros; rfl⟩
theorem eb15 : ErrB e15 := ⟨by decide +kernel, fun _ _ _ _ _ _ _ us hl => match us, hl with | [_, _], _ => rfl, fun n hn => by cases hn; intros; rfl⟩
theorem eb16 : ErrB e16 := ⟨by decide +kernel, fun _ _ _ _ _ _ _ us hl => match us, hl with | [_, _], _ => rfl, fun n hn => by cases hn; intros; rfl⟩
theorem eb17 : ErrB e17 := ⟨by decide +kernel, fun _ _ _ _ _ _ _ us hl => match us, hl with | [_, _], _ => rfl, fun n hn => by cases hn; intros; rfl⟩
theorem eb18 : ErrB e18 := ⟨by decide +kernel, fun _ _ _ _ _ _ _ us hl => match us, hl with | [_, _], _ => rfl, fun n hn => by cases hn; intros; rfl⟩
theorem eb19 : ErrB e19 := ⟨by decide +kernel, fun _ _ _ _ _ _ _ us hl => match us, hl with | [_, _], _ => rfl, fun n hn => by cases hn; intros; rfl⟩
theorem eb20 : ErrB e20 := ⟨by decide +kernel, fun _ _ _ _ _ _ _ us hl => match us, hl with | [_, _], _ => rfl, fun n hn => by cases hn; intros; rfl⟩
theorem eb21 : ErrB e21 := ⟨by decide +kernel, fun _ _ _ _ _ _ _ us hl => match us, hl with | [_, _], _ => rfl, fun n hn => by cases hn; intros; rfl⟩
theorem eb22 : ErrB e22 := ⟨by decide +kernel, fun _ _ _ _ _ _ _ us hl => match us, hl with | [_, _], _ => rfl, fun n hn => by cases hn; intros; rfl⟩
theorem eb23 : ErrB e23 := ⟨by decide +kernel, fun _ _ _ _ _ _ _ us hl => match us, hl with | [_, _], _ => rfl, fun n hn => by cases hn; intros; rfl⟩
theorem eb24 : ErrB e24 := ⟨by decide +kernel, fun _ _ _ _ _ _ _ us hl => match us, hl with | [_, _], _ => rfl, fun n hn => by cases hn; intros; rfl⟩
theorem eb25 : ErrB e25 := ⟨by decide +kernel, fun _ _ _ _ _ _ _ us hl => match us, hl with | [_, _], _ => rfl, fun n hn => by cases hn; intros; rfl⟩
theorem scOk : Q.defs.all (fun p => scB p.2.d) = true := by decide +kernel
theorem scFn : ∀ x d, Q.df x = some d → FnScope d.N d.ps d.scope := fun x d e => by
  obtain ⟨p, h1, rfl⟩ := Option.map_eq_some_iff.mp e
  exact scB_ok (all_at scOk (lk_mem h1))
end K73

set_option autoImplicit false
namespace K73
open PySem PySem.Spec PyProof.Rows L2 PD
abbrev C (k : Nat) : Sem3 := semK Q.T 40 Q.df k
def L__law_bag_0 (k : Nat) : MS := (seqM (asgM 1 .val (bin2 ((argsCons (bin2 (bin2 (bin2 (slotM 1) (M.ret (.int 50207, false)) mulM) (bin2 ((argsCons (slotM 2) argsNil).bind (one intM1)) (M.ret (.int 2147483353, false)) modM) addM) (M.ret (.int 37, false)) addM) argsNil).bind (one intM1)) (M.ret (.int 2147483563, false)) modM))
    skip)
theorem m__law_bag (k : Nat) : C (k + 1) ("_law_bag" : Str) = runF 3 (seqM (asgM 1 .val (M.ret (.int 5641, false)))
    (seqM (forEM (walkA (slM (slotM 0) none (some (M.ret (.int 63, false))))) (putD 2) (L__law_bag_0 k) skip)
    (seqM (retM (lstM (argsCons ((argsCons (slM (slotM 0) none (some (M.ret (.int 63, false)))) argsNil).bind (one listM1)) (argsCons (M.ret (.int 0, false)) (argsCons (M.ret (.int 0, false)) (argsCons (slotM 1) argsNil))))))
    skip))) := by
  kernel_rfl
theorem m__law_pull (k : Nat) : C (k + 1) ("_law_pull" : Str) = runF 5 (seqM (ifS (andB (((bin2 (bin2 (slotM 0) (M.ret (.int 2, false)) sbM) (M.ret (.int 0, false)) (eqOM Q.cls (C k)))).bind boolM) (((bin2 (bin2 (slotM 0) (M.ret (.int 1, false)) sbM) ((argsCons (bin2 (slotM 0) (M.ret (.int 0, false)) sbM) argsNil).bind (one lenM1)) (cmpI fun i j => decide (i < j)))).bind boolM)) (seqM (asgM 2 .val (bin2 (bin2 (slotM 0) (M.ret (.int 0, false)) sbM) (bin2 (slotM 0) (M.ret (.int 1, false)) sbM) sbM))
    (seqM (asgG (bin2 (bin2 (slotM 0) (M.ret (.int 1, false)) sbM) (M.ret (.int 1, false)) addM) (gSubM (slotM 0) (M.ret (.int 1, false))))
    (seqM (ifS (((bin2 (slotM 2) (bin2 (M.ret (.int 10, false)) (M.ret (.int 18, false)) powM) (cmpI fun i j => decide (j ≤ i)))).bind boolM) (seqM (asgG (slotM 2) (gSubM (slotM 0) (M.ret (.int 2, false))))
    skip) (seqM (asgG (bin2 ((argsCons (bin2 (bin2 (bin2 (bin2 (slotM 0) (M.ret (.int 3, false)) sbM) (M.ret (.int 43691, false)) mulM) (bin2 (bin2 ((argsCons (slotM 2) argsNil).bind (one intM1)) (M.ret (.int 2147483353, false)) modM) (M.ret (.int 1613, false)) mulM) addM) (M.ret (.int 23, false)) addM) argsNil).bind (one intM1)) (M.ret (.int 2147483563, false)) modM) (gSubM (slotM 0) (M.ret (.int 3, false))))
    skip))
    skip))) skip)
    (seqM (ifS (((bin2 (bin2 (slotM 0) (M.ret (.int 2, false)) sbM) (M.ret (.int 0, false)) (cmpI fun i j => decide (j < i)))).bind boolM) (seqM (asgM 3 .val (bin2 ((argsCons (bin2 (slotM 0) (M.ret (.int 2, false)) sbM) argsNil).bind (one intM1)) (slotM 1) modM))
    (seqM (asgG (bin2 (bin2 (slotM 0) (M.ret (.int 2, false)) sbM) (slotM 1) fdivM) (gSubM (slotM 0) (M.ret (.int 2, false))))
    (seqM (retM (slotM 3))
    skip))) skip)
    (seqM (asgM 4 .val (bin2 (slotM 0) (M.ret (.int 3, false)) sbM))
    (seqM (asgG (bin2 ((argsCons (bin2 (bin2 (bin2 (slotM 4) (slotM 4) mulM) (bin2 (slotM 4) (M.ret (.int 27031, false)) mulM) addM) (M.ret (.int 1500083, false)) addM) argsNil).bind (one intM1)) (M.ret (.int 2147483563, false)) modM) (gSubM (slotM 0) (M.ret (.int 3, false))))
    (seqM (retM (bin2 ((argsCons (bin2 (bin2 (bin2 (slotM 0) (M.ret (.int 3, false)) sbM) (M.ret (.int 71, false)) fdivM) (bin2 (bin2 ((argsCons (bin2 (slotM 0) (M.ret (.int 3, false)) sbM) argsNil).bind (one intM1)) (M.ret (.int 8117, false)) modM) (M.ret (.int 59, false)) mulM) addM) argsNil).bind (one intM1)) (slotM 1) modM))
    skip))))) := by
  kernel_rfl
theorem m__law_of (k : Nat) : C (k + 1) ("_law_of" : Str) = runF 2 (seqM (retM (bin2 (slotM 1) (callM 2 0 (argsCons (slotM 0) (argsCons ((argsCons (slotM 1) argsNil).bind (one lenM1)) argsNil)) argsNil fun ds kds S => C k ("_law_pull" : Str) (pickD [.pos 0, .pos 1] ds kds []) S) sbM))
    skip) := by
  kernel_rfl
def E__law_same_0 (k : Nat) : M DV := (callM 2 0 (argsCons (slotM 2) (argsCons (slotM 3) argsNil)) argsNil fun ds kds S => C k ("_law_same" : Str) (pickD [.pos 0, .pos 1] ds kds []) S)
def G__law_same_1 (k : Nat) : M DV := (lcM [2, 3] (walkZip (argsCons (slotM 0) (argsCons (slotM 1) argsNil))) (gTupM [(putD 2), (putD 3)]) (M.ret true) (E__law_same_0 k))
theorem m__law_same (k : Nat) : C (k + 1) ("_law_same" : Str) = runF 4 (seqM (ifS (orB (((((slotM 1)).bind (isi1M Q.T.isi (.ty "list")))).bind boolM) (((((slotM 1)).bind (isi1M Q.T.isi (.ty "tuple")))).bind boolM)) (seqM (ifS (orB (((bin2 (((slotM 0)).bind (isi1M Q.T.isi (.ty "list"))) (((slotM 1)).bind (isi1M Q.T.isi (.ty "list"))) (neOM Q.cls Q.T.nes (C k)))).bind boolM) (((bin2 (((slotM 0)).bind (isi1M Q.T.isi (.ty "tuple"))) (((slotM 1)).bind (isi1M Q.T.isi (.ty "tuple"))) (neOM Q.cls Q.T.nes (C k)))).bind boolM)) (seqM (retM (M.ret (.bl false, false)))
    skip) skip)
    (seqM (retM (andM (bin2 ((argsCons (slotM 0) argsNil).bind (one lenM1)) ((argsCons (slotM 1) argsNil).bind (one lenM1)) (eqOM Q.cls (C k))) ((argsCons (G__law_same_1 k) argsNil).bind (one allM1))))
    skip)) skip)
    (seqM (ifS (orB (((bin2 (slotM 1) (M.ret (.non, false)) (isNM false))).bind boolM) (((bin2 (slotM 0) (M.ret (.non, false)) (isNM false))).bind boolM)) (seqM (retM (andM (bin2 (slotM 1) (M.ret (.non, false)) (isNM false)) (bin2 (slotM 0) (M.ret (.non, false)) (isNM false))))
    skip) skip)
    (seqM (ifS (orB (((bin2 (((slotM 0)).bind (isi1M Q.T.isi (.ty "bool"))) (((slotM 1)).bind (isi1M Q.T.isi (.ty "bool"))) (neOM Q.cls Q.T.nes (C k)))).bind boolM) (((bin2 (((slotM 0)).bind (isi1M Q.T.isi (.ty "int"))) (((slotM 1)).bind (isi1M Q.T.isi (.ty "int"))) (neOM Q.cls Q.T.nes (C k)))).bind boolM)) (seqM (retM (M.ret (.bl false, false)))
    skip) skip)
    (seqM (retM (andM (bin2 (((slotM 0)).bind (isi1M Q.T.isi (.ty "str"))) (((slotM 1)).bind (isi1M Q.T.isi (.ty "str"))) (eqOM Q.cls (C k))) (bin2 (slotM 0) (slotM 1) (eqOM Q.cls (C k)))))
    skip)))) := by
  kernel_rfl
def T__law_classes_0 (k : Nat) : M Bool := (((slotM 3)).bind boolM)
def E__law_classes_1 (k : Nat) : M DV := (slotM 2)
def G__law_classes_2 (k : Nat) : M DV := (lcM [2, 3] (walkA (slotM 1)) (gTupM [(putD 2), (putD 3)]) (T__law_classes_0 k) (E__law_classes_1 k))
theorem m__law_classes (k : Nat) : C (k + 1) ("_law_classes" : Str) = runF 4 (seqM (asgM 1 .val (lstM argsNil))
    (seqM (asgM 1 .val (bin2 (slotM 1) (lstM (argsCons (tupM (argsCons (M.ret (.str ("InvalidCell" : Str), false)) (argsCons (((slotM 0)).bind (isi1M Q.T.isi (.own ("InvalidCell" : Str)))) argsNil))) argsNil)) addM))
    (seqM (asgM 1 .val (bin2 (slotM 1) (lstM (argsCons (tupM (argsCons (M.ret (.str ("InvalidDirection" : Str), false)) (argsCons (((slotM 0)).bind (isi1M Q.T.isi (.own ("InvalidDirection" : Str)))) argsNil))) argsNil)) addM))
    (seqM (asgM 1 .val (bin2 (slotM 1) (lstM (argsCons (tupM (argsCons (M.ret (.str ("InvalidCount" : Str), false)) (argsCons (((slotM 0)).bind (isi1M Q.T.isi (.own ("InvalidCount" : Str)))) argsNil))) (argsCons (tupM (argsCons (M.ret (.str ("InvalidIndex" : Str), false)) (argsCons (((slotM 0)).bind (isi1M Q.T.isi (.own ("InvalidIndex" : Str)))) argsNil))) argsNil))) addM))
    (seqM (asgM 1 .val (bin2 (slotM 1) (lstM (argsCons (tupM (argsCons (M.ret (.str ("InvalidSide" : Str), false)) (argsCons (((slotM 0)).bind (isi1M Q.T.isi (.own ("InvalidSide" : Str)))) argsNil))) (argsCons (tupM (argsCons (M.ret (.str ("OpenDirection" : Str), false)) (argsCons (((slotM 0)).bind (isi1M Q.T.isi (.own ("OpenDirection" : Str)))) argsNil))) argsNil))) addM))
    (seqM (asgM 1 .val (bin2 (slotM 1) (lstM (argsCons (tupM (argsCons (M.ret (.str ("RunningEdge" : Str), false)) (argsCons (((slotM 0)).bind (isi1M Q.T.isi (.own ("RunningEdge" : Str)))) argsNil))) (argsCons (tupM (argsCons (M.ret (.str ("NoRun" : Str), false)) (argsCons (((slotM 0)).bind (isi1M Q.T.isi (.own ("NoRun" : Str)))) argsNil))) argsNil))) addM))
    (seqM (asgM 1 .val (bin2 (slotM 1) (lstM (argsCons (tupM (argsCons (M.ret (.str ("InvalidLimit" : Str), false)) (argsCons (((slotM 0)).bind (isi1M Q.T.isi (.own ("InvalidLimit" : Str)))) argsNil))) (argsCons (tupM (argsCons (M.ret (.str ("InvalidShape" : Str), false)) (argsCons (((slotM 0)).bind (isi1M Q.T.isi (.own ("InvalidShape" : Str)))) argsNil))) argsNil))) addM))
    (seqM (asgM 1 .val (bin2 (slotM 1) (lstM (argsCons (tupM (argsCons (M.ret (.str ("DuplicateShape" : Str), false)) (argsCons (((slotM 0)).bind (isi1M Q.T.isi (.own ("DuplicateShape" : Str)))) argsNil))) (argsCons (tupM (argsCons (M.ret (.str ("OutOfReach" : Str), false)) (argsCons (((slotM 0)).bind (isi1M Q.T.isi (.own ("OutOfReach" : Str)))) argsNil))) argsNil))) addM))
    (seqM (asgM 1 .val (bin2 (slotM 1) (lstM (argsCons (tupM (argsCons (M.ret (.str ("TooMany" : Str), false)) (argsCons (((slotM 0)).bind (isi1M Q.T.isi (.own ("TooMany" : Str)))) argsNil))) (argsCons (tupM (argsCons (M.ret (.str ("TooFar" : Str), false)) (argsCons (((slotM 0)).bind (isi1M Q.T.isi (.own ("TooFar" : Str)))) argsNil))) argsNil))) addM))
    (seqM (asgM 1 .val (bin2 (slotM 1) (lstM (argsCons (tupM (argsCons (M.ret (.str ("NotCovered" : Str), false)) (argsCons (((slotM 0)).bind (isi1M Q.T.isi (.own ("NotCovered" : Str)))) argsNil))) (argsCons (tupM (argsCons (M.ret (.str ("InvalidName" : Str), false)) (argsCons (((slotM 0)).bind (isi1M Q.T.isi (.own ("InvalidName" : Str)))) argsNil))) argsNil))) addM))
    (seqM (asgM 1 .val (bin2 (slotM 1) (lstM (argsCons (tupM (argsCons (M.ret (.str ("DuplicateName" : Str), false)) (argsCons (((slotM 0)).bind (isi1M Q.T.isi (.own ("DuplicateName" : Str)))) argsNil))) (argsCons (tupM (argsCons (M.ret (.str ("UnknownName" : Str), false)) (argsCons (((slotM 0)).bind (isi1M Q.T.isi (.own ("UnknownName" : Str)))) argsNil))) argsNil))) addM))
    (seqM (asgM 1 .val (bin2 (slotM 1) (lstM (argsCons (tupM (argsCons (M.ret (.str ("CapacityExceeded" : Str), false)) (argsCons (((slotM 0)).bind (isi1M Q.T.isi (.own ("CapacityExceeded" : Str)))) argsNil))) argsNil)) addM))
    (seqM (asgM 1 .val (bin2 (slotM 1) (lstM (argsCons (tupM (argsCons (M.ret (.str ("InvalidCommand" : Str), false)) (argsCons (((slotM 0)).bind (isi1M Q.T.isi (.own ("InvalidCommand" : Str)))) argsNil))) argsNil)) addM))
    (seqM (asgM 1 .val (bin2 (slotM 1) (lstM (argsCons (tupM (argsCons (M.ret (.str ("ParseError" : Str), false)) (argsCons (((slotM 0)).bind (isi1M Q.T.isi (.own ("ParseError" : Str)))) argsNil))) (argsCons (tupM (argsCons (M.ret (.str ("InvalidPicture" : Str), false)) (argsCons (((slotM 0)).bind (isi1M Q.T.isi (.own ("InvalidPicture" : Str)))) argsNil))) argsNil))) addM))
    (seqM (asgM 1 .val (bin2 (slotM 1) (lstM (argsCons (tupM (argsCons (M.ret (.str ("InvalidTurn" : Str), false)) (argsCons (((slotM 0)).bind (isi1M Q.T.isi (.own ("InvalidTurn" : Str)))) argsNil))) (argsCons (tupM (argsCons (M.ret (.str ("GrowingBook" : Str), false)) (argsCons (((slotM 0)).bind (isi1M Q.T.isi (.own ("GrowingBook" : Str)))) argsNil))) argsNil))) addM))
    (seqM (asgM 1 .val (bin2 (slotM 1) (lstM (argsCons (tupM (argsCons (M.ret (.str ("InvalidText" : Str), false)) (argsCons (((slotM 0)).bind (isi1M Q.T.isi (.own ("InvalidText" : Str)))) argsNil))) (argsCons (tupM (argsCons (M.ret (.str ("NothingLeft" : Str), false)) (argsCons (((slotM 0)).bind (isi1M Q.T.isi (.own ("NothingLeft" : Str)))) argsNil))) argsNil))) addM))
    (seqM (retM (G__law_classes_2 k))
    skip))))))))))))))))) := by
  kernel_rfl
theorem m__law_first (k : Nat) : C (k + 1) ("_law_first" : Str) = runF 2 (seqM (asgM 1 .val (lstM argsNil))
    (seqM (asgM 1 .val (bin2 (slotM 1) (lstM (argsCons ((argsCons (slotM 0) argsNil).bind (errV ("InvalidCell" : Str) ("InvalidCell" : Str) (some ("given" : Str)))) (argsCons ((argsCons (slotM 0) argsNil).bind (errV ("InvalidDirection" : Str) ("InvalidDirection" : Str) (some ("given" : Str)))) (argsCons ((argsCons (slotM 0) argsNil).bind (errV ("InvalidCount" : Str) ("InvalidCount" : Str) (some ("given" : Str)))) argsNil)))) addM))
    (seqM (asgM 1 .val (bin2 (slotM 1) (lstM (argsCons ((argsCons (slotM 0) argsNil).bind (errV ("InvalidIndex" : Str) ("InvalidIndex" : Str) (some ("given" : Str)))) (argsCons ((argsCons (slotM 0) argsNil).bind (errV ("InvalidSide" : Str) ("InvalidSide" : Str) (some ("given" : Str)))) (argsCons ((argsCons (slotM 0) argsNil).bind (errV ("OpenDirection" : Str) ("OpenDirection" : Str) (some ("given" : Str)))) argsNil)))) addM))
    (seqM (asgM 1 .val (bin2 (slotM 1) (lstM (argsCons ((argsCons (slotM 0) argsNil).bind (errV ("RunningEdge" : Str) ("RunningEdge" : Str) (some ("given" : Str)))) (argsCons ((argsCons (slotM 0) argsNil).bind (errV ("NoRun" : Str) ("NoRun" : Str) (some ("given" : Str)))) (argsCons ((argsCons (slotM 0) argsNil).bind (errV ("InvalidLimit" : Str) ("InvalidLimit" : Str) (some ("given" : Str)))) argsNil)))) addM))
    (seqM (retM (slotM 1))
    skip))))) := by
  kernel_rfl
theorem m__law_second (k : Nat) : C (k + 1) ("_law_second" : Str) = runF 2 (seqM (asgM 1 .val (lstM argsNil))
    (seqM (asgM 1 .val (bin2 (slotM 1) (lstM (argsCons ((argsCons (slotM 0) argsNil).bind (errV ("InvalidShape" : Str) ("InvalidShape" : Str) (some ("index" : Str)))) (argsCons ((argsCons (slotM 0) argsNil).bind (errV ("DuplicateShape" : Str) ("DuplicateShape" : Str) (some ("index" : Str)))) (argsCons ((argsCons (slotM 0) argsNil).bind (errV ("OutOfReach" : Str) ("OutOfReach" : Str) (some ("index" : Str)))) argsNil)))) addM))
    (seqM (asgM 1 .val (bin2 (slotM 1) (lstM (argsCons ((argsCons (slotM 0) argsNil).bind (errV ("TooMany" : Str) ("TooMany" : Str) (some ("most" : Str)))) (argsCons ((argsCons (slotM 0) argsNil).bind (errV ("TooFar" : Str) ("TooFar" : Str) (some ("most" : Str)))) (argsCons ((argsCons (slotM 0) argsNil).bind (errV ("NotCovered" : Str) ("NotCovered" : Str) (some ("cell" : Str)))) argsNil)))) addM))
    (seqM (asgM 1 .val (bin2 (slotM 1) (lstM (argsCons ((argsCons (slotM 0) argsNil).bind (errV ("InvalidName" : Str) ("InvalidName" : Str) (some ("name" : Str)))) (argsCons ((argsCons (slotM 0) argsNil).bind (errV ("DuplicateName" : Str) ("DuplicateName" : Str) (some ("name" : Str)))) (argsCons ((argsCons (slotM 0) argsNil).bind (errV ("UnknownName" : Str) ("UnknownName" : Str) (some ("name" : Str)))) argsNil)))) addM))
    (seqM (asgM 1 .val (bin2 (slotM 1) (lstM (argsCons ((argsCons (slotM 0) argsNil).bind (errV ("CapacityExceeded" : Str) ("CapacityExceeded" : Str) (some ("limit" : Str)))) (argsCons ((argsCons (slotM 0) argsNil).bind (errV ("InvalidCommand" : Str) ("InvalidCommand" : Str) (some ("word" : Str)))) (argsCons ((argsCons (slotM 0) argsNil).bind (errV ("ParseError" : Str) ("ParseError" : Str) (some ("line" : Str)))) argsNil)))) addM))
    (seqM (retM (slotM 1))
    skip)))))) := by
  kernel_rfl
def E__law_other_way_0 (k : Nat) : M DV := (((slotM 3)).bind (attrM Q.cls (C k) ("name" : Str)))
def G__law_other_way_1 (k : Nat) : M DV := (lcM [3] (walkA (lstM (argsCons ((argsCons (slotM 0) argsNil).bind (errV ("InvalidName" : Str) ("InvalidName" : Str) (some ("name" : Str)))) (argsCons ((argsCons (slotM 0) argsNil).bind (errV ("DuplicateName" : Str) ("DuplicateName" : Str) (some ("name" : Str)))) (argsCons ((argsCons (slotM 0) argsNil).bind (errV ("UnknownName" : Str) ("UnknownName" : Str) (some ("name" : Str)))) argsNil))))) (putD 3) (M.ret true) (E__law_other_way_0 k))
def E__law_other_way_2 (k : Nat) : M DV := (((slotM 3)).bind (attrM Q.cls (C k) ("index" : Str)))
def G__law_other_way_3 (k : Nat) : M DV := (lcM [3] (walkA (lstM (argsCons ((argsCons (slotM 0) argsNil).bind (errV ("InvalidShape" : Str) ("InvalidShape" : Str) (some ("index" : Str)))) (argsCons ((argsCons (slotM 0) argsNil).bind (errV ("DuplicateShape" : Str) ("DuplicateShape" : Str) (some ("index" : Str)))) (argsCons ((argsCons (slotM 0) argsNil).bind (errV ("OutOfReach" : Str) ("OutOfReach" : Str) (some ("index" : Str)))) argsNil))))) (putD 3) (M.ret true) (E__law_other_way_2 k))
def E__law_other_way_4 (k : Nat) : M DV := (((slotM 3)).bind (attrM Q.cls (C k) ("given" : Str)))
def G__law_other_way_5 (k : Nat) : M DV := (lcM [3] (walkA (slotM 1)) (putD 3) (M.ret true) (E__law_other_way_4 k))
theorem m__law_other_way (k : Nat) : C (k + 1) ("_law_other_way" : Str) = runF 4 (seqM (asgM 1 .val (lstM (argsCons ((argsCons (slotM 0) argsNil).bind (errV ("InvalidCell" : Str) ("InvalidCell" : Str) (some ("given" : Str)))) (argsCons ((argsCons (slotM 0) argsNil).bind (errV ("InvalidDirection" : Str) ("InvalidDirection" : Str) (some ("given" : Str)))) (argsCons ((argsCons (slotM 0) argsNil).bind (errV ("InvalidCount" : Str) ("InvalidCount" : Str) (some ("given" : Str)))) argsNil)))))
    (seqM (asgM 1 .val (bin2 (slotM 1) (lstM (argsCons ((argsCons (slotM 0) argsNil).bind (errV ("InvalidIndex" : Str) ("InvalidIndex" : Str) (some ("given" : Str)))) (argsCons ((argsCons (slotM 0) argsNil).bind (errV ("InvalidSide" : Str) ("InvalidSide" : Str) (some ("given" : Str)))) (argsCons ((argsCons (slotM 0) argsNil).bind (errV ("OpenDirection" : Str) ("OpenDirection" : Str) (some ("given" : Str)))) argsNil)))) addM))
    (seqM (asgM 1 .val (bin2 (slotM 1) (lstM (argsCons ((argsCons (slotM 0) argsNil).bind (errV ("RunningEdge" : Str) ("RunningEdge" : Str) (some ("given" : Str)))) (argsCons ((argsCons (slotM 0) argsNil).bind (errV ("NoRun" : Str) ("NoRun" : Str) (some ("given" : Str)))) (argsCons ((argsCons (slotM 0) argsNil).bind (errV ("InvalidLimit" : Str) ("InvalidLimit" : Str) (some ("given" : Str)))) argsNil)))) addM))
    (seqM (asgM 2 .val (G__law_other_way_5 k))
    (seqM (asgM 2 .val (bin2 (slotM 2) (G__law_other_way_3 k) addM))
    (seqM (asgM 2 .val (bin2 (slotM 2) (lstM (argsCons ((((argsCons (slotM 0) argsNil).bind (errV ("TooMany" : Str) ("TooMany" : Str) (some ("most" : Str))))).bind (attrM Q.cls (C k) ("most" : Str))) (argsCons ((((argsCons (slotM 0) argsNil).bind (errV ("TooFar" : Str) ("TooFar" : Str) (some ("most" : Str))))).bind (attrM Q.cls (C k) ("most" : Str))) (argsCons ((((argsCons (slotM 0) argsNil).bind (errV ("NotCovered" : Str) ("NotCovered" : Str) (some ("cell" : Str))))).bind (attrM Q.cls (C k) ("cell" : Str))) argsNil)))) addM))
    (seqM (asgM 2 .val (bin2 (slotM 2) (G__law_other_way_1 k) addM))
    (seqM (retM (bin2 (slotM 2) (lstM (argsCons ((((argsCons (slotM 0) argsNil).bind (errV ("CapacityExceeded" : Str) ("CapacityExceeded" : Str) (some ("limit" : Str))))).bind (attrM Q.cls (C k) ("limit" : Str))) (argsCons ((((argsCons (slotM 0) argsNil).bind (errV ("InvalidCommand" : Str) ("InvalidCommand" : Str) (some ("word" : Str))))).bind (attrM Q.cls (C k) ("word" : Str))) (argsCons ((((argsCons (slotM 0) argsNil).bind (errV ("ParseError" : Str) ("ParseError" : Str) (some ("line" : Str))))).bind (attrM Q.cls (C k) ("line" : Str))) argsNil)))) addM))
    skip)))))))) := by
  kernel_rfl
def E_law_0 (k : Nat) : M DV := (bin2 (((slotM 5)).bind (isi1M Q.T.isi (.ty "ValueError"))) (((slotM 5)).bind (isi1M Q.T.isi (.own ("FloorError" : Str)))) (eqOM Q.cls (C k)))
def G_law_1 (k : Nat) : M DV := (lcM [5] (walkA (slotM 7)) (putD 5) (M.ret true) (E_law_0 k))
def E_law_2 (k : Nat) : M DV := (((slotM 5)).bind (isi1M Q.T.isi (.own ("FloorError" : Str))))
def G_law_3 (k : Nat) : M DV := (lcM [5] (walkA (slotM 7)) (putD 5) (M.ret true) (E_law_2 k))
def E_law_4 (k : Nat) : M DV := (bin2 (slotM 9) (M.ret (.str ("UnknownName" : Str), false)) (neOM Q.cls Q.T.nes (C k)))
def G_law_5 (k : Nat) : M DV := (lcM [9] (walkA (slotM 8)) (putD 9) (M.ret true) (E_law_4 k))
def E_law_6 (k : Nat) : M DV := (callM 1 0 (argsCons (slotM 5) argsNil) argsNil fun ds kds S => C k ("_law_classes" : Str) (pickD [.pos 0] ds kds []) S)
def G_law_7 (k : Nat) : M DV := (lcM [5] (walkA (slotM 7)) (putD 5) (M.ret true) (E_law_6 k))
def E_law_8 (k : Nat) : M DV := (lstM (argsCons (slotM 9) argsNil))
def G_law_9 (k : Nat) : M DV := (lcM [9] (walkA (slotM 8)) (putD 9) (M.ret true) (E_law_8 k))
def E_law_10 (k : Nat) : M DV := (((slotM 5)).bind (attrM Q.cls (C k) ("tag" : Str)))
def G_law_11 (k : Nat) : M DV := (lcM [5] (walkA (slotM 7)) (putD 5) (M.ret true) (E_law_10 k))
def Z_law_12 (k : Nat) : MS := (seqM (asgM 7 .val (bin2 (bin2 (slotM 3) (slotM 4) addM) (lstM (argsCons (argsNil.bind (errV ("InvalidPicture" : Str) ("InvalidPicture" : Str) none)) (argsCons (argsNil.bind (errV ("InvalidTurn" : Str) ("InvalidTurn" : Str) none)) (argsCons (argsNil.bind (errV ("GrowingBook" : Str) ("GrowingBook" : Str) none)) (argsCons (argsNil.bind (errV ("InvalidText" : Str) ("InvalidText" : Str) none)) argsNil))))) addM))
    (seqM (asgM 8 .val (lstM argsNil))
    (seqM (asgM 8 .val (bin2 (slotM 8) (lstM (argsCons (M.ret (.str ("InvalidCell" : Str), false)) (argsCons (M.ret (.str ("InvalidDirection" : Str), false)) (argsCons (M.ret (.str ("InvalidCount" : Str), false)) (argsCons (M.ret (.str ("InvalidIndex" : Str), false)) argsNil))))) addM))
    (seqM (asgM 8 .val (bin2 (slotM 8) (lstM (argsCons (M.ret (.str ("InvalidSide" : Str), false)) (argsCons (M.ret (.str ("OpenDirection" : Str), false)) (argsCons (M.ret (.str ("RunningEdge" : Str), false)) (argsCons (M.ret (.str ("NoRun" : Str), false)) argsNil))))) addM))
    (seqM (asgM 8 .val (bin2 (slotM 8) (lstM (argsCons (M.ret (.str ("InvalidLimit" : Str), false)) (argsCons (M.ret (.str ("InvalidShape" : Str), false)) (argsCons (M.ret (.str ("DuplicateShape" : Str), false)) (argsCons (M.ret (.str ("OutOfReach" : Str), false)) argsNil))))) addM))
    (seqM (asgM 8 .val (bin2 (slotM 8) (lstM (argsCons (M.ret (.str ("TooMany" : Str), false)) (argsCons (M.ret (.str ("TooFar" : Str), false)) (argsCons (M.ret (.str ("NotCovered" : Str), false)) (argsCons (M.ret (.str ("InvalidName" : Str), false)) argsNil))))) addM))
    (seqM (asgM 8 .val (bin2 (slotM 8) (lstM (argsCons (M.ret (.str ("DuplicateName" : Str), false)) (argsCons (M.ret (.str ("UnknownName" : Str), false)) (argsCons (M.ret (.str ("CapacityExceeded" : Str), false)) (argsCons (M.ret (.str ("InvalidCommand" : Str), false)) argsNil))))) addM))
    (seqM (asgM 8 .val (bin2 (slotM 8) (lstM (argsCons (M.ret (.str ("ParseError" : Str), false)) (argsCons (M.ret (.str ("InvalidPicture" : Str), false)) (argsCons (M.ret (.str ("InvalidTurn" : Str), false)) (argsCons (M.ret (.str ("GrowingBook" : Str), false)) argsNil))))) addM))
    (seqM (asgM 8 .val (bin2 (slotM 8) (lstM (argsCons (M.ret (.str ("InvalidText" : Str), false)) argsNil)) addM))
    (seqM (ifS (orB (((bin2 (G_law_11 k) (slotM 8) (neOM Q.cls Q.T.nes (C k)))).bind boolM) (((bin2 (((argsNil.bind (errV ("NothingLeft" : Str) ("NothingLeft" : Str) none))).bind (attrM Q.cls (C k) ("tag" : Str))) (M.ret (.str ("NothingLeft" : Str), false)) (neOM Q.cls Q.T.nes (C k)))).bind boolM)) (seqM (retM (M.ret (.bl false, false)))
    skip) skip)
    (seqM (ifS (((bin2 (G_law_7 k) (G_law_9 k) (neOM Q.cls Q.T.nes (C k)))).bind boolM) (seqM (retM (M.ret (.bl false, false)))
    skip) skip)
    (seqM (ifS (((bin2 (G_law_3 k) (G_law_5 k) (neOM Q.cls Q.T.nes (C k)))).bind boolM) (seqM (retM (M.ret (.bl false, false)))
    skip) skip)
    (seqM (ifS ((((((argsCons (G_law_1 k) argsNil).bind (one allM1))).bind boolM)).bind fun b => M.ret !b) (seqM (retM (M.ret (.bl false, false)))
    skip) skip)
    (seqM (parM [(10, .val), (11, .val)] (valsCons (argsNil.bind (errV ("NothingLeft" : Str) ("NothingLeft" : Str) none)) (valsCons ((argsCons (M.ret (.str ("b" : Str), false)) argsNil).bind (errV ("UnknownName" : Str) ("UnknownName" : Str) (some ("name" : Str)))) valsNil)))
    (seqM (asgM 6 .val (lstM (argsCons (((slotM 10)).bind (isi1M Q.T.isi (.ty "IndexError"))) (argsCons (((slotM 10)).bind (isi1M Q.T.isi (.own ("Missing" : Str)))) (argsCons (((slotM 11)).bind (isi1M Q.T.isi (.own ("Missing" : Str)))) argsNil)))))
    (seqM (asgM 6 .val (bin2 (slotM 6) (lstM (argsCons (((slotM 11)).bind (isi1M Q.T.isi (.ty "LookupError"))) (argsCons (((slotM 11)).bind (isi1M Q.T.isi (.ty "IndexError"))) argsNil))) addM))
    (seqM (asgM 6 .val (bin2 (slotM 6) (lstM (argsCons (((slotM 10)).bind (isi1M Q.T.isi (.own ("FloorError" : Str)))) argsNil)) addM))
    (seqM (retM (andM (bin2 (slotM 6) (lstM (argsCons (M.ret (.bl true, false)) (argsCons (M.ret (.bl false, false)) (argsCons (M.ret (.bl true, false)) (argsCons (M.ret (.bl true, false)) (argsCons (M.ret (.bl false, false)) (argsCons (M.ret (.bl false, false)) argsNil))))))) (eqOM Q.cls (C k))) (bin2 (callM 1 0 (argsCons (slotM 10) argsNil) argsNil fun ds kds S => C k ("_law_classes" : Str) (pickD [.pos 0] ds kds []) S) (lstM (argsCons (M.ret (.str ("NothingLeft" : Str), false)) argsNil)) (eqOM Q.cls (C k)))))
    skip))))))))))))))))))
def E_law_13 (k : Nat) : M DV := (((slotM 5)).bind (attrM Q.cls (C k) ("name" : Str)))
def G_law_14 (k : Nat) : M DV := (lcM [5] (walkA (slM (slotM 4) (some (M.ret (.int 6, false))) (some (M.ret (.int 9, false))))) (putD 5) (M.ret true) (E_law_13 k))
def E_law_15 (k : Nat) : M DV := (((slotM 5)).bind (attrM Q.cls (C k) ("index" : Str)))
def G_law_16 (k : Nat) : M DV := (lcM [5] (walkA (slM (slotM 4) none (some (M.ret (.int 3, false))))) (putD 5) (M.ret true) (E_law_15 k))
def E_law_17 (k : Nat) : M DV := (((slotM 5)).bind (attrM Q.cls (C k) ("most" : Str)))
def G_law_18 (k : Nat) : M DV := (lcM [5] (walkA (slM (slotM 4) (some (M.ret (.int 3, false))) (some (M.ret (.int 5, false))))) (putD 5) (M.ret true) (E_law_17 k))
def E_law_19 (k : Nat) : M DV := (((slotM 5)).bind (attrM Q.cls (C k) ("given" : Str)))
def G_law_20 (k : Nat) : M DV := (lcM [5] (walkA (slotM 3)) (putD 5) (M.ret true) (E_law_19 k))
def Z_law_21 (k : Nat) : MS := (seqM (parM [(3, .val), (4, .val)] (valsCons (callM 1 0 (argsCons (slotM 2) argsNil) argsNil fun ds kds S => C k ("_law_first" : Str) (pickD [.pos 0] ds kds []) S) (valsCons (callM 1 0 (argsCons (slotM 2) argsNil) argsNil fun ds kds S => C k ("_law_second" : Str) (pickD [.pos 0] ds kds []) S) valsNil)))
    (seqM (ifS (((((callM 2 0 (argsCons (G_law_20 k) (argsCons (bin2 (lstM (argsCons (slotM 2) argsNil)) (M.ret (.int 9, false)) mulM) argsNil)) argsNil fun ds kds S => C k ("_law_same" : Str) (pickD [.pos 0, .pos 1] ds kds []) S)).bind boolM)).bind fun b => M.ret !b) (seqM (retM (M.ret (.bl false, false)))
    skip) skip)
    (seqM (asgM 6 .val (bin2 (bin2 (G_law_16 k) (G_law_18 k) addM) (lstM (argsCons (((bin2 (slotM 4) (M.ret (.int 5, false)) sbM)).bind (attrM Q.cls (C k) ("cell" : Str))) argsNil)) addM))
    (seqM (asgM 6 .val (bin2 (bin2 (slotM 6) (G_law_14 k) addM) (lstM (argsCons (((bin2 (slotM 4) (M.ret (.int 9, false)) sbM)).bind (attrM Q.cls (C k) ("limit" : Str))) (argsCons (((bin2 (slotM 4) (M.ret (.int 10, false)) sbM)).bind (attrM Q.cls (C k) ("word" : Str))) (argsCons (((bin2 (slotM 4) (M.ret (.int 11, false)) sbM)).bind (attrM Q.cls (C k) ("line" : Str))) argsNil)))) addM))
    (seqM (ifS (((((callM 2 0 (argsCons (slotM 6) (argsCons (bin2 (lstM (argsCons (slotM 2) argsNil)) (M.ret (.int 12, false)) mulM) argsNil)) argsNil fun ds kds S => C k ("_law_same" : Str) (pickD [.pos 0, .pos 1] ds kds []) S)).bind boolM)).bind fun b => M.ret !b) (seqM (retM (M.ret (.bl false, false)))
    skip) skip)
    (seqM (ifS (((((callM 2 0 (argsCons (callM 1 0 (argsCons (slotM 2) argsNil) argsNil fun ds kds S => C k ("_law_other_way" : Str) (pickD [.pos 0] ds kds []) S) (argsCons (bin2 (lstM (argsCons (slotM 2) argsNil)) (M.ret (.int 21, false)) mulM) argsNil)) argsNil fun ds kds S => C k ("_law_same" : Str) (pickD [.pos 0, .pos 1] ds kds []) S)).bind boolM)).bind fun b => M.ret !b) (seqM (retM (M.ret (.bl false, false)))
    skip) skip)
    (Z_law_12 k)))))))
theorem m_law (k : Nat) : C (k + 1) ("law" : Str) = runF 12 (seqM (asgM 1 .obj (callM 1 0 (argsCons (slotM 0) argsNil) argsNil fun ds kds S => C k ("_law_bag" : Str) (pickD [.pos 0] ds kds []) S))
    (seqM (asgM 2 .val (callM 2 0 (argsCons (slotM 1) (argsCons (lstM (argsCons (M.ret (.int 0, false)) (argsCons (M.ret (.int 7, false)) (argsCons (M.ret (.non, false)) (argsCons (M.ret (.str ("x" : Str), false)) (argsCons (tupM (argsCons (M.ret (.str ("a" : Str), false)) argsNil)) (argsCons (negM (M.ret (.int 3, false))) (argsCons (M.ret (.bl true, false)) argsNil)))))))) argsNil)) argsNil fun ds kds S => C k ("_law_of" : Str) (pickD [.pos 0, .pos 1] ds kds []) S))
    (Z_law_21 k))) := by
  kernel_rfl
end K73

set_option autoImplicit false
namespace K73
open PySem PySem.Spec PyProof.Rows L2 PD
theorem eqP_int (i j : Int) : eqP (.int i) (.int j) = some (decide (i = j)) := by
  unfold eqP
  simp only [toP]
  rw [if_pos ⟨by rfl, by rfl⟩]
  simp only [PyData.eqv]
  by_cases h : i = j
  · subst h; simp
  · simp [h]
section
variable {a b c d : D}
theorem at4_0 : L2.atI [a, b, c, d] (0 : Int) = some a := rfl
theorem at4_1 : L2.atI [a, b, c, d] (1 : Int) = some b := rfl
theorem at4_2 : L2.atI [a, b, c, d] (2 : Int) = some c := rfl
theorem at4_3 : L2.atI [a, b, c, d] (3 : Int) = some d := rfl
theorem ix4_1 : ixN 4 (1 : Int) = some 1 := rfl
theorem ix4_2 : ixN 4 (2 : Int) = some 2 := rfl
theorem ix4_3 : ixN 4 (3 : Int) = some 3 := rfl
end
theorem decT {p : Prop} [Decidable p] (h : p) : decide p = true := decide_eq_true h
theorem decF {p : Prop} [Decidable p] (h : ¬ p) : decide p = false := decide_eq_false h
theorem pow10 : powOk 10 18 = true := by decide +kernel
theorem opT : (true = true) = True := by simp
theorem opF : (false = true) = False := by simp
theorem log2_le {i : Int} {n : Nat} (h0 : 0 ≤ i) (h : i < 2 ^ n) : i.natAbs.log2 ≤ n := by
  by_cases z : i.natAbs = 0
  · rw [z]; exact Nat.zero_le _
  · exact Nat.le_of_lt ((Nat.log2_lt z).mpr (by have : (i.natAbs : Int) = i := Int.natAbs_of_nonneg h0; have : (i.natAbs : Int) < ((2 ^ n : Nat) : Int) := by rw [this]; push_cast; exact h
                                                exact Int.ofNat_lt.mp this))
/-- the bag -/
abbrev bag (xs : List Int) (i b c : Int) : D := .lst [.lst (xs.map D.int), .int i, .int b, .int c]
theorem mul_ok2 {i j : Int} (h0 : 0 ≤ i) (h1 : i < 2 ^ 62) (h2 : 0 ≤ j) (h3 : j < 2 ^ 62) : mulOk i j = true := by
  unfold mulOk
  have a := log2_le h0 h1
  have b := log2_le h2 h3
  exact decide_eq_true (by omega)
theorem emod_b (x : Int) {m : Int} (h : 0 < m) : 0 ≤ x % m ∧ x % m < m := ⟨Int.emod_nonneg _ (by omega), Int.emod_lt_of_pos _ h⟩
theorem log2_small {a : Int} (h : 0 < a) (h2 : a < 1000) : decide (a.natAbs.log2 < 9000) = true := decide_eq_true (by have := log2_le (n := 10) (Int.le_of_lt h) (by omega); omega)
theorem pull_D (k : Nat) (S : List D) (xs : List Int) (i b c a : Int) (h0 : 0 ≤ i) (h1 : 0 ≤ b) (h2 : 0 ≤ c) (h3 : c < 2147483563) (ha : 0 < a) (ha2 : a < 1000) :
    ∃ i' b' c' r, C (k + 1) ("_law_pull" : Str) [.obj 0, .int a] (bag xs i b c :: S) = .ok (.int r, false) (bag xs i' b' c' :: S) ∧ 0 ≤ r ∧ r < a ∧ 0 ≤ i' ∧ 0 ≤ b' ∧ 0 ≤ c' ∧ c' < 2147483563 := by
  rw [m__law_pull]
  have la : ∀ x : Int, divOk x a = true := fun x => by unfold divOk; rw [log2_small ha ha2, decT ha]; rfl
  have tail : ∀ (e2 e3 : Slot) (i b c : Int), True := fun _ _ _ _ _ => trivial
  have hc : ∀ c : Int, 0 ≤ c → c < 2147483563 → mulOk c c = true ∧ mulOk c 27031 = true ∧ mulOk c 43691 = true := fun c h2 h3 => ⟨mul_ok2 h2 (by omega) h2 (by omega), mul_ok2 h2 (by omega) (by omega) (by omega), mul_ok2 h2 (by omega) (by omega) (by omega)⟩
  have m1 : ∀ x : Int, mulOk (x % 8117) 59 = true := fun x => by have := emod_b x (m := 8117) (by decide); exact mul_ok2 this.1 (by omega) (by decide) (by decide)
  have m2 : ∀ x : Int, mulOk (x % 2147483353) 1613 = true := fun x => by have := emod_b x (m := 2147483353) (by decide); exact mul_ok2 this.1 (by omega) (by decide) (by decide)
  have l71 : ∀ x : Int, divOk x 71 = true := fun x => by unfold divOk; decide +kernel
  by_cases hb : b = 0 ∧ i < xs.length
  · obtain ⟨hb0, hi⟩ := hb
    subst hb0
    obtain ⟨z, hz⟩ : ∃ z, L2.atI (xs.map D.int) i = some (.int z) := by
      refine ⟨xs[i.toNat]'(by omega), ?_⟩
      unfold L2.atI
      have e : ixN (xs.map D.int).length i = some i.toNat := by unfold ixN; rw [if_pos h0, if_pos (by rw [List.length_map]; exact hi)]
      rw [e]
      show (xs.map D.int)[i.toNat]? = _
      rw [List.getElem?_map, List.getElem?_eq_getElem (by omega)]
      rfl
    by_cases hbig : 1000000000000000000 ≤ z
    · have zp : 0 < z := by omega
      simp only [runF, initE, seqM, ifS, M.bind, andB, orB, bin2, slotM, M.ret, List.map_cons, List.map_nil, List.length_cons, List.length_nil, List.cons_append, List.nil_append, List.replicate, List.getElem?_cons_zero, List.getElem?_cons_succ, Nat.zero_add, Nat.reduceAdd, Nat.reduceSub, Nat.reduceLT,
  sbM, isDict, deref, ixM, ixDM, at4_0, at4_1, at4_2, at4_3, ix4_1, ix4_2, ix4_3, eqOM, eqP_int, boolM, argsCons, argsNil, frzL, frz1, one, lenM1, intM1, cmpI, intM, if_true, if_false, ite_true, ite_false, asgM, putM, PD.putAt, asgG, gSubM, setIM, modOf, setOf, thenU, skip, retM, addM, PD.subM, mulM, mulIM, modM, fdivM, powM, pow10, PD.isInt, decide_true, decide_false, eq_self_iff_true, Int.reduceLT, Int.reduceLE, Int.reduceEq, Int.reducePow, Int.reduceToNat, Int.reduceNeg, Nat.reducePow, Nat.reduceLeDiff, and_self, Bool.true_and, Bool.and_true, true_and, and_true, List.set_cons_zero, List.set_cons_succ, opT, opF, Bool.not_true, Bool.not_false, Bool.false_eq_true, decT hi, List.length_map, decT hbig, hz, la, decT zp, decT ha]
      exact ⟨i + 1, z / a, c, z % a, rfl, (emod_b z ha).1, (emod_b z ha).2, by omega, Int.ediv_nonneg (by omega) (by omega), h2, h3⟩
    · have hc' := (hc c h2 h3).2.2
      generalize hd : (c * 43691 + z % 2147483353 * 1613 + 23) % 2147483563 = c'
      have b1 := emod_b (c * 43691 + z % 2147483353 * 1613 + 23) (m := 2147483563) (by decide)
      rw [hd] at b1
      obtain ⟨q1, q2, _⟩ := hc c' b1.1 b1.2
      simp only [runF, initE, seqM, ifS, M.bind, andB, orB, bin2, slotM, M.ret, List.map_cons, List.map_nil, List.length_cons, List.length_nil, List.cons_append, List.nil_append, List.replicate, List.getElem?_cons_zero, List.getElem?_cons_succ, Nat.zero_add, Nat.reduceAdd, Nat.reduceSub, Nat.reduceLT,
  sbM, isDict, deref, ixM, ixDM, at4_0, at4_1, at4_2, at4_3, ix4_1, ix4_2, ix4_3, eqOM, eqP_int, boolM, argsCons, argsNil, frzL, frz1, one, lenM1, intM1, cmpI, intM, if_true, if_false, ite_true, ite_false, asgM, putM, PD.putAt, asgG, gSubM, setIM, modOf, setOf, thenU, skip, retM, addM, PD.subM, mulM, mulIM, modM, fdivM, powM, pow10, PD.isInt, decide_true, decide_false, eq_self_iff_true, Int.reduceLT, Int.reduceLE, Int.reduceEq, Int.reducePow, Int.reduceToNat, Int.reduceNeg, Nat.reducePow, Nat.reduceLeDiff, and_self, Bool.true_and, Bool.and_true, true_and, and_true, List.set_cons_zero, List.set_cons_succ, opT, opF, Bool.not_true, Bool.not_false, Bool.false_eq_true, decT hi, List.length_map, decF hbig, hz, la, decT ha, hc', m1, m2, hd, l71, q1, q2]
      generalize hd2 : (c' * c' + c' * 27031 + 1500083) % 2147483563 = c2
      have b2 := emod_b (c' * c' + c' * 27031 + 1500083) (m := 2147483563) (by decide)
      rw [hd2] at b2
      exact ⟨i + 1, 0, c2, _, rfl, (emod_b _ ha).1, (emod_b _ ha).2, by omega, by omega, b2.1, b2.2⟩
  · by_cases hb0 : b = 0
    · have hi : ¬ i < xs.length := fun z => hb ⟨hb0, z⟩
      subst hb0
      obtain ⟨q1, q2, _⟩ := hc c h2 h3
      simp only [runF, initE, seqM, ifS, M.bind, andB, orB, bin2, slotM, M.ret, List.map_cons, List.map_nil, List.length_cons, List.length_nil, List.cons_append, List.nil_append, List.replicate, List.getElem?_cons_zero, List.getElem?_cons_succ, Nat.zero_add, Nat.reduceAdd, Nat.reduceSub, Nat.reduceLT,
  sbM, isDict, deref, ixM, ixDM, at4_0, at4_1, at4_2, at4_3, ix4_1, ix4_2, ix4_3, eqOM, eqP_int, boolM, argsCons, argsNil, frzL, frz1, one, lenM1, intM1, cmpI, intM, if_true, if_false, ite_true, ite_false, asgM, putM, PD.putAt, asgG, gSubM, setIM, modOf, setOf, thenU, skip, retM, addM, PD.subM, mulM, mulIM, modM, fdivM, powM, pow10, PD.isInt, decide_true, decide_false, eq_self_iff_true, Int.reduceLT, Int.reduceLE, Int.reduceEq, Int.reducePow, Int.reduceToNat, Int.reduceNeg, Nat.reducePow, Nat.reduceLeDiff, and_self, Bool.true_and, Bool.and_true, true_and, and_true, List.set_cons_zero, List.set_cons_succ, opT, opF, Bool.not_true, Bool.not_false, Bool.false_eq_true, decF hi, List.length_map, la, decT ha, m1, l71, q1, q2]
      generalize hd2 : (c * c + c * 27031 + 1500083) % 2147483563 = c2
      have b2 := emod_b (c * c + c * 27031 + 1500083) (m := 2147483563) (by decide)
      rw [hd2] at b2
      exact ⟨i, 0, c2, _, rfl, (emod_b _ ha).1, (emod_b _ ha).2, h0, by omega, b2.1, b2.2⟩
    · simp only [runF, initE, seqM, ifS, M.bind, andB, orB, bin2, slotM, M.ret, List.map_cons, List.map_nil, List.length_cons, List.length_nil, List.cons_append, List.nil_append, List.replicate, List.getElem?_cons_zero, List.getElem?_cons_succ, Nat.zero_add, Nat.reduceAdd, Nat.reduceSub, Nat.reduceLT,
  sbM, isDict, deref, ixM, ixDM, at4_0, at4_1, at4_2, at4_3, ix4_1, ix4_2, ix4_3, eqOM, eqP_int, boolM, argsCons, argsNil, frzL, frz1, one, lenM1, intM1, cmpI, intM, if_true, if_false, ite_true, ite_false, asgM, putM, PD.putAt, asgG, gSubM, setIM, modOf, setOf, thenU, skip, retM, addM, PD.subM, mulM, mulIM, modM, fdivM, powM, pow10, PD.isInt, decide_true, decide_false, eq_self_iff_true, Int.reduceLT, Int.reduceLE, Int.reduceEq, Int.reducePow, Int.reduceToNat, Int.reduceNeg, Nat.reducePow, Nat.reduceLeDiff, and_self, Bool.true_and, Bool.and_true, true_and, and_true, List.set_cons_zero, List.set_cons_succ, opT, opF, Bool.not_true, Bool.not_false, Bool.false_eq_true, decF hb0, decT (show 0 < b by omega), la, decT ha]
      exact ⟨i, b / a, c, b % a, rfl, (emod_b b ha).1, (emod_b b ha).2, h0, Int.ediv_nonneg (by omega) (by omega), h2, h3⟩
end K73

set_option autoImplicit false
namespace K73
open PySem PySem.Spec PyProof.Rows L2 PD
theorem cut_all {α : Type} {ds : List α} {n : Nat} (h : ds.length ≤ n) : PD.cutD ds none (some (n : Int)) = ds := by
  unfold PD.cutD
  rw [HT.sIx_nat, HT.sIx_none, Nat.min_eq_right h, List.drop_zero, Nat.sub_zero, List.take_length]
theorem forEL_cons {k : Wk} {g : D → M Unit} {body els : MS} {d : D} {ds : List D} {st st1 st2 : PD.St} (h1 : g d st = .ok () st1) (h2 : body st1 = .ok .nx st2) (h3 : k.still st2 = true) : forEL k g body els (d :: ds) st = forEL k g body els ds st2 := by
  show (match g d st with | .ok _ st1 => _ | _ => _) = _
  rw [h1]
  show (match body st1 with | .ok .nx st2 => _ | .ok .ct st2 => _ | .ok .bk st2 => _ | .ok (.rt x) st2 => _ | .exc c fs st2 => _ | .bad => _) = _
  rw [h2]
  show (if k.still st2 = true then _ else _) = _
  rw [if_pos h3]
theorem bag_D (k : Nat) (ns : List Int) (S : List D) (hn : ns.length ≤ 63) : ∃ c, C (k + 1) ("_law_bag" : Str) [.fro (ns.map D.int)] S = .ok (bag ns 0 0 c, true) S ∧ 0 ≤ c ∧ c < 2147483563 := by
  rw [m__law_bag]
  have key : ∀ (ms : List Int) (c : Int) (e2 : PD.Slot), 0 ≤ c → c < 2147483563 → ∃ c' e', 0 ≤ c' ∧ c' < 2147483563 ∧
    forEL ⟨ns.map D.int, none⟩ (putD 2) (L__law_bag_0 k) skip (ms.map D.int) ⟨[some (false, .fro (ns.map D.int)), some (false, .int c), e2], S⟩ =
      .ok .nx ⟨[some (false, .fro (ns.map D.int)), some (false, .int c'), e'], S⟩ := by
    intro ms
    induction ms with
    | nil => intro c e2 h0 h1; exact ⟨c, e2, h0, h1, rfl⟩
    | cons m r ih =>
      intro c e2 h0 h1
      have q := mul_ok2 (i := c) (j := 50207) h0 (by omega) (by decide) (by decide)
      have b := emod_b (c * 50207 + m % 2147483353 + 37) (m := 2147483563) (by decide)
      obtain ⟨c', e', h2, h3, h4⟩ := ih ((c * 50207 + m % 2147483353 + 37) % 2147483563) (some (false, .int m)) b.1 b.2
      refine ⟨c', e', h2, h3, ?_⟩
      rw [← h4, List.map_cons]
      refine forEL_cons (st1 := ⟨[some (false, .fro (ns.map D.int)), some (false, .int c), some (false, .int m)], S⟩) rfl ?_ rfl
      simp only [runF, initE, seqM, ifS, M.bind, andB, orB, bin2, slotM, M.ret, List.map_cons, List.map_nil, List.length_cons, List.length_nil, List.cons_append, List.nil_append, List.replicate, List.getElem?_cons_zero, List.getElem?_cons_succ, Nat.zero_add, Nat.reduceAdd, Nat.reduceSub, Nat.reduceLT,
  sbM, isDict, deref, ixM, ixDM, at4_0, at4_1, at4_2, at4_3, ix4_1, ix4_2, ix4_3, eqOM, eqP_int, boolM, argsCons, argsNil, frzL, frz1, one, lenM1, intM1, cmpI, intM, if_true, if_false, ite_true, ite_false, asgM, putM, PD.putAt, asgG, gSubM, setIM, modOf, setOf, thenU, skip, retM, addM, PD.subM, mulM, mulIM, modM, fdivM, powM, pow10, PD.isInt, decide_true, decide_false, eq_self_iff_true, Int.reduceLT, Int.reduceLE, Int.reduceEq, Int.reducePow, Int.reduceToNat, Int.reduceNeg, Nat.reducePow, Nat.reduceLeDiff, and_self, Bool.true_and, Bool.and_true, true_and, and_true, List.set_cons_zero, List.set_cons_succ, opT, opF, Bool.not_true, Bool.not_false, Bool.false_eq_true, callM, callF, liftF, pickD, List.filterMap_cons, List.filterMap_nil, Src.getD, Src.get, and_self, if_true, forEM, walkA, frzM, walkD, walkRange1, walkRange2, Wk.still, exprM, methM, isTy, popAtM, appendM, popM, parM, valsCons, valsNil, frzV, putVs, lstM, tupM, newL, newT, listM1, slM, PD.partM, sliceM, List.set_cons_zero, List.set_cons_succ, PD.notM, PD.negM, q, L__law_bag_0]
  obtain ⟨c', e', h2, h3, h4⟩ := key ns 5641 none (by decide) (by decide)
  have e1 : PD.cutD (ns.map D.int) none (some 63) = ns.map D.int := cut_all (n := 63) (by rw [List.length_map]; exact hn)
  have l : (ns.length ≤ sizeLine) = True := by simp only [eq_iff_iff, iff_true]; exact Nat.le_trans hn (by decide)
  have l4 : ((4 : Nat) ≤ sizeLine) = True := by simp only [eq_iff_iff, iff_true]; decide
  refine ⟨c', ?_, h2, h3⟩
  have h4 : forEL ⟨ns.map D.int, none⟩ (putD 2) (L__law_bag_0 k) (M.ret Fl.nx) (ns.map D.int) ⟨[some (false, .fro (ns.map D.int)), some (false, .int 5641), none], S⟩ = _ := h4
  simp only [runF, initE, seqM, ifS, M.bind, andB, orB, bin2, slotM, M.ret, List.map_cons, List.map_nil, List.length_cons, List.length_nil, List.cons_append, List.nil_append, List.replicate, List.getElem?_cons_zero, List.getElem?_cons_succ, Nat.zero_add, Nat.reduceAdd, Nat.reduceSub, Nat.reduceLT,
  sbM, isDict, deref, ixM, ixDM, at4_0, at4_1, at4_2, at4_3, ix4_1, ix4_2, ix4_3, eqOM, eqP_int, boolM, argsCons, argsNil, frzL, frz1, one, lenM1, intM1, cmpI, intM, if_true, if_false, ite_true, ite_false, asgM, putM, PD.putAt, asgG, gSubM, setIM, modOf, setOf, thenU, skip, retM, addM, PD.subM, mulM, mulIM, modM, fdivM, powM, pow10, PD.isInt, decide_true, decide_false, eq_self_iff_true, Int.reduceLT, Int.reduceLE, Int.reduceEq, Int.reducePow, Int.reduceToNat, Int.reduceNeg, Nat.reducePow, Nat.reduceLeDiff, and_self, Bool.true_and, Bool.and_true, true_and, and_true, List.set_cons_zero, List.set_cons_succ, opT, opF, Bool.not_true, Bool.not_false, Bool.false_eq_true, callM, callF, liftF, pickD, List.filterMap_cons, List.filterMap_nil, Src.getD, Src.get, and_self, if_true, forEM, walkA, frzM, walkD, walkRange1, walkRange2, Wk.still, exprM, methM, isTy, popAtM, appendM, popM, parM, valsCons, valsNil, frzV, putVs, lstM, tupM, newL, newT, listM1, slM, PD.partM, sliceM, List.set_cons_zero, List.set_cons_succ, PD.notM, PD.negM, e1, l, l4, h4, List.length_map]
end K73

set_option autoImplicit false
namespace K73
open PySem PySem.Spec PyProof.Rows L2 PD
def okT : Rz Fl → Bool
  | .ok (.rt (.bl true, false)) _ => true
  | _ => false
theorem okT_ok {r : Rz Fl} (h : okT r = true) : ∃ st, r = .ok (.rt (.bl true, false)) st := by
  unfold okT at h
  split at h
  · exact ⟨_, rfl⟩
  · cases h
def firstD (v : D) : List D := [.err ("InvalidCell" : Str) [("given", v), ("tag", .str ("InvalidCell" : Str))], .err ("InvalidDirection" : Str) [("given", v), ("tag", .str ("InvalidDirection" : Str))], .err ("InvalidCount" : Str) [("given", v), ("tag", .str ("InvalidCount" : Str))], .err ("InvalidIndex" : Str) [("given", v), ("tag", .str ("InvalidIndex" : Str))], .err ("InvalidSide" : Str) [("given", v), ("tag", .str ("InvalidSide" : Str))], .err ("OpenDirection" : Str) [("given", v), ("tag", .str ("OpenDirection" : Str))], .err ("RunningEdge" : Str) [("given", v), ("tag", .str ("RunningEdge" : Str))], .err ("NoRun" : Str) [("given", v), ("tag", .str ("NoRun" : Str))], .err ("InvalidLimit" : Str) [("given", v), ("tag", .str ("InvalidLimit" : Str))]]
def secondD (v : D) : List D := [.err ("InvalidShape" : Str) [("index", v), ("tag", .str ("InvalidShape" : Str))], .err ("DuplicateShape" : Str) [("index", v), ("tag", .str ("DuplicateShape" : Str))], .err ("OutOfReach" : Str) [("index", v), ("tag", .str ("OutOfReach" : Str))], .err ("TooMany" : Str) [("most", v), ("tag", .str ("TooMany" : Str))], .err ("TooFar" : Str) [("most", v), ("tag", .str ("TooFar" : Str))], .err ("NotCovered" : Str) [("cell", v), ("tag", .str ("NotCovered" : Str))], .err ("InvalidName" : Str) [("name", v), ("tag", .str ("InvalidName" : Str))], .err ("DuplicateName" : Str) [("name", v), ("tag", .str ("DuplicateName" : Str))], .err ("UnknownName" : Str) [("name", v), ("tag", .str ("UnknownName" : Str))], .err ("CapacityExceeded" : Str) [("limit", v), ("tag", .str ("CapacityExceeded" : Str))], .err ("InvalidCommand" : Str) [("word", v), ("tag", .str ("InvalidCommand" : Str))], .err ("ParseError" : Str) [("line", v), ("tag", .str ("ParseError" : Str))]]
section
variable (S : List D) (e0 : PD.Slot) (b : D)
abbrev z0 (v : D) : PD.St := ⟨[e0, some (false, .obj 0), some (false, v), none, none, none, none, none, none, none, none, none], b :: S⟩
abbrev z1 (v : D) : PD.St := ⟨[e0, some (false, .obj 0), some (false, v), some (false, .lst (firstD v)), some (false, .lst (secondD v)), none, some (false, .lst [v, v, v, v, v, v, v, v, v, v, v, v]), none, none, none, none, none], b :: S⟩
theorem tail (v : D) : okT (Z_law_12 9 (z1 S e0 b v)) = true := by kernel_rfl
theorem p0 : Z_law_21 9 (z0 S e0 b (.int 0)) = Z_law_12 9 (z1 S e0 b (.int 0)) := by kernel_rfl
theorem p1 : Z_law_21 9 (z0 S e0 b (.int 7)) = Z_law_12 9 (z1 S e0 b (.int 7)) := by kernel_rfl
theorem p2 : Z_law_21 9 (z0 S e0 b (.non)) = Z_law_12 9 (z1 S e0 b (.non)) := by kernel_rfl
theorem p3 : Z_law_21 9 (z0 S e0 b (.str ("x" : Str))) = Z_law_12 9 (z1 S e0 b (.str ("x" : Str))) := by kernel_rfl
theorem p4 : Z_law_21 9 (z0 S e0 b (.tup [.str ("a" : Str)])) = Z_law_12 9 (z1 S e0 b (.tup [.str ("a" : Str)])) := by kernel_rfl
theorem p5 : Z_law_21 9 (z0 S e0 b (.int (-3))) = Z_law_12 9 (z1 S e0 b (.int (-3))) := by kernel_rfl
theorem p6 : Z_law_21 9 (z0 S e0 b (.bl true)) = Z_law_12 9 (z1 S e0 b (.bl true)) := by kernel_rfl
end
end K73

set_option autoImplicit false
namespace K73
open PySem PySem.Spec PyProof.Rows L2 PD
def things : List D := [.int 0, .int 7, .non, .str ("x" : Str), .tup [.str ("a" : Str)], .int (-3), .bl true]
theorem things_at {r : Int} (h0 : 0 ≤ r) (h1 : r < 7) : ∃ v, L2.atI things r = some v ∧ v ∈ things := by
  have : r = 0 ∨ r = 1 ∨ r = 2 ∨ r = 3 ∨ r = 4 ∨ r = 5 ∨ r = 6 := by omega
  rcases this with rfl | rfl | rfl | rfl | rfl | rfl | rfl <;> exact ⟨_, rfl, by simp [things]⟩
theorem of_D (k : Nat) (S : List D) (xs : List Int) (i b c : Int) (h0 : 0 ≤ i) (h1 : 0 ≤ b) (h2 : 0 ≤ c) (h3 : c < 2147483563) :
    ∃ i' b' c' v, C (k + 2) ("_law_of" : Str) [.obj 0, .lst things] (bag xs i b c :: S) = .ok (v, false) (bag xs i' b' c' :: S) ∧ v ∈ things := by
  obtain ⟨i', b', c', r, e, r0, r1, _⟩ := pull_D k S xs i b c 7 h0 h1 h2 h3 (by decide) (by decide)
  obtain ⟨v, hv, hm⟩ := things_at r0 r1
  refine ⟨i', b', c', v, ?_, hm⟩
  rw [m__law_of]
  have l7 : things.length = 7 := rfl
  have hm2 := hm
  simp only [things, List.mem_cons, List.not_mem_nil, or_false] at hm2
  rcases hm2 with rfl | rfl | rfl | rfl | rfl | rfl | rfl <;> simp only [runF, initE, seqM, ifS, M.bind, andB, orB, bin2, slotM, M.ret, List.map_cons, List.map_nil, List.length_cons, List.length_nil, List.cons_append, List.nil_append, List.replicate, List.getElem?_cons_zero, List.getElem?_cons_succ, Nat.zero_add, Nat.reduceAdd, Nat.reduceSub, Nat.reduceLT,
  sbM, isDict, deref, ixM, ixDM, at4_0, at4_1, at4_2, at4_3, ix4_1, ix4_2, ix4_3, eqOM, eqP_int, boolM, argsCons, argsNil, frzL, frz1, one, lenM1, intM1, cmpI, intM, if_true, if_false, ite_true, ite_false, asgM, putM, PD.putAt, asgG, gSubM, setIM, modOf, setOf, thenU, skip, retM, addM, PD.subM, mulM, mulIM, modM, fdivM, powM, pow10, PD.isInt, decide_true, decide_false, eq_self_iff_true, Int.reduceLT, Int.reduceLE, Int.reduceEq, Int.reducePow, Int.reduceToNat, Int.reduceNeg, Nat.reducePow, Nat.reduceLeDiff, and_self, Bool.true_and, Bool.and_true, true_and, and_true, List.set_cons_zero, List.set_cons_succ, opT, opF, Bool.not_true, Bool.not_false, Bool.false_eq_true, callM, callF, liftF, pickD, List.filterMap_cons, List.filterMap_nil, Src.getD, Src.get, and_self, if_true, forEM, walkA, frzM, walkD, walkRange1, walkRange2, Wk.still, exprM, methM, isTy, popAtM, appendM, popM, parM, valsCons, valsNil, frzV, putVs, lstM, tupM, newL, newT, listM1, slM, PD.partM, sliceM, List.set_cons_zero, List.set_cons_succ, PD.notM, PD.negM, l7, e, hv, Int.cast_ofNat_Int]
theorem suffix_D (S : List D) (e0 : PD.Slot) (b : D) {v : D} (h : v ∈ things) : ∃ st, Z_law_21 9 (z0 S e0 b v) = .ok (.rt (.bl true, false)) st := by
  simp only [things, List.mem_cons, List.not_mem_nil, or_false] at h
  rcases h with rfl | rfl | rfl | rfl | rfl | rfl | rfl
  · rw [p0]; exact okT_ok (tail ..)
  · rw [p1]; exact okT_ok (tail ..)
  · rw [p2]; exact okT_ok (tail ..)
  · rw [p3]; exact okT_ok (tail ..)
  · rw [p4]; exact okT_ok (tail ..)
  · rw [p5]; exact okT_ok (tail ..)
  · rw [p6]; exact okT_ok (tail ..)
theorem law_D (ns : List Int) (hn : ns.length ≤ 63) : ∃ S, C 10 ("law" : Str) [.fro (ns.map D.int)] [] = .ok (.bl true, false) S := by
  obtain ⟨c, b1, c0, c1⟩ := bag_D 8 ns [] hn
  obtain ⟨i', b', c', v, e1, hv⟩ := of_D 7 [] ns 0 0 c (by decide) (by decide) c0 c1
  obtain ⟨st, tl⟩ := suffix_D [] (some (false, .fro (ns.map D.int))) (bag ns i' b' c') hv
  refine ⟨st.sto, ?_⟩
  rw [m_law]
  unfold things at e1
  have l1 : ((1 : Nat) ≤ sizeLine) = True := by simp only [eq_iff_iff, iff_true]; decide
  have l7 : ((7 : Nat) ≤ sizeLine) = True := by simp only [eq_iff_iff, iff_true]; decide
  have l8 : ((0 : Nat) ≤ sizeLine) = True := by simp only [eq_iff_iff, iff_true]; decide
  simp only [things, List.mem_cons, List.not_mem_nil, or_false] at hv
  rcases hv with rfl | rfl | rfl | rfl | rfl | rfl | rfl <;> simp only [runF, initE, seqM, ifS, M.bind, andB, orB, bin2, slotM, M.ret, List.map_cons, List.map_nil, List.length_cons, List.length_nil, List.cons_append, List.nil_append, List.replicate, List.getElem?_cons_zero, List.getElem?_cons_succ, Nat.zero_add, Nat.reduceAdd, Nat.reduceSub, Nat.reduceLT,
  sbM, isDict, deref, ixM, ixDM, at4_0, at4_1, at4_2, at4_3, ix4_1, ix4_2, ix4_3, eqOM, eqP_int, boolM, argsCons, argsNil, frzL, frz1, one, lenM1, intM1, cmpI, intM, if_true, if_false, ite_true, ite_false, asgM, putM, PD.putAt, asgG, gSubM, setIM, modOf, setOf, thenU, skip, retM, addM, PD.subM, mulM, mulIM, modM, fdivM, powM, pow10, PD.isInt, decide_true, decide_false, eq_self_iff_true, Int.reduceLT, Int.reduceLE, Int.reduceEq, Int.reducePow, Int.reduceToNat, Int.reduceNeg, Nat.reducePow, Nat.reduceLeDiff, and_self, Bool.true_and, Bool.and_true, true_and, and_true, List.set_cons_zero, List.set_cons_succ, opT, opF, Bool.not_true, Bool.not_false, Bool.false_eq_true, callM, callF, liftF, pickD, List.filterMap_cons, List.filterMap_nil, Src.getD, Src.get, and_self, if_true, forEM, walkA, frzM, walkD, walkRange1, walkRange2, Wk.still, exprM, methM, isTy, popAtM, appendM, popM, parM, valsCons, valsNil, frzV, putVs, lstM, tupM, newL, newT, listM1, slM, PD.partM, sliceM, List.set_cons_zero, List.set_cons_succ, PD.notM, PD.negM, b1, e1, tl, l1, l7, l8]
end K73

set_option autoImplicit false
namespace K73
open PySem PySem.Spec PyProof.Rows L2 PD
theorem lk_cons {α : Type} {k a : Str} {b q : α} {l : List (Str × α)} (h : ((a, b) :: l).lookup k = some q) : (k = a ∧ q = b) ∨ l.lookup k = some q := by
  rw [List.lookup_cons] at h
  cases e : (k == a) with
  | true =>
    rw [e] at h
    cases h
    exact .inl ⟨eq_of_beq e, rfl⟩
  | false =>
    rw [e] at h
    exact .inr h
section
variable {K : PySem.W.Frag} {wd : World}
theorem defsAt (c : obsQ ex fn er ts K = valQ fn er ts wd) : ∀ k q, Q.defs.lookup k = some q → DefAt (wK K) q.d (q.at_ K) := by
  have hx := (He.ba (saysQ_ex c)).2
  intro k q h
  rcases lk_cons h with ⟨_, rfl⟩ | h
  · obtain ⟨fd, F⟩ := saysQ_def c (d := q0.a) (by simp only [fn, List.mem_cons, true_or, or_true])
    exact b0 F
  rcases lk_cons h with ⟨_, rfl⟩ | h
  · obtain ⟨fd, F⟩ := saysQ_def c (d := q1.a) (by simp only [fn, List.mem_cons, true_or, or_true])
    exact b1 F
  rcases lk_cons h with ⟨_, rfl⟩ | h
  · obtain ⟨fd, F⟩ := saysQ_def c (d := q2.a) (by simp only [fn, List.mem_cons, true_or, or_true])
    exact b2 F
  rcases lk_cons h with ⟨_, rfl⟩ | h
  · obtain ⟨fd, F⟩ := saysQ_def c (d := q3.a) (by simp only [fn, List.mem_cons, true_or, or_true])
    exact b3 F
  rcases lk_cons h with ⟨_, rfl⟩ | h
  · obtain ⟨fd, F⟩ := saysQ_def c (d := q4.a) (by simp only [fn, List.mem_cons, true_or, or_true])
    exact b4 F
  rcases lk_cons h with ⟨_, rfl⟩ | h
  · obtain ⟨fd, F⟩ := saysQ_def c (d := q5.a) (by simp only [fn, List.mem_cons, true_or, or_true])
    exact b5 F
  rcases lk_cons h with ⟨_, rfl⟩ | h
  · obtain ⟨fd, F⟩ := saysQ_def c (d := q6.a) (by simp only [fn, List.mem_cons, true_or, or_true])
    exact b6 F
  rcases lk_cons h with ⟨_, rfl⟩ | h
  · obtain ⟨fd, F⟩ := saysQ_def c (d := q7.a) (by simp only [fn, List.mem_cons, true_or, or_true])
    exact b7 F
  rcases lk_cons h with ⟨_, rfl⟩ | h
  · obtain ⟨fd, F⟩ := saysQ_def c (d := q8.a) (by simp only [fn, List.mem_cons, true_or, or_true])
    exact b8 F
  cases h
end
theorem lawGlo {K : PySem.W.Frag} {wd : World} (c : obsQ ex fn er ts K = valQ fn er ts wd) : (He.Fa.glo ("law" : Str)).ok K = true := by
  have hx := (He.ba (saysQ_ex c)).2
  exact hx
theorem erB : ∀ e ∈ er, ErrB e := by
  intro e h
  simp only [er, List.mem_cons, List.not_mem_nil, or_false] at h
  rcases h with rfl | rfl | rfl | rfl | rfl | rfl | rfl | rfl | rfl | rfl | rfl | rfl | rfl | rfl | rfl | rfl | rfl | rfl | rfl | rfl | rfl | rfl | rfl | rfl | rfl | rfl
  · exact eb0
  · exact eb1
  · exact eb2
  · exact eb3
  · exact eb4
  · exact eb5
  · exact eb6
  · exact eb7
  · exact eb8
  · exact eb9
  · exact eb10
  · exact eb11
  · exact eb12
  · exact eb13
  · exact eb14
  · exact eb15
  · exact eb16
  · exact eb17
  · exact eb18
  · exact eb19
  · exact eb20
  · exact eb21
  · exact eb22
  · exact eb23
  · exact eb24
  · exact eb25
theorem facts {P : Program} {wd : World} {K : PySem.W.Frag} {h : Heap} {mg : Str → Option Value} {f : Addr} (hfile : ((P.main.file : Str) == Q.file) = true) (htop : (P.main.scope.names.lookup ("super" : Str)).isSome = false) (X : K.In h) (G : h.Ns mainGlobals mg) (hfa : mg ("law" : Str) = some (.ref f)) (c : obsQ ex fn er ts K = valQ fn er ts wd) :
    ∃ fd : FuncData, (∀ (s : Shared) (v : Value), BindsTo s fd ⟨[v], []⟩ [("_law_script", v)]) ∧ ∀ base : Heap, FnOk P wd K mg base (L2N.CX P wd) 41 f fd ["_law_script"] (spF (wK K) 1 (C 10 "law")) := by
  obtain ⟨fd, F⟩ := saysQ_def c (d := q8.a) (by simp only [fn, List.mem_cons, true_or, or_true])
  have CH : Q.Chk K := QTab.chk_ok (He.ba (saysQ_ex c)).1
  have hd := defsAt c
  have hf : mg ("law" : Str) = some (.ref (q8.at_ K)) := He.glo_ok X G (lawGlo c)
  have e := hfa.symm.trans hf
  cases e
  have b := FunD.bindsA (ps := ["_law_script"]) F fun _ _ _ _ _ _ us hl => match us, hl with | [_], _ => rfl
  refine ⟨fd, fun s v => b s [v] rfl, fun base => ?_⟩
  have TO : TabOk Q.T (wK K) ⟨P, wd, mg, base⟩ := QTab.tabOk X G CH (fun c' kvs e => by
    cases e)
   (fun x e h => by
    obtain ⟨c1, c2⟩ := He.ba (all_at CH.err (lk_mem h))
    have hm : e ∈ er := List.mem_map_of_mem (f := Prod.snd) (lk_mem h)
    have ex := errAt_of (P := P) (wd := wd) (base := base) X G (erB e hm) c2 (saysQ_err c hm) hfile htop (He.free_ok X G (all_at CH.free (a := ("super" : Str)) (by decide +kernel))) (by decide +kernel)
    have e1 : e.c = x := of_decide_eq_true c1
    rw [e1] at ex
    exact ex)
  exact (sem_fn (g := ⟨P, wd, mg, base⟩) (nf := 40) TO (QTab.fnFit X G CH hd) (QTab.clsFit CH hd) scFn 9).2 "law" _ _ fd _ _ rfl F
end K73
open PySem PySem.W PySem.Calls PyProof.Rows
theorem PySem.Challenge.cw_stillsides_k73_errors_by_themselves_holds : PySem.Challenge.rw_stillsides_k73_errors_by_themselves.Holds := by
  w_on; o_law
  refine HandSHeadRun.head_any (r := OpenLaw.row PySem.Challenge.rw_stillsides_k73_errors_by_themselves) (q := view (OpenLaw.row PySem.Challenge.rw_stillsides_k73_errors_by_themselves).prog [38]) (H := K73.hk) (ob := K73.ob) (M := K73.stepsM) (loose := K73.loose) (d := HandSHeadRun.topDef (OpenLaw.row PySem.Challenge.rw_stillsides_k73_errors_by_themselves).prog 38) (kwd := []) K73.ob_eq
    (by kernel_rfl) (fun s => by kernel_rfl) K73.run (by kernel_rfl) (by kernel_rfl) (by kernel_rfl) (by rfl) (by first | assumption | decide +kernel) (by decide +kernel) ⟨rfl, rfl, rfl, rfl, rfl, by decide +kernel⟩ ?hw ?hc
  case hw => w_witness2
  case hc =>
    refine L2.walk_ofE (l := PySem.Challenge.rw_stillsides_k73_errors_by_themselves) (n := 63) (k := 41) (x := "_law_script") (CX := PD.CXany (PySem.Challenge.rw_stillsides_k73_errors_by_themselves).prog) rfl (by decide) (by kernel_rfl) ⟨rfl, by decide, by decide⟩ ?F ?CX
    case F =>
      intro w mg fa h Y G hmg0
      obtain ⟨K, KX, c⟩ := Y
      have hmg : mg ("law" : PySem.Str) = some (.ref fa) := by
        have e : (HandSHeadRun.topDef (OpenLaw.row PySem.Challenge.rw_stillsides_k73_errors_by_themselves).prog 38).name = ("law" : PySem.Str) := by kernel_rfl
        rw [← e]
        exact hmg0
      obtain ⟨fd, hb, hF⟩ := K73.facts (P := (PySem.Challenge.rw_stillsides_k73_errors_by_themselves).prog) (wd := w) (by kernel_rfl) (by kernel_rfl) KX G hmg c
      refine ⟨K, fd, _, KX, hb, fun H a ns hl _ hS => ?_, fun base h1 h2 => PD.FnOk.any (hF base)⟩
      have hz : ns.length ≤ PySem.sizeLine := Nat.le_trans hl (by decide)
      obtain ⟨S, e⟩ := K73.law_D ns hl
      exact PD.law_sp K rfl (fun _ h => by cases h) ⟨a, ns, rfl, hS, hz, fun _ => rfl, false, S, e⟩
    case CX => exact fun H s e s' h => PD.CXany.no h

