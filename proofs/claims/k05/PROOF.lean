import PyProof.Rows.All
import HandS.HeadHook1
import HandS.HeadHook2
import HandS.ExcIs
import HandS.ExcInit
import KE.KSuper
import KE.KExcInit
import Open.Row
import KE.IntText
import Wide.All
import OpenK.AllK
import Wide.FinOn
import KE.KDictKeyed
import KE.KeyNested
import HandS.ForMost
import HandS.Exc
import HandS.TupAny
import HandS.TupMul
import HandS.Conv
import HandS.Iter
import HandS.Style
import KE.DataEq
import KE.DataCmp
import HandS.Text
import HandS.TupLen
import KE.KEqNest
import KE.SortData
import KE.DataMinMax
import KE.DataFind
import HandS.Deep
import HandS.SortOrd
import HandS.Strs
import PyProof.Claim2Refuses
import HandS.ExcOwn
import HandS.IsInst
import HandS.Comp
import HandS.Walk
import KE.KDictWalk
import HandS.SetFor
import HandS.TupSets
import PyProof.Rows.TupDisplay
import KE.KDictSum
import KE.KDictCopyH
import KE.GoesMore
import KE.KDictPairs
import PyProof.ListRange
import PyProof.Rows.Range3
import PyProof.TupleOfSeq
import KE.KExcSuper
import HandS.ExcField
import HandS.CallSlots
import HandS.Defaults
import HandS.Head0
import HandS.Head1
import HandS.Head2
import HandS.HeadEnd
import PySem.Challenge.RW_heapbooks_k05_known_books
set_option Elab.async false
set_option linter.all false
set_option autoImplicit false
set_option maxRecDepth 100000
set_option maxHeartbeats 0
namespace Hb
open PySem PySem.Spec PyProof.Rows L2
/-! ### the head's facts, exceptions' classes too -/
def isxB (c cc : Nat) : Bool := decide (c = cc) || decide (cc = 0)
def exBb (K : PySem.W.Frag) (A : Addr) : Bool := PySem.W.excIn K A PySem.HandSPX.veTail "ValueError.__new__" && (PySem.W.keepIn K (.ref A) && (decide (PySem.W.subIn K (.ref A) (.type "BaseException") = some true) && (decide (PySem.W.typeIn K (.ref A) = some (.type "type")) &&
  (He.eqO (PySem.W.findIn K (.ref A) "__getattribute__") (some (some (.builtin "BaseException.__getattribute__"))) && (He.eqO (PySem.W.findIn K (.ref A) "__getattr__") (some none) && (PySem.W.hasDictIn K A && (He.eqO (PySem.W.findIn K (.ref A) "__class__") (some (some (.builtin "object.__class__"))) &&
  (He.eqO (PySem.W.specialIn K (.builtin "object.__class__") "__get__") (some (some (.builtin "getset_descriptor.__get__"))) && (decide (PySem.W.takesIn K (.builtin "object.__class__") = some true) && decide (PySem.W.mroIn K A (.type "object") = some true))))))))))
/-! ### classes with one field: super().__init__(f); self.f = f -/
abbrev iScope (f : Str) : Scope := { kind := .function, names := [("self", .local), (f, .local), ("__class__", .free), ("super", .globalImplicit)], isGenerator := false, isCoroutine := false, more := [] }
abbrev iParams (f : Str) (pa pb : Pos) : Arguments := { posonlyargs := [], args := [{ arg := "self", annotation := none, pos := pa }, { arg := f, annotation := none, pos := pb }], vararg := none, kwonlyargs := [], kw_defaults := [], kwarg := none, defaults := [] }
abbrev iBody (f : Str) (p0 p1 p2 p3 p4 p5 p6 p7 p8 p9 : Pos) : List Stmt := [.Expr (.Call (.Attribute (.Call (.Name "super" p0) [] [] p1) "__init__" p2) [.Name f p3] [] p4) p5, .Assign [.Attribute (.Name "self" p6) f p7] (.Name f p8) p9]
structure Fc where
  x : Str
  c : Nat
  f : Str
  qual : Str
  pa : Pos
  pb : Pos
  p0 : Pos
  p1 : Pos
  p2 : Pos
  p3 : Pos
  p4 : Pos
  p5 : Pos
  p6 : Pos
  p7 : Pos
  p8 : Pos
  p9 : Pos
abbrev FnI : Type := Option (Str × Str × Arguments × FuncBody × Scope × Addr × List Str × Addr)
def inA (K : PySem.W.Frag) (A : Addr) : Addr := match PySem.W.findIn K (.ref A) "__init__" with
  | some (some (.ref fI)) => fI
  | _ => 0
def fnI (K : PySem.W.Frag) (fI : Addr) : FnI := match K.lookup fI with
  | some ⟨_, _, .func fd, _⟩ => some (fd.name, fd.qualname, fd.params, fd.body, fd.scope, fd.globals, fd.closure.map (·.1), fd.builtins)
  | _ => none
def Fc.val (k : Fc) : FnI := some ("__init__", k.qual, iParams k.f k.pa k.pb, .stmts (iBody k.f k.p0 k.p1 k.p2 k.p3 k.p4 k.p5 k.p6 k.p7 k.p8 k.p9), iScope k.f, mainGlobals, ["__class__"], builtinsNs)
def oexB (K : PySem.W.Frag) (C : Addr) : Bool := match K.lookup C with
  | some ⟨.type "type", _, .cls cd, sl⟩ => (match cd.mro, sl.toList with
    | .ref C' :: bm, [_, _, _, _, some (.builtin n), _] => C' == C && n == "ValueError.__new__" && !cd.hasDel && cd.hasDict && PySem.HandSPX.refsVE bm
    | _, _ => false)
  | _ => false
def fileB (file : Str) (vs : Array Value) : Bool := match (vs[2]? : Option Value) with
  | some (Value.str fl _) => file == fl
  | _ => false
def codeB (file : Str) (K : PySem.W.Frag) (A : Addr) (k : Fc) : Bool := match K.lookup (inA K A) with
  | some ⟨_, _, .func fd, _⟩ => (match fd.defaults with | .none => true | _ => false) && ((match fd.code with
      | .ref cda => PySem.W.codeIn K (.ref cda) k.qual && (match K.lookup cda with
        | some ⟨_, _, .fields vs, _⟩ => fileB file vs
        | _ => false)
      | _ => false) && (match fd.closure with
      | [(_, cc)] => (match K.lookup cc with
        | some ⟨_, _, .cell (some (.ref C')), _⟩ => C' == A
        | _ => false)
      | _ => false))
  | _ => false
def excCb (K : PySem.W.Frag) (A : Addr) : Bool := He.eqO (PySem.W.findIn K (.ref A) "__getattribute__") (some (some (.builtin "BaseException.__getattribute__"))) && (He.eqO (PySem.W.findIn K (.ref A) "__getattr__") (some none) && (PySem.W.hasDictIn K A && (He.eqO (PySem.W.findIn K (.ref A) "__class__") (some (some (.builtin "object.__class__"))) &&
  (He.eqO (PySem.W.specialIn K (.builtin "object.__class__") "__get__") (some (some (.builtin "getset_descriptor.__get__"))) && (decide (PySem.W.takesIn K (.builtin "object.__class__") = some true) && decide (PySem.W.mroIn K A (.type "object") = some true))))))
def fldB (f : Str) : Bool := f == ("index" : Str) || (f == ("most" : Str) || f == ("place" : Str))
def fcB (file : Str) (K : PySem.W.Frag) (A : Addr) (k : Fc) : Bool := oexB K A && (He.eqO (PySem.W.findIn K (.ref A) "__setattr__") (some (some (.builtin "object.__setattr__"))) && (decide (PySem.W.subIn K (.ref A) (.type "BaseException") = some true) && (decide (PySem.W.typeIn K (.ref A) = some (.type "type")) && (PySem.W.keepIn K (.ref A) &&
  (He.eqO (PySem.W.findIn K (.ref A) "__init__") (some (some (.ref (inA K A)))) && (decide (PySem.W.typeIn K (.ref (inA K A)) = some (.type "function")) && (k.p2.endLine == k.p4.line && (codeB file K A k && (decide (PySem.W.mroIn K A (.ref A) = some true) &&
  (He.eqO (PySem.W.nsIn K cStatics "thirdparty.any") (some none) && (He.eqO (PySem.W.ks_superIn K A A "__init__") (some (some (.builtin "ValueError.__init__"))) && (decide (PySem.W.subIn K (.ref A) (.type "ValueError") = some true) && (PySem.W.excInitIn K A PySem.HandSPX.veTail "ValueError.__new__" &&
  (He.eqO (PySem.W.findIn K (.ref A) k.f) (some none) && (fldB k.f && excCb K A)))))))))))))))
def xnm (xs : List (Str × Nat)) (c : Nat) : Str := match xs.find? fun p => decide (p.2 = c) with
  | some p => p.1
  | none => Str.empty
/-- all classes by their names -/
def xall (xs : List (Str × Nat)) (fs : List Fc) : List (Str × Nat) := xs ++ fs.map fun k => (k.x, k.c)
def exA (xs : List (Str × Nat)) (fs : List Fc) (file : Str) (K : PySem.W.Frag) : Bool := ((xall xs fs).all fun p => decide (xnm (xall xs fs) p.2 = p.1) && He.eqO (PySem.W.nsIn K mainGlobals p.1) (some (some (.ref (He.ga K p.1))))) &&
  ((xs.all fun p => exBb K (He.ga K p.1) && fs.all fun k => !(p.2 == k.c)) && ((fs.all fun k => fcB file K (He.ga K k.x) k && (!(k.c == 0) && He.eqO (PySem.W.nsIn K mainGlobals "super") (some none))) &&
  (xall xs fs).all fun p => (xall xs fs).all fun q => decide (PySem.W.kitOne K (.ref (He.ga K p.1)) (.ref (He.ga K q.1)) = some (isxB p.2 q.2)) && decide (PySem.W.exmOne K (.ref (He.ga K p.1)) (.ref (He.ga K q.1)) = some (isxB p.2 q.2))))
abbrev AlF : Type := He.AlD × List FnI
def obsE (xs : List (Str × Nat)) (fs : List Fc) (file : Str) (fa : List He.Fa) (fn : List He.DefD) (K : PySem.W.Frag) : AlF := ((exA xs fs file K && (He.obsD fa fn K).1, (He.obsD fa fn K).2), fs.map fun k => fnI K (inA K (He.ga K k.x)))
def valE (fs : List Fc) (fn : List He.DefD) : AlF := (He.valD fn, fs.map Fc.val)
def SaysE (xs : List (Str × Nat)) (fs : List Fc) (file : Str) (fa : List He.Fa) (fn : List He.DefD) (K : PySem.W.Frag) : Prop := obsE xs fs file fa fn K = valE fs fn
theorem SaysE.d {xs : List (Str × Nat)} {fs : List Fc} {file : Str} {fa : List He.Fa} {fn : List He.DefD} {K : PySem.W.Frag} (c : SaysE xs fs file fa fn K) : He.SaysD fa fn K ∧ exA xs fs file K = true ∧ fs.map (fun k => fnI K (inA K (He.ga K k.x))) = fs.map Fc.val := by
  have c0 : obsE xs fs file fa fn K = valE fs fn := c
  have c1 : (obsE xs fs file fa fn K).1.1 = true := by rw [c0]; rfl
  have c2 : (obsE xs fs file fa fn K).1.2 = (He.valD fn).2 := by rw [c0]; rfl
  have c3 : (obsE xs fs file fa fn K).2 = fs.map Fc.val := by rw [c0]; rfl
  obtain ⟨a, b⟩ := (Bool.and_eq_true _ _).mp (show (exA xs fs file K && (He.obsD fa fn K).1) = true from c1)
  exact ⟨Prod.ext b c2, a, c3⟩
def obsEG (n : Nat) (xs : List (Str × Nat)) (fs : List Fc) (file : Str) (fa : List He.Fa) (fn : List He.DefD) (g : Addr → Option Obj) : AlF := obsE xs fs file fa fn (He.frG g (PySem.cStatics :: He.asD g n))
def hookE (n : Nat) (xs : List (Str × Nat)) (fs : List Fc) (file : Str) (fa : List He.Fa) (fn : List He.DefD) : PySem.W.Hook where
  α := AlF
  obs := fun s => obsEG n xs fs file fa fn s.heap.get?
  val := fun _ => valE fs fn
  says := fun _ h => ∃ K : PySem.W.Frag, K.In h ∧ SaysE xs fs file fa fn K
  of := fun _ _ e => ⟨_, He.frG_in, e⟩
  keeps := fun _ _ _ ⟨K, hK, c⟩ k => ⟨K, PySem.W.Frag.In.keeps hK k, c⟩
theorem obsEG_eq {n : Nat} {xs : List (Str × Nat)} {fs : List Fc} {file : Str} {fa : List He.Fa} {fn : List He.DefD} {g : Addr → Option Obj} {s : Shared} (h : ∀ a, g a = s.heap.get? a) : obsEG n xs fs file fa fn g = (hookE n xs fs file fa fn).obs s := by
  have e : g = s.heap.get? := funext h
  rw [e] <;> rfl
end Hb
namespace Law0
open PySem PySem.Spec PyProof.Rows L2
def top (i : Nat) : Stmt := PySem.Challenge.pw_heapbooks_k05_known_books.main.body.getD i (.Pass ⟨0, 0, 0, 0⟩)
def msub (s : Stmt) (j : Nat) : Stmt := match s with
  | .ClassDef _ _ _ b _ _ _ _ _ _ _ => b.getD j (.Pass ⟨0, 0, 0, 0⟩)
  | _ => .Pass ⟨0, 0, 0, 0⟩
def fn0 : List He.DefD := [⟨("is_in", none), "is_in", "is_in", defArgs (top 7), defBody (top 7), defScope (top 7), [], []⟩, ⟨("is_row", none), "is_row", "is_row", defArgs (top 10), defBody (top 10), defScope (top 10), [], []⟩, ⟨("need_book", none), "need_book", "need_book", defArgs (top 11), defBody (top 11), defScope (top 11), [], []⟩, ⟨("reduced_in", none), "reduced_in", "reduced_in", defArgs (top 12), defBody (top 12), defScope (top 12), [], []⟩, ⟨("reduced", none), "reduced", "reduced", defArgs (top 13), defBody (top 13), defScope (top 13), [], []⟩, ⟨("alike", none), "alike", "alike", defArgs (top 14), defBody (top 14), defScope (top 14), [], []⟩, ⟨("mirrored", none), "mirrored", "mirrored", defArgs (top 15), defBody (top 15), defScope (top 15), [], []⟩, ⟨("backward", none), "backward", "backward", defArgs (top 16), defBody (top 16), defScope (top 16), [], []⟩, ⟨("need_roofs", none), "need_roofs", "need_roofs", defArgs (top 17), defBody (top 17), defScope (top 17), [], []⟩, ⟨("met", none), "met", "met", defArgs (top 18), defBody (top 18), defScope (top 18), [], []⟩, ⟨("joined", none), "joined", "joined", defArgs (top 19), defBody (top 19), defScope (top 19), [], []⟩, ⟨("is_within", none), "is_within", "is_within", defArgs (top 20), defBody (top 20), defScope (top 20), [], []⟩, ⟨("lets", none), "lets", "lets", defArgs (top 21), defBody (top 21), defScope (top 21), [], []⟩, ⟨("write_book", none), "write_book", "write_book", defArgs (top 24), defBody (top 24), defScope (top 24), [], []⟩, ⟨("Reader", some "sign"), "sign", "Reader.sign", defArgs (msub (top 25) 1), defBody (msub (top 25) 1), defScope (msub (top 25) 1), [], []⟩, ⟨("Reader", some "skip"), "skip", "Reader.skip", defArgs (msub (top 25) 2), defBody (msub (top 25) 2), defScope (msub (top 25) 2), [], []⟩, ⟨("Reader", some "take"), "take", "Reader.take", defArgs (msub (top 25) 3), defBody (msub (top 25) 3), defScope (msub (top 25) 3), [], []⟩, ⟨("Reader", some "number"), "number", "Reader.number", defArgs (msub (top 25) 4), defBody (msub (top 25) 4), defScope (msub (top 25) 4), [], []⟩, ⟨("Reader", some "row"), "row", "Reader.row", defArgs (msub (top 25) 5), defBody (msub (top 25) 5), defScope (msub (top 25) 5), [], []⟩, ⟨("read_book", none), "read_book", "read_book", defArgs (top 26), defBody (top 26), defScope (top 26), [], []⟩, ⟨("need_pair", none), "need_pair", "need_pair", defArgs (top 28), defBody (top 28), defScope (top 28), [], []⟩, ⟨("need_two", none), "need_two", "need_two", defArgs (top 29), defBody (top 29), defScope (top 29), [], []⟩, ⟨("all_pairs", none), "all_pairs", "all_pairs", defArgs (top 30), defBody (top 30), defScope (top 30), [], []⟩, ⟨("behind", none), "behind", "behind", defArgs (top 31), defBody (top 31), defScope (top 31), [], []⟩, ⟨("deeds_in", none), "deeds_in", "deeds_in", defArgs (top 32), defBody (top 32), defScope (top 32), [], []⟩, ⟨("two_deeds", none), "two_deeds", "two_deeds", defArgs (top 33), defBody (top 33), defScope (top 33), [], []⟩, ⟨("from_in", none), "from_in", "from_in", defArgs (top 34), defBody (top 34), defScope (top 34), [], []⟩, ⟨("two_come", none), "two_come", "two_come", defArgs (top 35), defBody (top 35), defScope (top 35), [], []⟩, ⟨("two_fewest", none), "two_fewest", "two_fewest", defArgs (top 36), defBody (top 36), defScope (top 36), [], []⟩, ⟨("off", none), "off", "off", defArgs (top 37), defBody (top 37), defScope (top 37), [], []⟩, ⟨("crooked_in", none), "crooked_in", "crooked_in", defArgs (top 38), defBody (top 38), defScope (top 38), [], []⟩, ⟨("crooked", none), "crooked", "crooked", defArgs (top 39), defBody (top 39), defScope (top 39), [], []⟩, ⟨("is_straight", none), "is_straight", "is_straight", defArgs (top 40), defBody (top 40), defScope (top 40), [], []⟩, ⟨("table_in", none), "table_in", "table_in", defArgs (top 41), defBody (top 41), defScope (top 41), [], []⟩, ⟨("same_table", none), "same_table", "same_table", defArgs (top 42), defBody (top 42), defScope (top 42), [], []⟩, ⟨("two_lots", none), "two_lots", "two_lots", defArgs (top 43), defBody (top 43), defScope (top 43), [], []⟩, ⟨("_law_alike", none), "_law_alike", "_law_alike", defArgs (top 45), defBody (top 45), defScope (top 45), [], []⟩, ⟨("law", none), "law", "law", defArgs (top 46), defBody (top 46), defScope (top 46), [], []⟩, ⟨("Reader", some "__init__"), "__init__", "Reader.__init__", defArgs (msub (top 25) 0), defBody (msub (top 25) 0), defScope (msub (top 25) 0), [], []⟩]
def fas0 : List He.Fa := [.glo "is_in", .glo "is_row", .glo "need_book", .glo "reduced_in", .glo "reduced", .glo "alike", .glo "mirrored", .glo "backward", .glo "need_roofs", .glo "met", .glo "joined", .glo "is_within", .glo "lets", .glo "write_book", .meth "Reader" "sign", .meth "Reader" "skip", .meth "Reader" "take", .meth "Reader" "number", .meth "Reader" "row", .glo "read_book", .glo "need_pair", .glo "need_two", .glo "all_pairs", .glo "behind", .glo "deeds_in", .glo "two_deeds", .glo "from_in", .glo "two_come", .glo "two_fewest", .glo "off", .glo "crooked_in", .glo "crooked", .glo "is_straight", .glo "table_in", .glo "same_table", .glo "two_lots", .glo "_law_alike", .glo "law", .int "MOST_ROOF" 4, .str "DIGITS" ⟨#[48, 49, 50, 51, 52]⟩, .free "len", .free "tuple", .free "list", .free "sorted", .free "set", .free "abs", .free "dict", .free "int", .free "str", .free "range", .free "isinstance", .free "bool", .glo "Reader", .cls "Reader", .noat "Reader" "text", .noat "Reader" "at", .mkr "Reader"]
def xs0 : List (Str × Nat) := []
def fcOf (s : Stmt) (c : Nat) (qual : Str) : Hb.Fc := match s with
  | .ClassDef x _ _ [.FunctionDef _ a [.Expr (.Call (.Attribute (.Call (.Name _ p0) [] [] p1) _ p2) [.Name f p3] [] p4) p5, .Assign [.Attribute (.Name _ p6) _ p7] (.Name _ p8) p9] _ _ _ _ _ _ _] _ _ _ _ _ _ _ => (match a.args with
    | [u, v] => ⟨x, c, f, qual, u.pos, v.pos, p0, p1, p2, p3, p4, p5, p6, p7, p8, p9⟩
    | _ => ⟨x, c, f, qual, p0, p0, p0, p1, p2, p3, p4, p5, p6, p7, p8, p9⟩)
  | _ => ⟨qual, c, qual, qual, ⟨0, 0, 0, 0⟩, ⟨0, 0, 0, 0⟩, ⟨0, 0, 0, 0⟩, ⟨0, 0, 0, 0⟩, ⟨0, 0, 0, 0⟩, ⟨0, 0, 0, 0⟩, ⟨0, 0, 0, 0⟩, ⟨0, 0, 0, 0⟩, ⟨0, 0, 0, 0⟩, ⟨0, 0, 0, 0⟩, ⟨0, 0, 0, 0⟩, ⟨0, 0, 0, 0⟩⟩
def fs0 : List Hb.Fc := []
def file0 : Str := PySem.Challenge.pw_heapbooks_k05_known_books.main.file
def loose0 : List Str := ["BookError", "BadBook", "BadPair", "NotText", "InvalidText", "is_in", "MOST_ROOF", "is_row", "need_book", "reduced_in", "reduced", "alike", "mirrored", "backward", "need_roofs", "met", "joined", "is_within", "lets", "DIGITS", "write_book", "Reader", "read_book", "need_pair", "need_two"]
def loose1 : List Str := ["all_pairs", "behind", "deeds_in", "two_deeds", "from_in", "two_come", "two_fewest", "off", "crooked_in", "crooked", "is_straight", "table_in", "same_table", "two_lots", "_law_alike"]
def loose : List Str := loose0 ++ loose1
abbrev R : PySem.W.OpenRow := PySem.W.OpenLaw.row PySem.Challenge.rw_heapbooks_k05_known_books
abbrev hk0 : PySem.W.Hook := Hb.hookE 4 xs0 fs0 file0 fas0 fn0
def ob0 (s : PySem.W.SharedT) : Hb.AlF := Hb.obsEG 4 xs0 fs0 file0 fas0 fn0 (HandSHeadRun.getT s)
theorem run0 (w : World) : HandSHeadRun.RunEq R (PySem.W.view R.prog [46]) hk0 ob0 6000 loose w := by
  intro os
  kernel_rfl
theorem run_of (xs : List (Str × Nat)) (fs : List Hb.Fc) (file : Str) (fas : List He.Fa) (fn : List He.DefD) (e0 : xs = xs0) (e3 : fs = fs0) (e4 : file = file0) (e1 : fas = fas0) (e2 : fn = fn0) (w : World) : HandSHeadRun.RunEq R (PySem.W.view R.prog [46]) (Hb.hookE 4 xs fs file fas fn) (fun s => Hb.obsEG 4 xs fs file fas fn (HandSHeadRun.getT s)) 6000 loose w := by
  subst e0 e1 e2 e3 e4
  exact run0 w
end Law0

namespace Hb
open PySem (Str)

/-- data of the pure evaluator -/
inductive D where
  | non | bl (b : Bool) | int (i : Int) | str (x : Str)
  | tup (xs : List D) | lst (xs : List D) | dct (kvs : List (D × D))
  | fn (f : Nat)
  | exc (c : Nat) (fld : D)
  | row | scr (xs : List Int)
  | memo
  | rdr (n : Nat)
deriving Inhabited

inductive Pat where
  | nm (i : Nat) | tp (ps : List Pat)
inductive BOp where
  | add | sub | mul | fdiv | mod | pow
inductive COp where
  | eq | ne | lt | le | gt | ge | is_ | isnot | in_ | notin
inductive Kd where
  | int | bool | str | tuple | list
inductive P1 where
  | len | tuple | list | sorted | sset | sum | min | max | abs | dict | int | str | skeys | svals | lvals | mxvals | rev
inductive P2 where
  | min | max | count | index | join

mutual
inductive E where
  | var (i : Nat)
  | cst (d : D)
  | glob (g : Nat)
  | fnv (f : Nat)
  | tup (es : List E) | lst (es : List E) | dct (kvs : List (E × E))
  | bin (op : BOp) (a b : E) | neg (a : E) | not_ (a : E)
  | and_ (es : List E) | or_ (es : List E) | ite (c a b : E)
  | cmp (op : COp) (a b : E) | cmp2 (op op' : COp) (a b c : E)
  | idx (a b : E) | slc (a : E) (lo hi : Option E)
  | call (f : Nat) (es : List E) | callv (e : E) (es : List E)
  | p1 (p : P1) (a : E) | p2 (p : P2) (a b : E) | getd (a : E) (es : List E) | mt (p : P2) (a b : E)
  | lrng (es : List E) | trng (es : List E)
  | isa (a : E) (ks : List Kd) | isx (a : E) (cs : List Nat)
  | lc (elt : E) (p : Pat) (it : I) (cond : Option E)
  | fld (a : E) (n : Nat)
  | mkm
  | mkrd (a : E)
  | rdf (a : E) (t : Bool)
  | mth (f : Nat) (o : E) (es : List E)
inductive I where
  | val (e : E) | rng (es : List E) | keys (e : E) | vals (e : E) | enm (e : E)
end

/-- own: the name keeps what is new; pat: what comes is never changed again -/
inductive Tgt where
  | own (i : Nat) | pat (p : Pat) | sub (x : Nat) (k : E)
/-- what stands in an except suite: j = a if it is of class cc else b; if it is not: return v -/
inductive HS where
  | asg (j cc : Nat) (a b : Str)
  | ifn (cc : Nat) (v : Bool)
  | fld (j cc : Nat) (b : Str)
inductive S where
  | inc (e : E)
  | tr (b : S) (i : Nat) (h : HS)
  | asg (t : Tgt) (e : E)
  | asgs (ts : List Tgt) (es : List E)
  | app (x : Nat) (e : E)
  | aug (x : Nat) (op : BOp) (e : E)
  | ex (e : E)
  | ret (e : E)
  | if_ (c : E) (a b : List S)
  | while_ (c : E) (b : List S)
  | for_ (p : Pat) (it : I) (b : List S)
  | raise (c : Nat) (a : Option E)
  | try_ (b : List S) (c : Nat) (x : Option Nat) (h : List S)
  | frz (x : Nat)
  | mkrow (x : Nat) (es : List E)
  | pass
  | stop

structure Fn where
  np : Nat
  nl : Nat
  body : List S

structure Prog where
  fn : Nat → Option Fn
  cst : Nat → Option D

/-! ### equality, order -/
mutual
def D.eqv : D → D → Bool
  | .non, .non => true
  | .bl a, .bl b => a == b
  | .bl a, .int j => (if a then 1 else 0) == j
  | .int i, .bl b => i == (if b then 1 else 0)
  | .int i, .int j => i == j
  | .str x, .str y => x == y
  | .lst xs, .lst ys => D.eqvs xs ys
  | .tup xs, .tup ys => D.eqvs xs ys
  | .dct xs, .dct ys => xs.length == ys.length && D.eqvd xs ys
  | _, _ => false
termination_by structural x => x
def D.eqvs : List D → List D → Bool
  | [], [] => true
  | x :: xs, y :: ys => D.eqv x y && D.eqvs xs ys
  | _, _ => false
termination_by structural x => x
def D.eqvd : List (D × D) → List (D × D) → Bool
  | [], _ => true
  | p :: xs, ys => D.eqvp p ys && D.eqvd xs ys
termination_by structural x => x
def D.eqvp : D × D → List (D × D) → Bool
  | (k, v), ys => ys.any fun q => D.eqv k q.1 && D.eqv v q.2
termination_by structural x => x
end

mutual
def D.lt : D → D → Bool
  | .bl a, .bl b => !a && b
  | .int i, .int j => decide (i < j)
  | .str x, .str y => decide (x.cps.toList < y.cps.toList)
  | .lst xs, .lst ys => D.lts xs ys
  | .tup xs, .tup ys => D.lts xs ys
  | _, _ => false
termination_by structural x => x
def D.lts : List D → List D → Bool
  | [], [] => false
  | [], _ :: _ => true
  | _ :: _, [] => false
  | x :: xs, y :: ys => if D.eqv x y then D.lts xs ys else D.lt x y
termination_by structural x => x
end

/-- the shape of what can be compared: 0 int, 1 bool, 2 text, 3 row of nums, .. -/
inductive Sh where
  | bad | int | bl | str | nums | tup (xs : List Sh)
deriving Inhabited
mutual
def Sh.beq : Sh → Sh → Bool
  | .int, .int => true | .bl, .bl => true | .str, .str => true | .nums, .nums => true
  | .tup xs, .tup ys => Sh.beqs xs ys
  | _, _ => false
def Sh.beqs : List Sh → List Sh → Bool
  | [], [] => true
  | x :: xs, y :: ys => Sh.beq x y && Sh.beqs xs ys
  | _, _ => false
end
def D.isInt : D → Bool
  | .int _ => true
  | _ => false
mutual
def D.sh : D → Sh
  | .int _ => .int
  | .bl _ => .bl
  | .str _ => .str
  | .tup xs => if xs.isEmpty then .bad else if xs.all D.isInt then .nums else .tup (D.shs xs)
  | _ => .bad
def D.shs : List D → List Sh
  | [] => []
  | x :: xs => D.sh x :: D.shs xs
end
def insD (x : D) : List D → List D
  | [] => [x]
  | y :: r => if D.lt y x then y :: insD x r else x :: y :: r
def sortD : List D → List D
  | [] => []
  | x :: r => insD x (sortD r)

def sizeMax : Nat := 16777216

/-! ### dicts -/
def dget : List (D × D) → D → Option D
  | [], _ => none
  | (k, v) :: r, x => if D.eqv k x then some v else dget r x
def dput : List (D × D) → D → D → List (D × D)
  | [], x, y => [(x, y)]
  | (k, v) :: r, x, y => if D.eqv k x then (k, y) :: r else (k, v) :: dput r x y
mutual
/-- what may be a key -/
def D.key : D → Bool
  | .non => true | .bl _ => true | .int _ => true | .str _ => true
  | .tup xs => D.keys xs
  | _ => false
def D.keys : List D → Bool
  | [] => true
  | x :: xs => D.key x && D.keys xs
end
mutual
def D.dep : D → Nat
  | .tup xs => D.deps xs + 1
  | _ => 0
def D.deps : List D → Nat
  | [] => 0
  | x :: xs => max (D.dep x) (D.deps xs)
end
/-- a tuple as a key; a number or text as a key -/
def D.tkey : D → Bool
  | .tup xs => D.keys xs && decide (D.dep (.tup xs) ≤ 8)
  | _ => false
def D.skey : D → Bool
  | .int _ => true | .str _ => true
  | _ => false
/-- does the key suit the dict -/
def kOk (kvs : List (D × D)) (k : D) : Bool := match kvs with
  | [] => k.tkey || k.skey
  | p :: _ => (k.tkey && p.1.tkey) || (k.skey && p.1.skey)
mutual
/-- what == may ask: no functions, no dicts, n levels at most -/
def D.plainN : Nat → D → Bool
  | _, .non => true | _, .bl _ => true | _, .int _ => true | _, .str _ => true
  | 0, _ => false
  | n + 1, .tup xs => D.plainsN n xs
  | n + 1, .lst xs => D.plainsN n xs
  | _, _ => false
termination_by structural _ x => x
def D.plainsN : Nat → List D → Bool
  | _, [] => true
  | n, x :: xs => D.plainN n x && D.plainsN n xs
termination_by structural _ x => x
end
def D.plain (d : D) : Bool := D.plainN 40 d
def D.plains (ds : List D) : Bool := D.plainsN 39 ds
/-- can they be sorted: plain, all of one shape -/
def oneShape : List D → Bool
  | [] => true
  | x :: r => Sh.beq x.sh x.sh && r.all fun y => Sh.beq x.sh y.sh
def sortable (xs : List D) : Bool := D.plains xs && (oneShape xs || decide (xs.length ≤ 1))

/-! ### the monad -/
structure St where
  row : Option (List D) := none
  memo : Option (List (D × D)) := none
  rds : List (Str × Int) := []
inductive Out (α : Type) where
  | ok (a : α) (s : St)
  | exc (c : Nat) (fld : D) (s : St)
  | bad
def M (α : Type) : Type := St → Out α
def M.bind {α β : Type} (m : M α) (f : α → M β) : M β := fun s => match m s with
  | .ok a s => f a s
  | .exc c d s => .exc c d s
  | .bad => .bad
instance : Monad M where
  pure a := fun s => .ok a s
  bind := M.bind
def bad {α : Type} : M α := fun _ => .bad
def need {α : Type} : Option α → M α
  | some a => pure a
  | none => bad
def guard_ (b : Bool) : M Unit := fun s => if b then .ok () s else .bad

/-- how a value stands: sh shared (never changed again), fr new and nobody else's, br an owned local's -/
inductive K where
  | sh | fr | br
abbrev Cell := Option (Bool × D)
abbrev Env := List Cell
abbrev KD := K × D
abbrev Cl := Nat → List D → M KD

def sealed : KD → M D
  | (.br, _) => bad
  | (_, d) => pure d
def theRow : M (List D) := fun s => match s.row with
  | some r => .ok r s
  | none => .bad
def setRow (r : List D) : M Unit := fun s => .ok () { s with row := some r }

def newRow (r : List D) : M Unit := fun s => match s.row with
  | none => .ok () { s with row := some r }
  | some _ => .bad

def theMemo : M (List (D × D)) := fun s => match s.memo with
  | some r => .ok r s
  | none => .bad
def setMemo (r : List (D × D)) : M Unit := fun s => .ok () { s with memo := some r }
def newMemo : M Unit := fun s => match s.memo with
  | none => .ok () { s with memo := some [] }
  | some _ => .bad

/-- the readers: a text and a place -/
def newRd (t : Str) : M D := fun s => .ok (.rdr s.rds.length) { s with rds := s.rds ++ [(t, 0)] }
def theRd (n : Nat) : M (Str × Int) := fun s => match s.rds[n]? with
  | some r => .ok r s
  | none => .bad
def incRd (n : Nat) : M Unit := fun s => match s.rds[n]? with
  | some r => .ok () { s with rds := s.rds.set n (r.1, r.2 + 1) }
  | none => .bad

def seqIx (i : Int) (n : Nat) : Option Nat :=
  if 0 ≤ i then (if i < n then some i.toNat else none) else if -(n : Int) ≤ i then some (i + n).toNat else none
def small64 (i : Int) : Bool := decide (-(2 ^ 64) < i) && decide (i < 2 ^ 64)
def repL {α : Type} (xs : List α) : Nat → List α
  | 0 => []
  | n + 1 => xs ++ repL xs n
/-- a slice's end, within the row (none: d) -/
def cutIx (n d : Nat) : Option Int → Nat
  | none => d
  | some i => if i < 0 then (i + (n : Int)).toNat else min i.toNat n
def cut {α : Type} (xs : List α) (lo hi : Option Int) : List α :=
  (xs.drop (cutIx xs.length 0 lo)).take (cutIx xs.length xs.length hi - cutIx xs.length 0 lo)

def binD : BOp → D → D → M KD
  | .add, .int i, .int j => pure (.sh, .int (i + j))
  | .add, .lst xs, .lst ys => do guard_ (decide (xs.length + ys.length ≤ sizeMax)); pure (.fr, .lst (xs ++ ys))
  | .add, .tup xs, .tup ys => do guard_ (decide (xs.length + ys.length ≤ sizeMax)); pure (.sh, .tup (xs ++ ys))
  | .add, .str x, .str y => do guard_ (decide (x.length + y.length ≤ sizeMax)); pure (.sh, .str (x ++ y))
  | .sub, .int i, .int j => pure (.sh, .int (i - j))
  | .mul, .int i, .int j => do guard_ (small64 i || small64 j); pure (.sh, .int (i * j))
  | .mul, .lst xs, .int n => do guard_ (decide (0 ≤ n) && decide (xs.length * n.toNat ≤ sizeMax) && decide (n < 2 ^ 62)); pure (.fr, .lst (repL xs n.toNat))
  | .mul, .tup xs, .int n => do guard_ (decide (-1000 ≤ n) && decide (n ≤ 1000) && decide (xs.length ≤ 1000)); pure (.sh, .tup (repL xs n.toNat))
  | .fdiv, .int i, .int j => do guard_ (decide (0 < j) && decide (j < 1073741824)); pure (.sh, .int (i / j))
  | .mod, .int i, .int j => do guard_ (decide (0 < j)); pure (.sh, .int (i % j))
  | .pow, .int i, .int j => do guard_ (decide (0 ≤ j) && decide (j ≤ 1000) && decide (i.natAbs < 2 ^ 64)); pure (.sh, .int (i ^ j.toNat))
  | _, _, _ => bad

def inD (x : D) : D → M Bool
  | .lst ys => do guard_ (x.plain && D.plains ys); pure (ys.any fun y => D.eqv y x)
  | .tup ys => do guard_ (x.plain && D.plains ys); pure (ys.any fun y => D.eqv y x)
  | .dct kvs => do guard_ (kOk kvs x); pure (dget kvs x).isSome
  | .str y => match x with
    | .str c => match c.cps.toList with
      | [k] => pure (y.cps.toList.contains k)
      | _ => bad
    | _ => bad
  | .memo => do let kvs ← theMemo; guard_ (kOk kvs x); pure (dget kvs x).isSome
  | _ => bad
def ordD (a b : D) : M Unit := guard_ (a.plain && b.plain && Sh.beq a.sh b.sh)
def eqD (a b : D) : M Bool := do
  guard_ (a.plain && b.plain)
  pure (D.eqv a b)
/-- dicts that may be compared: tuples as keys, plain values -/
def dEqOk : D → D → Bool
  | .dct xs, .dct ys => (xs.all fun p => p.1.tkey) && (ys.all fun p => p.1.tkey) && D.plains (xs.map (·.2)) && D.plains (ys.map (·.2))
  | _, _ => false
def eqE (a b : D) : M Bool := do
  guard_ ((a.plain && b.plain) || dEqOk a b)
  pure (D.eqv a b)
def isD (a b : D) : M Bool := match b with
  | .non => pure (match a with | .non => true | _ => false)
  | .bl y => match a with
    | .bl x => pure (x == y)
    | _ => bad
  | _ => bad
def cmpD : COp → D → D → M Bool
  | .eq, a, b => eqE a b
  | .ne, a, b => do let k ← eqD a b; pure (!k)
  | .lt, a, b => do ordD a b; pure (D.lt a b)
  | .gt, a, b => do ordD a b; pure (D.lt b a)
  | .le, a, b => do ordD a b; pure (!D.lt b a)
  | .ge, a, b => do ordD a b; pure (!D.lt a b)
  | .is_, a, b => isD a b
  | .isnot, a, b => do let k ← isD a b; pure (!k)
  | .in_, a, b => inD a b
  | .notin, a, b => do let k ← inD a b; pure (!k)

def idxD : D → D → M D
  | .lst xs, .int i => need ((seqIx i xs.length).bind fun k => xs[k]?)
  | .scr xs, .int i => need ((seqIx i xs.length).bind fun k => (xs[k]?).map .int)
  | .tup xs, .int i => need ((seqIx i xs.length).bind fun k => xs[k]?)
  | .dct kvs, k => do guard_ (kOk kvs k); need (dget kvs k)
  | .str x, .int i => do guard_ (decide (x.length ≤ 100000)); need ((seqIx i x.cps.toList.length).bind fun k => (x.cps.toList[k]?).map fun c => .str ⟨#[c]⟩)
  | .row, .int i => do let r ← theRow; need ((seqIx i r.length).bind fun k => r[k]?)
  | .memo, k => do let kvs ← theMemo; guard_ (kOk kvs k); need (dget kvs k)
  | _, _ => bad
def asInt : D → M Int
  | .int i => pure i
  | _ => bad
def asInt? : Option D → M (Option Int)
  | none => pure none
  | some d => do let i ← asInt d; pure (some i)
def asBl : D → M Bool
  | .bl b => pure b
  | _ => bad
def slcD (a : D) (lo hi : Option Int) : M KD := match a with
  | .lst xs => pure (.fr, .lst (cut xs lo hi))
  | .tup xs => pure (.sh, .tup (cut xs lo hi))
  | .str x => do guard_ (decide (x.length ≤ sizeMax)); pure (.sh, .str ⟨(cut x.cps.toList lo hi).toArray⟩)
  | _ => bad

/-- the items of a list or tuple -/
def items : D → M (List D)
  | .lst xs => pure xs
  | .tup xs => pure xs
  | _ => bad
def intsOf : List D → Option (List Int)
  | [] => some []
  | .int i :: r => (intsOf r).map (i :: ·)
  | _ => none
/-- the members, rising, each once -/
def insU (x : Int) : List Int → List Int
  | [] => [x]
  | y :: r => if x < y then x :: y :: r else if x = y then y :: r else y :: insU x r
def ssetI : List Int → List Int
  | [] => []
  | x :: r => insU x (ssetI r)
def dictOf : List D → List (D × D) → Option (List (D × D))
  | [], acc => some acc
  | .tup [k, v] :: r, acc => if kOk acc k then dictOf r (dput acc k v) else none
  | _, _ => none
def minD : D → List D → D
  | x, [] => x
  | x, y :: r => minD (if D.lt y x then y else x) r
def maxD : D → List D → D
  | x, [] => x
  | x, y :: r => maxD (if D.lt x y then y else x) r
def b2i (b : Bool) : Int := if b then 1 else 0
/-- pairs of small numbers, by one number each -/
def pairsOf : List D → Option (List (Int × Int))
  | [] => some []
  | .tup [.int x, .int y] :: r => (pairsOf r).map ((x, y) :: ·)
  | _ => none
def pcode (p : Int × Int) : Int := p.1 * 64 + p.2
def in64 (p : Int × Int) : Bool := decide (0 ≤ p.1) && decide (p.1 < 64) && (decide (0 ≤ p.2) && decide (p.2 < 64))
def ssetP (ps : List (Int × Int)) : List (Int × Int) := (ssetI (ps.map pcode)).map fun c => (c / 64, c % 64)
def pairD (p : Int × Int) : D := .tup [.int p.1, .int p.2]
def ssetD (xs : List D) : M KD := match intsOf xs with
  | some ns => do guard_ (decide (ns.length < 64)); pure (.fr, .lst ((ssetI ns).map .int))
  | none => do let ps ← need (pairsOf xs); guard_ (decide (ps.length < 64) && ps.all in64); pure (.fr, .lst ((ssetP ps).map pairD))
def p1D : P1 → D → M KD
  | .len, .lst xs => pure (.sh, .int xs.length)
  | .len, .tup xs => pure (.sh, .int xs.length)
  | .len, .dct xs => pure (.sh, .int xs.length)
  | .len, .str x => do guard_ (decide (x.length ≤ sizeMax)); pure (.sh, .int x.length)
  | .len, .scr xs => pure (.sh, .int xs.length)
  | .tuple, .lst xs => pure (.sh, .tup xs)
  | .tuple, .tup xs => pure (.sh, .tup xs)
  | .list, .lst xs => pure (.fr, .lst xs)
  | .list, .tup xs => pure (.fr, .lst xs)
  | .sorted, .lst xs => do guard_ (sortable xs && decide (xs.length ≤ sizeMax)); pure (.fr, .lst (sortD xs))
  | .sorted, .tup xs => do guard_ (D.plains xs && oneShape xs && decide (xs.length ≤ sizeMax)); pure (.fr, .lst (sortD xs))
  | .sset, d => do let xs ← items d; ssetD xs
  | .sum, .lst xs => do let ns ← need (intsOf xs); pure (.sh, .int ns.sum)
  | .min, d => do
    let xs ← items d
    guard_ (D.plains xs && oneShape xs)
    match xs with
    | x :: r => pure (.sh, minD x r)
    | [] => bad
  | .max, d => do
    let xs ← items d
    guard_ (D.plains xs && oneShape xs)
    match xs with
    | x :: r => pure (.sh, maxD x r)
    | [] => bad
  | .abs, .int i => pure (.sh, .int i.natAbs)
  | .dict, .lst xs => do let kvs ← need (dictOf xs []); pure (.fr, .dct kvs)
  | .dict, .tup xs => do let kvs ← need (dictOf xs []); pure (.fr, .dct kvs)
  | .int, .int i => pure (.sh, .int i)
  | .int, .bl b => pure (.sh, .int (b2i b))
  | .int, .str x => do let n ← need (PySem.intText? x); guard_ (decide (x.length ≤ 640)); pure (.sh, .int n)
  | .str, .int i => do guard_ (decide (i.natAbs.log2 < 1920)); pure (.sh, .str (toString i))
  | .skeys, .dct kvs => do guard_ (D.plains (kvs.map (·.1)) && oneShape (kvs.map (·.1))); pure (.fr, .lst (sortD (kvs.map (·.1))))
  | .svals, .dct kvs => do let ns ← need (intsOf (kvs.map (·.2))); pure (.sh, .int ns.sum)
  | .lvals, .dct kvs => pure (.fr, .lst (kvs.map (·.2)))
  | .mxvals, .dct kvs => do
    guard_ (D.plains (kvs.map (·.2)) && oneShape (kvs.map (·.2)))
    match kvs.map (·.2) with
    | x :: r => pure (.sh, maxD x r)
    | [] => bad
  | .rev, .lst xs => pure (.fr, .lst xs.reverse)
  | .rev, .tup xs => pure (.sh, .tup xs.reverse)
  | _, _ => bad
def strsOf : List D → Option (List Str)
  | [] => some []
  | .str x :: r => (strsOf r).map (x :: ·)
  | _ => none
def joinS (sep : List Nat) : List Str → List Nat
  | [] => []
  | [x] => x.cps.toList
  | x :: r => x.cps.toList ++ sep ++ joinS sep r
def p2D : P2 → D → D → M KD
  | .min, a, b => do guard_ (a.isInt && b.isInt); pure (.sh, if D.lt b a then b else a)
  | .max, a, b => do guard_ (a.isInt && b.isInt); pure (.sh, if D.lt a b then b else a)
  | .count, .lst xs, x => do guard_ (x.plain && D.plains xs); pure (.sh, .int (xs.countP fun y => D.eqv y x))
  | .index, d, x => do
    let xs ← items d
    guard_ (x.plain && D.plains xs)
    let k ← need (xs.findIdx? fun y => D.eqv y x)
    pure (.sh, .int k)
  | .join, .str s, d => do
    let xs ← items d
    let ss ← need (strsOf xs)
    guard_ (decide ((joinS s.cps.toList ss).length + s.length ≤ sizeMax))
    pure (.sh, .str ⟨(joinS s.cps.toList ss).toArray⟩)
  | _, _, _ => bad
def D.isDct : D → Bool
  | .dct _ => true
  | _ => false
def mtOk : P2 → D → Bool
  | .count, .lst _ => true
  | .index, .lst _ => true
  | .index, .tup _ => true
  | .join, .str _ => true
  | _, _ => false
def getdD : D → D → D → M D
  | .dct kvs, k, x => do guard_ (kOk kvs k); pure ((dget kvs k).getD x)
  | _, _, _ => bad

/-! ### ranges -/
def up (a : Int) : Nat → List Int
  | 0 => []
  | n + 1 => a :: up (a + 1) n
def dn (a : Int) : Nat → List Int
  | 0 => []
  | n + 1 => a :: dn (a - 1) n
def rngD : List D → M (List D)
  | [.int b] => do guard_ (decide (-(2 ^ 20) < b) && decide (b < 2 ^ 20)); pure ((up 0 b.toNat).map .int)
  | [.int a, .int b] => do guard_ (decide (-(2 ^ 20) < a) && decide (a < 2 ^ 20) && decide (-(2 ^ 20) < b) && decide (b < 2 ^ 20)); pure ((up a (b - a).toNat).map .int)
  | [.int a, .int b, .int c] => do guard_ (decide (c = -1) && decide (-(2 ^ 20) < a) && decide (a < 2 ^ 20) && decide (-(2 ^ 20) < b) && decide (b < 2 ^ 20)); pure ((dn a (a - b).toNat).map .int)
  | _ => bad

/-! ### patterns -/
mutual
def setPat : Pat → D → Env → Option Env
  | .nm i, d, env => if i < env.length then some (env.set i (some (false, d))) else none
  | .tp ps, .tup ds, env => setPats ps ds env
  | .tp _, _, _ => none
def setPats : List Pat → List D → Env → Option Env
  | [], [], env => some env
  | p :: ps, d :: ds, env => (setPat p d env).bind (setPats ps ds)
  | _, _, _ => none
end
mutual
def wipeP : Pat → Env → Env
  | .nm i, env => env.set i none
  | .tp ps, env => wipePs ps env
def wipePs : List Pat → Env → Env
  | [], env => env
  | p :: ps, env => wipePs ps (wipeP p env)
end
def D.isa : D → Kd → Bool
  | .int _, .int => true
  | .bl _, .int => true
  | .bl _, .bool => true
  | .str _, .str => true
  | .tup _, .tuple => true
  | .lst _, .list => true
  | _, _ => false
/-- what isinstance may ask of -/
def D.isaOk : D → Bool
  | .non => true | .int _ => true | .bl _ => true | .str _ => true | .tup _ => true | .lst _ => true | .dct _ => true
  | _ => false
def isaK : K → D → List Kd → M Bool := fun _ d ks => do guard_ d.isaOk; pure (ks.any d.isa)
def enm (a : Int) : List D → List D
  | [] => []
  | x :: r => .tup [.int a, x] :: enm (a + 1) r

/-- what a loop walks -/
def itD : K → D → M (List D)
  | _, .lst xs => pure xs
  | _, .tup xs => pure xs
  | _, .str s => do guard_ (decide (s.cps.size ≤ sizeMax)); pure (s.cps.toList.map fun c => .str ⟨#[c]⟩)
  | _, _ => bad
def kysD : K → D → M (List D)
  | .br, _ => bad
  | _, .dct kvs => pure (kvs.map (·.1))
  | _, _ => bad
def vlsD : K → D → M (List D)
  | .br, _ => bad
  | _, .dct kvs => pure (kvs.map (·.2))
  | _, _ => bad
def enmD : D → M (List D)
  | .lst xs => pure (enm 0 xs)
  | .tup xs => pure (enm 0 xs)
  | _ => bad
def noX {α : Type} (m : M α) : M α := fun s => match m s with
  | .ok a s => .ok a s
  | _ => .bad
def notBr : K → M Unit
  | .br => bad
  | _ => pure ()
section
variable (P : Prog) (cl : Cl)
/-- a comprehension's loop -/
def lcGo (env : Env) (p : Pat) (cond : Env → M Bool) (elt : Env → M D) : List D → List D → M (List D)
  | [], acc => pure acc
  | x :: r, acc => do
    let env' ← need (setPat p x env)
    let k ← cond env'
    match k with
    | true => do
      let y ← elt env'
      lcGo env p cond elt r (acc ++ [y])
    | false => lcGo env p cond elt r acc
mutual
def evE : E → Env → M KD
  | .var i, env => match env[i]? with
    | some (some (true, d)) => pure (.br, d)
    | some (some (false, d)) => pure (.sh, d)
    | _ => bad
  | .cst d, _ => pure (.sh, d)
  | .glob g, _ => do let d ← need (P.cst g); pure (.sh, d)
  | .fnv f, _ => pure (.sh, .fn f)
  | .tup es, env => do let ds ← evA es env; pure (.sh, .tup ds)
  | .lst es, env => do let ds ← evA es env; pure (.fr, .lst ds)
  | .dct kvs, env => do let kvs ← evD kvs env []; pure (.fr, .dct kvs)
  | .bin op a b, env => do let x ← evE a env; let y ← evE b env; binD op x.2 y.2
  | .neg a, env => do let x ← evE a env; let i ← asInt x.2; pure (.sh, .int (-i))
  | .not_ a, env => do let x ← evE a env; let b ← asBl x.2; pure (.sh, .bl (!b))
  | .and_ es, env => do let b ← evAnd es env; pure (.sh, .bl b)
  | .or_ es, env => do let b ← evOr es env; pure (.sh, .bl b)
  | .ite c a b, env => do
    let x ← evE c env
    let k ← asBl x.2
    match k with
    | true => evE a env
    | false => evE b env
  | .cmp op a b, env => do let x ← evE a env; let y ← evE b env; let k ← cmpD op x.2 y.2; pure (.sh, .bl k)
  | .cmp2 op op' a b c, env => do
    let x ← evE a env
    let y ← evE b env
    let k ← cmpD op x.2 y.2
    match k with
    | true => do let z ← evE c env; let k' ← cmpD op' y.2 z.2; pure (.sh, .bl k')
    | false => pure (.sh, .bl false)
  | .idx a b, env => do let x ← evE a env; let y ← evE b env; let d ← idxD x.2 y.2; pure (.sh, d)
  | .slc a lo hi, env => do
    let x ← evE a env
    let l ← evO lo env
    let h ← evO hi env
    slcD x.2 l h
  | .call f es, env => do let ds ← evA es env; cl f ds
  | .callv e es, env => do
    let x ← evE e env
    match x.2 with
    | .fn f => do let ds ← evA es env; cl f ds
    | _ => bad
  | .p1 p a, env => do let x ← evE a env; p1D p x.2
  | .p2 p a b, env => do let x ← evE a env; let y ← evE b env; p2D p x.2 y.2
  | .mt p a b, env => do let x ← evE a env; guard_ (mtOk p x.2); let y ← evE b env; p2D p x.2 y.2
  | .getd a es, env => do
    let d ← evE a env
    guard_ d.2.isDct
    let ds ← evA es env
    match ds with
    | [k, x] => do let d ← getdD d.2 k x; pure (.sh, d)
    | _ => bad
  | .lrng es, env => do let ds ← evA es env; let xs ← rngD ds; pure (.fr, .lst xs)
  | .trng es, env => do let ds ← evA es env; let xs ← rngD ds; pure (.sh, .tup xs)
  | .isa a ks, env => do let x ← evE a env; let k ← isaK x.1 x.2 ks; pure (.sh, .bl k)
  | .isx a cs, env => do
    let x ← evE a env
    match x.2 with
    | .exc c _ => pure (.sh, .bl (cs.contains c))
    | _ => bad
  | .lc elt p it cond, env => do
    let xs ← evI it env
    let ys ← noX (lcGo (wipeP p env) p (fun env => evC cond env) (fun env => do let y ← evE elt env; sealed y) xs.2 [])
    pure (.fr, .lst ys)
  | .fld a _, env => do
    let x ← evE a env
    match x.2 with
    | .exc _ d => pure (.sh, d)
    | _ => bad
  | .mkm, _ => do newMemo; pure (.sh, .memo)
  | .mkrd a, env => do
    let x ← evE a env
    match x.2 with
    | .str t => do let d ← newRd t; pure (.sh, d)
    | _ => bad
  | .mth f a es, env => do
    let x ← evE a env
    match x.2 with
    | .rdr n => do let ds ← evA es env; cl f (.rdr n :: ds)
    | _ => bad
  | .rdf a t, env => do
    let x ← evE a env
    match x.2 with
    | .rdr n => do let r ← theRd n; pure (.sh, if t = true then .str r.1 else .int r.2)
    | _ => bad
def evC : Option E → Env → M Bool
  | none, _ => pure true
  | some e, env => do let x ← evE e env; asBl x.2
def evO : Option E → Env → M (Option Int)
  | none, _ => pure none
  | some e, env => do let x ← evE e env; let i ← asInt x.2; pure (some i)
def evA : List E → Env → M (List D)
  | [], _ => pure []
  | e :: es, env => do let x ← evE e env; let d ← sealed x; let ds ← evA es env; pure (d :: ds)
def evD : List (E × E) → Env → List (D × D) → M (List (D × D))
  | [], _, acc => pure acc
  | p :: r, env, acc => do
    let (k, v) ← evP p env
    guard_ (kOk acc k && decide (acc.length < 15))
    evD r env (dput acc k v)
def evP : E × E → Env → M (D × D)
  | (a, b), env => do let x ← evE a env; let k ← sealed x; let y ← evE b env; let v ← sealed y; pure (k, v)
def evAnd : List E → Env → M Bool
  | [], _ => pure true
  | e :: es, env => do
    let x ← evE e env
    let k ← asBl x.2
    match k with
    | true => evAnd es env
    | false => pure false
def evOr : List E → Env → M Bool
  | [], _ => pure false
  | e :: es, env => do
    let x ← evE e env
    let k ← asBl x.2
    match k with
    | true => pure true
    | false => evOr es env
def evI : I → Env → M (K × List D)
  | .val e, env => do
    let x ← evE e env
    let ds ← itD x.1 x.2
    pure (x.1, ds)
  | .rng es, env => do let ds ← evA es env; let xs ← rngD ds; pure (.sh, xs)
  | .keys e, env => do let x ← evE e env; let ds ← kysD x.1 x.2; pure (.sh, ds)
  | .vals e, env => do let x ← evE e env; let ds ← vlsD x.1 x.2; pure (.sh, ds)
  | .enm e, env => do
    let x ← evE e env
    let ds ← enmD x.2
    pure (x.1, ds)
end
inductive Fl where
  | nx (env : Env) | rt (v : KD)
/-- what is returned: an own local's object is the caller's now -/
def evR : E → Env → M KD
  | .var i, env => match env[i]? with
    | some (some (true, d)) => pure (.fr, d)
    | some (some (false, d)) => pure (.sh, d)
    | _ => bad
  | .ite c a b, env => do
    let x ← evE P cl c env
    let k ← asBl x.2
    match k with
    | true => evR a env
    | false => evR b env
  | e, env => do let x ← evE P cl e env; notBr x.1; pure x
def ownOf : K → Option Bool
  | .sh => some false
  | .fr => some true
  | .br => none
def setSub (d k v : D) : Option D := match d with
  | .lst xs => match k with
    | .int i => (seqIx i xs.length).map fun j => .lst (xs.set j v)
    | _ => none
  | .dct kvs => if kOk kvs k && decide (kvs.length < sizeMax) then some (.dct (dput kvs k v)) else none
  | _ => none
def bound (env : Env) (x : Nat) : Bool := match env[x]? with
  | some (some _) => true
  | _ => false
def storeSub (env : Env) (x : Nat) (k v : D) : M Env := match env[x]? with
  | some (some (true, d)) => do let d' ← need (setSub d k v); pure (env.set x (some (true, d')))
  | some (some (false, .row)) => do
    let r ← theRow
    match k with
    | .int i => do
      let j ← need (seqIx i r.length)
      guard_ (v.isInt && decide (j ≠ 0))
      setRow (r.set j v)
      pure env
    | _ => bad
  | some (some (false, .memo)) => do
    let kvs ← theMemo
    guard_ (kOk kvs k && decide (kvs.length < sizeMax))
    setMemo (dput kvs k v)
    pure env
  | _ => bad
def storeVal (env : Env) : Tgt → KD → M Env
  | .own i, (k, d) => do
    let o ← need (ownOf k)
    guard_ (decide (i < env.length))
    pure (env.set i (some (o, d)))
  | .pat p, kd => do let d ← sealed kd; need (setPat p d env)
  | .sub x ke, kd => do
    let d ← sealed kd
    guard_ (bound env x)
    let k ← evE P cl ke env
    storeSub env x k.2 d
def storeAll : List Tgt → List KD → Env → M Env
  | [], [], env => pure env
  | t :: ts, v :: vs, env => do let env ← storeVal P cl env t v; storeAll ts vs env
  | _, _, _ => bad
def evKs : List E → Env → M (List KD)
  | [], _ => pure []
  | e :: es, env => do
    let x ← evE P cl e env
    let _ ← need (ownOf x.1)
    let r ← evKs es env
    pure (x :: r)
def augD : BOp → D → D → M D
  | op, .int i, .int j => do let r ← binD op (.int i) (.int j); pure r.2
  | _, _, _ => bad
def forGo (p : Pat) (body : Env → M Fl) : List D → Env → M Fl
  | [], env => pure (.nx env)
  | x :: r, env => do
    let env ← need (setPat p x env)
    let f ← body env
    match f with
    | .nx env => forGo p body r env
    | .rt v => pure (.rt v)
def whileGo (c : Env → M Bool) (body : Env → M Fl) : Nat → Env → M Fl
  | 0, _ => bad
  | n + 1, env => do
    let k ← c env
    match k with
    | true => do
      let f ← body env
      match f with
      | .nx env => whileGo c body n env
      | .rt v => pure (.rt v)
    | false => pure (.nx env)
def tryGo (c : Nat) (b : M Fl) (h : Nat → D → M Fl) : M Fl := fun s => match b s with
  | .exc c' d s' => if c == c' || c == 0 then h c' d s' else .exc c' d s'
  | r => r
/-- what a field may be -/
def fldOk : D → Bool
  | .int _ => true
  | .non => true
  | _ => false
def evH (c : Nat) (d : D) : HS → Env → M Fl
  | .asg j cc a b, env => do guard_ (decide (j < env.length)); pure (.nx (env.set j (some (false, .str (if isxB c cc = true then a else b)))))
  | .ifn cc v, env => match isxB c cc with
    | true => pure (.nx env)
    | false => pure (.rt (.sh, .bl v))
  | .fld j cc b, env => do
    guard_ (decide (j < env.length))
    match isxB c cc with
    | true => do guard_ (fldOk d); pure (.nx (env.set j (some (false, d))))
    | false => pure (.nx (env.set j (some (false, .str b))))
def offE (i : Nat) : Fl → Fl
  | .nx env => .nx (env.set i none)
  | .rt v => .rt v
variable (W : Nat)
mutual
def exS : S → Env → M Fl
  | .asg t e, env => do let v ← evE P cl e env; let env ← storeVal P cl env t v; pure (.nx env)
  | .asgs ts es, env => do let vs ← evKs P cl es env; let env ← storeAll P cl ts vs env; pure (.nx env)
  | .app x e, env => match env[x]? with
    | some (some (true, .lst xs)) => do
      let v ← evE P cl e env
      let d ← sealed v
      guard_ (decide (xs.length < sizeMax))
      pure (.nx (env.set x (some (true, .lst (xs ++ [d])))))
    | _ => bad
  | .aug x op e, env => match env[x]? with
    | some (some (false, a)) => do
      let v ← evE P cl e env
      let d ← augD op a v.2
      pure (.nx (env.set x (some (false, d))))
    | _ => bad
  | .ex e, env => do let _ ← evE P cl e env; pure (.nx env)
  | .inc e, env => do
    let v ← evE P cl e env
    match v.2 with
    | .rdr n => do incRd n; pure (.nx env)
    | _ => bad
  | .ret e, env => do let v ← evR P cl e env; pure (.rt v)
  | .if_ c a b, env => do
    let x ← evE P cl c env
    let k ← asBl x.2
    match k with
    | true => exSs a env
    | false => exSs b env
  | .while_ c b, env => whileGo (fun env => do let x ← evE P cl c env; asBl x.2) (fun env => exSs b env) W env
  | .for_ p it b, env => do
    let xs ← evI P cl it env
    notBr xs.1
    forGo p (fun env => exSs b env) xs.2 env
  | .raise c none, _ => fun s => .exc c .non s
  | .raise c (some e), env => do let v ← evE P cl e env; guard_ (fldOk v.2); fun s => .exc c v.2 s
  | .try_ b c x h, env => tryGo c (exSs b env) fun c' d => match x with
    | none => exSs h env
    | some i => exSs h (env.set i (some (false, .exc c' d)))
  | .tr b i h, env => do
    guard_ (decide (i < env.length))
    tryGo 0 (exS b env) fun c' d' => do
      let f ← evH c' d' h (env.set i none)
      pure (offE i f)
  | .frz x, env => match env[x]? with
    | some (some (_, d)) => pure (.nx (env.set x (some (false, d))))
    | _ => bad
  | .mkrow x es, env => do
    let ds ← evA P cl es env
    newRow ds
    guard_ (decide (x < env.length) && decide (ds.length ≤ 1000))
    pure (.nx (env.set x (some (false, .row))))
  | .pass, env => pure (.nx env)
  | .stop, _ => bad
def exSs : List S → Env → M Fl
  | [], env => pure (.nx env)
  | s :: r, env => do
    let f ← exS s env
    match f with
    | .nx env => exSs r env
    | .rt v => pure (.rt v)
end
end
/-- a def's call -/
def callF (P : Prog) (W : Nat) : Nat → Cl
  | 0 => fun _ _ => bad
  | k + 1 => fun f ds => match P.fn f with
    | some fn => if ds.length = fn.np then do
        let r ← exSs P (callF P W k) W fn.body (ds.map (fun d => some (false, d)) ++ List.replicate (fn.nl - fn.np) none)
        match r with
        | .nx _ => pure (.sh, .non)
        | .rt v => pure v
      else bad
    | none => bad
end Hb
namespace Hb
open PySem PySem.Spec PyProof.Rows L2

/-! ### keys -/
mutual
def D.nk : D → NestedKey
  | .bl b => .num (if b = true then 1 else 0)
  | .int i => .num i
  | .str x => .text x
  | .tup xs => .tup (D.nks xs)
  | _ => .none
def D.nks : List D → List NestedKey
  | [] => []
  | x :: xs => D.nk x :: D.nks xs
end
def D.isTup : D → Bool
  | .tup _ => true
  | _ => false
/-- the hash that stands in an entry -/
def hashD (w : World) (d : D) : Int := (d.nk).hash w

/-- the objects that all may change: the row, the memo, the readers -/
inductive Gt where
  | row | mm | rd (n : Nat)
deriving DecidableEq
/-- where the readers' class stands among the defs -/
def rdC : Nat := 4000
structure RC where
  K : PySem.W.Frag
  w : World
  fa : Nat → Addr
  F : Hp
  gl : Gt → Option Addr
/-- an object that all may change: the row, the memo -/
def RC.G (C : RC) (a : Addr) : Prop := ∃ t, C.gl t = some a

/-- an entry: its hash, key, value -/
abbrev En := Int × V × V
def EntIs (p : En) (q : DictEntry) : Prop := q.hash = p.1 ∧ RelV p.2.1 q.key ∧ RelV p.2.2 q.val
/-- at a stands a plain dict with these entries -/
def DP (a : Addr) (es : List En) : Heap → Prop := fun h =>
  ∃ (o : Obj) (ens : Array DictEntry) (ep : Nat), h.get? a = some o ∧ o.ExactDict ∧ o.data = .dict ens ep ∧ Paired EntIs es ens.toList

structure DOk (a : Addr) (kvs : List (D × D)) : Prop where
  sys : (a == sysModules) = false
  len : kvs.length ≤ sizeLine
  kind : (∀ p ∈ kvs, p.1.tkey = true) ∨ (∀ p ∈ kvs, p.1.skey = true)
  nd : (kvs.map fun p => p.1.nk).Nodup

/-- a tuple whose object is told: it has no dict of its own -/
def TupX (F : Hp) (a : Addr) (xs : List V) : Prop := ∃ o, F a = some (.frz o (.tup xs)) ∧ o.dict = none
mutual
inductive Rep (C : RC) : V → D → Prop
  | non : Rep C .non .non
  | bl (b : Bool) : Rep C (.bl b) (.bl b)
  | int (i : Int) : Rep C (.int i) (.int i)
  | str (x : Str) : Rep C (.str x) (.str x)
  | tup {a : Addr} {xs : List V} {ds : List D} : TupX C.F a xs → RepAll C xs ds → Rep C (.ref a) (.tup ds)
  | lst {a : Addr} {xs : List V} {ds : List D} : C.F a = some (.lst xs) → RepAll C xs ds → Rep C (.ref a) (.lst ds)
  | dct {a : Addr} {o : Obj} {es : List En} {kvs : List (D × D)} : C.F a = some (.frz o (.ext (DP a es))) → RepEnts C es kvs → DOk a kvs → Rep C (.ref a) (.dct kvs)
  | fn (f : Nat) : Rep C (.ref (C.fa f)) (.fn f)
  | row {a : Addr} : C.gl .row = some a → Rep C (.ref a) .row
  | memo {a : Addr} : C.gl .mm = some a → Rep C (.ref a) .memo
  | rdr {a : Addr} {n : Nat} : C.gl (.rd n) = some a → Rep C (.ref a) (.rdr n)
  | scr {a : Addr} {ns : List Int} : SqL C.K C.F a (ns.map V.int) → Rep C (.ref a) (.scr ns)
inductive RepAll (C : RC) : List V → List D → Prop
  | nil : RepAll C [] []
  | cons {v : V} {vs : List V} {d : D} {ds : List D} : Rep C v d → RepAll C vs ds → RepAll C (v :: vs) (d :: ds)
inductive RepEnts (C : RC) : List En → List (D × D) → Prop
  | nil : RepEnts C [] []
  | cons {hs : Int} {kv vv : V} {es : List En} {k v : D} {kvs : List (D × D)} : hs = hashD C.w k → Rep C kv k → Rep C vv v → RepEnts C es kvs → RepEnts C ((hs, kv, vv) :: es) ((k, v) :: kvs)
end

/-- more is frozen -/
structure RC.Le (C C' : RC) : Prop where
  K : C'.K = C.K
  w : C'.w = C.w
  fa : C'.fa = C.fa
  F : ∀ a o, C.F a = some o → C'.F a = some o
  row : ∀ t a, C.gl t = some a → C'.gl t = some a
theorem RC.Le.refl (C : RC) : C.Le C := ⟨rfl, rfl, rfl, fun _ _ h => h, fun _ _ h => h⟩
theorem RC.Le.G {C C' : RC} (L : C.Le C') {a : Addr} (h : C.G a) : C'.G a := let ⟨t, e⟩ := h; ⟨t, L.row t a e⟩
theorem RC.Le.trans {C C1 C2 : RC} (a : C.Le C1) (b : C1.Le C2) : C.Le C2 := ⟨b.K.trans a.K, b.w.trans a.w, b.fa.trans a.fa, fun x o h => b.F x o (a.F x o h), fun t x h => b.row t x (a.row t x h)⟩
theorem sqL_mono {K : PySem.W.Frag} {H H' : Hp} {a : Addr} {xs : List V} (e : ∀ b o, H b = some o → H' b = some o) (h : SqL K H a xs) : SqL K H' a xs := Same.seq (e : Same H H') h
theorem sqT_mono {K : PySem.W.Frag} {H H' : Hp} {a : Addr} {xs : List V} (e : ∀ b o, H b = some o → H' b = some o) (h : SqT K H a xs) : SqT K H' a xs := by
  rcases h with (h | ⟨o, h⟩) | h
  · exact .inl (.inl (e _ _ h))
  · exact .inl (.inr ⟨o, e _ _ h⟩)
  · exact .inr h
theorem TupX.sq {K : PySem.W.Frag} {F : Hp} {a : Addr} {xs : List V} (h : TupX F a xs) : SqT K F a xs := let ⟨o, e, _⟩ := h; .inl (.inr ⟨o, e⟩)
mutual
theorem Rep.mono {C C' : RC} (L : C.Le C') : ∀ (d : D) (v : V), Rep C v d → Rep C' v d
  | .non, _, h => by cases h; exact .non
  | .bl b, _, h => by cases h; exact .bl b
  | .int i, _, h => by cases h; exact .int i
  | .str x, _, h => by cases h; exact .str x
  | .tup ds, _, h => by
    cases h with
    | tup h1 h2 =>
      obtain ⟨o, e, hd⟩ := h1
      exact .tup ⟨o, L.F _ _ e, hd⟩ (RepAll.mono L ds _ h2)
  | .lst ds, _, h => by
    cases h with
    | lst h1 h2 => exact .lst (L.F _ _ h1) (RepAll.mono L ds _ h2)
  | .dct kvs, _, h => by
    cases h with
    | dct h1 h2 h3 => exact .dct (L.F _ _ h1) (RepEnts.mono L kvs _ h2) h3
  | .fn f, _, h => by
    cases h
    rw [← L.fa]
    exact .fn f
  | .exc _ _, _, h => by cases h
  | .row, _, h => by
    cases h with
    | row h => exact .row (L.row _ _ h)
  | .memo, _, h => by
    cases h with
    | memo h => exact .memo (L.row _ _ h)
  | .rdr n, _, h => by
    cases h with
    | rdr h => exact .rdr (L.row _ _ h)
  | .scr ns, _, h => by
    cases h with
    | scr h => exact .scr (by rw [L.K]; exact sqL_mono L.F h)
theorem RepAll.mono {C C' : RC} (L : C.Le C') : ∀ (ds : List D) (vs : List V), RepAll C vs ds → RepAll C' vs ds
  | [], _, h => by cases h; exact .nil
  | d :: ds, _, h => by
    cases h with
    | cons h1 h2 => exact .cons (Rep.mono L d _ h1) (RepAll.mono L ds _ h2)
theorem RepEnts.mono {C C' : RC} (L : C.Le C') : ∀ (kvs : List (D × D)) (es : List En), RepEnts C es kvs → RepEnts C' es kvs
  | [], _, h => by cases h; exact .nil
  | (k, v) :: kvs, _, h => by
    cases h with
    | cons h1 h2 h3 h4 => exact .cons (by rw [L.w]; exact h1) (Rep.mono L k _ h2) (Rep.mono L v _ h3) (RepEnts.mono L kvs _ h4)
end
theorem RepAll.length {C : RC} : ∀ {vs : List V} {ds : List D}, RepAll C vs ds → vs.length = ds.length
  | _, _, .nil => rfl
  | _, _, .cons _ t => congrArg Nat.succ (RepAll.length t)
theorem RepAll.get {C : RC} : ∀ {vs : List V} {ds : List D} {i : Nat} {d : D}, RepAll C vs ds → ds[i]? = some d → ∃ v, vs[i]? = some v ∧ Rep C v d
  | _, _, _, _, .nil, e => by simp at e
  | _, _, 0, _, .cons r _, e => by simp at e; subst e; exact ⟨_, rfl, r⟩
  | _, _, i + 1, _, .cons _ t, e => by
    obtain ⟨v, h1, h2⟩ := RepAll.get (i := i) t (by simpa using e)
    exact ⟨v, by simpa using h1, h2⟩
theorem RepAll.get' {C : RC} : ∀ {vs : List V} {ds : List D} {i : Nat} {v : V}, RepAll C vs ds → vs[i]? = some v → ∃ d, ds[i]? = some d ∧ Rep C v d
  | _, _, _, _, .nil, e => by simp at e
  | _, _, 0, _, .cons r _, e => by simp at e; subst e; exact ⟨_, rfl, r⟩
  | _, _, i + 1, _, .cons _ t, e => by
    obtain ⟨v, h1, h2⟩ := RepAll.get' (i := i) t (by simpa using e)
    exact ⟨v, by simpa using h1, h2⟩
theorem RepAll.append {C : RC} : ∀ {vs us : List V} {ds es : List D}, RepAll C vs ds → RepAll C us es → RepAll C (vs ++ us) (ds ++ es)
  | _, _, _, _, .nil, s => s
  | _, _, _, _, .cons r t, s => .cons r (RepAll.append t s)
theorem RepAll.set {C : RC} {v : V} {d : D} (r : Rep C v d) : ∀ {vs : List V} {ds : List D} (i : Nat), RepAll C vs ds → RepAll C (vs.set i v) (ds.set i d)
  | _, _, _, .nil => .nil
  | _, _, 0, .cons _ t => .cons r t
  | _, _, i + 1, .cons q t => .cons q (RepAll.set r i t)
theorem RepAll.take {C : RC} : ∀ {vs : List V} {ds : List D} (n : Nat), RepAll C vs ds → RepAll C (vs.take n) (ds.take n)
  | _, _, 0, _ => .nil
  | _, _, _ + 1, .nil => .nil
  | _, _, n + 1, .cons r t => .cons r (RepAll.take n t)
theorem RepAll.drop {C : RC} : ∀ {vs : List V} {ds : List D} (n : Nat), RepAll C vs ds → RepAll C (vs.drop n) (ds.drop n)
  | _, _, 0, r => r
  | _, _, _ + 1, .nil => .nil
  | _, _, n + 1, .cons _ t => RepAll.drop n t
theorem RepAll.reverse {C : RC} : ∀ {vs : List V} {ds : List D}, RepAll C vs ds → RepAll C vs.reverse ds.reverse
  | _, _, .nil => .nil
  | _, _, .cons r t => by
    rw [List.reverse_cons, List.reverse_cons]
    exact RepAll.append (RepAll.reverse t) (.cons r .nil)
theorem RepEnts.length {C : RC} : ∀ {es : List En} {kvs : List (D × D)}, RepEnts C es kvs → es.length = kvs.length
  | _, _, .nil => rfl
  | _, _, .cons _ _ _ t => congrArg Nat.succ (RepEnts.length t)

/-- an object of our own, that may still be changed -/
def ObjR (C : RC) (H : Hp) (a : Addr) : D → Prop
  | .lst ds => ∃ xs, H a = some (.lst xs) ∧ RepAll C xs ds
  | .dct kvs => ∃ es, H a = some (.ext (DP a es)) ∧ RepEnts C es kvs ∧ DOk a kvs
  | _ => False
theorem ObjR.there {C : RC} {H : Hp} {a : Addr} {d : D} (h : ObjR C H a d) : ∃ o, H a = some o := by
  cases d with
  | lst ds => obtain ⟨xs, e, _⟩ := h; exact ⟨_, e⟩
  | dct ds => obtain ⟨xs, e, _⟩ := h; exact ⟨_, e⟩
  | _ => exact (show False from h).elim
theorem ObjR.mono {C C' : RC} {H H' : Hp} {a : Addr} {d : D} (L : C.Le C') (e : ∀ o, H a = some o → H' a = some o) (h : ObjR C H a d) : ObjR C' H' a d := by
  cases d with
  | lst ds => obtain ⟨xs, e1, r⟩ := h; exact ⟨xs, e _ e1, RepAll.mono L _ _ r⟩
  | dct ds => obtain ⟨xs, e1, r, k⟩ := h; exact ⟨xs, e _ e1, RepEnts.mono L _ _ r, k⟩
  | _ => exact (show False from h).elim

/-- how a value stands -/
def RepK (C : RC) (H : Hp) (k : K) (v : V) (d : D) : Prop :=
  match k with
  | .sh => Rep C v d
  | _ => ∃ a, v = .ref a ∧ C.F a = none ∧ ¬ C.G a ∧ ObjR C H a d

/-- where the row stands -/
def RowP (C : RC) (H : Hp) (st : Hb.St) : Prop :=
  match st.row with
  | none => C.gl .row = none
  | some r => ∃ a xs, C.gl .row = some a ∧ C.F a = none ∧ H a = some (.lst xs) ∧ RepAll C xs r
/-- where the memo stands -/
def MemP (C : RC) (H : Hp) (st : Hb.St) : Prop :=
  match st.memo with
  | none => C.gl .mm = none
  | some kvs => ∃ a, C.gl .mm = some a ∧ C.F a = none ∧ ObjR C H a (.dct kvs)
/-- where a reader stands -/
def rdO (C : RC) (dx : Addr) (r : Str × Int) : HO := .ins (C.fa rdC) dx [("text", .str r.1), ("at", .int r.2)]
def RdP (C : RC) (H : Hp) (st : Hb.St) (n : Nat) : Prop :=
  match st.rds[n]? with
  | none => C.gl (.rd n) = none
  | some r => ∃ a dx, C.gl (.rd n) = some a ∧ C.F a = none ∧ H a = some (rdO C dx r)
structure RowOk (C : RC) (H : Hp) (st : Hb.St) : Prop where
  row : RowP C H st
  mem : MemP C H st
  rds : ∀ n, RdP C H st n
  inj : ∀ n m a, C.gl (.rd n) = some a → C.gl (.rd m) = some a → n = m
theorem RowOk.gl {C : RC} {H : Hp} {st : Hb.St} (h : RowOk C H st) {a : Addr} (g : C.G a) : C.F a = none ∧ ∃ o, H a = some o := by
  obtain ⟨t, e⟩ := g
  cases t with
  | row =>
    have r := h.row
    unfold RowP at r
    cases q : st.row with
    | none => rw [q] at r; rw [r] at e; cases e
    | some l =>
      rw [q] at r
      obtain ⟨b, xs, h1, h2, h3, _⟩ := r
      rw [h1] at e; cases e
      exact ⟨h2, _, h3⟩
  | rd n =>
    have r := h.rds n
    unfold RdP at r
    cases q : st.rds[n]? with
    | none => rw [q] at r; rw [r] at e; cases e
    | some l =>
      rw [q] at r
      obtain ⟨b, dx, h1, h2, h3⟩ := r
      rw [h1] at e; cases e
      exact ⟨h2, _, h3⟩
  | mm =>
    have r := h.mem
    unfold MemP at r
    cases q : st.memo with
    | none => rw [q] at r; rw [r] at e; cases e
    | some l =>
      rw [q] at r
      obtain ⟨b, h1, h2, h3⟩ := r
      rw [h1] at e; cases e
      exact ⟨h2, h3.there⟩
/-- the row and the memo are apart -/
theorem RowOk.apart {C : RC} {H : Hp} {st : Hb.St} (h : RowOk C H st) {a : Addr} (e : C.gl .row = some a) : C.gl .mm ≠ some a := fun e' => by
  have r := h.row
  have r' := h.mem
  unfold RowP at r
  unfold MemP at r'
  cases q : st.row with
  | none => rw [q] at r; rw [r] at e; cases e
  | some l =>
    cases q' : st.memo with
    | none => rw [q'] at r'; rw [r'] at e'; cases e'
    | some l' =>
      rw [q] at r
      rw [q'] at r'
      obtain ⟨b, xs, h1, _, h3, _⟩ := r
      obtain ⟨b', h1', _, es, h3', _⟩ := r'
      rw [e] at h1; cases h1
      rw [e'] at h1'; cases h1'
      rw [h3] at h3'; cases h3'

/-- a reader, the row, the memo are apart -/
theorem RowOk.rdAt {C : RC} {H : Hp} {st : Hb.St} (h : RowOk C H st) {a : Addr} {n : Nat} (e : C.gl (.rd n) = some a) : ∃ dx r, st.rds[n]? = some r ∧ C.F a = none ∧ H a = some (rdO C dx r) := by
  have r := h.rds n
  unfold RdP at r
  cases q : st.rds[n]? with
  | none => rw [q] at r; rw [r] at e; cases e
  | some l =>
    rw [q] at r
    obtain ⟨b, dx, h1, h2, h3⟩ := r
    rw [h1] at e; cases e
    exact ⟨dx, l, rfl, h2, h3⟩
theorem RowOk.apartR {C : RC} {H : Hp} {st : Hb.St} (h : RowOk C H st) {a : Addr} {n : Nat} (e : C.gl .row = some a) : C.gl (.rd n) ≠ some a := fun e' => by
  obtain ⟨dx, l', _, _, h3'⟩ := h.rdAt e'
  have r := h.row
  unfold RowP at r
  cases q : st.row with
  | none => rw [q] at r; rw [r] at e; cases e
  | some l =>
    rw [q] at r
    obtain ⟨b, xs, h1, _, h3, _⟩ := r
    rw [e] at h1; cases h1
    rw [h3] at h3'; cases h3'
theorem RowOk.apartM {C : RC} {H : Hp} {st : Hb.St} (h : RowOk C H st) {a : Addr} {n : Nat} (e : C.gl .mm = some a) : C.gl (.rd n) ≠ some a := fun e' => by
  obtain ⟨dx, l', _, _, h3'⟩ := h.rdAt e'
  have r := h.mem
  unfold MemP at r
  cases q : st.memo with
  | none => rw [q] at r; rw [r] at e; cases e
  | some l =>
    rw [q] at r
    obtain ⟨b, h1, _, es, h3, _⟩ := r
    rw [e] at h1; cases h1
    rw [h3] at h3'; cases h3'

theorem RowOk.rdNew {C : RC} {H : Hp} {st st' : Hb.St} {p : Addr} {o : HO} {T : Gt} (h : RowOk C H st) (hp : H p = none) (hT : ∀ n, Gt.rd n ≠ T) (e : st'.rds = st.rds) (n : Nat) : RdP { C with gl := fun t => if t = T then some p else C.gl t } (upd H p o) st' n := by
  have r := h.rds n
  have eg : (if Gt.rd n = T then some p else C.gl (.rd n)) = C.gl (.rd n) := if_neg (hT n)
  unfold RdP at r ⊢
  rw [e]
  cases q : st.rds[n]? with
  | none => rw [q] at r; exact eg.trans r
  | some l =>
    rw [q] at r
    obtain ⟨a, dx, h1, h2, h3⟩ := r
    exact ⟨a, dx, eg.trans h1, h2, by rw [upd_ne fun z => by rw [z, hp] at h3; cases h3]; exact h3⟩
theorem RowOk.injNew {C : RC} {H : Hp} {st : Hb.St} {p : Addr} {T : Gt} (h : RowOk C H st) (hT : ∀ n, Gt.rd n ≠ T) (n m : Nat) (a : Addr) (e1 : (if Gt.rd n = T then some p else C.gl (.rd n)) = some a) (e2 : (if Gt.rd m = T then some p else C.gl (.rd m)) = some a) : n = m := by
  rw [if_neg (hT n)] at e1
  rw [if_neg (hT m)] at e2
  exact h.inj n m a e1 e2
theorem RowOk.rdUpd {C : RC} {H : Hp} {st st' : Hb.St} {p : Addr} {o : HO} (h : RowOk C H st) (hn : ∀ n, C.gl (.rd n) ≠ some p) (e : st'.rds = st.rds) (n : Nat) : RdP C (upd H p o) st' n := by
  have r := h.rds n
  unfold RdP at r ⊢
  rw [e]
  cases q : st.rds[n]? with
  | none => rw [q] at r; exact r
  | some l =>
    rw [q] at r
    obtain ⟨a, dx, h1, h2, h3⟩ := r
    exact ⟨a, dx, h1, h2, by rw [upd_ne fun z => hn n (by rw [← z]; exact h1)]; exact h3⟩

/-- a step of an expression: more is frozen, what stood stands but the row -/
structure Post (C : RC) (H : Hp) (C' : RC) (H' : Hp) (st' : Hb.St) : Prop where
  le : C.Le C'
  sub : ∀ a o, C'.F a = some o → H' a = some o
  fnew : ∀ a o, C'.F a = some o → C.F a = some o ∨ H a = none
  rnew : ∀ a, C'.G a → C.G a ∨ H a = none
  keep : ∀ a o, H a = some o → ¬ C.G a → H' a = some o
  there : ∀ a o, H a = some o → ∃ o', H' a = some o'
  row : RowOk C' H' st'

structure Sim (C : RC) (H0 : Hp) (H : Hp) (env : Hb.Env) (st : Hb.St) (σ : List (Option V)) : Prop where
  sub : ∀ a o, C.F a = some o → H a = some o
  len : env.length = σ.length
  cell : ∀ (i : Nat) d, env[i]? = some (some (false, d)) → ∃ v, σ[i]? = some (some v) ∧ Rep C v d
  own : ∀ (i : Nat) d, env[i]? = some (some (true, d)) → ∃ a, σ[i]? = some (some (.ref a)) ∧ C.F a = none ∧ ¬ C.G a ∧ H0 a = none ∧ ObjR C H a d
  apart : ∀ (i j : Nat) a d d', env[i]? = some (some (true, d)) → env[j]? = some (some (true, d')) → σ[i]? = some (some (.ref a)) → σ[j]? = some (some (.ref a)) → i = j
  row : RowOk C H st
  keep : ∀ a o, H0 a = some o → ¬ C.G a → H a = some o

theorem Post.refl {C : RC} {H : Hp} {st : Hb.St} (sub : ∀ a o, C.F a = some o → H a = some o) (row : RowOk C H st) : Post C H C H st :=
  ⟨.refl C, sub, fun _ _ h => .inl h, fun _ h => .inl h, fun _ _ h _ => h, fun _ o h => ⟨o, h⟩, row⟩
theorem Sim.refl {C : RC} {H0 H : Hp} {env : Hb.Env} {st : Hb.St} {σ : List (Option V)} (S : Sim C H0 H env st σ) : Post C H C H st := .refl S.sub S.row
theorem Post.trans {C C1 C2 : RC} {H H1 H2 : Hp} {st1 st2 : Hb.St} (a : Post C H C1 H1 st1) (b : Post C1 H1 C2 H2 st2) : Post C H C2 H2 st2 where
  le := a.le.trans b.le
  sub := b.sub
  fnew := fun x o h => by
    rcases b.fnew x o h with h | h
    · exact a.fnew x o h
    · right
      cases e : H x with
      | none => rfl
      | some u =>
        obtain ⟨o', q⟩ := a.there x u e
        rw [q] at h; cases h
  rnew := fun x h => by
    rcases b.rnew x h with h | h
    · exact a.rnew x h
    · right
      cases e : H x with
      | none => rfl
      | some u =>
        obtain ⟨o', q⟩ := a.there x u e
        rw [q] at h; cases h
  keep := fun x o h n => b.keep x o (a.keep x o h n) fun q => by
    rcases a.rnew x q with q | q
    · exact n q
    · rw [q] at h; cases h
  there := fun x o h => by
    obtain ⟨o', q⟩ := a.there x o h
    exact b.there x o' q
  row := b.row

theorem RepK.step {C C' : RC} {H H' : Hp} {st' : Hb.St} {k : K} {v : V} {d : D} (p : Post C H C' H' st') (r : RepK C H k v d) : RepK C' H' k v d := by
  have go : (∃ a, v = .ref a ∧ C.F a = none ∧ ¬ C.G a ∧ ObjR C H a d) → ∃ a, v = .ref a ∧ C'.F a = none ∧ ¬ C'.G a ∧ ObjR C' H' a d := fun ⟨a, e, n, m, q⟩ => by
    obtain ⟨o, ho⟩ := q.there
    refine ⟨a, e, ?_, fun z => ?_, q.mono p.le fun o' h => p.keep a o' h m⟩
    · cases z : C'.F a with
      | none => rfl
      | some u =>
        rcases p.fnew a u z with z | z
        · rw [n] at z; cases z
        · rw [ho] at z; cases z
    · rcases p.rnew a z with z | z
      · exact m z
      · rw [ho] at z; cases z
  cases k with
  | sh => exact Rep.mono p.le _ _ r
  | fr => exact go r
  | br => exact go r

theorem Sim.step {C C' : RC} {H0 H H' : Hp} {env : Hb.Env} {st st' : Hb.St} {σ : List (Option V)} (S : Sim C H0 H env st σ) (p : Post C H C' H' st') : Sim C' H0 H' env st' σ where
  sub := p.sub
  len := S.len
  cell := fun i d h => by
    obtain ⟨v, e, r⟩ := S.cell i d h
    exact ⟨v, e, Rep.mono p.le _ _ r⟩
  own := fun i d h => by
    obtain ⟨a, e, n, m, z, q⟩ := S.own i d h
    obtain ⟨a', e', n', m', q'⟩ := RepK.step (k := .fr) p (show RepK C H .fr (.ref a) d from ⟨a, rfl, n, m, q⟩)
    cases e'
    exact ⟨a, e, n', m', z, q'⟩
  apart := S.apart
  row := p.row
  keep := fun a o h n => p.keep a o (S.keep a o h fun z => n (p.le.G z)) fun z => n (p.le.G z)
end Hb
namespace Hb
open PySem PySem.Spec PyProof.Rows L2

/-! ### weaker readings -/
theorem PE.imp {X : Cx} {e : Expr} {t t' : TE} (h : PE X e t) (hi : ∀ σ H Q, t' σ H Q → t σ H Q) : PE X e t' := ⟨fun pins s σ H Q I hw => h.run pins s σ H Q I (hi _ _ _ hw)⟩
theorem PT.imp {X : Cx} {e : Expr} {t t' : TT} (h : PT X e t) (hi : ∀ σ H Q, t' σ H Q → t σ H Q) : PT X e t' := ⟨fun pins s σ H Q I hw => h.run pins s σ H Q I (hi _ _ _ hw)⟩
theorem PW.imp {X : Cx} {e : Expr} {t t' : TT} (h : PW X e t) (hi : ∀ σ H Q, t' σ H Q → t σ H Q) : PW X e t' := ⟨fun wh pins s σ H Q I hw => h.run wh pins s σ H Q I (hi _ _ _ hw)⟩
theorem PA.imp {X : Cx} {es : List Expr} {t t' : TA} (h : PA X es t) (hi : ∀ σ H Q, t' σ H Q → t σ H Q) : PA X es t' := ⟨fun pos pins s σ H Q I hw => h.run pos pins s σ H Q I (hi _ _ _ hw)⟩
theorem PS.imp {X : Cx} {st : Stmt} {t t' : TS} (h : PS X st t) (hi : ∀ D σ H, t' D σ H → t D σ H) : PS X st t' := ⟨fun pins s σ H D I hw => h.run pins s σ H D I (hi _ _ _ hw)⟩
theorem PSs.imp {X : Cx} {st : List Stmt} {t t' : TS} (h : PSs X st t) (hi : ∀ D σ H, t' D σ H → t D σ H) : PSs X st t' := ⟨fun pins s σ H D I hw => h.run pins s σ H D I (hi _ _ _ hw)⟩
theorem PG.imp {X : Cx} {e : Expr} {t t' : TG} (h : PG X e t) (hi : ∀ v σ H Q, t' v σ H Q → t v σ H Q) : PG X e t' := ⟨fun pins s σ H v u Q I r hw => h.run pins s σ H v u Q I r (hi _ _ _ _ hw)⟩
theorem PI.imp {X : Cx} {tg e : Expr} {t t' : TI} (h : PI X tg e t) (hi : ∀ σ H R, t' σ H R → t σ H R) : PI X tg e t' := ⟨fun pins s σ H R I hw => h.run pins s σ H R I (hi _ _ _ hw)⟩

/-! ### outcomes -/
def OutG {α : Type} (o : Out α) (R : α → Hb.St → Prop) (Z : Nat → D → Hb.St → Prop) : Prop :=
  match o with
  | .ok a st => R a st
  | .exc c d st => Z c d st
  | .bad => False
theorem OutG.imp {α : Type} {o : Out α} {R R' : α → Hb.St → Prop} {Z Z' : Nat → D → Hb.St → Prop} (h : OutG o R Z) (hr : ∀ a st, R a st → R' a st) (hz : ∀ c d st, Z c d st → Z' c d st) : OutG o R' Z' := by
  cases o with
  | ok a st => exact hr a st h
  | exc c d st => exact hz c d st h
  | bad => exact h
theorem OutG.bind {α β : Type} {m : M α} {f : α → M β} {st : Hb.St} {R : β → Hb.St → Prop} {Z : Nat → D → Hb.St → Prop} (h : OutG ((m >>= f) st) R Z) : OutG (m st) (fun a st1 => OutG (f a st1) R Z) Z := by
  have e : (m >>= f) st = (match m st with | .ok a s => f a s | .exc c d s => .exc c d s | .bad => .bad) := rfl
  rw [e] at h
  cases q : m st with
  | ok a s => rw [q] at h; exact h
  | exc c d s => rw [q] at h; exact h
  | bad => rw [q] at h; exact h
theorem OutG.bind' {α β : Type} {m : M α} {f : α → M β} {st : Hb.St} {R : β → Hb.St → Prop} {Z : Nat → D → Hb.St → Prop} (h : OutG (m st) (fun a st1 => OutG (f a st1) R Z) Z) : OutG ((m >>= f) st) R Z := by
  have e : (m >>= f) st = (match m st with | .ok a s => f a s | .exc c d s => .exc c d s | .bad => .bad) := rfl
  rw [e]
  cases q : m st with
  | ok a s => rw [q] at h; exact h
  | exc c d s => rw [q] at h; exact h
  | bad => rw [q] at h; exact h
theorem OutG.need {α : Type} {o : Option α} {st : Hb.St} {R : α → Hb.St → Prop} {Z : Nat → D → Hb.St → Prop} (h : OutG (need o st) R Z) : ∃ a, o = some a ∧ R a st := by
  cases o with
  | none => exact (show False from h).elim
  | some a => exact ⟨a, rfl, h⟩
theorem OutG.guard {b : Bool} {st : Hb.St} {R : Unit → Hb.St → Prop} {Z : Nat → D → Hb.St → Prop} (h : OutG (guard_ b st) R Z) : b = true ∧ R () st := by
  cases b with
  | false => exact (show False from h).elim
  | true => exact ⟨rfl, h⟩
theorem OutG.guardB {β : Type} {b : Bool} {m : M β} {st : Hb.St} {R : β → Hb.St → Prop} {Z : Nat → D → Hb.St → Prop} (h : OutG ((do guard_ b; m : M β) st) R Z) : b = true ∧ OutG (m st) R Z := OutG.guard (OutG.bind h)
theorem OutG.needB {α β : Type} {o : Option α} {f : α → M β} {st : Hb.St} {R : β → Hb.St → Prop} {Z : Nat → D → Hb.St → Prop} (h : OutG ((Hb.need o >>= f) st) R Z) : ∃ a, o = some a ∧ OutG (f a st) R Z := OutG.need (OutG.bind h)
theorem OutG.asInt {d : D} {st : Hb.St} {R : Int → Hb.St → Prop} {Z : Nat → D → Hb.St → Prop} (h : OutG (asInt d st) R Z) : ∃ i, d = .int i ∧ R i st := by
  cases d with
  | int i => exact ⟨i, rfl, h⟩
  | _ => exact (show False from h).elim
theorem OutG.asBl {d : D} {st : Hb.St} {R : Bool → Hb.St → Prop} {Z : Nat → D → Hb.St → Prop} (h : OutG (asBl d st) R Z) : ∃ b, d = .bl b ∧ R b st := by
  cases d with
  | bl b => exact ⟨b, rfl, h⟩
  | _ => exact (show False from h).elim
theorem OutG.items {d : D} {st : Hb.St} {R : List D → Hb.St → Prop} {Z : Nat → D → Hb.St → Prop} (h : OutG (items d st) R Z) : ∃ xs, (d = .lst xs ∨ d = .tup xs) ∧ R xs st := by
  cases d with
  | lst xs => exact ⟨xs, .inl rfl, h⟩
  | tup xs => exact ⟨xs, .inr rfl, h⟩
  | _ => exact (show False from h).elim

/-- how an exception of the evaluator stands -/
abbrev XR := RC → Hp → Nat → D → Value → Option Addr → Prop

section
variable (xr : XR) (W : WX)
/-- the wish about exceptions, from C, H on -/
def ZG (C : RC) (H : Hp) (σ : List (Option V)) : Nat → D → Hb.St → Prop := fun c fl st' =>
  ∀ cv dx C' H', Post C H C' H' st' → xr C' H' c fl cv dx → W cv dx σ H'
theorem ZG.shift {xr : XR} {W : WX} {C C1 : RC} {H H1 : Hp} {σ : List (Option V)} {st1 : Hb.St} (p : Post C H C1 H1 st1) {c : Nat} {fl : D} {st : Hb.St} (h : ZG xr W C H σ c fl st) : ZG xr W C1 H1 σ c fl st :=
  fun cv dx C' H' q x => h cv dx C' H' (p.trans q) x
/-- a new value is new to H -/
def New (H : Hp) (k : K) (v : V) : Prop := match k with
  | .fr => ∀ a, v = .ref a → H a = none
  | _ => True
theorem New.shift {C C1 : RC} {H H1 : Hp} {st1 : Hb.St} {k : K} {v : V} (p : Post C H C1 H1 st1) (h : New H1 k v) : New H k v := by
  cases k with
  | fr =>
    intro a e
    cases q : H a with
    | none => rfl
    | some o =>
      obtain ⟨o', z⟩ := p.there a o q
      rw [h a e] at z; cases z
  | sh => trivial
  | br => trivial
def RE (C : RC) (H : Hp) (Q : VK) : KD → Hb.St → Prop := fun kd st' => ∀ v C' H', Post C H C' H' st' → RepK C' H' kd.1 v kd.2 → New H kd.1 v → Q v H'
theorem RE.shift {C C1 : RC} {H H1 : Hp} {Q : VK} {st1 : Hb.St} (p : Post C H C1 H1 st1) {kd : KD} {st : Hb.St} (h : RE C H Q kd st) : RE C1 H1 Q kd st := fun v C' H' q r n => h v C' H' (p.trans q) r (n.shift p)
def RD (C : RC) (H : Hp) (Q : VK) : D → Hb.St → Prop := fun d st' => ∀ v C' H', Post C H C' H' st' → Rep C' v d → Q v H'
theorem RD.shift {C C1 : RC} {H H1 : Hp} {Q : VK} {st1 : Hb.St} (p : Post C H C1 H1 st1) {d : D} {st : Hb.St} (h : RD C H Q d st) : RD C1 H1 Q d st := fun v C' H' q r => h v C' H' (p.trans q) r
def RA (C : RC) (H : Hp) (Q : List V → Hp → Prop) : List D → Hb.St → Prop := fun ds st' => ∀ vs C' H', Post C H C' H' st' → RepAll C' vs ds → Q vs H'
def RB (C : RC) (H : Hp) (Q : Bool → Hp → Prop) : Bool → Hb.St → Prop := fun b st' => ∀ C' H', Post C H C' H' st' → Q b H'
theorem RB.shift {C C1 : RC} {H H1 : Hp} {Q : Bool → Hp → Prop} {st1 : Hb.St} (p : Post C H C1 H1 st1) {b : Bool} {st : Hb.St} (h : RB C H Q b st) : RB C1 H1 Q b st := fun C' H' q => h C' H' (p.trans q)

/-- what stands fixed: the program, the calls, the written objects, the defs' places, how an exception stands -/
structure G where
  Pg : Prog
  cl : Cl
  K : PySem.W.Frag
  w : World
  fa : Nat → Addr
  xr : XR
structure OkC (g : G) (C : RC) : Prop where
  K : C.K = g.K
  w : C.w = g.w
  fa : C.fa = g.fa
theorem OkC.step {g : G} {C C' : RC} (o : OkC g C) (L : C.Le C') : OkC g C' := ⟨L.K.trans o.K, L.w.trans o.w, L.fa.trans o.fa⟩
variable (g : G) (W : WX) (H0 : Hp)
def tE (ir : E) (env : Hb.Env) : TE := fun σ H Q => ∃ C st, OkC g C ∧ Sim C H0 H env st σ ∧ OutG (evE g.Pg g.cl ir env st) (RE C H Q) (ZG g.xr W C H σ)
/-- a value that is sealed behind it -/
def tD (ir : E) (env : Hb.Env) : TE := fun σ H Q => ∃ C st, OkC g C ∧ Sim C H0 H env st σ ∧ OutG ((do let x ← evE g.Pg g.cl ir env; sealed x : M D) st) (RD C H Q) (ZG g.xr W C H σ)
def tAs (irs : List E) (env : Hb.Env) : TA := fun σ H Q => ∃ C st, OkC g C ∧ Sim C H0 H env st σ ∧ OutG (evA g.Pg g.cl irs env st) (RA C H Q) (ZG g.xr W C H σ)
def tT (ir : E) (env : Hb.Env) : TT := fun σ H Q => ∃ C st, OkC g C ∧ Sim C H0 H env st σ ∧ OutG ((do let x ← evE g.Pg g.cl ir env; asBl x.2 : M Bool) st) (RB C H Q) (ZG g.xr W C H σ)
end

/-! ### sealing -/
theorem dp_keep (a : Addr) (es : List En) : ∀ h1 h2 : Heap, DP a es h1 → (∀ o, h1.get? a = some o → h2.get? a = some o) → DP a es h2 :=
  fun _ _ ⟨o, ens, ep, ho, r⟩ k => ⟨o, ens, ep, k o ho, r⟩
theorem dp_ok {P : Program} {w : World} {H : Hp} {h : Heap} {a : Addr} {es : List En} (x : DP a es h) : ObjOk P w H h a (.ext (DP a es)) := by
  obtain ⟨o, ens, ep, ho, r⟩ := id x
  exact ⟨x, ⟨o, ho⟩, dp_keep a es⟩
theorem ext_of {P : Program} {w : World} {H : Hp} {h : Heap} {a : Addr} {φ : Heap → Prop} (x : ObjOk P w H h a (.ext φ)) : φ h := by
  obtain ⟨y, _⟩ := x
  exact y
/-- an own object is frozen: C, H where it is held; s the state -/
theorem freeze {X : Cx} {pins : List (Addr × Obj)} {σ : List (Option V)} {H : Hp} {s : Shared} {C : RC} {a : Addr} {d : D} (I : Inv X pins σ H s) (n : C.F a = none) (m : ¬ C.G a) (q : ObjR C H a d) (sub : ∀ a o, C.F a = some o → H a = some o) :
    ∃ C' H', Inv X pins σ H' s ∧ C.Le C' ∧ (∀ b o, C'.F b = some o → H' b = some o) ∧ (∀ b o, C'.F b = some o → C.F b = some o ∨ b = a) ∧ C'.gl = C.gl ∧ (∀ b, b ≠ a → H' b = H b) ∧ (∃ o, H' a = some o) ∧ Rep C' (.ref a) d := by
  cases d with
  | lst ds =>
    obtain ⟨xs, e, r⟩ := q
    refine ⟨{ C with F := upd C.F a (.lst xs) }, H, I, ?_⟩
    have L : C.Le { C with F := upd C.F a (.lst xs) } := ⟨rfl, rfl, rfl, fun b o h => by show upd C.F a (.lst xs) b = some o; rw [upd_ne (ne_of_none h n)]; exact h, fun _ _ h => h⟩
    refine ⟨L, fun b o h => ?_, fun b o h => ?_, rfl, fun _ _ => rfl, ⟨_, e⟩, .lst upd_same (RepAll.mono L _ _ r)⟩
    · have h : upd C.F a (.lst xs) b = some o := h
      by_cases hb : b = a
      · subst hb; rw [upd_same] at h; cases h; exact e
      · rw [upd_ne hb] at h; exact sub b o h
    · have h : upd C.F a (.lst xs) b = some o := h
      by_cases hb : b = a
      · exact .inr hb
      · rw [upd_ne hb] at h; exact .inl h
  | dct kvs =>
    obtain ⟨es, e, r, dk⟩ := q
    have ok := I.hok a _ e
    obtain ⟨o, ens, ep, ho, rest⟩ := id (ext_of ok)
    refine ⟨{ C with F := upd C.F a (.frz o (.ext (DP a es))) }, upd H a (.frz o (.ext (DP a es))), ?_, ?_⟩
    · have J := I.write (x := a) (e := a) (o := .frz o (.ext (DP a es))) (h' := s.heap) (t' := s.toks) (by rw [e]; exact True.intro) (.inl rfl) (fun _ _ _ z => z) ⟨o, ho⟩ ⟨ho, dp_ok ⟨o, ens, ep, ho, rest⟩⟩
      exact J
    have L : C.Le { C with F := upd C.F a (.frz o (.ext (DP a es))) } := ⟨rfl, rfl, rfl, fun b o' h => by show upd C.F a _ b = some o'; rw [upd_ne (ne_of_none h n)]; exact h, fun _ _ h => h⟩
    refine ⟨L, fun b o' h => ?_, fun b o' h => ?_, rfl, fun b hb => upd_ne hb, ⟨_, upd_same⟩, .dct (o := o) upd_same (RepEnts.mono L _ _ r) dk⟩
    · have h : upd C.F a (.frz o (.ext (DP a es))) b = some o' := h
      by_cases hb : b = a
      · subst hb; rw [upd_same] at h; cases h; exact upd_same
      · rw [upd_ne hb] at h
        rw [upd_ne hb]
        exact sub b o' h
    · have h : upd C.F a (.frz o (.ext (DP a es))) b = some o' := h
      by_cases hb : b = a
      · exact .inr hb
      · rw [upd_ne hb] at h; exact .inl h
  | _ => exact (show False from q).elim

theorem G_of {C C' : RC} (re : C'.gl = C.gl) {a : Addr} (h : C'.G a) : C.G a := let ⟨t, e⟩ := h; ⟨t, by rw [← re]; exact e⟩
theorem RowOk.at {C C' : RC} {H H' : Hp} {st : Hb.St} (L : C.Le C') (re : C'.gl = C.gl) (hF : ∀ a, C.G a → C'.F a = none) (hH : ∀ a, C.G a → H' a = H a) (h : RowOk C H st) : RowOk C' H' st := by
  refine ⟨?_, ?_, fun n => ?_, fun n m a e e' => h.inj n m a (by rw [← re]; exact e) (by rw [← re]; exact e')⟩
  · have h := h.row
    unfold RowP at h ⊢
    cases e : st.row with
    | none => rw [e] at h; rw [re]; exact h
    | some r =>
      rw [e] at h
      obtain ⟨a, xs, h1, h2, h3, h4⟩ := h
      have g : C.G a := ⟨_, h1⟩
      exact ⟨a, xs, by rw [re]; exact h1, hF a g, (hH a g).trans h3, RepAll.mono L _ _ h4⟩
  · have h := h.mem
    unfold MemP at h ⊢
    cases e : st.memo with
    | none => rw [e] at h; rw [re]; exact h
    | some r =>
      rw [e] at h
      obtain ⟨a, h1, h2, h3⟩ := h
      have g : C.G a := ⟨_, h1⟩
      exact ⟨a, by rw [re]; exact h1, hF a g, h3.mono L fun o ho => (hH a g).trans ho⟩
  · have h := h.rds n
    unfold RdP at h ⊢
    cases e : st.rds[n]? with
    | none => rw [e] at h; rw [re]; exact h
    | some r =>
      rw [e] at h
      obtain ⟨a, dx, h1, h2, h3⟩ := h
      have g : C.G a := ⟨_, h1⟩
      refine ⟨a, dx, by rw [re]; exact h1, hF a g, (hH a g).trans (h3.trans ?_)⟩
      unfold rdO
      rw [L.fa]

/-- a new value is sealed -/
theorem seal_new {X : Cx} {pins : List (Addr × Obj)} {σ : List (Option V)} {H H' : Hp} {s : Shared} {C C' : RC} {st : Hb.St} {v : V} {d : D} (I : Inv X pins σ H' s) (p : Post C H C' H' st) (r : RepK C' H' .fr v d) (n : New H .fr v) :
    ∃ C'' H'', Inv X pins σ H'' s ∧ Post C H C'' H'' st ∧ Rep C'' v d := by
  obtain ⟨a, rfl, nF, nr, q⟩ := r
  have na := n a rfl
  obtain ⟨C2, H2, J, L, sub, fn, re, oth, th, rep⟩ := freeze I nF nr q p.sub
  refine ⟨C2, H2, J, ⟨p.le.trans L, sub, fun b o h => ?_, fun b h => p.rnew b (G_of re h), fun b o h m => ?_, fun b o h => ?_, ?_⟩, rep⟩
  · rcases fn b o h with h | h
    · exact p.fnew b o h
    · right; rw [h]; exact na
  · have hb : b ≠ a := fun e => by rw [e, na] at h; cases h
    rw [oth b hb]
    exact p.keep b o h m
  · have hb : b ≠ a := fun e => by rw [e, na] at h; cases h
    rw [oth b hb]
    exact p.there b o h
  · refine p.row.at L re (fun b h => ?_) fun b h => oth b fun e => nr (e ▸ h)
    cases z : C2.F b with
    | none => rfl
    | some u =>
      exfalso
      rcases fn b u z with z | z
      · rw [(p.row.gl h).1] at z; cases z
      · exact nr (z ▸ h)
section
variable {X : Cx} {g : G} {W : WX} {H0 : Hp} {ir : E} {env : Hb.Env} {e : Expr}
theorem PE.seal (h : PE X e (tE g W H0 ir env)) : PE X e (tD g W H0 ir env) := by
  refine ⟨fun pins s σ H Q I hw => ?_⟩
  obtain ⟨C, st, oc, S, o⟩ := hw
  have o := OutG.bind o
  refine thn (h.run pins s σ H (fun v H' => ∃ k d C' st', Post C H C' H' st' ∧ RepK C' H' k v d ∧ New H k v ∧ OutG (sealed (k, d) st') (RD C H Q) (ZG g.xr W C H σ)) I ⟨C, st, oc, S, o.imp (fun kd st' q v C' H' p r n => ⟨kd.1, kd.2, C', st', p, r, n, q⟩) fun _ _ _ z => z⟩)
    fun u s' ⟨v, H', I', rv, k, d, C', st', p, r, n, q⟩ => ?_
  cases k with
  | sh => exact ⟨v, H', I', rv, q v C' H' p r⟩
  | fr =>
    obtain ⟨C2, H2, J, p2, r2⟩ := seal_new I' p r n
    exact ⟨v, H2, J, rv, q v C2 H2 p2 r2⟩
  | br => exact (show False from q).elim
def unfr : Hb.K → Hb.K
  | .fr => .sh
  | k => k
/-- what is new is sealed -/
def RF (C : RC) (H : Hp) (Q : VK) : KD → Hb.St → Prop := fun kd st' => ∀ v C' H', Post C H C' H' st' → RepK C' H' (unfr kd.1) v kd.2 → Q v H'
def tF (g : G) (W : WX) (H0 : Hp) (ir : E) (env : Hb.Env) : TE := fun σ H Q => ∃ C st, OkC g C ∧ Sim C H0 H env st σ ∧ OutG (evE g.Pg g.cl ir env st) (RF C H Q) (ZG g.xr W C H σ)
theorem PE.sealF (h : PE X e (tE g W H0 ir env)) : PE X e (tF g W H0 ir env) := by
  refine ⟨fun pins s σ H Q I hw => ?_⟩
  obtain ⟨C, st, oc, S, o⟩ := hw
  refine thn (h.run pins s σ H (fun v H' => ∃ k d C' st', Post C H C' H' st' ∧ RepK C' H' k v d ∧ New H k v ∧ RF C H Q (k, d) st') I ⟨C, st, oc, S, o.imp (fun kd st' q v C' H' p r n => ⟨kd.1, kd.2, C', st', p, r, n, q⟩) fun _ _ _ z => z⟩)
    fun u s' ⟨v, H', I', rv, k, d, C', st', p, r, n, q⟩ => ?_
  cases k with
  | sh => exact ⟨v, H', I', rv, q v C' H' p r⟩
  | fr =>
    obtain ⟨C2, H2, J, p2, r2⟩ := seal_new I' p r n
    exact ⟨v, H2, J, rv, q v C2 H2 p2 r2⟩
  | br => exact ⟨v, H', I', rv, q v C' H' p r⟩
end
end Hb
namespace Hb
open PySem PySem.Spec PyProof.Rows L2

/-! ### new tuples, with the object itself told: it has no dict of its own -/
def NewT (Q : VK) (H : Hp) (xs : List V) : Prop := ∀ p ob, H p = none → ob.dict = none → Q (.ref p) (upd H p (.frz ob (.tup xs)))
section
variable {X : Cx} {pins : List (Addr × Obj)} {σ : List (Option V)} {H : Hp} {s : Shared}
theorem tup_laid {h' : Heap} {tk : Nat} {xs : List V} {us : List Value} {a : Addr} {ob : Obj} {n : Nat} (I : Inv X pins σ H s) (kp : ∀ b u, s.heap.get? b = some u → h'.get? b = some u) (ha : s.heap.objs.size ≤ a)
    (e : h'.get? a = some ob) (hc : ob.cls = .type "tuple") (hd : ob.data = .seq us.toArray n) (hz : xs.length ≤ sizeLine) (r : Vals xs us) : Inv X pins σ (upd H a (.frz ob (.tup xs))) { s with heap := h', toks := tk } :=
  I.laid kp ha ⟨e, hz, us, r, ⟨ob, e, hc, n, hd⟩⟩
theorem tup_put {tk : Nat} {xs : List V} {us : List Value} {n : Nat} {Q : VK} (I : Inv X pins σ H s) (hz : xs.length ≤ sizeLine) (r : Vals xs us) (q : NewT Q H xs) :
    EP X pins σ Q (.ref s.heap.objs.size) { s with heap := s.heap.push { cls := .type "tuple", data := .seq us.toArray n }, toks := tk } :=
  ⟨.ref s.heap.objs.size, _, tup_laid I (fun b ob z => Heap.get?_push_of_some _ z) (Nat.le_refl _) (Heap.get?_push_size _ rfl) rfl rfl hz r, rfl, q _ _ (I.hok.fresh (Nat.le_refl _)) rfl⟩
end
section
variable {X : Cx}
/-- t + u -/
def rCatX (K : PySem.W.Frag) : R2 := fun x y H Q => ∃ a b xs ys, x = .ref a ∧ y = .ref b ∧ SqT K H a xs ∧ SqT K H b ys ∧ xs.length + ys.length ≤ sizeLine ∧
  (xs = [] → Q (.ref b) H) ∧ (xs ≠ [] → ys = [] → Q (.ref a) H) ∧ NewT Q H (xs ++ ys)
theorem op_catX : OpR X (binaryOp .Add) (rCatX X.K) := by
  intro pins s σ H x y v u Q I rx ry h
  obtain ⟨a, b, xs, ys, rfl, rfl, ha, hb, hz, q0, q1, q2⟩ := h
  cases rx
  cases ry
  obtain ⟨as, r1, p1, _⟩ := I.tuple ha
  obtain ⟨bs, r2, p2, _⟩ := I.tuple hb
  by_cases hx : xs = []
  · subst hx
    cases r1
    exact cat_tup0 p1 p2 ⟨.ref b, H, I, rfl, q0 rfl⟩
  · refine HT.cat_tup p1 p2 (fun z => hx (r1.nil_iff.mp z)) (fun z => ⟨.ref a, H, I, rfl, q1 hx (r2.nil_iff.mp z)⟩) (fun z => ?_) (by have := r1.length; have := r2.length; omega)
    exact tup_put I (by rw [List.length_append]; exact hz) (r1.append r2) q2
/-- t[lo:hi] -/
def rSlX (K : PySem.W.Frag) : V → Option Int → Option Int → Hp → VK → Prop := fun x lo hi H Q => ∃ a xs, x = .ref a ∧ SqT K H a xs ∧
  (HT.sIx xs.length 0 lo = 0 ∧ HT.sIx xs.length xs.length hi = xs.length → Q (.ref a) H) ∧ NewT Q H (cutV xs lo hi)
theorem sl_tupX : SlR X (rSlX X.K) := by
  intro pins s σ H x v vl vu lo hi sl Q I rx hs pl pu h
  obtain ⟨a, xs, rfl, ha, q1, q2⟩ := h
  cases rx
  obtain ⟨as, r, p1, hz⟩ := I.tuple ha
  have hlen : as.toArray.size = xs.length := by rw [List.size_toArray, r.length]
  refine ⟨"tuple", _, PyProof.Rows.slot_tuple_getitem.lookup, p1.typeIs, ?_⟩
  by_cases hw : HT.sIx xs.length 0 lo = 0 ∧ HT.sIx xs.length xs.length hi = xs.length
  · exact getItem_tuple_whole p1 hs pl pu (hlen.symm ▸ hw) ⟨.ref a, H, I, rfl, q1 hw⟩
  · refine HT.getItem_tuple_cut p1 hs pl pu (hlen.symm ▸ hw) ?_ (hlen.symm ▸ hz)
    rw [hlen]
    exact tup_put I (Nat.le_trans (cutV_length xs lo hi) hz) ((r.drop (HT.sIx xs.length 0 lo)).take (HT.sIx xs.length xs.length hi - HT.sIx xs.length 0 lo)) q2
/-- tuple(xs) -/
theorem call_tupleX : CallR X (.type "tuple") (fun xs H Q => ∃ p ys, xs = [.ref p] ∧ ((SqL X.K H p ys ∧ NewT Q H ys) ∨ (SqT X.K H p ys ∧ Q (.ref p) H))) := by
  intro pins s σ H xs us Q I r h
  obtain ⟨p, ys, rfl, h⟩ := h
  obtain ⟨u, rfl, rx⟩ := vals1 r
  cases rx
  rcases h with ⟨ha, q⟩ | ⟨ha, q⟩
  · obtain ⟨as, r', p1, hz⟩ := I.list ha
    have hl := r'.length
    refine call_tuple_list p1.isList (fun h' kp => ?_) (by rw [List.size_toArray]; omega)
    exact tup_put (tk := s.toks) (s := { s with heap := h' }) (I.kept (t' := s.toks) kp) hz r' q
  · obtain ⟨as, r', p1, hz⟩ := I.tuple ha
    exact call_tuple_same p1 ⟨.ref p, H, I, rfl, q⟩
/-- a written tuple -/
def tTupX (t : TA) : TE := fun σ H Q => t σ H fun xs H1 => xs.length ≤ sizeLine ∧ NewT Q H1 xs
theorem pe_tupX {es : List Expr} {t : TA} {pos : Pos} {k : Nat} (h : PA X es t) : PE X (.Tuple es k pos) (tTupX t) := by
  refine ⟨fun pins s σ H Q I hq => ?_⟩
  refine wpAny_Tuple_spliced (thn (h.run pos pins s σ H _ I hq) fun us s1 ⟨xs, H1, I1, r, z, q⟩ => ⟨r.length ▸ z, ?_⟩)
  exact tup_put (tk := s1.toks) I1 z r q
/-- tuple(range(..)) -/
def tTupRgX (te : List (Option V) → Hp → (Int → Int → Hp → Prop) → Prop) : TE := fun σ H Q => te σ H fun a b H1 => RgOk a b ∧ NewT Q H1 (rgV a b)
theorem pe_tupRgX {e : Expr} {te : List (Option V) → Hp → (Int → Int → Hp → Prop) → Prop} {p pos : Pos} (hc : X.calm = true) (hg : Gl X "tuple") (hm : X.mg "tuple" = none) (he : PRg X e te) (na : starEach [e] X.env = (false, eval e X.env) :: starEach [] X.env) : PE X (.Call (.Name "tuple" p) [e] [] pos) (tTupRgX te) := by
  refine ⟨fun pins s σ H Q I h => ?_⟩
  refine Call_ (ld_blt I hg hm boot_tuple (PyProof.Rows.callWith_type1 (args_cons (thn (he pins s σ H _ I h) fun x s1 ⟨r, a, b, t, u, v, H1, ex, hr, I1, ok, q⟩ => args_nil ?_) na) na))
  subst ex
  obtain ⟨b1, b2, b3, b4, b5⟩ := ok
  refine call_tuple_range (n := (b - a).toNat) (I1.ok.hd hc) hr (small_one b1 b2 b3 b4) (rangeSize_nat a b) b5 fun h' tk acc hk hi => ?_
  have J := tup_put (tk := tk) (us := acc.toList) (n := 0) (s := { s1 with heap := h', toks := tk }) (I1.kept (t' := tk) hk) (by rw [rgV_length, sizeLine_eq]; omega) (vals_rg hi) q
  exact J
/-- t * n -/
def rRepX (K : PySem.W.Frag) : R2 := fun x y H Q => ∃ l k xs, x = .ref l ∧ y = .int k ∧ SqT K H l xs ∧ xs ≠ [] ∧ 2 ≤ k ∧ k ≤ 1000 ∧ xs.length ≤ 1000 ∧ NewT Q H (List.replicate k.toNat xs).flatten
theorem op_repX : OpR X (binaryOp .Mult) (rRepX X.K) := by
  intro pins s σ H x y v u Q I rx ry h
  obtain ⟨l, k, xs, rfl, rfl, hT, hne, h1, h2, hz, q⟩ := h
  cases rx
  obtain ⟨t, rfl⟩ := ry
  obtain ⟨as, r, ⟨⟨cls, dd, data, sl⟩, ho, hc, n, hd⟩, hs⟩ := I.tuple hT
  simp only at hc hd
  subst hc hd
  have hle := r.length
  have hn : as ≠ [] := fun e => hne (by rw [e] at hle; exact List.eq_nil_of_length_eq_zero hle)
  have hi : as.toArray.isEmpty = false := by cases as <;> first | exact absurd rfl hn | rfl
  have hsz0 : as.toArray.size = xs.length := by rw [List.size_toArray, hle]
  have hm : ((as.toArray.size : Nat) : Int) * k ≤ 1000000 := by
    rw [hsz0]
    have a1 : ((xs.length : Nat) : Int) * k ≤ 1000 * k := Int.mul_le_mul_of_nonneg_right (by omega) (by omega)
    omega
  have a2 : k.toNat * xs.length ≤ 1000 * 1000 := Nat.mul_le_mul (by omega) hz
  have flen : (List.replicate k.toNat as).flatten.length ≤ sizeLine := by
    rw [PyProof.Rows.lm_len_rep_flat, ← hle, sizeLine_eq]
    omega
  have c0 : (decide (k < -(2 ^ 63)) || decide (k ≥ 2 ^ 63)) = false := by
    simp only [decide_eq_false (show ¬ k < -(2 ^ 63) by omega), decide_eq_false (show ¬ k ≥ 2 ^ 63 by omega), Bool.or_self]
  have c1 : (as.toArray.isEmpty || k == 1) = false := by
    rw [hi, Bool.false_or, beq_eq_false_iff_ne]
    omega
  have c2 : (decide (k ≤ 0) || as.toArray.isEmpty) = false := by
    rw [hi, Bool.or_false, decide_eq_false (by omega)]
  have c4 : Builtin.Tuple.tupleTooMany (((as.toArray.size : Nat) : Int) * k) = false := by
    unfold Builtin.Tuple.tupleTooMany
    rw [sizeLine_eq, decide_eq_false (by omega)]
  refine wpAny_binaryOp_repeat_ref (T := "tuple") (U := "int") (by decide) ⟨_, ho, rfl⟩ (fun s' => typeIs_int s' k t) noFill_tuple_mul F.fills_int_mul F.slot_int_rmul repeat_tuple F.slot_int_index.lookup
    (call_meets F.slot_int_rmul (typeIs_int s k t) F.entry_int_rmul (F.args_int_rmul_2 _ _) (int_rmul_tuple k t l as.toArray n dd sl)
      ⟨ho, rfl, ⟨_, ho, rfl⟩, call_meets F.slot_tuple_mul ⟨_, ho, rfl⟩ F.entry_tuple_mul (F.args_tuple_mul_2 _ _) (tuple_mulW l as.toArray n dd sl k t c0 c1 c2 (by omega) c4 (by rw [size_rep, List.size_toArray]; exact flen)) ⟨ho, ?_⟩⟩)
  rw [size_rep]
  exact tup_put (tk := s.toks) I (by rw [PyProof.Rows.lm_len_rep_flat, sizeLine_eq]; omega) (r.rep k.toNat) q
end
/-! ### t * n, of any small n -/
theorem tuple_mul_same (l : Addr) (items : Array Value) (n : Nat) (dd : Option Addr) (sl : Array (Option Value)) (x : Int) (u : Tok) (c0 : (decide (x < -(2 ^ 63)) || decide (x ≥ 2 ^ 63)) = false) (c1 : (items.isEmpty || x == 1) = true) :
    Meets (Builtin.«tuple.__mul__» ⟨[.ref l, .int x u], []⟩) (fun _ R s => s.heap.get? l = some { cls := .type "tuple", dict := dd, data := .seq items n, slots := sl } ∧ R (.ok (.ret (Value.ref l))) s) :=
  .of_wp fun prog w A R s h => by
    obtain ⟨hp, g, d, tk, os⟩ := s
    obtain ⟨hl, h⟩ := h
    have f1 := AutoSeq1.idx_int
    wp_walk using wpAny_loadPart' hl
    repeat (first
      | (refine wpAny_ite_false (decide_eq_false (by rw [c0]; exact Bool.false_ne_true)) ?_; wp_walk using wpAny_loadPart' hl)
      | (refine wpAny_ite_true (decide_eq_true c1) ?_; wp_walk using wpAny_loadPart' hl))
    exact ⟨_, rfl, h⟩
theorem tuple_mul_zero (l : Addr) (items : Array Value) (n : Nat) (dd : Option Addr) (sl : Array (Option Value)) (x : Int) (u : Tok) (c0 : (decide (x < -(2 ^ 63)) || decide (x ≥ 2 ^ 63)) = false) (c1 : (items.isEmpty || x == 1) = false) (c2 : (decide (x ≤ 0) || items.isEmpty) = true) :
    Meets (Builtin.«tuple.__mul__» ⟨[.ref l, .int x u], []⟩) (fun _ R s => s.heap.get? l = some { cls := .type "tuple", dict := dd, data := .seq items n, slots := sl } ∧ R (.ok (.ret (Value.ref s.heap.objs.size))) { s with heap := s.heap.push { cls := Value.type "tuple", data := Data.seq #[] }, toks := s.toks }) :=
  .of_wp fun prog w A R s h => by
    obtain ⟨hp, g, d, tk, os⟩ := s
    obtain ⟨hl, h⟩ := h
    have f1 := AutoSeq1.idx_int
    wp_walk using wpAny_loadPart' hl
    repeat (first
      | (refine wpAny_ite_false (decide_eq_false (by rw [c0]; exact Bool.false_ne_true)) ?_; wp_walk using wpAny_loadPart' hl)
      | (refine wpAny_ite_false (decide_eq_false (by rw [c1]; exact Bool.false_ne_true)) ?_; wp_walk using wpAny_loadPart' hl)
      | (refine wpAny_ite_true (decide_eq_true c2) ?_; wp_walk using wpAny_loadPart' hl))
    exact ⟨_, rfl, h⟩
section
variable {X : Cx}
/-- t * n, of any small n -/
def rRepY (K : PySem.W.Frag) : R2 := fun x y H Q => ∃ l k xs, x = .ref l ∧ y = .int k ∧ SqT K H l xs ∧ -1000 ≤ k ∧ k ≤ 1000 ∧ xs.length ≤ 1000 ∧ ((xs = [] ∨ k = 1) → Q (.ref l) H) ∧ (¬ (xs = [] ∨ k = 1) → NewT Q H (List.replicate k.toNat xs).flatten)
theorem op_repY : OpR X (binaryOp .Mult) (rRepY X.K) := by
  intro pins s σ H x y v u Q I rx ry h
  obtain ⟨l, k, xs, rfl, rfl, hT, h1, h2, hz, q1, q2⟩ := h
  by_cases hne : xs ≠ [] ∧ 2 ≤ k
  · exact op_repX pins s σ H _ _ v u Q I rx ry ⟨l, k, xs, rfl, rfl, hT, hne.1, hne.2, h2, hz, q2 fun z => z.elim hne.1 fun z => by omega⟩
  cases rx
  obtain ⟨t, rfl⟩ := ry
  obtain ⟨as, r, ⟨⟨cls, dd, data, sl⟩, ho, hc, n, hd⟩, hs⟩ := I.tuple hT
  simp only at hc hd
  subst hc hd
  have hle := r.length
  have c0 : (decide (k < -(2 ^ 63)) || decide (k ≥ 2 ^ 63)) = false := by
    simp only [decide_eq_false (show ¬ k < -(2 ^ 63) by omega), decide_eq_false (show ¬ k ≥ 2 ^ 63 by omega), Bool.or_self]
  by_cases hs1 : xs = [] ∨ k = 1
  · have c1 : (as.toArray.isEmpty || k == 1) = true := by
      rcases hs1 with rfl | rfl
      · cases r; rfl
      · rw [Bool.or_eq_true]; exact .inr rfl
    refine wpAny_binaryOp_repeat_ref (T := "tuple") (U := "int") (by decide) ⟨_, ho, rfl⟩ (fun s' => typeIs_int s' k t) noFill_tuple_mul F.fills_int_mul F.slot_int_rmul repeat_tuple F.slot_int_index.lookup
      (call_meets F.slot_int_rmul (typeIs_int s k t) F.entry_int_rmul (F.args_int_rmul_2 _ _) (int_rmul_tuple k t l as.toArray n dd sl)
        ⟨ho, rfl, ⟨_, ho, rfl⟩, call_meets F.slot_tuple_mul ⟨_, ho, rfl⟩ F.entry_tuple_mul (F.args_tuple_mul_2 _ _) (tuple_mul_same l as.toArray n dd sl k t c0 c1) ⟨ho, ?_⟩⟩)
    exact ⟨.ref l, H, I, rfl, q1 hs1⟩
  · have hx : xs ≠ [] := fun e => hs1 (.inl e)
    have hn : as ≠ [] := fun e => hx (by rw [e] at hle; exact List.eq_nil_of_length_eq_zero hle)
    have hi : as.toArray.isEmpty = false := by cases as <;> first | exact absurd rfl hn | rfl
    have k0 : k ≤ 0 := by
      have : k ≠ 1 := fun e => hs1 (.inr e)
      have : ¬ 2 ≤ k := fun e => hne ⟨hx, e⟩
      omega
    have c1 : (as.toArray.isEmpty || k == 1) = false := by
      rw [hi, Bool.false_or, beq_eq_false_iff_ne]
      omega
    have c2 : (decide (k ≤ 0) || as.toArray.isEmpty) = true := by rw [decide_eq_true k0]; rfl
    refine wpAny_binaryOp_repeat_ref (T := "tuple") (U := "int") (by decide) ⟨_, ho, rfl⟩ (fun s' => typeIs_int s' k t) noFill_tuple_mul F.fills_int_mul F.slot_int_rmul repeat_tuple F.slot_int_index.lookup
      (call_meets F.slot_int_rmul (typeIs_int s k t) F.entry_int_rmul (F.args_int_rmul_2 _ _) (int_rmul_tuple k t l as.toArray n dd sl)
        ⟨ho, rfl, ⟨_, ho, rfl⟩, call_meets F.slot_tuple_mul ⟨_, ho, rfl⟩ F.entry_tuple_mul (F.args_tuple_mul_2 _ _) (tuple_mul_zero l as.toArray n dd sl k t c0 c1 c2) ⟨ho, ?_⟩⟩)
    have q := q2 hs1
    rw [show k.toNat = 0 by omega] at q
    have q : NewT Q H [] := q
    exact tup_put (tk := s.toks) (us := []) (n := 0) I (by simp) .nil q
end
end Hb
namespace Hb
open PySem PySem.Spec PyProof.Rows L2

/-! ### plain data -/
mutual
def D.py : D → PyData
  | .bl b => .bool b
  | .int i => .int i
  | .str x => .str x
  | .tup xs => .tuple (D.pys xs)
  | .lst xs => .list (D.pys xs)
  | _ => .none
def D.pys : List D → List PyData
  | [] => []
  | x :: xs => D.py x :: D.pys xs
end
theorem pys_map : ∀ ds : List D, D.pys ds = ds.map D.py
  | [] => rfl
  | d :: ds => by rw [D.pys, pys_map ds]; rfl
mutual
theorem plain_py : ∀ (d : D) (n : Nat), D.plainN n d = true → d.py.plain = true ∧ d.py.depth ≤ n
  | .non, n, _ => ⟨rfl, Nat.zero_le _⟩
  | .bl _, n, _ => ⟨rfl, Nat.zero_le _⟩
  | .int _, n, _ => ⟨rfl, Nat.zero_le _⟩
  | .str _, n, _ => ⟨rfl, Nat.zero_le _⟩
  | .tup xs, n + 1, h => by
    have h : D.plainsN n xs = true := h
    obtain ⟨h1, h2⟩ := plains_py xs n h
    refine ⟨by show PyData.plain (.tuple (D.pys xs)) = true; rw [PyData.plain]; exact h1, ?_⟩
    show PyData.depth (.tuple (D.pys xs)) ≤ n + 1
    rw [PyData.depth]; omega
  | .lst xs, n + 1, h => by
    have h : D.plainsN n xs = true := h
    obtain ⟨h1, h2⟩ := plains_py xs n h
    refine ⟨by show PyData.plain (.list (D.pys xs)) = true; rw [PyData.plain]; exact h1, ?_⟩
    show PyData.depth (.list (D.pys xs)) ≤ n + 1
    rw [PyData.depth]; omega
  | .tup xs, 0, h => nomatch h
  | .lst xs, 0, h => nomatch h
  | .dct _, 0, h => nomatch h
  | .dct _, _ + 1, h => nomatch h
  | .fn _, 0, h => nomatch h
  | .fn _, _ + 1, h => nomatch h
  | .exc _ _, 0, h => nomatch h
  | .exc _ _, _ + 1, h => nomatch h
  | .row, 0, h => nomatch h
  | .memo, 0, h => nomatch h
  | .rdr _, 0, h => nomatch h
  | .row, _ + 1, h => nomatch h
  | .memo, _ + 1, h => nomatch h
  | .rdr _, _ + 1, h => nomatch h
  | .scr _, 0, h => nomatch h
  | .scr _, _ + 1, h => nomatch h
theorem plains_py : ∀ (ds : List D) (n : Nat), D.plainsN n ds = true → PyData.plainAll (D.pys ds) = true ∧ PyData.depthAll (D.pys ds) ≤ n
  | [], n, _ => ⟨rfl, Nat.zero_le _⟩
  | d :: ds, n, h => by
    have h : (D.plainN n d && D.plainsN n ds) = true := h
    rw [Bool.and_eq_true] at h
    obtain ⟨a1, a2⟩ := plain_py d n h.1
    obtain ⟨b1, b2⟩ := plains_py ds n h.2
    rw [D.pys]
    refine ⟨by rw [PyData.plainAll, a1, b1]; rfl, by rw [PyData.depthAll]; omega⟩
end
mutual
theorem plain_up : ∀ (d : D) (n m : Nat), n ≤ m → D.plainN n d = true → D.plainN m d = true
  | .non, n, m, _, _ => by cases m <;> rfl
  | .bl _, n, m, _, _ => by cases m <;> rfl
  | .int _, n, m, _, _ => by cases m <;> rfl
  | .str _, n, m, _, _ => by cases m <;> rfl
  | .tup xs, n + 1, m, hm, h => by
    obtain ⟨k, rfl⟩ : ∃ k, m = k + 1 := ⟨m - 1, by omega⟩
    exact plains_up xs n k (by omega) h
  | .lst xs, n + 1, m, hm, h => by
    obtain ⟨k, rfl⟩ : ∃ k, m = k + 1 := ⟨m - 1, by omega⟩
    exact plains_up xs n k (by omega) h
  | .tup xs, 0, _, _, h => nomatch h
  | .lst xs, 0, _, _, h => nomatch h
  | .dct _, 0, _, _, h => nomatch h
  | .dct _, _ + 1, _, _, h => nomatch h
  | .fn _, 0, _, _, h => nomatch h
  | .fn _, _ + 1, _, _, h => nomatch h
  | .exc _ _, 0, _, _, h => nomatch h
  | .exc _ _, _ + 1, _, _, h => nomatch h
  | .row, 0, _, _, h => nomatch h
  | .memo, 0, _, _, h => nomatch h
  | .rdr _, 0, _, _, h => nomatch h
  | .row, _ + 1, _, _, h => nomatch h
  | .memo, _ + 1, _, _, h => nomatch h
  | .rdr _, _ + 1, _, _, h => nomatch h
  | .scr _, 0, _, _, h => nomatch h
  | .scr _, _ + 1, _, _, h => nomatch h
theorem plains_up : ∀ (ds : List D) (n m : Nat), n ≤ m → D.plainsN n ds = true → D.plainsN m ds = true
  | [], _, _, _, _ => rfl
  | d :: ds, n, m, hm, h => by
    have h : (D.plainN n d && D.plainsN n ds) = true := h
    rw [Bool.and_eq_true] at h
    show (D.plainN m d && D.plainsN m ds) = true
    rw [plain_up d n m hm h.1, plains_up ds n m hm h.2]; rfl
end
mutual
theorem rep_dp {C : RC} {K : PySem.W.Frag} {H : Hp} (hK : C.K = K) (sub : ∀ a o, C.F a = some o → H a = some o) : ∀ (d : D) (n : Nat) (v : V), D.plainN n d = true → Rep C v d → Dp K H v d.py
  | .non, _, _, _, h => by cases h; exact .non
  | .bl b, _, _, _, h => by cases h; exact .bl b
  | .int i, _, _, _, h => by cases h; exact .int i
  | .str x, _, _, _, h => by cases h; exact .str x
  | .tup ds, n + 1, _, hp, h => by
    cases h with
    | tup h1 h2 => exact .tup (by rw [← hK]; exact sqT_mono sub h1.sq) (repAll_dp hK sub ds n _ hp h2)
  | .lst ds, n + 1, _, hp, h => by
    cases h with
    | lst h1 h2 => exact .lst (.inl (.inl (sub _ _ h1))) (repAll_dp hK sub ds n _ hp h2)
  | .tup xs, 0, _, h, _ => nomatch h
  | .lst xs, 0, _, h, _ => nomatch h
  | .dct _, 0, _, h, _ => nomatch h
  | .dct _, _ + 1, _, h, _ => nomatch h
  | .fn _, 0, _, h, _ => nomatch h
  | .fn _, _ + 1, _, h, _ => nomatch h
  | .exc _ _, 0, _, h, _ => nomatch h
  | .exc _ _, _ + 1, _, h, _ => nomatch h
  | .row, 0, _, h, _ => nomatch h
  | .memo, 0, _, h, _ => nomatch h
  | .rdr _, 0, _, h, _ => nomatch h
  | .row, _ + 1, _, h, _ => nomatch h
  | .memo, _ + 1, _, h, _ => nomatch h
  | .rdr _, _ + 1, _, h, _ => nomatch h
  | .scr _, 0, _, h, _ => nomatch h
  | .scr _, _ + 1, _, h, _ => nomatch h
theorem repAll_dp {C : RC} {K : PySem.W.Frag} {H : Hp} (hK : C.K = K) (sub : ∀ a o, C.F a = some o → H a = some o) : ∀ (ds : List D) (n : Nat) (vs : List V), D.plainsN n ds = true → RepAll C vs ds → DpAll K H vs (D.pys ds)
  | [], _, _, _, h => by cases h; exact .nil
  | d :: ds, n, _, hp, h => by
    have hp : (D.plainN n d && D.plainsN n ds) = true := hp
    rw [Bool.and_eq_true] at hp
    cases h with
    | cons h1 h2 => exact .cons (rep_dp hK sub d n _ hp.1 h1) (repAll_dp hK sub ds n _ hp.2 h2)
end
theorem repK_dp {C : RC} {K : PySem.W.Frag} {H : Hp} (hK : C.K = K) (sub : ∀ a o, C.F a = some o → H a = some o) {k : Hb.K} {d : D} {v : V} (hp : d.plain = true) (h : RepK C H k v d) : Dp K H v d.py := by
  have go : (∃ a, v = .ref a ∧ C.F a = none ∧ ¬ C.G a ∧ ObjR C H a d) → Dp K H v d.py := fun ⟨a, e, _, _, q⟩ => by
    subst e
    cases d with
    | lst ds =>
      obtain ⟨xs, e, r⟩ := q
      exact .lst (.inl (.inl e)) (repAll_dp hK sub ds 39 _ hp r)
    | dct _ => exact nomatch (show false = true from hp)
    | _ => exact (show False from q).elim
  cases k with
  | sh => exact rep_dp hK sub d 40 v hp h
  | fr => exact go h
  | br => exact go h
mutual
theorem eqv_py : ∀ (d e : D) (n : Nat), D.plainN n d = true → D.plainN n e = true → D.eqv d e = PyData.eqv d.py e.py
  | .non, e, n, _, h => by cases e <;> first | rfl | (cases n <;> exact nomatch h)
  | .bl a, e, n, _, h => by cases e <;> first | rfl | (simp only [D.eqv, D.py, PyData.eqv]; done) | (cases n <;> exact nomatch h)
  | .int a, e, n, _, h => by cases e <;> first | rfl | (simp only [D.eqv, D.py, PyData.eqv]; done) | (cases n <;> exact nomatch h)
  | .str a, e, n, _, h => by cases e <;> first | rfl | (simp only [D.eqv, D.py, PyData.eqv]; done) | (cases n <;> exact nomatch h)
  | .tup xs, e, n + 1, hd, h => by
    cases e with
    | tup ys => simp only [D.eqv, D.py, PyData.eqv]; exact eqvs_py xs ys n hd h
    | non => rfl
    | bl _ => rfl
    | int _ => rfl
    | str _ => rfl
    | lst _ => rfl
    | _ => exact nomatch h
  | .lst xs, e, n + 1, hd, h => by
    cases e with
    | lst ys => simp only [D.eqv, D.py, PyData.eqv]; exact eqvs_py xs ys n hd h
    | non => rfl
    | bl _ => rfl
    | int _ => rfl
    | str _ => rfl
    | tup _ => rfl
    | _ => exact nomatch h
  | .tup xs, _, 0, h, _ => nomatch h
  | .lst xs, _, 0, h, _ => nomatch h
  | .dct _, _, 0, h, _ => nomatch h
  | .dct _, _, _ + 1, h, _ => nomatch h
  | .fn _, _, 0, h, _ => nomatch h
  | .fn _, _, _ + 1, h, _ => nomatch h
  | .exc _ _, _, 0, h, _ => nomatch h
  | .exc _ _, _, _ + 1, h, _ => nomatch h
  | .row, _, 0, h, _ => nomatch h
  | .memo, _, 0, h, _ => nomatch h
  | .rdr _, _, 0, h, _ => nomatch h
  | .row, _, _ + 1, h, _ => nomatch h
  | .memo, _, _ + 1, h, _ => nomatch h
  | .rdr _, _, _ + 1, h, _ => nomatch h
  | .scr _, _, 0, h, _ => nomatch h
  | .scr _, _, _ + 1, h, _ => nomatch h
theorem eqvs_py : ∀ (ds es : List D) (n : Nat), D.plainsN n ds = true → D.plainsN n es = true → D.eqvs ds es = PyData.eqvAll (D.pys ds) (D.pys es)
  | [], [], _, _, _ => rfl
  | [], _ :: _, _, _, _ => rfl
  | _ :: _, [], _, _, _ => rfl
  | d :: ds, e :: es, n, h, h' => by
    have h : (D.plainN n d && D.plainsN n ds) = true := h
    have h' : (D.plainN n e && D.plainsN n es) = true := h'
    rw [Bool.and_eq_true] at h h'
    simp only [D.eqvs, D.pys, PyData.eqvAll]
    rw [eqv_py d e n h.1 h'.1, eqvs_py ds es n h.2 h'.2]
end
theorem any_py (d : D) (hd : D.plainN 39 d = true) : ∀ (ds : List D), D.plainsN 39 ds = true → (ds.any fun y => D.eqv y d) = (D.pys ds).any fun z => PyData.eqv z d.py
  | [], _ => rfl
  | e :: es, h => by
    have h : (D.plainN 39 e && D.plainsN 39 es) = true := h
    rw [Bool.and_eq_true] at h
    simp only [List.any_cons, D.pys]
    rw [eqv_py e d 39 h.1 hd, any_py d hd es h.2]

/-! ### what a value is, by its data -/
section
variable {C : RC} {H : Hp} {k : Hb.K} {v : V} {st : Hb.St}
theorem repK_int {i : Int} (h : RepK C H k v (.int i)) : v = .int i := by
  cases k with
  | sh => cases h; rfl
  | _ => obtain ⟨_, _, _, _, q⟩ := h; exact q.elim
theorem repK_bl {b : Bool} (h : RepK C H k v (.bl b)) : v = .bl b := by
  cases k with
  | sh => cases h; rfl
  | _ => obtain ⟨_, _, _, _, q⟩ := h; exact q.elim
theorem repK_non (h : RepK C H k v .non) : v = .non := by
  cases k with
  | sh => cases h; rfl
  | _ => obtain ⟨_, _, _, _, q⟩ := h; exact q.elim
theorem repK_str {x : Str} (h : RepK C H k v (.str x)) : v = .str x := by
  cases k with
  | sh => cases h; rfl
  | _ => obtain ⟨_, _, _, _, q⟩ := h; exact q.elim
theorem repK_tup {ds : List D} (h : RepK C H k v (.tup ds)) : ∃ a xs, v = .ref a ∧ SqT C.K C.F a xs ∧ RepAll C xs ds ∧ Rep C v (.tup ds) := by
  cases k with
  | sh =>
    have h' : Rep C v (.tup ds) := h
    cases h with
    | tup h1 h2 => exact ⟨_, _, rfl, h1.sq, h2, h'⟩
  | _ => obtain ⟨_, _, _, _, q⟩ := h; exact q.elim
theorem repK_tupX {ds : List D} (h : RepK C H k v (.tup ds)) : ∃ a xs, v = .ref a ∧ TupX C.F a xs ∧ RepAll C xs ds := by
  cases k with
  | sh =>
    cases h with
    | tup h1 h2 => exact ⟨_, _, rfl, h1, h2⟩
  | _ => obtain ⟨_, _, _, _, q⟩ := h; exact q.elim
theorem repK_lst {ds : List D} (sub : ∀ a o, C.F a = some o → H a = some o) (h : RepK C H k v (.lst ds)) : ∃ a xs, v = .ref a ∧ H a = some (.lst xs) ∧ RepAll C xs ds := by
  cases k with
  | sh =>
    cases h with
    | lst h1 h2 => exact ⟨_, _, rfl, sub _ _ h1, h2⟩
  | fr => obtain ⟨a, e, _, _, xs, h1, h2⟩ := h; exact ⟨a, xs, e, h1, h2⟩
  | br => obtain ⟨a, e, _, _, xs, h1, h2⟩ := h; exact ⟨a, xs, e, h1, h2⟩

/-! ### new objects -/
theorem row_ne (row : RowOk C H st) {p : Addr} (hp : H p = none) : ¬ C.G p := fun e => by
  obtain ⟨_, o, ho⟩ := row.gl e
  rw [hp] at ho; cases ho
theorem rowOk_upd {C' : RC} {p : Addr} {o : HO} (L : C.Le C') (re : C'.gl = C.gl) (hF : ∀ b, b ≠ p → C'.F b = C.F b) (hp : H p = none) (row : RowOk C H st) : RowOk C' (upd H p o) st :=
  row.at L re (fun a g => by
    obtain ⟨n, u, hu⟩ := row.gl g
    rw [hF a fun e => by rw [e, hp] at hu; cases hu]; exact n) fun a g => by
    obtain ⟨n, u, hu⟩ := row.gl g
    exact upd_ne fun e => by rw [e, hp] at hu; cases hu
/-- a new list, nobody else's -/
theorem new_lst (sub : ∀ a o, C.F a = some o → H a = some o) (row : RowOk C H st) {p : Addr} (hp : H p = none) {xs : List V} {ds : List D} (r : RepAll C xs ds) :
    Post C H C (upd H p (.lst xs)) st ∧ RepK C (upd H p (.lst xs)) .fr (.ref p) (.lst ds) := by
  have nF : C.F p = none := by
    cases e : C.F p with
    | none => rfl
    | some o => have := sub p o e; rw [hp] at this; cases this
  have ne : ∀ b o, H b = some o → b ≠ p := fun b o e z => by rw [z, hp] at e; cases e
  refine ⟨⟨.refl C, fun a o h => ?_, fun _ _ h => .inl h, fun _ h => .inl h, fun a o h _ => ?_, fun a o h => ⟨o, ?_⟩, rowOk_upd (.refl C) rfl (fun _ _ => rfl) hp row⟩, p, rfl, nF, row_ne row hp, xs, upd_same, r⟩
  · rw [upd_ne (ne a o (sub a o h))]; exact sub a o h
  · rw [upd_ne (ne a o h)]; exact h
  · rw [upd_ne (ne a o h)]; exact h
def RC.put (C : RC) (p : Addr) (o : HO) : RC := { C with F := upd C.F p o }
/-- a new tuple -/
theorem new_tup (sub : ∀ a o, C.F a = some o → H a = some o) (row : RowOk C H st) {p : Addr} {ob : Obj} (hp : H p = none) (hob : ob.dict = none) {xs : List V} {ds : List D} (r : RepAll C xs ds) :
    Post C H (C.put p (.frz ob (.tup xs))) (upd H p (.frz ob (.tup xs))) st ∧ Rep (C.put p (.frz ob (.tup xs))) (.ref p) (.tup ds) := by
  have nF : C.F p = none := by
    cases e : C.F p with
    | none => rfl
    | some o => have := sub p o e; rw [hp] at this; cases this
  have ne : ∀ b o, H b = some o → b ≠ p := fun b o e z => by rw [z, hp] at e; cases e
  have L : C.Le (C.put p (.frz ob (.tup xs))) := ⟨rfl, rfl, rfl, fun a o h => by show upd C.F p _ a = some o; rw [upd_ne (ne a o (sub a o h))]; exact h, fun _ _ h => h⟩
  refine ⟨⟨L, fun a o h => ?_, fun a o h => ?_, fun _ h => .inl h, fun a o h _ => ?_, fun a o h => ⟨o, ?_⟩, rowOk_upd L rfl (fun b hb => ?_) hp row⟩, .tup ⟨ob, upd_same, hob⟩ (RepAll.mono L _ _ r)⟩
  · have h : upd C.F p (.frz ob (.tup xs)) a = some o := h
    by_cases e : a = p
    · subst e; rw [upd_same] at h; cases h; exact upd_same
    · rw [upd_ne e] at h; rw [upd_ne e]; exact sub a o h
  · have h : upd C.F p (.frz ob (.tup xs)) a = some o := h
    by_cases e : a = p
    · right; rw [e]; exact hp
    · rw [upd_ne e] at h; exact .inl h
  · rw [upd_ne (ne a o h)]; exact h
  · rw [upd_ne (ne a o h)]; exact h
  · show upd C.F p _ b = C.F b
    rw [upd_ne hb]
end

/-! ### a op b -/
structure OpC (X : Cx) (C : RC) (H : Hp) (st : Hb.St) : Prop where
  K : C.K = X.K
  w : C.w = X.w
  sub : ∀ a o, C.F a = some o → H a = some o
  row : RowOk C H st
def opA : BOp → Operator
  | .add => .Add | .sub => .Sub | .mul => .Mult | .fdiv => .FloorDiv | .mod => .Mod | .pow => .Pow
def rBin (X : Cx) (op : BOp) : R2 := fun x y H Q => ∃ C st k1 d1 k2 d2 Z, OpC X C H st ∧ RepK C H k1 x d1 ∧ RepK C H k2 y d2 ∧ OutG (binD op d1 d2 st) (RE C H Q) Z
theorem sizeMax_eq : sizeMax = sizeLine := by rw [sizeLine_eq]; rfl
theorem small64_ok {i j : Int} (h : (small64 i || small64 j) = true) : CMul i j := by
  rw [Bool.or_eq_true] at h
  rcases h with h | h
  · left
    unfold small64 at h
    rw [Bool.and_eq_true, decide_eq_true_eq, decide_eq_true_eq] at h
    exact h
  · right
    unfold small64 at h
    rw [Bool.and_eq_true, decide_eq_true_eq, decide_eq_true_eq] at h
    exact h
theorem repL_flat {α : Type} (xs : List α) : ∀ n : Nat, repL xs n = (List.replicate n xs).flatten
  | 0 => rfl
  | n + 1 => by rw [repL, repL_flat xs n, List.replicate_succ, List.flatten_cons]
theorem RepAll.rep {C : RC} {vs : List V} {ds : List D} (r : RepAll C vs ds) : ∀ n : Nat, RepAll C (repL vs n) (repL ds n)
  | 0 => .nil
  | n + 1 => RepAll.append r (RepAll.rep r n)
theorem op_bin {X : Cx} (op : BOp) : OpR X (binaryOp (opA op)) (rBin X op) := by
  intro pins s σ H x y v u Q I rx ry h
  obtain ⟨C, st, k1, d1, k2, d2, Z, oc, r1, r2, o⟩ := h
  have imm : ∀ {d : D} {w' : V}, (∀ C' : RC, Rep C' w' d) → RE C H Q (.sh, d) st → Q w' H := fun {d w'} hw q => q w' C H (.refl oc.sub oc.row) (hw C) trivial
  cases op with
  | add =>
    cases d1 with
    | int i =>
      cases d2 with
      | int j =>
        rw [repK_int r1] at rx; rw [repK_int r2] at ry
        exact op_add pins s σ H _ _ v u Q I rx ry ⟨i, j, rfl, rfl, imm (fun _ => .int _) o⟩
      | _ => exact (show False from o).elim
    | lst xs =>
      cases d2 with
      | lst ys =>
        obtain ⟨a, vs, rfl, ha, ra⟩ := repK_lst oc.sub r1
        obtain ⟨b, us, rfl, hb, rb⟩ := repK_lst oc.sub r2
        obtain ⟨g, o⟩ := OutG.guardB o
        refine op_cat pins s σ H _ _ v u Q I rx ry ⟨a, b, vs, us, rfl, rfl, ha, hb, ?_, fun p hp => ?_⟩
        · rw [ra.length, rb.length, ← sizeMax_eq]; exact of_decide_eq_true g
        · obtain ⟨p1, p2⟩ := new_lst oc.sub oc.row hp (RepAll.append ra rb)
          exact o _ C _ p1 p2 fun a e => by cases e; exact hp
      | _ => exact (show False from o).elim
    | tup xs =>
      cases d2 with
      | tup ys =>
        obtain ⟨a, vs, rfl, ha, ra, ra'⟩ := repK_tup r1
        obtain ⟨b, us, rfl, hb, rb, rb'⟩ := repK_tup r2
        obtain ⟨g, o⟩ := OutG.guardB o
        have e1 := ra.length
        have e2 := rb.length
        refine op_catX pins s σ H _ _ v u Q I rx ry ⟨a, b, vs, us, rfl, rfl, by rw [← oc.K]; exact sqT_mono oc.sub ha, by rw [← oc.K]; exact sqT_mono oc.sub hb, ?_, fun e => ?_, fun _ e => ?_, fun p ob hp hob => ?_⟩
        · rw [e1, e2, ← sizeMax_eq]; exact of_decide_eq_true g
        · subst e
          cases ra
          exact o _ C H (.refl oc.sub oc.row) rb' trivial
        · subst e
          cases rb
          refine o _ C H (.refl oc.sub oc.row) ?_ trivial
          rw [List.append_nil]; exact ra'
        · obtain ⟨p1, p2⟩ := new_tup oc.sub oc.row hp hob (RepAll.append ra rb)
          exact o _ _ _ p1 p2 trivial
      | _ => exact (show False from o).elim
    | str a =>
      cases d2 with
      | str b =>
        rw [repK_str r1] at rx; rw [repK_str r2] at ry
        obtain ⟨g, o⟩ := OutG.guardB o
        exact op_add_str pins s σ H _ _ v u Q I rx ry ⟨a, b, rfl, rfl, by rw [← sizeMax_eq]; exact of_decide_eq_true g, imm (fun _ => .str _) o⟩
      | _ => exact (show False from o).elim
    | _ => exact (show False from o).elim
  | sub =>
    cases d1 with
    | int i =>
      cases d2 with
      | int j =>
        rw [repK_int r1] at rx; rw [repK_int r2] at ry
        exact op_sub pins s σ H _ _ v u Q I rx ry ⟨i, j, rfl, rfl, imm (fun _ => .int _) o⟩
      | _ => exact (show False from o).elim
    | _ => exact (show False from o).elim
  | mul =>
    cases d1 with
    | int i =>
      cases d2 with
      | int j =>
        rw [repK_int r1] at rx; rw [repK_int r2] at ry
        obtain ⟨g, o⟩ := OutG.guardB o
        exact op_mul pins s σ H _ _ v u Q I rx ry ⟨i, j, rfl, rfl, small64_ok g, imm (fun _ => .int _) o⟩
      | _ => exact (show False from o).elim
    | lst xs =>
      cases d2 with
      | int n =>
        obtain ⟨a, vs, rfl, ha, ra⟩ := repK_lst oc.sub r1
        rw [repK_int r2] at ry
        obtain ⟨g, o⟩ := OutG.guardB o
        simp only [Bool.and_eq_true, decide_eq_true_eq] at g
        obtain ⟨⟨g1, g2⟩, g3⟩ := g
        refine op_rep pins s σ H _ _ v u Q I rx ry ⟨a, n, vs, rfl, rfl, ha, by omega, by omega, by rw [ra.length, ← sizeMax_eq]; exact g2, fun p hp => ?_⟩
        rw [← repL_flat]
        obtain ⟨p1, p2⟩ := new_lst oc.sub oc.row hp (RepAll.rep ra n.toNat)
        exact o _ C _ p1 p2 fun a e => by cases e; exact hp
      | _ => exact (show False from o).elim
    | tup xs =>
      cases d2 with
      | int n =>
        obtain ⟨a, vs, rfl, ha, ra, ra'⟩ := repK_tup r1
        rw [repK_int r2] at ry
        obtain ⟨g, o⟩ := OutG.guardB o
        simp only [Bool.and_eq_true, decide_eq_true_eq] at g
        obtain ⟨⟨g1, g2⟩, g3⟩ := g
        have e1 := ra.length
        refine op_repY pins s σ H _ _ v u Q I rx ry ⟨a, n, vs, rfl, rfl, by rw [← oc.K]; exact sqT_mono oc.sub ha, g1, g2, by rw [e1]; exact g3, fun hs1 => ?_, fun _ p ob hp hob => ?_⟩
        · have e2 : repL xs n.toNat = xs := by
            rcases hs1 with e | e
            · subst e
              cases ra
              rw [repL_flat]
              simp
            · subst e
              show xs ++ [] = xs
              rw [List.append_nil]
          rw [e2] at o
          exact o _ C H (.refl oc.sub oc.row) ra' trivial
        · rw [← repL_flat]
          obtain ⟨p1, p2⟩ := new_tup oc.sub oc.row hp hob (RepAll.rep ra n.toNat)
          exact o _ _ _ p1 p2 trivial
      | _ => exact (show False from o).elim
    | _ => exact (show False from o).elim
  | fdiv =>
    cases d1 with
    | int i =>
      cases d2 with
      | int j =>
        rw [repK_int r1] at rx; rw [repK_int r2] at ry
        obtain ⟨g, o⟩ := OutG.guardB o
        simp only [Bool.and_eq_true, decide_eq_true_eq] at g
        exact op_fdiv pins s σ H _ _ v u Q I rx ry ⟨i, j, rfl, rfl, g, imm (fun _ => .int _) o⟩
      | _ => exact (show False from o).elim
    | _ => exact (show False from o).elim
  | mod =>
    cases d1 with
    | int i =>
      cases d2 with
      | int j =>
        rw [repK_int r1] at rx; rw [repK_int r2] at ry
        obtain ⟨g, o⟩ := OutG.guardB o
        exact op_mod pins s σ H _ _ v u Q I rx ry ⟨i, j, rfl, rfl, of_decide_eq_true g, imm (fun _ => .int _) o⟩
      | _ => exact (show False from o).elim
    | _ => exact (show False from o).elim
  | pow =>
    cases d1 with
    | int i =>
      cases d2 with
      | int j =>
        rw [repK_int r1] at rx; rw [repK_int r2] at ry
        obtain ⟨g, o⟩ := OutG.guardB o
        simp only [Bool.and_eq_true, decide_eq_true_eq] at g
        obtain ⟨⟨g0, g1⟩, g2⟩ := g
        exact op_pow pins s σ H _ _ v u Q I rx ry ⟨i, j, rfl, rfl, ⟨g0, by omega, g2⟩, imm (fun _ => .int _) o⟩
      | _ => exact (show False from o).elim
    | _ => exact (show False from o).elim
end Hb
namespace Hb
open PySem PySem.Spec PyProof.Rows L2

/-! ### order -/
mutual
theorem sh_alike : ∀ (d e : D), Sh.beq d.sh e.sh = true → PySem.W.alike d.py e.py = true ∧ d.py ≠ .none
  | .int i, e, h => by
    cases e with
    | int j => exact ⟨by simp [D.py, PySem.W.alike], fun z => nomatch z⟩
    | tup ys =>
      rw [D.sh, D.sh] at h
      split at h
      · exact nomatch h
      · split at h <;> exact nomatch h
    | _ => exact nomatch h
  | .bl i, e, h => by
    cases e with
    | bl j => exact ⟨by simp [D.py, PySem.W.alike], fun z => nomatch z⟩
    | tup ys =>
      rw [D.sh, D.sh] at h
      split at h
      · exact nomatch h
      · split at h <;> exact nomatch h
    | _ => exact nomatch h
  | .str i, e, h => by
    cases e with
    | str j => exact ⟨by simp [D.py, PySem.W.alike], fun z => nomatch z⟩
    | tup ys =>
      rw [D.sh, D.sh] at h
      split at h
      · exact nomatch h
      · split at h <;> exact nomatch h
    | _ => exact nomatch h
  | .tup xs, e, h => by
    refine ⟨?_, fun z => nomatch z⟩
    rw [D.sh] at h
    by_cases e1 : xs.isEmpty = true
    · rw [if_pos e1] at h; exact nomatch h
    · rw [if_neg e1] at h
      by_cases e2 : xs.all D.isInt = true
      · rw [if_pos e2] at h
        cases e with
        | tup ys =>
          rw [D.sh] at h
          by_cases e3 : ys.isEmpty = true
          · rw [if_pos e3] at h; exact nomatch h
          · rw [if_neg e3] at h
            by_cases e4 : ys.all D.isInt = true
            · show PySem.W.alike (.tuple (D.pys xs)) (.tuple (D.pys ys)) = true
              rw [PySem.W.alike]
              exact ints_alike xs ys e2 e4
            · rw [if_neg e4] at h; exact nomatch h
        | _ => exact nomatch h
      · rw [if_neg e2] at h
        cases e with
        | tup ys =>
          rw [D.sh] at h
          by_cases e3 : ys.isEmpty = true
          · rw [if_pos e3] at h; exact nomatch h
          · rw [if_neg e3] at h
            by_cases e4 : ys.all D.isInt = true
            · rw [if_pos e4] at h; exact nomatch h
            · rw [if_neg e4] at h
              show PySem.W.alike (.tuple (D.pys xs)) (.tuple (D.pys ys)) = true
              rw [PySem.W.alike]
              exact shs_alike xs ys h
        | _ => exact nomatch h
  | .non, e, h => nomatch h
  | .lst _, e, h => nomatch h
  | .dct _, e, h => nomatch h
  | .fn _, e, h => nomatch h
  | .exc _ _, e, h => nomatch h
  | .row, e, h => nomatch h
  | .memo, e, h => nomatch h
  | .rdr _, e, h => nomatch h
  | .scr _, e, h => nomatch h
theorem shs_alike : ∀ (ds es : List D), Sh.beqs (D.shs ds) (D.shs es) = true → PySem.W.alikeAll (D.pys ds) (D.pys es) = true
  | [], _, _ => by rw [D.pys, PySem.W.alikeAll]
  | d :: ds, [], _ => by rw [D.pys, D.pys, PySem.W.alikeAll]
  | d :: ds, e :: es, h => by
    have h : (Sh.beq d.sh e.sh && Sh.beqs (D.shs ds) (D.shs es)) = true := h
    rw [Bool.and_eq_true] at h
    rw [D.pys, D.pys, PySem.W.alikeAll, (sh_alike d e h.1).1, shs_alike ds es h.2]; rfl
theorem ints_alike : ∀ (ds es : List D), ds.all D.isInt = true → es.all D.isInt = true → PySem.W.alikeAll (D.pys ds) (D.pys es) = true
  | [], _, _, _ => by rw [D.pys, PySem.W.alikeAll]
  | d :: ds, [], _, _ => by rw [D.pys, D.pys, PySem.W.alikeAll]
  | d :: ds, e :: es, h, h' => by
    rw [List.all_cons, Bool.and_eq_true] at h h'
    rw [D.pys, D.pys, PySem.W.alikeAll, ints_alike ds es h.2 h'.2]
    have k1 := h.1
    have k2 := h'.1
    obtain ⟨i, rfl⟩ : ∃ i, d = .int i := by cases d <;> first | exact ⟨_, rfl⟩ | exact absurd (show false = true from k1) Bool.false_ne_true
    obtain ⟨j, rfl⟩ : ∃ i, e = .int i := by cases e <;> first | exact ⟨_, rfl⟩ | exact absurd (show false = true from k2) Bool.false_ne_true
    simp [D.py, PySem.W.alike]
end
mutual
theorem lt_py : ∀ (d e : D) (n : Nat), D.plainN n d = true → D.plainN n e = true → PySem.W.alike d.py e.py = true → D.lt d e = PySem.W.dataLt d.py e.py
  | .non, e, n, _, h, a => by
    cases e with
    | non => simp [D.lt, D.py, PySem.W.dataLt, PySem.W.keyToks, lex_irrefl]
    | bl _ => exact nomatch a
    | int _ => exact nomatch a
    | str _ => exact nomatch a
    | tup _ => exact nomatch a
    | lst _ => exact nomatch a
    | _ => cases n <;> exact nomatch h
  | .bl x, e, n, _, h, a => by
    cases e with
    | bl y => show (!x && y) = PySem.W.dataLt (.bool x) (.bool y); rw [PySem.W.dataLt_bool]; cases x <;> cases y <;> decide
    | non => exact nomatch a
    | int _ => exact nomatch a
    | str _ => exact nomatch a
    | tup _ => exact nomatch a
    | lst _ => exact nomatch a
    | _ => cases n <;> exact nomatch h
  | .int x, e, n, _, h, a => by
    cases e with
    | int y => show decide (x < y) = PySem.W.dataLt (.int x) (.int y); rw [PySem.W.dataLt_int]
    | non => exact nomatch a
    | bl _ => exact nomatch a
    | str _ => exact nomatch a
    | tup _ => exact nomatch a
    | lst _ => exact nomatch a
    | _ => cases n <;> exact nomatch h
  | .str x, e, n, _, h, a => by
    cases e with
    | str y => show decide _ = PySem.W.dataLt (.str x) (.str y); rw [PySem.W.dataLt_str]
    | non => exact nomatch a
    | bl _ => exact nomatch a
    | int _ => exact nomatch a
    | tup _ => exact nomatch a
    | lst _ => exact nomatch a
    | _ => cases n <;> exact nomatch h
  | .tup xs, e, n + 1, hd, h, a => by
    cases e with
    | tup ys =>
      show D.lts xs ys = PySem.W.dataLt (.tuple (D.pys xs)) (.tuple (D.pys ys))
      rw [PySem.W.dataLt_tuple]
      have a : PySem.W.alike (.tuple (D.pys xs)) (.tuple (D.pys ys)) = true := a
      rw [PySem.W.alike] at a
      exact lts_py xs ys n hd h a
    | non => exact nomatch a
    | bl _ => exact nomatch a
    | int _ => exact nomatch a
    | str _ => exact nomatch a
    | lst _ => exact nomatch a
    | _ => exact nomatch h
  | .lst xs, e, n + 1, hd, h, a => by
    cases e with
    | lst ys =>
      show D.lts xs ys = PySem.W.dataLt (.list (D.pys xs)) (.list (D.pys ys))
      rw [PySem.W.dataLt_list]
      have a : PySem.W.alike (.list (D.pys xs)) (.list (D.pys ys)) = true := a
      rw [PySem.W.alike] at a
      exact lts_py xs ys n hd h a
    | non => exact nomatch a
    | bl _ => exact nomatch a
    | int _ => exact nomatch a
    | str _ => exact nomatch a
    | tup _ => exact nomatch a
    | _ => exact nomatch h
  | .tup xs, _, 0, h, _, _ => nomatch h
  | .lst xs, _, 0, h, _, _ => nomatch h
  | .dct _, _, 0, h, _, _ => nomatch h
  | .dct _, _, _ + 1, h, _, _ => nomatch h
  | .fn _, _, 0, h, _, _ => nomatch h
  | .fn _, _, _ + 1, h, _, _ => nomatch h
  | .exc _ _, _, 0, h, _, _ => nomatch h
  | .exc _ _, _, _ + 1, h, _, _ => nomatch h
  | .row, _, 0, h, _, _ => nomatch h
  | .memo, _, 0, h, _, _ => nomatch h
  | .rdr _, _, 0, h, _, _ => nomatch h
  | .row, _, _ + 1, h, _, _ => nomatch h
  | .memo, _, _ + 1, h, _, _ => nomatch h
  | .rdr _, _, _ + 1, h, _, _ => nomatch h
  | .scr _, _, 0, h, _, _ => nomatch h
  | .scr _, _, _ + 1, h, _, _ => nomatch h
theorem lts_py : ∀ (ds es : List D) (n : Nat), D.plainsN n ds = true → D.plainsN n es = true → PySem.W.alikeAll (D.pys ds) (D.pys es) = true → D.lts ds es = PyProof.Rows.lexLt itemOrd (PySem.W.keyToksAll (D.pys ds)) (PySem.W.keyToksAll (D.pys es))
  | [], [], _, _, _, _ => by
    rw [lex_irrefl]; rfl
  | [], e :: es, _, _, _, _ => by
    show true = _
    rw [D.pys, D.pys, PySem.W.toks_all_cons]
    simp only [PySem.W.keyToksAll]
    rw [lex_diff (O := itemOrd) (by simp)]
    simp [itemLt]
  | d :: ds, [], _, _, _, _ => by
    show false = _
    rw [D.pys, D.pys, PySem.W.toks_all_cons]
    simp only [PySem.W.keyToksAll]
    rw [lex_diff (O := itemOrd) (by simp)]
    simp [itemLt]
  | d :: ds, e :: es, n, h, h', a => by
    have h : (D.plainN n d && D.plainsN n ds) = true := h
    have h' : (D.plainN n e && D.plainsN n es) = true := h'
    rw [Bool.and_eq_true] at h h'
    rw [D.pys, D.pys] at a ⊢
    obtain ⟨a1, a2⟩ := PySem.W.alike_all_cons a
    show (if D.eqv d e = true then D.lts ds es else D.lt d e) = _
    rw [eqv_py d e n h.1 h'.1]
    cases q : PyData.eqv d.py e.py with
    | true => rw [if_pos rfl, PySem.W.dataLt_all_yes a1 q]; exact lts_py ds es n h.2 h'.2 a2
    | false => rw [if_neg Bool.false_ne_true, PySem.W.dataLt_all_no a1 q]; exact lt_py d e n h.1 h'.1 a1
end
theorem Sh.beq_symm_aux : True := trivial

/-! ### comparisons -/
def cmpA : COp → CmpOp
  | .eq => .Eq | .ne => .NotEq | .lt => .Lt | .le => .LtE | .gt => .Gt | .ge => .GtE | .is_ => .Is | .isnot => .IsNot | .in_ => .In | .notin => .NotIn
/-- op is one of those of data -/
def COp.simple : COp → Bool
  | .in_ => false | .notin => false | .eq => false
  | _ => true
def rCmp (X : Cx) (op : COp) : R2 := fun x y H Q => ∃ C st k1 d1 k2 d2 Z, OpC X C H st ∧ RepK C H k1 x d1 ∧ RepK C H k2 y d2 ∧ OutG (cmpD op d1 d2 st) (fun b st' => st' = st → Q (.bl b) H) Z
theorem rep_not_non {C : RC} {H : Hp} {k : Hb.K} {v : V} {d : D} (h : RepK C H k v d) (hd : d ≠ .non) : v ≠ .non := by
  intro e
  subst e
  cases k with
  | sh => cases h; exact hd rfl
  | _ => obtain ⟨_, e, _⟩ := h; cases e
section
variable {X : Cx} {C : RC} {H : Hp} {st : Hb.St} {k1 k2 : Hb.K} {d1 d2 : D} {x y : V}
theorem cmp_ord {pins : List (Addr × Obj)} {σ : List (Option V)} {s : Shared} {v u : Value} (I : Inv X pins σ H s) (rx : RelV x v) (ry : RelV y u) (oc : OpC X C H st) (r1 : RepK C H k1 x d1) (r2 : RepK C H k2 y d2) (g : (d1.plain && d2.plain && Sh.beq d1.sh d2.sh) = true) :
    ∃ as bs, Reads s.heap v d1.py as ∧ Reads s.heap u d2.py bs ∧ PySem.W.alike d1.py d2.py = true ∧ d1.py ≠ .none ∧ PyData.depth d1.py ≤ 40 ∧ D.lt d1 d2 = PySem.W.dataLt d1.py d2.py := by
  rw [Bool.and_eq_true, Bool.and_eq_true] at g
  obtain ⟨⟨g1, g2⟩, g3⟩ := g
  obtain ⟨a1, a2⟩ := sh_alike d1 d2 g3
  obtain ⟨as, ra⟩ := Dp.reads I _ _ _ (repK_dp oc.K oc.sub g1 r1) rx
  obtain ⟨bs, rb⟩ := Dp.reads I _ _ _ (repK_dp oc.K oc.sub g2 r2) ry
  exact ⟨as, bs, ra, rb, a1, a2, (plain_py d1 40 g1).2, lt_py d1 d2 40 g1 g2 a1⟩
end
theorem Sh_symm : (∀ a b : Sh, Sh.beq a b = true → Sh.beq b a = true) := by
  have go : (∀ a b : Sh, Sh.beq a b = true → Sh.beq b a = true) := fun a => by
    refine Sh.rec (motive_1 := fun a => ∀ b, Sh.beq a b = true → Sh.beq b a = true) (motive_2 := fun as => ∀ bs, Sh.beqs as bs = true → Sh.beqs bs as = true) ?_ ?_ ?_ ?_ ?_ ?_ ?_ ?_ a
    · intro b h; exact nomatch h
    · intro b h; cases b <;> first | rfl | exact nomatch h
    · intro b h; cases b <;> first | rfl | exact nomatch h
    · intro b h; cases b <;> first | rfl | exact nomatch h
    · intro b h; cases b <;> first | rfl | exact nomatch h
    · intro xs ih b h
      cases b with
      | tup ys => exact ih ys h
      | _ => exact nomatch h
    · intro bs h; cases bs <;> first | rfl | exact nomatch h
    · intro x xs ih1 ih2 bs h
      cases bs with
      | nil => exact nomatch h
      | cons b bs =>
        have h : (Sh.beq x b && Sh.beqs xs bs) = true := h
        rw [Bool.and_eq_true] at h
        show (Sh.beq b x && Sh.beqs bs xs) = true
        rw [ih1 _ h.1, ih2 _ h.2]; rfl
  exact go
theorem ord_swap {d1 d2 : D} (g : (d1.plain && d2.plain && Sh.beq d1.sh d2.sh) = true) : (d2.plain && d1.plain && Sh.beq d2.sh d1.sh) = true := by
  rw [Bool.and_eq_true, Bool.and_eq_true] at g ⊢
  exact ⟨⟨g.1.2, g.1.1⟩, Sh_symm _ _ g.2⟩

theorem op_cmp {X : Cx} (hu : X.A.units + 64 < cLine) (op : COp) (hs : op.simple = true) : OpR X (compareOp (cmpA op)) (rCmp X op) := by
  intro pins s σ H x y v u Q I rx ry h
  obtain ⟨C, st, k1, d1, k2, d2, Z, oc, r1, r2, o⟩ := h
  have fin : ∀ {b : Bool}, (fun (b : Bool) (st' : Hb.St) => st' = st → Q (.bl b) H) b st → EP X pins σ Q (.bool b) s := fun {b} q => ⟨.bl b, H, I, rfl, q rfl⟩
  cases op with
  | eq => exact nomatch hs
  | ne =>
    have o := OutG.bind o
    obtain ⟨g, o⟩ := OutG.guardB o
    rw [Bool.and_eq_true] at g
    obtain ⟨as, ra⟩ := Dp.reads I _ _ _ (repK_dp oc.K oc.sub g.1 r1) rx
    obtain ⟨bs, rb⟩ := Dp.reads I _ _ _ (repK_dp oc.K oc.sub g.2 r2) ry
    have z := plain_py d1 40 g.1
    refine PySem.SeqAt.ne_plain ra rb z.1 (plain_py d2 40 g.2).1 (by have := Nat.min_le_left d1.py.depth d2.py.depth; omega) ?_
    rw [← eqv_py d1 d2 40 g.1 g.2]
    exact fin o
  | lt =>
    obtain ⟨g, o⟩ := OutG.guardB o
    obtain ⟨as, bs, ra, rb, a1, a2, z, e⟩ := cmp_ord I rx ry oc r1 r2 g
    refine PySem.W.lt_data ra rb a1 a2 (by have := Nat.min_le_left d1.py.depth d2.py.depth; omega) ?_
    rw [← e]
    exact fin o
  | gt =>
    obtain ⟨g, o⟩ := OutG.guardB o
    obtain ⟨as, bs, ra, rb, a1, a2, z, e⟩ := cmp_ord I rx ry oc r1 r2 g
    obtain ⟨_, _, _, _, _, _, _, e'⟩ := cmp_ord I ry rx oc r2 r1 (ord_swap g)
    refine PySem.W.gt_data ra rb a1 a2 (by have := Nat.min_le_left d1.py.depth d2.py.depth; omega) ?_
    rw [← e']
    exact fin o
  | le =>
    obtain ⟨g, o⟩ := OutG.guardB o
    obtain ⟨as, bs, ra, rb, a1, a2, z, e⟩ := cmp_ord I rx ry oc r1 r2 g
    obtain ⟨_, _, _, _, _, _, _, e'⟩ := cmp_ord I ry rx oc r2 r1 (ord_swap g)
    refine PySem.W.le_data ra rb a1 a2 (by have := Nat.min_le_left d1.py.depth d2.py.depth; omega) ?_
    rw [← e']
    exact fin o
  | ge =>
    obtain ⟨g, o⟩ := OutG.guardB o
    obtain ⟨as, bs, ra, rb, a1, a2, z, e⟩ := cmp_ord I rx ry oc r1 r2 g
    refine PySem.W.ge_data ra rb a1 a2 (by have := Nat.min_le_left d1.py.depth d2.py.depth; omega) ?_
    rw [← e]
    exact fin o
  | is_ =>
    cases d2 with
    | non =>
      rw [repK_non r2] at ry
      refine op_isN pins s σ H x .non v u Q I rx ry ⟨rfl, ?_⟩
      cases d1 with
      | non => rw [repK_non r1]; exact o rfl
      | _ => rw [decide_eq_false (rep_not_non r1 (by simp))]; exact o rfl
    | bl b =>
      cases d1 with
      | bl a =>
        rw [repK_bl r1] at rx; rw [repK_bl r2] at ry
        refine op_isBl pins s σ H _ _ v u Q I rx ry ⟨a, b, rfl, rfl, ?_⟩
        rw [← Bool.beq_eq_decide_eq]
        exact o rfl
      | _ => exact (show False from o).elim
    | _ => exact (show False from o).elim
  | isnot =>
    have o := OutG.bind o
    cases d2 with
    | non =>
      rw [repK_non r2] at ry
      refine op_notN pins s σ H x .non v u Q I rx ry ⟨rfl, ?_⟩
      cases d1 with
      | non => rw [repK_non r1]; exact o rfl
      | _ => rw [decide_eq_false (rep_not_non r1 (by simp))]; exact o rfl
    | bl b =>
      cases d1 with
      | bl a =>
        rw [repK_bl r1] at rx; rw [repK_bl r2] at ry
        refine op_notBl pins s σ H _ _ v u Q I rx ry ⟨a, b, rfl, rfl, ?_⟩
        rw [← Bool.beq_eq_decide_eq]
        exact o rfl
      | _ => exact (show False from o).elim
    | _ => exact (show False from o).elim
  | in_ => exact nomatch hs
  | notin => exact nomatch hs
end Hb
namespace Hb
open PySem PySem.Spec PyProof.Rows L2

/-! ### keys -/
mutual
theorem key_eqv : ∀ (d e : D), D.key d = true → D.key e = true → D.eqv d e = NestedKey.beq d.nk e.nk
  | .non, e, _, h => by cases e <;> first | rfl | exact nomatch h
  | .bl a, e, _, h => by
    cases e with
    | bl b => cases a <;> cases b <;> rfl
    | int j => show ((if a = true then (1 : Int) else 0) == j) = decide ((if a = true then (1 : Int) else 0) = j); rw [Bool.beq_eq_decide_eq]
    | non => rfl
    | str _ => rfl
    | tup _ => rfl
    | _ => exact nomatch h
  | .int i, e, _, h => by
    cases e with
    | bl b => show (i == (if b = true then (1 : Int) else 0)) = decide (i = (if b = true then (1 : Int) else 0)); rw [Bool.beq_eq_decide_eq]
    | int j => show (i == j) = decide (i = j); rw [Bool.beq_eq_decide_eq]
    | non => rfl
    | str _ => rfl
    | tup _ => rfl
    | _ => exact nomatch h
  | .str x, e, _, h => by
    cases e with
    | str y => show (x == y) = decide (x = y); rw [Bool.beq_eq_decide_eq]
    | non => rfl
    | bl _ => rfl
    | int _ => rfl
    | tup _ => rfl
    | _ => exact nomatch h
  | .tup xs, e, h, h' => by
    cases e with
    | tup ys =>
      show D.eqvs xs ys = NestedKey.beq (.tup (D.nks xs)) (.tup (D.nks ys))
      rw [NestedKey.beq]
      exact keys_eqv xs ys h h'
    | non => rfl
    | bl _ => rfl
    | int _ => rfl
    | str _ => rfl
    | _ => exact nomatch h'
  | .lst _, _, h, _ => nomatch h
  | .dct _, _, h, _ => nomatch h
  | .fn _, _, h, _ => nomatch h
  | .exc _ _, _, h, _ => nomatch h
  | .row, _, h, _ => nomatch h
  | .memo, _, h, _ => nomatch h
  | .rdr _, _, h, _ => nomatch h
  | .scr _, _, h, _ => nomatch h
theorem keys_eqv : ∀ (ds es : List D), D.keys ds = true → D.keys es = true → D.eqvs ds es = NestedKey.beqAll (D.nks ds) (D.nks es)
  | [], [], _, _ => rfl
  | [], _ :: _, _, _ => rfl
  | _ :: _, [], _, _ => rfl
  | d :: ds, e :: es, h, h' => by
    have h : (D.key d && D.keys ds) = true := h
    have h' : (D.key e && D.keys es) = true := h'
    rw [Bool.and_eq_true] at h h'
    show (D.eqv d e && D.eqvs ds es) = NestedKey.beqAll (d.nk :: D.nks ds) (e.nk :: D.nks es)
    rw [NestedKey.beqAll, key_eqv d e h.1 h'.1, keys_eqv ds es h.2 h'.2]
end
mutual
theorem nk_depth : ∀ (d : D), (d.nk).depth ≤ d.dep
  | .non => Nat.le_refl _
  | .bl _ => Nat.le_refl _
  | .int _ => Nat.le_refl _
  | .str _ => Nat.le_refl _
  | .tup xs => by
    show NestedKey.depth (.tup (D.nks xs)) ≤ D.deps xs + 1
    rw [NestedKey.depth]
    exact Nat.succ_le_succ (nks_depth xs)
  | .lst _ => Nat.le_refl _
  | .dct _ => Nat.le_refl _
  | .fn _ => Nat.le_refl _
  | .exc _ _ => Nat.le_refl _
  | .row => Nat.le_refl _
  | .memo => Nat.le_refl _
  | .rdr _ => Nat.le_refl _
  | .scr _ => Nat.le_refl _
theorem nks_depth : ∀ (ds : List D), NestedKey.depthAll (D.nks ds) ≤ D.deps ds
  | [] => Nat.le_refl _
  | d :: ds => by
    show NestedKey.depthAll (d.nk :: D.nks ds) ≤ max d.dep (D.deps ds)
    rw [NestedKey.depthAll]
    have h1 := nk_depth d
    have h2 := nks_depth ds
    omega
end
theorem tkey_iff {d : D} (h : d.tkey = true) : ∃ xs, d = .tup xs ∧ D.keys xs = true ∧ (d.nk).depth ≤ 8 ∧ d.key = true := by
  cases d with
  | tup xs =>
    have h : (D.keys xs && decide (D.dep (.tup xs) ≤ 8)) = true := h
    rw [Bool.and_eq_true, decide_eq_true_eq] at h
    exact ⟨xs, rfl, h.1, Nat.le_trans (nk_depth _) h.2, h.1⟩
  | _ => exact nomatch h
def D.sk : D → Key
  | .int i => .inl i
  | .str x => .inr x
  | _ => .inl 0
theorem skey_iff {d : D} (h : d.skey = true) : (∃ i, d = .int i) ∨ ∃ x, d = .str x := by
  cases d with
  | int i => exact .inl ⟨i, rfl⟩
  | str x => exact .inr ⟨x, rfl⟩
  | _ => exact nomatch h
theorem skey_key {d : D} (h : d.skey = true) : d.key = true := by
  rcases skey_iff h with ⟨i, rfl⟩ | ⟨x, rfl⟩ <;> rfl
theorem t_eqv {d e : D} (h : d.tkey = true) (h' : e.tkey = true) : D.eqv d e = decide (d.nk = e.nk) := by
  obtain ⟨_, _, _, _, k1⟩ := tkey_iff h
  obtain ⟨_, _, _, _, k2⟩ := tkey_iff h'
  rw [key_eqv d e k1 k2, NestedKey.decide_eq]
theorem s_eqv {d e : D} (h : d.skey = true) (h' : e.skey = true) : D.eqv d e = decide (d.sk = e.sk) := by
  rcases skey_iff h with ⟨i, rfl⟩ | ⟨x, rfl⟩ <;> rcases skey_iff h' with ⟨j, rfl⟩ | ⟨y, rfl⟩
  · show (i == j) = decide ((Sum.inl i : Key) = Sum.inl j)
    rw [key_ll]
  · show false = decide ((Sum.inl i : Key) = Sum.inr y)
    rw [key_lr]
  · show false = decide ((Sum.inr x : Key) = Sum.inl j)
    rw [key_rl]
  · show (x == y) = decide ((Sum.inr x : Key) = Sum.inr y)
    rw [key_rr, Bool.beq_eq_decide_eq]
theorem s_nk {d e : D} (h : d.skey = true) (h' : e.skey = true) : (d.nk = e.nk) ↔ d.sk = e.sk := by
  have a := key_eqv d e (skey_key h) (skey_key h')
  rw [← NestedKey.decide_eq, s_eqv h h'] at a
  exact ⟨fun q => of_decide_eq_true (a.trans (decide_eq_true q)), fun q => of_decide_eq_true (a.symm.trans (decide_eq_true q))⟩
theorem s_hash {w : World} {d : D} (h : d.skey = true) : hashD w d = keyH w d.sk := by
  rcases skey_iff h with ⟨i, rfl⟩ | ⟨x, rfl⟩ <;> rfl

section
variable {X : Cx} {pins : List (Addr × Obj)} {σ : List (Option V)} {H : Hp} {s : Shared} {C : RC}
mutual
theorem rep_nested (I : Inv X pins σ H s) (hK : C.K = X.K) (sub : ∀ a o, C.F a = some o → H a = some o) : ∀ (d : D) (v : V) (u : Value), D.key d = true → Rep C v d → RelV v u → NestedIs s.heap d.nk u
  | .non, _, _, _, h, r => by cases h; cases r; exact .none
  | .bl b, _, _, _, h, r => by cases h; cases r; exact .bool rfl
  | .int i, _, _, _, h, r => by cases h; obtain ⟨t, rfl⟩ := r; exact .int _ _
  | .str x, _, _, _, h, r => by cases h; obtain ⟨t, rfl⟩ := r; exact .text _ _
  | .tup ds, _, _, hk, h, r => by
    cases h with
    | tup h1 h2 =>
      cases r
      obtain ⟨its, rv, ⟨o, ho, hc, n, hd⟩, _⟩ := I.tuple (by rw [← hK]; exact sqT_mono sub h1.sq)
      exact .tup ho hc hd (repAll_nested I hK sub ds _ its hk h2 rv)
  | .lst _, _, _, h, _, _ => nomatch h
  | .dct _, _, _, h, _, _ => nomatch h
  | .fn _, _, _, h, _, _ => nomatch h
  | .exc _ _, _, _, h, _, _ => nomatch h
  | .row, _, _, h, _, _ => nomatch h
  | .memo, _, _, h, _, _ => nomatch h
  | .rdr _, _, _, h, _, _ => nomatch h
  | .scr _, _, _, h, _, _ => nomatch h
theorem repAll_nested (I : Inv X pins σ H s) (hK : C.K = X.K) (sub : ∀ a o, C.F a = some o → H a = some o) : ∀ (ds : List D) (vs : List V) (us : List Value), D.keys ds = true → RepAll C vs ds → Vals vs us → NestedAll s.heap (D.nks ds) us
  | [], _, _, _, h, r => by cases h; cases r; exact .nil
  | d :: ds, _, _, hk, h, r => by
    have hk : (D.key d && D.keys ds) = true := hk
    rw [Bool.and_eq_true] at hk
    cases h with
    | cons h1 h2 =>
      cases r with
      | cons r1 r2 => exact .cons (rep_nested I hK sub d _ _ hk.1 h1 r1) (repAll_nested I hK sub ds _ _ hk.2 h2 r2)
end
theorem rep_tkey (I : Inv X pins σ H s) (hK : C.K = X.K) (sub : ∀ a o, C.F a = some o → H a = some o) {d : D} {v : V} (h : d.tkey = true) (r : Rep C v d) : ∃ a, v = .ref a ∧ (nestedKind X.prog X.w).is s.heap d.nk a := by
  obtain ⟨xs, e, k, dp, kk⟩ := tkey_iff h
  subst e
  obtain ⟨a, rfl⟩ : ∃ a, v = .ref a := by cases r; exact ⟨_, rfl⟩
  exact ⟨a, rfl, rep_nested I hK sub _ _ _ kk r rfl, dp⟩
theorem rep_skey {d : D} {v : V} {u : Value} (h : d.skey = true) (r : Rep C v d) (ru : RelV v u) : RelV (kV d.sk) u ∧ v = kV d.sk := by
  rcases skey_iff h with ⟨i, rfl⟩ | ⟨x, rfl⟩
  · cases r; exact ⟨ru, rfl⟩
  · cases r; exact ⟨ru, rfl⟩
end

/-! ### the two ways to see a dict -/
/-- the value of an entry -/
def ValIs (C : RC) {κ : Type} (key : D → κ) (p : D × D) (q : κ × Value) : Prop := q.1 = key p.1 ∧ ∃ vv, RelV vv q.2 ∧ Rep C vv p.2
theorem valIs_get {C : RC} {κ : Type} [DecidableEq κ] {key : D → κ} {d : D} : ∀ {kvs : List (D × D)} {qs : List (κ × Value)}, Paired (ValIs C key) kvs qs → (∀ p ∈ kvs, D.eqv p.1 d = decide (key p.1 = key d)) →
    (∀ v0, dget kvs d = some v0 → ∃ u vv, valueAt qs (key d) = some u ∧ RelV vv u ∧ Rep C vv v0) ∧ (dget kvs d = none → valueAt qs (key d) = none)
  | _, _, .nil, _ => ⟨(fun _ h => nomatch h), fun _ => rfl⟩
  | (k, v) :: kvs, (k', u) :: qs, .cons r t, he => by
    obtain ⟨e1, vv, rv, rr⟩ := r
    have e1 : k' = key k := e1
    subst e1
    have ih := valIs_get t fun p hp => he p (List.mem_cons_of_mem _ hp)
    have e := he (k, v) (List.mem_cons_self ..)
    have e : D.eqv k d = decide (key k = key d) := e
    unfold dget
    rw [e]
    by_cases q : key k = key d
    · rw [decide_eq_true q, if_pos rfl]
      refine ⟨fun v0 h => ?_, fun h => nomatch h⟩
      cases h
      refine ⟨u, vv, ?_, rv, rr⟩
      unfold valueAt
      rw [List.find?_cons_of_pos (by simpa using q)]
      rfl
    · rw [decide_eq_false q, if_neg Bool.false_ne_true]
      have eqs : valueAt ((key k, u) :: qs) (key d) = valueAt qs (key d) := by
        unfold valueAt
        rw [List.find?_cons_of_neg (by simpa using q)]
      rw [eqs]
      exact ih
/-- is d fit for this dict: one of the two ways -/
theorem kOk_cases {a : Addr} {kvs : List (D × D)} {d : D} (dk : DOk a kvs) (h : kOk kvs d = true) : (d.tkey = true ∧ ∀ p ∈ kvs, p.1.tkey = true) ∨ (d.skey = true ∧ ∀ p ∈ kvs, p.1.skey = true) := by
  have ts : ∀ x : D, x.tkey = true → x.skey = true → False := fun x h1 h2 => by
    obtain ⟨xs, rfl, _⟩ := tkey_iff h1
    exact nomatch h2
  cases kvs with
  | nil =>
    have h : (d.tkey || d.skey) = true := h
    rw [Bool.or_eq_true] at h
    rcases h with h | h
    · exact .inl ⟨h, fun p hp => nomatch hp⟩
    · exact .inr ⟨h, fun p hp => nomatch hp⟩
  | cons p kvs =>
    have h : ((d.tkey && p.1.tkey) || (d.skey && p.1.skey)) = true := h
    rw [Bool.or_eq_true, Bool.and_eq_true, Bool.and_eq_true] at h
    rcases h with h | h
    · rcases dk.kind with k | k
      · exact .inl ⟨h.1, k⟩
      · exact (ts _ h.2 (k p (List.mem_cons_self ..))).elim
    · rcases dk.kind with k | k
      · exact (ts _ (k p (List.mem_cons_self ..)) h.2).elim
      · exact .inr ⟨h.1, k⟩
section
variable {X : Cx} {pins : List (Addr × Obj)} {σ : List (Option V)} {H : Hp} {s : Shared} {C : RC}
/-- an entry of the tuples' way -/
def TIs (C : RC) (p : D × D) (x : NestedKey × Addr × Value) : Prop := x.1 = p.1.nk ∧ ∃ vv, RelV vv x.2.2 ∧ Rep C vv p.2
theorem ents_T (I : Inv X pins σ H s) (hK : C.K = X.K) (hw : C.w = X.w) (sub : ∀ a o, C.F a = some o → H a = some o) : ∀ {es : List En} {kvs : List (D × D)} {ens : List DictEntry}, RepEnts C es kvs → Paired EntIs es ens → (∀ p ∈ kvs, p.1.tkey = true) →
    ∃ xs : List (NestedKey × Addr × Value), ens = xs.map (entryOfKey (nestedKind X.prog X.w)) ∧ (∀ x ∈ xs, (nestedKind X.prog X.w).is s.heap x.1 x.2.1) ∧ Paired (TIs C) kvs xs
  | _, _, _, .nil, .nil, _ => ⟨[], rfl, (fun _ h => nomatch h), .nil⟩
  | _, _, _, .cons (hs := hs) (kv := kv) (vv := vv) (k := k) (v := v) h1 h2 h3 h4, .cons (b := q) e t, hk => by
    obtain ⟨xs, i1, i2, i3⟩ := ents_T I hK hw sub h4 t fun p hp => hk p (List.mem_cons_of_mem _ hp)
    have hkk : k.tkey = true := hk (k, v) (List.mem_cons_self ..)
    obtain ⟨a, rfl, ka⟩ := rep_tkey I hK sub hkk h2
    obtain ⟨e1, e2, e3⟩ := e
    have e2 : q.key = .ref a := e2
    refine ⟨(k.nk, a, q.val) :: xs, ?_, fun x hx => ?_, .cons ⟨rfl, vv, e3, h3⟩ i3⟩
    · rw [List.map_cons, ← i1]
      refine congrArg (· :: _) ?_
      show q = ⟨(nestedKind X.prog X.w).hash k.nk, .ref a, q.val⟩
      have e1 : q.hash = hs := e1
      obtain ⟨q1, q2, q3⟩ := q
      have e1 : q1 = hs := e1
      have e2 : q2 = .ref a := e2
      subst e1 e2
      rw [h1, hw]
      rfl
    · rcases List.mem_cons.mp hx with z | z
      · rw [z]; exact ka
      · exact i2 x z
theorem ents_S (hw : C.w = X.w) : ∀ {es : List En} {kvs : List (D × D)} {ens : List DictEntry}, RepEnts C es kvs → Paired EntIs es ens → (∀ p ∈ kvs, p.1.skey = true) →
    ∃ qs : List (Key × Value), Pairs (mixKind X.prog X.w) ens qs ∧ (∀ e ∈ ens, ∃ k, (mixKind X.prog X.w).is k e.key = true ∧ e.hash = (mixKind X.prog X.w).hash k) ∧ Paired (ValIs C D.sk) kvs qs
  | _, _, _, .nil, .nil, _ => ⟨[], .nil, (fun _ h => nomatch h), .nil⟩
  | _, _, _, .cons (hs := hs) (kv := kv) (vv := vv) (k := k) (v := v) h1 h2 h3 h4, .cons (b := q) e t, hk => by
    obtain ⟨qs, i1, i2, i3⟩ := ents_S hw h4 t fun p hp => hk p (List.mem_cons_of_mem _ hp)
    have hkk : k.skey = true := hk (k, v) (List.mem_cons_self ..)
    obtain ⟨e1, e2, e3⟩ := e
    obtain ⟨rk, _⟩ := rep_skey hkk h2 e2
    refine ⟨(k.sk, q.val) :: qs, .cons (kV_is rk) rfl i1, fun x hx => ?_, .cons ⟨rfl, vv, e3, h3⟩ i3⟩
    rcases List.mem_cons.mp hx with z | z
    · rw [z]
      refine ⟨k.sk, kV_is rk, ?_⟩
      have e1 : q.hash = hs := e1
      rw [e1, h1, hw, s_hash hkk]; rfl
    · exact i2 x z
theorem TIs.keys : ∀ {kvs : List (D × D)} {xs : List (NestedKey × Addr × Value)}, Paired (TIs C) kvs xs → xs.map (·.1) = kvs.map fun p => p.1.nk
  | _, _, .nil => rfl
  | _, _, .cons r t => by rw [List.map_cons, List.map_cons, TIs.keys t, r.1]
theorem ValIs.keys {κ : Type} {key : D → κ} : ∀ {kvs : List (D × D)} {qs : List (κ × Value)}, Paired (ValIs C key) kvs qs → qs.map (·.1) = kvs.map fun p => key p.1
  | _, _, .nil => rfl
  | _, _, .cons r t => by rw [List.map_cons, List.map_cons, ValIs.keys t, r.1]
theorem TIs.vals : ∀ {kvs : List (D × D)} {xs : List (NestedKey × Addr × Value)}, Paired (TIs C) kvs xs → Paired (ValIs C D.nk) kvs (pairsH xs)
  | _, _, .nil => .nil
  | _, _, .cons r t => .cons r (TIs.vals t)
theorem nodup_sk : ∀ {kvs : List (D × D)}, (∀ p ∈ kvs, p.1.skey = true) → (kvs.map fun p => p.1.nk).Nodup → (kvs.map fun p => p.1.sk).Nodup
  | [], _, _ => List.nodup_nil
  | p :: kvs, hk, h => by
    rw [List.map_cons, List.nodup_cons] at h ⊢
    refine ⟨fun m => h.1 ?_, nodup_sk (fun q hq => hk q (List.mem_cons_of_mem _ hq)) h.2⟩
    obtain ⟨q, hq, e⟩ := List.mem_map.mp m
    exact List.mem_map.mpr ⟨q, hq, (s_nk (hk q (List.mem_cons_of_mem _ hq)) (hk p (List.mem_cons_self ..))).mpr e⟩
/-- a dict at a, in the state s -/
structure DAt (X : Cx) (C : RC) (s : Shared) (a : Addr) (es : List En) (kvs : List (D × D)) : Prop where
  at_ : DP a es s.heap
  ents : RepEnts C es kvs
  ok : DOk a kvs
theorem DAt.toT (I : Inv X pins σ H s) (hK : C.K = X.K) (hw : C.w = X.w) (sub : ∀ a o, C.F a = some o → H a = some o) {a : Addr} {es : List En} {kvs : List (D × D)} (d : DAt X C s a es kvs) (hk : ∀ p ∈ kvs, p.1.tkey = true) :
    ∃ xs, s.heap.DictOfH (nestedKind X.prog X.w) a xs ∧ Paired (TIs C) kvs xs := by
  obtain ⟨o, ens, ep, ho, hx, hd, hp⟩ := d.at_
  obtain ⟨xs, e1, e2, e3⟩ := ents_T I hK hw sub d.ents hp hk
  exact ⟨xs, ⟨o, ens, ep, ho, hx, hd, e1, e2, by rw [TIs.keys e3]; exact d.ok.nd⟩, e3⟩
theorem DAt.toS (hw : C.w = X.w) {a : Addr} {es : List En} {kvs : List (D × D)} (d : DAt X C s a es kvs) (hk : ∀ p ∈ kvs, p.1.skey = true) :
    ∃ qs, s.heap.DictOf (mixKind X.prog X.w) a qs ∧ Paired (ValIs C D.sk) kvs qs := by
  obtain ⟨o, ens, ep, ho, hx, hd, hp⟩ := d.at_
  obtain ⟨qs, e1, e2, e3⟩ := ents_S (X := X) hw d.ents hp hk
  exact ⟨qs, ⟨o, ens, ep, ho, hx, hd, fun e he => e2 e (Array.mem_toList_iff.mpr he), e1, by rw [ValIs.keys e3]; exact nodup_sk hk d.ok.nd⟩, e3⟩
end

/-! ### reading -/
section
variable {X : Cx} {pins : List (Addr × Obj)} {σ : List (Option V)} {H : Hp} {s : Shared} {C : RC} {A : Around} {E : Value → Shared → Prop} {a : Addr} {es : List En} {kvs : List (D × D)} {d : D} {v : V} {u : Value}
theorem room_nested (hu : A.units + 64 < cLine) : (nestedKind X.prog X.w).room A.in1 := by
  show A.units + 1 + 8 < cLine
  omega
theorem hd_in {Q : Value → Shared → Prop} (hu : A.units + 64 < cLine) (I : Inv X pins σ H s) (hK : C.K = X.K) (hw : C.w = X.w) (sub : ∀ a o, C.F a = some o → H a = some o) (g : DAt X C s a es kvs) (ko : kOk kvs d = true) (r : Rep C v d) (ru : RelV v u)
    (h : ∀ t, Q (.bool (dget kvs d).isSome) { s with toks := t }) : wpAny (model X.prog X.w) A (compareOp .In u (.ref a)) Q E s := by
  rcases kOk_cases g.ok ko with ⟨kd, ka⟩ | ⟨kd, ka⟩
  · obtain ⟨xs, dd, pr⟩ := g.toT I hK hw sub ka
    obtain ⟨b, rfl, kb⟩ := rep_tkey I hK sub kd r
    cases ru
    have z := valIs_get (TIs.vals pr) fun p hp => t_eqv (ka p hp) kd
    refine in_keyed (room_nested hu) kb g.ok.sys ⟨xs, dd, rfl⟩ ?_
    cases e : dget kvs d with
    | none => rw [z.2 e]; rw [e] at h; exact h _
    | some v0 => obtain ⟨u', vv, q, _⟩ := z.1 v0 e; rw [q]; rw [e] at h; exact h _
  · obtain ⟨qs, dd, pr⟩ := g.toS hw ka
    obtain ⟨rk, _⟩ := rep_skey kd r ru
    have z := valIs_get pr fun p hp => s_eqv (ka p hp) kd
    refine wpAny_in_of (kV_is rk) g.ok.sys dd.mapOf ?_
    cases e : dget kvs d with
    | none => rw [z.2 e]; rw [e] at h; exact h _
    | some v0 => obtain ⟨u', vv, q, _⟩ := z.1 v0 e; rw [q]; rw [e] at h; exact h _
theorem hd_notIn {Q : Value → Shared → Prop} (hu : A.units + 64 < cLine) (I : Inv X pins σ H s) (hK : C.K = X.K) (hw : C.w = X.w) (sub : ∀ a o, C.F a = some o → H a = some o) (g : DAt X C s a es kvs) (ko : kOk kvs d = true) (r : Rep C v d) (ru : RelV v u)
    (h : ∀ t, Q (.bool (!(dget kvs d).isSome)) { s with toks := t }) : wpAny (model X.prog X.w) A (compareOp .NotIn u (.ref a)) Q E s := by
  rcases kOk_cases g.ok ko with ⟨kd, ka⟩ | ⟨kd, ka⟩
  · obtain ⟨xs, dd, pr⟩ := g.toT I hK hw sub ka
    obtain ⟨b, rfl, kb⟩ := rep_tkey I hK sub kd r
    cases ru
    have z := valIs_get (TIs.vals pr) fun p hp => t_eqv (ka p hp) kd
    refine notIn_keyed (room_nested hu) kb g.ok.sys ⟨xs, dd, rfl⟩ ?_
    cases e : dget kvs d with
    | none => rw [z.2 e]; rw [e] at h; exact h _
    | some v0 => obtain ⟨u', vv, q, _⟩ := z.1 v0 e; rw [q]; rw [e] at h; exact h _
  · obtain ⟨qs, dd, pr⟩ := g.toS hw ka
    obtain ⟨rk, _⟩ := rep_skey kd r ru
    have z := valIs_get pr fun p hp => s_eqv (ka p hp) kd
    refine wpAny_notIn_of (kV_is rk) g.ok.sys dd.mapOf ?_
    cases e : dget kvs d with
    | none => rw [z.2 e]; rw [e] at h; exact h _
    | some v0 => obtain ⟨u', vv, q, _⟩ := z.1 v0 e; rw [q]; rw [e] at h; exact h _
theorem hd_getItem {v0 : D} {Q : Value → Shared → Prop} (hu : A.units + 64 < cLine) (I : Inv X pins σ H s) (hK : C.K = X.K) (hw : C.w = X.w) (sub : ∀ a o, C.F a = some o → H a = some o) (g : DAt X C s a es kvs) (ko : kOk kvs d = true) (r : Rep C v d) (ru : RelV v u) (hv : dget kvs d = some v0)
    (h : ∀ t vv u', RelV vv u' → Rep C vv v0 → Q u' { s with toks := t }) : wpAny (model X.prog X.w) A (getItem (.ref a) u) Q E s := by
  rcases kOk_cases g.ok ko with ⟨kd, ka⟩ | ⟨kd, ka⟩
  · obtain ⟨xs, dd, pr⟩ := g.toT I hK hw sub ka
    obtain ⟨b, rfl, kb⟩ := rep_tkey I hK sub kd r
    cases ru
    obtain ⟨u', vv, q, q1, q2⟩ := (valIs_get (TIs.vals pr) fun p hp => t_eqv (ka p hp) kd).1 v0 hv
    exact getItem_keyed (room_nested hu) kb ⟨xs, dd, rfl⟩ q (h _ vv u' q1 q2)
  · obtain ⟨qs, dd, pr⟩ := g.toS hw ka
    obtain ⟨rk, _⟩ := rep_skey kd r ru
    obtain ⟨u', vv, q, q1, q2⟩ := (valIs_get pr fun p hp => s_eqv (ka p hp) kd).1 v0 hv
    exact wpAny_getItem_of (kV_is rk) dd.mapOf q (h _ vv u' q1 q2)
theorem hd_get2 {x : V} {ux : Value} {dx : D} {Q : Value → Shared → Prop} (hu : A.units + 64 < cLine) (I : Inv X pins σ H s) (hK : C.K = X.K) (hw : C.w = X.w) (sub : ∀ a o, C.F a = some o → H a = some o) (g : DAt X C s a es kvs) (ko : kOk kvs d = true) (r : Rep C v d) (ru : RelV v u)
    (rx : Rep C x dx) (rux : RelV x ux) (h : ∀ t vv u', RelV vv u' → Rep C vv ((dget kvs d).getD dx) → Q u' { s with toks := t }) : wpAny (model X.prog X.w) A (call (.builtin "dict.get") [.ref a, u, ux]) Q E s := by
  rcases kOk_cases g.ok ko with ⟨kd, ka⟩ | ⟨kd, ka⟩
  · obtain ⟨xs, dd, pr⟩ := g.toT I hK hw sub ka
    obtain ⟨b, rfl, kb⟩ := rep_tkey I hK sub kd r
    cases ru
    have z := valIs_get (TIs.vals pr) fun p hp => t_eqv (ka p hp) kd
    refine getOr_keyed (room_nested hu) kb g.ok.sys ⟨xs, dd, rfl⟩ ?_
    cases e : dget kvs d with
    | none => rw [z.2 e]; rw [e] at h; exact h _ x ux rux rx
    | some v0 => obtain ⟨u', vv, q, q1, q2⟩ := z.1 v0 e; rw [q]; rw [e] at h; exact h _ vv u' q1 q2
  · obtain ⟨qs, dd, pr⟩ := g.toS hw ka
    obtain ⟨rk, _⟩ := rep_skey kd r ru
    have z := valIs_get pr fun p hp => s_eqv (ka p hp) kd
    refine call_meetsIn PySem.F.slot_dict_get dd.typeIs PySem.F.entry_dict_get (PySem.F.args_dict_get_3 _ _ _) (meets_dict_get_default (mixKind X.prog X.w) a (kV_is rk) g.ok.sys ux) ⟨_, dd.mapOf, ?_⟩
    cases e : dget kvs d with
    | none => rw [z.2 e]; rw [e] at h; exact h _ x ux rux rx
    | some v0 => obtain ⟨u', vv, q, q1, q2⟩ := z.1 v0 e; rw [q]; rw [e] at h; exact h _ vv u' q1 q2
theorem hd_len {Q : Value → Shared → Prop} (I : Inv X pins σ H s) (hK : C.K = X.K) (hw : C.w = X.w) (sub : ∀ a o, C.F a = some o → H a = some o) (g : DAt X C s a es kvs)
    (h : ∀ t t', Q (.int kvs.length t) { s with toks := t' }) : wpAny (model X.prog X.w) A (call (.builtin "len") [.ref a]) Q E s := by
  have hl := g.ok.len
  rw [sizeLine_eq] at hl
  rcases g.ok.kind with ka | ka
  · obtain ⟨xs, dd, pr⟩ := g.toT I hK hw sub ka
    have e := Paired.length pr
    refine call_len_dictH g.ok.sys dd (by omega) ?_
    rw [← e]
    exact h _ _
  · obtain ⟨qs, dd, pr⟩ := g.toS hw ka
    have e := Paired.length pr
    refine call_len_dict g.ok.sys dd (by omega) ?_
    rw [← e]
    exact h _ _
end
end Hb
namespace Hb
open PySem PySem.Spec PyProof.Rows L2

/-! ### storing -/
/-- the entries behind a store -/
def esPut (w : World) : List (D × D) → List En → D → V → V → List En
  | p :: kvs, e :: es, d, kx, vx => if D.eqv p.1 d = true then (e.1, e.2.1, vx) :: es else e :: esPut w kvs es d kx vx
  | _, _, d, kx, vx => [(hashD w d, kx, vx)]
theorem repEnts_put {C : RC} {d v : D} {kx vx : V} (rk : Rep C kx d) (rv : Rep C vx v) : ∀ {es : List En} {kvs : List (D × D)}, RepEnts C es kvs → RepEnts C (esPut C.w kvs es d kx vx) (dput kvs d v)
  | _, _, .nil => .cons rfl rk rv .nil
  | _, _, .cons (hs := hs) (kv := kv) (vv := vv) (es := es) (k := k) (v := v0) (kvs := kvs) h1 h2 h3 h4 => by
    show RepEnts C (if D.eqv k d = true then (hs, kv, vx) :: es else (hs, kv, vv) :: esPut C.w kvs es d kx vx) (if D.eqv k d = true then (k, v) :: kvs else (k, v0) :: dput kvs d v)
    by_cases q : D.eqv k d = true
    · rw [if_pos q, if_pos q]; exact .cons h1 h2 rv h4
    · rw [if_neg q, if_neg q]; exact .cons h1 h2 h3 (repEnts_put rk rv h4)
theorem dput_len : ∀ (kvs : List (D × D)) (d v : D), (dput kvs d v).length ≤ kvs.length + 1
  | [], _, _ => Nat.le_refl _
  | (k, v0) :: kvs, d, v => by
    show (if D.eqv k d = true then (k, v) :: kvs else (k, v0) :: dput kvs d v).length ≤ _
    have := dput_len kvs d v
    split
    · simp
    · simp only [List.length_cons]; omega
/-- the keys behind a store -/
theorem dput_keys {β : Type} (key : D → β) [DecidableEq β] {d : D} : ∀ (kvs : List (D × D)) (v : D), (∀ p ∈ kvs, D.eqv p.1 d = decide (key p.1 = key d)) →
    ((dput kvs d v).map fun p => key p.1) = if key d ∈ kvs.map (fun p => key p.1) then kvs.map (fun p => key p.1) else kvs.map (fun p => key p.1) ++ [key d]
  | [], _, _ => by simp [dput]
  | (k, v0) :: kvs, v, h => by
    have ih := dput_keys key kvs v fun p hp => h p (List.mem_cons_of_mem _ hp)
    have e := h (k, v0) (List.mem_cons_self ..)
    show ((if D.eqv k d = true then (k, v) :: kvs else (k, v0) :: dput kvs d v).map fun p => key p.1) = _
    have e : D.eqv k d = decide (key k = key d) := e
    rw [e]
    by_cases q : key k = key d
    · rw [decide_eq_true q, if_pos rfl, List.map_cons, List.map_cons]
      rw [if_pos (by rw [← q]; exact List.mem_cons_self ..)]
    · rw [decide_eq_false q, if_neg Bool.false_ne_true, List.map_cons, List.map_cons, ih]
      by_cases m : key d ∈ kvs.map fun p => key p.1
      · rw [if_pos m, if_pos (List.mem_cons_of_mem _ m)]
      · rw [if_neg m, if_neg (fun z => by rcases List.mem_cons.mp z with z | z; exact q z.symm; exact m z)]
        rfl
theorem nodup_snoc {β : Type} : ∀ {l : List β} {x : β}, l.Nodup → x ∉ l → (l ++ [x]).Nodup
  | [], x, _, _ => by simp
  | a :: r, x, h, hx => by
    obtain ⟨h1, h2⟩ := List.nodup_cons.mp h
    show (a :: (r ++ [x])).Nodup
    refine List.nodup_cons.mpr ⟨fun m => ?_, nodup_snoc h2 fun m => hx (List.mem_cons_of_mem _ m)⟩
    rcases List.mem_append.mp m with q | q
    · exact h1 q
    · exact hx (by rw [List.mem_singleton.mp q]; exact List.mem_cons_self ..)
theorem dput_all {d v : D} {P : D → Bool} (hd : P d = true) : ∀ (kvs : List (D × D)), (∀ p ∈ kvs, P p.1 = true) → ∀ p ∈ dput kvs d v, P p.1 = true
  | [], _, p, hp => by rw [List.mem_singleton.mp (show p ∈ [(d, v)] from hp)]; exact hd
  | (k, v0) :: kvs, h, p, hp => by
    have hp : p ∈ (if D.eqv k d = true then (k, v) :: kvs else (k, v0) :: dput kvs d v) := hp
    split at hp
    · rcases List.mem_cons.mp hp with z | z
      · rw [z]; exact h (k, v0) (List.mem_cons_self ..)
      · exact h p (List.mem_cons_of_mem _ z)
    · rcases List.mem_cons.mp hp with z | z
      · rw [z]; exact h (k, v0) (List.mem_cons_self ..)
      · exact dput_all hd kvs (fun q hq => h q (List.mem_cons_of_mem _ hq)) p z
theorem DOk.put {a : Addr} {kvs : List (D × D)} {d : D} (v : D) (dk : DOk a kvs) (ko : kOk kvs d = true) (hl : kvs.length < sizeLine) : DOk a (dput kvs d v) := by
  have dl := dput_len kvs d v
  rcases kOk_cases dk ko with ⟨kd, ka⟩ | ⟨kd, ka⟩
  · refine ⟨dk.sys, by omega, .inl (dput_all kd kvs ka), ?_⟩
    rw [dput_keys D.nk kvs v fun p hp => t_eqv (ka p hp) kd]
    split
    · exact dk.nd
    · rename_i m; exact nodup_snoc dk.nd m
  · refine ⟨dk.sys, by omega, .inr (dput_all kd kvs ka), ?_⟩
    rw [dput_keys D.nk kvs v fun p hp => by rw [s_eqv (ka p hp) kd]; exact decide_eq_decide.mpr (s_nk (ka p hp) kd).symm]
    split
    · exact dk.nd
    · rename_i m; exact nodup_snoc dk.nd m

section
variable {P : Program} {w : World} {C : RC} {d : D} {u : Value} {kx vx : V}
theorem storedH_cons {κ : Type} [DecidableEq κ] {x : κ × Addr × Value} {xs : List (κ × Addr × Value)} {k : κ} {b : Addr} {u : Value} (hn : ((x :: xs).map (·.1)).Nodup) :
    storedH (x :: xs) k b u = if x.1 = k then (x.1, x.2.1, u) :: xs else x :: storedH xs k b u := by
  rw [List.map_cons, List.nodup_cons] at hn
  by_cases q : x.1 = k
  · rw [if_pos q]
    have ha : atKey (x :: xs) k = some x.2 := by unfold atKey; rw [List.find?_cons_of_pos (by simpa using q)]; rfl
    rw [storedH_old ha, List.map_cons]
    have e1 : putAt k u x = (x.1, x.2.1, u) := by unfold putAt; rw [if_pos q]
    rw [e1, map_putAt_of_not_mem xs k u (by rw [← q]; exact hn.1)]
  · rw [if_neg q]
    have ha : atKey (x :: xs) k = atKey xs k := by unfold atKey; rw [List.find?_cons_of_neg (by simpa using q)]
    have e1 : putAt k u x = x := by unfold putAt; rw [if_neg q]
    unfold storedH
    rw [ha, List.map_cons, e1]
    split <;> rfl
theorem ents_putT (hw : C.w = w) (rv : RelV vx u) {b : Addr} (hkx : kx = .ref b) (kd : d.tkey = true) : ∀ {es : List En} {kvs : List (D × D)} {xs : List (NestedKey × Addr × Value)}, RepEnts C es kvs → Paired EntIs es (xs.map (entryOfKey (nestedKind P w))) →
    (∀ p ∈ kvs, p.1.tkey = true) → (xs.map (·.1) = kvs.map fun p => p.1.nk) → (xs.map (·.1)).Nodup → Paired EntIs (esPut w kvs es d kx vx) ((storedH xs d.nk b u).map (entryOfKey (nestedKind P w)))
  | _, _, [], .nil, _, _, _, _ => by
    subst hkx
    show Paired EntIs [(hashD w d, .ref b, vx)] [⟨_, _, _⟩]
    exact .cons ⟨rfl, rfl, rv⟩ .nil
  | _, _, x :: xs, .nil, h, _, _, _ => by cases h
  | _, _, [], .cons _ _ _ _, h, _, _, _ => by cases h
  | _, _, x :: xs, .cons (hs := hs) (kv := kv) (vv := vv) (es := es) (k := k) (v := v0) (kvs := kvs) h1 h2 h3 h4, h, hk, he, hn => by
    rw [List.map_cons] at h
    cases h with
    | cons e t =>
      rw [List.map_cons, List.map_cons] at he
      have e1 : x.1 = k.nk := (List.cons.inj he).1
      rw [storedH_cons hn]
      have q0 := t_eqv (hk (k, v0) (List.mem_cons_self ..)) kd
      have q0 : D.eqv k d = decide (k.nk = d.nk) := q0
      show Paired EntIs (if D.eqv k d = true then (hs, kv, vx) :: es else (hs, kv, vv) :: esPut w kvs es d kx vx) _
      rw [q0, e1]
      by_cases q : k.nk = d.nk
      · rw [decide_eq_true q, if_pos rfl, if_pos q, List.map_cons]
        refine .cons ⟨?_, e.2.1, rv⟩ t
        have := e.1
        rw [← e1]; exact this
      · rw [decide_eq_false q, if_neg Bool.false_ne_true, if_neg q, List.map_cons]
        rw [List.map_cons, List.nodup_cons] at hn
        exact .cons e (ents_putT hw rv hkx kd h4 t (fun p hp => hk p (List.mem_cons_of_mem _ hp)) (List.cons.inj he).2 hn.2)
/-- an entry and its pair, in the numbers' and texts' way -/
def SIs (w : World) (e : En) (q : Key × Value) : Prop := e.1 = keyH w q.1 ∧ e.2.1 = kV q.1 ∧ RelV e.2.2 q.2
theorem ents_ofS {es : List En} {ens : List DictEntry} {qs : List (Key × Value)} (h : Paired (SIs w) es qs) (hp : Pairs (mixKind P w) ens qs) (hk : ∀ e ∈ ens, ∃ k, (mixKind P w).is k e.key = true ∧ e.hash = (mixKind P w).hash k) : Paired EntIs es ens := by
  induction h generalizing ens with
  | nil => cases hp; exact .nil
  | @cons e q es qs r t ih =>
    cases hp with
    | @cons en _ ens _ k1 k2 k3 =>
      refine .cons ⟨?_, ?_, ?_⟩ (ih k3 fun e he => hk e (List.mem_cons_of_mem _ he))
      · obtain ⟨k, z1, z2⟩ := hk en (List.mem_cons_self ..)
        have := (mixKind P w).inj _ _ _ z1 k1
        rw [z2, this, r.1]; rfl
      · rw [r.2.1]
        rcases keyIs_shape k1 with ⟨i, t, e1, e2⟩ | ⟨x, t, e1, e2⟩
        · rw [e1, e2]; exact ⟨t, rfl⟩
        · rw [e1, e2]; exact ⟨t, rfl⟩
      · rw [k2]; exact r.2.2
theorem valueAt_cons {κ : Type} [DecidableEq κ] {q : κ × Value} {qs : List (κ × Value)} {k : κ} {u : Value} (hn : ((q :: qs).map (·.1)).Nodup) : stored (q :: qs) k u = if q.1 = k then (q.1, u) :: qs else q :: stored qs k u := by
  rw [List.map_cons, List.nodup_cons] at hn
  unfold stored
  by_cases e : q.1 = k
  · rw [if_pos e, List.any_cons, decide_eq_true e, Bool.true_or, if_pos rfl, List.map_cons, if_pos e]
    refine congrArg (_ :: ·) ?_
    have : ∀ {l : List (κ × Value)}, k ∉ l.map (·.1) → l.map (fun kv => if kv.1 = k then (kv.1, u) else kv) = l := fun {l} h => by
      induction l with
      | nil => rfl
      | cons a r ih =>
        rw [List.map_cons, List.mem_cons, not_or] at h
        rw [List.map_cons, if_neg (fun z => h.1 z.symm), ih h.2]
    exact this (by rw [← e]; exact hn.1)
  · rw [if_neg e, List.any_cons, decide_eq_false e, Bool.false_or, List.map_cons, if_neg e]
    split <;> rfl
theorem ents_S2 (hw : C.w = w) : ∀ {es : List En} {kvs : List (D × D)} {ens : List DictEntry} {qs : List (Key × Value)}, RepEnts C es kvs → Paired EntIs es ens → Pairs (mixKind P w) ens qs → Paired (fun (p : D × D) (q : Key × Value) => q.1 = p.1.sk) kvs qs → (∀ p ∈ kvs, p.1.skey = true) → Paired (SIs w) es qs
  | _, _, _, _, .nil, .nil, .nil, _, _ => .nil
  | _, _, _, _, .cons (k := k) (v := v) h1 h2 h3 h4, .cons e t, .cons k1 k2 k3, .cons z1 z2, hk => by
    have hkk : k.skey = true := hk (k, v) (List.mem_cons_self ..)
    have z1 := z1
    refine .cons ⟨?_, ?_, ?_⟩ (ents_S2 hw h4 t k3 z2 fun p hp => hk p (List.mem_cons_of_mem _ hp))
    · rw [z1, h1, hw, s_hash hkk]
    · rw [z1]; exact (rep_skey hkk h2 e.2.1).2
    · rw [← k2]; exact e.2.2
theorem ents_putS (hw : C.w = w) (rv : RelV vx u) (kd : d.skey = true) (hkx : kx = kV d.sk) : ∀ {es : List En} {kvs : List (D × D)} {qs : List (Key × Value)}, RepEnts C es kvs → Paired (SIs w) es qs → (∀ p ∈ kvs, p.1.skey = true) → (qs.map (·.1) = kvs.map fun p => p.1.sk) → (qs.map (·.1)).Nodup →
    Paired (SIs w) (esPut w kvs es d kx vx) (stored qs d.sk u)
  | _, _, [], .nil, _, _, _, _ => .cons ⟨s_hash kd, hkx, rv⟩ .nil
  | _, _, q :: qs, .nil, h, _, _, _ => by cases h
  | _, _, [], .cons _ _ _ _, h, _, _, _ => by cases h
  | _, _, q :: qs, .cons (hs := hs) (kv := kv) (vv := vv) (es := es) (k := k) (v := v0) (kvs := kvs) h1 h2 h3 h4, h, hk, he, hn => by
    cases h with
    | cons e t =>
      rw [List.map_cons, List.map_cons] at he
      have e1 : q.1 = k.sk := (List.cons.inj he).1
      rw [valueAt_cons hn]
      have q0 := s_eqv (hk (k, v0) (List.mem_cons_self ..)) kd
      have q0 : D.eqv k d = decide (k.sk = d.sk) := q0
      show Paired (SIs w) (if D.eqv k d = true then (hs, kv, vx) :: es else (hs, kv, vv) :: esPut w kvs es d kx vx) _
      rw [q0, e1]
      by_cases z : k.sk = d.sk
      · rw [decide_eq_true z, if_pos rfl, if_pos z]
        refine .cons ⟨?_, ?_, rv⟩ t
        · have := e.1; rw [e1] at this; exact this
        · have := e.2.1; rw [e1] at this; exact this
      · rw [decide_eq_false z, if_neg Bool.false_ne_true, if_neg z]
        rw [List.map_cons, List.nodup_cons] at hn
        exact .cons e (ents_putS hw rv kd hkx h4 t (fun p hp => hk p (List.mem_cons_of_mem _ hp)) (List.cons.inj he).2 hn.2)
end
section
variable {X : Cx} {pins : List (Addr × Obj)} {σ : List (Option V)} {H : Hp} {s : Shared} {C : RC} {A : Around} {E : Value → Shared → Prop} {a : Addr} {es : List En} {kvs : List (D × D)} {d dv : D} {v vv : V} {u uv : Value}
/-- d[k] = v: the object at a is own -/
theorem hd_setItem {Q : Unit → Shared → Prop} (hu : A.units + 64 < cLine) (I : Inv X pins σ H s) (hK : C.K = X.K) (hw : C.w = X.w) (sub : ∀ a o, C.F a = some o → H a = some o) (ha : H a = some (.ext (DP a es))) (g : DAt X C s a es kvs) (ko : kOk kvs d = true) (r : Rep C v d) (ru : RelV v u)
    (rv : Rep C vv dv) (ruv : RelV vv uv) (hl : kvs.length < sizeLine)
    (h : ∀ s' es', Inv X pins σ (upd H a (.ext (DP a es'))) s' → RepEnts C es' (dput kvs d dv) → DOk a (dput kvs d dv) → Q () s') : wpAny (model X.prog X.w) A (setItem (.ref a) u uv) Q E s := by
  have fin : ∀ h' t, DP a (esPut X.w kvs es d v vv) h' → Heap.SameBut a s.heap h' → Q () { s with heap := h', toks := t } := fun h' t dp hs => by
    refine h _ (esPut X.w kvs es d v vv) ?_ (by rw [← hw]; exact repEnts_put r rv g.ents) (g.ok.put dv ko hl)
    obtain ⟨o, ens, ep, ho, _⟩ := id dp
    exact d_write I (by rw [ha]; exact True.intro) hs ⟨o, ho⟩ (dp_ok dp)
  rcases kOk_cases g.ok ko with ⟨kd, ka⟩ | ⟨kd, ka⟩
  · obtain ⟨o, ens, ep, ho, hx, hd, hp⟩ := g.at_
    obtain ⟨xs, e1, e2, e3⟩ := ents_T I hK hw sub g.ents hp ka
    have hn : (xs.map (·.1)).Nodup := by rw [TIs.keys e3]; exact g.ok.nd
    have dd : s.heap.DictOfH (nestedKind X.prog X.w) a xs := ⟨o, ens, ep, ho, hx, hd, e1, e2, hn⟩
    obtain ⟨b, eb, kb⟩ := rep_tkey I hK sub kd r
    subst eb
    cases ru
    have hz : xs.length ≤ sizeLine := by rw [← Paired.length e3]; omega
    refine wpAny_setItem_heap (hsz := hz) (room_nested hu) kb dd fun h' dd' hs => fin h' _ ?_ hs
    obtain ⟨o', ens', ep', ho', hx', hd', he', _, _⟩ := dd'
    refine ⟨o', ens', ep', ho', hx', hd', ?_⟩
    rw [he']
    rw [e1] at hp
    exact ents_putT hw ruv rfl kd g.ents hp ka (TIs.keys e3) hn
  · obtain ⟨o, ens, ep, ho, hx, hd, hp⟩ := g.at_
    obtain ⟨qs, e1, e2, e3⟩ := ents_S (X := X) hw g.ents hp ka
    have hn : (qs.map (·.1)).Nodup := by rw [ValIs.keys e3]; exact nodup_sk ka g.ok.nd
    have dd : s.heap.DictOf (mixKind X.prog X.w) a qs := ⟨o, ens, ep, ho, hx, hd, fun e he => e2 e (Array.mem_toList_iff.mpr he), e1, hn⟩
    obtain ⟨rk, ek⟩ := rep_skey kd r ru
    have hz : qs.length ≤ sizeLine := by rw [← Paired.length e3]; omega
    refine wpAny_setItem_pairs (hsz := hz) (kV_is rk) dd fun h' dd' hs => fin h' _ ?_ hs
    obtain ⟨o', ens', ep', ho', hx', hd', hk', hp', _⟩ := dd'
    refine ⟨o', ens', ep', ho', hx', hd', ?_⟩
    have s2 := ents_S2 (P := X.prog) hw g.ents hp e1 (Paired.mapP e3 fun p q z => z.1) ka
    exact ents_ofS (P := X.prog) (ents_putS hw ruv kd ek g.ents s2 ka (ValIs.keys e3) hn) hp' fun e he => hk' e (Array.mem_toList_iff.mp he)
end
end Hb
namespace Hb
open PySem PySem.Spec PyProof.Rows L2

theorem repK_dct {X : Cx} {pins : List (Addr × Obj)} {σ : List (Option V)} {H : Hp} {s : Shared} {C : RC} {k : Hb.K} {v : V} {kvs : List (D × D)} (I : Inv X pins σ H s) (sub : ∀ a o, C.F a = some o → H a = some o) (h : RepK C H k v (.dct kvs)) :
    ∃ a es, v = .ref a ∧ DAt X C s a es kvs := by
  have go : (∃ a, v = .ref a ∧ C.F a = none ∧ ¬ C.G a ∧ ObjR C H a (.dct kvs)) → ∃ a es, v = .ref a ∧ DAt X C s a es kvs := fun ⟨a, e, _, _, es, h1, h2, h3⟩ => ⟨a, es, e, ext_of (I.hok a _ h1), h2, h3⟩
  cases k with
  | sh =>
    cases h with
    | dct h1 h2 h3 =>
      obtain ⟨_, q⟩ := I.hok _ _ (sub _ _ h1)
      exact ⟨_, _, rfl, ext_of q, h2, h3⟩
  | fr => exact go h
  | br => exact go h
/-- the memo at its address -/
theorem mem_at {C : RC} {H : Hp} {st : Hb.St} {v : V} {k : Hb.K} {r : List (D × D)} (row : RowOk C H st) (h : RepK C H k v .memo) (e : st.memo = some r) : ∃ a es, v = .ref a ∧ C.gl .mm = some a ∧ C.F a = none ∧ H a = some (.ext (DP a es)) ∧ RepEnts C es r ∧ DOk a r := by
  have row := row.mem
  unfold MemP at row
  rw [e] at row
  obtain ⟨a, h1, h2, es, h3, h4, h5⟩ := row
  cases k with
  | sh =>
    cases h with
    | memo z => rw [h1] at z; cases z; exact ⟨_, es, rfl, h1, h2, h3, h4, h5⟩
  | _ => obtain ⟨_, _, _, _, q⟩ := h; exact q.elim
/-! ### in, not in -/
/-- a key's value: sealed (keys are never own objects) -/
theorem repK_key {C : RC} {H : Hp} {k : Hb.K} {v : V} {d : D} (h : RepK C H k v d) (hk : d.tkey = true ∨ d.skey = true) : Rep C v d := by
  cases k with
  | sh => exact h
  | _ =>
    obtain ⟨a, _, _, _, q⟩ := h
    rcases hk with hk | hk
    · obtain ⟨xs, e, _⟩ := tkey_iff hk
      subst e
      exact q.elim
    · rcases skey_iff hk with ⟨i, e⟩ | ⟨i, e⟩ <;> (subst e; exact q.elim)
theorem kOk_key {kvs : List (D × D)} {d : D} (h : kOk kvs d = true) : d.tkey = true ∨ d.skey = true := by
  cases kvs with
  | nil =>
    have h : (d.tkey || d.skey) = true := h
    rwa [Bool.or_eq_true] at h
  | cons p kvs =>
    have h : ((d.tkey && p.1.tkey) || (d.skey && p.1.skey)) = true := h
    rw [Bool.or_eq_true, Bool.and_eq_true, Bool.and_eq_true] at h
    rcases h with h | h
    · exact .inl h.1
    · exact .inr h.1
def rMem (X : Cx) (neg : Bool) : R2 := fun x y H Q => ∃ C st k1 d1 k2 d2 Z, OpC X C H st ∧ RepK C H k1 x d1 ∧ RepK C H k2 y d2 ∧ OutG (inD d1 d2 st) (fun b st' => st' = st → Q (.bl (if neg = true then !b else b)) H) Z
theorem one_sign {x : Str} {c : Nat} (h : x.cps.toList = [c]) : x = ⟨#[c]⟩ := by
  obtain ⟨a⟩ := x
  have h : a.toList = [c] := h
  have : a = #[c] := by rw [← Array.toArray_toList (xs := a), h]
  rw [this]
theorem op_mem {X : Cx} (hu : X.A.units + 100 < cLine) (neg : Bool) : OpR X (compareOp (if neg = true then .NotIn else .In)) (rMem X neg) := by
  intro pins s σ H x y v u Q I rx ry h
  obtain ⟨C, st, k1, d1, k2, d2, Z, oc, r1, r2, o⟩ := h
  have fin : ∀ {b : Bool}, (fun (b : Bool) (st' : Hb.St) => st' = st → Q (.bl (if neg = true then !b else b)) H) b st → ∀ t, EP X pins σ Q (.bool (if neg = true then !b else b)) { s with toks := t } := fun {b} q t => ⟨.bl _, H, I.tok t, rfl, q rfl⟩
  cases d2 with
  | lst ys =>
    obtain ⟨g, o⟩ := OutG.guardB o
    rw [Bool.and_eq_true] at g
    obtain ⟨as, ra⟩ := Dp.reads I _ _ _ (repK_dp oc.K oc.sub g.1 r1) rx
    obtain ⟨bs, rb⟩ := Dp.reads I _ _ _ (repK_dp oc.K oc.sub (show (D.lst ys).plain = true from g.2) r2) ry
    have z1 := plain_py d1 40 g.1
    have z2 := plains_py ys 39 g.2
    have e : (ys.any fun y => D.eqv y d1) = (D.pys ys).any fun z => PyData.eqv z d1.py := by
      have : ∀ l : List D, D.plainsN 40 l = true → (l.any fun y => D.eqv y d1) = (D.pys l).any fun z => PyData.eqv z d1.py := fun l => by
        induction l with
        | nil => intro _; rfl
        | cons a r ih =>
          intro hl
          have hl : (D.plainN 40 a && D.plainsN 40 r) = true := hl
          rw [Bool.and_eq_true] at hl
          simp only [List.any_cons, D.pys]
          rw [eqv_py a d1 40 hl.1 g.1, ih hl.2]
      exact this ys (plains_up ys 39 40 (by decide) g.2)
    have hroom : X.A.units + 1 + min (PyData.depthAll (D.pys ys)) d1.py.depth < cLine := by have := Nat.min_le_right (PyData.depthAll (D.pys ys)) d1.py.depth; omega
    have f := fin o s.toks
    rw [e] at f
    cases neg with
    | false => exact PySem.SeqAt.in_list_data rb ra z2.1 z1.1 hroom f
    | true => exact PySem.SeqAt.notIn_list_data rb ra z2.1 z1.1 hroom f
  | tup ys =>
    obtain ⟨g, o⟩ := OutG.guardB o
    rw [Bool.and_eq_true] at g
    obtain ⟨as, ra⟩ := Dp.reads I _ _ _ (repK_dp oc.K oc.sub g.1 r1) rx
    obtain ⟨bs, rb⟩ := Dp.reads I _ _ _ (repK_dp oc.K oc.sub (show (D.tup ys).plain = true from g.2) r2) ry
    have z1 := plain_py d1 40 g.1
    have z2 := plains_py ys 39 g.2
    have e : (ys.any fun y => D.eqv y d1) = (D.pys ys).any fun z => PyData.eqv z d1.py := by
      have : ∀ l : List D, D.plainsN 40 l = true → (l.any fun y => D.eqv y d1) = (D.pys l).any fun z => PyData.eqv z d1.py := fun l => by
        induction l with
        | nil => intro _; rfl
        | cons a r ih =>
          intro hl
          have hl : (D.plainN 40 a && D.plainsN 40 r) = true := hl
          rw [Bool.and_eq_true] at hl
          simp only [List.any_cons, D.pys]
          rw [eqv_py a d1 40 hl.1 g.1, ih hl.2]
      exact this ys (plains_up ys 39 40 (by decide) g.2)
    have hroom : X.A.units + 1 + min (PyData.depthAll (D.pys ys)) d1.py.depth < cLine := by have := Nat.min_le_right (PyData.depthAll (D.pys ys)) d1.py.depth; omega
    have f := fin o s.toks
    rw [e] at f
    cases neg with
    | false => exact PySem.SeqAt.in_tuple_data rb ra z2.1 z1.1 hroom f
    | true => exact PySem.SeqAt.notIn_tuple_data rb ra z2.1 z1.1 hroom f
  | dct kvs =>
    obtain ⟨g, o⟩ := OutG.guardB o
    obtain ⟨a, es, rfl, da⟩ := repK_dct I oc.sub r2
    cases ry
    have rk := repK_key r1 (kOk_key g)
    cases neg with
    | false => exact hd_in (by omega) I oc.K oc.w oc.sub da g rk rx fun t => fin o t
    | true => exact hd_notIn (by omega) I oc.K oc.w oc.sub da g rk rx fun t => fin o t
  | str y' =>
    cases d1 with
    | str c =>
      rw [repK_str r1] at rx; rw [repK_str r2] at ry
      have o : OutG ((match c.cps.toList with | [k] => pure (y'.cps.toList.contains k) | _ => bad : M Bool) st) (fun b st' => st' = st → Q (.bl (if neg = true then !b else b)) H) Z := o
      cases e : c.cps.toList with
      | nil => rw [e] at o; exact (show False from o).elim
      | cons k r =>
        cases r with
        | cons _ _ => rw [e] at o; exact (show False from o).elim
        | nil =>
          rw [e] at o
          have ec := one_sign e
          subst ec
          have o : Q (.bl (if neg = true then !y'.cps.toList.contains k else y'.cps.toList.contains k)) H := o rfl
          have ee : y'.cps.toList.contains k = decide (k ∈ y'.cps.toList) := by rw [List.contains_eq_mem]
          rw [ee] at o
          cases neg with
          | false => exact op_in_sign pins s σ H _ _ v u Q I rx ry ⟨k, y', rfl, rfl, o⟩
          | true => exact op_notIn_sign pins s σ H _ _ v u Q I rx ry ⟨k, y', rfl, rfl, o⟩
    | _ => exact (show False from o).elim
  | memo =>
    have o := OutG.bind (show OutG ((theMemo >>= fun kvs => do guard_ (kOk kvs d1); pure (dget kvs d1).isSome : M Bool) st) (fun b st' => st' = st → Q (.bl (if neg = true then !b else b)) H) Z from o)
    cases e : st.memo with
    | none =>
      unfold theMemo at o
      rw [e] at o
      exact (show False from o).elim
    | some kvs =>
      unfold theMemo at o
      rw [e] at o
      obtain ⟨g, o⟩ := OutG.guardB (show OutG ((do guard_ (kOk kvs d1); pure (dget kvs d1).isSome : M Bool) st) (fun b st' => st' = st → Q (.bl (if neg = true then !b else b)) H) Z from o)
      obtain ⟨a, es, rfl, _, _, ha, he, hd⟩ := mem_at oc.row r2 e
      have da : DAt X C s a es kvs := ⟨ext_of (I.hok a _ ha), he, hd⟩
      cases ry
      have rk := repK_key r1 (kOk_key g)
      cases neg with
      | false => exact hd_in (by omega) I oc.K oc.w oc.sub da g rk rx fun t => fin o t
      | true => exact hd_notIn (by omega) I oc.K oc.w oc.sub da g rk rx fun t => fin o t
  | _ => exact (show False from o).elim

/-! ### a[b] -/
theorem subTail_of {prog : Program} {w : World} {A : Around} {E : Value → Shared → Prop} {s : Shared} {value slice : Expr} {o i : Value} {T id : String} {Q : Value → Shared → Prop} (hT : s.TypeIs o T)
    (hl : typeLookup (.type T) "__getitem__" = pure (some (.builtin id))) (hs : subscripted slice false o i = operate [o, i] (getItem o i)) (h : wpAny (model prog w) A (getItem o i) Q E s) : wpAny (model prog w) A (subscriptTail value slice o i) Q E s := by
  unfold subscriptTail
  refine wpAny_bind ?_
  rw [getitemInPython_of_ne hT.not_modules]
  refine wpAny_bind (wpAny_specialOf hT hl ?_)
  have fin : wpAny (model prog w) A (subscripted slice false o i) (fun r s₃ => wpAny (model prog w) A (letTemporaryGo value o r >>= fun _ => pure r) Q E s₃) E s := by
    rw [hs]
    exact wpAny_operating (wpAny_mono h (fun r s₃ h₃ => wpAny_bind (wpAny_letTemporaryGo (wpAny_pure h₃))) fun _ _ x => x)
  first
    | exact wpAny_pure (wpAny_bind fin)
    | exact wpAny_bind (wpAny_pure (wpAny_bind fin))
    | exact wpAny_bind fin
theorem seqIx_eq (i : Int) (n : Nat) : seqIx i n = ixN n i := rfl
theorem atI_rep {C : RC} {vs : List V} {ds : List D} {i : Int} {d : D} (r : RepAll C vs ds) (h : (seqIx i ds.length).bind (fun k => ds[k]?) = some d) : ∃ v, atI vs i = some v ∧ Rep C v d := by
  rw [seqIx_eq] at h
  obtain ⟨k, h1, h2⟩ := Option.bind_eq_some_iff.mp h
  obtain ⟨v, h3, h4⟩ := r.get h2
  exact ⟨v, by unfold atI; rw [r.length, h1]; exact h3, h4⟩
/-- the row at its address -/
theorem row_at {X : Cx} {C : RC} {H : Hp} {st : Hb.St} {v : V} {k : Hb.K} {r : List D} (row : RowOk C H st) (h : RepK C H k v .row) (e : st.row = some r) : ∃ a xs, v = .ref a ∧ C.gl .row = some a ∧ H a = some (.lst xs) ∧ RepAll C xs r := by
  have row := row.row
  unfold RowP at row
  rw [e] at row
  obtain ⟨a, xs, h1, h2, h3, h4⟩ := row
  cases k with
  | sh =>
    cases h with
    | row z => rw [h1] at z; cases z; exact ⟨_, xs, rfl, h1, h3, h4⟩
  | _ => obtain ⟨_, _, _, _, q⟩ := h; exact q.elim
def rIdx (X : Cx) : R2 := fun x y H Q => ∃ C st k1 d1 k2 d2 Z, OpC X C H st ∧ RepK C H k1 x d1 ∧ RepK C H k2 y d2 ∧ OutG (idxD d1 d2 st) (fun d st' => st' = st → ∀ v, Rep C v d → Q v H) Z
theorem ix_D {X : Cx} (hu : X.A.units + 100 < cLine) : IxR X (rIdx X) := by
  intro value slice pins s σ H x y v u Q I rx ry h hs
  obtain ⟨C, st, k1, d1, k2, d2, Z, oc, r1, r2, o⟩ := h
  cases d1 with
  | lst xs =>
    cases d2 with
    | int i =>
      obtain ⟨a, vs, rfl, ha, ra⟩ := repK_lst oc.sub r1
      rw [repK_int r2] at ry
      obtain ⟨d, e, o⟩ := OutG.need o
      obtain ⟨z, ez, rz⟩ := atI_rep ra e
      exact ix_list value slice pins s σ H _ _ v u Q I rx ry ⟨a, vs, i, z, rfl, rfl, .inl (.inl ha), ez, o rfl z rz⟩ hs
    | _ => exact (show False from o).elim
  | tup xs =>
    cases d2 with
    | int i =>
      obtain ⟨a, vs, rfl, ha, ra, _⟩ := repK_tup r1
      rw [repK_int r2] at ry
      obtain ⟨d, e, o⟩ := OutG.need o
      obtain ⟨z, ez, rz⟩ := atI_rep ra e
      exact ix_tup value slice pins s σ H _ _ v u Q I rx ry ⟨a, vs, i, z, rfl, rfl, by rw [← oc.K]; exact sqT_mono oc.sub ha, ez, o rfl z rz⟩ hs
    | _ => exact (show False from o).elim
  | scr ns =>
    cases d2 with
    | int i =>
      rw [repK_int r2] at ry
      obtain ⟨a, rfl, ha⟩ : ∃ a, x = .ref a ∧ SqL C.K C.F a (ns.map V.int) := by
        cases k1 with
        | sh => cases r1 with | scr z => exact ⟨_, rfl, z⟩
        | _ => obtain ⟨_, _, _, _, q⟩ := r1; exact q.elim
      obtain ⟨d, e, o⟩ := OutG.need o
      obtain ⟨k, h1, h2⟩ := Option.bind_eq_some_iff.mp e
      obtain ⟨n, h3, h4⟩ := Option.map_eq_some_iff.mp h2
      subst h4
      refine ix_list value slice pins s σ H _ _ v u Q I rx ry ⟨a, _, i, .int n, rfl, rfl, (by rw [← oc.K]; exact sqL_mono oc.sub ha), ?_, o rfl _ (.int n)⟩ hs
      unfold atI
      rw [List.length_map, ← seqIx_eq, h1]
      show (ns.map V.int)[k]? = _
      rw [List.getElem?_map, h3]; rfl
    | _ => exact (show False from o).elim
  | dct kvs =>
    have o : OutG ((do guard_ (kOk kvs d2); need (dget kvs d2) : M D) st) (fun d st' => st' = st → ∀ v, Rep C v d → Q v H) Z := by cases d2 <;> exact o
    obtain ⟨g, o⟩ := OutG.guardB o
    obtain ⟨v0, e, o⟩ := OutG.need o
    obtain ⟨a, es, rfl, da⟩ := repK_dct I oc.sub r1
    cases rx
    have rk := repK_key r2 (kOk_key g)
    have hT : s.TypeIs (.ref a) "dict" := let ⟨ob, _, _, ho, hc, _⟩ := da.at_; ⟨ob, ho, hc.1⟩
    exact subTail_of hT PySem.F.slot_dict_getitem.lookup hs (hd_getItem (by omega) I oc.K oc.w oc.sub da g rk ry e fun t vv u' rv rr => ⟨vv, H, I.tok t, rv, o rfl vv rr⟩)
  | str z =>
    cases d2 with
    | int i =>
      rw [repK_str r1] at rx; rw [repK_int r2] at ry
      obtain ⟨g, o⟩ := OutG.guardB o
      obtain ⟨d, e, o⟩ := OutG.need o
      obtain ⟨k, h1, h2⟩ := Option.bind_eq_some_iff.mp e
      obtain ⟨n, h3, h4⟩ := Option.map_eq_some_iff.mp h2
      subst h4
      refine ix_str value slice pins s σ H _ _ v u Q I rx ry ⟨z, i, n, rfl, rfl, ?_, ?_, o rfl _ (.str _)⟩ hs
      · have := of_decide_eq_true g; rw [sizeLine_eq]; omega
      · unfold atI
        rw [← seqIx_eq, h1]; exact h3
    | _ => exact (show False from o).elim
  | row =>
    cases d2 with
    | int i =>
      have o := OutG.bind o
      cases e : st.row with
      | none =>
        unfold theRow at o
        rw [e] at o
        exact (show False from o).elim
      | some r =>
        unfold theRow at o
        rw [e] at o
        obtain ⟨a, xs, rfl, _, ha, ra⟩ := row_at (X := X) oc.row r1 e
        rw [repK_int r2] at ry
        obtain ⟨d, e, o⟩ := OutG.need o
        obtain ⟨z, ez, rz⟩ := atI_rep ra e
        exact ix_list value slice pins s σ H _ _ v u Q I rx ry ⟨a, xs, i, z, rfl, rfl, .inl (.inl ha), ez, o rfl z rz⟩ hs
    | _ => exact (show False from o).elim
  | memo =>
    have o : OutG ((theMemo >>= fun kvs => do guard_ (kOk kvs d2); need (dget kvs d2) : M D) st) (fun d st' => st' = st → ∀ v, Rep C v d → Q v H) Z := by cases d2 <;> exact o
    have o := OutG.bind o
    cases em : st.memo with
    | none =>
      unfold theMemo at o
      rw [em] at o
      exact (show False from o).elim
    | some kvs =>
      unfold theMemo at o
      rw [em] at o
      have o : OutG ((do guard_ (kOk kvs d2); need (dget kvs d2) : M D) st) (fun d st' => st' = st → ∀ v, Rep C v d → Q v H) Z := o
      obtain ⟨g, o⟩ := OutG.guardB o
      obtain ⟨v0, e, o⟩ := OutG.need o
      obtain ⟨a, es, rfl, _, _, ha, he, hd⟩ := mem_at oc.row r1 em
      have da : DAt X C s a es kvs := ⟨ext_of (I.hok a _ ha), he, hd⟩
      cases rx
      have rk := repK_key r2 (kOk_key g)
      have hT : s.TypeIs (.ref a) "dict" := let ⟨ob, _, _, ho, hc, _⟩ := da.at_; ⟨ob, ho, hc.1⟩
      exact subTail_of hT PySem.F.slot_dict_getitem.lookup hs (hd_getItem (by omega) I oc.K oc.w oc.sub da g rk ry e fun t vv u' rv rr => ⟨vv, H, I.tok t, rv, o rfl vv rr⟩)
  | _ => exact (show False from o).elim

/-! ### slices -/
theorem cut_eq {α : Type} (xs : List α) (lo hi : Option Int) : cut xs lo hi = (xs.drop (HT.sIx xs.length 0 lo)).take (HT.sIx xs.length xs.length hi - HT.sIx xs.length 0 lo) := by
  have e : ∀ n d o, cutIx n d o = HT.sIx n d o := fun n d o => by cases o <;> rfl
  unfold cut
  rw [e, e]
theorem RepAll.cut {C : RC} {vs : List V} {ds : List D} (r : RepAll C vs ds) (lo hi : Option Int) : RepAll C (cutV vs lo hi) (Hb.cut ds lo hi) := by
  rw [cut_eq]
  unfold cutV
  rw [r.length]
  exact RepAll.take _ (RepAll.drop _ r)
def rSlc (X : Cx) : V → Option Int → Option Int → Hp → VK → Prop := fun x lo hi H Q => ∃ C st k1 d1 Z, OpC X C H st ∧ RepK C H k1 x d1 ∧ OutG (slcD d1 lo hi st) (RE C H Q) Z
theorem sl_D {X : Cx} : SlR X (rSlc X) := by
  intro pins s σ H x v vl vu lo hi sl Q I rx hs pl pu h
  obtain ⟨C, st, k1, d1, Z, oc, r1, o⟩ := h
  cases d1 with
  | lst xs =>
    obtain ⟨a, vs, rfl, ha, ra⟩ := repK_lst oc.sub r1
    refine sl_list pins s σ H _ v vl vu lo hi sl Q I rx hs pl pu ⟨a, vs, rfl, .inl (.inl ha), fun p hp => ?_⟩
    obtain ⟨p1, p2⟩ := new_lst oc.sub oc.row hp (RepAll.cut ra lo hi)
    exact o _ C _ p1 p2 fun a e => by cases e; exact hp
  | tup xs =>
    obtain ⟨a, vs, rfl, ha, ra, rr⟩ := repK_tup r1
    refine sl_tupX pins s σ H _ v vl vu lo hi sl Q I rx hs pl pu ⟨a, vs, rfl, by rw [← oc.K]; exact sqT_mono oc.sub ha, fun hw => ?_, fun p ob hp hob => ?_⟩
    · refine o _ C H (.refl oc.sub oc.row) ?_ trivial
      have e : Hb.cut xs lo hi = xs := by
        rw [cut_eq, ← ra.length, hw.1, hw.2]
        rw [List.drop_zero, Nat.sub_zero, ra.length, List.take_length]
      show Rep C (.ref a) (.tup (Hb.cut xs lo hi))
      rw [e]; exact rr
    · obtain ⟨p1, p2⟩ := new_tup oc.sub oc.row hp hob (RepAll.cut ra lo hi)
      exact o _ _ _ p1 p2 trivial
  | str z =>
    obtain ⟨gz, o⟩ := OutG.guardB o
    rw [repK_str r1] at rx
    refine sl_str pins s σ H _ v vl vu lo hi sl Q I rx hs pl pu ⟨z, rfl, (by rw [← sizeMax_eq]; exact of_decide_eq_true gz), ?_⟩
    have e : cutS z lo hi = ⟨(Hb.cut z.cps.toList lo hi).toArray⟩ := by
      rw [cut_eq, Array.length_toList]; rfl
    rw [e]
    exact o _ C H (.refl oc.sub oc.row) (.str _) trivial
  | _ => exact (show False from o).elim
end Hb
namespace Hb
open PySem PySem.Spec PyProof.Rows L2
/-! ### d == e, for dicts whose keys are tuples -/
/-- the value of a key among entries with their addresses -/
def lookH : List (NestedKey × Addr × Value) → NestedKey → Option Value
  | [], _ => none
  | p :: r, k => if p.1 = k then some p.2.2 else lookH r k
theorem lookH_none {k : NestedKey} : ∀ {xs : List (NestedKey × Addr × Value)}, (∀ (j : Nat) (p : Addr × Value), xs[j]? ≠ some (k, p)) → lookH xs k = none
  | [], _ => rfl
  | (k', p) :: r, h => by
    unfold lookH
    rw [if_neg (fun e => h 0 p (by rw [List.getElem?_cons_zero]; exact congrArg some (Prod.ext e rfl)))]
    exact lookH_none fun j q z => h (j + 1) q (by rw [List.getElem?_cons_succ]; exact z)
theorem lookH_some {k : NestedKey} {p : Addr × Value} : ∀ {xs : List (NestedKey × Addr × Value)} {j : Nat}, (xs.map (·.1)).Nodup → xs[j]? = some (k, p) → lookH xs k = some p.2
  | [], _, _, h => nomatch h
  | q :: r, 0, _, h => by
    rw [List.getElem?_cons_zero] at h
    cases h
    unfold lookH
    rw [if_pos rfl]
  | q :: r, j + 1, hn, h => by
    rw [List.getElem?_cons_succ] at h
    rw [List.map_cons, List.nodup_cons] at hn
    unfold lookH
    rw [if_neg (fun e => hn.1 (by rw [e]; exact List.mem_map_of_mem (f := (·.1)) (List.mem_of_getElem? h)))]
    exact lookH_some hn.2 h
section
variable {prog : Program} {w : World} {A : Around} {E : Value → Shared → Prop} {s : Shared}
/-- is each entry of a among those of b, with an equal value -/
def allIn (eq : Value → Value → Bool) (ys : List (NestedKey × Addr × Value)) (xs : List (NestedKey × Addr × Value)) : Bool := xs.all fun p => ((lookH ys p.1).map (eq p.2.2)).getD false
theorem same_pairsH {nm : String} {a b : Addr} {xs ys : List (NestedKey × Addr × Value)} {eq : Value → Value → Bool} {Q : Bool → Shared → Prop} (hu : A.units + 64 < cLine) (ha : (a == sysModules) = false) (hb : (b == sysModules) = false)
    (da : s.heap.DictOfH (nestedKind prog w) a xs) (db : s.heap.DictOfH (nestedKind prog w) b ys) (hv : ∀ p ∈ xs, ∀ q ∈ ys, SeqAt.EqIn prog w A s p.2.2 q.2.2 (eq p.2.2 q.2.2))
    (h : Q (xs.length == ys.length && allIn eq ys xs) s) : wpAny (model prog w) A (Builtin.Dict.samePairs nm a b) Q E s := by
  obtain ⟨oa, es, ep, hoa, _, hda, hea, hia, hna⟩ := da
  obtain ⟨ob, fs, fp, hob, _, hdb, heb, hib, hnb⟩ := db
  have hla := size_of_entries hea
  have hlb := size_of_entries heb
  rw [← hla, ← hlb] at h
  unfold Builtin.Dict.samePairs Builtin.Dict.showsAll
  rw [if_neg (by rw [ha]; exact Bool.false_ne_true), if_neg (by rw [hb]; exact Bool.false_ne_true)]
  refine wpAny_bind (wpAny_pure (wpAny_bind (wpAny_pure ?_)))
  refine wpAny_bind (wpAny_dictEntries hoa hda ?_)
  dsimp only
  refine wpAny_bind (wpAny_dictEntries hob hdb ?_)
  by_cases hsz : es.size = fs.size
  rotate_left
  · rw [if_pos (by simpa using hsz)]
    rw [show (es.size == fs.size) = false by simpa using hsz, Bool.false_and] at h
    exact wpAny_bind (wpAny_rule (wpAny_pure h))
  · rw [show (es.size == fs.size) = true by simpa using hsz, Bool.true_and] at h
    rw [if_neg (by rw [hsz]; simp)]
    refine wpAny_bind (wpAny_dictEpoch hoa hda ?_)
    refine wpAny_bind ?_
    rw [Std.Legacy.Range.forIn_eq_forIn_range']
    simp only [Std.Legacy.Range.size, Nat.sub_zero, Nat.add_sub_cancel, Nat.div_one]
    refine wpAny_forIn_list _
      (fun rest q s' => s' = s ∧ q = (none, ()) ∧ ∃ i, rest = List.range' i (es.size - i) ∧ i ≤ es.size ∧ allIn eq ys xs = allIn eq ys (xs.drop i))
      _ ?_ ?_ _ _ ⟨rfl, rfl, 0, by simp, Nat.zero_le _, by rw [List.drop_zero]⟩
    · rintro x rest q s' ⟨rfl, rfl, i, hr, hi, hpre⟩
      have hlt : i < es.size := by
        rcases Nat.lt_or_ge i es.size with z | z
        · exact z
        · rw [Nat.sub_eq_zero_of_le z] at hr; simp at hr
      obtain ⟨rfl, hrest⟩ : x = i ∧ rest = List.range' (i + 1) (es.size - (i + 1)) := by
        have e : es.size - i = (es.size - (i + 1)) + 1 := by omega
        rw [e, List.range'_succ] at hr
        injection hr with h1 h2
        exact ⟨h1, h2⟩
      refine wpAny_bind (wpAny_dictEntries hoa hda ?_)
      have hlx : x < xs.length := by rw [← hla]; exact hlt
      obtain ⟨k, ad, v, hkv⟩ : ∃ k ad v, xs[x] = (k, ad, v) := ⟨_, _, _, rfl⟩
      have hmem : (k, ad, v) ∈ xs := by rw [← hkv]; exact List.getElem_mem hlx
      have hdrop : xs.drop x = (k, ad, v) :: xs.drop (x + 1) := by rw [← hkv]; exact List.drop_eq_getElem_cons hlx
      have hes : es[x]? = some (entryOfKey (nestedKind prog w) (k, ad, v)) := by rw [entry_at hea, List.getElem?_eq_getElem hlx, hkv]; rfl
      rw [hes]
      have hall : allIn eq ys xs = (((lookH ys k).map (eq v)).getD false && allIn eq ys (xs.drop (x + 1))) := by
        rw [hpre, hdrop]; rfl
      refine wpAny_bind (wpAny_holding (wpAny_bind (wpAny_dictFind_heap (knd := nestedKind prog w) (by show A.units + 8 < cLine; omega) (hia _ hmem) hob hdb heb hib hnb (fun hno => ?_) fun j p hj => ?_)))
      · rw [lookH_none hno] at hall
        rw [show allIn eq ys xs = false from hall] at h
        refine wpAny_pure ?_
        show wpAny _ _ (if (!false) = true then _ else _) _ _ _
        rw [if_pos (by decide)]
        exact wpAny_pure (wpAny_pure h)
      · have hy : (k, p) ∈ ys := List.mem_of_getElem? hj
        rw [lookH_some hnb hj] at hall
        have hall : allIn eq ys xs = (eq v p.2 && allIn eq ys (xs.drop (x + 1))) := hall
        refine wpAny_bind (wpAny_dictEntries hob hdb ?_)
        have hfs : fs[j]? = some (entryOfKey (nestedKind prog w) (k, p)) := by rw [entry_at heb, hj]; rfl
        rw [hfs]
        refine wpAny_holding (hv _ hmem _ hy _ _ ?_)
        cases q : eq v p.2 with
        | false =>
          rw [q, Bool.false_and] at hall
          rw [hall] at h
          show wpAny _ _ (if (!false) = true then _ else _) _ _ _
          rw [if_pos (by decide)]
          exact wpAny_pure (wpAny_pure h)
        | true =>
          rw [q, Bool.true_and] at hall
          show wpAny _ _ (if (!true) = true then _ else _) _ _ _
          rw [if_neg (by decide)]
          refine wpAny_bind (wpAny_dictEpoch hoa hda ?_)
          rw [if_neg (by simp)]
          exact wpAny_pure ⟨rfl, rfl, x + 1, hrest, hlt, hall⟩
    · rintro q s' ⟨rfl, rfl, i, hr, hi, hpre⟩
      have hin : i = es.size := by
        rcases Nat.lt_or_ge i es.size with z | z
        · have e : es.size - i = (es.size - (i + 1)) + 1 := by omega
          rw [e, List.range'_succ] at hr; exact nomatch hr
        · exact Nat.le_antisymm hi z
      refine wpAny_pure ?_
      rw [hin, hla, List.drop_length] at hpre
      rw [show allIn eq ys xs = true from hpre] at h
      exact h
theorem eq_dictsH {a b : Addr} {xs ys : List (NestedKey × Addr × Value)} {eq : Value → Value → Bool} {Q : Value → Shared → Prop} (hu : A.units + 100 < cLine) (ha : (a == sysModules) = false) (hb : (b == sysModules) = false)
    (da : s.heap.DictOfH (nestedKind prog w) a xs) (db : s.heap.DictOfH (nestedKind prog w) b ys) (hv : ∀ p ∈ xs, ∀ q ∈ ys, SeqAt.EqIn prog w A.in1 s p.2.2 q.2.2 (eq p.2.2 q.2.2))
    (h : Q (.bool (xs.length == ys.length && allIn eq ys xs)) s) : wpAny (model prog w) A (compareOp .Eq (.ref a) (.ref b)) Q E s := by
  obtain ⟨oa, es, ep, hoa, xa, ra⟩ := id da
  obtain ⟨ob, fs, fp, hob, xb, rb⟩ := id db
  have ta : s.TypeIs (.ref a) "dict" := ⟨oa, hoa, xa.1⟩
  have tb : s.TypeIs (.ref b) "dict" := ⟨ob, hob, xb.1⟩
  refine wpAny_richCompare_same_room (op := .Eq) ta tb PySem.F.slot_dict_eq (wpAny_call_entry PySem.F.slot_dict_eq ta PySem.F.entry_dict_eq ?_ (PySem.F.args_dict_eq_2 _ _)) (by omega)
  show wpAny _ _ (Builtin.Dict.dictSlotArgs "__eq__" ⟨[.ref a, .ref b], []⟩ >>= _) _ _ s
  refine wpAny_bind ?_
  unfold Builtin.Dict.dictSlotArgs
  refine wpAny_bind (wpAny_notOrdered_dict ta ?_)
  show wpAny _ _ (pure (Value.ref a, Value.ref b)) _ _ s
  refine wpAny_pure ?_
  refine wpAny_bind (wpAny_isInstance (T := "dict") tb PySem.F.sub_dict_dict ?_)
  simp only [Bool.not_true, Bool.false_eq_true, if_false]
  refine wpAny_bind (wpAny_pure (wpAny_bind (wpAny_pure ?_)))
  refine wpAny_bind (same_pairsH (by show A.units + 1 + 64 < cLine; omega) ha hb da db hv ?_)
  refine wpAny_pure ⟨_, rfl, (fun z => nomatch z), ?_⟩
  simpa using h
end
/-- the pure side of it -/
theorem lookH_iff {C : RC} : ∀ {kvs : List (D × D)} {ys : List (NestedKey × Addr × Value)}, Paired (TIs C) kvs ys → (∀ p ∈ kvs, p.1.tkey = true) → (kvs.map fun p => p.1.nk).Nodup → ∀ (k v : D) (u : Value) (eq : Value → Value → Bool), k.tkey = true →
    (∀ p q, p ∈ kvs → (∃ w, (w : NestedKey × Addr × Value) ∈ ys ∧ TIs C p w ∧ w.2.2 = q) → eq u q = D.eqv v p.2) → ((lookH ys k.nk).map (eq u)).getD false = kvs.any fun q => D.eqv k q.1 && D.eqv v q.2
  | _, _, .nil, _, _, _, _, _, _, _, _ => rfl
  | p :: kvs, y :: ys, .cons t r, hk, hn, k, v, u, eq, hkk, he => by
    have e1 := t.1
    rw [List.map_cons, List.nodup_cons] at hn
    have kp := hk p (List.mem_cons_self ..)
    have ih := lookH_iff r (fun q hq => hk q (List.mem_cons_of_mem _ hq)) hn.2 k v u eq hkk fun a b ha ⟨w, z1, z2, z3⟩ => he a b (List.mem_cons_of_mem _ ha) ⟨w, List.mem_cons_of_mem _ z1, z2, z3⟩
    rw [List.any_cons, t_eqv hkk kp]
    unfold lookH
    by_cases q : k.nk = p.1.nk
    · rw [if_pos (by rw [e1, q]), decide_eq_true q, Bool.true_and]
      show eq u y.2.2 = _
      rw [he p y.2.2 (List.mem_cons_self ..) ⟨y, List.mem_cons_self .., t, rfl⟩]
      have no : (kvs.any fun q => D.eqv k q.1 && D.eqv v q.2) = false := by
        rw [List.any_eq_false]
        intro z hz
        rw [t_eqv hkk (hk z (List.mem_cons_of_mem _ hz))]
        have nz : ¬ k.nk = z.1.nk := fun e => hn.1 (List.mem_map.mpr ⟨z, hz, by rw [← e, q]⟩)
        rw [decide_eq_false nz]; simp
      rw [no, Bool.or_false]
    · rw [if_neg (by rw [e1]; exact fun e => q e.symm), decide_eq_false q, Bool.false_and, Bool.false_or]
      exact ih
theorem paired_mem {α β : Type} {F : α → β → Prop} : ∀ {as : List α} {bs : List β}, Paired F as bs → ∀ b ∈ bs, ∃ a ∈ as, F a b
  | _, _, .nil, _, h => nomatch h
  | _, _, .cons x t, b, h => by
    rcases List.mem_cons.mp h with rfl | h
    · exact ⟨_, List.mem_cons_self .., x⟩
    · obtain ⟨a, h1, h2⟩ := paired_mem t b h
      exact ⟨a, List.mem_cons_of_mem _ h1, h2⟩
theorem plains_memE : ∀ {l : List D} {n : Nat}, D.plainsN n l = true → ∀ d ∈ l, D.plainN n d = true
  | [], _, _, _, h => nomatch h
  | x :: r, n, hp, d, h => by
    have hp : (D.plainN n x && D.plainsN n r) = true := hp
    rw [Bool.and_eq_true] at hp
    rcases List.mem_cons.mp h with rfl | h
    · exact hp.1
    · exact plains_memE hp.2 d h
theorem all_eqvd : ∀ (xs ys : List (D × D)), D.eqvd xs ys = xs.all fun p => ys.any fun q => D.eqv p.1 q.1 && D.eqv p.2 q.2
  | [], _ => rfl
  | (k, v) :: xs, ys => by
    show (D.eqvp (k, v) ys && D.eqvd xs ys) = _
    rw [all_eqvd xs ys]; rfl
theorem op_eq {X : Cx} (hu : X.A.units + 100 < cLine) : OpR X (compareOp .Eq) (rCmp X .eq) := by
  intro pins s σ H x y v u Q I rx ry h
  obtain ⟨C, st, k1, d1, k2, d2, Z, oc, r1, r2, o⟩ := h
  have fin : ∀ {b : Bool}, (fun (b : Bool) (st' : Hb.St) => st' = st → Q (.bl b) H) b st → EP X pins σ Q (.bool b) s := fun {b} q => ⟨.bl b, H, I, rfl, q rfl⟩
  obtain ⟨g, o⟩ := OutG.guardB o
  by_cases gp : (d1.plain && d2.plain) = true
  · rw [Bool.and_eq_true] at gp
    obtain ⟨as, ra⟩ := Dp.reads I _ _ _ (repK_dp oc.K oc.sub gp.1 r1) rx
    obtain ⟨bs, rb⟩ := Dp.reads I _ _ _ (repK_dp oc.K oc.sub gp.2 r2) ry
    have z := plain_py d1 40 gp.1
    refine PySem.SeqAt.eq_plain ra rb z.1 (plain_py d2 40 gp.2).1 (by have := Nat.min_le_left d1.py.depth d2.py.depth; omega) ?_
    rw [← eqv_py d1 d2 40 gp.1 gp.2]
    exact fin o
  · rw [Bool.not_eq_true] at gp
    rw [gp, Bool.false_or] at g
    cases d1 with
    | dct xs =>
      cases d2 with
      | dct ys =>
        have g : ((xs.all fun p => p.1.tkey) && (ys.all fun p => p.1.tkey) && D.plains (xs.map (·.2)) && D.plains (ys.map (·.2))) = true := g
        rw [Bool.and_eq_true, Bool.and_eq_true, Bool.and_eq_true] at g
        obtain ⟨⟨⟨g1, g2⟩, g3⟩, g4⟩ := g
        rw [List.all_eq_true] at g1 g2
        obtain ⟨a, es, rfl, da⟩ := repK_dct I oc.sub r1
        obtain ⟨b, fs, rfl, db⟩ := repK_dct I oc.sub r2
        cases rx
        cases ry
        obtain ⟨as, ha, pa⟩ := da.toT I oc.K oc.w oc.sub g1
        obtain ⟨bs, hb, pb⟩ := db.toT I oc.K oc.w oc.sub g2
        have rd : ∀ {kvs : List (D × D)} {zs : List (NestedKey × Addr × Value)}, Paired (TIs C) kvs zs → D.plains (kvs.map (·.2)) = true → ∀ p z, p ∈ kvs → TIs C p z → (∃ l, Reads s.heap z.2.2 p.2.py l) ∧ D.plainN 39 p.2 = true := fun {kvs zs} pr gp p z hp t => by
          have pl : D.plainN 39 p.2 = true := plains_memE gp _ (List.mem_map_of_mem (f := (·.2)) hp)
          obtain ⟨_, vv, e1, e2⟩ := t
          exact ⟨Dp.reads I _ _ _ (rep_dp oc.K oc.sub p.2 39 vv pl e2) e1, pl⟩
        refine eq_dictsH (eq := fun p q => PyData.eqv (PySem.SeqAt.readOf s.heap p) (PySem.SeqAt.readOf s.heap q)) hu da.ok.sys db.ok.sys ha hb (fun p hp q hq => ?_) ?_
        · obtain ⟨p', hp', tp⟩ := paired_mem pa p hp
          obtain ⟨q', hq', tq⟩ := paired_mem pb q hq
          obtain ⟨⟨l1, e1⟩, z1⟩ := rd pa g3 p' p hp' tp
          obtain ⟨⟨l2, e2⟩, z2⟩ := rd pb g4 q' q hq' tq
          have y1 := plain_py p'.2 39 z1
          have y2 := plain_py q'.2 39 z2
          rw [PySem.SeqAt.readOf_plain y1.1 e1, PySem.SeqAt.readOf_plain y2.1 e2]
          exact (PySem.SeqAt.eqAt_plain _ _ _ _ _ _ _ _ e1 e2 y1.1 y2.1 (by have := Nat.min_le_left p'.2.py.depth q'.2.py.depth; show X.A.units + 1 + _ < cLine; omega)).inModel _ _
        · have la : as.length = xs.length := (Paired.length pa).symm
          have lb : bs.length = ys.length := (Paired.length pb).symm
          have go : ∀ {kvs : List (D × D)} {zs : List (NestedKey × Addr × Value)}, Paired (TIs C) kvs zs → (∀ p ∈ kvs, p ∈ xs) → allIn (fun p q => PyData.eqv (PySem.SeqAt.readOf s.heap p) (PySem.SeqAt.readOf s.heap q)) bs zs = kvs.all fun p => ys.any fun q => D.eqv p.1 q.1 && D.eqv p.2 q.2 := fun {kvs zs} pr => by
            induction pr with
            | nil => exact fun _ => rfl
            | @cons p z kvs zs t r ih =>
              intro hm
              rw [List.all_cons, ← ih fun q hq => hm q (List.mem_cons_of_mem _ hq)]
              have hp := hm p (List.mem_cons_self ..)
              obtain ⟨⟨l1, e1⟩, z1⟩ := rd pa g3 p z hp t
              have y1 := plain_py p.2 39 z1
              have w := lookH_iff pb g2 db.ok.nd p.1 p.2 z.2.2 (fun p q => PyData.eqv (PySem.SeqAt.readOf s.heap p) (PySem.SeqAt.readOf s.heap q)) (g1 p hp) fun a b ha ⟨c, c1, c2, c3⟩ => by
                obtain ⟨⟨l2, e2⟩, z2⟩ := rd pb g4 a c ha c2
                have y2 := plain_py a.2 39 z2
                rw [← c3, PySem.SeqAt.readOf_plain y1.1 e1, PySem.SeqAt.readOf_plain y2.1 e2, eqv_py p.2 a.2 39 z1 z2]
              rw [← w, ← t.1]; rfl
          have e : (as.length == bs.length && allIn (fun p q => PyData.eqv (PySem.SeqAt.readOf s.heap p) (PySem.SeqAt.readOf s.heap q)) bs as) = D.eqv (.dct xs) (.dct ys) := by
            rw [la, lb, go pa fun _ h => h]
            show _ = (xs.length == ys.length && D.eqvd xs ys)
            rw [all_eqvd]
          rw [e]
          exact fin o
      | _ => exact nomatch g
    | _ => exact nomatch g
end Hb
namespace Hb
open PySem PySem.Spec PyProof.Rows L2

/-! ### insertion sort is the sort -/
section
variable {α : Type} (le : α → α → Bool)
def insG (x : α) : List α → List α
  | [] => [x]
  | y :: r => if le x y = true then x :: y :: r else y :: insG x r
def isort : List α → List α
  | [] => []
  | x :: r => insG le x (isort r)
variable {le}
theorem insG_mem {x z : α} : ∀ {l : List α}, z ∈ insG le x l → z = x ∨ z ∈ l
  | [], h => by rw [List.mem_singleton.mp (show z ∈ [x] from h)]; exact .inl rfl
  | y :: r, h => by
    have h : z ∈ (if le x y = true then x :: y :: r else y :: insG le x r) := h
    split at h
    · exact List.mem_cons.mp h
    · rcases List.mem_cons.mp h with h | h
      · exact .inr (by rw [h]; exact List.mem_cons_self ..)
      · rcases insG_mem h with h | h
        · exact .inl h
        · exact .inr (List.mem_cons_of_mem _ h)
theorem insG_sorted (h : PySem.W.TotalLe le) {x : α} : ∀ {l : List α}, l.Pairwise (fun a b => le a b = true) → (insG le x l).Pairwise fun a b => le a b = true
  | [], _ => List.pairwise_singleton _ _
  | y :: r, hl => by
    obtain ⟨h1, h2⟩ := List.pairwise_cons.mp hl
    show (if le x y = true then x :: y :: r else y :: insG le x r).Pairwise _
    by_cases q : le x y = true
    · rw [if_pos q]
      refine List.pairwise_cons.mpr ⟨fun z hz => ?_, hl⟩
      rcases List.mem_cons.mp hz with z1 | z1
      · rw [z1]; exact q
      · exact h.trans _ _ _ q (h1 z z1)
    · rw [if_neg q]
      refine List.pairwise_cons.mpr ⟨fun z hz => ?_, insG_sorted h h2⟩
      rcases insG_mem hz with z1 | z1
      · rw [z1]
        rcases h.total y x with t | t
        · exact t
        · exact absurd t q
      · exact h1 z z1
theorem insG_filter (h : PySem.W.TotalLe le) {x c : α} : ∀ (l : List α), (insG le x l).filter (PySem.W.sameRank le c) = (x :: l).filter (PySem.W.sameRank le c)
  | [] => rfl
  | y :: r => by
    show (if le x y = true then x :: y :: r else y :: insG le x r).filter _ = _
    by_cases q : le x y = true
    · rw [if_pos q]
    · rw [if_neg q, List.filter_cons, insG_filter h r]
      rw [List.filter_cons, List.filter_cons, List.filter_cons]
      by_cases e1 : PySem.W.sameRank le c x = true
      · have e2 : PySem.W.sameRank le c y = false := by
          cases z : PySem.W.sameRank le c y with
          | false => rfl
          | true =>
            unfold PySem.W.sameRank at e1 z
            rw [Bool.and_eq_true] at e1 z
            exact absurd (h.trans _ _ _ e1.2 z.1) q
        rw [if_pos e1, if_pos e1, e2, if_neg Bool.false_ne_true, if_neg Bool.false_ne_true]
      · rw [if_neg e1, if_neg e1]
theorem isort_sorted (h : PySem.W.TotalLe le) : ∀ l : List α, (isort le l).Pairwise fun a b => le a b = true
  | [] => List.Pairwise.nil
  | x :: r => insG_sorted h (isort_sorted h r)
theorem isort_filter (h : PySem.W.TotalLe le) (c : α) : ∀ l : List α, (isort le l).filter (PySem.W.sameRank le c) = l.filter (PySem.W.sameRank le c)
  | [] => rfl
  | x :: r => by
    show (insG le x (isort le r)).filter _ = _
    rw [insG_filter h, List.filter_cons, List.filter_cons, isort_filter h c r]
theorem isort_merge (h : PySem.W.TotalLe le) (l : List α) : isort le l = l.mergeSort le := PySem.W.sort_unique h (isort_sorted h l) fun c => isort_filter h c l
theorem isort_mem {z : α} : ∀ {l : List α}, z ∈ isort le l → z ∈ l
  | [], h => h
  | x :: r, h => by
    rcases insG_mem h with e | e
    · rw [e]; exact List.mem_cons_self ..
    · exact List.mem_cons_of_mem _ (isort_mem e)
end
theorem insD_eq {le : D → D → Bool} {x : D} : ∀ {l : List D}, (∀ y ∈ l, le x y = !D.lt y x) → insD x l = insG le x l
  | [], _ => rfl
  | y :: r, h => by
    have e := h y (List.mem_cons_self ..)
    show (if D.lt y x = true then y :: insD x r else x :: y :: r) = (if le x y = true then x :: y :: r else y :: insG le x r)
    rw [e, insD_eq fun z hz => h z (List.mem_cons_of_mem _ hz)]
    cases D.lt y x <;> rfl
theorem sortD_eq {le : D → D → Bool} : ∀ {l : List D}, (∀ x ∈ l, ∀ y ∈ l, le x y = !D.lt y x) → sortD l = isort le l
  | [], _ => rfl
  | x :: r, h => by
    show insD x (sortD r) = insG le x (isort le r)
    have ih := sortD_eq (le := le) (l := r) fun a ha b hb => h a (List.mem_cons_of_mem _ ha) b (List.mem_cons_of_mem _ hb)
    rw [ih]
    exact insD_eq fun y hy => h x (List.mem_cons_self ..) y (List.mem_cons_of_mem _ (isort_mem hy))

theorem insD_length (x : D) : ∀ l : List D, (insD x l).length = l.length + 1
  | [] => rfl
  | y :: r => by
    show (if D.lt y x = true then y :: insD x r else x :: y :: r).length = _
    split
    · rw [List.length_cons, insD_length x r]; rfl
    · rfl
theorem sortD_length : ∀ l : List D, (sortD l).length = l.length
  | [] => rfl
  | x :: r => by
    show (insD x (sortD r)).length = _
    rw [insD_length, sortD_length r]; rfl
/-! ### what can be sorted -/
theorem sh_trans : ∀ a b c : Sh, Sh.beq a b = true → Sh.beq a c = true → Sh.beq b c = true := fun a => by
  refine Sh.rec (motive_1 := fun a => ∀ b c, Sh.beq a b = true → Sh.beq a c = true → Sh.beq b c = true) (motive_2 := fun as => ∀ bs cs, Sh.beqs as bs = true → Sh.beqs as cs = true → Sh.beqs bs cs = true) ?_ ?_ ?_ ?_ ?_ ?_ ?_ ?_ a
  · intro b c h; exact nomatch h
  · intro b c h h'
    cases b with
    | int => cases c with
      | int => rfl
      | _ => exact absurd h' Bool.false_ne_true
    | _ => exact absurd h Bool.false_ne_true
  · intro b c h h'
    cases b with
    | bl => cases c with
      | bl => rfl
      | _ => exact absurd h' Bool.false_ne_true
    | _ => exact absurd h Bool.false_ne_true
  · intro b c h h'
    cases b with
    | str => cases c with
      | str => rfl
      | _ => exact absurd h' Bool.false_ne_true
    | _ => exact absurd h Bool.false_ne_true
  · intro b c h h'
    cases b with
    | nums => cases c with
      | nums => rfl
      | _ => exact absurd h' Bool.false_ne_true
    | _ => exact absurd h Bool.false_ne_true
  · intro xs ih b c h h'
    cases b with
    | tup ys =>
      cases c with
      | tup zs => exact ih ys zs h h'
      | _ => exact nomatch h'
    | _ => exact nomatch h
  · intro bs cs h h'
    cases bs with
    | nil => exact h'
    | cons _ _ => exact nomatch h
  · intro x xs ih1 ih2 bs cs h h'
    cases bs with
    | nil => exact nomatch h
    | cons b bs =>
      cases cs with
      | nil => exact nomatch h'
      | cons c cs =>
        have h : (Sh.beq x b && Sh.beqs xs bs) = true := h
        have h' : (Sh.beq x c && Sh.beqs xs cs) = true := h'
        rw [Bool.and_eq_true] at h h'
        show (Sh.beq b c && Sh.beqs bs cs) = true
        rw [ih1 _ _ h.1 h'.1, ih2 _ _ h.2 h'.2]; rfl
theorem oneShape_pair : ∀ {l : List D}, oneShape l = true → ∀ x ∈ l, ∀ y ∈ l, Sh.beq x.sh y.sh = true
  | [], _, x, hx, _, _ => nomatch hx
  | a :: r, h, x, hx, y, hy => by
    have h : (Sh.beq a.sh a.sh && r.all fun z => Sh.beq a.sh z.sh) = true := h
    rw [Bool.and_eq_true, List.all_eq_true] at h
    have g : ∀ z ∈ a :: r, Sh.beq a.sh z.sh = true := fun z hz => by
      rcases List.mem_cons.mp hz with e | e
      · rw [e]; exact h.1
      · exact h.2 z e
    exact sh_trans _ _ _ (g x hx) (g y hy)
theorem plains_mem : ∀ {l : List D} {n : Nat}, D.plainsN n l = true → ∀ x ∈ l, D.plainN n x = true
  | [], _, _, x, hx => nomatch hx
  | a :: r, n, h, x, hx => by
    have h : (D.plainN n a && D.plainsN n r) = true := h
    rw [Bool.and_eq_true] at h
    rcases List.mem_cons.mp hx with e | e
    · rw [e]; exact h.1
    · exact plains_mem h.2 x e
/-- the kinds of one shape: tuples with an item, or no tuples -/
theorem sh_kinds {l : List D} (h : oneShape l = true) : PySem.W.Sortable (l.map D.py) := by
  cases l with
  | nil => exact .inl fun d hd => nomatch hd
  | cons a r =>
    have p := oneShape_pair h
    have pa : ∀ x ∈ a :: r, Sh.beq a.sh x.sh = true := fun x hx => p a (List.mem_cons_self ..) x hx
    have tupNe : ∀ {ys : List D}, Sh.beq (D.sh (.tup ys)) (D.sh (.tup ys)) = true → ∃ z zs, ys = z :: zs := fun {ys} q => by
      cases ys with
      | nil => exact nomatch q
      | cons z zs => exact ⟨z, zs, rfl⟩
    by_cases t : ∃ ys, a = .tup ys
    · left
      intro d hd
      obtain ⟨x, hx, e⟩ := List.mem_map.mp hd
      subst e
      obtain ⟨ys, rfl⟩ := t
      have q := p x hx x hx
      have q2 := pa x hx
      cases x with
      | tup zs =>
        obtain ⟨z, zs', rfl⟩ := tupNe q
        exact ⟨z.py, D.pys zs', rfl⟩
      | int _ =>
        rw [D.sh, D.sh] at q2
        split at q2
        · exact nomatch q2
        · split at q2 <;> exact nomatch q2
      | bl _ =>
        rw [D.sh, D.sh] at q2
        split at q2
        · exact nomatch q2
        · split at q2 <;> exact nomatch q2
      | str _ =>
        rw [D.sh, D.sh] at q2
        split at q2
        · exact nomatch q2
        · split at q2 <;> exact nomatch q2
      | _ => exact nomatch q
    · right
      intro d hd
      obtain ⟨x, hx, e⟩ := List.mem_map.mp hd
      subst e
      refine ⟨(sh_alike x x (p x hx x hx)).2, fun xs e => ?_⟩
      cases x with
      | tup zs =>
        have q := pa _ hx
        have q' := Sh_symm _ _ q
        cases a with
        | tup ys => exact t ⟨ys, rfl⟩
        | int _ =>
          simp only [D.sh] at q'
          split at q'
          · exact nomatch q'
          · split at q' <;> exact nomatch q'
        | bl _ =>
          simp only [D.sh] at q'
          split at q'
          · exact nomatch q'
          · split at q' <;> exact nomatch q'
        | str _ =>
          simp only [D.sh] at q'
          split at q'
          · exact nomatch q'
          · split at q' <;> exact nomatch q'
        | _ => exact nomatch q
      | _ => exact nomatch e
theorem allAlike_of {l : List D} (h : oneShape l = true) : PySem.W.AllAlike (l.map D.py) := fun d hd d' hd' => by
  obtain ⟨x, hx, rfl⟩ := List.mem_map.mp hd
  obtain ⟨y, hy, rfl⟩ := List.mem_map.mp hd'
  exact (sh_alike x y (oneShape_pair h x hx y hy)).1
theorem dataLe_lt {l : List D} (hp : D.plains l = true) (h : oneShape l = true) : ∀ x ∈ l, ∀ y ∈ l, PySem.W.dataLe false D.py x y = !D.lt y x := fun x hx y hy => by
  rw [lt_py y x 39 (plains_mem hp y hy) (plains_mem hp x hx) (sh_alike y x (oneShape_pair h y hy x hx)).1]
  rfl
theorem sortD_merge {l : List D} (hp : D.plains l = true) (h : oneShape l = true) : sortD l = l.mergeSort (PySem.W.dataLe false D.py) := by
  rw [sortD_eq (dataLe_lt hp h), isort_merge (show PySem.W.TotalLe (PySem.W.dataLe false D.py) from PySem.W.sortLe_total _ _ _)]
end Hb
namespace Hb
open PySem PySem.Spec PyProof.Rows L2

/-! ### built-in calls -/
def rP1 (X : Cx) (p : P1) : List V → Hp → VK → Prop := fun vs H Q => ∃ C st k d Z, ∃ x : V, vs = [x] ∧ OpC X C H st ∧ RepK C H k x d ∧ OutG (p1D p d st) (RE C H Q) Z
def rP2 (X : Cx) (p : P2) : List V → Hp → VK → Prop := fun vs H Q => ∃ C st k1 d1 k2 d2 Z, ∃ x y : V, vs = [x, y] ∧ OpC X C H st ∧ RepK C H k1 x d1 ∧ RepK C H k2 y d2 ∧ OutG (p2D p d1 d2 st) (RE C H Q) Z
theorem imm {C : RC} {H : Hp} {Q : VK} {st : Hb.St} (sub : ∀ a o, C.F a = some o → H a = some o) (row : RowOk C H st) {d : D} {w' : V} (hw : ∀ C' : RC, Rep C' w' d) (q : RE C H Q (.sh, d) st) : Q w' H := q w' C H (.refl sub row) (hw C) trivial
theorem sqL_of {C : RC} {K : PySem.W.Frag} {H : Hp} {a : Addr} {xs : List V} (h : H a = some (.lst xs)) : SqL K H a xs := .inl (.inl h)

theorem c_len {X : Cx} (hu : X.A.units + 100 < cLine) : CallR X (.builtin "len") (rP1 X .len) := by
  intro pins s σ H vs us Q I rs h
  obtain ⟨C, st, k, d, Z, x, rfl, oc, r, o⟩ := h
  obtain ⟨u, rfl, rx⟩ := L2.vals1 rs
  cases d with
  | lst xs =>
    obtain ⟨a, vs, rfl, ha, ra⟩ := repK_lst oc.sub r
    refine call_len pins s σ H _ _ Q I rs ⟨_, vs.length, rfl, .inl ⟨vs, sqL_of (C := C) ha, rfl⟩, ?_⟩
    rw [ra.length]
    exact imm oc.sub oc.row (fun _ => .int _) o
  | tup xs =>
    obtain ⟨a, vs, rfl, ha, ra, _⟩ := repK_tup r
    refine call_len pins s σ H _ _ Q I rs ⟨_, vs.length, rfl, .inr ⟨vs, by rw [← oc.K]; exact sqT_mono oc.sub ha, rfl⟩, ?_⟩
    rw [ra.length]
    exact imm oc.sub oc.row (fun _ => .int _) o
  | str z =>
    obtain ⟨g, o⟩ := OutG.guardB o
    rw [repK_str r] at rs
    refine call_len pins s σ H _ _ Q I rs ⟨_, z.length, rfl, ⟨?_, rfl⟩, imm oc.sub oc.row (fun _ => .int _) o⟩
    rw [← sizeMax_eq]; exact of_decide_eq_true g
  | scr ns =>
    obtain ⟨a, rfl, ha⟩ : ∃ a, x = .ref a ∧ SqL C.K C.F a (ns.map V.int) := by
      cases k with
      | sh => cases r with | scr z => exact ⟨_, rfl, z⟩
      | _ => obtain ⟨_, _, _, _, q⟩ := r; exact q.elim
    refine call_len pins s σ H _ _ Q I rs ⟨_, ns.length, rfl, .inl ⟨_, (by rw [← oc.K]; exact sqL_mono oc.sub ha), by rw [List.length_map]⟩, imm oc.sub oc.row (fun _ => .int _) o⟩
  | dct kvs =>
    obtain ⟨a, es, rfl, da⟩ := repK_dct I oc.sub r
    cases rx
    exact hd_len I oc.K oc.w oc.sub da fun t t' => ⟨.int _, H, I.tok t', ⟨t, rfl⟩, imm oc.sub oc.row (fun _ => .int _) o⟩
  | _ => exact (show False from o).elim
theorem c_tuple {X : Cx} : CallR X (.type "tuple") (rP1 X .tuple) := by
  intro pins s σ H vs us Q I rs h
  obtain ⟨C, st, k, d, Z, x, rfl, oc, r, o⟩ := h
  cases d with
  | lst xs =>
    obtain ⟨a, vs, rfl, ha, ra⟩ := repK_lst oc.sub r
    refine call_tupleX pins s σ H _ _ Q I rs ⟨a, vs, rfl, .inl ⟨sqL_of (C := C) ha, fun p ob hp hob => ?_⟩⟩
    obtain ⟨p1, p2⟩ := new_tup oc.sub oc.row hp hob ra
    exact o _ _ _ p1 p2 trivial
  | tup xs =>
    obtain ⟨a, vs, rfl, ha, ra, rr⟩ := repK_tup r
    exact call_tupleX pins s σ H _ _ Q I rs ⟨a, vs, rfl, .inr ⟨by rw [← oc.K]; exact sqT_mono oc.sub ha, o _ C H (.refl oc.sub oc.row) rr trivial⟩⟩
  | _ => exact (show False from o).elim
theorem c_list {X : Cx} : CallR X (.type "list") (rP1 X .list) := by
  intro pins s σ H vs us Q I rs h
  obtain ⟨C, st, k, d, Z, x, rfl, oc, r, o⟩ := h
  cases d with
  | lst xs =>
    obtain ⟨a, vs, rfl, ha, ra⟩ := repK_lst oc.sub r
    refine call_list_of pins s σ H _ _ Q I rs ⟨a, vs, rfl, .inl (sqL_of (C := C) ha), fun p hp => ?_⟩
    obtain ⟨p1, p2⟩ := new_lst oc.sub oc.row hp ra
    exact o _ C _ p1 p2 fun a e => by cases e; exact hp
  | tup xs =>
    obtain ⟨a, vs, rfl, ha, ra, rr⟩ := repK_tup r
    refine call_list_of pins s σ H _ _ Q I rs ⟨a, vs, rfl, .inr (by rw [← oc.K]; exact sqT_mono oc.sub ha), fun p hp => ?_⟩
    obtain ⟨p1, p2⟩ := new_lst oc.sub oc.row hp ra
    exact o _ C _ p1 p2 fun a e => by cases e; exact hp
  | _ => exact (show False from o).elim
theorem ints_vs {C : RC} : ∀ {ds : List D} {ns : List Int} {vs : List V}, intsOf ds = some ns → RepAll C vs ds → vs = ns.map V.int
  | [], _, _, h, r => by cases h; cases r; rfl
  | d :: ds, _, _, h, r => by
    cases r with
    | cons r1 r2 =>
      cases d with
      | int i =>
        obtain ⟨ms, e, rfl⟩ := Option.map_eq_some_iff.mp h
        cases r1
        rw [ints_vs e r2]; rfl
      | _ => exact nomatch h
theorem c_sum {X : Cx} (hc : X.calm = true) : CallR X (.builtin "sum") (rP1 X .sum) := by
  intro pins s σ H vs us Q I rs h
  obtain ⟨C, st, k, d, Z, x, rfl, oc, r, o⟩ := h
  cases d with
  | lst xs =>
    obtain ⟨a, vs, rfl, ha, ra⟩ := repK_lst oc.sub r
    obtain ⟨ns, e, o⟩ := OutG.needB o
    rw [ints_vs e ra] at ha
    exact cr_sum hc pins s σ H _ _ Q I rs ⟨a, ns, rfl, sqL_of (C := C) ha, imm oc.sub oc.row (fun _ => .int _) o⟩
  | _ => exact (show False from o).elim
theorem c_abs {X : Cx} : CallR X (.builtin "abs") (rP1 X .abs) := by
  intro pins s σ H vs us Q I rs h
  obtain ⟨C, st, k, d, Z, x, rfl, oc, r, o⟩ := h
  cases d with
  | int i =>
    rw [repK_int r] at rs
    refine call_abs pins s σ H _ _ Q I rs ⟨i, rfl, ?_⟩
    have e : (if i < 0 then -i else i) = (i.natAbs : Int) := by split <;> omega
    rw [e]
    exact imm oc.sub oc.row (fun _ => .int _) o
  | _ => exact (show False from o).elim
theorem c_int {X : Cx} : CallR X (.type "int") (rP1 X .int) := by
  intro pins s σ H vs us Q I rs h
  obtain ⟨C, st, k, d, Z, x, rfl, oc, r, o⟩ := h
  cases d with
  | int i =>
    rw [repK_int r] at rs
    exact call_int1 pins s σ H _ _ Q I rs (.inl ⟨i, rfl, imm oc.sub oc.row (fun _ => .int _) o⟩)
  | bl b =>
    rw [repK_bl r] at rs
    refine call_int1 pins s σ H _ _ Q I rs (.inr ⟨b, rfl, ?_⟩)
    have e : (if b = true then (1 : Int) else 0) = b2i b := rfl
    rw [e]
    exact imm oc.sub oc.row (fun _ => .int _) o
  | str z =>
    obtain ⟨n, e, o⟩ := OutG.needB o
    obtain ⟨g, o⟩ := OutG.guardB o
    rw [repK_str r] at rs
    exact call_int_str pins s σ H _ _ Q I rs ⟨z, n, rfl, e, of_decide_eq_true g, imm oc.sub oc.row (fun _ => .int _) o⟩
  | _ => exact (show False from o).elim
theorem c_str {X : Cx} : CallR X (.type "str") (rP1 X .str) := by
  intro pins s σ H vs us Q I rs h
  obtain ⟨C, st, k, d, Z, x, rfl, oc, r, o⟩ := h
  cases d with
  | int i =>
    rw [repK_int r] at rs
    obtain ⟨g, o⟩ := OutG.guardB o
    exact call_str_int pins s σ H _ _ Q I rs ⟨i, rfl, of_decide_eq_true g, imm oc.sub oc.row (fun _ => .str _) o⟩
  | _ => exact (show False from o).elim
theorem isInt_int {d : D} (h : d.isInt = true) : ∃ i, d = .int i := by
  cases d with
  | int i => exact ⟨i, rfl⟩
  | _ => exact nomatch h
theorem c_min2 {X : Cx} (hc : X.calm = true) : CallR X (.builtin "min") (rP2 X .min) := by
  intro pins s σ H vs us Q I rs h
  obtain ⟨C, st, k1, d1, k2, d2, Z, x, y, rfl, oc, r1, r2, o⟩ := h
  obtain ⟨g, o⟩ := OutG.guardB o
  rw [Bool.and_eq_true] at g
  obtain ⟨i, rfl⟩ := isInt_int g.1
  obtain ⟨j, rfl⟩ := isInt_int g.2
  rw [repK_int r1, repK_int r2] at rs
  refine call_min2 hc pins s σ H _ _ Q I rs ⟨i, j, rfl, ?_⟩
  have e : (if D.lt (.int j) (.int i) = true then D.int j else D.int i) = D.int (if j < i then j else i) := by
    show (if decide (j < i) = true then D.int j else D.int i) = _
    by_cases q : j < i
    · rw [if_pos q, if_pos (decide_eq_true q)]
    · rw [if_neg q, if_neg (by rw [decide_eq_true_eq]; exact q)]
  have o : RE C H Q (.sh, if D.lt (.int j) (.int i) = true then D.int j else D.int i) st := o
  rw [e] at o
  exact imm oc.sub oc.row (fun _ => .int _) o
theorem c_max2 {X : Cx} (hc : X.calm = true) : CallR X (.builtin "max") (rP2 X .max) := by
  intro pins s σ H vs us Q I rs h
  obtain ⟨C, st, k1, d1, k2, d2, Z, x, y, rfl, oc, r1, r2, o⟩ := h
  obtain ⟨g, o⟩ := OutG.guardB o
  rw [Bool.and_eq_true] at g
  obtain ⟨i, rfl⟩ := isInt_int g.1
  obtain ⟨j, rfl⟩ := isInt_int g.2
  rw [repK_int r1, repK_int r2] at rs
  refine call_max2 hc pins s σ H _ _ Q I rs ⟨i, j, rfl, ?_⟩
  have e : (if D.lt (.int i) (.int j) = true then D.int j else D.int i) = D.int (if j > i then j else i) := by
    show (if decide (i < j) = true then D.int j else D.int i) = _
    by_cases q : i < j
    · rw [if_pos q, if_pos (decide_eq_true q)]
    · rw [if_neg q, if_neg (by rw [decide_eq_true_eq]; exact q)]
  have o : RE C H Q (.sh, if D.lt (.int i) (.int j) = true then D.int j else D.int i) st := o
  rw [e] at o
  exact imm oc.sub oc.row (fun _ => .int _) o

/-! ### sorted -/
/-- a value that stands for a datum -/
def RV (C : RC) (u : Value) (d : D) : Prop := ∃ v, RelV v u ∧ Rep C v d
theorem each_rv {C : RC} : ∀ {vs : List V} {us : List Value} {ds : List D}, Vals vs us → RepAll C vs ds → PySem.W.EachIs (RV C) us ds
  | _, _, _, .nil, r => by cases r; exact .nil
  | _, _, _, .cons h t, r => by
    cases r with
    | cons r1 r2 => exact .cons ⟨_, h, r1⟩ (each_rv t r2)
theorem rv_each {C : RC} : ∀ {us : List Value} {ds : List D}, PySem.W.EachIs (RV C) us ds → ∃ vs, Vals vs us ∧ RepAll C vs ds
  | _, _, .nil => ⟨[], .nil, .nil⟩
  | _, _, .cons ⟨v, h1, h2⟩ t => by
    obtain ⟨vs, q1, q2⟩ := rv_each t
    exact ⟨v :: vs, .cons h1 q1, .cons h2 q2⟩
theorem each_reads {h : Heap} : ∀ {us : List Value} {ds : List D} {as : List Addr}, ReadsAll h us (D.pys ds) as → PySem.W.EachIs (fun v (b : D) => ∃ as, Reads h v b.py as) us ds
  | _, [], _, r => by
    have r : ReadsAll h _ [] _ := r
    cases r; exact .nil
  | _, d :: ds, _, r => by
    have r : ReadsAll h _ (d.py :: D.pys ds) _ := r
    cases r with
    | cons h1 h2 => exact .cons ⟨_, h1⟩ (each_reads h2)
theorem c_sortedL {X : Cx} (hu : X.A.units + 100 < cLine) : CallR X (.builtin "sorted") (fun vs H Q => ∃ C st k ds Z, ∃ x : V, vs = [x] ∧ OpC X C H st ∧ RepK C H k x (.lst ds) ∧ OutG (p1D .sorted (.lst ds) st) (RE C H Q) Z) := by
  intro pins s σ H vs us Q I rs h
  obtain ⟨C, st, k, ds, Z, x, rfl, oc, r, o⟩ := h
  obtain ⟨a, vs, rfl, ha, ra⟩ := repK_lst oc.sub r
  rw [Vals.ref1 rs]
  obtain ⟨g, o⟩ := OutG.guardB o
  rw [Bool.and_eq_true, decide_eq_true_eq] at g
  obtain ⟨g, gl⟩ := g
  unfold sortable at g
  rw [Bool.and_eq_true] at g
  obtain ⟨its, rv, hl, hz⟩ := I.list (sqL_of (C := C) (K := X.K) ha)
  have fin : ∀ out : List Value, PySem.W.EachIs (RV C) out (sortD ds) → EP X pins σ Q (.ref (s.heap.objs.size + 1)) { s with heap := sortedAll s.heap its (List.toArray out) } := fun out eo => by
    obtain ⟨vs', q1, q2⟩ := rv_each eo
    obtain ⟨ep, he'⟩ := PyProof.Rows.sortedAll_at s.heap its out.toArray
    have hl2 : vs'.length ≤ sizeLine := by
      rw [q2.length, sortD_length, ← sizeMax_eq]
      exact gl
    obtain ⟨p1, p2⟩ := new_lst oc.sub oc.row (I.hok.fresh (Nat.le_succ s.heap.objs.size)) q2
    exact ⟨.ref _, upd H (s.heap.objs.size + 1) (.lst vs'), I.laid (t' := s.toks) (fun _ _ => PyProof.Rows.sortedAll_old) (Nat.le_succ _) ⟨hl2, out, ep, q1, he'⟩, rfl, o _ C _ p1 p2 fun a e => by cases e; exact I.hok.fresh (Nat.le_succ _)⟩
  rcases (Bool.or_eq_true _ _).mp g.2 with g2 | g2
  · obtain ⟨as, rr⟩ := Dp.readsAll I _ _ _ (repAll_dp oc.K oc.sub ds 39 vs g.1 ra) rv
    refine PySem.W.sorted_data (R := RV C) (enc := D.py) hl.isList (each_rv rv ra) (each_reads rr) (allAlike_of g2) (sh_kinds g2) (by rw [← sizeMax_eq]; exact gl) (fun b hb => ?_) fun out _ eo => fin out ?_
    · have := (plain_py b 39 (plains_mem g.1 b hb)).2
      omega
    · rw [sortD_merge g.1 g2]; exact eo
  · have g2 := of_decide_eq_true g2
    have hlen : its.length ≤ 1 := by rw [← rv.length, ra.length]; exact g2
    refine SrtO.sorted_ord (ltv := fun _ _ => false) ⟨fun _ _ h => rfl, fun _ _ _ _ _ => rfl⟩ hl.isList (by rw [← rv.length]; exact hz) (fun h2 => absurd h2 (by omega)) fun out h1 h2 => fin out ?_
    have e1 : out = its := by
      have p := h2.perm
      cases its with
      | nil => exact List.Perm.eq_nil p
      | cons v t =>
        cases t with
        | nil => exact List.perm_singleton.mp p
        | cons _ _ => exact absurd hlen (by simp)
    rw [e1]
    have e2 : sortD ds = ds := by
      cases ds with
      | nil => rfl
      | cons d t =>
        cases t with
        | nil => rfl
        | cons _ _ => exact absurd g2 (by simp)
    rw [e2]
    exact each_rv rv ra
end Hb
namespace Hb
open PySem PySem.Spec PyProof.Rows L2

mutual
theorem py_inj : ∀ (d e : D) (n m : Nat), D.plainN n d = true → D.plainN m e = true → d.py = e.py → d = e
  | .non, e, n, m, _, h, q => by cases e <;> first | rfl | (cases q; done) | (cases m <;> exact nomatch h)
  | .bl _, e, n, m, _, h, q => by cases e <;> first | (cases q; rfl) | (cases q; done)
  | .int _, e, n, m, _, h, q => by cases e <;> first | (cases q; rfl) | (cases q; done)
  | .str _, e, n, m, _, h, q => by cases e <;> first | (cases q; rfl) | (cases q; done)
  | .tup xs, e, n + 1, m, hd, h, q => by
    cases e with
    | tup ys =>
      cases m with
      | zero => exact nomatch h
      | succ m => rw [pys_inj xs ys n m hd h (PyData.tuple.inj q)]
    | _ => exact nomatch q
  | .lst xs, e, n + 1, m, hd, h, q => by
    cases e with
    | lst ys =>
      cases m with
      | zero => exact nomatch h
      | succ m => rw [pys_inj xs ys n m hd h (PyData.list.inj q)]
    | _ => exact nomatch q
  | .tup xs, _, 0, _, h, _, _ => nomatch h
  | .lst xs, _, 0, _, h, _, _ => nomatch h
  | .dct _, _, 0, _, h, _, _ => nomatch h
  | .dct _, _, _ + 1, _, h, _, _ => nomatch h
  | .fn _, _, 0, _, h, _, _ => nomatch h
  | .fn _, _, _ + 1, _, h, _, _ => nomatch h
  | .exc _ _, _, 0, _, h, _, _ => nomatch h
  | .exc _ _, _, _ + 1, _, h, _, _ => nomatch h
  | .row, _, 0, _, h, _, _ => nomatch h
  | .memo, _, 0, _, h, _, _ => nomatch h
  | .rdr _, _, 0, _, h, _, _ => nomatch h
  | .row, _, _ + 1, _, h, _, _ => nomatch h
  | .memo, _, _ + 1, _, h, _, _ => nomatch h
  | .rdr _, _, _ + 1, _, h, _, _ => nomatch h
  | .scr _, _, 0, _, h, _, _ => nomatch h
  | .scr _, _, _ + 1, _, h, _, _ => nomatch h
theorem pys_inj : ∀ (ds es : List D) (n m : Nat), D.plainsN n ds = true → D.plainsN m es = true → D.pys ds = D.pys es → ds = es
  | [], [], _, _, _, _, _ => rfl
  | [], _ :: _, _, _, _, _, q => nomatch q
  | _ :: _, [], _, _, _, _, q => nomatch q
  | d :: ds, e :: es, n, m, h, h', q => by
    have h : (D.plainN n d && D.plainsN n ds) = true := h
    have h' : (D.plainN m e && D.plainsN m es) = true := h'
    rw [Bool.and_eq_true] at h h'
    have q : d.py :: D.pys ds = e.py :: D.pys es := q
    rw [py_inj d e n m h.1 h'.1 (List.cons.inj q).1, pys_inj ds es n m h.2 h'.2 (List.cons.inj q).2]
end
/-! ### min, max of a list -/
theorem minD_mem : ∀ (l : List D) (x : D), minD x l ∈ x :: l
  | [], x => List.mem_cons_self ..
  | y :: r, x => by
    show minD (if D.lt y x = true then y else x) r ∈ _
    have h := minD_mem r (if D.lt y x = true then y else x)
    rcases List.mem_cons.mp h with e | e
    · rw [e]
      split
      · exact List.mem_cons_of_mem _ (List.mem_cons_self ..)
      · exact List.mem_cons_self ..
    · exact List.mem_cons_of_mem _ (List.mem_cons_of_mem _ e)
theorem maxD_mem : ∀ (l : List D) (x : D), maxD x l ∈ x :: l
  | [], x => List.mem_cons_self ..
  | y :: r, x => by
    show maxD (if D.lt x y = true then y else x) r ∈ _
    have h := maxD_mem r (if D.lt x y = true then y else x)
    rcases List.mem_cons.mp h with e | e
    · rw [e]
      split
      · exact List.mem_cons_of_mem _ (List.mem_cons_self ..)
      · exact List.mem_cons_self ..
    · exact List.mem_cons_of_mem _ (List.mem_cons_of_mem _ e)
theorem minD_py : ∀ (l : List D) (x : D), (∀ a ∈ x :: l, ∀ b ∈ x :: l, D.lt a b = PySem.W.dataLt a.py b.py) → (minD x l).py = PySem.W.minD x.py (D.pys l)
  | [], _, _ => rfl
  | y :: r, x, h => by
    have e := h y (List.mem_cons_of_mem _ (List.mem_cons_self ..)) x (List.mem_cons_self ..)
    show (minD (if D.lt y x = true then y else x) r).py = (D.pys r).foldl (fun a y => if PySem.W.dataLt y a = true then y else a) (if PySem.W.dataLt y.py x.py = true then y.py else x.py)
    rw [minD_py r _ fun a ha b hb => ?_]
    · rw [e]
      show (D.pys r).foldl _ _ = _
      congr 1
      split <;> rfl
    · have sub : ∀ z ∈ (if D.lt y x = true then y else x) :: r, z ∈ x :: y :: r := fun z hz => by
        rcases List.mem_cons.mp hz with q | q
        · rw [q]; split
          · exact List.mem_cons_of_mem _ (List.mem_cons_self ..)
          · exact List.mem_cons_self ..
        · exact List.mem_cons_of_mem _ (List.mem_cons_of_mem _ q)
      exact h a (sub a ha) b (sub b hb)
theorem maxD_py : ∀ (l : List D) (x : D), (∀ a ∈ x :: l, ∀ b ∈ x :: l, D.lt a b = PySem.W.dataLt a.py b.py) → (maxD x l).py = PySem.W.maxD x.py (D.pys l)
  | [], _, _ => rfl
  | y :: r, x, h => by
    have e := h x (List.mem_cons_self ..) y (List.mem_cons_of_mem _ (List.mem_cons_self ..))
    show (maxD (if D.lt x y = true then y else x) r).py = (D.pys r).foldl (fun a y => if PySem.W.dataLt a y = true then y else a) (if PySem.W.dataLt x.py y.py = true then y.py else x.py)
    rw [maxD_py r _ fun a ha b hb => ?_]
    · rw [e]
      show (D.pys r).foldl _ _ = _
      congr 1
      split <;> rfl
    · have sub : ∀ z ∈ (if D.lt x y = true then y else x) :: r, z ∈ x :: y :: r := fun z hz => by
        rcases List.mem_cons.mp hz with q | q
        · rw [q]; split
          · exact List.mem_cons_of_mem _ (List.mem_cons_self ..)
          · exact List.mem_cons_self ..
        · exact List.mem_cons_of_mem _ (List.mem_cons_of_mem _ q)
      exact h a (sub a ha) b (sub b hb)
theorem lt_of {l : List D} (hp : D.plains l = true) (h : oneShape l = true) : ∀ a ∈ l, ∀ b ∈ l, D.lt a b = PySem.W.dataLt a.py b.py := fun a ha b hb =>
  lt_py a b 39 (plains_mem hp a ha) (plains_mem hp b hb) (sh_alike a b (oneShape_pair h a ha b hb)).1
theorem alikeAll_of {l : List D} (h : oneShape l = true) : PySem.W.AlikeAll (D.pys l) := by
  rw [pys_map]
  exact ⟨allAlike_of h, fun d hd => by
    obtain ⟨x, hx, rfl⟩ := List.mem_map.mp hd
    exact (sh_alike x x (oneShape_pair h x hx x hx)).2⟩
/-- the item that was taken -/
theorem best_item {X : Cx} {C : RC} {H : Hp} {pins : List (Addr × Obj)} {σ : List (Option V)} {s : Shared} {h' : Heap} {ds : List D} {m : D} {its : List Value} {vs : List V} {i : Nat} {v : Value} {bs : List Addr}
    (I : Inv X pins σ H s) (hK : C.K = X.K) (sub : ∀ a o, C.F a = some o → H a = some o) (hp : D.plains ds = true) (rv : Vals vs its) (ra : RepAll C vs ds) (hv : its[i]? = some v) (hr : Reads h' v m.py bs) (hm : D.plainN 39 m = true) (hk : ∀ b o, s.heap.get? b = some o → h'.get? b = some o) :
    ∃ v0, RelV v0 v ∧ Rep C v0 m := by
  have hi : i < its.length := (List.getElem?_eq_some_iff.mp hv).1
  have l1 := rv.length
  have l2 := ra.length
  have hd : ds[i]? = some ds[i] := List.getElem?_eq_getElem (by omega)
  obtain ⟨v0, e0, r0⟩ := ra.get hd
  obtain ⟨u, e1, r1⟩ := rv.get e0
  rw [hv] at e1
  cases e1
  have pl := plains_mem hp _ (List.mem_of_getElem? hd)
  obtain ⟨as, q⟩ := Dp.reads I _ _ _ (rep_dp hK sub _ 39 _ pl r0) r1
  have e := (Reads.unique (PyProof.Rows.Reads.keeps hk q) _ _ hr).1
  have e2 := py_inj _ _ 39 39 pl hm e
  rw [← e2]
  exact ⟨v0, r1, r0⟩
theorem c_min {X : Cx} (hc : X.calm = true) (hu : X.A.units + 100 < cLine) : CallR X (.builtin "min") (rP1 X .min) := by
  intro pins s σ H vs us Q I rs h
  obtain ⟨C, st, k, d, Z, x, rfl, oc, r, o⟩ := h
  obtain ⟨ds, hd, o1⟩ := OutG.items (OutG.bind o)
  obtain ⟨g, o1⟩ := OutG.guardB o1
  rw [Bool.and_eq_true] at g
  cases ds with
  | nil => exact (show False from o1).elim
  | cons e es =>
    have hm : D.plainN 39 (minD e es) = true := plains_mem g.1 _ (minD_mem es e)
    have epy := minD_py es e (lt_of g.1 g.2)
    have hroom : X.A.units + 1 + PyData.depthAll (D.pys (e :: es)) < cLine := by have := (plains_py (e :: es) 39 g.1).2; omega
    rcases hd with rfl | rfl
    · obtain ⟨a, vs, rfl, ha, ra⟩ := repK_lst oc.sub r
      rw [Vals.ref1 rs]
      obtain ⟨its, rv, hl, hz⟩ := I.list (sqL_of (C := C) (K := X.K) ha)
      obtain ⟨as, rr⟩ := Dp.readsAll I _ _ _ (repAll_dp oc.K oc.sub (e :: es) 39 vs g.1 ra) rv
      refine PySem.W.min_list_data (I.ok.hd hc) hl.isList (show ReadsAll s.heap its.toArray.toList (e.py :: D.pys es) as from rr) (alikeAll_of g.2) hroom fun i v h' tk bs hv hr hk => ?_
      rw [← epy] at hr
      obtain ⟨v0, r1, r2⟩ := best_item I oc.K oc.sub g.1 rv ra (by simpa using hv) hr hm hk
      exact ⟨v0, H, I.kept hk, r1, (show RE C H Q (.sh, minD e es) st from o1) v0 C H (.refl oc.sub oc.row) r2 trivial⟩
    · obtain ⟨a, vs, rfl, ha, ra, _⟩ := repK_tup r
      rw [Vals.ref1 rs]
      obtain ⟨its, rv, hl, hz⟩ := I.tuple (show SqT X.K H a vs by rw [← oc.K]; exact sqT_mono oc.sub ha)
      obtain ⟨as, rr⟩ := Dp.readsAll I _ _ _ (repAll_dp oc.K oc.sub (e :: es) 39 vs g.1 ra) rv
      refine PySem.W.min_tuple_data (I.ok.hd hc) hl (show ReadsAll s.heap its.toArray.toList (e.py :: D.pys es) as from rr) (alikeAll_of g.2) hroom fun i v h' tk bs hv hr hk => ?_
      rw [← epy] at hr
      obtain ⟨v0, r1, r2⟩ := best_item I oc.K oc.sub g.1 rv ra (by simpa using hv) hr hm hk
      exact ⟨v0, H, I.kept hk, r1, (show RE C H Q (.sh, minD e es) st from o1) v0 C H (.refl oc.sub oc.row) r2 trivial⟩
theorem c_max {X : Cx} (hc : X.calm = true) (hu : X.A.units + 100 < cLine) : CallR X (.builtin "max") (rP1 X .max) := by
  intro pins s σ H vs us Q I rs h
  obtain ⟨C, st, k, d, Z, x, rfl, oc, r, o⟩ := h
  obtain ⟨ds, hd, o1⟩ := OutG.items (OutG.bind o)
  obtain ⟨g, o1⟩ := OutG.guardB o1
  rw [Bool.and_eq_true] at g
  cases ds with
  | nil => exact (show False from o1).elim
  | cons e es =>
    have hm : D.plainN 39 (maxD e es) = true := plains_mem g.1 _ (maxD_mem es e)
    have epy := maxD_py es e (lt_of g.1 g.2)
    have hroom : X.A.units + 1 + PyData.depthAll (D.pys (e :: es)) < cLine := by have := (plains_py (e :: es) 39 g.1).2; omega
    rcases hd with rfl | rfl
    · obtain ⟨a, vs, rfl, ha, ra⟩ := repK_lst oc.sub r
      rw [Vals.ref1 rs]
      obtain ⟨its, rv, hl, hz⟩ := I.list (sqL_of (C := C) (K := X.K) ha)
      obtain ⟨as, rr⟩ := Dp.readsAll I _ _ _ (repAll_dp oc.K oc.sub (e :: es) 39 vs g.1 ra) rv
      refine PySem.W.max_list_data (I.ok.hd hc) hl.isList (show ReadsAll s.heap its.toArray.toList (e.py :: D.pys es) as from rr) (alikeAll_of g.2) hroom fun i v h' tk bs hv hr hk => ?_
      rw [← epy] at hr
      obtain ⟨v0, r1, r2⟩ := best_item I oc.K oc.sub g.1 rv ra (by simpa using hv) hr hm hk
      exact ⟨v0, H, I.kept hk, r1, (show RE C H Q (.sh, maxD e es) st from o1) v0 C H (.refl oc.sub oc.row) r2 trivial⟩
    · obtain ⟨a, vs, rfl, ha, ra, _⟩ := repK_tup r
      rw [Vals.ref1 rs]
      obtain ⟨its, rv, hl, hz⟩ := I.tuple (show SqT X.K H a vs by rw [← oc.K]; exact sqT_mono oc.sub ha)
      obtain ⟨as, rr⟩ := Dp.readsAll I _ _ _ (repAll_dp oc.K oc.sub (e :: es) 39 vs g.1 ra) rv
      refine PySem.W.max_tuple_data (I.ok.hd hc) hl (show ReadsAll s.heap its.toArray.toList (e.py :: D.pys es) as from rr) (alikeAll_of g.2) hroom fun i v h' tk bs hv hr hk => ?_
      rw [← epy] at hr
      obtain ⟨v0, r1, r2⟩ := best_item I oc.K oc.sub g.1 rv ra (by simpa using hv) hr hm hk
      exact ⟨v0, H, I.kept hk, r1, (show RE C H Q (.sh, maxD e es) st from o1) v0 C H (.refl oc.sub oc.row) r2 trivial⟩

/-! ### xs.count(x), xs.index(x) -/
def rM1 (X : Cx) (p : P2) : V → List V → Hp → VK → Prop := fun x vs H Q => ∃ C st k1 d1 k2 d2 Z, ∃ y : V, vs = [y] ∧ OpC X C H st ∧ RepK C H k1 x d1 ∧ RepK C H k2 y d2 ∧ OutG (p2D p d1 d2 st) (RE C H Q) Z
theorem countP_py {d : D} (hd : D.plainN 40 d = true) : ∀ {ds : List D}, D.plainsN 40 ds = true → ds.countP (fun y => D.eqv y d) = (D.pys ds).countP fun y => PyData.eqv y d.py
  | [], _ => rfl
  | a :: r, h => by
    have h : (D.plainN 40 a && D.plainsN 40 r) = true := h
    rw [Bool.and_eq_true] at h
    show (a :: r).countP _ = (a.py :: D.pys r).countP _
    rw [List.countP_cons, List.countP_cons, countP_py hd h.2, eqv_py a d 40 h.1 hd]
theorem findIdx_py {d : D} (hd : D.plainN 40 d = true) : ∀ {ds : List D}, D.plainsN 40 ds = true → ds.findIdx? (fun y => D.eqv y d) = PySem.SeqAt.dataPlace (D.pys ds) d.py
  | [], _ => rfl
  | a :: r, h => by
    have h : (D.plainN 40 a && D.plainsN 40 r) = true := h
    rw [Bool.and_eq_true] at h
    have ih := findIdx_py hd h.2
    unfold PySem.SeqAt.dataPlace at ih ⊢
    show (a :: r).findIdx? _ = (a.py :: D.pys r).findIdx? _
    rw [List.findIdx?_cons, List.findIdx?_cons, ih, eqv_py a d 40 h.1 hd]
theorem m_count {X : Cx} (hu : X.A.units + 100 < cLine) : MtR X "list.count" (rM1 X .count) := by
  intro pins s σ H x vs u us Q I rx rs h
  obtain ⟨C, st, k1, d1, k2, d2, Z, y, rfl, oc, r1, r2, o⟩ := h
  obtain ⟨w, rfl, ry⟩ := L2.vals1 rs
  cases d1 with
  | lst ds =>
    obtain ⟨a, vs, rfl, ha, ra⟩ := repK_lst oc.sub r1
    cases rx
    obtain ⟨g, o⟩ := OutG.guardB o
    rw [Bool.and_eq_true] at g
    obtain ⟨its, rv, hl, hz⟩ := I.list (sqL_of (C := C) (K := X.K) ha)
    obtain ⟨as, rr⟩ := Dp.readsAll I _ _ _ (repAll_dp oc.K oc.sub ds 39 vs g.2 ra) rv
    obtain ⟨bs, r0⟩ := Dp.reads I _ _ _ (repK_dp oc.K oc.sub g.1 r2) ry
    have z1 := plain_py d2 40 g.1
    have z2 := plains_py ds 39 g.2
    refine PySem.SeqAt.count_list_data hl.isList (show ReadsAll s.heap its.toArray.toList (D.pys ds) as from rr) r0 z2.1 z1.1 (by have := Nat.min_le_right (PyData.depthAll (D.pys ds)) d2.py.depth; omega) ?_
    rw [← countP_py g.1 (plains_up ds 39 40 (by decide) g.2)]
    exact ⟨.int _, H, I.tok _, ⟨_, rfl⟩, imm oc.sub oc.row (fun _ => .int _) o⟩
  | _ => exact (show False from o).elim
theorem m_index {X : Cx} (hu : X.A.units + 100 < cLine) (tup : Bool) : MtR X (if tup = true then "tuple.index" else "list.index") (fun x vs H Q => (∃ a vs, x = .ref a ∧ if tup = true then SqT X.K H a vs else ∃ xs, H a = some (.lst xs)) ∧ rM1 X .index x vs H Q) := by
  intro pins s σ H x vs u us Q I rx rs h
  obtain ⟨⟨a0, vs0, ex, hk⟩, C, st, k1, d1, k2, d2, Z, y, rfl, oc, r1, r2, o⟩ := h
  subst ex
  obtain ⟨w, rfl, ry⟩ := L2.vals1 rs
  obtain ⟨ds, hd, o1⟩ := OutG.items (OutG.bind o)
  obtain ⟨g, o1⟩ := OutG.guardB o1
  obtain ⟨j, ej, o1⟩ := OutG.needB o1
  rw [Bool.and_eq_true] at g
  obtain ⟨bs, r0⟩ := Dp.reads I _ _ _ (repK_dp oc.K oc.sub g.1 r2) ry
  have z1 := plain_py d2 40 g.1
  have z2 := plains_py ds 39 g.2
  rw [findIdx_py g.1 (plains_up ds 39 40 (by decide) g.2)] at ej
  have hroom : X.A.units + 1 + min (PyData.depthAll (D.pys ds)) d2.py.depth < cLine := by have := Nat.min_le_right (PyData.depthAll (D.pys ds)) d2.py.depth; omega
  have sl := sizeLine_eq
  cases rx
  rcases hd with rfl | rfl
  · cases tup with
    | true =>
      exfalso
      obtain ⟨a, vs, e, ha, ra⟩ := repK_lst oc.sub r1
      cases e
      obtain ⟨_, _, ⟨o, ho, hc, _⟩, _⟩ := I.tuple hk
      obtain ⟨_, _, ⟨o', _, ho', hc', _⟩, _⟩ := I.list (sqL_of (C := C) (K := X.K) ha)
      rw [ho] at ho'; cases ho'
      rw [hc] at hc'
      exact absurd (Value.type.inj hc') (by decide)
    | false =>
      obtain ⟨a, vs, e, ha, ra⟩ := repK_lst oc.sub r1
      cases e
      obtain ⟨its, rv, ⟨⟨cls, dd, data, sls⟩, n, ho, hc, hdn, hdt⟩, hz⟩ := I.list (sqL_of (C := C) (K := X.K) ha)
      simp only at hc hdt
      subst hc hdt
      obtain ⟨as, rr⟩ := Dp.readsAll I _ _ _ (repAll_dp oc.K oc.sub ds 39 vs g.2 ra) rv
      obtain ⟨hj, hit, hno⟩ := PySem.SeqAt.hit_at (vs := its.toArray) rr z2.1 ej
      have hj2 : j < its.length := by simpa using hj
      have hl := rv.length
      refine call_meets PySem.F.slot_list_index ⟨_, ho, rfl⟩ PySem.F.entry_list_index (PySem.F.args_list_index_2 _ _)
        (SeqAt.list_indexAt _ its.toArray n dd sls w (fun u => PyData.eqv (SeqAt.readOf s.heap u) d2.py) j hj (by omega) hit hno) ⟨ho, PySem.SeqAt.items_plain (vs := its.toArray) rr r0 z2.1 z1.1 hroom, ?_⟩
      exact ⟨.int _, H, I.tok _, ⟨_, rfl⟩, imm oc.sub oc.row (fun _ => .int _) o1⟩
  · cases tup with
    | false =>
      exfalso
      obtain ⟨xs, ha⟩ := hk
      obtain ⟨a, vs, e, hs, ra, _⟩ := repK_tup r1
      cases e
      obtain ⟨_, _, ⟨o, ho, hc, _⟩, _⟩ := I.tuple (show SqT X.K H _ vs by rw [← oc.K]; exact sqT_mono oc.sub hs)
      obtain ⟨_, _, ⟨o', _, ho', hc', _⟩, _⟩ := I.list (sqL_of (C := C) (K := X.K) ha)
      rw [ho] at ho'; cases ho'
      rw [hc] at hc'
      exact absurd (Value.type.inj hc') (by decide)
    | true =>
      obtain ⟨a, vs, e, hs, ra, _⟩ := repK_tup r1
      cases e
      obtain ⟨its, rv, ⟨⟨cls, dd, data, sls⟩, ho, hc, n, hdt⟩, hz⟩ := I.tuple (show SqT X.K H _ vs by rw [← oc.K]; exact sqT_mono oc.sub hs)
      simp only at hc hdt
      subst hc hdt
      obtain ⟨as, rr⟩ := Dp.readsAll I _ _ _ (repAll_dp oc.K oc.sub ds 39 vs g.2 ra) rv
      obtain ⟨hj, hit, hno⟩ := PySem.SeqAt.hit_at (vs := its.toArray) rr z2.1 ej
      refine call_meets PySem.F.slot_tuple_index ⟨_, ho, rfl⟩ PySem.F.entry_tuple_index (PySem.F.args_tuple_index_2 _ _)
        (TI.tuple_indexAt _ its.toArray n dd sls w (fun u => PyData.eqv (SeqAt.readOf s.heap u) d2.py) j hj hit hno) ⟨ho, PySem.SeqAt.items_plain (vs := its.toArray) rr r0 z2.1 z1.1 hroom, ?_⟩
      exact ⟨.int _, H, I.tok _, ⟨_, rfl⟩, imm oc.sub oc.row (fun _ => .int _) o1⟩
end Hb
namespace Hb
open PySem PySem.Spec PyProof.Rows L2

theorem OutG.bindI {α β : Type} {m : M α} {f : α → M β} {st : Hb.St} {R : β → Hb.St → Prop} {R1 : α → Hb.St → Prop} {Z : Nat → D → Hb.St → Prop} (h : OutG ((m >>= f) st) R Z) (hi : ∀ a st1, OutG (f a st1) R Z → R1 a st1) : OutG (m st) R1 Z := h.bind.imp hi fun _ _ _ z => z
theorem OutG.z {α : Type} {o : Out α} {R : α → Hb.St → Prop} {Z Z' : Nat → D → Hb.St → Prop} (h : OutG o R Z) (hz : ∀ c d st, Z c d st → Z' c d st) : OutG o R Z' := h.imp (fun _ _ x => x) hz
theorem Sim.opC {X : Cx} {g : G} {C : RC} {H0 H : Hp} {env : Hb.Env} {st : Hb.St} {σ : List (Option V)} (hK : X.K = g.K) (hw : X.w = g.w) (oc : OkC g C) (S : Sim C H0 H env st σ) : OpC X C H st := ⟨oc.K.trans hK.symm, oc.w.trans hw.symm, S.sub, S.row⟩

section
variable {X : Cx} {g : G} {W : WX} {H0 : Hp} {env : Hb.Env} {a b c e : Expr} {ia ib ic ie : E} {pos : Pos} (hK : X.K = g.K) (hw : X.w = g.w)

/-- a constant's reading -/
theorem tE_val {v : V} {d : D} {ir : E} (hr : ∀ C, OkC g C → Rep C v d) (he : evE g.Pg g.cl ir env = pure (.sh, d)) : ∀ σ H Q, tE g W H0 ir env σ H Q → tC v σ H Q := fun σ H Q ⟨C, st, oc, S, o⟩ => by
  rw [he] at o
  exact o v C H S.refl (hr C oc) trivial
theorem x_int {i : Int} {j : Nat} : PE X (.Constant (.int i) j pos) (tE g W H0 (.cst (.int i)) env) := PE.imp pe_int (tE_val (fun _ _ => .int i) rfl)
theorem x_bl {i : Bool} {j : Nat} : PE X (.Constant (.bool i) j pos) (tE g W H0 (.cst (.bl i)) env) := PE.imp pe_bl (tE_val (fun _ _ => .bl i) rfl)
theorem x_str {i : Str} {j : Nat} : PE X (.Constant (.str i) j pos) (tE g W H0 (.cst (.str i)) env) := PE.imp pe_str (tE_val (fun _ _ => .str i) rfl)
theorem x_non {j : Nat} : PE X (.Constant .none j pos) (tE g W H0 (.cst .non) env) := PE.imp pe_non (tE_val (fun _ _ => .non) rfl)
theorem x_glob {i : Nat} {x : Str} {d : D} {v : V} {u : Value} (hp : g.Pg.cst i = some d) (hg : Gl X x) (hm : X.mg x = some u) (r : RelV v u) (hr : ∀ C, OkC g C → Rep C v d) (hd : (x == ("__debug__" : Str)) = false) : PE X (.Name x pos) (tE g W H0 (.glob i) env) :=
  PE.imp (pe_glob hg hm r hd) (tE_val hr (by show (do let d ← need (g.Pg.cst i); pure (Hb.K.sh, d) : M KD) = _; rw [hp]; rfl))
theorem x_var {i : Nat} {x : Str} (hN : X.N[i]? = some x) (hv : Vis X.env.scope x) (hd : (x == ("__debug__" : Str)) = false) (hcd : (x == ("__classdict__" : Str)) = false) : PE X (.Name x pos) (tE g W H0 (.var i) env) := by
  refine PE.imp (pe_var hN hv hd hcd) fun σ H Q ⟨C, st, oc, S, o⟩ => ?_
  have o : OutG ((match env[i]? with
    | some (some (true, d)) => pure (.br, d)
    | some (some (false, d)) => pure (.sh, d)
    | _ => bad : M KD) st) (RE C H Q) (ZG g.xr W C H σ) := o
  cases q : env[i]? with
  | none => rw [q] at o; exact (show False from o).elim
  | some cl =>
    cases cl with
    | none => rw [q] at o; exact (show False from o).elim
    | some p =>
      obtain ⟨w, d⟩ := p
      rw [q] at o
      cases w with
      | true =>
        obtain ⟨ad, e1, n, m, z, r⟩ := S.own i d q
        exact ⟨_, e1, o _ C H S.refl ⟨ad, rfl, n, m, r⟩ trivial⟩
      | false =>
        obtain ⟨v, e1, r⟩ := S.cell i d q
        exact ⟨v, e1, o v C H S.refl r trivial⟩

/-! ### operations -/
include hK hw in
theorem x_bin {op : BOp} (ha : PE X a (tE g W H0 ia env)) (hb : PE X b (tE g W H0 ib env)) : PE X (.BinOp a (opA op) b pos) (tE g W H0 (.bin op ia ib) env) := by
  refine PE.imp (pe_op (op_bin op) ha hb) fun σ H Q ⟨C, st, oc, S, o⟩ => ?_
  refine ⟨C, st, oc, S, o.bindI fun kd st1 q v C1 H1 p r n => ?_⟩
  refine ⟨C1, st1, oc.step p.le, S.step p, (q.bindI fun kd2 st2 q2 v2 C2 H2 p2 r2 n2 => ?_).z fun _ _ _ z => z.shift p⟩
  exact ⟨C2, st2, kd.1, kd.2, kd2.1, kd2.2, _, ((S.step p).step p2).opC hK hw ((oc.step p.le).step p2.le), r.step p2, r2, q2.imp (fun _ _ z => (z.shift p).shift p2) fun _ _ _ z => z⟩
theorem x_neg (ha : PE X a (tE g W H0 ia env)) : PE X (.UnaryOp .USub a pos) (tE g W H0 (.neg ia) env) := by
  refine PE.imp (pe_un un_neg ha) fun σ H Q ⟨C, st, oc, S, o⟩ => ?_
  refine ⟨C, st, oc, S, o.bindI fun kd st1 q v C1 H1 p r n => ?_⟩
  obtain ⟨i, e, q⟩ := OutG.asInt (OutG.bind q)
  rw [e] at r
  exact ⟨i, repK_int r, imm p.sub p.row (fun _ => .int _) (q.shift p)⟩
theorem x_not (ha : PE X a (tE g W H0 ia env)) : PE X (.UnaryOp .Not a pos) (tE g W H0 (.not_ ia) env) := by
  refine PE.imp (pe_not ha) fun σ H Q ⟨C, st, oc, S, o⟩ => ?_
  refine ⟨C, st, oc, S, o.bindI fun kd st1 q v C1 H1 p r n => ?_⟩
  obtain ⟨i, e, q⟩ := OutG.asBl (OutG.bind q)
  rw [e] at r
  exact ⟨i, repK_bl r, imm p.sub p.row (fun _ => .bl _) (q.shift p)⟩
theorem t_not (ha : PT X a (tT g W H0 ia env)) : PT X (.UnaryOp .Not a pos) (tT g W H0 (.not_ ia) env) := by
  refine PT.imp (pt_not ha) fun σ H Q ⟨C, st, oc, S, o⟩ => ?_
  refine ⟨C, st, oc, S, ?_⟩
  have o := OutG.bind (OutG.bind o)
  refine OutG.bind' (o.imp (fun kd st1 q => ?_) fun _ _ _ z => z)
  exact (OutG.bind q).imp (fun b st2 q C1 H1 p => q C1 H1 p) fun _ _ _ z => z
/-- a bool's value as a test -/
theorem t_val {e : Expr} {ie : E} (h : PE X e (tE g W H0 ie env)) (he : ∀ whole, isTrue e X.env whole = (do let v ← whole; standAt e.pos; holding [v] (truthy v))) : PT X e (tT g W H0 ie env) := by
  refine PT.imp (pt_val h he) fun σ H Q ⟨C, st, oc, S, o⟩ => ?_
  refine ⟨C, st, oc, S, o.bindI fun kd st1 q v C1 H1 p r n => ?_⟩
  obtain ⟨b, e, q⟩ := OutG.asBl q
  rw [e] at r
  exact ⟨b, repK_bl r, q C1 H1 p⟩

/-! ### a if c else b -/
theorem x_ite (hc : PT X c (tT g W H0 ic env)) (ha : PE X a (tE g W H0 ia env)) (hb : PE X b (tE g W H0 ib env)) : PE X (.IfExp c a b pos) (tE g W H0 (.ite ic ia ib) env) := by
  refine PE.imp (pe_ifExp hc ha hb) fun σ H Q ⟨C, st, oc, S, o⟩ => ?_
  refine ⟨C, st, oc, S, OutG.bind' ((OutG.bind o).imp (fun kd st1 q => (OutG.bind q).imp (fun k st2 q C1 H1 p => ?_) fun _ _ _ z => z) fun _ _ _ z => z)⟩
  cases k with
  | true =>
    rw [if_pos rfl]
    exact ⟨C1, st2, oc.step p.le, S.step p, q.imp (fun _ _ z => z.shift p) fun _ _ _ z => z.shift p⟩
  | false =>
    rw [if_neg Bool.false_ne_true]
    exact ⟨C1, st2, oc.step p.le, S.step p, q.imp (fun _ _ z => z.shift p) fun _ _ _ z => z.shift p⟩
end
end Hb
namespace Hb
open PySem PySem.Spec PyProof.Rows L2

section
variable {X : Cx} {g : G} {W : WX} {H0 : Hp} {env : Hb.Env} {a b c e : Expr} {ia ib ic ie : E} {pos : Pos} (hK : X.K = g.K) (hw : X.w = g.w)

/-! ### and, or -/
theorem andR {ies : List E} {st : Hb.St} {C : RC} {H : Hp} {Q : VK} {Z : Nat → D → Hb.St → Prop} (h : OutG (evE g.Pg g.cl (.and_ ies) env st) (RE C H Q) Z) : OutG (evAnd g.Pg g.cl ies env st) (fun b st' => RE C H Q (.sh, .bl b) st') Z := OutG.bind h
theorem orR {ies : List E} {st : Hb.St} {C : RC} {H : Hp} {Q : VK} {Z : Nat → D → Hb.St → Prop} (h : OutG (evE g.Pg g.cl (.or_ ies) env st) (RE C H Q) Z) : OutG (evOr g.Pg g.cl ies env st) (fun b st' => RE C H Q (.sh, .bl b) st') Z := OutG.bind h
theorem x_and1 (ha : PE X a (tE g W H0 ia env)) : PE X (.BoolOp .And [a] pos) (tE g W H0 (.and_ [ia]) env) := by
  refine PE.imp (pe_one ha) fun σ H Q ⟨C, st, oc, S, o⟩ => ⟨C, st, oc, S, ?_⟩
  refine (OutG.bind (andR o)).imp (fun kd st1 q v C1 H1 p r n => ?_) fun _ _ _ z => z
  obtain ⟨k, e, q⟩ := OutG.asBl (OutG.bind q)
  rw [e] at r
  rw [repK_bl r]
  cases k <;> exact imm p.sub p.row (fun _ => .bl _) ((show RE C H Q _ st1 from q).shift p)
theorem x_or1 (ha : PE X a (tE g W H0 ia env)) : PE X (.BoolOp .Or [a] pos) (tE g W H0 (.or_ [ia]) env) := by
  refine PE.imp (pe_one ha) fun σ H Q ⟨C, st, oc, S, o⟩ => ⟨C, st, oc, S, ?_⟩
  refine (OutG.bind (orR o)).imp (fun kd st1 q v C1 H1 p r n => ?_) fun _ _ _ z => z
  obtain ⟨k, e, q⟩ := OutG.asBl (OutG.bind q)
  rw [e] at r
  rw [repK_bl r]
  cases k <;> exact imm p.sub p.row (fun _ => .bl _) ((show RE C H Q _ st1 from q).shift p)
theorem x_and {rest : List Expr} {ir : List E} (ha : PE X a (tE g W H0 ia env)) (hb : PE X (.BoolOp .And (b :: rest) pos) (tE g W H0 (.and_ ir) env)) : PE X (.BoolOp .And (a :: b :: rest) pos) (tE g W H0 (.and_ (ia :: ir)) env) := by
  refine PE.imp (pe_and ha hb) fun σ H Q ⟨C, st, oc, S, o⟩ => ⟨C, st, oc, S, ?_⟩
  refine (OutG.bind (andR o)).imp (fun kd st1 q v C1 H1 p r n => ?_) fun _ _ _ z => z
  obtain ⟨k, e, q⟩ := OutG.asBl (OutG.bind q)
  rw [e] at r
  refine ⟨k, repK_bl r, ?_⟩
  cases k with
  | true =>
    rw [if_pos rfl]
    refine ⟨C1, st1, oc.step p.le, S.step p, ?_⟩
    exact OutG.bind' (OutG.imp (show OutG (evAnd g.Pg g.cl ir env st1) _ _ from q) (fun _ _ z => z.shift p) fun _ _ _ z => z.shift p)
  | false =>
    rw [if_neg Bool.false_ne_true]
    exact imm p.sub p.row (fun _ => .bl _) ((show RE C H Q _ st1 from q).shift p)
theorem x_or {rest : List Expr} {ir : List E} (ha : PE X a (tE g W H0 ia env)) (hb : PE X (.BoolOp .Or (b :: rest) pos) (tE g W H0 (.or_ ir) env)) : PE X (.BoolOp .Or (a :: b :: rest) pos) (tE g W H0 (.or_ (ia :: ir)) env) := by
  refine PE.imp (pe_or ha hb) fun σ H Q ⟨C, st, oc, S, o⟩ => ⟨C, st, oc, S, ?_⟩
  refine (OutG.bind (orR o)).imp (fun kd st1 q v C1 H1 p r n => ?_) fun _ _ _ z => z
  obtain ⟨k, e, q⟩ := OutG.asBl (OutG.bind q)
  rw [e] at r
  refine ⟨k, repK_bl r, ?_⟩
  cases k with
  | true =>
    rw [if_pos rfl]
    exact imm p.sub p.row (fun _ => .bl _) ((show RE C H Q _ st1 from q).shift p)
  | false =>
    rw [if_neg Bool.false_ne_true]
    refine ⟨C1, st1, oc.step p.le, S.step p, ?_⟩
    exact OutG.bind' (OutG.imp (show OutG (evOr g.Pg g.cl ir env st1) _ _ from q) (fun _ _ z => z.shift p) fun _ _ _ z => z.shift p)
def tAndT (g : G) (W : WX) (H0 : Hp) (ies : List E) (env : Hb.Env) : TT := fun σ H Q => ∃ C st, OkC g C ∧ Sim C H0 H env st σ ∧ OutG (evAnd g.Pg g.cl ies env st) (RB C H Q) (ZG g.xr W C H σ)
def tOrT (g : G) (W : WX) (H0 : Hp) (ies : List E) (env : Hb.Env) : TT := fun σ H Q => ∃ C st, OkC g C ∧ Sim C H0 H env st σ ∧ OutG (evOr g.Pg g.cl ies env st) (RB C H Q) (ZG g.xr W C H σ)
theorem t_ofAnd {vs : List Expr} {ies : List E} (h : PW X (.BoolOp .And vs pos) (tAndT g W H0 ies env)) : PT X (.BoolOp .And vs pos) (tT g W H0 (.and_ ies) env) :=
  PT.imp h.pt fun σ H Q ⟨C, st, oc, S, o⟩ => ⟨C, st, oc, S, (OutG.bind (OutG.bind o)).imp (fun b st1 q => q) fun _ _ _ z => z⟩
theorem t_ofOr {vs : List Expr} {ies : List E} (h : PW X (.BoolOp .Or vs pos) (tOrT g W H0 ies env)) : PT X (.BoolOp .Or vs pos) (tT g W H0 (.or_ ies) env) :=
  PT.imp h.pt fun σ H Q ⟨C, st, oc, S, o⟩ => ⟨C, st, oc, S, (OutG.bind (OutG.bind o)).imp (fun b st1 q => q) fun _ _ _ z => z⟩
theorem w_and1 (ha : PT X a (tT g W H0 ia env)) : PW X (.BoolOp .And [a] pos) (tAndT g W H0 [ia] env) := by
  refine PW.imp (pw_and1 ha) fun σ H Q ⟨C, st, oc, S, o⟩ => ⟨C, st, oc, S, ?_⟩
  refine OutG.bind' ((OutG.bind o).imp (fun kd st1 q => ?_) fun _ _ _ z => z)
  refine (OutG.bind q).imp (fun k st2 q => ?_) fun _ _ _ z => z
  cases k <;> exact q
theorem w_or1 (ha : PT X a (tT g W H0 ia env)) : PW X (.BoolOp .Or [a] pos) (tOrT g W H0 [ia] env) := by
  refine PW.imp (pw_or1 ha) fun σ H Q ⟨C, st, oc, S, o⟩ => ⟨C, st, oc, S, ?_⟩
  refine OutG.bind' ((OutG.bind o).imp (fun kd st1 q => ?_) fun _ _ _ z => z)
  refine (OutG.bind q).imp (fun k st2 q => ?_) fun _ _ _ z => z
  cases k <;> exact q
theorem w_and {rest : List Expr} {ir : List E} (ha : PT X a (tT g W H0 ia env)) (hb : PW X (.BoolOp .And (b :: rest) pos) (tAndT g W H0 ir env)) : PW X (.BoolOp .And (a :: b :: rest) pos) (tAndT g W H0 (ia :: ir) env) := by
  refine PW.imp (pw_and ha hb) fun σ H Q ⟨C, st, oc, S, o⟩ => ⟨C, st, oc, S, ?_⟩
  refine OutG.bind' ((OutG.bind o).imp (fun kd st1 q => ?_) fun _ _ _ z => z)
  refine (OutG.bind q).imp (fun k st2 q C1 H1 p => ?_) fun _ _ _ z => z
  cases k with
  | true =>
    rw [if_pos rfl]
    exact ⟨C1, st2, oc.step p.le, S.step p, OutG.imp (show OutG (evAnd g.Pg g.cl ir env st2) _ _ from q) (fun _ _ z => z.shift p) fun _ _ _ z => z.shift p⟩
  | false =>
    rw [if_neg Bool.false_ne_true]
    exact (show RB C H Q false st2 from q) C1 H1 p
theorem w_or {rest : List Expr} {ir : List E} (ha : PT X a (tT g W H0 ia env)) (hb : PW X (.BoolOp .Or (b :: rest) pos) (tOrT g W H0 ir env)) : PW X (.BoolOp .Or (a :: b :: rest) pos) (tOrT g W H0 (ia :: ir) env) := by
  refine PW.imp (pw_or ha hb) fun σ H Q ⟨C, st, oc, S, o⟩ => ⟨C, st, oc, S, ?_⟩
  refine OutG.bind' ((OutG.bind o).imp (fun kd st1 q => ?_) fun _ _ _ z => z)
  refine (OutG.bind q).imp (fun k st2 q C1 H1 p => ?_) fun _ _ _ z => z
  cases k with
  | false =>
    rw [if_neg Bool.false_ne_true]
    exact ⟨C1, st2, oc.step p.le, S.step p, OutG.imp (show OutG (evOr g.Pg g.cl ir env st2) _ _ from q) (fun _ _ z => z.shift p) fun _ _ _ z => z.shift p⟩
  | true =>
    rw [if_pos rfl]
    exact (show RB C H Q true st2 from q) C1 H1 p

/-! ### comparisons -/
/-- inD, cmpD leave the state -/
def Pure0 {α : Type} (m : M α) : Prop := ∀ (st : Hb.St) (R : α → Hb.St → Prop) (Z : Nat → D → Hb.St → Prop), OutG (m st) R Z → OutG (m st) (fun a st' => st' = st ∧ R a st) fun _ _ _ => False
theorem pure0_pure {α : Type} (a : α) : Pure0 (pure a : M α) := fun st R Z h => ⟨rfl, h⟩
theorem pure0_bad {α : Type} : Pure0 (bad : M α) := fun st R Z h => (show False from h).elim
theorem pure0_bind {α β : Type} {m : M α} {f : α → M β} (hm : Pure0 m) (hf : ∀ a, Pure0 (f a)) : Pure0 (m >>= f) := fun st R Z h => by
  refine OutG.bind' ((hm st _ _ (OutG.bind h)).imp (fun a st1 q => ?_) fun _ _ _ z => z)
  obtain ⟨e, q⟩ := q
  subst e
  exact hf a _ _ _ q
theorem pure0_guard (b : Bool) : Pure0 (guard_ b) := fun st R Z h => by
  cases b with
  | true => exact ⟨rfl, h⟩
  | false => exact (show False from h).elim
theorem pure0_need {α : Type} (o : Option α) : Pure0 (need o) := by
  cases o with
  | none => exact pure0_bad
  | some a => exact pure0_pure a
theorem pure0_memo : Pure0 theMemo := fun st R Z h => by
  unfold theMemo at h ⊢
  cases e : st.memo with
  | none => rw [e] at h; exact (show False from h).elim
  | some r => rw [e] at h; exact ⟨rfl, h⟩
theorem pure0_in (x d : D) : Pure0 (inD x d) := by
  cases d with
  | lst ys => exact pure0_bind (pure0_guard _) fun _ => pure0_pure _
  | tup ys => exact pure0_bind (pure0_guard _) fun _ => pure0_pure _
  | dct ys => exact pure0_bind (pure0_guard _) fun _ => pure0_pure _
  | str y =>
    cases x with
    | str c =>
      show Pure0 (match c.cps.toList with | [k] => pure (y.cps.toList.contains k) | _ => bad : M Bool)
      split
      · exact pure0_pure _
      · exact pure0_bad
    | _ => exact pure0_bad
  | memo => exact pure0_bind pure0_memo fun _ => pure0_bind (pure0_guard _) fun _ => pure0_pure _
  | _ => exact pure0_bad
theorem pure0_is (a b : D) : Pure0 (isD a b) := by
  cases b with
  | non => exact pure0_pure _
  | bl y =>
    cases a with
    | bl x => exact pure0_pure _
    | _ => exact pure0_bad
  | _ => exact pure0_bad
theorem pure0_ord (a b : D) : Pure0 (ordD a b) := pure0_guard _
theorem pure0_eq (a b : D) : Pure0 (eqD a b) := pure0_bind (pure0_guard _) fun _ => pure0_pure _
theorem pure0_eqE (a b : D) : Pure0 (eqE a b) := pure0_bind (pure0_guard _) fun _ => pure0_pure _
theorem pure0_cmp (op : COp) (a b : D) : Pure0 (cmpD op a b) := by
  cases op with
  | eq => exact pure0_eqE _ _
  | ne => exact pure0_bind (pure0_eq _ _) fun _ => pure0_pure _
  | lt => exact pure0_bind (pure0_ord _ _) fun _ => pure0_pure _
  | le => exact pure0_bind (pure0_ord _ _) fun _ => pure0_pure _
  | gt => exact pure0_bind (pure0_ord _ _) fun _ => pure0_pure _
  | ge => exact pure0_bind (pure0_ord _ _) fun _ => pure0_pure _
  | is_ => exact pure0_is _ _
  | isnot => exact pure0_bind (pure0_is _ _) fun _ => pure0_pure _
  | in_ => exact pure0_in _ _
  | notin => exact pure0_bind (pure0_in _ _) fun _ => pure0_pure _
/-- every comparison, by values -/
def rC (X : Cx) (op : COp) : R2 := fun x y H Q => ∃ C st k1 d1 k2 d2 Z, OpC X C H st ∧ RepK C H k1 x d1 ∧ RepK C H k2 y d2 ∧ OutG (cmpD op d1 d2 st) (fun b st' => st' = st → Q (.bl b) H) Z
def cmpO : COp → CmpOp
  | .eq => .Eq | .ne => .NotEq | .lt => .Lt | .le => .LtE | .gt => .Gt | .ge => .GtE | .is_ => .Is | .isnot => .IsNot | .in_ => .In | .notin => .NotIn
theorem or_cmp (hu : X.A.units + 100 < cLine) (op : COp) : OpR X (compareOp (cmpO op)) (rC X op) := by
  intro pins s σ H x y v u Q I rx ry h
  by_cases hs : op.simple = true
  · have e : cmpO op = cmpA op := by cases op <;> first | rfl | exact nomatch hs
    rw [e]
    exact op_cmp (by omega) op hs pins s σ H x y v u Q I rx ry h
  · obtain ⟨C, st, k1, d1, k2, d2, Z, oc, r1, r2, o⟩ := h
    cases op with
    | in_ => exact op_mem hu false pins s σ H x y v u Q I rx ry ⟨C, st, k1, d1, k2, d2, Z, oc, r1, r2, o⟩
    | notin => exact op_mem hu true pins s σ H x y v u Q I rx ry ⟨C, st, k1, d1, k2, d2, Z, oc, r1, r2, OutG.bind o⟩
    | eq => exact op_eq hu pins s σ H x y v u Q I rx ry ⟨C, st, k1, d1, k2, d2, Z, oc, r1, r2, o⟩
    | _ => exact absurd rfl hs
include hK hw in
theorem x_cmp {op : COp} (hu : X.A.units + 100 < cLine) (ha : PE X a (tE g W H0 ia env)) (hb : PE X b (tE g W H0 ib env)) (hm : behindInMarks (cmpO op) b = false) : PE X (.Compare a [cmpO op] [b] pos) (tE g W H0 (.cmp op ia ib) env) := by
  refine PE.imp (pe_cmpR (or_cmp hu op) ha hb hm) fun σ H Q ⟨C, st, oc, S, o⟩ => ?_
  refine ⟨C, st, oc, S, o.bindI fun kd st1 q v C1 H1 p r n => ?_⟩
  refine ⟨C1, st1, oc.step p.le, S.step p, (q.bindI fun kd2 st2 q2 v2 C2 H2 p2 r2 n2 => ?_).z fun _ _ _ z => z.shift p⟩
  refine ⟨C2, st2, kd.1, kd.2, kd2.1, kd2.2, _, ((S.step p).step p2).opC hK hw ((oc.step p.le).step p2.le), r.step p2, r2, (OutG.bind q2).imp (fun b st3 z e => ?_) fun _ _ _ z => z⟩
  subst e
  exact imm p2.sub p2.row (fun _ => .bl _) (((show RE C H Q _ st3 from z).shift p).shift p2)
include hK hw in
theorem t_cmp {op : COp} (hu : X.A.units + 100 < cLine) (ha : PE X a (tE g W H0 ia env)) (hb : PE X b (tE g W H0 ib env)) (hm : behindInMarks (cmpO op) b = false) : PT X (.Compare a [cmpO op] [b] pos) (tT g W H0 (.cmp op ia ib) env) := by
  refine PT.imp (pt_cmpR (or_cmp hu op) ha hb hm) fun σ H Q ⟨C, st, oc, S, o⟩ => ?_
  have o := OutG.bind o
  refine ⟨C, st, oc, S, o.bindI fun kd st1 q v C1 H1 p r n => ?_⟩
  refine ⟨C1, st1, oc.step p.le, S.step p, (q.bindI fun kd2 st2 q2 v2 C2 H2 p2 r2 n2 => ?_).z fun _ _ _ z => z.shift p⟩
  refine ⟨C2, st2, kd.1, kd.2, kd2.1, kd2.2, _, ((S.step p).step p2).opC hK hw ((oc.step p.le).step p2.le), r.step p2, r2, (OutG.bind q2).imp (fun b st3 z e => ?_) fun _ _ _ z => z⟩
  subst e
  exact ⟨b, rfl, (show RB C H Q b st3 from z) C2 H2 (p.trans p2)⟩
theorem no_marks {op op' : COp} {b c : Expr} (h : behindInMarks (cmpO op') c = false) : lastMarks [cmpO op, cmpO op'] [b, c] = false := h
include hK hw in
theorem chain_imp {op op' : COp} {σ : List (Option V)} {H : Hp} {Q : VK} (h : tE g W H0 (.cmp2 op op' ia ib ic) env σ H Q) : tChain (rC X op) (rC X op') (tE g W H0 ia env) (tE g W H0 ib env) (tE g W H0 ic env) σ H Q := by
  obtain ⟨C, st, oc, S, o⟩ := h
  refine ⟨C, st, oc, S, o.bindI fun kd st1 q v C1 H1 p r n => ?_⟩
  refine ⟨C1, st1, oc.step p.le, S.step p, (q.bindI fun kd2 st2 q2 v2 C2 H2 p2 r2 n2 => ?_).z fun _ _ _ z => z.shift p⟩
  refine ⟨C2, st2, kd.1, kd.2, kd2.1, kd2.2, fun _ _ _ => False, ((S.step p).step p2).opC hK hw ((oc.step p.le).step p2.le), r.step p2, r2, ?_⟩
  refine (pure0_cmp op kd.2 kd2.2 st2 _ _ (OutG.bind q2)).imp (fun b st3 z e => ⟨b, rfl, ?_⟩) fun _ _ _ z => z
  obtain ⟨_, z⟩ := z
  cases b with
  | false =>
    rw [if_neg Bool.false_ne_true]
    exact imm p2.sub p2.row (fun _ => .bl _) (((show RE C H Q _ st2 from z).shift p).shift p2)
  | true =>
    rw [if_pos rfl]
    have z := (OutG.bind z)
    refine ⟨C2, st2, (oc.step p.le).step p2.le, (S.step p).step p2, z.imp (fun kd3 st4 q4 v3 C3 H3 p3 r3 n3 => ?_) fun _ _ _ z => (z.shift p).shift p2⟩
    refine ⟨C3, st4, kd2.1, kd2.2, kd3.1, kd3.2, _, (((S.step p).step p2).step p3).opC hK hw (((oc.step p.le).step p2.le).step p3.le), r2.step p3, r3, (OutG.bind q4).imp (fun b st5 z e => ?_) fun _ _ _ z => z⟩
    subst e
    exact imm p3.sub p3.row (fun _ => .bl _) ((((show RE C H Q _ st5 from z).shift p).shift p2).shift p3)
include hK hw in
theorem x_cmp2 {op op' : COp} (hu : X.A.units + 100 < cLine) (ha : PE X a (tE g W H0 ia env)) (hb : PE X b (tE g W H0 ib env)) (hc : PE X c (tE g W H0 ic env)) (hm : behindInMarks (cmpO op') c = false) : PE X (.Compare a [cmpO op, cmpO op'] [b, c] pos) (tE g W H0 (.cmp2 op op' ia ib ic) env) :=
  PE.imp (pe_chain (or_cmp hu op) (or_cmp hu op') ha hb hc (no_marks hm)) fun σ H Q h => chain_imp hK hw h
include hK hw in
theorem t_cmp2 {op op' : COp} (hu : X.A.units + 100 < cLine) (ha : PE X a (tE g W H0 ia env)) (hb : PE X b (tE g W H0 ib env)) (hc : PE X c (tE g W H0 ic env)) (hm : behindInMarks (cmpO op') c = false) : PT X (.Compare a [cmpO op, cmpO op'] [b, c] pos) (tT g W H0 (.cmp2 op op' ia ib ic) env) := by
  refine PT.imp (pt_chain (or_cmp hu op) (or_cmp hu op') ha hb hc (no_marks hm)) fun σ H Q ⟨C, st, oc, S, o⟩ => chain_imp hK hw ⟨C, st, oc, S, (OutG.bind o).imp (fun kd st1 q v C1 H1 p r n => ?_) fun _ _ _ z => z⟩
  obtain ⟨b, e, q⟩ := OutG.asBl q
  rw [e] at r
  exact ⟨b, repK_bl r, q C1 H1 p⟩

/-! ### a[b], a[b:c] -/
include hK hw in
theorem x_idx (hu : X.A.units + 100 < cLine) (ha : PE X a (tE g W H0 ia env)) (hb : PE X b (tE g W H0 ib env)) (hs : PlainIx b) : PE X (.Subscript a b pos) (tE g W H0 (.idx ia ib) env) := by
  refine PE.imp (pe_ix (ix_D hu) ha hb hs) fun σ H Q ⟨C, st, oc, S, o⟩ => ?_
  refine ⟨C, st, oc, S, o.bindI fun kd st1 q v C1 H1 p r n => ?_⟩
  refine ⟨C1, st1, oc.step p.le, S.step p, (q.bindI fun kd2 st2 q2 v2 C2 H2 p2 r2 n2 => ?_).z fun _ _ _ z => z.shift p⟩
  refine ⟨C2, st2, kd.1, kd.2, kd2.1, kd2.2, _, ((S.step p).step p2).opC hK hw ((oc.step p.le).step p2.le), r.step p2, r2, (OutG.bind q2).imp (fun d st3 z e v rd => ?_) fun _ _ _ z => z⟩
  subst e
  exact ((show RE C H Q (.sh, d) st3 from z).shift p).shift p2 v C2 H2 (.refl p2.sub p2.row) rd trivial
def tO (g : G) (W : WX) (H0 : Hp) (o : Option E) (env : Hb.Env) : TO := fun σ H Q => ∃ C st, OkC g C ∧ Sim C H0 H env st σ ∧ OutG (evO g.Pg g.cl o env st) (fun i st' => ∀ C' H', Post C H C' H' st' → Q i H') (ZG g.xr W C H σ)
theorem o_none : PO X none (tO g W H0 none env) := ⟨fun pins s σ H Q I ⟨C, st, oc, S, o⟩ => po_none.run pins s σ H Q I (o C H S.refl)⟩
theorem o_some (h : PE X e (tE g W H0 ie env)) : PO X (some e) (tO g W H0 (some ie) env) := ⟨fun pins s σ H Q I ⟨C, st, oc, S, o⟩ => (po_some h).run pins s σ H Q I ⟨C, st, oc, S, (OutG.bind o).imp (fun kd st1 q v C1 H1 p r n => by
    obtain ⟨i, e, q⟩ := OutG.asInt (OutG.bind q)
    rw [e] at r
    exact ⟨i, repK_int r, q C1 H1 p⟩) fun _ _ _ z => z⟩⟩
include hK hw in
theorem x_slc {lo hi : Option Expr} {il ih : Option E} {p2 : Pos} (ha : PE X a (tE g W H0 ia env)) (hl : PO X lo (tO g W H0 il env)) (hh : PO X hi (tO g W H0 ih env)) : PE X (.Subscript a (.Slice lo hi none p2) pos) (tE g W H0 (.slc ia il ih) env) := by
  refine PE.imp (pe_slice sl_D ha hl hh) fun σ H Q ⟨C, st, oc, S, o⟩ => ?_
  refine ⟨C, st, oc, S, o.bindI fun kd st1 q v C1 H1 p r n => ?_⟩
  refine ⟨C1, st1, oc.step p.le, S.step p, (q.bindI fun l st2 q2 C2 H2 p2 => ?_).z fun _ _ _ z => z.shift p⟩
  refine ⟨C2, st2, (oc.step p.le).step p2.le, (S.step p).step p2, (q2.bindI fun h st3 q3 C3 H3 p3 => ?_).z fun _ _ _ z => (z.shift p).shift p2⟩
  exact ⟨C3, st3, kd.1, kd.2, _, (((S.step p).step p2).step p3).opC hK hw (((oc.step p.le).step p2.le).step p3.le), (r.step p2).step p3, q3.imp (fun _ _ z => ((z.shift p).shift p2).shift p3) fun _ _ _ z => z⟩
end
end Hb
namespace Hb
open PySem PySem.Spec PyProof.Rows L2

theorem RA.shift {C C1 : RC} {H H1 : Hp} {Q : List V → Hp → Prop} {st1 : Hb.St} (p : Post C H C1 H1 st1) {ds : List D} {st : Hb.St} (h : RA C H Q ds st) : RA C1 H1 Q ds st := fun vs C' H' q r => h vs C' H' (p.trans q) r
theorem Rep.up {C C' : RC} {H H' : Hp} {st' : Hb.St} (p : Post C H C' H' st') {v : V} {d : D} (r : Rep C v d) : Rep C' v d := Rep.mono p.le _ _ r

section
variable {X : Cx} {g : G} {W : WX} {H0 : Hp} {env : Hb.Env} {a b c e : Expr} {ia ib ic ie : E} {pos : Pos} (hK : X.K = g.K) (hw : X.w = g.w)

/-! ### arguments, displays -/
theorem a_nil : PA X [] (tAs g W H0 [] env) := PA.imp pa_nil fun σ H Q ⟨C, st, oc, S, o⟩ => o [] C H S.refl .nil
theorem a_cons {es : List Expr} {ies : List E} (he : PE X e (tE g W H0 ie env)) (hr : PA X es (tAs g W H0 ies env)) (hs : starEach (e :: es) X.env = (false, eval e X.env) :: starEach es X.env) : PA X (e :: es) (tAs g W H0 (ie :: ies) env) := by
  refine PA.imp (pa_cons (PE.seal he) hr hs) fun σ H Q ⟨C, st, oc, S, o⟩ => ⟨C, st, oc, S, ?_⟩
  refine OutG.bind' ((OutG.bind o).imp (fun kd st1 q => ?_) fun _ _ _ z => z)
  refine (OutG.bind q).imp (fun d st2 q v C1 H1 p r => ?_) fun _ _ _ z => z
  refine ⟨C1, st2, oc.step p.le, S.step p, ((OutG.bind q).imp (fun ds st3 q vs C2 H2 p2 r2 => ?_) fun _ _ _ z => z).z fun _ _ _ z => z.shift p⟩
  exact (show RA C H Q (d :: ds) st3 from q) (v :: vs) C2 H2 (p.trans p2) (.cons (r.up p2) r2)
def szA (ies : List E) : Bool := decide (ies.length ≤ 1000)
theorem evA_len {ies : List E} : ∀ {st : Hb.St} {R : List D → Hb.St → Prop} {Z : Nat → D → Hb.St → Prop}, OutG (evA g.Pg g.cl ies env st) R Z → OutG (evA g.Pg g.cl ies env st) (fun ds st' => ds.length = ies.length ∧ R ds st') Z := by
  induction ies with
  | nil => intro st R Z h; exact ⟨rfl, h⟩
  | cons ie ies ih =>
    intro st R Z h
    refine OutG.bind' ((OutG.bind h).imp (fun kd st1 q => ?_) fun _ _ _ z => z)
    refine OutG.bind' ((OutG.bind q).imp (fun d st2 q => ?_) fun _ _ _ z => z)
    refine OutG.bind' ((ih (OutG.bind q)).imp (fun ds st3 q => ?_) fun _ _ _ z => z)
    exact ⟨congrArg Nat.succ q.1, q.2⟩
theorem x_tup {es : List Expr} {ies : List E} {k : Nat} (hz : szA ies = true) (h : PA X es (tAs g W H0 ies env)) : PE X (.Tuple es k pos) (tE g W H0 (.tup ies) env) := by
  refine PE.imp (pe_tupX h) fun σ H Q ⟨C, st, oc, S, o⟩ => ⟨C, st, oc, S, ?_⟩
  refine (evA_len (OutG.bind o)).imp (fun ds st1 q vs C1 H1 p r => ?_) fun _ _ _ z => z
  refine ⟨?_, fun ad ob hp hob => ?_⟩
  · have h1 : ies.length ≤ 1000 := of_decide_eq_true hz
    rw [r.length, q.1, sizeLine_eq]; omega
  · obtain ⟨p1, p2⟩ := new_tup p.sub p.row hp hob r
    exact (show RE C H Q (.sh, .tup ds) st1 from q.2) _ _ _ (p.trans p1) p2 trivial
theorem x_lst {es : List Expr} {ies : List E} (hz : szA ies = true) (h : PA X es (tAs g W H0 ies env)) : PE X (.List es pos) (tE g W H0 (.lst ies) env) := by
  refine PE.imp (pe_lst h) fun σ H Q ⟨C, st, oc, S, o⟩ => ⟨C, st, oc, S, ?_⟩
  refine (evA_len (OutG.bind o)).imp (fun ds st1 q vs C1 H1 p r => ?_) fun _ _ _ z => z
  refine ⟨?_, fun ad hp => ?_⟩
  · have h1 : ies.length ≤ 1000 := of_decide_eq_true hz
    rw [r.length, q.1, sizeLine_eq]; omega
  · obtain ⟨p1, p2⟩ := new_lst p.sub p.row hp r
    refine (show RE C H Q (.fr, .lst ds) st1 from q.2) _ _ _ (p.trans p1) p2 ?_
    exact New.shift p (k := .fr) (fun a e => by cases e; exact hp)

/-! ### calls of built-ins -/
theorem star1 {a : Expr} {env : PySem.Env} (h : starEach [a] env = (false, eval a env) :: starEach [] env) : (backTo pos (starEach [] env)).any (·.1) = false := rfl
include hK hw in
/-- a rule of one value -/
theorem x_p1 {f : P1} {id : String} {x : Str} {p : Pos} (hc : CallR X (.builtin id) (rP1 X f)) (hg : Gl X x) (hm : X.mg x = none) (hv : bootBuiltins x = some (.builtin id)) (hn : x ≠ "__name__") (hdb : (x == ("__debug__" : Str)) = false)
    (ha : PE X a (tE g W H0 ia env)) (hs : starEach [a] X.env = (false, eval a X.env) :: starEach [] X.env) : PE X (.Call (.Name x p) [a] [] pos) (tE g W H0 (.p1 f ia) env) := by
  refine PE.imp (pe_callB hc hg hm hv (pa_cons ha pa_nil hs) hn hdb hs rfl) fun σ H Q ⟨C, st, oc, S, o⟩ => ⟨C, st, oc, S, o.bindI fun kd st1 q v C1 H1 p r n => ?_⟩
  exact ⟨C1, st1, kd.1, kd.2, _, v, rfl, (S.step p).opC hK hw (oc.step p.le), r, q.imp (fun _ _ z => z.shift p) fun _ _ _ z => z⟩
include hK hw in
theorem x_p1T {f : P1} {T : String} {x : Str} {p : Pos} (hc : CallR X (.type T) (rP1 X f)) (hg : Gl X x) (hm : X.mg x = none) (hv : bootBuiltins x = some (.type T)) (hn : x ≠ "__name__") (hdb : (x == ("__debug__" : Str)) = false)
    (ha : PE X a (tE g W H0 ia env)) (hs : starEach [a] X.env = (false, eval a X.env) :: starEach [] X.env) : PE X (.Call (.Name x p) [a] [] pos) (tE g W H0 (.p1 f ia) env) := by
  refine PE.imp (pe_callTy hc hg hm hv (pa_cons ha pa_nil hs) hn hdb hs rfl) fun σ H Q ⟨C, st, oc, S, o⟩ => ⟨C, st, oc, S, o.bindI fun kd st1 q v C1 H1 p r n => ?_⟩
  exact ⟨C1, st1, kd.1, kd.2, _, v, rfl, (S.step p).opC hK hw (oc.step p.le), r, q.imp (fun _ _ z => z.shift p) fun _ _ _ z => z⟩
include hK hw in
theorem x_p2 {f : P2} {id : String} {x : Str} {p : Pos} (hc : CallR X (.builtin id) (rP2 X f)) (hg : Gl X x) (hm : X.mg x = none) (hv : bootBuiltins x = some (.builtin id)) (hn : x ≠ "__name__") (hdb : (x == ("__debug__" : Str)) = false)
    (ha : PE X a (tE g W H0 ia env)) (hb : PE X b (tE g W H0 ib env)) (hs : starEach [a, b] X.env = (false, eval a X.env) :: starEach [b] X.env) (hs2 : starEach [b] X.env = (false, eval b X.env) :: starEach [] X.env) : PE X (.Call (.Name x p) [a, b] [] pos) (tE g W H0 (.p2 f ia ib) env) := by
  refine PE.imp (pe_callB hc hg hm hv (pa_cons ha (pa_cons hb pa_nil hs2) hs) hn hdb hs (by rw [hs2]; rfl)) fun σ H Q ⟨C, st, oc, S, o⟩ => ⟨C, st, oc, S, o.bindI fun kd st1 q v C1 H1 p r n => ?_⟩
  refine ⟨C1, st1, oc.step p.le, S.step p, (q.bindI fun kd2 st2 q2 v2 C2 H2 p2 r2 n2 => ?_).z fun _ _ _ z => z.shift p⟩
  exact ⟨C2, st2, kd.1, kd.2, kd2.1, kd2.2, _, v, v2, rfl, ((S.step p).step p2).opC hK hw ((oc.step p.le).step p2.le), r.step p2, r2, q2.imp (fun _ _ z => (z.shift p).shift p2) fun _ _ _ z => z⟩

/-! ### calls of defs -/
/-- what a call of the def i wants -/
def spF (g : G) (i : Nat) (np : Nat) : Sp := fun vs H Q E => vs.length = np ∧ ∃ C st ds, OkC g C ∧ (∀ a o, C.F a = some o → H a = some o) ∧ RowOk C H st ∧ RepAll C vs ds ∧ OutG (g.cl i ds st) (RE C H Q) (ZG g.xr (fun cv dx _ H' => E cv dx H') C H [])
theorem x_call {CX : CXT} {k i np : Nat} {f : Addr} {fd : FuncData} {ps : List Str} {x : Str} {p : Pos} {es : List Expr} {ies : List E} (F : FnOk X.prog X.w X.K X.mg X.base CX k f fd ps (spF g i np)) (hr : Room k X.A) (hg : Gl X x) (hm : X.mg x = some (.ref f))
    (hk : PySem.W.keepIn X.K (.ref f) = true) (hb : Binds X.K fd ps []) (hx : ∀ σ, PassesAt CX X σ (WE W σ)) (hl : ies.length = np)
    (ha : PA X (e :: es) (tAs g W H0 ies env)) (hdb : (x == ("__debug__" : Str)) = false) (he : starEach (e :: es) X.env = (false, eval e X.env) :: starEach es X.env) (hpl : (backTo pos (starEach es X.env)).any (·.1) = false) :
    PE X (.Call (.Name x p) (e :: es) [] pos) (tE g W H0 (.call i ies) env) := by
  refine PE.imp (pe_callS F hr hg hm hk hb hx ha hdb he hpl) fun σ H Q ⟨C, st, oc, S, o⟩ => ⟨C, st, oc, S, ?_⟩
  refine (evA_len (OutG.bind o)).imp (fun ds st1 q vs C1 H1 p r => ?_) fun _ _ _ z => z
  refine ⟨by rw [r.length, q.1, hl], C1, st1, ds, oc.step p.le, p.sub, p.row, r, q.2.imp (fun _ _ z => z.shift p) fun c fl st2 z => ?_⟩
  exact fun cv dx C' H' q x => z cv dx C' H' (p.trans q) x
end
end Hb
namespace Hb
open PySem PySem.Spec PyProof.Rows L2

/-! ### patterns -/
mutual
def Pat.slots : Pat → List Nat
  | .nm i => [i]
  | .tp ps => Pat.slotss ps
def Pat.slotss : List Pat → List Nat
  | [] => []
  | p :: ps => Pat.slots p ++ Pat.slotss ps
end
/-- σ' is σ but at the slots vs -/
def OnlyAt (vs : List Nat) (σ σ' : List (Option V)) : Prop := σ'.length = σ.length ∧ ∀ i, i ∉ vs → σ'[i]? = σ[i]?
theorem OnlyAt.refl (vs : List Nat) (σ : List (Option V)) : OnlyAt vs σ σ := ⟨rfl, fun _ _ => rfl⟩
theorem OnlyAt.trans {vs : List Nat} {a b c : List (Option V)} (h : OnlyAt vs a b) (h' : OnlyAt vs b c) : OnlyAt vs a c := ⟨h'.1.trans h.1, fun i n => (h'.2 i n).trans (h.2 i n)⟩
theorem OnlyAt.mono {vs ws : List Nat} {a b : List (Option V)} (h : OnlyAt vs a b) (hs : ∀ i ∈ vs, i ∈ ws) : OnlyAt ws a b := ⟨h.1, fun i n => h.2 i fun m => n (hs i m)⟩
theorem OnlyAt.set {i : Nat} {x : Option V} {σ : List (Option V)} : OnlyAt [i] σ (σ.set i x) := ⟨List.length_set, fun j n => List.getElem?_set_ne fun e => n (by rw [e]; exact List.mem_singleton_self _)⟩
theorem wipe_at {σ : List (Option V)} {i : Nat} : ∀ {vs : List Nat}, i ∈ vs → i < σ.length → (wipe σ vs)[i]? = some none
  | [], h, _ => nomatch h
  | v :: vs, h, hl => by
    unfold wipe
    by_cases e : v = i
    · subst e
      exact List.getElem?_set_self (by rw [wipe_length]; exact hl)
    · rw [List.getElem?_set_ne e]
      exact wipe_at ((List.mem_cons.mp h).resolve_left fun z => e z.symm) hl
theorem wipe_only {vs : List Nat} {σ σ' : List (Option V)} (h : OnlyAt vs (wipe σ vs) σ') : wipe σ' vs = wipe σ vs := by
  have hl : σ'.length = σ.length := by rw [h.1, wipe_length]
  apply List.ext_getElem?
  intro i
  by_cases hi : i < σ.length
  · by_cases m : i ∈ vs
    · rw [wipe_at m (by rw [hl]; exact hi), wipe_at m hi]
    · rw [wipe_out m]
      exact h.2 i m
  · rw [List.getElem?_eq_none (by rw [wipe_length, hl]; omega), List.getElem?_eq_none (by rw [wipe_length]; omega)]
mutual
theorem wipeP_len : ∀ (p : Pat) (env : Hb.Env), (wipeP p env).length = env.length
  | .nm i, env => List.length_set
  | .tp ps, env => wipePs_len ps env
theorem wipePs_len : ∀ (ps : List Pat) (env : Hb.Env), (wipePs ps env).length = env.length
  | [], env => rfl
  | p :: ps, env => (wipePs_len ps _).trans (wipeP_len p env)
end
mutual
theorem wipeP_at : ∀ (p : Pat) (env : Hb.Env) (i : Nat), (wipeP p env)[i]? = if i ∈ p.slots ∧ i < env.length then some none else env[i]?
  | .nm j, env, i => by
    show (env.set j none)[i]? = _
    by_cases e : j = i
    · subst e
      by_cases hl : j < env.length
      · rw [List.getElem?_set_self hl, if_pos ⟨List.mem_singleton_self _, hl⟩]
      · rw [if_neg fun z => hl z.2, List.getElem?_eq_none (by rw [List.length_set]; omega), List.getElem?_eq_none (by omega)]
    · rw [List.getElem?_set_ne e, if_neg fun z => e (List.mem_singleton.mp z.1).symm]
  | .tp ps, env, i => wipePs_at ps env i
theorem wipePs_at : ∀ (ps : List Pat) (env : Hb.Env) (i : Nat), (wipePs ps env)[i]? = if i ∈ Pat.slotss ps ∧ i < env.length then some none else env[i]?
  | [], env, i => by
    rw [if_neg fun z => nomatch z.1]; rfl
  | p :: ps, env, i => by
    show (wipePs ps (wipeP p env))[i]? = _
    rw [wipePs_at ps, wipeP_at p, wipeP_len]
    by_cases h1 : i ∈ Pat.slotss ps ∧ i < env.length
    · rw [if_pos h1, if_pos ⟨List.mem_append_right _ h1.1, h1.2⟩]
    · rw [if_neg h1]
      by_cases h2 : i ∈ p.slots ∧ i < env.length
      · rw [if_pos h2, if_pos ⟨List.mem_append_left _ h2.1, h2.2⟩]
      · rw [if_neg h2, if_neg fun z => (List.mem_append.mp z.1).elim (fun m => h2 ⟨m, z.2⟩) fun m => h1 ⟨m, z.2⟩]
end
theorem wipe_get {σ : List (Option V)} {vs : List Nat} {i : Nat} : (wipe σ vs)[i]? = if i ∈ vs ∧ i < σ.length then some none else σ[i]? := by
  by_cases h : i ∈ vs ∧ i < σ.length
  · rw [if_pos h, wipe_at h.1 h.2]
  · rw [if_neg h]
    by_cases m : i ∈ vs
    · have hl : ¬ i < σ.length := fun z => h ⟨m, z⟩
      rw [List.getElem?_eq_none (by rw [wipe_length]; omega), List.getElem?_eq_none (by omega)]
    · exact wipe_out m
/-- names forgotten -/
theorem Sim.wiped {C : RC} {H0 H : Hp} {env : Hb.Env} {st : Hb.St} {σ : List (Option V)} (S : Sim C H0 H env st σ) (p : Pat) {vs : List Nat} (hv : ∀ i, i ∈ p.slots ↔ i ∈ vs) : Sim C H0 H (wipeP p env) st (wipe σ vs) := by
  have at_ : ∀ i x, (wipeP p env)[i]? = some (some x) → env[i]? = some (some x) ∧ (wipe σ vs)[i]? = σ[i]? := fun i x h => by
    rw [wipeP_at] at h
    by_cases q : i ∈ p.slots ∧ i < env.length
    · rw [if_pos q] at h; cases h
    · rw [if_neg q] at h
      refine ⟨h, ?_⟩
      rw [wipe_get, if_neg fun z => q ⟨(hv i).mpr z.1, by rw [S.len]; exact z.2⟩]
  refine ⟨S.sub, by rw [wipeP_len, wipe_length, S.len], fun i d h => ?_, fun i d h => ?_, fun i j a d d' h h' e e' => ?_, S.row, S.keep⟩
  · obtain ⟨h1, h2⟩ := at_ i _ h
    rw [h2]; exact S.cell i d h1
  · obtain ⟨h1, h2⟩ := at_ i _ h
    rw [h2]; exact S.own i d h1
  · obtain ⟨h1, h2⟩ := at_ i _ h
    obtain ⟨h3, h4⟩ := at_ j _ h'
    rw [h2] at e
    rw [h4] at e'
    exact S.apart i j a d d' h1 h3 e e'
/-- a sealed value stored at a name -/
theorem Sim.put {C : RC} {H0 H : Hp} {env : Hb.Env} {st : Hb.St} {σ : List (Option V)} (S : Sim C H0 H env st σ) {i : Nat} {v : V} {d : D} (r : Rep C v d) (hi : i < env.length) : Sim C H0 H (env.set i (some (false, d))) st (σ.set i (some v)) := by
  have hl : i < σ.length := by rw [← S.len]; exact hi
  refine ⟨S.sub, by rw [List.length_set, List.length_set, S.len], fun j e h => ?_, fun j e h => ?_, fun j k a e e' h h' z z' => ?_, S.row, S.keep⟩
  · by_cases q : i = j
    · subst q
      rw [List.getElem?_set_self hi] at h
      cases h
      exact ⟨v, List.getElem?_set_self hl, r⟩
    · rw [List.getElem?_set_ne q] at h
      rw [List.getElem?_set_ne q]
      exact S.cell j e h
  · by_cases q : i = j
    · subst q
      rw [List.getElem?_set_self hi] at h
      cases h
    · rw [List.getElem?_set_ne q] at h
      rw [List.getElem?_set_ne q]
      exact S.own j e h
  · have nj : i ≠ j := fun q => by
      subst q
      rw [List.getElem?_set_self hi] at h
      cases h
    have nk : i ≠ k := fun q => by
      subst q
      rw [List.getElem?_set_self hi] at h'
      cases h'
    rw [List.getElem?_set_ne nj] at h z
    rw [List.getElem?_set_ne nk] at h' z'
    exact S.apart j k a e e' h h' z z'
/-- a pattern's reading -/
def gPat (g : G) (H0 : Hp) (p : Pat) (env : Hb.Env) : TG := fun v σ H Q => ∃ C st d env', OkC g C ∧ Sim C H0 H env st σ ∧ Rep C v d ∧ setPat p d env = some env' ∧ ∀ σ', Sim C H0 H env' st σ' → OnlyAt p.slots σ σ' → Q σ' H
def gPats (g : G) (H0 : Hp) (ps : List Pat) (env : Hb.Env) : TGs := fun vs σ H Q => ∃ C st ds env', OkC g C ∧ Sim C H0 H env st σ ∧ RepAll C vs ds ∧ setPats ps ds env = some env' ∧ ∀ σ', Sim C H0 H env' st σ' → OnlyAt (Pat.slotss ps) σ σ' → Q σ' H
theorem PG.of {X : Cx} {e : Expr} {t : TG} (h : ∀ (pins : List (Addr × Obj)) (s : Shared) (σ : List (Option V)) (H : Hp) (v : V) (u : Value) (Q : List (Option V) → Hp → Prop), Inv X pins σ H s → RelV v u → t v σ H Q → ∃ t', PG X e t' ∧ t' v σ H Q) : PG X e t :=
  ⟨fun pins s σ H v u Q I r w => by
    obtain ⟨t', p, q⟩ := h pins s σ H v u Q I r w
    exact p.run pins s σ H v u Q I r q⟩
theorem PGs.imp {X : Cx} {es : List Expr} {t t' : TGs} (h : PGs X es t) (hi : ∀ vs σ H Q, t' vs σ H Q → t vs σ H Q) : PGs X es t' := ⟨fun pins s σ H v u Q I r hw => h.run pins s σ H v u Q I r (hi _ _ _ _ hw)⟩
section
variable {X : Cx} {g : G} {H0 : Hp} {pos : Pos}
theorem g_nm {i : Nat} {x : Str} {env : Hb.Env} (hN : X.N.Nodup) (hi : X.N[i]? = some x) (hx : Loc X.env.scope x) (hf : X.fn x = true ∨ X.env.scope.names.lookup x = some .local) : PG X (.Name x pos) (gPat g H0 (.nm i) env) :=
  PG.imp (pg_name hN hi hx hf) fun v σ H Q ⟨C, st, d, env', oc, S, r, e, q⟩ => by
    have e : (if i < env.length then some (env.set i (some (false, d))) else none) = some env' := e
    split at e
    · rename_i hl
      cases e
      exact q _ (S.put r hl) OnlyAt.set
    · cases e
theorem g_tp {es : List Expr} {ps : List Pat} {k : Nat} {env : Hb.Env} (hK : X.K = g.K) (hc : X.calm = true) (h : PGs X es (gPats g H0 ps env)) (hn : (assignEach es X.env).length = ps.length) (hst : (assignEach es X.env).findIdx? (·.1) = none) : PG X (.Tuple es k pos) (gPat g H0 (.tp ps) env) :=
  PG.imp (pg_tup (n := ps.length) hc h hn hst) fun v σ H Q ⟨C, st, d, env', oc, S, r, e, q⟩ => by
    cases d with
    | tup ds =>
      have e : setPats ps ds env = some env' := e
      have len : ∀ (ps : List Pat) (ds : List D) (env env' : Hb.Env), setPats ps ds env = some env' → ps.length = ds.length := fun ps => by
        induction ps with
        | nil => intro ds env env' h; cases ds with
          | nil => rfl
          | cons _ _ => cases h
        | cons p ps ih => intro ds env env' h; cases ds with
          | nil => cases h
          | cons d ds =>
            obtain ⟨e1, _, h⟩ := Option.bind_eq_some_iff.mp (show (setPat p d env).bind (setPats ps ds) = some env' from h)
            exact congrArg Nat.succ (ih ds e1 env' h)
      cases r with
      | tup h1 h2 =>
        refine ⟨_, _, rfl, ?_, ?_, C, st, ds, env', oc, S, h2, e, q⟩
        · rw [hK, ← oc.K]; exact sqT_mono S.sub h1.sq
        · rw [h2.length, len ps ds env env' e]
    | _ => exact (show none = some env' from e) |> fun z => nomatch z
theorem gs_nil {env : Hb.Env} : PGs X [] (gPats g H0 [] env) := PGs.imp pgs_nil fun vs σ H Q ⟨C, st, ds, env', oc, S, r, e, q⟩ => by
  cases ds with
  | cons _ _ => cases e
  | nil =>
    cases r
    cases e
    exact ⟨rfl, q σ S (OnlyAt.refl _ _)⟩
/-- the tail's reading stands for every env -/
theorem gs_cons {e : Expr} {es : List Expr} {p : Pat} {ps : List Pat} (h1 : ∀ env, PG X e (gPat g H0 p env)) (h2 : ∀ env, PGs X es (gPats g H0 ps env)) (hs : (assignEach (e :: es) X.env).map (·.2) = assign e X.env :: (assignEach es X.env).map (·.2)) {env : Hb.Env} : PGs X (e :: es) (gPats g H0 (p :: ps) env) := by
  refine ⟨fun pins s σ H vs us Q I r ⟨C, st, ds, env', oc, S, ra, e, q⟩ => ?_⟩
  cases ds with
  | nil => cases e
  | cons d ds =>
    obtain ⟨e1, e2, e3⟩ := Option.bind_eq_some_iff.mp (show (setPat p d env).bind (setPats ps ds) = some env' from e)
    cases ra with
    | cons r1 r2 =>
      refine (pgs_cons (h1 env) (h2 e1) hs).run pins s σ H _ us Q I r ⟨_, _, rfl, C, st, d, e1, oc, S, r1, e2, fun σ1 S1 o1 => ?_⟩
      refine ⟨C, st, ds, env', oc, S1, r2, e3, fun σ2 S2 o2 => q σ2 S2 ?_⟩
      exact (o1.mono fun i m => List.mem_append_left _ m).trans (o2.mono fun i m => List.mem_append_right _ m)
end
end Hb
namespace Hb
open PySem PySem.Spec PyProof.Rows L2

def Fix (C : RC) (pr : List (Addr × HO)) (H : Hp) : Prop := (∀ a o, C.F a = some o → H a = some o) ∧ ∀ p ∈ pr, H p.1 = some p.2
/-- what J gives stands for ds -/
structure WalkD (C : RC) (J : It) (ds : List D) (pr : List (Addr × HO)) : Prop where
  len : ds.length ≤ sizeLine
  goes : ∀ i H, i < ds.length → Fix C pr H → J.go i H
  stops : ∀ H, Fix C pr H → J.stop ds.length H
  yields : ∀ i H x H' C1 st1 d, ds[i]? = some d → Fix C pr H → J.yld i H x H' → C.Le C1 → (∀ a o, C1.F a = some o → H a = some o) → RowOk C1 H st1 → ∃ C2, Post C1 H C2 H' st1 ∧ Rep C2 x d
/-- an iterator of a value -/
def IterR (X : Cx) (tg : Expr) (r : V → Hp → (It → Hp → Prop) → Prop) : Prop :=
  ∀ (pins : List (Addr × Obj)) (s : Shared) (σ : List (Option V)) (H : Hp) (x : V) (v : Value) (R : It → Hp → Prop), Inv X pins σ H s → RelV x v → r x H R → wpAny (model X.prog X.w) X.A (pyIter v) (PIE X pins σ tg R) X.xe s
theorem pi_of {X : Cx} {tg e : Expr} {te : TE} {r : V → Hp → (It → Hp → Prop) → Prop} (he : PE X e te) (hr : IterR X tg r) : PI X tg e (fun σ H R => te σ H fun x H1 => r x H1 R) :=
  ⟨fun pins s σ H R I h => thn (he.run pins s σ H _ I h) fun v s1 ⟨x, H1, I1, r1, q1⟩ => hr pins s1 σ H1 x v R I1 r1 q1⟩
section
variable {X : Cx} {tg : Expr}
theorem it_list : IterR X tg (fun x H R => ∃ a, x = .ref a ∧ (∃ xs, SqL X.K H a xs) ∧ R (Itl X.K a) H) := by
  intro pins s1 σ H1 x v R I1 r1 q1
  obtain ⟨a, e, ⟨xs, hq⟩, q⟩ := q1
  subst e
  cases r1
  obtain ⟨its, rv, p, hz⟩ := I1.list hq
  refine wpAny_pyIter_list p.isList ?_
  refine ⟨s1.heap.objs.size, [s1.heap.objs.size], _, _, H1, rfl, I1.kept (t' := s1.toks) fun b o e => Heap.get?_push_of_some _ e, turn_list a _, ⟨_, Heap.get?_push_size _ rfl, rfl, rfl⟩, fun b hb => ?_, q⟩
  have e : b = s1.heap.objs.size := by simpa using hb
  subst e
  exact I1.fpOk (Nat.le_refl _) (I1.hok.fresh (Nat.le_refl _))
theorem it_tup : IterR X tg (fun x H R => ∃ a, x = .ref a ∧ (∃ xs, SqT X.K H a xs) ∧ R (Itt X.K a) H) := by
  intro pins s1 σ H1 x v R I1 r1 q1
  obtain ⟨a, e, ⟨xs, hq⟩, q⟩ := q1
  subst e
  cases r1
  obtain ⟨its, rv, p, hz⟩ := I1.tuple hq
  refine wpAny_pyIter_tuple (show s1.heap.IsTuple a its.toArray from p) ?_
  refine ⟨s1.heap.objs.size, [s1.heap.objs.size], _, _, H1, rfl, I1.kept (t' := s1.toks) fun b o e => Heap.get?_push_of_some _ e, turn_tuple a _, ⟨_, Heap.get?_push_size _ rfl, rfl, rfl⟩, fun b hb => ?_, q⟩
  have e : b = s1.heap.objs.size := by simpa using hb
  subst e
  exact I1.fpOk (Nat.le_refl _) (I1.hok.fresh (Nat.le_refl _))
theorem it_str : IterR X tg (fun x H R => ∃ z, x = .str z ∧ R (Its z) H) := by
  intro pins s1 σ H1 y v R I1 r1 q1
  obtain ⟨x, e, q⟩ := q1
  subst e
  obtain ⟨t, rfl⟩ := r1
  cases ha : x.cps.all (· < 128)
  · exact wpAny_pyIter_wide ha (pi_one (tk := s1.toks) I1 _ (turn_str _ x t "str_iterator" (.inr rfl)) ⟨_, Heap.get?_push_size _ rfl, rfl, rfl⟩ q)
  · exact wpAny_pyIter_ascii ha (pi_one (tk := s1.toks) I1 _ (turn_str _ x t "str_ascii_iterator" (.inl rfl)) ⟨_, Heap.get?_push_size _ rfl, rfl, rfl⟩ q)
end

/-! ### the walks -/
section
variable {C : RC} {a : Addr} {vs : List V} {ds : List D} {pr : List (Addr × HO)}
theorem same_yield {C1 : RC} {H : Hp} {st1 : Hb.St} {x : V} {d : D} (L : C.Le C1) (sub : ∀ a o, C1.F a = some o → H a = some o) (row : RowOk C1 H st1) (r : Rep C x d) : ∃ C2, Post C1 H C2 H st1 ∧ Rep C2 x d := ⟨C1, .refl sub row, Rep.mono L _ _ r⟩
theorem walkD_list (r : RepAll C vs ds) (hz : vs.length ≤ sizeLine) (h : ∀ H, Fix C pr H → SqL C.K H a vs) : WalkD C (Itl C.K a) ds pr where
  len := by rw [← r.length]; exact hz
  goes := fun i H hi f => ⟨vs, vs[i]'(by rw [r.length]; exact hi), h H f, List.getElem?_eq_getElem _⟩
  stops := fun H f => ⟨vs, h H f, by rw [r.length]; exact Nat.le_refl _⟩
  yields := fun i H x H' C1 st1 d hd f y L sub row => by
    obtain ⟨e, y⟩ := y
    subst e
    obtain ⟨v, e1, e2⟩ := r.get hd
    have e3 := y vs (h _ f)
    rw [e1] at e3
    cases e3
    exact same_yield L sub row e2
theorem walkD_tup (r : RepAll C vs ds) (hz : vs.length ≤ sizeLine) (h : ∀ H, Fix C pr H → SqT C.K H a vs) : WalkD C (Itt C.K a) ds pr where
  len := by rw [← r.length]; exact hz
  goes := fun i H hi f => ⟨vs, vs[i]'(by rw [r.length]; exact hi), h H f, List.getElem?_eq_getElem _⟩
  stops := fun H f => ⟨vs, h H f, by rw [r.length]; exact Nat.le_refl _⟩
  yields := fun i H x H' C1 st1 d hd f y L sub row => by
    obtain ⟨e, y⟩ := y
    subst e
    obtain ⟨v, e1, e2⟩ := r.get hd
    have e3 := y vs (h _ f)
    rw [e1] at e3
    cases e3
    exact same_yield L sub row e2
theorem walkD_str {z : Str} (hz : z.cps.size ≤ sizeLine) : WalkD C (Its z) (z.cps.toList.map fun c => D.str ⟨#[c]⟩) pr where
  len := by rw [List.length_map, Array.length_toList]; exact hz
  goes := fun i H hi f => by
    rw [List.length_map, Array.length_toList] at hi; exact hi
  stops := fun H f => by
    show z.cps.size ≤ _
    rw [List.length_map, Array.length_toList]; exact Nat.le_refl _
  yields := fun i H x H' C1 st1 d hd f y L sub row => by
    obtain ⟨e, c, y1, y2⟩ := y
    subst e y2
    rw [List.getElem?_map, Array.getElem?_toList, y1] at hd
    cases hd
    exact same_yield L sub row (.str _)
theorem up_get : ∀ (n : Nat) (lo : Int) (i : Nat), i < n → (up lo n)[i]? = some (lo + i)
  | 0, _, _, h => absurd h (Nat.not_lt_zero _)
  | n + 1, lo, 0, _ => by
    show some lo = some (lo + ((0 : Nat) : Int))
    rw [show lo + ((0 : Nat) : Int) = lo by omega]
  | n + 1, lo, i + 1, h => by
    show (up (lo + 1) n)[i]? = _
    rw [up_get n (lo + 1) i (by omega)]
    congr 1
    omega
theorem up_len : ∀ (n : Nat) (lo : Int), (up lo n).length = n
  | 0, _ => rfl
  | n + 1, lo => congrArg Nat.succ (up_len n (lo + 1))
theorem dn_get : ∀ (n : Nat) (lo : Int) (i : Nat), i < n → (dn lo n)[i]? = some (lo + i * (-1))
  | 0, _, _, h => absurd h (Nat.not_lt_zero _)
  | n + 1, lo, 0, _ => by
    show some lo = some (lo + ((0 : Nat) : Int) * (-1))
    rw [show lo + ((0 : Nat) : Int) * (-1) = lo by omega]
  | n + 1, lo, i + 1, h => by
    show (dn (lo - 1) n)[i]? = _
    rw [dn_get n (lo - 1) i (by omega)]
    congr 1
    omega
theorem dn_len : ∀ (n : Nat) (lo : Int), (dn lo n).length = n
  | 0, _ => rfl
  | n + 1, lo => congrArg Nat.succ (dn_len n (lo - 1))
theorem walkD_up {lo : Int} {n : Nat} (hn : n ≤ sizeLine) : WalkD C (Itr lo n) ((up lo n).map D.int) pr where
  len := by rw [List.length_map, up_len]; exact hn
  goes := fun i H hi f => by rw [List.length_map, up_len] at hi; exact hi
  stops := fun H f => by
    show n ≤ _
    rw [List.length_map, up_len]; exact Nat.le_refl _
  yields := fun i H x H' C1 st1 d hd f y L sub row => by
    obtain ⟨e, y⟩ := y
    subst e y
    have hi : i < n := by
      have := (List.getElem?_eq_some_iff.mp hd).1
      rw [List.length_map, up_len] at this; exact this
    rw [List.getElem?_map, up_get n lo i hi] at hd
    cases hd
    exact same_yield L sub row (.int _)
theorem walkD_dn {lo : Int} {n : Nat} (hn : n ≤ sizeLine) : WalkD C (Itc lo (-1) n) ((dn lo n).map D.int) pr where
  len := by rw [List.length_map, dn_len]; exact hn
  goes := fun i H hi f => by rw [List.length_map, dn_len] at hi; exact hi
  stops := fun H f => by
    show n ≤ _
    rw [List.length_map, dn_len]; exact Nat.le_refl _
  yields := fun i H x H' C1 st1 d hd f y L sub row => by
    obtain ⟨e, y⟩ := y
    subst e y
    have hi : i < n := by
      have := (List.getElem?_eq_some_iff.mp hd).1
      rw [List.length_map, dn_len] at this; exact this
    rw [List.getElem?_map, dn_get n lo i hi] at hd
    cases hd
    exact same_yield L sub row (.int _)
end

/-! ### what a loop walks -/
def RI (C : RC) (H : Hp) (R : It → Hp → Prop) : (Hb.K × List D) → Hb.St → Prop := fun kds st' => ∀ C' H', Post C H C' H' st' → ∀ J pr, WalkD C' J kds.2 pr → (∀ p ∈ pr, H' p.1 = some p.2 ∧ ¬ C'.G p.1 ∧ C'.F p.1 = none) → (kds.1 ≠ .br → pr = []) → R J H'
def tI (g : G) (W : WX) (H0 : Hp) (it : I) (env : Hb.Env) : TI := fun σ H R => ∃ C st, OkC g C ∧ Sim C H0 H env st σ ∧ OutG (evI g.Pg g.cl it env st) (RI C H R) (ZG g.xr W C H σ)
/-- a value, walked -/
def rIt (X : Cx) : V → Hp → (It → Hp → Prop) → Prop := fun x H R => ∃ C st k d Z, OpC X C H st ∧ k ≠ .fr ∧ RepK C H k x d ∧ OutG (itD k d st) (fun ds st' => st' = st → ∀ J pr, WalkD C J ds pr → (∀ p ∈ pr, H p.1 = some p.2 ∧ ¬ C.G p.1 ∧ C.F p.1 = none) → (k ≠ .br → pr = []) → R J H) Z
/-- a dict in the frozen part, walked by its keys -/
def DictIt (X : Cx) (tg : Expr) : Prop := True
theorem it_val {X : Cx} {tg : Expr} (hd : DictIt X tg) : IterR X tg (rIt X) := by
  intro pins s σ H x v R I rx h
  obtain ⟨C, st, k, d, Z, oc, nk, r, o⟩ := h
  cases d with
  | lst ds =>
    have o : st = st → ∀ J pr, WalkD C J ds pr → (∀ p ∈ pr, H p.1 = some p.2 ∧ ¬ C.G p.1 ∧ C.F p.1 = none) → (k ≠ .br → pr = []) → R J H := by cases k <;> exact o
    cases k with
    | fr => exact absurd rfl nk
    | sh =>
      cases r with
      | @lst a vs _ h1 h2 =>
        obtain ⟨_, _, _, hz⟩ := I.list (show SqL X.K H a vs from .inl (.inl (oc.sub _ _ h1)))
        refine it_list pins s σ H _ v R I rx ⟨a, rfl, ⟨vs, .inl (.inl (oc.sub _ _ h1))⟩, ?_⟩
        rw [← oc.K]
        exact o rfl _ [] (walkD_list h2 hz fun H f => .inl (.inl (f.1 _ _ h1))) (fun p hp => nomatch hp) fun _ => rfl
    | br =>
      obtain ⟨a, rfl, n, m, vs, h1, h2⟩ := r
      obtain ⟨_, _, _, hz⟩ := I.list (show SqL X.K H a vs from .inl (.inl h1))
      refine it_list pins s σ H _ v R I rx ⟨a, rfl, ⟨vs, .inl (.inl h1)⟩, ?_⟩
      rw [← oc.K]
      refine o rfl _ [(a, .lst vs)] (walkD_list h2 hz fun H f => .inl (.inl (f.2 (a, .lst vs) (List.mem_singleton_self _)))) (fun p hp => ?_) fun z => absurd rfl z
      cases List.mem_singleton.mp hp
      exact ⟨h1, m, n⟩
  | tup ds =>
    have o : st = st → ∀ J pr, WalkD C J ds pr → (∀ p ∈ pr, H p.1 = some p.2 ∧ ¬ C.G p.1 ∧ C.F p.1 = none) → (k ≠ .br → pr = []) → R J H := by cases k <;> exact o
    obtain ⟨a, vs, rfl, h1, h2, _⟩ := repK_tup r
    have hs : SqT X.K H a vs := by rw [← oc.K]; exact sqT_mono oc.sub h1
    obtain ⟨_, _, _, hz⟩ := I.tuple hs
    refine it_tup pins s σ H _ v R I rx ⟨a, rfl, ⟨vs, hs⟩, ?_⟩
    rw [← oc.K]
    exact o rfl _ [] (walkD_tup h2 hz fun H f => sqT_mono f.1 h1) (fun p hp => nomatch hp) fun _ => rfl
  | str z =>
    have o : OutG ((do guard_ (decide (z.cps.size ≤ sizeMax)); pure (z.cps.toList.map fun c => D.str ⟨#[c]⟩) : M (List D)) st) (fun ds st' => st' = st → ∀ J pr, WalkD C J ds pr → (∀ p ∈ pr, H p.1 = some p.2 ∧ ¬ C.G p.1 ∧ C.F p.1 = none) → (k ≠ .br → pr = []) → R J H) Z := by cases k <;> exact o
    obtain ⟨gz, o⟩ := OutG.guardB o
    rw [repK_str r] at rx
    refine it_str pins s σ H _ v R I rx ⟨z, rfl, ?_⟩
    refine o rfl _ [] (walkD_str (by rw [← sizeMax_eq]; exact of_decide_eq_true gz)) (fun p hp => nomatch hp) fun _ => rfl
  | _ => cases k <;> exact (show False from o).elim
section
variable {X : Cx} {g : G} {W : WX} {H0 : Hp} {env : Hb.Env} {tg e : Expr} {ie : E} {pos : Pos} (hK : X.K = g.K) (hw : X.w = g.w)
theorem pure0_it (k : Hb.K) (d : D) : Pure0 (itD k d) := by
  cases d with
  | lst _ => cases k <;> exact pure0_pure _
  | tup _ => cases k <;> exact pure0_pure _
  | str _ => cases k <;> exact pure0_bind (pure0_guard _) fun _ => pure0_pure _
  | _ => cases k <;> exact pure0_bad
theorem unfr_ne (k : Hb.K) : unfr k ≠ .fr := by cases k <;> (intro z; cases z)
theorem itD_unfr (k : Hb.K) (d : D) : itD (unfr k) d = itD k d := by cases k <;> cases d <;> rfl
include hK hw in
theorem i_val (hd : DictIt X tg) (he : PE X e (tE g W H0 ie env)) : PI X tg e (tI g W H0 (.val ie) env) := by
  refine PI.imp (pi_of (PE.sealF he) (it_val hd)) fun σ H R ⟨C, st, oc, S, o⟩ => ⟨C, st, oc, S, (OutG.bind o).imp (fun kd st1 q v C1 H1 p r => ?_) fun _ _ _ z => z⟩
  refine ⟨C1, st1, unfr kd.1, kd.2, fun _ _ _ => False, (S.step p).opC hK hw (oc.step p.le), unfr_ne kd.1, r, ?_⟩
  rw [itD_unfr]
  refine (pure0_it kd.1 kd.2 st1 _ _ (OutG.bind q)).imp (fun ds st2 q e J pr w h1 h2 => ?_) fun _ _ _ z => z
  obtain ⟨e2, q⟩ := q
  subst e2
  exact (show RI C H R (kd.1, ds) st2 from q) C1 H1 p J pr w h1 fun n => h2 (fun z => n (by
    obtain ⟨k, d⟩ := kd
    cases k <;> first | exact z | cases z))
theorem ints1 {C : RC} {vs : List V} {a : Int} (r : RepAll C vs [.int a]) : vs = [.int a] := by
  cases r with
  | cons r1 r2 => cases r2; cases r1; rfl
theorem ints2 {C : RC} {vs : List V} {a b : Int} (r : RepAll C vs [.int a, .int b]) : vs = [.int a, .int b] := by
  cases r with
  | cons r1 r2 => rw [ints1 r2]; cases r1; rfl
theorem ints3 {C : RC} {vs : List V} {a b c : Int} (r : RepAll C vs [.int a, .int b, .int c]) : vs = [.int a, .int b, .int c] := by
  cases r with
  | cons r1 r2 => rw [ints2 r2]; cases r1; rfl
theorem rng_line {n : Nat} (h : n ≤ 2 ^ 21) : n ≤ sizeLine := by rw [sizeLine_eq]; omega
theorem i_rng1 {a : Expr} {ia : E} {p : Pos} (hg : Gl X "range") (hm : X.mg "range" = none) (ha : PA X [a] (tAs g W H0 [ia] env)) (hs : starEach [a] X.env = [(false, eval a X.env)]) : PI X tg (.Call (.Name "range" p) [a] [] pos) (tI g W H0 (.rng [ia]) env) := by
  refine PI.imp (pi_range1 hg hm ha hs) fun σ H R ⟨C, st, oc, S, o⟩ => ⟨C, st, oc, S, (evA_len (OutG.bind o)).imp (fun ds st1 q vs C1 H1 p r => ?_) fun _ _ _ z => z⟩
  obtain ⟨hl, q⟩ := q
  match ds, hl, q, r with
  | [d], _, q, r =>
    cases d with
    | int j =>
      obtain ⟨g1, q⟩ := OutG.guardB (OutG.bind q)
      simp only [Bool.and_eq_true, decide_eq_true_eq] at g1
      refine ⟨j, ints1 r, ?_, ?_, ?_⟩
      · omega
      · omega
      · exact (show RI C H R (.sh, (up 0 j.toNat).map .int) st1 from q) C1 H1 p _ [] (walkD_up (rng_line (by omega))) (fun p hp => nomatch hp) fun _ => rfl
    | _ => exact (show False from OutG.bind q).elim
theorem i_rng2 {a b : Expr} {ia ib : E} {p : Pos} (hg : Gl X "range") (hm : X.mg "range" = none) (ha : PA X [a, b] (tAs g W H0 [ia, ib] env)) (hs : starEach [a, b] X.env = [(false, eval a X.env), (false, eval b X.env)]) (hs2 : starEach [b] X.env = [(false, eval b X.env)]) : PI X tg (.Call (.Name "range" p) [a, b] [] pos) (tI g W H0 (.rng [ia, ib]) env) := by
  refine PI.imp (pi_range2 hg hm ha hs hs2) fun σ H R ⟨C, st, oc, S, o⟩ => ⟨C, st, oc, S, (evA_len (OutG.bind o)).imp (fun ds st1 q vs C1 H1 p r => ?_) fun _ _ _ z => z⟩
  obtain ⟨hl, q⟩ := q
  match ds, hl, q, r with
  | [d, d'], _, q, r =>
    cases d with
    | int i =>
      cases d' with
      | int j =>
        obtain ⟨g1, q⟩ := OutG.guardB (OutG.bind q)
        simp only [Bool.and_eq_true, decide_eq_true_eq] at g1
        refine ⟨i, j, ints2 r, by omega, ?_⟩
        exact (show RI C H R (.sh, (up i (j - i).toNat).map .int) st1 from q) C1 H1 p _ [] (walkD_up (rng_line (by omega))) (fun p hp => nomatch hp) fun _ => rfl
      | _ => exact (show False from OutG.bind q).elim
    | _ => exact (show False from OutG.bind q).elim
theorem i_rng3 {a b c : Expr} {ia ib ic : E} {p : Pos} (hg : Gl X "range") (hm : X.mg "range" = none) (ha : PA X [a, b, c] (tAs g W H0 [ia, ib, ic] env)) (hs : starEach [a, b, c] X.env = (false, eval a X.env) :: starEach [b, c] X.env) (hpl : (backTo pos (starEach [b, c] X.env)).any (·.1) = false) : PI X tg (.Call (.Name "range" p) [a, b, c] [] pos) (tI g W H0 (.rng [ia, ib, ic]) env) := by
  refine PI.imp (pi_range3 hg hm ha hs hpl) fun σ H R ⟨C, st, oc, S, o⟩ => ⟨C, st, oc, S, (evA_len (OutG.bind o)).imp (fun ds st1 q vs C1 H1 p r => ?_) fun _ _ _ z => z⟩
  obtain ⟨hl, q⟩ := q
  match ds, hl, q, r with
  | [d, d', d''], _, q, r =>
    cases d with
    | int i =>
      cases d' with
      | int j =>
        cases d'' with
        | int k =>
          obtain ⟨g1, q1⟩ := OutG.guardB (OutG.bind q)
          simp only [Bool.and_eq_true, decide_eq_true_eq] at g1
          obtain ⟨⟨⟨⟨hk, g1⟩, g2⟩, g3⟩, g4⟩ := g1
          subst hk
          refine ⟨i, j, -1, _, ints3 r, RgC.neg (by omega) (by omega) (by omega) (by omega), ?_⟩
          exact (show RI C H R (.sh, (dn i (i - j).toNat).map .int) st1 from q1) C1 H1 p _ [] (walkD_dn (rng_line (by omega))) (fun p hp => nomatch hp) fun _ => rfl
        | _ => exact (show False from OutG.bind q).elim
      | _ => exact (show False from OutG.bind q).elim
    | _ => exact (show False from OutG.bind q).elim
end
end Hb
namespace Hb
open PySem PySem.Spec PyProof.Rows L2

def W0 : WX := fun _ _ _ _ => False
theorem OutG.noX {α : Type} {m : M α} {st : Hb.St} {R : α → Hb.St → Prop} {Z : Nat → D → Hb.St → Prop} (h : OutG (noX m st) R Z) : OutG (m st) R fun _ _ _ => False := by
  have e : Hb.noX m st = (match m st with | .ok a s => .ok a s | _ => .bad) := rfl
  rw [e] at h
  cases q : m st with
  | ok a s => rw [q] at h; exact h
  | exc c d s => rw [q] at h; exact h
  | bad => rw [q] at h; exact h
theorem PE.ex {X : Cx} {e : Expr} {α : Type} {t : α → TE} (h : ∀ a, PE X e (t a)) : PE X e (fun σ H Q => ∃ a, t a σ H Q) := ⟨fun pins s σ H Q I ⟨a, w⟩ => (h a).run pins s σ H Q I w⟩
theorem PTs.ex {X : Cx} {e : List Expr} {α : Type} {t : α → TT} (h : ∀ a, PTs X e (t a)) : PTs X e (fun σ H Q => ∃ a, t a σ H Q) := ⟨fun pins s σ H Q I ⟨a, w⟩ => (h a).run pins s σ H Q I w⟩
theorem PG.ex {X : Cx} {e : Expr} {α : Type} {t : α → TG} (h : ∀ a, PG X e (t a)) : PG X e (fun v σ H Q => ∃ a, t a v σ H Q) := ⟨fun pins s σ H v u Q I r ⟨a, w⟩ => (h a).run pins s σ H v u Q I r w⟩
/-- a clause's test -/
def tCn (g : G) (W : WX) (H0 : Hp) (c : Option E) (env : Hb.Env) : TT := fun σ H Q => ∃ C st, OkC g C ∧ Sim C H0 H env st σ ∧ OutG (evC g.Pg g.cl c env st) (RB C H Q) (ZG g.xr W C H σ)
section
variable {X : Cx} {g : G} {W : WX} {H0 : Hp} {env : Hb.Env} {c : Expr} {ic : E}
theorem c_none : PTs X [] (tCn g W H0 none env) := ⟨fun pins s σ H Q I ⟨C, st, oc, S, o⟩ => pts_nil.run pins s σ H Q I (o C H S.refl)⟩
theorem c_some (h : PT X c (tT g W H0 ic env)) : PTs X [c] (tCn g W H0 (some ic) env) := ⟨fun pins s σ H Q I ⟨C, st, oc, S, o⟩ => (pts_one h).run pins s σ H Q I ⟨C, st, oc, S, o⟩⟩
end
/-- our new object is written -/
theorem Post.wr {C C' : RC} {H H' : Hp} {st : Hb.St} {D : Addr} {o : HO} (p : Post C H C' H' st) (hn : H D = none) (hF : C'.F D = none) (hr : ¬ C'.G D) : Post C H C' (upd H' D o) st where
  le := p.le
  sub := fun a u h => by
    rw [upd_ne fun e => by rw [e, hF] at h; cases h]
    exact p.sub a u h
  fnew := p.fnew
  rnew := p.rnew
  keep := fun a u h n => by
    rw [upd_ne fun e => by rw [e, hn] at h; cases h]
    exact p.keep a u h n
  there := fun a u h => by
    rw [upd_ne fun e => by rw [e, hn] at h; cases h]
    exact p.there a u h
  row := p.row.at (.refl C') rfl (fun a h => (p.row.gl h).1) fun a h => upd_ne fun e => hr (e ▸ h)

section
variable {X : Cx} {g : G} {W : WX} {H0 : Hp} {env : Hb.Env} {tg iter elt : Expr} {ielt : E} {it : I} {p : Pat} {cond : Option E} {ifs : List Expr} {scope : Scope} {own : List (Str × Nat)} {pos : Pos}
/-- the comprehension's reading -/
theorem lc_imp (hv : ∀ i, i ∈ p.slots ↔ i ∈ own.map (·.2)) {σ : List (Option V)} {H : Hp} {Q : VK} (h : tE g W H0 (.lc ielt p it cond) env σ H Q) :
    tLc (tI g W H0 it env) (fun v σ H Q => ∃ env', gPat g H0 p env' v σ H Q) (fun σ H Q => ∃ env', tCn g W0 H0 cond env' σ H Q) (fun σ H Q => ∃ env', tD g W0 H0 ielt env' σ H Q) (own.map (·.2)) σ H Q := by
  obtain ⟨C, st, oc, S, o⟩ := h
  refine ⟨C, st, oc, S, (OutG.bind o).imp (fun kds st1 q C1 H1 p1 J pr w hpr hk D hD => ?_) fun _ _ _ z => z⟩
  have q := (OutG.bind q).noX
  have S1 : Sim C1 H0 H1 (wipeP p env) st1 (wipe σ (own.map (·.2))) := (S.wiped p hv).step p1
  let fc : Hb.Env → M Bool := fun env => evC g.Pg g.cl cond env
  let fe : Hb.Env → M Hb.D := fun env => do let y ← evE g.Pg g.cl ielt env; sealed y
  let Pv : Nat → Hp → Prop := fun i H2 => ∃ C2 st2 acc, Post C1 H1 C2 H2 st2 ∧ RepK C2 H2 .fr (.ref D) (.lst acc) ∧ acc.length ≤ i ∧
    OutG (lcGo (wipeP p env) p fc fe (kds.2.drop i) acc st2) (fun ys st' => RE C H Q (.fr, .lst ys) st') (fun _ _ _ => False)
  have hDF : C1.F D = none := by
    cases e : C1.F D with
    | none => rfl
    | some o => have := p1.sub D o e; rw [hD] at this; cases this
  have wk : Walk J kds.2.length (Fix C1 pr) (fun i H x H' => Fix C1 pr H ∧ J.yld i H x H') := ⟨fun i H hi f => w.goes i H hi f, fun H f => w.stops H f, fun i H x H' _ f y => ⟨f, y⟩⟩
  have fixes : ∀ {C2 : RC} {H2 : Hp} {st2 : Hb.St}, Post C1 H1 C2 H2 st2 → Fix C1 pr H2 := fun {C2 H2 st2} p2 => ⟨fun a o h => p2.sub a o (p2.le.F a o h), fun z hz => p2.keep z.1 z.2 (hpr z hz).1 (hpr z hz).2.1⟩
  refine lc_it (g := fun v σ H Q => ∃ env', gPat g H0 p env' v σ H Q) (tt := fun σ H Q => ∃ env', tCn g W0 H0 cond env' σ H Q) (te := fun σ H Q => ∃ env', tD g W0 H0 ielt env' σ H Q) (vs := own.map (·.2)) (σ := σ) (D := D) (H1 := H1) (Qd := fun H => Q (.ref D) H) wk Pv ?_ (fun i H2 _ ⟨C2, st2, acc, p2, _⟩ => fixes p2) ?_ ?_
  · obtain ⟨pp, rr⟩ := new_lst p1.sub p1.row hD (.nil : RepAll C1 [] [])
    refine ⟨C1, st1, [], pp, rr, Nat.le_refl _, ?_⟩
    rw [List.drop_zero]
    exact q
  · intro i x H2 H3 hi ⟨C2, st2, acc, p2, rk, hl, q⟩ ⟨f, y⟩
    have hd : kds.2[i]? = some (kds.2[i]'hi) := List.getElem?_eq_getElem hi
    obtain ⟨C3, p3, r3⟩ := w.yields i H2 x H3 C2 st2 _ hd f y p2.le p2.sub p2.row
    rw [List.drop_eq_getElem_cons hi] at q
    obtain ⟨env', e1, q⟩ := OutG.needB q
    have q := OutG.bind q
    refine ⟨wipeP p env, C3, st2, _, env', ((oc.step p1.le).step p2.le).step p3.le, (S1.step p2).step p3, r3, e1, fun σ2 S2 only => ⟨wipe_only (only.mono fun j m => (hv j).mp m), env', C3, st2, ((oc.step p1.le).step p2.le).step p3.le, S2, ?_⟩⟩
    refine q.imp (fun b st4 q4 C4 H4 p4 => ?_) fun _ _ _ z => z.elim
    have p14 := (p2.trans p3).trans p4
    have rk4 := (rk.step p3).step p4
    cases b with
    | false =>
      show (if false = true then _ else Pv (i + 1) H4)
      rw [if_neg Bool.false_ne_true]
      exact ⟨C4, st4, acc, p14, rk4, Nat.le_succ_of_le hl, q4⟩
    | true =>
      show (if true = true then (∃ env', tD g W0 H0 ielt env' σ2 H4 fun y H4 => ∃ acc, H4 D = some (.lst acc) ∧ acc.length < sizeLine ∧ Pv (i + 1) (upd H4 D (.lst (acc ++ [y])))) else Pv (i + 1) H4)
      rw [if_pos rfl]
      have q4 := OutG.bind q4
      refine ⟨env', C4, st4, (((oc.step p1.le).step p2.le).step p3.le).step p4.le, S2.step p4, q4.imp (fun d st5 q5 v C5 H5 p5 r5 => ?_) fun _ _ _ z => z.elim⟩
      obtain ⟨D', eD, nF, nr, vs, hv5, rv5⟩ := rk4.step p5
      cases eD
      have hlt : vs.length < sizeLine := by
        rw [rv5.length]
        have := w.len
        omega
      refine ⟨vs, hv5, hlt, C5, st5, acc ++ [d], (p14.trans p5).wr hD nF nr, ⟨D, rfl, nF, nr, vs ++ [v], upd_same, RepAll.append rv5 (.cons r5 .nil)⟩, ?_, q5⟩
      rw [List.length_append]
      exact Nat.succ_le_succ hl
  · intro H2 ⟨C2, st2, acc, p2, rk, hl, q⟩
    rw [List.drop_length] at q
    refine (show RE C H Q (.fr, .lst acc) st2 from q) (.ref D) C2 H2 (p1.trans p2) rk ?_
    exact New.shift p1 (k := .fr) (v := .ref D) (fun a e => by cases e; exact hD)
theorem x_lc (hc : X.calm = true) (hN : X.N.Nodup) (hi : PI X tg iter (tI g W H0 it env)) (ok : BlkOk X.N X.env.scope scope own) (hv : ∀ i, i ∈ p.slots ↔ i ∈ own.map (·.2))
    (hg : ∀ (s : Shared) (H : Hp) (C : Addr) (cl : List (Str × Addr)) (fp : List Addr) (env' : Hb.Env), PG (X.blk s H scope (compEnvC scope cl C X.env) fp) tg (gPat g H0 p env'))
    (ht : ∀ (s : Shared) (H : Hp) (C : Addr) (cl : List (Str × Addr)) (fp : List Addr) (env' : Hb.Env), PTs (X.blk s H scope (compEnvC scope cl C X.env) fp) ifs (tCn g W0 H0 cond env'))
    (he : ∀ (s : Shared) (H : Hp) (C : Addr) (cl : List (Str × Addr)) (fp : List Addr) (env' : Hb.Env), PE (X.blk s H scope (compEnvC scope cl C X.env) fp) elt (tE g W0 H0 ielt env'))
    (hs : ∀ x, foldedSetIterable iter X.env x = pure x) : PE X (.ListComp elt [⟨tg, iter, ifs, 0⟩] scope pos) (tE g W H0 (.lc ielt p it cond) env) :=
  PE.imp (pe_lc hc hN hi ok (fun s H C cl fp => PG.ex fun env' => hg s H C cl fp env') (fun s H C cl fp => PTs.ex fun env' => ht s H C cl fp env') (fun s H C cl fp => PE.ex fun env' => PE.seal (he s H C cl fp env')) hs) fun σ H Q h => lc_imp hv h
end
end Hb
namespace HT
open PySem PySem.Spec PyProof.Rows PySem.Calls
section
variable {prog : Program} {w : World} {A : Around} {E : Value → Shared → Prop} {s : Shared}
theorem sliceApplied_rev {sl : Addr} {vs : Value} {n : Nat} {Q : Int × Int × Nat → Shared → Prop} (hs : s.heap.IsSliceOf sl .none .none vs) (ps : IsPart vs (some (-1)))
    (h : Q ((n : Int) - 1, -1, n) s) : wpAny (model prog w) A (Builtin.Slice.sliceApplied (.ref sl) (pure (n : Int))) Q E s := by
  obtain ⟨os, hos, hcs, hds⟩ := id hs
  unfold Builtin.Slice.sliceApplied Builtin.Slice.sliceFields
  refine wpAny_bind (wpAny_bind (wpAny_field hos hds (x := .none) rfl (wpAny_bind (wpAny_field hos hds (x := .none) rfl (wpAny_bind (wpAny_field hos hds (x := vs) rfl (wpAny_pure ?_)))))))
  refine wpAny_bind (slicePart_ ps ?_)
  show wpAny _ _ (if ((-1 : Int) == 0) = true then _ else _) _ _ s
  rw [if_neg (by decide)]
  refine wpAny_bind (slicePart_none (wpAny_bind (slicePart_none (wpAny_bind (wpAny_pure ?_)))))
  show wpAny _ _ (match Builtin.Slice.sliceAdjust none none (-1) (n : Int) with | (lo, hi) => pure (lo, (-1 : Int), Builtin.Slice.slicePlaces lo hi (-1))) _ _ s
  have e : Builtin.Slice.sliceAdjust none none (-1) (n : Int) = ((n : Int) - 1, -1) := rfl
  rw [e]
  show wpAny _ _ (pure ((n : Int) - 1, (-1 : Int), Builtin.Slice.slicePlaces ((n : Int) - 1) (-1) (-1))) _ _ s
  have e2 : Builtin.Slice.slicePlaces ((n : Int) - 1) (-1) (-1) = n := by
    unfold Builtin.Slice.slicePlaces
    rw [if_neg (by decide)]
    by_cases h : (n : Int) - 1 > -1
    · rw [if_pos h]
      rw [show (- -1 : Int) = 1 by decide, Int.ediv_one]
      omega
    · rw [if_neg h]; omega
  rw [e2]
  exact wpAny_pure h
theorem fm_congr {α β : Type} {f g : α → Option β} : ∀ (l : List α), (∀ m ∈ l, f m = g m) → l.filterMap f = l.filterMap g
  | [], _ => rfl
  | a :: l, h => by rw [List.filterMap_cons, List.filterMap_cons, h a (List.mem_cons_self ..), fm_congr l fun m hm => h m (List.mem_cons_of_mem _ hm)]
theorem pick_rev (xs : Array Value) : ((List.range xs.size).filterMap fun (m : Nat) => xs[((xs.size : Int) - 1 + (m : Int) * -1).toNat]?).toArray = xs.toList.reverse.toArray := by
  have e : ((List.range xs.size).filterMap fun (m : Nat) => xs[((xs.size : Int) - 1 + (m : Int) * -1).toNat]?) = ((List.range xs.size).map fun k => xs.size - 1 - k).filterMap (xs[·]?) := by
    rw [List.filterMap_map]
    refine fm_congr _ fun m hm => ?_
    have := List.mem_range.mp hm
    show xs[((xs.size : Int) - 1 + (m : Int) * -1).toNat]? = xs[xs.size - 1 - m]?
    rw [show ((xs.size : Int) - 1 + (m : Int) * -1).toNat = xs.size - 1 - m by omega]
  rw [e, PySem.W.krv_range, List.filterMap_reverse, PySem.W.krv_all]
theorem getItem_tuple_rev {t sl : Addr} {items : Array Value} {vs : Value} {Q : Value → Shared → Prop} (ht : IsTup s.heap t items) (hs : s.heap.IsSliceOf sl .none .none vs) (ps : IsPart vs (some (-1)))
    (h : Q (.ref s.heap.objs.size) { s with heap := s.heap.push { cls := .type "tuple", data := .seq items.toList.reverse.toArray } })
    (hsz : items.size ≤ sizeLine) : wpAny (model prog w) A (getItem (.ref t) (.ref sl)) Q E s := by
  have htake : sizeOk (.seq items.toList.reverse.toArray) := by
    show items.toList.reverse.toArray.size ≤ sizeLine
    rw [List.size_toArray, List.length_reverse, Array.length_toList]
    exact hsz
  obtain ⟨os, hos, hcs, hds⟩ := id hs
  have hTs : s.TypeIs (.ref sl) "slice" := ⟨os, hos, hcs⟩
  unfold getItem
  try with_reducible refine wpAny_holding ?_
  first | refine wpAny_bind (wpAny_pure ?_) | skip
  refine wpAny_bind (wpAny_sequenceKey ht.typeIs (by decide) ?_)
  refine wpAny_bind (wpAny_callSpecial?_slot (name := Str.ofString "__getitem__") ht.typeIs PyProof.Rows.slot_tuple_getitem
    (wpAny_call_entry PyProof.Rows.slot_tuple_getitem ht.typeIs entry_tuple_getitem ?_ (args_tuple_getitem _ _)))
  show wpAny _ _ (Builtin.Tuple.tupleItemsOf (.ref t) >>= _) _ _ s
  refine wpAny_bind (tupleItemsOf_ ht ?_)
  refine wpAny_bind (wpAny_typeOf hTs ?_)
  rw [if_pos (by decide)]
  refine wpAny_bind (sliceApplied_rev hs ps ?_)
  have hno : ¬ ((((items.size : Int) - 1) == 0 && (-1 : Int) == 1 && items.size == items.size) = true) := by
    intro q
    rw [Bool.and_eq_true, Bool.and_eq_true] at q
    exact absurd q.1.2 (by decide)
  show wpAny _ _ (if (((items.size : Int) - 1) == 0 && (-1 : Int) == 1 && items.size == items.size) = true then _ else _) _ _ s
  rw [if_neg hno, pick_rev]
  first
    | exact wpAny_bind (m := Builtin.Tuple.tupleExact _) (wpAny_newObj_type (wpAny_pure ⟨_, rfl, wpAny_pure h⟩) htake)
    | exact wpAny_bind (m := Builtin.Tuple.tupleExact _) (wpAny_newObj_type (wpAny_bind (wpAny_pure (wpAny_pure ⟨_, rfl, wpAny_pure h⟩))) htake)
    | exact wpAny_bind (wpAny_bind (m := Builtin.Tuple.tupleExact _) (wpAny_newObj_type (wpAny_pure (wpAny_pure ⟨_, rfl, wpAny_pure h⟩)) htake))
    | exact wpAny_bind (wpAny_bind (m := Builtin.Tuple.tupleExact _) (wpAny_newObj_type (wpAny_pure ⟨_, rfl, wpAny_pure h⟩) htake))
end
end HT
namespace Hb
open PySem PySem.Spec PyProof.Rows L2
/-! ### xs[::-1] -/
def tRevA (K : PySem.W.Frag) (te : TE) : TE := fun σ H Q => te σ H fun x H1 => ∃ a xs, x = .ref a ∧ ((SqL K H1 a xs ∧ ∀ p, H1 p = none → Q (.ref p) (upd H1 p (.lst xs.reverse))) ∨ (SqT K H1 a xs ∧ NewT Q H1 xs.reverse))
theorem pe_revA {X : Cx} {e : Expr} {te : TE} {k : Nat} {p1 p2 p3 pos : Pos} (he : PE X e te) : PE X (.Subscript e (.Slice none none (some (.UnaryOp .USub (.Constant (.int 1) k p1) p2)) p3) pos) (tRevA X.K te) := by
  refine ⟨fun pins s σ H Q I h => ?_⟩
  refine Subscript_ (thn (he.run pins s σ H _ I h) fun v s1 ⟨x, H1, I1, r1, q1⟩ => ?_)
  obtain ⟨a, xs, ex, hx⟩ := q1
  subst ex
  cases r1
  have hst : PO X (some (.UnaryOp .USub (.Constant (.int 1) k p1) p2)) (tPart (tUn (rU fun i => .int (-i)) (tC (.int 1)))) := po_some (pe_un un_neg pe_int)
  refine wpAny_Slice (thn (po_none.run pins s1 σ H1 (fun o H2 => o = none ∧ H2 = H1) I1 ⟨rfl, rfl⟩) fun vl s2 ⟨l, H2, I2, pl, el, e2⟩ => ?_)
  subst el e2
  refine thn (po_none.run pins s2 σ H2 (fun o H3 => o = none ∧ H3 = H2) I2 ⟨rfl, rfl⟩) fun vu s3 ⟨u, H3, I3, pu, eu, e3⟩ => ?_
  subst eu e3
  refine thn (hst.run pins s3 σ H3 (fun o H4 => o = some (-1) ∧ H4 = H3) I3 ⟨1, rfl, -1, rfl, rfl, rfl⟩) fun vs s4 ⟨o, H4, I4, ps, eo, e4⟩ => ?_
  subst eo e4
  have I5 : Inv X pins σ H4 { s4 with heap := s4.heap.push { cls := .type "slice", data := .fields #[vl, vu, vs] } } := I4.kept (t' := s4.toks) fun b ob q => Heap.get?_push_of_some _ q
  show wpAny (model X.prog X.w) X.A (subscriptTail e (.Slice none none (some (.UnaryOp .USub (.Constant (.int 1) k p1) p2)) p3) (.ref a) (.ref s4.heap.objs.size)) (EP X pins σ Q) X.xe { s4 with heap := s4.heap.push { cls := .type "slice", data := .fields #[vl, vu, vs] } }
  rcases hx with ⟨hx, q⟩ | ⟨hx, q⟩
  · obtain ⟨its, r, ht, hz⟩ := I5.list hx
    have hlen := r.length
    refine tail_any (ops := [.ref a, .ref s4.heap.objs.size]) ht.isList.typeIs (PySem.slot_list_getitem.lookup) ?_ (by with_unfolding_all rfl)
    refine wpAny_getItem_list_slice ht.isList (Heap.IsSliceOf.new _ vl vu vs) pl pu ps (by decide) ?_ (by rw [List.size_toArray]; omega)
    rw [PySem.W.krv_pick]
    refine ⟨.ref _, _, I5.laid (t' := s4.toks) (o := .lst xs.reverse) (fun b ob q => Heap.get?_push_of_some _ q) (Nat.le_refl _) ?_, rfl, q _ (I5.hok.fresh (Nat.le_refl _))⟩
    exact ⟨by rw [List.length_reverse]; exact hz, _, 0, r.reverse, Heap.get?_push_size _ rfl⟩
  · obtain ⟨its, r, ht, hz⟩ := I5.tuple hx
    have hlen := r.length
    refine tail_any (ops := [.ref a, .ref s4.heap.objs.size]) ht.typeIs (PyProof.Rows.slot_tuple_getitem.lookup) ?_ (by with_unfolding_all rfl)
    cases pl
    cases pu
    refine HT.getItem_tuple_rev ht (Heap.IsSliceOf.new _ _ _ vs) ps ?_ (by rw [List.size_toArray]; omega)
    exact tup_put (tk := s4.toks) I5 (by rw [List.length_reverse]; exact hz) r.reverse q
section
variable {X : Cx} {g : G} {W : WX} {H0 : Hp} {env : Hb.Env} {a b c e : Expr} {ia ib ic ie : E} {pos : Pos} (hK : X.K = g.K) (hw : X.w = g.w)
include hK in
theorem x_rev {k : Nat} {p1 p2 p3 : Pos} (he : PE X e (tE g W H0 ie env)) : PE X (.Subscript e (.Slice none none (some (.UnaryOp .USub (.Constant (.int 1) k p1) p2)) p3) pos) (tE g W H0 (.p1 .rev ie) env) := by
  refine PE.imp (pe_revA he) fun σ H Q ⟨C, st, oc, S, o⟩ => ⟨C, st, oc, S, o.bindI fun kd st1 q v C1 H1 p r n => ?_⟩
  obtain ⟨k, d⟩ := kd
  cases d with
  | lst xs =>
    obtain ⟨a, vs, rfl, ha, ra⟩ := repK_lst p.sub r
    refine ⟨a, vs, rfl, .inl ⟨.inl (.inl ha), fun ad hp => ?_⟩⟩
    obtain ⟨p1, p2⟩ := new_lst p.sub p.row hp ra.reverse
    exact (show RE C H Q (.fr, .lst xs.reverse) st1 from q) _ _ _ (p.trans p1) p2 (New.shift p (k := .fr) (fun a e => by cases e; exact hp))
  | tup xs =>
    obtain ⟨a, vs, rfl, ha, ra, _⟩ := repK_tup r
    refine ⟨a, vs, rfl, .inr ⟨by rw [hK, ← (oc.step p.le).K]; exact sqT_mono p.sub ha, fun ad ob hp hob => ?_⟩⟩
    obtain ⟨p1, p2⟩ := new_tup p.sub p.row hp hob ra.reverse
    exact (show RE C H Q (.sh, .tup xs.reverse) st1 from q) _ _ _ (p.trans p1) p2 trivial
  | _ => exact (show False from q).elim

/-! ### list(range(..)), tuple(range(..)) -/
def tRg (g : G) (W : WX) (H0 : Hp) (ies : List E) (env : Hb.Env) : List (Option V) → Hp → (Int → Int → Hp → Prop) → Prop := fun σ H Q => ∃ C st, OkC g C ∧ Sim C H0 H env st σ ∧ OutG (evA g.Pg g.cl ies env st)
  (fun ds st' => OutG ((rngD ds) st') (fun xs st2 => st2 = st' → ∀ C' H', Post C H C' H' st' → ∀ i j : Int, xs = (up i (j - i).toNat).map D.int → RgOk i j → Q i j H') fun _ _ _ => False) (ZG g.xr W C H σ)
theorem pure0_rng (ds : List D) : Pure0 (rngD ds) := by
  unfold rngD
  split
  · exact pure0_bind (pure0_guard _) fun _ => pure0_pure _
  · exact pure0_bind (pure0_guard _) fun _ => pure0_pure _
  · exact pure0_bind (pure0_guard _) fun _ => pure0_pure _
  · exact pure0_bad
theorem PRg.imp {X : Cx} {e : Expr} {t t' : List (Option V) → Hp → (Int → Int → Hp → Prop) → Prop} (h : PRg X e t) (hi : ∀ σ H Q, t' σ H Q → t σ H Q) : PRg X e t' := fun pins s σ H Q I w => h pins s σ H Q I (hi _ _ _ w)
theorem r_1 {p : Pos} (hg : Gl X "range") (hm : X.mg "range" = none) (ha : PE X a (tE g W H0 ia env)) (na : starEach [a] X.env = (false, eval a X.env) :: starEach [] X.env) : PRg X (.Call (.Name "range" p) [a] [] pos) (tRg g W H0 [ia] env) := by
  refine PRg.imp (prg_1 hg hm (PE.seal ha) na) fun σ H Q ⟨C, st, oc, S, o⟩ => ⟨C, st, oc, S, ?_⟩
  have o := OutG.bind o
  refine OutG.bind' (o.imp (fun kd st1 q => (OutG.bind q).imp (fun d st2 q v C1 H1 p r => ?_) fun _ _ _ z => z) fun _ _ _ z => z)
  have q := OutG.bind (m := evA g.Pg g.cl [] env) q
  have q : OutG (rngD [d] st2) _ _ := q
  cases d with
  | int j =>
    obtain ⟨g1, q⟩ := OutG.guardB q
    simp only [Bool.and_eq_true, decide_eq_true_eq] at g1
    cases r
    exact ⟨j, rfl, q rfl C1 H1 p 0 j (by rw [Int.sub_zero]) ⟨by omega, by omega, by omega, by omega, by omega⟩⟩
  | _ => exact (show False from q).elim
theorem r_2 {p : Pos} (hg : Gl X "range") (hm : X.mg "range" = none) (ha : PE X a (tE g W H0 ia env)) (hb : PE X b (tE g W H0 ib env)) (na : starEach [a, b] X.env = (false, eval a X.env) :: starEach [b] X.env) (nb : starEach [b] X.env = (false, eval b X.env) :: starEach [] X.env) : PRg X (.Call (.Name "range" p) [a, b] [] pos) (tRg g W H0 [ia, ib] env) := by
  refine PRg.imp (prg_2 hg hm (PE.seal ha) (PE.seal hb) na nb (by rw [nb]; rfl)) fun σ H Q ⟨C, st, oc, S, o⟩ => ⟨C, st, oc, S, ?_⟩
  have o := OutG.bind o
  refine OutG.bind' (o.imp (fun kd st1 q => (OutG.bind q).imp (fun d st2 q v C1 H1 p r => ?_) fun _ _ _ z => z) fun _ _ _ z => z)
  have q := OutG.bind (OutG.bind q)
  refine ⟨C1, st2, oc.step p.le, S.step p, OutG.bind' (q.imp (fun kd2 st3 q => (OutG.bind q).imp (fun d2 st4 q v2 C2 H2 p2 r2 => ?_) fun _ _ _ z => z.shift p) fun _ _ _ z => z.shift p)⟩
  have q : OutG (rngD [d, d2] st4) _ _ := q
  cases d with
  | int i =>
    cases d2 with
    | int j =>
      obtain ⟨g1, q⟩ := OutG.guardB q
      simp only [Bool.and_eq_true, decide_eq_true_eq] at g1
      cases r
      cases r2
      exact ⟨i, j, rfl, rfl, q rfl C2 H2 (p.trans p2) i j rfl ⟨by omega, by omega, by omega, by omega, by omega⟩⟩
    | _ => exact (show False from q).elim
  | _ => exact (show False from q).elim
theorem rgV_rep {C : RC} (i j : Int) : RepAll C (rgV i j) ((up i (j - i).toNat).map D.int) := by
  have go : ∀ (n : Nat) (lo : Int) , RepAll C ((up lo n).map V.int) ((up lo n).map D.int) := fun n => by
    induction n with
    | zero => intro lo; exact .nil
    | succ n ih => intro lo; exact .cons (.int _) (ih _)
  have e : rgV i j = (up i (j - i).toNat).map V.int := by
    unfold rgV
    apply List.ext_getElem?
    intro k
    by_cases hk : k < (j - i).toNat
    · rw [List.getElem?_map, List.getElem?_range hk, List.getElem?_map, up_get _ _ _ hk]; rfl
    · rw [List.getElem?_eq_none (by rw [List.length_map, List.length_range]; omega), List.getElem?_eq_none (by rw [List.length_map, up_len]; omega)]
  rw [e]; exact go _ _
/-- ranges of one or two bounds -/
def rng2 (ies : List E) : Bool := decide (ies.length ≤ 2)
theorem rng_form {ds : List D} {st : Hb.St} {R : List D → Hb.St → Prop} {Z : Nat → D → Hb.St → Prop} (hl : ds.length ≤ 2) (h : OutG (rngD ds st) R Z) : ∃ i j : Int, R ((up i (j - i).toNat).map D.int) st := by
  match ds, hl, h with
  | [], _, h => exact (show False from h).elim
  | [d], _, h =>
    cases d with
    | int j =>
      obtain ⟨_, h⟩ := OutG.guardB h
      exact ⟨0, j, by rw [Int.sub_zero]; exact h⟩
    | _ => exact (show False from h).elim
  | [d, d2], _, h =>
    cases d with
    | int i =>
      cases d2 with
      | int j =>
        obtain ⟨_, h⟩ := OutG.guardB h
        exact ⟨i, j, h⟩
      | _ => exact (show False from h).elim
    | _ => exact (show False from h).elim
theorem x_lrng {p : Pos} {ies : List E} (hc : X.calm = true) (hg : Gl X "list") (hm : X.mg "list" = none) (he : PRg X e (tRg g W H0 ies env)) (na : starEach [e] X.env = (false, eval e X.env) :: starEach [] X.env) : PE X (.Call (.Name "list" p) [e] [] pos) (tE g W H0 (.lrng ies) env) := by
  refine PE.imp (pe_listRg hc hg hm he na) fun σ H Q ⟨C, st, oc, S, o⟩ => ⟨C, st, oc, S, (OutG.bind o).imp (fun ds st1 q => ?_) fun _ _ _ z => z⟩
  refine (pure0_rng ds st1 _ _ (OutG.bind q)).imp (fun xs st2 q e2 C1 H1 p i j ex ok => ⟨ok, fun ad hp => ?_⟩) fun _ _ _ z => z
  obtain ⟨_, q⟩ := q
  subst e2 ex
  obtain ⟨p1, p2⟩ := new_lst p.sub p.row hp (rgV_rep i j)
  exact (show RE C H Q (.fr, .lst _) st2 from q) _ _ _ (p.trans p1) p2 (New.shift p (k := .fr) (fun a e => by cases e; exact hp))
theorem x_trng {p : Pos} {ies : List E} (hc : X.calm = true) (hg : Gl X "tuple") (hm : X.mg "tuple" = none) (he : PRg X e (tRg g W H0 ies env)) (na : starEach [e] X.env = (false, eval e X.env) :: starEach [] X.env) : PE X (.Call (.Name "tuple" p) [e] [] pos) (tE g W H0 (.trng ies) env) := by
  refine PE.imp (pe_tupRgX hc hg hm he na) fun σ H Q ⟨C, st, oc, S, o⟩ => ⟨C, st, oc, S, (OutG.bind o).imp (fun ds st1 q => ?_) fun _ _ _ z => z⟩
  refine (pure0_rng ds st1 _ _ (OutG.bind q)).imp (fun xs st2 q e2 C1 H1 p i j ex ok => ⟨ok, fun ad ob hp hob => ?_⟩) fun _ _ _ z => z
  obtain ⟨_, q⟩ := q
  subst e2 ex
  obtain ⟨p1, p2⟩ := new_tup p.sub p.row hp hob (rgV_rep i j)
  exact (show RE C H Q (.sh, .tup _) st2 from q) _ _ _ (p.trans p1) p2 trivial

/-! ### isinstance -/
def tyD : D → String
  | .non => "NoneType" | .bl _ => "bool" | .int _ => "int" | .str _ => "str" | .tup _ => "tuple" | .lst _ => "list" | _ => "dict"
def tyK : Kd → String
  | .int => "int" | .bool => "bool" | .str => "str" | .tuple => "tuple" | .list => "list"
theorem kit_D {pins : List (Addr × Obj)} {σ : List (Option V)} {H : Hp} {s : Shared} {C : RC} {st : Hb.St} {k : Hb.K} {v : V} {u : Value} {d : D} (I : Inv X pins σ H s) (oc : OpC X C H st) (r : RepK C H k v d) (ru : RelV v u) (hd : d.isaOk = true) :
    ∃ P : Heap → Prop, PySem.W.KitX X.K u (.type (tyD d)) P ∧ P s.heap ∧ u ≠ .builtin "__main__.__loader__#opaque" := by
  cases d with
  | non => rw [repK_non r] at ru; exact kit_of I ru (.base .non)
  | bl b => rw [repK_bl r] at ru; exact kit_of I ru (.base (.bl _))
  | int b => rw [repK_int r] at ru; exact kit_of I ru (.base (.int _))
  | str b => rw [repK_str r] at ru; exact kit_of I ru (.base (.str _))
  | tup xs =>
    obtain ⟨a, vs, rfl, h, _⟩ := repK_tup r
    have h : SqT X.K H a vs := by rw [← oc.K]; exact sqT_mono oc.sub h
    rcases h with (h | ⟨o, h⟩) | ⟨o, its, n, h1, h2, _⟩
    · exact kit_of I ru (.base (.tup h))
    · exact kit_of I ru (.fTuple h)
    · exact kit_of I ru (.kTuple h1 h2)
  | lst xs =>
    obtain ⟨a, vs, rfl, h, _⟩ := repK_lst oc.sub r
    exact kit_of I ru (.base (.lst h))
  | dct kvs =>
    obtain ⟨a, es, rfl, da⟩ := repK_dct I oc.sub r
    cases ru
    obtain ⟨o, ens, ep, h1, h2, _⟩ := da.at_
    exact ⟨_, PySem.W.kitx_dict, ⟨o, h1, h2.1⟩, fun z => nomatch z⟩
  | _ => exact nomatch hd
def nmD (n : Fin 7) : String := match n with | 0 => "NoneType" | 1 => "bool" | 2 => "int" | 3 => "str" | 4 => "tuple" | 5 => "list" | 6 => "dict"
def kbD (n : Fin 7) (t : Kd) : Bool := match n, t with | 1, .int => true | 1, .bool => true | 2, .int => true | 3, .str => true | 4, .tuple => true | 5, .list => true | _, _ => false
theorem kit_ans {K : PySem.W.Frag} {d : D} {t : Kd} (hd : d.isaOk = true) : PySem.W.kitOne K (.type (tyD d)) (.type (tyK t)) = some (d.isa t) := by
  have hk : ∀ (n : Fin 7) (t : Kd), kitB (nmD n) (tyK t) = some (kbD n t) := by
    intro n t
    cases t <;> revert n <;> decide +kernel
  cases d with
  | non => exact kit_ty ((hk 0 t).trans (by cases t <;> rfl))
  | bl _ => exact kit_ty ((hk 1 t).trans (by cases t <;> rfl))
  | int _ => exact kit_ty ((hk 2 t).trans (by cases t <;> rfl))
  | str _ => exact kit_ty ((hk 3 t).trans (by cases t <;> rfl))
  | tup _ => exact kit_ty ((hk 4 t).trans (by cases t <;> rfl))
  | lst _ => exact kit_ty ((hk 5 t).trans (by cases t <;> rfl))
  | dct _ => exact kit_ty ((hk 6 t).trans (by cases t <;> rfl))
  | _ => exact absurd hd Bool.false_ne_true
theorem kit_any {K : PySem.W.Frag} {d : D} (hd : d.isaOk = true) : ∀ ts : List Kd, PySem.W.kitAny K (.type (tyD d)) (ts.map fun t => .type (tyK t)) = some (ts.any d.isa)
  | [] => kitAny_nil
  | t :: ts => kitAny_cons (kit_ans hd) (fun e => by rw [kit_any hd ts, List.any_cons, e, Bool.false_or]) fun e => by rw [List.any_cons, e, Bool.true_or]
def rIs1 (X : Cx) (t : Kd) : List V → Hp → VK → Prop := fun vs H Q => ∃ C st k d, ∃ x : V, vs = [x, .ty (tyK t)] ∧ OpC X C H st ∧ RepK C H k x d ∧ d.isaOk = true ∧ Q (.bl (d.isa t)) H
theorem call_is1 (t : Kd) : CallR X (.builtin "isinstance") (rIs1 X t) := by
  intro pins s σ H xs us Q I rs h
  obtain ⟨C, st, k, d, x, rfl, oc, r, hd, q⟩ := h
  obtain ⟨u1, u2, rfl, r1, r2⟩ := L2.vals2 rs
  cases (show u2 = Value.type (tyK t) from r2)
  obtain ⟨P, Z, p, hx⟩ := kit_D I oc r r1 hd
  exact PySem.W.kia_one Z I.kIn p (kit_ans hd) hx fun tk => ⟨.bl _, H, I.tok tk, rfl, q⟩
def rIsN (X : Cx) (ts : List Kd) : List V → Hp → VK → Prop := fun vs H Q => ∃ C st k d, ∃ (x : V) (tp : Addr), vs = [x, .ref tp] ∧ H tp = some (.tup (ts.map fun t => .ty (tyK t))) ∧ OpC X C H st ∧ RepK C H k x d ∧ d.isaOk = true ∧ Q (.bl (ts.any d.isa)) H
theorem tys_vals : ∀ (ts : List Kd) (us : List Value), Vals (ts.map fun t => V.ty (tyK t)) us → us = ts.map fun t => Value.type (tyK t)
  | [], _, .nil => rfl
  | t :: ts, _, .cons r rs => by rw [tys_vals ts _ rs, (show _ = Value.type (tyK t) from r)]; rfl
theorem call_isN (ts : List Kd) : CallR X (.builtin "isinstance") (rIsN X ts) := by
  intro pins s σ H xs us Q I rs h
  obtain ⟨C, st, k, d, x, tp, rfl, hT, oc, r, hd, q⟩ := h
  obtain ⟨u1, u2, rfl, r1, r2⟩ := L2.vals2 rs
  cases (show u2 = Value.ref tp from r2)
  obtain ⟨P, Z, p, hx⟩ := kit_D I oc r r1 hd
  obtain ⟨_, its, rv, o, h1, h2, n, h3⟩ := (show ObjOk X.prog X.w H s.heap tp (.tup _) from I.hok tp _ hT)
  have e3 := tys_vals ts its rv
  subst e3
  obtain ⟨oc, od, dt, sl⟩ := o
  simp only at h2 h3
  subst h2 h3
  exact PySem.W.kia_tup Z I.kIn p h1 (kit_any hd ts) hx fun tk => ⟨.bl _, H, I.tok tk, rfl, q⟩
include hK hw in
theorem x_isa1 {t : Kd} {x y : Str} {p py : Pos} (hg : Gl X "isinstance") (hm : X.mg "isinstance" = none) (hgy : Gl X y) (hmy : X.mg y = none) (hvy : bootBuiltins y = some (.type (tyK t))) (hn : y ≠ "__name__") (hdb : (y == ("__debug__" : Str)) = false)
    (ha : PE X a (tE g W H0 ia env)) (hs : starEach [a, .Name y py] X.env = (false, eval a X.env) :: starEach [.Name y py] X.env) : PE X (.Call (.Name "isinstance" p) [a, .Name y py] [] pos) (tE g W H0 (.isa ia [t]) env) := by
  refine PE.imp (pe_callB (call_is1 t) hg hm boot_isinstance (pa_cons ha (pa_cons (pe_bltn hgy hmy hvy (show RelV (.ty (tyK t)) _ from rfl) hn hdb) pa_nil rfl) hs) (by decide) (by decide) hs rfl) fun σ H Q ⟨C, st, oc, S, o⟩ => ⟨C, st, oc, S, o.bindI fun kd st1 q v C1 H1 p r n => ?_⟩
  obtain ⟨gd, q⟩ := OutG.guardB (OutG.bind q)
  refine ⟨C1, st1, kd.1, kd.2, v, rfl, (S.step p).opC hK hw (oc.step p.le), r, gd, ?_⟩
  have e : ([t].any kd.2.isa) = kd.2.isa t := by rw [List.any_cons, List.any_nil, Bool.or_false]
  have q : RE C H Q (.sh, .bl ([t].any kd.2.isa)) st1 := q
  rw [e] at q
  exact imm p.sub p.row (fun _ => .bl _) (q.shift p)
include hK hw in
theorem x_isa2 {t t' : Kd} {x y y' : Str} {p py py' pt : Pos} {kt : Nat} (hg : Gl X "isinstance") (hm : X.mg "isinstance" = none) (hgy : Gl X y) (hmy : X.mg y = none) (hvy : bootBuiltins y = some (.type (tyK t))) (hn : y ≠ "__name__") (hdb : (y == ("__debug__" : Str)) = false)
    (hgy' : Gl X y') (hmy' : X.mg y' = none) (hvy' : bootBuiltins y' = some (.type (tyK t'))) (hn' : y' ≠ "__name__") (hdb' : (y' == ("__debug__" : Str)) = false)
    (ha : PE X a (tE g W H0 ia env)) (hs : starEach [a, .Tuple [.Name y py, .Name y' py'] kt pt] X.env = (false, eval a X.env) :: starEach [.Tuple [.Name y py, .Name y' py'] kt pt] X.env) : PE X (.Call (.Name "isinstance" p) [a, .Tuple [.Name y py, .Name y' py'] kt pt] [] pos) (tE g W H0 (.isa ia [t, t']) env) := by
  refine PE.imp (pe_callB (call_isN [t, t']) hg hm boot_isinstance (pa_cons ha (pa_cons (pe_tup (pa_cons (pe_bltn hgy hmy hvy (show RelV (.ty (tyK t)) _ from rfl) hn hdb) (pa_cons (pe_bltn hgy' hmy' hvy' (show RelV (.ty (tyK t')) _ from rfl) hn' hdb') pa_nil rfl) rfl)) pa_nil rfl) hs) (by decide) (by decide) hs rfl) fun σ H Q ⟨C, st, oc, S, o⟩ => ⟨C, st, oc, S, o.bindI fun kd st1 q v C1 H1 p r n => ?_⟩
  obtain ⟨gd, q⟩ := OutG.guardB (OutG.bind q)
  refine ⟨by show 2 ≤ sizeLine; rw [sizeLine_eq]; decide, fun tp hp => ?_⟩
  -- the tuple of classes is no value of ours
  have ne : ∀ b o, H1 b = some o → b ≠ tp := fun b o e z => by rw [z, hp] at e; cases e
  have p1 : Post C1 H1 C1 (upd H1 tp (.tup [.ty (tyK t), .ty (tyK t')])) st1 :=
    ⟨.refl C1, fun b o h => by rw [upd_ne (ne b o (p.sub b o h))]; exact p.sub b o h, fun _ _ h => .inl h, fun _ h => .inl h, fun b o h _ => by rw [upd_ne (ne b o h)]; exact h, fun b o h => ⟨o, by rw [upd_ne (ne b o h)]; exact h⟩, rowOk_upd (.refl C1) rfl (fun _ _ => rfl) hp p.row⟩
  have p2 := p.trans p1
  refine ⟨C1, st1, kd.1, kd.2, v, tp, rfl, upd_same, ((S.step p).step p1).opC hK hw (oc.step p2.le), r.step p1, gd, ?_⟩
  exact imm p2.sub p2.row (fun _ => .bl _) ((show RE C H Q (.sh, .bl ([t, t'].any kd.2.isa)) st1 from q).shift p2)
end
end Hb
namespace L2
open PySem PySem.Spec PyProof.Rows PySem.Calls
section
variable {P : Program} {w : World} {A : Around} {E : Value → Shared → Prop} {s : Shared}
theorem call_set_listI {l : Addr} {items : Array Value} (ns : List Int) {Q : Value → Shared → Prop} (hh : A.handled = none) (hl : s.heap.IsList l items) (hit : IntsAre items.toList ns) (hb : ns.length + 1 < scanBound)
    (h : ∀ (h' : Heap) (tk c : Nat), SetR w h' s.heap.objs.size (fun j => decide (j ∈ ns)) c → c ≤ ns.length → (∀ b o, s.heap.get? b = some o → h'.get? b = some o) → Q (.ref s.heap.objs.size) { s with heap := h', toks := tk }) :
    wpAny (model P w) A (call (.type "set") [.ref l]) Q E s := by
  have hisz : items.size = ns.length := by
    have q := IntsAre.length hit
    rw [Array.length_toList] at q
    exact q
  obtain ⟨c, tl, hmro⟩ := F.called_set.mro
  have hmade := F.called_set.made
  have hsub := F.called_set.sub
  refine wpAny_call (codeAny_of_tree ?_)
  show wpAny _ _ (callAny (.type "set") _) _ _ _
  refine wpAny_pure ⟨Code.quiet_builtin _ (by decide +kernel), codeAny_builtin F.entry_type_call ?_⟩
  rw [Around.under_plain (weight_type_call_type "set" [.ref l] []) rfl]
  have h1 := F.called_set.notType
  have h2 := F.called_set.canCreate
  have hct := F.typeCall_set_1 (.ref l)
  repeat (any_goals (first | assumption | wp_step))

  refine codeAny_mono (code_set_led1 (.ref l) (E := E) (Q₁ := fun obj s₁ => obj = .ref s.heap.objs.size ∧ s₁ = { s with heap := s.heap.push { cls := .type "set", dict := none, data := .set #[] 0 (.fresh 0 0 (!w.params.followText "set-order")) } }) ⟨rfl, rfl⟩) fun r s₁ hr => ?_
  cases r with
  | error e => exact hr
  | ok fl =>
    cases fl with
    | ret obj =>
      obtain ⟨rfl, rfl⟩ := hr
      have hS : (s.heap.push { cls := .type "set", dict := none, data := .set #[] 0 (.fresh 0 0 (!w.params.followText "set-order")) }).get? s.heap.objs.size = some { cls := .type "set", dict := none, data := .set #[] 0 (.fresh 0 0 (!w.params.followText "set-order")) } := Heap.get?_push_size _ rfl
      have hT : Shared.TypeIs { s with heap := s.heap.push { cls := .type "set", dict := none, data := .set #[] 0 (.fresh 0 0 (!w.params.followText "set-order")) } } (.ref s.heap.objs.size) "set" := ⟨_, hS, rfl⟩
      have hli := F.called_set.init.lookup
      have hbi := F.called_set.init.bind (.ref s.heap.objs.size)
      repeat (any_goals (first | assumption | wp_step))

      refine codeAny_mono (codeAny_call_builtin (R := wants (fun r s₂ => r = .none ∧ ∃ h' tk c, s₂ = { s with heap := h', toks := tk } ∧ SetR w h' s.heap.objs.size (fun j => decide (j ∈ ns)) c ∧ c ≤ ns.length ∧
          (∀ b o, s.heap.get? b = some o → h'.get? b = some o)) E) F.called_set.init.plain F.entry_set_init (check_set_init_1 hT ?_)) fun r₂ s₂ hr₂ => ?_
      · obtain ⟨ol, hol, hcl, nl, hdl⟩ := hl
        obtain ⟨ocls, odict, odata, oslots⟩ := ol
        simp only at hcl hdl
        subst hcl; subst hdl
        have hol' : (s.heap.push { cls := .type "set", dict := none, data := .set #[] 0 (.fresh 0 0 (!w.params.followText "set-order")) }).get? l = some { cls := .type "list", dict := odict, data := .seq items nl, slots := oslots } := Heap.get?_push_of_some _ hol
        have hsls := F.sub_list_set
        have hslf := F.sub_list_frozenset
        have hne : (Value.type "list" == Value.type "dict") = false := by decide
        have hl1 : (s.heap.push { cls := .type "set", dict := none, data := .set #[] 0 (.fresh 0 0 (!w.params.followText "set-order")) }).IsList l items := ⟨_, hol', rfl, nl, rfl⟩
        unfold Builtin.«set.__init__» noKeywords Builtin.Frozenset.updateFrom
        generalize hPI : pyIter = PI
        wp_walk
        subst hPI

        refine wpAny_pyIter_list hl1 ?_
        refine wpAny_bind (wpAny_runValue ?_)
        have hlS : l < s.heap.objs.size := Heap.lt_size hol
        have hh3 : A.in1.in1.in1.handled = none := by simp [hh]
        have hz1 : (s.heap.push { cls := .type "set", dict := none, data := .set #[] 0 (.fresh 0 0 (!w.params.followText "set-order")) }).objs.size = s.heap.objs.size + 1 := Heap.size_push ..
        have hneI : l ≠ (s.heap.push { cls := .type "set", dict := none, data := .set #[] 0 (.fresh 0 0 (!w.params.followText "set-order")) }).objs.size := by
          rw [Heap.size_push]; exact Nat.ne_of_lt (Nat.lt_succ_of_lt hlS)
        have hSf : s.heap.objs.size ∉ [(s.heap.push { cls := .type "set", dict := none, data := .set #[] 0 (.fresh 0 0 (!w.params.followText "set-order")) }).objs.size, l] := by
          rw [Heap.size_push]; simp only [List.mem_cons, List.mem_singleton, List.not_mem_nil, or_false, not_or]
          exact ⟨Nat.ne_of_lt (Nat.lt_succ_self _), Nat.ne_of_gt hlS⟩
        have hval : ∀ (i : Nat) (v : Value), items[i]? = some v → ∃ k t, ns[i]? = some k ∧ v = .int k t := fun i v hv => by
          have hi : i < ns.length := by rw [← hisz]; exact (Array.getElem?_eq_some_iff.mp hv).1
          obtain ⟨t, e⟩ := PyProof.Rows.IntsAre.int_at hit i v (by rw [Array.getElem?_toList]; exact hv)
          refine ⟨ns[i], t, List.getElem?_eq_getElem hi, ?_⟩
          rw [e, List.getD_eq_getElem?_getD, List.getElem?_eq_getElem hi] <;> rfl
        refine set_update_ints ((Walks.list hh3 _ l hneI items).toS) s.heap.objs.size
          hSf ns hisz hb hval (items.size - 0) 0 _ (by omega) (Nat.zero_le _)
          ⟨⟨_, Heap.get?_push_size _ rfl, rfl, rfl⟩, (hl1.push _)⟩ ?hS0 ?hR
        case hS0 =>
          have hget : ((s.heap.push { cls := .type "set", dict := none, data := .set #[] 0 (.fresh 0 0 (!w.params.followText "set-order")) }).push { cls := .type "list_iterator", data := .fields #[.ref l, .int 0 0] }).get? s.heap.objs.size
              = some { cls := .type "set", dict := none, data := .set #[] 0 (.fresh 0 0 (!w.params.followText "set-order")) } := Heap.get?_push_of_some _ hS
          exact ⟨0, Nat.le_refl 0, setR_new_at hget⟩
        case hR =>
          intro s' c' hm hc' hS'
          obtain ⟨h', g2, d', tk', os'⟩ := s'
          have eg : g2 = s.gens := hm.gens
          have ed : d' = s.drawn := hm.drawn
          have eo : os' = s.os := hm.os
          subst eg; subst ed; subst eo
          show wpAny _ _ _ _ _ _
          refine wpAny_pure ?_
          show wpAny _ _ (ret Value.none) _ _ _
          rw [hisz] at hc'
          refine wpAny_pure ⟨rfl, h', tk', c', rfl, hS', hc', fun b o e => ?_⟩
          have hb0 : b < s.heap.objs.size := Heap.lt_size e
          have hb1 : b ≠ s.heap.objs.size := Nat.ne_of_lt hb0
          have hb2 : b ≠ (s.heap.push { cls := .type "set", dict := none, data := .set #[] 0 (.fresh 0 0 (!w.params.followText "set-order")) }).objs.size := by
            rw [Heap.size_push]; exact Nat.ne_of_lt (Nat.lt_succ_of_lt hb0)
          exact hm.heap b o (by simp only [List.mem_cons, List.mem_singleton, List.not_mem_nil, or_false, not_or]; exact ⟨hb1, hb2⟩) (Heap.get?_push_of_some _ (Heap.get?_push_of_some _ e))

      · cases r₂ with
        | error e => exact hr₂
        | ok fl₂ =>
          cases fl₂ with
          | ret r =>
            obtain ⟨rfl, h', tk, c', rfl, hS', hc', hk'⟩ := hr₂
            repeat (any_goals (first | assumption | wp_step))
            exact h _ _ _ hS' hc' hk'
          | _ => exact hr₂.elim
    | _ => exact hr.elim
end
end L2
namespace L2
open PySem PySem.Spec PyProof.Rows PySem.Calls
section
variable {P : Program} {w : World} {A : Around} {E : Value → Shared → Prop} {s : Shared}
/-- set(xs) -/
theorem call_set_tupsT {l : Addr} {items : Array Value} (ks : List (Addr × List Int)) {Q : Value → Shared → Prop} (hh : A.handled = none) (hl : s.heap.IsTuple l items) (hit : items.toList = ks.map fun p => Value.ref p.1)
    (hk : ∀ p ∈ ks, IsT P w s.heap p.2 p.1) (hfew : ks.length < 64) (hu : A.units + 3 < cLine)
    (h : ∀ (h' : Heap) (tk : Nat) L es ep t, SetTR P w h' s.heap.objs.size L es ep t → Got ks ks.length L → (∀ b o, s.heap.get? b = some o → h'.get? b = some o) → Q (.ref s.heap.objs.size) { s with heap := h', toks := tk }) :
    wpAny (model P w) A (call (.type "set") [.ref l]) Q E s := by
  have hisz : items.size = ks.length := by
    have q := congrArg List.length hit
    rw [Array.length_toList, List.length_map] at q
    exact q
  obtain ⟨c, tl, hmro⟩ := F.called_set.mro
  have hmade := F.called_set.made
  have hsub := F.called_set.sub
  refine wpAny_call (codeAny_of_tree ?_)
  show wpAny _ _ (callAny (.type "set") _) _ _ _
  refine wpAny_pure ⟨Code.quiet_builtin _ (by decide +kernel), codeAny_builtin F.entry_type_call ?_⟩
  rw [Around.under_plain (weight_type_call_type "set" [.ref l] []) rfl]
  have h1 := F.called_set.notType
  have h2 := F.called_set.canCreate
  have hct := F.typeCall_set_1 (.ref l)
  repeat (any_goals (first | assumption | wp_step))

  refine codeAny_mono (code_set_led1 (.ref l) (E := E) (Q₁ := fun obj s₁ => obj = .ref s.heap.objs.size ∧ s₁ = { s with heap := s.heap.push { cls := .type "set", dict := none, data := .set #[] 0 (.fresh 0 0 (!w.params.followText "set-order")) } }) ⟨rfl, rfl⟩) fun r s₁ hr => ?_
  cases r with
  | error e => exact hr
  | ok fl =>
    cases fl with
    | ret obj =>
      obtain ⟨rfl, rfl⟩ := hr
      have hS : (s.heap.push { cls := .type "set", dict := none, data := .set #[] 0 (.fresh 0 0 (!w.params.followText "set-order")) }).get? s.heap.objs.size = some { cls := .type "set", dict := none, data := .set #[] 0 (.fresh 0 0 (!w.params.followText "set-order")) } := Heap.get?_push_size _ rfl
      have hT : Shared.TypeIs { s with heap := s.heap.push { cls := .type "set", dict := none, data := .set #[] 0 (.fresh 0 0 (!w.params.followText "set-order")) } } (.ref s.heap.objs.size) "set" := ⟨_, hS, rfl⟩
      have hli := F.called_set.init.lookup
      have hbi := F.called_set.init.bind (.ref s.heap.objs.size)
      repeat (any_goals (first | assumption | wp_step))

      refine codeAny_mono (codeAny_call_builtin (R := wants (fun r s₂ => r = .none ∧ ∃ h' tk L es ep t, s₂ = { s with heap := h', toks := tk } ∧ SetTR P w h' s.heap.objs.size L es ep t ∧ Got ks ks.length L ∧
          (∀ b o, s.heap.get? b = some o → h'.get? b = some o)) E) F.called_set.init.plain F.entry_set_init (check_set_init_1 hT ?_)) fun r₂ s₂ hr₂ => ?_
      · obtain ⟨ol, hol, hcl, nl, hdl⟩ := hl
        obtain ⟨ocls, odict, odata, oslots⟩ := ol
        simp only at hcl hdl
        subst hcl; subst hdl
        have hol' : (s.heap.push { cls := .type "set", dict := none, data := .set #[] 0 (.fresh 0 0 (!w.params.followText "set-order")) }).get? l = some { cls := .type "tuple", dict := odict, data := .seq items nl, slots := oslots } := Heap.get?_push_of_some _ hol
        have hsls := F.sub_tuple_set
        have hslf := F.sub_tuple_frozenset
        have hne : (Value.type "tuple" == Value.type "dict") = false := by decide
        have hl1 : (s.heap.push { cls := .type "set", dict := none, data := .set #[] 0 (.fresh 0 0 (!w.params.followText "set-order")) }).IsTuple l items := ⟨_, hol', rfl, nl, rfl⟩
        unfold Builtin.«set.__init__» noKeywords Builtin.Frozenset.updateFrom
        generalize hPI : pyIter = PI
        wp_walk
        subst hPI

        refine wpAny_pyIter_tuple hl1 ?_
        refine wpAny_bind (wpAny_runValue ?_)
        have hlS : l < s.heap.objs.size := Heap.lt_size hol
        have hh3 : A.in1.in1.in1.handled = none := by simp [hh]
        have hz1 : (s.heap.push { cls := .type "set", dict := none, data := .set #[] 0 (.fresh 0 0 (!w.params.followText "set-order")) }).objs.size = s.heap.objs.size + 1 := Heap.size_push ..
        have hneI : l ≠ (s.heap.push { cls := .type "set", dict := none, data := .set #[] 0 (.fresh 0 0 (!w.params.followText "set-order")) }).objs.size := by
          rw [Heap.size_push]; exact Nat.ne_of_lt (Nat.lt_succ_of_lt hlS)
        have hSf : s.heap.objs.size ∉ [(s.heap.push { cls := .type "set", dict := none, data := .set #[] 0 (.fresh 0 0 (!w.params.followText "set-order")) }).objs.size, l] := by
          rw [Heap.size_push]; simp only [List.mem_cons, List.mem_singleton, List.not_mem_nil, or_false, not_or]
          exact ⟨Nat.ne_of_lt (Nat.lt_succ_self _), Nat.ne_of_gt hlS⟩
        have hval : ∀ (i : Nat) (v : Value), items[i]? = some v → ∃ p, ks[i]? = some p ∧ v = .ref p.1 := fun i v hv => by
          have q : items.toList[i]? = some v := by rw [Array.getElem?_toList]; exact hv
          rw [hit, List.getElem?_map] at q
          cases hq : ks[i]? with
          | none => rw [hq] at q; cases q
          | some p =>
            rw [hq] at q
            exact ⟨p, rfl, (Option.some.inj q).symm⟩
        have none_of : ∀ b, s.heap.objs.size ≤ b → s.heap.get? b = none := fun b hb => by
          cases q : s.heap.get? b with
          | none => rfl
          | some o => exact absurd (Nat.lt_of_lt_of_le (Heap.lt_size q) hb) (Nat.lt_irrefl _)
        refine set_update_tups ((Walks.tuple hh3 _ l hneI items).toS) s.heap.objs.size
          hSf ks hisz hfew hval s.heap hk (none_of _ (Nat.le_refl _)) (fun b hb => none_of b (by
            rw [List.mem_singleton.mp hb, Heap.size_push]
            exact Nat.le_succ _)) hu (items.size - 0) 0 _ (by omega) (Nat.zero_le _)
          ⟨⟨_, Heap.get?_push_size _ rfl, rfl, rfl⟩, (hl1.push _)⟩ (fun b o e => Heap.get?_push_of_some _ (Heap.get?_push_of_some _ e)) ?hS0 ?hR
        case hS0 =>
          have hget : ((s.heap.push { cls := .type "set", dict := none, data := .set #[] 0 (.fresh 0 0 (!w.params.followText "set-order")) }).push { cls := .type "tuple_iterator", data := .fields #[.ref l, .int 0 0] }).get? s.heap.objs.size
              = some { cls := .type "set", dict := none, data := .set #[] 0 (.fresh 0 0 (!w.params.followText "set-order")) } := Heap.get?_push_of_some _ hS
          exact ⟨[], #[], 0, _, setTR_fresh hget, Got.zero ks⟩
        case hR =>
          intro s' L es ep t hm hS' g' hkp
          obtain ⟨h', g2, d', tk', os'⟩ := s'
          have eg : g2 = s.gens := hm.gens
          have ed : d' = s.drawn := hm.drawn
          have eo : os' = s.os := hm.os
          subst eg; subst ed; subst eo
          show wpAny _ _ _ _ _ _
          refine wpAny_pure ?_
          show wpAny _ _ (ret Value.none) _ _ _
          rw [hisz] at g'
          exact wpAny_pure ⟨rfl, h', tk', L, es, ep, t, rfl, hS', g', hkp⟩

      · cases r₂ with
        | error e => exact hr₂
        | ok fl₂ =>
          cases fl₂ with
          | ret r =>
            obtain ⟨rfl, h', tk, L, es, ep, t, rfl, hS', g', hk'⟩ := hr₂
            repeat (any_goals (first | assumption | wp_step))
            exact h _ _ _ _ _ _ hS' g' hk'
          | _ => exact hr₂.elim
    | _ => exact hr.elim

end
end L2
namespace Hb
open PySem PySem.Spec PyProof.Rows L2

/-! ### sorted(set(xs)), ints -/
theorem insU_mem {x z : Int} : ∀ {l : List Int}, z ∈ insU x l ↔ z = x ∨ z ∈ l
  | [] => by show z ∈ [x] ↔ _; simp
  | y :: r => by
    show z ∈ (if x < y then x :: y :: r else if x = y then y :: r else y :: insU x r) ↔ _
    split
    · simp
    · split
      · rename_i h; subst h; simp
      · rw [List.mem_cons, insU_mem, List.mem_cons]
        constructor
        · rintro (h | h | h)
          · exact .inr (.inl h)
          · exact .inl h
          · exact .inr (.inr h)
        · rintro (h | h | h)
          · exact .inr (.inl h)
          · exact .inl h
          · exact .inr (.inr h)
theorem insU_up {x : Int} : ∀ {l : List Int}, l.Pairwise (· < ·) → (insU x l).Pairwise (· < ·)
  | [], _ => List.pairwise_singleton _ _
  | y :: r, h => by
    obtain ⟨h1, h2⟩ := List.pairwise_cons.mp h
    show (if x < y then x :: y :: r else if x = y then y :: r else y :: insU x r).Pairwise _
    split
    · rename_i hx
      refine List.pairwise_cons.mpr ⟨fun z hz => ?_, h⟩
      rcases List.mem_cons.mp hz with e | e
      · rw [e]; exact hx
      · exact Int.lt_trans hx (h1 z e)
    · split
      · exact h
      · rename_i n1 n2
        refine List.pairwise_cons.mpr ⟨fun z hz => ?_, insU_up h2⟩
        rcases insU_mem.mp hz with e | e
        · omega
        · exact h1 z e
theorem ssetI_mem {z : Int} : ∀ {l : List Int}, z ∈ ssetI l ↔ z ∈ l
  | [] => Iff.rfl
  | x :: r => by
    show z ∈ insU x (ssetI r) ↔ _
    rw [insU_mem, ssetI_mem, List.mem_cons]
theorem ssetI_up : ∀ l : List Int, (ssetI l).Pairwise (· < ·)
  | [] => List.Pairwise.nil
  | x :: r => insU_up (ssetI_up r)
theorem up_uniq : ∀ {l m : List Int}, l.Pairwise (· < ·) → m.Pairwise (· < ·) → (∀ z, z ∈ l ↔ z ∈ m) → l = m
  | [], [], _, _, _ => rfl
  | [], y :: m, _, _, h => absurd ((h y).mpr (List.mem_cons_self ..)) (by simp)
  | x :: l, [], _, _, h => absurd ((h x).mp (List.mem_cons_self ..)) (by simp)
  | x :: l, y :: m, hl, hm, h => by
    obtain ⟨l1, l2⟩ := List.pairwise_cons.mp hl
    obtain ⟨m1, m2⟩ := List.pairwise_cons.mp hm
    have e : x = y := by
      have a := List.mem_cons.mp ((h x).mp (List.mem_cons_self ..))
      have b := List.mem_cons.mp ((h y).mpr (List.mem_cons_self ..))
      rcases a with a | a
      · exact a
      · rcases b with b | b
        · exact b.symm
        · have := m1 x a
          have := l1 y b
          omega
    subst e
    congr 1
    refine up_uniq l2 m2 fun z => ⟨fun hz => ?_, fun hz => ?_⟩
    · rcases List.mem_cons.mp ((h z).mp (List.mem_cons_of_mem _ hz)) with e | e
      · exact absurd (l1 z hz) (by omega)
      · exact e
    · rcases List.mem_cons.mp ((h z).mpr (List.mem_cons_of_mem _ hz)) with e | e
      · exact absurd (m1 z hz) (by omega)
      · exact e
def tSset (K : PySem.W.Frag) (x : V) (H1 : Hp) (Q : VK) : Prop := ∃ (l : Addr) (ns : List Int), x = V.ref l ∧ (SqL K H1 l (ns.map V.int) ∨ SqT K H1 l (ns.map V.int)) ∧ ns.length < 64 ∧ ∀ p, H1 p = none → Q (.ref p) (upd H1 p (.lst ((ssetI ns).map V.int)))
/-! ### sorted(set(xs)), pairs of small ints -/
def plist (p : Int × Int) : List Int := [p.1, p.2]
theorem code_plist (p : Int × Int) : TS.code 64 (plist p) = pcode p := code_pair p.1 p.2
theorem in64_bd {p : Int × Int} (h : in64 p = true) : (0 ≤ p.1 ∧ p.1 < 64) ∧ 0 ≤ p.2 ∧ p.2 < 64 := by
  unfold in64 at h
  rw [Bool.and_eq_true, Bool.and_eq_true, Bool.and_eq_true] at h
  exact ⟨⟨of_decide_eq_true h.1.1, of_decide_eq_true h.1.2⟩, of_decide_eq_true h.2.1, of_decide_eq_true h.2.2⟩
theorem pcode_back {p : Int × Int} (h : in64 p = true) : (pcode p / 64, pcode p % 64) = p := by
  obtain ⟨⟨a, b⟩, c, d⟩ := in64_bd h
  unfold pcode
  exact Prod.ext (by show (p.1 * 64 + p.2) / 64 = p.1; omega) (by show (p.1 * 64 + p.2) % 64 = p.2; omega)
theorem pcode_inj {p q : Int × Int} (h : in64 p = true) (h' : in64 q = true) (e : pcode p = pcode q) : p = q := by rw [← pcode_back h, e, pcode_back h']
theorem plist_inj {p q : Int × Int} (e : plist p = plist q) : p = q := by
  unfold plist at e
  injection e with e1 e2
  injection e2 with e2 _
  exact Prod.ext e1 e2
theorem bd_plist {p : Int × Int} (h : in64 p = true) : TS.Bd 64 (plist p) := fun m hm => by
  obtain ⟨a, b⟩ := in64_bd h
  rcases List.mem_cons.mp hm with e | e
  · rw [e]; exact a
  · rw [List.mem_singleton.mp e]; exact b
/-- the pairs' list, strictly rising by the code, with the same members, is the set sorted -/
theorem ssetP_uniq {qs ps : List (Int × Int)} (hq : ∀ q ∈ qs, q ∈ ps) (hp : ∀ p ∈ ps, p ∈ qs) (b : ∀ p ∈ ps, in64 p = true) (nd : qs.Nodup) (up : qs.Pairwise fun a b => pcode a ≤ pcode b) : qs = ssetP ps := by
  have up2 : (qs.map pcode).Pairwise (· < ·) := by
    rw [List.pairwise_map]
    refine List.Pairwise.imp_of_mem (fun {x y} hx hy h => ?_) (up.and nd)
    have ne : pcode x ≠ pcode y := fun e => h.2 (pcode_inj (b x (hq x hx)) (b y (hq y hy)) e)
    have := h.1
    omega
  have e : qs.map pcode = ssetI (ps.map pcode) := up_uniq up2 (ssetI_up _) fun z => by
    rw [ssetI_mem, List.mem_map, List.mem_map]
    exact ⟨fun ⟨q, h, e⟩ => ⟨q, hq q h, e⟩, fun ⟨q, h, e⟩ => ⟨q, hp q h, e⟩⟩
  unfold ssetP
  rw [← e, List.map_map]
  conv => lhs; rw [← List.map_id qs]
  refine List.map_congr_left fun q h => ?_
  exact (pcode_back (b q (hq q h))).symm
def tSsetP (K : PySem.W.Frag) (x : V) (H1 : Hp) (Q : VK) : Prop := ∃ (l : Addr) (ks : List (Addr × List Int)) (ps : List (Int × Int)), x = V.ref l ∧ (SqL K H1 l (ks.map fun p => V.ref p.1) ∨ SqT K H1 l (ks.map fun p => V.ref p.1)) ∧
  (∀ p ∈ ks, SqT K H1 p.1 (p.2.map V.int)) ∧ ks.map (·.2) = ps.map plist ∧ ks.length < 64 ∧ (∀ p ∈ ps, in64 p = true) ∧
  ∀ p (L' : List (Addr × List Int)), H1 p = none → (∀ q ∈ L', q ∈ ks) → L'.map (·.2) = (ssetP ps).map plist → Q (.ref p) (upd H1 p (.lst (L'.map fun q => V.ref q.1)))
theorem fin_setP {X : Cx} {pins : List (Addr × Obj)} {σ : L2.St} {H1 : Hp} {s1 : Shared} {Q : VK} (hc : X.calm = true) (I1 : Inv X pins σ H1 s1) {ks : List (Addr × List Int)} {ps : List (Int × Int)} (e2 : ks.map (·.2) = ps.map plist) (b : ∀ p ∈ ps, in64 p = true) (hf : ks.length < 64)
    (q1 : ∀ p (L' : List (Addr × List Int)), H1 p = none → (∀ q ∈ L', q ∈ ks) → L'.map (·.2) = (ssetP ps).map plist → Q (.ref p) (upd H1 p (.lst (L'.map fun q => V.ref q.1))))
    (h' : Heap) (tk : Nat) (L : List (Addr × List Int)) (es : Array (Int × Value)) (ep : Nat) (t : SetTable) (R : SetTR X.prog X.w h' s1.heap.objs.size L es ep t) (g : Got ks ks.length L) (k : ∀ b o, s1.heap.get? b = some o → h'.get? b = some o) :
    wpAny (model X.prog X.w) X.A (call (.builtin "sorted") [.ref s1.heap.objs.size]) (EP X pins σ Q) X.xe { s1 with heap := h', toks := tk } := by
  have I2 : Inv X pins σ H1 { s1 with heap := h', toks := tk } := I1.kept k
  have inK : ∀ q ∈ L, q ∈ ks := fun q h => List.mem_of_mem_take (g.sub q h)
  have allK : ∀ q ∈ ks, q.2 ∈ L.map (·.2) := fun q h => g.all q (by rw [List.take_length]; exact h)
  have nat2 : ∀ q ∈ ks, ∃ p ∈ ps, q.2 = plist p := fun q h => by
    have z : q.2 ∈ ps.map plist := by rw [← e2]; exact List.mem_map.mpr ⟨q, h, rfl⟩
    obtain ⟨p, hp, e⟩ := List.mem_map.mp z
    exact ⟨p, hp, e.symm⟩
  refine sorted_setT (s := { s1 with heap := h', toks := tk }) R (I1.ok.hd hc) (d := 2) (B := 64) (by decide) (fun q h => by
    obtain ⟨p, hp, e⟩ := nat2 q (inK q h)
    rw [e]
    exact ⟨rfl, bd_plist (b p hp)⟩) fun s' p out c L' k1 g1 o1 hz ho hout pm pw => ?_
  have inK' : ∀ q ∈ L', q ∈ ks := fun q h => inK q (pm.mem_iff.mp h)
  have up : ∃ qs : List (Int × Int), L'.map (·.2) = qs.map plist ∧ ∀ q ∈ qs, q ∈ ps := by
    clear pm pw hout
    induction L' with
    | nil => exact ⟨[], rfl, fun q h => (by cases h)⟩
    | cons x L' ih =>
      obtain ⟨qs, e, m⟩ := ih fun q h => inK' q (List.mem_cons_of_mem _ h)
      obtain ⟨p, hp, ex⟩ := nat2 x (inK' x (List.mem_cons_self ..))
      refine ⟨p :: qs, by rw [List.map_cons, List.map_cons, e, ex], fun q h => ?_⟩
      rcases List.mem_cons.mp h with z | z
      · rw [z]; exact hp
      · exact m q z
  obtain ⟨qs, eq, mq⟩ := up
  have nd2 : (L'.map (·.2)).Nodup := (pm.map (·.2)).nodup_iff.mpr R.nd
  have fq : qs = ssetP ps := by
    refine ssetP_uniq mq (fun p hp => ?_) b ?_ ?_
    · have z : plist p ∈ ks.map (·.2) := by rw [e2]; exact List.mem_map.mpr ⟨p, hp, rfl⟩
      obtain ⟨x, hx, ex⟩ := List.mem_map.mp z
      have y := allK x hx
      obtain ⟨x', hx', ex'⟩ := List.mem_map.mp y
      have z' : x'.2 ∈ qs.map plist := by rw [← eq]; exact List.mem_map.mpr ⟨x', pm.mem_iff.mpr hx', rfl⟩
      obtain ⟨p', hp', e'⟩ := List.mem_map.mp z'
      rw [ex', ex] at e'
      rw [← plist_inj e']
      exact hp'
    · rw [eq] at nd2
      exact nodup_of_map nd2
    · have z : (L'.map (·.2)).Pairwise fun x y => TS.code 64 x ≤ TS.code 64 y := List.pairwise_map.mpr pw
      rw [eq, List.pairwise_map] at z
      refine z.imp fun {x y} h => ?_
      rw [← code_plist, ← code_plist]
      exact h
  have hv : Vals (L'.map fun q => V.ref q.1) out.toList := by rw [hout]; exact vals_of_refs L'
  have hlen : (L'.map fun q => V.ref q.1).length ≤ sizeLine := by
    have := R.few
    rw [List.length_map, sizeLine_eq, pm.length_eq]; omega
  have ok : ObjOk X.prog X.w (upd H1 p (.lst (L'.map fun q => V.ref q.1))) s'.heap p (.lst (L'.map fun q => V.ref q.1)) := ⟨hlen, out.toList, c, hv, by rw [Array.toArray_toList]; exact ho⟩
  obtain ⟨sh, sg, sd, st, so⟩ := s'
  have sg' : sg = s1.gens := g1
  have so' : so = s1.os := o1
  subst sg' so'
  refine ⟨.ref p, _, ?_, rfl, q1 p L' (I2.hok.fresh hz) inK' (by rw [eq, fq])⟩
  exact Inv.call' I2 rfl (Un.laid k1 hz (I2.hok.fresh hz)) (I2.hok.laid k1 hz ok) I2.bare (ch := []) (fun _ z => nomatch z)
theorem pe_sset {X : Cx} {a : Expr} {ta : TE} {p p2 q pos : Pos} (hc : X.calm = true) (hu : X.A.units + 100 < cLine) (hg : Gl X "sorted") (hm : X.mg "sorted" = none) (hg2 : Gl X "set") (hm2 : X.mg "set" = none) (ha : PE X a ta)
    (na : starEach [a] X.env = (false, eval a X.env) :: starEach [] X.env) : PE X (.Call (.Name "sorted" p) [.Call (.Name "set" p2) [a] [] q] [] pos) (fun σ H Q => ta σ H fun x H1 => tSset X.K x H1 Q ∨ tSsetP X.K x H1 Q) := by
  refine ⟨fun pins s σ H Q I h => ?_⟩
  refine Call_ (ld_blt I hg hm (show bootBuiltins "sorted" = some (.builtin "sorted") by decide +kernel) ?_)
  refine PyProof.Rows.callWith_builtin1 (PyProof.Rows.args_cons ?_ rfl) rfl rfl
  refine Call_ (ld_blt I hg2 hm2 PyProof.Rows.boot_set ?_)
  refine PyProof.Rows.callWith_type1 (PyProof.Rows.args_cons (thn (ha.run pins s σ H _ I h) fun v s1 ⟨x, H1, I1, r1, q1⟩ => PyProof.Rows.args_nil ?_) na) na rfl
  rcases q1 with q1 | q1
  · obtain ⟨l, ns, rfl, hq, h1, q1⟩ := q1
    cases r1
    have fin : ∀ (h' : Heap) (tk c : Nat), SetR X.w h' s1.heap.objs.size (fun j => decide (j ∈ ns)) c → c ≤ ns.length → (∀ b o, s1.heap.get? b = some o → h'.get? b = some o) →
        wpAny (model X.prog X.w) X.A (call (.builtin "sorted") [.ref s1.heap.objs.size]) (EP X pins σ Q) X.xe { s1 with heap := h', toks := tk } := fun h' tk c R hc' hk => by
      have I2 : Inv X pins σ H1 { s1 with heap := h', toks := tk } := I1.kept hk
      refine sorted_set (s := { s1 with heap := h', toks := tk }) R (I1.ok.hd hc) (by omega) fun s' p out cp ns' k1 g1 o1 hz ho ia up mem hl => ?_
      have e : ns' = ssetI ns := up_uniq up (ssetI_up ns) fun z => by rw [mem, ssetI_mem, decide_eq_true_eq]
      have vr : Vals ((ssetI ns).map V.int) out.toList := by rw [← e]; exact vals_of_ints ia
      have hlen : ((ssetI ns).map V.int).length ≤ sizeLine := by
        rw [List.length_map, ← e, hl, sizeLine_eq]; omega
      have ok : ObjOk X.prog X.w (upd H1 p (.lst ((ssetI ns).map V.int))) s'.heap p (.lst ((ssetI ns).map V.int)) := ⟨hlen, out.toList, cp, vr, by rw [Array.toArray_toList]; exact ho⟩
      obtain ⟨sh, sg, sd, st, so⟩ := s'
      have sg' : sg = s1.gens := g1
      have so' : so = s1.os := o1
      subst sg' so'
      refine ⟨.ref p, _, ?_, rfl, q1 p (I2.hok.fresh hz)⟩
      exact Inv.call' I2 rfl (Un.laid k1 hz (I2.hok.fresh hz)) (I2.hok.laid k1 hz ok) I2.bare (ch := []) (fun _ z => nomatch z)
    rcases hq with hq | hq
    · obtain ⟨its, r, pl, hz⟩ := I1.list hq
      exact call_set_listI ns (I1.ok.hd hc) pl.isList (by rw [List.toList_toArray]; exact r.ints) (by unfold scanBound; omega) fun h' tk c R hc' hk => PyProof.Rows.args_nil (fin h' tk c R hc' hk)
    · obtain ⟨its, r, pl, hz⟩ := I1.tuple hq
      exact call_set_tupI ns (I1.ok.hd hc) pl (by rw [List.toList_toArray]; exact r.ints) (by unfold scanBound; omega) fun h' tk c R hc' hk => PyProof.Rows.args_nil (fin h' tk c R hc' hk)
  · obtain ⟨l, ks, ps, rfl, hq, hk, e2, hf, b, q1⟩ := q1
    cases r1
    rcases hq with hq | hq
    · obtain ⟨its, rv, pl, hz⟩ := I1.list hq
      exact call_set_tups (P := X.prog) (w := X.w) ks (I1.ok.hd hc) pl.isList (by simpa using refs_of_vals rv) (fun p hp => I1.isT (hk p hp)) hf (by omega) fun h' tk L es ep t R g k => PyProof.Rows.args_nil (fin_setP hc I1 e2 b hf q1 h' tk L es ep t R g k)
    · obtain ⟨its, rv, pl, hz⟩ := I1.tuple hq
      exact call_set_tupsT (P := X.prog) (w := X.w) ks (I1.ok.hd hc) pl (by simpa using refs_of_vals rv) (fun p hp => I1.isT (hk p hp)) hf (by omega) fun h' tk L es ep t R g k => PyProof.Rows.args_nil (fin_setP hc I1 e2 b hf q1 h' tk L es ep t R g k)
theorem ints_rep {C : RC} : ∀ ns : List Int, RepAll C (ns.map V.int) (ns.map D.int)
  | [] => .nil
  | n :: ns => .cons (.int n) (ints_rep ns)
/-- pairs as the tuples that stand in a row -/
theorem pairs_vs {C : RC} : ∀ {ds : List D} {ps : List (Int × Int)} {vs : List V}, pairsOf ds = some ps → RepAll C vs ds → ∃ ks : List (Addr × List Int), vs = ks.map (fun p => V.ref p.1) ∧ ks.map (·.2) = ps.map plist ∧ ∀ q ∈ ks, SqT C.K C.F q.1 (q.2.map V.int) ∧ ∀ p, q.2 = plist p → Rep C (.ref q.1) (pairD p)
  | [], _, _, h, r => by cases h; cases r; exact ⟨[], rfl, rfl, fun q h => (by cases h)⟩
  | d :: ds, _, _, h, r => by
    cases r with
    | cons r1 r2 =>
      unfold pairsOf at h
      split at h
      · rename_i e; cases e
      · rename_i x y ds' e
        injection e with e1 e2
        subst e1 e2
        obtain ⟨ps, e, rfl⟩ := Option.map_eq_some_iff.mp h
        obtain ⟨ks, e1, e2, m⟩ := pairs_vs e r2
        cases r1 with
        | tup h1 h2 =>
          rename_i a xs
          have hr : Rep C (.ref a) (.tup [.int x, .int y]) := .tup h1 h2
          cases h2 with
          | cons u1 u2 =>
            cases u2 with
            | cons u2 u3 =>
              cases u1
              cases u2
              cases u3
              refine ⟨(a, plist (x, y)) :: ks, by rw [List.map_cons, e1], by rw [List.map_cons, List.map_cons, e2], fun q h => ?_⟩
              rcases List.mem_cons.mp h with z | z
              · subst z
                refine ⟨h1.sq, fun p e => ?_⟩
                rw [← plist_inj e]
                exact hr
              · exact m q z
      · cases h
theorem rep_pairs {C : RC} : ∀ (L : List (Addr × List Int)) (ps : List (Int × Int)), L.map (·.2) = ps.map plist → (∀ q ∈ L, ∀ p, q.2 = plist p → Rep C (.ref q.1) (pairD p)) → RepAll C (L.map fun q => V.ref q.1) (ps.map pairD)
  | [], [], _, _ => .nil
  | [], _ :: _, e, _ => nomatch e
  | _ :: _, [], e, _ => nomatch e
  | q :: L, p :: ps, e, m => by
    rw [List.map_cons, List.map_cons] at e
    injection e with e1 e2
    exact .cons (m q (List.mem_cons_self ..) p e1) (rep_pairs L ps e2 fun q h => m q (List.mem_cons_of_mem _ h))
section
variable {X : Cx} {g : G} {W : WX} {H0 : Hp} {env : Hb.Env} {a : Expr} {ia : E} {pos : Pos}
theorem x_sset {p p2 q : Pos} (hK : X.K = g.K) (hc : X.calm = true) (hu : X.A.units + 100 < cLine) (hg : Gl X "sorted") (hm : X.mg "sorted" = none) (hg2 : Gl X "set") (hm2 : X.mg "set" = none) (ha : PE X a (tE g W H0 ia env))
    (na : starEach [a] X.env = (false, eval a X.env) :: starEach [] X.env) : PE X (.Call (.Name "sorted" p) [.Call (.Name "set" p2) [a] [] q] [] pos) (tE g W H0 (.p1 .sset ia) env) := by
  refine PE.imp (pe_sset hc hu hg hm hg2 hm2 ha na) fun σ H Q ⟨C, st, oc, S, o⟩ => ⟨C, st, oc, S, o.bindI fun kd st1 q v C1 H1 p r n => ?_⟩
  obtain ⟨k, d⟩ := kd
  obtain ⟨xs, hd, q1⟩ := OutG.items (OutG.bind q)
  have hd2 : ∃ (a : Addr) (vs : List V), v = .ref a ∧ (SqL X.K H1 a vs ∨ SqT X.K H1 a vs) ∧ RepAll C1 vs xs := by
    rcases hd with hd | hd
    · have r : RepK C1 H1 k v (.lst xs) := hd ▸ r
      obtain ⟨a, vs, rfl, ha, ra⟩ := repK_lst p.sub r
      exact ⟨a, vs, rfl, .inl (.inl (.inl ha)), ra⟩
    · have r : RepK C1 H1 k v (.tup xs) := hd ▸ r
      obtain ⟨a, vs, rfl, ha, ra, _⟩ := repK_tup r
      exact ⟨a, vs, rfl, .inr (by rw [hK, ← (oc.step p.le).K]; exact sqT_mono p.sub ha), ra⟩
  obtain ⟨a, vs, rfl, ha, ra⟩ := hd2
  cases e1 : intsOf xs with
  | some ns =>
    have es : ssetD xs = (do guard_ (decide (ns.length < 64)); pure (.fr, .lst ((ssetI ns).map .int)) : M KD) := by unfold ssetD; rw [e1]
    rw [es] at q1
    obtain ⟨g1, q1⟩ := OutG.guardB q1
    have fin : ∀ ad, H1 ad = none → Q (.ref ad) (upd H1 ad (.lst ((ssetI ns).map V.int))) := fun ad hp => by
      obtain ⟨p1, p2⟩ := new_lst p.sub p.row hp (ints_rep (ssetI ns))
      exact (show RE C H Q (.fr, .lst ((ssetI ns).map D.int)) st1 from q1) _ _ _ (p.trans p1) p2 (New.shift p (k := .fr) (fun a e => by cases e; exact hp))
    exact .inl ⟨a, ns, rfl, by rw [← ints_vs e1 ra]; exact ha, of_decide_eq_true g1, fin⟩
  | none =>
    have es : ssetD xs = (do let ps ← Hb.need (pairsOf xs); guard_ (decide (ps.length < 64) && ps.all in64); pure (.fr, .lst ((ssetP ps).map pairD)) : M KD) := by unfold ssetD; rw [e1]
    rw [es] at q1
    obtain ⟨ps, e1, q1⟩ := OutG.needB q1
    obtain ⟨g1, q1⟩ := OutG.guardB q1
    rw [Bool.and_eq_true] at g1
    obtain ⟨ks, ev, e2, m⟩ := pairs_vs e1 ra
    have hl : ks.length = ps.length := by have := congrArg List.length e2; rwa [List.length_map, List.length_map] at this
    refine .inr ⟨a, ks, ps, rfl, by rw [← ev]; exact ha, fun q h => by rw [hK, ← (oc.step p.le).K]; exact sqT_mono p.sub (m q h).1, e2, by rw [hl]; exact of_decide_eq_true g1.1, fun q h => List.all_eq_true.mp g1.2 q h, fun ad L' hp sub eL => ?_⟩
    obtain ⟨p1, p2⟩ := new_lst p.sub p.row hp (rep_pairs L' (ssetP ps) eL fun q h => (m q (sub q h)).2)
    exact (show RE C H Q (.fr, .lst ((ssetP ps).map pairD)) st1 from q1) _ _ _ (p.trans p1) p2 (New.shift p (k := .fr) (fun a e => by cases e; exact hp))
end
end Hb
namespace Hb
open PySem PySem.Spec PyProof.Rows L2

/-! ### looking into the text -/
def cName (e : Expr) (k : Str → Bool) : Bool := match e with | .Name x _ => k x | _ => false
theorem cName_of {e : Expr} {k : Str → Bool} (h : cName e k = true) : ∃ x p, e = .Name x p ∧ k x = true := by
  cases e <;> first | exact ⟨_, _, rfl, h⟩ | exact absurd h Bool.false_ne_true
def cConst (e : Expr) (k : Const → Bool) : Bool := match e with | .Constant c _ _ => k c | _ => false
theorem cConst_of {e : Expr} {k : Const → Bool} (h : cConst e k = true) : ∃ x j p, e = .Constant x j p ∧ k x = true := by
  cases e <;> first | exact ⟨_, _, _, rfl, h⟩ | exact absurd h Bool.false_ne_true
def cTup (e : Expr) (k : List Expr → Bool) : Bool := match e with | .Tuple es _ _ => k es | _ => false
theorem cTup_of {e : Expr} {k : List Expr → Bool} (h : cTup e k = true) : ∃ x j p, e = .Tuple x j p ∧ k x = true := by
  cases e <;> first | exact ⟨_, _, _, rfl, h⟩ | exact absurd h Bool.false_ne_true
def cList (e : Expr) (k : List Expr → Bool) : Bool := match e with | .List es _ => k es | _ => false
theorem cList_of {e : Expr} {k : List Expr → Bool} (h : cList e k = true) : ∃ x p, e = .List x p ∧ k x = true := by
  cases e <;> first | exact ⟨_, _, rfl, h⟩ | exact absurd h Bool.false_ne_true
def cBin (e : Expr) (k : Expr → Operator → Expr → Bool) : Bool := match e with | .BinOp a o b _ => k a o b | _ => false
theorem cBin_of {e : Expr} {k : Expr → Operator → Expr → Bool} (h : cBin e k = true) : ∃ a o b p, e = .BinOp a o b p ∧ k a o b = true := by
  cases e <;> first | exact ⟨_, _, _, _, rfl, h⟩ | exact absurd h Bool.false_ne_true
def cUn (e : Expr) (k : UnaryOp → Expr → Bool) : Bool := match e with | .UnaryOp o a _ => k o a | _ => false
theorem cUn_of {e : Expr} {k : UnaryOp → Expr → Bool} (h : cUn e k = true) : ∃ o a p, e = .UnaryOp o a p ∧ k o a = true := by
  cases e <;> first | exact ⟨_, _, _, rfl, h⟩ | exact absurd h Bool.false_ne_true
def cBool (e : Expr) (k : BoolOp → List Expr → Bool) : Bool := match e with | .BoolOp o a _ => k o a | _ => false
theorem cBool_of {e : Expr} {k : BoolOp → List Expr → Bool} (h : cBool e k = true) : ∃ o a p, e = .BoolOp o a p ∧ k o a = true := by
  cases e <;> first | exact ⟨_, _, _, rfl, h⟩ | exact absurd h Bool.false_ne_true
def cIf (e : Expr) (k : Expr → Expr → Expr → Bool) : Bool := match e with | .IfExp c a b _ => k c a b | _ => false
theorem cIf_of {e : Expr} {k : Expr → Expr → Expr → Bool} (h : cIf e k = true) : ∃ c a b p, e = .IfExp c a b p ∧ k c a b = true := by
  cases e <;> first | exact ⟨_, _, _, _, rfl, h⟩ | exact absurd h Bool.false_ne_true
def cCmp (e : Expr) (k : Expr → List CmpOp → List Expr → Bool) : Bool := match e with | .Compare a os bs _ => k a os bs | _ => false
theorem cCmp_of {e : Expr} {k : Expr → List CmpOp → List Expr → Bool} (h : cCmp e k = true) : ∃ a os bs p, e = .Compare a os bs p ∧ k a os bs = true := by
  cases e <;> first | exact ⟨_, _, _, _, rfl, h⟩ | exact absurd h Bool.false_ne_true
def cSub (e : Expr) (k : Expr → Expr → Bool) : Bool := match e with | .Subscript a b _ => k a b | _ => false
theorem cSub_of {e : Expr} {k : Expr → Expr → Bool} (h : cSub e k = true) : ∃ a b p, e = .Subscript a b p ∧ k a b = true := by
  cases e <;> first | exact ⟨_, _, _, rfl, h⟩ | exact absurd h Bool.false_ne_true
def cSlice (e : Expr) (k : Option Expr → Option Expr → Option Expr → Bool) : Bool := match e with | .Slice a b c _ => k a b c | _ => false
theorem cSlice_of {e : Expr} {k : Option Expr → Option Expr → Option Expr → Bool} (h : cSlice e k = true) : ∃ a b c p, e = .Slice a b c p ∧ k a b c = true := by
  cases e <;> first | exact ⟨_, _, _, _, rfl, h⟩ | exact absurd h Bool.false_ne_true
def cNone {α : Type} (o : Option α) : Bool := match o with | none => true | some _ => false
theorem cNone_of {α : Type} {o : Option α} (h : cNone o = true) : o = none := by
  cases o with
  | none => rfl
  | some _ => exact absurd h Bool.false_ne_true
/-- f(args), f a name, no keywords -/
def cCall (e : Expr) (k : Str → List Expr → Bool) : Bool := match e with | .Call f as [] _ => cName f fun x => k x as | _ => false
theorem cCall_of {e : Expr} {k : Str → List Expr → Bool} (h : cCall e k = true) : ∃ x q as p, e = .Call (.Name x q) as [] p ∧ k x as = true := by
  cases e with
  | Call f as kw p =>
    cases kw with
    | nil =>
      obtain ⟨x, q, rfl, h⟩ := cName_of (show cName f (fun x => k x as) = true from h)
      exact ⟨x, q, as, p, rfl, h⟩
    | cons _ _ => exact absurd h Bool.false_ne_true
  | _ => exact absurd h Bool.false_ne_true
def cLC (e : Expr) (k : Expr → Expr → Expr → List Expr → Scope → Bool) : Bool := match e with | .ListComp el [⟨tg, it, ifs, n⟩] sc _ => (n == 0) && k el tg it ifs sc | _ => false
theorem cLC_of {e : Expr} {k : Expr → Expr → Expr → List Expr → Scope → Bool} (h : cLC e k = true) : ∃ el tg it ifs sc p, e = .ListComp el [⟨tg, it, ifs, 0⟩] sc p ∧ k el tg it ifs sc = true := by
  cases e with
  | ListComp el gs sc p =>
    cases gs with
    | nil => exact absurd h Bool.false_ne_true
    | cons c r =>
      obtain ⟨tg, it, ifs, n⟩ := c
      cases r with
      | cons _ _ => exact absurd h Bool.false_ne_true
      | nil =>
        have h : ((n == 0) && k el tg it ifs sc) = true := h
        rw [Bool.and_eq_true] at h
        have e := eq_of_beq h.1
        subst e
        exact ⟨el, tg, it, ifs, sc, p, rfl, h.2⟩
  | _ => exact absurd h Bool.false_ne_true
def c1 (l : List Expr) (k : Expr → Bool) : Bool := match l with | [a] => k a | _ => false
theorem c1_of {l : List Expr} {k : Expr → Bool} (h : c1 l k = true) : ∃ a, l = [a] ∧ k a = true := by
  match l, h with
  | [a], h => exact ⟨a, rfl, h⟩
  | [], h => exact absurd h Bool.false_ne_true
  | _ :: _ :: _, h => exact absurd h Bool.false_ne_true
def c2 (l : List Expr) (k : Expr → Expr → Bool) : Bool := match l with | [a, b] => k a b | _ => false
theorem c2_of {l : List Expr} {k : Expr → Expr → Bool} (h : c2 l k = true) : ∃ a b, l = [a, b] ∧ k a b = true := by
  match l, h with
  | [a, b], h => exact ⟨a, b, rfl, h⟩
  | [], h => exact absurd h Bool.false_ne_true
  | [_], h => exact absurd h Bool.false_ne_true
  | _ :: _ :: _ :: _, h => exact absurd h Bool.false_ne_true
def notStar : Expr → Bool
  | .Starred _ _ => false
  | _ => true
theorem star_of {e : Expr} (h : notStar e = true) (es : List Expr) (env : PySem.Env) : starEach (e :: es) env = (false, eval e env) :: starEach es env := by
  cases e <;> first | rfl | exact absurd h Bool.false_ne_true
theorem star_plain {pos : Pos} {env : PySem.Env} : ∀ {es : List Expr}, es.all notStar = true → (backTo pos (starEach es env)).any (·.1) = false
  | [], _ => rfl
  | e :: es, h => by
    rw [List.all_cons, Bool.and_eq_true] at h
    rw [star_of h.1]
    show (false || (backTo pos (starEach es env)).any (·.1)) = false
    rw [star_plain h.2]; rfl
def notSlice : Expr → Bool
  | .Slice _ _ _ _ => false
  | _ => true
theorem plainIx_of {e : Expr} (h : notSlice e = true) : PlainIx e := by
  intro o i
  cases e <;> first | rfl | exact absurd h Bool.false_ne_true
def notSet : Expr → Bool
  | .Set _ _ _ => false
  | _ => true
theorem notSet_of {e : Expr} (h : notSet e = true) (env : PySem.Env) (x : Value) : foldedSetIterable e env x = pure x := by
  cases e <;> first | rfl | exact absurd h Bool.false_ne_true

/-- o.m(..) without keywords -/
def cMt (e : Expr) (k : Expr → Str → Pos → List Expr → Pos → Bool) : Bool := match e with | .Call (.Attribute o m ap) as [] cp => k o m ap as cp | _ => false
theorem cMt_of {e : Expr} {k : Expr → Str → Pos → List Expr → Pos → Bool} (h : cMt e k = true) : ∃ o m ap as cp, e = .Call (.Attribute o m ap) as [] cp ∧ k o m ap as cp = true := by
  cases e with
  | Call f as kw cp =>
    cases f with
    | Attribute o m ap =>
      cases kw with
      | nil => exact ⟨o, m, ap, as, cp, rfl, h⟩
      | cons _ _ => exact absurd h Bool.false_ne_true
    | _ => exact absurd h Bool.false_ne_true
  | _ => exact absurd h Bool.false_ne_true
def cNil {α : Type} (l : List α) : Bool := match l with | [] => true | _ :: _ => false
theorem cNil_of {α : Type} {l : List α} (h : cNil l = true) : l = [] := by
  cases l with
  | nil => rfl
  | cons _ _ => exact absurd h Bool.false_ne_true
def cDict0 (e : Expr) : Bool := match e with | .Dict [] [] _ => true | _ => false
theorem cDict0_of {e : Expr} (h : cDict0 e = true) : ∃ p, e = .Dict [] [] p := by
  cases e with
  | Dict ks vs p =>
    match ks, vs, h with
    | [], [], _ => exact ⟨p, rfl⟩
    | [], _ :: _, h => exact absurd h Bool.false_ne_true
    | _ :: _, _, h => exact absurd h Bool.false_ne_true
  | _ => exact absurd h Bool.false_ne_true
def cDict1 (e : Expr) (k : Expr → Expr → Bool) : Bool := match e with | .Dict [some a] [b] _ => k a b | _ => false
theorem cDict1_of {e : Expr} {k : Expr → Expr → Bool} (h : cDict1 e k = true) : ∃ a b p, e = .Dict [some a] [b] p ∧ k a b = true := by
  cases e with
  | Dict ks vs p =>
    match ks, vs, h with
    | [some a], [b], h => exact ⟨a, b, p, rfl, h⟩
    | [], _, h => exact absurd h Bool.false_ne_true
    | [none], _, h => exact absurd h Bool.false_ne_true
    | none :: _ :: _, _, h => exact absurd h Bool.false_ne_true
    | some _ :: _ :: _, [], h => exact absurd h Bool.false_ne_true
    | some _ :: _ :: _, _ :: _, h => exact absurd h Bool.false_ne_true
    | [some _], [], h => exact absurd h Bool.false_ne_true
    | [some _], _ :: _ :: _, h => exact absurd h Bool.false_ne_true
  | _ => exact absurd h Bool.false_ne_true
/-- not super() -/
def isCstS (a : E) (o : Expr) : Bool := match a, o with
  | .cst (.str s), .Constant (.str t) _ _ => s == t && decide (t.length ≤ 1000)
  | _, _ => false
theorem isCstS_of {a : E} {o : Expr} (h : isCstS a o = true) : ∃ s j p, a = .cst (.str s) ∧ o = .Constant (.str s) j p ∧ s.length ≤ 1000 := by
  unfold isCstS at h
  split at h
  · rename_i s t j p
    rw [Bool.and_eq_true] at h
    have e := eq_of_beq h.1
    subst e
    exact ⟨_, j, p, rfl, rfl, of_decide_eq_true h.2⟩
  · cases h
def cAt (e : Expr) (k : Expr → Str → Bool) : Bool := match e with | .Attribute o f _ => k o f | _ => false
theorem cAt_of {e : Expr} {k : Expr → Str → Bool} (h : cAt e k = true) : ∃ o f p, e = .Attribute o f p ∧ k o f = true := by
  cases e with
  | Attribute o f p => exact ⟨o, f, p, rfl, h⟩
  | _ => exact absurd h Bool.false_ne_true
def baseOk (e : Expr) : Bool := match e with | .Call _ [] [] _ => false | _ => true
theorem baseOk_of {o : Expr} (h : baseOk o = true) (n : Str) (env : PySem.Env) : attributeBase o n env (eval o env) = eval o env := by
  cases o with
  | Call f as kw p =>
    cases as with
    | nil =>
      cases kw with
      | nil => exact absurd h Bool.false_ne_true
      | cons _ _ => cases f <;> rfl
    | cons _ _ => cases f <;> rfl
  | _ => rfl
def isTupE (e : Expr) : Bool := match e with | .Tuple _ _ _ => true | _ => false
theorem isTupE_of {e : Expr} (h : isTupE e = true) : ∃ es k p, e = .Tuple es k p := by
  cases e <;> first | exact ⟨_, _, _, rfl⟩ | exact absurd h Bool.false_ne_true

/-! ### names -/
structure Cf where
  N : List Str
  fs : List (Str × Nat × Nat)
  cs : List (Str × Nat)
  bs : List Str
  xs : List (Str × Nat)
  xf : List (Str × Nat × Str)
  ms : List (Str × Nat × Nat) := []
  rc : List Str := []
def vis (sc : Scope) (x : Str) : Bool := match sc.names.lookup x with | some .local => true | some .cell => true | some .free => true | _ => false
theorem vis_of {sc : Scope} {x : Str} (h : vis sc x = true) : Vis sc x := by
  unfold vis at h
  unfold Vis
  split at h
  · rename_i e; exact .inl e
  · rename_i e; exact .inr (.inl e)
  · rename_i e; exact .inr (.inr e)
  · exact absurd h Bool.false_ne_true
def glo (sc : Scope) (x : Str) : Bool := match sc.names.lookup x with | some .globalImplicit => true | _ => false
theorem glo_of {sc : Scope} {x : Str} (h : glo sc x = true) : sc.names.lookup x = some .globalImplicit := by
  unfold glo at h
  split at h
  · assumption
  · exact absurd h Bool.false_ne_true
def nmOk (x : Str) : Bool := !(x == ("__debug__" : Str)) && !(x == ("__classdict__" : Str)) && !(x == ("__name__" : Str))
theorem nmOk_of {x : Str} (h : nmOk x = true) : (x == ("__debug__" : Str)) = false ∧ (x == ("__classdict__" : Str)) = false ∧ x ≠ "__name__" := by
  unfold nmOk at h
  simp only [Bool.and_eq_true, Bool.not_eq_true'] at h
  exact ⟨h.1.1, h.1.2, fun e => by rw [e] at h; exact absurd h.2 (by decide)⟩
def isN (cf : Cf) (i : Nat) (x : Str) : Bool := match cf.N[i]? with | some y => x == y | none => false
theorem isN_of {cf : Cf} {i : Nat} {x : Str} (h : isN cf i x = true) : cf.N[i]? = some x := by
  unfold isN at h
  split at h
  · rename_i y e; rw [e, eq_of_beq h]
  · exact absurd h Bool.false_ne_true
/-- a built-in's name -/
def blt (cf : Cf) (sc : Scope) (x : Str) (n : Str) : Bool := (x == n) && glo sc x && cf.bs.contains x
/-- where a name may be stored -/
def stOk (sc : Scope) (fnc : Str → Bool) (x : Str) : Bool := match sc.names.lookup x with | some .local => true | some .cell => fnc x | _ => false

/-! ### the checker -/
/-- the value of a written constant -/
def cstIs (d : D) (c : Const) : Bool := match d, c with
  | .non, .none => true
  | .bl a, .bool b => a == b
  | .int i, .int j => i == j
  | .str x, .str y => x == y
  | _, _ => false
/-- a built-in of one value: its name, is it a type -/
def p1Nm : P1 → Option (String × Bool)
  | .len => some ("len", false) | .sorted => some ("sorted", false) | .sum => some ("sum", false) | .min => some ("min", false) | .max => some ("max", false) | .abs => some ("abs", false)
  | .tuple => some ("tuple", true) | .list => some ("list", true) | .int => some ("int", true) | .str => some ("str", true) | .dict => some ("dict", true)
  | _ => none
def isM1 (e : Expr) : Bool := cUn e fun o a => (match o with | .USub => true | _ => false) && cConst a fun c => match c with | .int i => i == 1 | _ => false
def kdNm : Kd → Str
  | .int => "int" | .bool => "bool" | .str => "str" | .tuple => "tuple" | .list => "list"
/-- the scope within a comprehension: relS's -/
def inSc (sc scope : Scope) : Scope := relS scope sc
mutual
def chkP (cf : Cf) (sc : Scope) (fnc : Str → Bool) : Pat → Expr → Bool
  | .nm i, e => cName e fun x => isN cf i x && stOk sc fnc x
  | .tp ps, e => cTup e fun es => chkPs cf sc fnc ps es
def chkPs (cf : Cf) (sc : Scope) (fnc : Str → Bool) : List Pat → List Expr → Bool
  | [], es => es.isEmpty
  | p :: ps, es => match es with
    | e :: es => notStar e && chkP cf sc fnc p e && chkPs cf sc fnc ps es
    | [] => false
end
def ownOf' (cf : Cf) (p : Pat) : List (Str × Nat) := p.slots.map fun i => ((cf.N[i]?).getD "", i)
def blkFn (scope : Scope) (x : Str) : Bool := scope.names.lookup x == some .cell
/-- may it be a test -/
def tstOk : E → Bool
  | .ite _ _ _ => false
  | .not_ a => tstOk a
  | _ => true
section
variable (cf : Cf)
mutual
def chkE : E → Scope → Expr → Bool
  | .var i, sc, e => cName e fun x => isN cf i x && vis sc x && nmOk x
  | .cst d, _, e => cConst e fun c => cstIs d c
  | .glob i, sc, e => cName e fun x => (cf.cs.lookup x == some i) && glo sc x && nmOk x
  | .tup ies, sc, e => cTup e fun es => szA ies && chkA ies sc es
  | .lst ies, sc, e => cList e fun es => szA ies && chkA ies sc es
  | .bin op a b, sc, e => cBin e fun l o r => decide (o = opA op) && chkE a sc l && chkE b sc r
  | .neg a, sc, e => cUn e fun o x => decide (o = .USub) && chkE a sc x
  | .not_ a, sc, e => cUn e fun o x => decide (o = .Not) && chkE a sc x
  | .and_ ies, sc, e => cBool e fun o es => decide (o = .And) && !es.isEmpty && chkL ies sc es
  | .or_ ies, sc, e => cBool e fun o es => decide (o = .Or) && !es.isEmpty && chkL ies sc es
  | .ite c a b, sc, e => cIf e fun x y z => chkE c sc x && tstOk c && chkE a sc y && chkE b sc z
  | .cmp op a b, sc, e => cCmp e fun l os rs => decide (os = [cmpO op]) && c1 rs fun r => chkE a sc l && chkE b sc r && !behindInMarks (cmpO op) r
  | .cmp2 op op' a b c, sc, e => cCmp e fun l os rs => decide (os = [cmpO op, cmpO op']) && c2 rs fun r z => chkE a sc l && chkE b sc r && chkE c sc z && !behindInMarks (cmpO op') z
  | .idx a b, sc, e => cSub e fun x y => chkE a sc x && chkE b sc y && notSlice y
  | .slc a lo hi, sc, e => cSub e fun x y => chkE a sc x && cSlice y fun l h st => chkO lo sc l && chkO hi sc h && cNone st
  | .dct kvs, sc, e => chkD kvs sc e
  | .mkm, _, e => cDict0 e
  | .mkrd a, sc, e => cCall e fun x es => cf.rc.contains x && glo sc x && nmOk x && c1 es fun y => notStar y && chkE a sc y
  | .rdf a t, sc, e => cAt e fun o f => (f == (if t = true then ("text" : Str) else ("at" : Str))) && !cf.rc.isEmpty && baseOk o && chkE a sc o
  | .mth f a ies, sc, e => cMt e fun o m ap as cp => (cf.ms.lookup m == some (f, ies.length)) && chkE a sc o && baseOk o && (ap.endLine == cp.line) && decide (as.length < 29) && chkA ies sc as && !(m == ("text" : Str)) && !(m == ("at" : Str)) && !cf.rc.isEmpty
  | .getd a ies, sc, e => cMt e fun o m ap as cp => (m == ("get" : Str)) && chkE a sc o && baseOk o && (ap.endLine == cp.line) && decide (ies.length = 2) && chkA ies sc as
  | .mt .count a b, sc, e => cMt e fun o m ap as cp => (m == ("count" : Str)) && chkE a sc o && baseOk o && (ap.endLine == cp.line) && c1 as fun y => notStar y && chkE b sc y
  | .mt .join a b, sc, e => cMt e fun o m ap as cp => (m == ("join" : Str)) && isCstS a o && (ap.endLine == cp.line) && c1 as fun y => notStar y && chkE b sc y
  | .mt .index a b, sc, e => cMt e fun o m ap as cp => (m == ("index" : Str)) && chkE a sc o && baseOk o && (ap.endLine == cp.line) && c1 as fun y => notStar y && chkE b sc y
  | .p1 .skeys a, sc, e => cCall e fun x es => blt cf sc x "sorted" && c1 es fun y => cMt y fun o m ap as cp => (m == ("keys" : Str)) && cNil as && baseOk o && (ap.endLine == cp.line) && chkE a sc o
  | .p1 .svals a, sc, e => cCall e fun x es => blt cf sc x "sum" && c1 es fun y => cMt y fun o m ap as cp => (m == ("values" : Str)) && cNil as && baseOk o && (ap.endLine == cp.line) && chkE a sc o
  | .p1 .lvals a, sc, e => cCall e fun x es => blt cf sc x "list" && c1 es fun y => cMt y fun o m ap as cp => (m == ("values" : Str)) && cNil as && baseOk o && (ap.endLine == cp.line) && chkE a sc o
  | .p1 .mxvals a, sc, e => cCall e fun x es => blt cf sc x "max" && c1 es fun y => cMt y fun o m ap as cp => (m == ("values" : Str)) && cNil as && baseOk o && (ap.endLine == cp.line) && chkE a sc o
  | .call f ies, sc, e => cCall e fun x es => (cf.fs.lookup x == some (f, ies.length)) && glo sc x && nmOk x && !es.isEmpty && chkA ies sc es
  | .p1 .rev a, sc, e => cSub e fun x y => chkE a sc x && cSlice y fun l h st => cNone l && cNone h && (match st with | some z => isM1 z | none => false)
  | .p1 .sset a, sc, e => cCall e fun x es => blt cf sc x "sorted" && c1 es fun y => cCall y fun x es => blt cf sc x "set" && c1 es fun y => notStar y && chkE a sc y
  | .p1 p a, sc, e => match p1Nm p with
    | some (n, _) => cCall e fun x es => blt cf sc x (Str.ofString n) && c1 es fun y => notStar y && chkE a sc y
    | none => false
  | .p2 .min a b, sc, e => cCall e fun x es => blt cf sc x "min" && c2 es fun y z => notStar y && notStar z && chkE a sc y && chkE b sc z
  | .p2 .max a b, sc, e => cCall e fun x es => blt cf sc x "max" && c2 es fun y z => notStar y && notStar z && chkE a sc y && chkE b sc z
  | .lrng ies, sc, e => cCall e fun x es => blt cf sc x "list" && c1 es fun y => cCall y fun x es => blt cf sc x "range" && chkA ies sc es && decide (1 ≤ ies.length) && decide (ies.length ≤ 3)
  | .trng ies, sc, e => cCall e fun x es => blt cf sc x "tuple" && c1 es fun y => cCall y fun x es => blt cf sc x "range" && chkA ies sc es && decide (1 ≤ ies.length) && decide (ies.length ≤ 2)
  | .isa a ks, sc, e => cCall e fun x es => blt cf sc x "isinstance" && c2 es fun y z => notStar y && chkE a sc y && (match ks with
    | [k] => cName z fun n => blt cf sc n (kdNm k) && nmOk n
    | [k, k'] => cTup z fun zs => c2 zs fun z z' => cName z fun n => cName z' fun n' => blt cf sc n (kdNm k) && nmOk n && blt cf sc n' (kdNm k') && nmOk n'
    | _ => false)
  | .lc elt p it cond, sc, e => cLC e fun el tg iter ifs scope => blkC cf.N sc scope (ownOf' cf p) && chkP cf (inSc sc scope) (blkFn scope) p tg && chkI it sc tg iter && notSet iter && chkC cond (inSc sc scope) ifs && chkE elt (inSc sc scope) el
  | _, _, _ => false
def chkO : Option E → Scope → Option Expr → Bool
  | none, _, o => cNone o
  | some ie, sc, o => match o with
    | some e => chkE ie sc e
    | none => false
def chkC : Option E → Scope → List Expr → Bool
  | none, _, es => es.isEmpty
  | some ie, sc, es => c1 es fun e => chkE ie sc e && tstOk ie
def chkA : List E → Scope → List Expr → Bool
  | [], _, es => es.isEmpty
  | ie :: ies, sc, es => match es with
    | e :: es => notStar e && chkE ie sc e && chkA ies sc es
    | [] => false
def chkL : List E → Scope → List Expr → Bool
  | [], _, es => es.isEmpty
  | ie :: ies, sc, es => match es with
    | e :: es => chkE ie sc e && tstOk ie && chkL ies sc es
    | [] => false
def chkD : List (E × E) → Scope → Expr → Bool
  | [], _, e => cDict0 e
  | p :: r, sc, e => r.isEmpty && chkPr p sc e
def chkPr : E × E → Scope → Expr → Bool
  | (k, v), sc, e => cDict1 e fun a b => chkE k sc a && chkE v sc b
def chkI : I → Scope → Expr → Expr → Bool
  | .val a, sc, _, e => chkE a sc e
  | .keys a, sc, _, e => cMt e fun o m ap as cp => (m == ("keys" : Str)) && cNil as && baseOk o && (ap.endLine == cp.line) && chkE a sc o
  | .vals a, sc, _, e => cMt e fun o m ap as cp => (m == ("values" : Str)) && cNil as && baseOk o && (ap.endLine == cp.line) && chkE a sc o
  | .enm a, sc, tg, e => isTupE tg && cCall e fun x es => blt cf sc x "enumerate" && c1 es fun y => notStar y && chkE a sc y
  | .rng ies, sc, _, e => cCall e fun x es => blt cf sc x "range" && chkA ies sc es && decide (1 ≤ ies.length) && decide (ies.length ≤ 3)
end
end
end Hb
namespace Hb
open PySem PySem.Spec PyProof.Rows L2

theorem OutG.assoc {α β γ : Type} {m : M α} {f : α → M β} {g : β → M γ} {st : Hb.St} {R : γ → Hb.St → Prop} {Z : Nat → D → Hb.St → Prop} (h : OutG ((m >>= fun a => f a >>= g) st) R Z) : OutG (((m >>= f) >>= g) st) R Z := by
  have e : ((m >>= f) >>= g) st = (m >>= fun a => f a >>= g) st := by
    show M.bind (M.bind m f) g st = M.bind m (fun a => M.bind (f a) g) st
    unfold M.bind
    cases m st <;> rfl
  rw [e]; exact h
/-! ### a new dict -/
section
variable {C : RC} {H : Hp} {st : Hb.St}
theorem new_dct (sub : ∀ a o, C.F a = some o → H a = some o) (row : RowOk C H st) {p : Addr} (hp : H p = none) {es : List En} {kvs : List (D × D)} (r : RepEnts C es kvs) (dk : DOk p kvs) :
    Post C H C (upd H p (.ext (DP p es))) st ∧ RepK C (upd H p (.ext (DP p es))) .fr (.ref p) (.dct kvs) := by
  have nF : C.F p = none := by
    cases e : C.F p with
    | none => rfl
    | some o => have := sub p o e; rw [hp] at this; cases this
  have ne : ∀ b o, H b = some o → b ≠ p := fun b o e z => by rw [z, hp] at e; cases e
  refine ⟨⟨.refl C, fun a o h => ?_, fun _ _ h => .inl h, fun _ h => .inl h, fun a o h _ => ?_, fun a o h => ⟨o, ?_⟩, rowOk_upd (.refl C) rfl (fun _ _ => rfl) hp row⟩, p, rfl, nF, row_ne row hp, es, upd_same, r, dk⟩
  · rw [upd_ne (ne a o (sub a o h))]; exact sub a o h
  · rw [upd_ne (ne a o h)]; exact h
  · rw [upd_ne (ne a o h)]; exact h
end
theorem dOk_nil {p : Addr} (h : (p == sysModules) = false) : DOk p [] := ⟨h, Nat.zero_le _, .inl (fun _ h => nomatch h), List.nodup_nil⟩
theorem dp_new {h : Heap} : DP h.objs.size [] (h.push { cls := .type "dict", data := .dict #[] }) := ⟨_, #[], 0, Heap.get?_push_size _ rfl, ⟨rfl, rfl, rfl⟩, rfl, .nil⟩
section
variable {X : Cx} {g : G} {W : WX} {H0 : Hp} {env : Hb.Env} {a b c e : Expr} {ia ib ic ie : E} {pos : Pos} (hK : X.K = g.K) (hw : X.w = g.w)
theorem inv_new {pins : List (Addr × Obj)} {σ : List (Option V)} {H : Hp} {s : Shared} (I : Inv X pins σ H s) : Inv X pins σ (upd H s.heap.objs.size (.ext (DP s.heap.objs.size []))) { s with heap := s.heap.push { cls := .type "dict", data := .dict #[] } } :=
  I.laid (a := s.heap.objs.size) (h' := s.heap.push { cls := .type "dict", data := .dict #[] }) (t' := s.toks) (fun _ _ q => Heap.get?_push_of_some _ q) (Nat.le_refl _) (dp_ok dp_new)
theorem sys_ne {pins : List (Addr × Obj)} {σ : List (Option V)} {H : Hp} {s : Shared} (I : Inv X pins σ H s) : (s.heap.objs.size == sysModules) = false := beq_eq_false_iff_ne.mpr (Ne.symm (Nat.ne_of_lt I.big))
/-- {} -/
theorem new_memo {C : RC} {H : Hp} {st : Hb.St} (sub : ∀ a o, C.F a = some o → H a = some o) (row : RowOk C H st) {p : Addr} (hp : H p = none) (er : st.memo = none) (dk : DOk p []) :
    Post C H { C with gl := fun t => if t = .mm then some p else C.gl t } (upd H p (.ext (DP p []))) { st with memo := some [] } ∧ RepK { C with gl := fun t => if t = .mm then some p else C.gl t } (upd H p (.ext (DP p []))) .sh (.ref p) .memo := by
  have nF : C.F p = none := by
    cases e : C.F p with
    | none => rfl
    | some o => have := sub p o e; rw [hp] at this; cases this
  have ne : ∀ b o, H b = some o → b ≠ p := fun b o e z => by rw [z, hp] at e; cases e
  have gn : C.gl .mm = none := by
    have r := row.mem
    unfold MemP at r
    rw [er] at r
    exact r
  have L : C.Le { C with gl := fun t => if t = .mm then some p else C.gl t } := ⟨rfl, rfl, rfl, fun _ _ h => h, fun t a h => by
    cases t with
    | mm => rw [gn] at h; cases h
    | row => exact h
    | rd n => exact h⟩
  refine ⟨⟨L, fun a o h => ?_, fun _ _ h => .inl h, fun a h => ?_, fun a o h _ => ?_, fun a o h => ⟨o, ?_⟩, ⟨?_, ?_, row.rdNew (T := .mm) hp (fun _ z => by cases z) rfl, row.injNew (T := .mm) (p := p) (fun _ z => by cases z)⟩⟩, .memo rfl⟩
  · rw [upd_ne (ne a o (sub a o h))]; exact sub a o h
  · obtain ⟨t, e⟩ := h
    cases t with
    | mm =>
      have e : some p = some a := e
      cases e
      exact .inr hp
    | row => exact .inl ⟨.row, e⟩
    | rd n => exact .inl ⟨.rd n, e⟩
  · rw [upd_ne (ne a o h)]; exact h
  · rw [upd_ne (ne a o h)]; exact h
  · have r := row.row
    unfold RowP at r ⊢
    cases q : st.row with
    | none => rw [q] at r; exact r
    | some l =>
      rw [q] at r
      obtain ⟨a, xs, h1, h2, h3, h4⟩ := r
      exact ⟨a, xs, h1, h2, by rw [upd_ne (ne a _ h3)]; exact h3, RepAll.mono L _ _ h4⟩
  · exact ⟨p, rfl, nF, [], upd_same, .nil, dk⟩
theorem x_dct0 : PE X (.Dict [] [] pos) (tE g W H0 (.dct []) env) := by
  refine ⟨fun pins s σ H Q I ⟨C, st, oc, S, o⟩ => ?_⟩
  have hn := I.hok.fresh (Nat.le_refl s.heap.objs.size)
  obtain ⟨p1, r1⟩ := new_dct S.sub S.row hn (.nil) (dOk_nil (sys_ne I))
  exact wpAny_Dict_empty ⟨.ref s.heap.objs.size, _, inv_new I, rfl, (show RE C H Q (.fr, .dct []) st from o) _ C _ p1 r1 fun a e => by cases e; exact hn⟩
/-- the memo is made -/
theorem x_mkm0 : PE X (.Dict [] [] pos) (tE g W H0 .mkm env) := by
  refine ⟨fun pins s σ H Q I ⟨C, st, oc, S, o⟩ => ?_⟩
  have hn := I.hok.fresh (Nat.le_refl s.heap.objs.size)
  cases er : st.memo with
  | some _ =>
    have o := OutG.bind (show OutG ((newMemo >>= fun _ => pure (Hb.K.sh, D.memo) : M KD) st) (RE C H Q) (ZG g.xr W C H σ) from o)
    unfold newMemo at o
    rw [er] at o
    exact (show False from o).elim
  | none =>
    have o := OutG.bind (show OutG ((newMemo >>= fun _ => pure (Hb.K.sh, D.memo) : M KD) st) (RE C H Q) (ZG g.xr W C H σ) from o)
    unfold newMemo at o
    rw [er] at o
    have o : RE C H Q (.sh, .memo) { st with memo := some [] } := o
    obtain ⟨p1, r1⟩ := new_memo S.sub S.row hn er (dOk_nil (sys_ne I))
    exact wpAny_Dict_empty ⟨.ref s.heap.objs.size, _, inv_new I, rfl, o _ _ _ p1 r1 trivial⟩
/-- the object at a is own: one entry more -/
theorem hd_dictSet {pins : List (Addr × Obj)} {σ : List (Option V)} {H : Hp} {s : Shared} {C : RC} {A : Around} {E : Value → Shared → Prop} {a : Addr} {es : List En} {kvs : List (D × D)} {d dv : D} {v vv : V} {u uv : Value} {Q : Unit → Shared → Prop} (hu : A.units + 64 < cLine) (I : Inv X pins σ H s) (hK : C.K = X.K) (hw : C.w = X.w) (sub : ∀ a o, C.F a = some o → H a = some o) (ha : H a = some (.ext (DP a es))) (g : DAt X C s a es kvs) (ko : kOk kvs d = true) (r : Rep C v d) (ru : RelV v u)
    (rv : Rep C vv dv) (ruv : RelV vv uv) (hl : kvs.length < sizeLine)
    (h : ∀ s' es', Inv X pins σ (upd H a (.ext (DP a es'))) s' → RepEnts C es' (dput kvs d dv) → DOk a (dput kvs d dv) → Q () s') : wpAny (model X.prog X.w) A (dictSet a u uv) Q E s := by
  have room : (nestedKind X.prog X.w).room A := by show A.units + 8 < cLine; omega
  have fin : ∀ h' t, DP a (esPut X.w kvs es d v vv) h' → Heap.SameBut a s.heap h' → Q () { s with heap := h', toks := t } := fun h' t dp hs => by
    refine h _ (esPut X.w kvs es d v vv) ?_ (by rw [← hw]; exact repEnts_put r rv g.ents) (g.ok.put dv ko hl)
    obtain ⟨o, ens, ep, ho, _⟩ := id dp
    exact d_write I (by rw [ha]; exact True.intro) hs ⟨o, ho⟩ (dp_ok dp)
  rcases kOk_cases g.ok ko with ⟨kd, ka⟩ | ⟨kd, ka⟩
  · obtain ⟨o, ens, ep, ho, hx, hd, hp⟩ := g.at_
    obtain ⟨xs, e1, e2, e3⟩ := ents_T I hK hw sub g.ents hp ka
    have hn : (xs.map (·.1)).Nodup := by rw [TIs.keys e3]; exact g.ok.nd
    have dd : s.heap.DictOfH (nestedKind X.prog X.w) a xs := ⟨o, ens, ep, ho, hx, hd, e1, e2, hn⟩
    obtain ⟨b, eb, kb⟩ := rep_tkey I hK sub kd r
    subst eb
    cases ru
    have hz : xs.length ≤ sizeLine := by rw [← Paired.length e3]; omega
    refine wpAny_dictSet_heap (hsz := hz) room kb dd fun h' dd' hs => fin h' _ ?_ hs
    obtain ⟨o', ens', ep', ho', hx', hd', he', _, _⟩ := dd'
    refine ⟨o', ens', ep', ho', hx', hd', ?_⟩
    rw [he']
    rw [e1] at hp
    exact ents_putT hw ruv rfl kd g.ents hp ka (TIs.keys e3) hn
  · obtain ⟨o, ens, ep, ho, hx, hd, hp⟩ := g.at_
    obtain ⟨qs, e1, e2, e3⟩ := ents_S (X := X) hw g.ents hp ka
    have hn : (qs.map (·.1)).Nodup := by rw [ValIs.keys e3]; exact nodup_sk ka g.ok.nd
    have dd : s.heap.DictOf (mixKind X.prog X.w) a qs := ⟨o, ens, ep, ho, hx, hd, fun e he => e2 e (Array.mem_toList_iff.mpr he), e1, hn⟩
    obtain ⟨rk, ek⟩ := rep_skey kd r ru
    have hz : qs.length ≤ sizeLine := by rw [← Paired.length e3]; omega
    refine wpAny_dictSet_pairs (hsz := hz) (kV_is rk) dd fun h' dd' hs => fin h' _ ?_ hs
    obtain ⟨o', ens', ep', ho', hx', hd', hk', hp', _⟩ := dd'
    refine ⟨o', ens', ep', ho', hx', hd', ?_⟩
    have s2 := ents_S2 (P := X.prog) hw g.ents hp e1 (Paired.mapP e3 fun p q z => z.1) ka
    exact ents_ofS (P := X.prog) (ents_putS hw ruv kd ek g.ents s2 ka (ValIs.keys e3) hn) hp' fun e he => hk' e (Array.mem_toList_iff.mp he)
/-- {k: v} -/
theorem x_dct1 {k v : Expr} {ik iv : E} (hK : X.K = g.K) (hw : X.w = g.w) (hu : X.A.units + 100 < cLine) (hk : PE X k (tE g W H0 ik env)) (hv : PE X v (tE g W H0 iv env)) : PE X (.Dict [some k] [v] pos) (tE g W H0 (.dct [(ik, iv)]) env) := by
  refine ⟨fun pins s σ H Q I ⟨C, st, oc, S, o⟩ => ?_⟩
  have hn := I.hok.fresh (Nat.le_refl s.heap.objs.size)
  obtain ⟨p1, r1⟩ := new_dct S.sub S.row hn (.nil) (dOk_nil (sys_ne I))
  have o : OutG ((evD g.Pg g.cl [(ik, iv)] env [] >>= fun kvs => pure (Hb.K.fr, D.dct kvs) : M KD) st) (RE C H Q) (ZG g.xr W C H σ) := o
  have o := OutG.bind o
  have o : OutG ((evP g.Pg g.cl (ik, iv) env >>= fun (p : D × D) => (do
    guard_ (kOk [] p.1 && decide (0 < 15))
    pure (dput [] p.1 p.2) : M (List (D × D)))) st) (fun kvs st' => RE C H Q (.fr, .dct kvs) st') (ZG g.xr W C H σ) := o
  have o := OutG.bind o
  have o := OutG.bind (OutG.assoc (f := sealed) (g := fun kd => (do let y ← evE g.Pg g.cl iv env; let v ← sealed y; pure (kd, v) : M (D × D))) o)
  refine wpAny_Dict_any rfl rfl (by simp) (by show 1 ≤ 15; omega) ?_
  refine pairTrees_cons_walk (thn ((PE.seal hk).run pins _ σ _ (fun x H1 => ∃ C1 st1 kd, Post C H C1 H1 st1 ∧ Post C (upd H s.heap.objs.size (.ext (DP s.heap.objs.size []))) C1 H1 st1 ∧ Rep C1 x kd ∧
    OutG ((do let y ← evE g.Pg g.cl iv env; let v ← sealed y; pure (kd, v) : M (D × D)) st1) (fun p st' => OutG ((do
    guard_ (kOk [] p.1 && decide (0 < 15))
    pure (dput [] p.1 p.2) : M (List (D × D))) st') (fun kvs st' => RE C H Q (.fr, .dct kvs) st') (ZG g.xr W C H σ)) (ZG g.xr W C H σ)) (inv_new I) ?rd) fun kv s1 ⟨x, H1, I1, rx, C1, st1, kd, q1, q2, q3, q4⟩ => ?_)
  case rd =>
    refine ⟨C, st, oc, S.step p1, o.imp (fun kd st1 q v C1 H1 p r => ?_) fun _ _ _ z => z.shift p1⟩
    exact ⟨C1, st1, kd, p1.trans p, p, r, q⟩
  have q4 := OutG.bind (OutG.assoc (f := sealed) (g := fun v => (pure (kd, v) : M (D × D))) q4)
  refine thn ((PE.seal hv).run pins _ σ _ (fun y H2 => ∃ C2 st2 vd, Post C (upd H s.heap.objs.size (.ext (DP s.heap.objs.size []))) C2 H2 st2 ∧ Post C1 H1 C2 H2 st2 ∧ Rep C2 y vd ∧
    OutG ((do
    guard_ (kOk [] kd && decide (0 < 15))
    pure (dput [] kd vd) : M (List (D × D))) st2) (fun kvs st' => RE C H Q (.fr, .dct kvs) st') (ZG g.xr W C H σ)) I1 ?rd2) fun vv s2 ⟨y, H2, I2, ry, C2, st2, vd, t1, t2, t3, t4⟩ => ?_
  case rd2 =>
    refine ⟨C1, st1, oc.step q1.le, S.step q1, q4.imp (fun vd st2 q v C2 H2 p r => ?_) fun _ _ _ z => z.shift q1⟩
    exact ⟨C2, st2, vd, q2.trans p, p, r, q⟩
  refine pairTrees_nil_walk ?_
  obtain ⟨gd, t4⟩ := OutG.guardB t4
  rw [Bool.and_eq_true] at gd
  have nr : ¬ C.G s.heap.objs.size := row_ne S.row hn
  have nF0 : C.F s.heap.objs.size = none := by
    cases e : C.F s.heap.objs.size with
    | none => rfl
    | some o => have := S.sub _ o e; rw [hn] at this; cases this
  have hp2 : H2 s.heap.objs.size = some (.ext (DP s.heap.objs.size [])) := t1.keep _ _ upd_same nr
  have nF2 : C2.F s.heap.objs.size = none := by
    cases e : C2.F s.heap.objs.size with
    | none => rfl
    | some o =>
      rcases t1.fnew _ _ e with z | z
      · rw [nF0] at z; cases z
      · rw [upd_same] at z; cases z
  have nr2 : ¬ C2.G s.heap.objs.size := fun e => by
    rcases t1.rnew _ e with z | z
    · exact nr z
    · rw [upd_same] at z; cases z
  have da : DAt X C2 s2 s.heap.objs.size [] [] := ⟨ext_of (I2.hok _ _ hp2), .nil, dOk_nil (sys_ne I)⟩
  have oc2 := (oc.step q1.le).step t2.le
  show wpAny _ _ (PySem.storeAll s.heap.objs.size [(kv, vv)]) _ _ _
  unfold PySem.storeAll
  rw [List.forIn_cons]
  refine wpAny_bind (wpAny_bind (hd_dictSet (by omega) I2 (oc2.K.trans hK.symm) (oc2.w.trans hw.symm) t1.sub hp2 da gd.1 (Rep.up t2 q3) rx t3 ry (by rw [sizeLine_eq]; decide) fun s3 es3 I3 re dk => wpAny_pure ?_))
  show wpAny _ _ (forIn [] _ _) _ _ _
  rw [List.forIn_nil]
  refine wpAny_pure ⟨.ref s.heap.objs.size, _, I3, rfl, ?_⟩
  have t5 : RE C H Q (.fr, .dct (dput [] kd vd)) st2 := t4
  refine t5 _ C2 _ ((q1.trans t2).wr hn nF2 nr2) ⟨_, rfl, nF2, nr2, es3, upd_same, re, dk⟩ fun a e => by cases e; exact hn

/-! ### methods -/
/-- what may be asked of the receiver -/
theorem pe_mt {o : Expr} {es : List Expr} {name : Str} {apos cpos : Pos} {to : TE} {t : TA} {α : Type} {pre : α → V → Hp → Prop} {r : α → V → List V → Hp → VK → Prop}
    (hr : ∀ (al : α) (pins : List (Addr × Obj)) (σ : List (Option V)) (H : Hp) (s : Shared) (x : V) (v : Value), Inv X pins σ H s → RelV x v → pre al x H → ∃ T id, PlainAttrs T ∧ Slot T name id ∧ typeOf (.builtin id) = pure (.type "method_descriptor") ∧ s.TypeIs v T ∧ (∀ a, v = .ref a → ∃ ob, s.heap.get? a = some ob ∧ ob.dict = none) ∧
      ∀ (H : Hp) (s : Shared) (xs : List V) (us : List Value) (Q : VK), Inv X pins σ H s → Vals xs us → r al x xs H Q → wpAny (model X.prog X.w) X.A (call (.builtin id) (v :: us)) (EP X pins σ Q) X.xe s)
    (ho : PE X o to) (ha : PA X (e :: es) t)
    (hbase : attributeBase o name X.env (eval o X.env) = eval o X.env)
    (hfew : ((backTo cpos (starEach (e :: es) X.env)).all (fun x => !x.1) && (backToKw cpos (keywordEach [] X.env)).all (fun x => x.1.isSome)
      && decide ((e :: es).length + ([] : List Keyword).length + (if ([] : List Keyword).isEmpty then 0 else 1) < 30)) = true)
    (hline : (apos.endLine == cpos.line) = true) (hs : starEach (e :: es) X.env = (false, eval e X.env) :: starEach es X.env) (hplain : (backTo cpos (starEach es X.env)).any (·.1) = false) :
    PE X (.Call (.Attribute o name apos) (e :: es) [] cpos) (fun σ H Q => to σ H fun x H1 => ∃ al, pre al x H1 ∧ t σ H1 fun xs H2 => r al x xs H2 Q) := by
  refine ⟨fun pins s σ H Q I h => ?_⟩
  refine wpAny_Call_method_late hbase hfew hline rfl (thn (ho.run pins s σ H _ I h) fun v s1 ⟨x, H1, I1, r1, al, ty, q1⟩ => ?_)
  obtain ⟨T, id, pa, slot, hty, h1, h2, hm⟩ := hr al pins σ H1 s1 x v I1 r1 ty
  refine ⟨T, id, pa, slot, hty, h1, h2, ?_⟩
  have hA := ha.run cpos pins s1 σ H1 _ I1 q1
  rw [hs] at hA ⊢
  refine Calls.callWith_builtin (by show (false || (backTo cpos (starEach es X.env)).any (·.1)) = false; rw [hplain] <;> rfl) (Calls.evalArgs_plain ?_)
  exact thn hA fun us s2 ⟨vs, H2, I2, r2, q2⟩ => hm H2 s2 vs us Q I2 r2 q2
theorem isDct_of {d : D} (h : d.isDct = true) : ∃ kvs, d = .dct kvs := by
  cases d with
  | dct kvs => exact ⟨kvs, rfl⟩
  | _ => exact nomatch h
/-- d.get(k, x) -/
theorem x_get {o k x : Expr} {io ik ix : E} {apos cpos : Pos} (hK : X.K = g.K) (hw : X.w = g.w) (hu : X.A.units + 100 < cLine) (ho : PE X o (tE g W H0 io env)) (ha : PA X [k, x] (tAs g W H0 [ik, ix] env))
    (hbase : attributeBase o "get" X.env (eval o X.env) = eval o X.env) (hline : (apos.endLine == cpos.line) = true) (sk : notStar k = true) (sx : notStar x = true) :
    PE X (.Call (.Attribute o "get" apos) [k, x] [] cpos) (tE g W H0 (.getd io [ik, ix]) env) := by
  refine PE.imp (pe_mt (name := "get") (α := Unit) (pre := fun _ x H => ∃ C st kk kvs, OpC X C H st ∧ RepK C H kk x (.dct kvs))
    (r := fun _ x vs H Q => ∃ C st kk kvs k xd, ∃ y z : V, ∃ Z, vs = [y, z] ∧ OpC X C H st ∧ RepK C H kk x (.dct kvs) ∧ Rep C y k ∧ Rep C z xd ∧ OutG (getdD (.dct kvs) k xd st) (fun d st' => RE C H Q (.sh, d) st') Z)
    (fun _ pins σ H s x v I rx pr => ?_) ho ha hbase (by rw [star_of sk, star_of sx]; rfl) hline (star_of sk _ _) (by rw [star_of sx]; rfl)) fun σ H Q h => ?_
  · obtain ⟨C, st, kk, kvs, oc, r⟩ := pr
    obtain ⟨a, es, rfl, da⟩ := repK_dct I oc.sub r
    cases rx
    obtain ⟨ob, ens, ep, ho, hx, hd, hp⟩ := da.at_
    refine ⟨"dict", "dict.get", PySem.F.plainAttrs_dict, PySem.F.slot_dict_get, PySem.F.type_dict_get, ⟨ob, ho, hx.1⟩, fun b e => by cases e; exact ⟨ob, ho, hx.2.1⟩, fun H2 s2 xs us Q I2 rs q => ?_⟩
    obtain ⟨C, st, kk, kvs, k, xd, y, z, Z, rfl, oc, r, ry, rz, o⟩ := q
    obtain ⟨u1, u2, rfl, e1, e2⟩ := Vals.two rs
    obtain ⟨a', es', ea, da⟩ := repK_dct I2 oc.sub r
    cases ea
    obtain ⟨gd, o⟩ := OutG.guardB o
    exact hd_get2 (by omega) I2 oc.K oc.w oc.sub da gd ry e1 rz e2 fun t vv u' ru rv => ⟨vv, H2, I2.tok t, ru, o vv C H2 (.refl oc.sub oc.row) rv trivial⟩
  · obtain ⟨C, st, oc, S, o⟩ := h
    refine ⟨C, st, oc, S, o.bindI fun kd st1 q v C1 H1 p r n => ?_⟩
    obtain ⟨gd, q⟩ := OutG.guardB q
    obtain ⟨k0, d0⟩ := kd
    obtain ⟨kvs, rfl⟩ := isDct_of gd
    refine ⟨(), ⟨C1, st1, k0, kvs, (S.step p).opC hK hw (oc.step p.le), r⟩, C1, st1, oc.step p.le, S.step p, (evA_len (OutG.bind q)).imp (fun ds st2 q2 vs C2 H2 p2 r2 => ?_) fun _ _ _ z => z.shift p⟩
    obtain ⟨hl, q2⟩ := q2
    match ds, vs, r2, hl, q2 with
    | [kd, xd], _, .cons ry (.cons rz .nil), _, q2 =>
      exact ⟨C2, st2, k0, kvs, kd, xd, _, _, _, rfl, ((S.step p).step p2).opC hK hw ((oc.step p.le).step p2.le), r.step p2, ry, rz, (OutG.bind q2).imp (fun d st3 z => (show RE C H Q (.sh, d) st3 from z).shift p |>.shift p2) fun _ _ _ z => z⟩
    | [], _, _, hl, _ => exact absurd hl (by simp)
    | [_], _, _, hl, _ => exact absurd hl (by simp)
    | _ :: _ :: _ :: _, _, _, hl, _ => exact absurd hl (by simp)
/-- xs.count(x), xs.index(x) -/
theorem x_count {o b : Expr} {io ib : E} {apos cpos : Pos} (hK : X.K = g.K) (hw : X.w = g.w) (hu : X.A.units + 100 < cLine) (ho : PE X o (tE g W H0 io env)) (hb : PE X b (tE g W H0 ib env))
    (hbase : attributeBase o "count" X.env (eval o X.env) = eval o X.env) (hline : (apos.endLine == cpos.line) = true) (sb : notStar b = true) :
    PE X (.Call (.Attribute o "count" apos) [b] [] cpos) (tE g W H0 (.mt .count io ib) env) := by
  refine PE.imp (pe_mt (name := "count") (α := Unit) (pre := fun _ x H => ∃ C st kk ds, OpC X C H st ∧ RepK C H kk x (.lst ds)) (r := fun _ => rM1 X .count)
    (fun _ pins σ H s x v I rx pr => ?_) ho (pa_cons hb pa_nil (star_of sb _ _)) hbase (by rw [star_of sb]; rfl) hline (star_of sb _ _) rfl) fun σ H Q h => ?_
  · obtain ⟨C, st, kk, ds, oc, r⟩ := pr
    obtain ⟨a, vs, rfl, ha, ra⟩ := repK_lst oc.sub r
    have rx' := rx
    cases rx
    obtain ⟨_, _, ⟨ob, nn, ho, hc, hdn, hdt⟩, _⟩ := I.list (sqL_of (C := C) (K := X.K) ha)
    exact ⟨"list", "list.count", PySem.F.plainAttrs_list, PySem.F.slot_list_count, PySem.F.type_list_count, ⟨ob, ho, hc⟩, fun b e => by cases e; exact ⟨ob, ho, hdn⟩, fun H2 s2 xs us Q I2 rs q => m_count hu pins s2 σ H2 _ xs _ us Q I2 rx' rs q⟩
  · obtain ⟨C, st, oc, S, o⟩ := h
    refine ⟨C, st, oc, S, o.bindI fun kd st1 q v C1 H1 p r n => ?_⟩
    obtain ⟨gd, q⟩ := OutG.guardB q
    obtain ⟨k0, d0⟩ := kd
    cases d0 with
    | lst ds =>
      refine ⟨(), ⟨C1, st1, k0, ds, (S.step p).opC hK hw (oc.step p.le), r⟩, C1, st1, oc.step p.le, S.step p, (q.bindI fun kd2 st2 q2 v2 C2 H2 p2 r2 n2 => ?_).z fun _ _ _ z => z.shift p⟩
      exact ⟨C2, st2, k0, .lst ds, kd2.1, kd2.2, _, v2, rfl, ((S.step p).step p2).opC hK hw ((oc.step p.le).step p2.le), r.step p2, r2, q2.imp (fun _ _ z => (z.shift p).shift p2) fun _ _ _ z => z⟩
    | _ => exact nomatch gd
theorem x_index {o b : Expr} {io ib : E} {apos cpos : Pos} (hK : X.K = g.K) (hw : X.w = g.w) (hu : X.A.units + 100 < cLine) (ho : PE X o (tE g W H0 io env)) (hb : PE X b (tE g W H0 ib env))
    (hbase : attributeBase o "index" X.env (eval o X.env) = eval o X.env) (hline : (apos.endLine == cpos.line) = true) (sb : notStar b = true) :
    PE X (.Call (.Attribute o "index" apos) [b] [] cpos) (tE g W H0 (.mt .index io ib) env) := by
  refine PE.imp (pe_mt (name := "index") (α := Bool) (pre := fun tu x H => ∃ C st kk ds, OpC X C H st ∧ RepK C H kk x (if tu = true then D.tup ds else D.lst ds)) (r := fun tu x vs H Q => rM1 X .index x vs H Q ∧ ∃ C st kk ds, OpC X C H st ∧ RepK C H kk x (if tu = true then D.tup ds else D.lst ds))
    (fun tu pins σ H s x v I rx pr => ?_) ho (pa_cons hb pa_nil (star_of sb _ _)) hbase (by rw [star_of sb]; rfl) hline (star_of sb _ _) rfl) fun σ H Q h => ?_
  · obtain ⟨C, st, kk, ds, oc, r⟩ := pr
    have rx' := rx
    cases tu with
    | false =>
      obtain ⟨a, vs, rfl, ha, ra⟩ := repK_lst oc.sub (show RepK C H kk x (.lst ds) from r)
      cases rx
      obtain ⟨_, _, ⟨ob, nn, ho, hc, hdn, hdt⟩, _⟩ := I.list (sqL_of (C := C) (K := X.K) ha)
      refine ⟨"list", "list.index", PySem.F.plainAttrs_list, PySem.F.slot_list_index, PySem.F.type_list_index, ⟨ob, ho, hc⟩, fun b e => by cases e; exact ⟨ob, ho, hdn⟩, fun H2 s2 xs us Q I2 rs q => ?_⟩
      obtain ⟨q, C2, st2, k2, ds2, oc2, r2⟩ := q
      obtain ⟨a2, vs2, e2, ha2, ra2⟩ := repK_lst oc2.sub (show RepK C2 H2 k2 _ (.lst ds2) from r2)
      exact m_index hu false pins s2 σ H2 _ xs _ us Q I2 rx' rs ⟨⟨a2, vs2, e2, vs2, ha2⟩, q⟩
    | true =>
      obtain ⟨a, vs, rfl, ⟨ob, hb, hdn⟩, ra⟩ := repK_tupX (show RepK C H kk x (.tup ds) from r)
      cases rx
      obtain ⟨ho, _, its, _, ⟨ob', ho', hc, _⟩⟩ := I.hok a _ (oc.sub a _ hb)
      cases ho.symm.trans ho'
      refine ⟨"tuple", "tuple.index", PySem.F.plainAttrs_tuple, PySem.F.slot_tuple_index, PySem.F.type_tuple_index, ⟨ob, ho, hc⟩, fun b e => by cases e; exact ⟨ob, ho, hdn⟩, fun H2 s2 xs us Q I2 rs q => ?_⟩
      obtain ⟨q, C2, st2, k2, ds2, oc2, r2⟩ := q
      obtain ⟨a2, vs2, e2, ha2, ra2⟩ := repK_tup (show RepK C2 H2 k2 _ (.tup ds2) from r2)
      exact m_index hu true pins s2 σ H2 _ xs _ us Q I2 rx' rs ⟨⟨a2, vs2, e2, by rw [← oc2.K]; exact sqT_mono oc2.sub ha2⟩, q⟩
  · obtain ⟨C, st, oc, S, o⟩ := h
    refine ⟨C, st, oc, S, o.bindI fun kd st1 q v C1 H1 p r n => ?_⟩
    obtain ⟨gd, q⟩ := OutG.guardB q
    obtain ⟨k0, d0⟩ := kd
    obtain ⟨tu, ds, e⟩ : ∃ (tu : Bool), ∃ (ds : List D), d0 = if tu = true then D.tup ds else D.lst ds := by
      cases d0 with
      | lst ds => exact ⟨false, ds, rfl⟩
      | tup ds => exact ⟨true, ds, rfl⟩
      | _ => exact nomatch gd
    refine ⟨tu, ⟨C1, st1, k0, ds, (S.step p).opC hK hw (oc.step p.le), e ▸ r⟩, C1, st1, oc.step p.le, S.step p, (q.bindI fun kd2 st2 q2 v2 C2 H2 p2 r2 n2 => ?_).z fun _ _ _ z => z.shift p⟩
    have oc2 := ((S.step p).step p2).opC hK hw ((oc.step p.le).step p2.le)
    exact ⟨⟨C2, st2, k0, d0, kd2.1, kd2.2, _, v2, rfl, oc2, r.step p2, r2, q2.imp (fun _ _ z => (z.shift p).shift p2) fun _ _ _ z => z⟩, C2, st2, k0, ds, oc2, e ▸ r.step p2⟩

/-! ### sorted(d.keys()) -/
theorem post_new {C : RC} {H : Hp} {st : Hb.St} (sub : ∀ a o, C.F a = some o → H a = some o) (row : RowOk C H st) {p : Addr} (hp : H p = none) (o : HO) : Post C H C (upd H p o) st := by
  have ne : ∀ b o, H b = some o → b ≠ p := fun b o e z => by rw [z, hp] at e; cases e
  refine ⟨.refl C, fun a o h => ?_, fun _ _ h => .inl h, fun _ h => .inl h, fun a o h _ => ?_, fun a o h => ⟨o, ?_⟩, rowOk_upd (.refl C) rfl (fun _ _ => rfl) hp row⟩
  · rw [upd_ne (ne a o (sub a o h))]; exact sub a o h
  · rw [upd_ne (ne a o h)]; exact h
  · rw [upd_ne (ne a o h)]; exact h
abbrev viewK (p a : Addr) : HO := .ext fun h => PySem.W.KdlKeysView h p a
abbrev viewV (p a : Addr) : HO := .ext fun h => h.IsValuesView p a
def tView (X : Cx) (vw : Addr → Addr → HO) (to : TE) : TE := fun σ H Q => to σ H fun x H1 => (∃ C st kk kvs, OpC X C H1 st ∧ RepK C H1 kk x (.dct kvs)) ∧ ∀ p a, x = .ref a → H1 p = none → Q (.ref p) (upd H1 p (vw p a))
theorem viewK_ok {P : Program} {w : World} {H : Hp} {h : Heap} {p a : Addr} (x : PySem.W.KdlKeysView h p a) : ObjOk P w H h p (viewK p a) := by
  obtain ⟨o, ho, r⟩ := id x
  exact ⟨x, ⟨o, ho⟩, fun h1 h2 ⟨o, ho, r⟩ k => ⟨o, k o ho, r⟩⟩
theorem pe_keysV {o : Expr} {to : TE} {apos cpos : Pos} (ho : PE X o to) (hbase : attributeBase o "keys" X.env (eval o X.env) = eval o X.env) (hline : (apos.endLine == cpos.line) = true) :
    PE X (.Call (.Attribute o "keys" apos) [] [] cpos) (tView X viewK to) := by
  refine ⟨fun pins s σ H Q I h => ?_⟩
  refine wpAny_Call_method0_late hbase hline (thn (ho.run pins s σ H _ I h) fun v s1 ⟨x, H1, I1, r1, ⟨C, st, kk, kvs, oc, r⟩, q1⟩ => ?_)
  obtain ⟨a, es, rfl, da⟩ := repK_dct I1 oc.sub r
  cases r1
  obtain ⟨ob, ens, ep, ho, hx, hd, hp⟩ := da.at_
  refine ⟨"dict", "dict.keys", PySem.F.plainAttrs_dict, PySem.F.slot_dict_keys, PySem.F.type_dict_keys, ⟨ob, ho, hx.1⟩, fun b e => by cases e; exact ⟨ob, ho, hx.2.1⟩, Calls.callWith_builtin rfl (PySem.evalArgs_none ?_)⟩
  have hn := I1.hok.fresh (Nat.le_refl s1.heap.objs.size)
  refine call_meetsIn PySem.F.slot_dict_keys ⟨ob, ho, hx.1⟩ PySem.F.entry_dict_keys (PySem.F.args_dict_keys_1 _) (meets_dict_keys_raw a da.ok.sys) ⟨⟨ens, ep, ob, ho, hx, hd⟩, ?_⟩
  exact ⟨.ref s1.heap.objs.size, _, I1.laid (a := s1.heap.objs.size) (t' := s1.toks) (fun _ _ q => Heap.get?_push_of_some _ q) (Nat.le_refl _) (viewK_ok ⟨_, Heap.get?_push_size _ rfl, rfl, rfl⟩), rfl, q1 _ a rfl hn⟩
theorem sorted_src {prog : Program} {w : World} {A : Around} {E : Value → Shared → Prop} {s : Shared} {β : Type} {vs : List Value} {bs : List β} {enc : β → PyData} {R : Value → β → Prop} {r : Addr} {Q : Value → Shared → Prop}
    (hcol : ∀ (A' : Around) (E' : Value → Shared → Prop) (K : List Value → Shared → Prop), A'.handled = A.handled → (∀ h' tk, (∀ b o, s.heap.get? b = some o → h'.get? b = some o) → K vs { s with heap := h', toks := tk }) → wpAny (model prog w) A' (collect (.ref r)) K E' s)
    (e : PySem.W.EachIs R vs bs) (er : PySem.W.EachIs (fun v b => ∃ as, Reads s.heap v (enc b) as) vs bs) (hal : PySem.W.AllAlike (bs.map enc)) (hk : PySem.W.Sortable (bs.map enc)) (hL : bs.length ≤ sizeLine)
    (hu : ∀ b, b ∈ bs → A.units + 2 + (enc b).depth < cLine)
    (h : ∀ (D : Addr) (out : List Value) (h' : Heap) (tk n : Nat), (∀ b o, s.heap.get? b = some o → h'.get? b = some o) → s.heap.get? D = none → h'.get? D = some (seqObj "list" out.toArray n) → out.length = bs.length → PySem.W.EachIs R out (bs.mergeSort (PySem.W.dataLe false enc)) → Q (.ref D) { s with heap := h', toks := tk }) :
    wpAny (model prog w) A (call (.builtin "sorted") [.ref r]) Q E s := by
  have hL' : vs.length ≤ sizeLine := by rw [e.length]; exact hL
  refine PySem.Calls.call_function_entry kind_sorted plain_sorted entry_sorted (args_sorted1 _) ?_
  unfold Builtin.«sorted»
  refine wpAny_bind (m := checkCount "sorted" 1 1 _) (wpAny_pure ?_)
  refine wpAny_bind (hcol _ _ _ rfl fun h1 tk hk1 => ?_)
  refine wpAny_bind (wpAny_newList ?_ hL')
  have hoL : (h1.push (seqObj "list" vs.toArray 0)).get? h1.objs.size = some (seqObj "list" vs.toArray 0) := Heap.get?_push_size _ rfl
  have keep : ∀ b o, s.heap.get? b = some o → b ≠ h1.objs.size ∧ (h1.push (seqObj "list" vs.toArray 0)).get? b = some o := fun b o q => ⟨Nat.ne_of_lt (Heap.lt_size (hk1 b o q)), Heap.get?_push_of_some _ (hk1 b o q)⟩
  show wpAny _ _ _ _ _ { s with heap := h1.push (seqObj "list" vs.toArray 0), toks := tk }
  have S : PySem.W.SortsAt prog w A.in1.in1 { s with heap := PySem.W.sortingHeap (h1.push (seqObj "list" vs.toArray 0)) h1.objs.size vs, toks := tk } (PySem.W.dataKind (PySem.W.sortingHeap (h1.push (seqObj "list" vs.toArray 0)) h1.objs.size vs) (bs.map enc)) vs :=
    PySem.W.SortsAt.data (s := { s with heap := PySem.W.sortingHeap (h1.push (seqObj "list" vs.toArray 0)) h1.objs.size vs, toks := tk }) (PySem.W.each_map (R := fun v d => ∃ as, Reads (PySem.W.sortingHeap (h1.push (seqObj "list" vs.toArray 0)) h1.objs.size vs) v d as) enc (er.mono fun _ _ ⟨as, rd⟩ => ⟨as, PyProof.Rows.Reads.keeps (fun b o q => PySem.W.sortingHeap_old (keep b o q).1 (keep b o q).2) rd⟩)) hal hk (PySem.W.bound_map hu)
  refine wpAny_bind (wpAny_holding (wpAny_call_entry slot_list_sort ⟨_, hoL, rfl⟩ entry_list_sort ?body (args_list_sort _)))
  case body =>
    refine PySem.W.list_sort_vals (s := { s with heap := h1.push (seqObj "list" vs.toArray 0), toks := tk }) hoL S hL' ⟨_, rfl, wpAny_pure ⟨_, rfl, ?_⟩⟩
    obtain ⟨n, he⟩ := sortedHeap_at (out := (PySem.W.sortVals (PySem.W.dataKind (PySem.W.sortingHeap (h1.push (seqObj "list" vs.toArray 0)) h1.objs.size vs) (bs.map enc)) false vs vs).toArray) hoL
    refine h h1.objs.size _ _ tk n (fun b o q => ?_) ?_ he (by rw [PySem.W.sortVals_length false rfl]; exact e.length) (PySem.W.sortVals_data false e (er.mono fun _ _ ⟨as, rd⟩ => ⟨as, PyProof.Rows.Reads.keeps (fun b o q => PySem.W.sortingHeap_old (keep b o q).1 (keep b o q).2) rd⟩) hal)
    · have kb := keep b o q
      rw [sortedHeap_old kb.1 (Heap.lt_size kb.2)]
      exact kb.2
    · cases q : s.heap.get? h1.objs.size with
      | none => rfl
      | some o => exact absurd (Heap.lt_size (hk1 _ o q)) (Nat.lt_irrefl _)
theorem inv_laid {pins : List (Addr × Obj)} {σ : List (Option V)} {H : Hp} {s : Shared} {h' : Heap} {a : Addr} {o : HO} {t' : Nat} (I : Inv X pins σ H s) (k : ∀ b u, s.heap.get? b = some u → h'.get? b = some u) (hna : s.heap.get? a = none) (hn : H a = none) (new : ObjOk X.prog X.w (upd H a o) h' a o) :
    Inv X pins σ (upd H a o) { s with heap := h', toks := t' } := by
  refine I.un ?_ ?_
  · exact {
      keep := fun b u q _ _ _ => k b u q
      slot := fun b u q _ _ _ => ⟨u.slots, k b u q⟩
      free := fun b u q n _ => by rw [upd_ne (fun e => by rw [e, hna] at q; cases q)]; exact n
      there := fun b u q _ => ⟨u, k b u q⟩
      tups := fun b xs q => by rw [upd_ne (ne_of_none q hn)]; exact q
      frzs := fun b u xs q => by rw [upd_ne (ne_of_none q hn)]; exact q
      tbls := fun b ps q => ⟨#[], by rw [upd_ne (ne_of_none q hn), q]; simp⟩ }
  · intro b u e
    by_cases hb : b = a
    · subst hb; rw [upd_same] at e; cases e; exact new
    · rw [upd_ne hb] at e
      exact (I.hok b u e).stay (fun c v _ q => k c v q) (fun c q => by rw [upd_ne (ne_of_none q hn)]; exact q) fun c xs q => by rw [upd_ne (ne_of_none q hn)]; exact q
theorem objOk_there {P : Program} {w : World} {H : Hp} {h : Heap} {a : Addr} {o : HO} (x : ObjOk P w H h a o) : ∃ u, h.get? a = some u := by
  cases o with
  | lst xs => obtain ⟨_, _, _, _, e⟩ := x; exact ⟨_, e⟩
  | tup xs => obtain ⟨_, _, _, o, e, _⟩ := x; exact ⟨_, e⟩
  | dK kvs => obtain ⟨_, _, _, _, o, _, _, e, _⟩ := x; exact ⟨_, e⟩
  | dT kvs => obtain ⟨_, _, _, _, o, _, _, e, _⟩ := x; exact ⟨_, e⟩
  | set S n => obtain ⟨o, _, _, _, e, _⟩ := x; exact ⟨_, e⟩
  | ins C dx fs => obtain ⟨_, _, _, e, _⟩ := x; exact ⟨_, e⟩
  | own y => obtain ⟨_, e⟩ := x; exact ⟨_, e⟩
  | xd fs => obtain ⟨_, ⟨_, _, _, e, _⟩, _⟩ := x; exact ⟨_, e⟩
  | rng lo hi => obtain ⟨_, _, _, e⟩ := x; exact ⟨_, e⟩
  | frz ob u => obtain ⟨e, _⟩ := x; exact ⟨_, e⟩
  | tbl ps => exact ⟨_, show h.get? a = some _ from x⟩
  | met f y => exact ⟨_, show h.get? a = some _ from x⟩
  | ext φ => obtain ⟨_, ⟨_, e⟩, _⟩ := x; exact ⟨_, e⟩
theorem hn_of {pins : List (Addr × Obj)} {σ : List (Option V)} {H : Hp} {s : Shared} {a : Addr} (I : Inv X pins σ H s) (h : s.heap.get? a = none) : H a = none := by
  cases e : H a with
  | none => rfl
  | some o =>
    obtain ⟨u, q⟩ := objOk_there (I.hok a o e)
    rw [h] at q; cases q
/-- the keys, the values of the entries -/
theorem ents_vals {C : RC} : ∀ {es : List En} {kvs : List (D × D)} {ens : List DictEntry}, RepEnts C es kvs → Paired EntIs es ens → PySem.W.EachIs (RV C) (ens.map (·.key)) (kvs.map (·.1)) ∧ PySem.W.EachIs (RV C) (ens.map (·.val)) (kvs.map (·.2))
  | _, _, _, .nil, p => by cases p; exact ⟨.nil, .nil⟩
  | _, _, _, .cons _ r1 r2 t, p => by
    cases p with
    | cons h q =>
      obtain ⟨a, b⟩ := ents_vals t q
      exact ⟨.cons ⟨_, h.2.1, r1⟩ a, .cons ⟨_, h.2.2, r2⟩ b⟩
theorem items_eq {ens : Array DictEntry} {acc : Array Value} {f : DictEntry → Value} (h : PySem.ItemsOf (fun i v => ∃ hi : i < ens.size, v = f ens[i]) acc ens.size) : acc.toList = ens.toList.map f := by
  obtain ⟨h1, h2⟩ := h
  apply List.ext_getElem?
  intro i
  rw [List.getElem?_map]
  by_cases hi : i < ens.size
  · have hi2 : i < acc.size := by omega
    have e := h2 i acc[i] (Array.getElem?_eq_getElem hi2)
    obtain ⟨hi3, e⟩ := e
    rw [Array.getElem?_toList, Array.getElem?_eq_getElem hi2, Array.getElem?_toList, Array.getElem?_eq_getElem hi, e]; rfl
  · rw [List.getElem?_eq_none (by rw [Array.length_toList]; omega), List.getElem?_eq_none (by rw [Array.length_toList]; omega)]; rfl
def rSK (X : Cx) : List V → Hp → VK → Prop := fun vs H Q => ∃ p a C st k kvs Z, vs = [.ref p] ∧ H p = some (viewK p a) ∧ OpC X C H st ∧ RepK C H k (.ref a) (.dct kvs) ∧ OutG (p1D .skeys (.dct kvs) st) (RE C H Q) Z
theorem cr_skeys (hc : X.calm = true) (hu : X.A.units + 100 < cLine) : CallR X (.builtin "sorted") (rSK X) := by
  intro pins s σ H vs us Q I rs h
  obtain ⟨p, a, C, st, k, kvs, Z, rfl, hp, oc, r, o⟩ := h
  rw [Vals.ref1 rs]
  obtain ⟨a', es, ea, da⟩ := repK_dct I oc.sub r
  cases ea
  obtain ⟨gd, o⟩ := OutG.guardB o
  rw [Bool.and_eq_true] at gd
  obtain ⟨g1, g2⟩ := gd
  obtain ⟨ob, ens, ep, ho, hx, hd, hpr⟩ := da.at_
  have hv : PySem.W.KdlKeysView s.heap p a := ext_of (I.hok p _ hp)
  have hl0 := da.ok.len
  have hl1 : ens.size = kvs.length := by rw [← da.ents.length, ← Array.length_toList]; exact (Paired.length hpr).symm
  have hl : ens.size ≤ sizeLine := by omega
  have hh : X.A.handled = none := I.ok.hd hc
  have ev := (ents_vals da.ents hpr).1
  have dps : ∀ d ∈ kvs.map (·.1), D.plainN 39 d = true := plains_mem g1
  have er : PySem.W.EachIs (fun v (b : D) => ∃ as, Reads s.heap v b.py as) (ens.toList.map (·.key)) (kvs.map (·.1)) := by
    obtain ⟨vs', q1, q2⟩ := rv_each ev
    obtain ⟨as, rr⟩ := Dp.readsAll I _ _ _ (repAll_dp oc.K oc.sub _ 39 vs' g1 q2) q1
    exact each_reads rr
  refine sorted_src (bs := kvs.map (·.1)) (enc := D.py) (R := RV C) (fun A' E' K hA hK => ?_) ev er (allAlike_of g2) (sh_kinds g2) (by rw [List.length_map]; omega) (fun b hb => ?_) fun D out h' tk n hk hna he hlen eo => ?_
  · refine PySem.W.kdu_collect (KdlSrc.rawKeys (es := ens) (ep := ep) (r := p) (d := a)) (hA.trans hh) ⟨hv, ob, ho, hx, hd⟩ hl fun h' tk acc hk hi => ?_
    rw [items_eq (f := fun e => e.key) hi]
    exact hK h' tk hk
  · have := (plain_py b 39 (dps b hb)).2
    omega
  · have hn : H D = none := hn_of I hna
    rw [← sortD_merge g1 g2] at eo
    obtain ⟨vs', q1, q2⟩ := rv_each eo
    have hl2 : vs'.length ≤ sizeLine := by rw [q2.length, sortD_length, List.length_map]; omega
    obtain ⟨p1, p2⟩ := new_lst oc.sub oc.row hn q2
    exact ⟨.ref D, upd H D (.lst vs'), inv_laid I hk hna hn ⟨hl2, out, n, q1, he⟩, rfl, o _ C _ p1 p2 fun a e => by cases e; exact hn⟩
theorem x_skeys {o : Expr} {io : E} {p apos mpos : Pos} (hK : X.K = g.K) (hw : X.w = g.w) (hc : X.calm = true) (hu : X.A.units + 100 < cLine) (hg : Gl X "sorted") (hm : X.mg "sorted" = none) (ho : PE X o (tE g W H0 io env))
    (hbase : attributeBase o "keys" X.env (eval o X.env) = eval o X.env) (hline : (apos.endLine == mpos.line) = true) :
    PE X (.Call (.Name "sorted" p) [.Call (.Attribute o "keys" apos) [] [] mpos] [] pos) (tE g W H0 (.p1 .skeys io) env) := by
  refine PE.imp (pe_callB (cr_skeys hc hu) hg hm (by decide +kernel) (pa_cons (pe_keysV ho hbase hline) pa_nil rfl) (by decide) (by decide) rfl rfl) fun σ H Q ⟨C, st, oc, S, o⟩ => ⟨C, st, oc, S, o.bindI fun kd st1 q v C1 H1 p r n => ?_⟩
  obtain ⟨k0, d0⟩ := kd
  cases d0 with
  | dct kvs =>
    refine ⟨⟨C1, st1, k0, kvs, (S.step p).opC hK hw (oc.step p.le), r⟩, fun p2 a e hn => ?_⟩
    subst e
    have pn := post_new p.sub p.row hn (viewK p2 a)
    exact ⟨p2, a, C1, st1, k0, kvs, _, rfl, upd_same, ((S.step p).step pn).opC hK hw ((oc.step p.le).step pn.le), r.step pn, q.imp (fun _ _ z => (z.shift p).shift pn) fun _ _ _ z => z⟩
  | _ => exact (show False from q).elim

/-! ### sum(d.values()) -/
theorem viewV_ok {P : Program} {w : World} {H : Hp} {h : Heap} {p a : Addr} (x : h.IsValuesView p a) : ObjOk P w H h p (viewV p a) := by
  obtain ⟨o, ho, r⟩ := id x
  exact ⟨x, ⟨o, ho⟩, fun h1 h2 ⟨o, ho, r⟩ k => ⟨o, k o ho, r⟩⟩
theorem pe_valsV {o : Expr} {to : TE} {apos cpos : Pos} (ho : PE X o to) (hbase : attributeBase o "values" X.env (eval o X.env) = eval o X.env) (hline : (apos.endLine == cpos.line) = true) :
    PE X (.Call (.Attribute o "values" apos) [] [] cpos) (tView X viewV to) := by
  refine ⟨fun pins s σ H Q I h => ?_⟩
  refine wpAny_Call_method0_late hbase hline (thn (ho.run pins s σ H _ I h) fun v s1 ⟨x, H1, I1, r1, ⟨C, st, kk, kvs, oc, r⟩, q1⟩ => ?_)
  obtain ⟨a, es, rfl, da⟩ := repK_dct I1 oc.sub r
  cases r1
  obtain ⟨ob, ens, ep, ho, hx, hd, hp⟩ := da.at_
  refine ⟨"dict", "dict.values", PySem.F.plainAttrs_dict, PySem.F.slot_dict_values, PySem.F.type_dict_values, ⟨ob, ho, hx.1⟩, fun b e => by cases e; exact ⟨ob, ho, hx.2.1⟩, Calls.callWith_builtin rfl (PySem.evalArgs_none ?_)⟩
  have hn := I1.hok.fresh (Nat.le_refl s1.heap.objs.size)
  refine call_meetsIn PySem.F.slot_dict_values ⟨ob, ho, hx.1⟩ PySem.F.entry_dict_values (PySem.F.args_dict_values_1 _) (meets_dict_values_raw a da.ok.sys) ⟨⟨ens, ep, ob, ho, hx, hd⟩, ?_⟩
  exact ⟨.ref s1.heap.objs.size, _, I1.laid (a := s1.heap.objs.size) (t' := s1.toks) (fun _ _ q => Heap.get?_push_of_some _ q) (Nat.le_refl _) (viewV_ok ⟨_, Heap.get?_push_size _ rfl, rfl, rfl⟩), rfl, q1 _ a rfl hn⟩
def rSV (X : Cx) : List V → Hp → VK → Prop := fun vs H Q => ∃ p a C st k kvs Z, vs = [.ref p] ∧ H p = some (viewV p a) ∧ OpC X C H st ∧ RepK C H k (.ref a) (.dct kvs) ∧ OutG (p1D .svals (.dct kvs) st) (RE C H Q) Z
theorem preSum_take (val : Nat → Int) : ∀ (ns : List Int), (∀ i v, ns[i]? = some v → val i = v) → preSum val ns.length = ns.sum := by
  intro ns h
  have go : ∀ k, k ≤ ns.length → preSum val k = (ns.take k).sum := by
    intro k
    induction k with
    | zero => intro _; rw [List.take_zero]; rfl
    | succ k ih =>
      intro hk
      have hk' : k < ns.length := by omega
      show preSum val k + val k = _
      rw [ih (by omega), List.take_succ, List.getElem?_eq_getElem hk', List.sum_append, h k _ (List.getElem?_eq_getElem hk')]
      simp
  rw [go _ (Nat.le_refl _), List.take_length]
theorem ints_get {C : RC} : ∀ {us : List Value} {ds : List D} {ns : List Int}, PySem.W.EachIs (RV C) us ds → intsOf ds = some ns → us.length = ns.length ∧ ∀ (i : Nat) (v : Value), us[i]? = some v → ∃ (t : Tok) (n : Int), ns[i]? = some n ∧ v = Value.int n t
  | _, _, ns, .nil, h => by
    cases h
    exact ⟨rfl, fun i v e => by simp at e⟩
  | _, d :: ds, ns, .cons ⟨v0, r1, r2⟩ t, h => by
    cases d with
    | int i =>
      obtain ⟨ms, e, rfl⟩ := Option.map_eq_some_iff.mp h
      obtain ⟨h1, h2⟩ := ints_get t e
      refine ⟨congrArg Nat.succ h1, fun j v e => ?_⟩
      cases j with
      | zero =>
        have e := Option.some.inj e
        subst e
        cases r2
        obtain ⟨tt, et⟩ := r1
        exact ⟨tt, i, rfl, et⟩
      | succ j => exact h2 j v e
    | _ => exact nomatch h
theorem cr_svals (hc : X.calm = true) : CallR X (.builtin "sum") (rSV X) := by
  intro pins s σ H vs us Q I rs h
  obtain ⟨p, a, C, st, k, kvs, Z, rfl, hp, oc, r, o⟩ := h
  rw [Vals.ref1 rs]
  obtain ⟨a', es, ea, da⟩ := repK_dct I oc.sub r
  cases ea
  obtain ⟨ns, en, o⟩ := OutG.needB o
  obtain ⟨ob, ens, ep, ho, hx, hd, hpr⟩ := da.at_
  have hv : s.heap.IsValuesView p a := ext_of (I.hok p _ hp)
  have hh : X.A.handled = none := I.ok.hd hc
  obtain ⟨l1, ig⟩ := ints_get (ents_vals da.ents hpr).2 en
  rw [List.length_map, Array.length_toList] at l1
  have K := KdlSrc.rawValues (prog := X.prog) (w := X.w) (es := ens) (ep := ep) (r := p) (d := a)
  have hok : s.heap.IsValuesView p a ∧ s.heap.DictRaw a ens ep := ⟨hv, ob, ho, hx, hd⟩
  refine call_sum_walkAnyS ?_
  obtain ⟨oI, St, hit, W, st0⟩ := K.iter X.A.in1 s hh hok
  have vi : ∀ (i : Nat) (v : Value), (∃ hi : i < ens.size, v = ens[i].val) → ∃ t n, ns[i]? = some n ∧ v = Value.int n t := fun i v ⟨hi, e⟩ => ig i v (by rw [List.getElem?_map, Array.getElem?_toList, Array.getElem?_eq_getElem hi, e]; rfl)
  refine hit _ _ ⟨s.heap.objs.size, _, _, _, ens.size, _, _, fun i => ns.getD i 0, rfl, W.toS, st0, fun b hb => ?_, fun i v h => ?_, fun s' t' hm => ?_⟩
  · show b < (s.heap.push oI).objs.size
    rw [size_push']
    rcases List.mem_cons.mp hb with e | hb
    · rw [e]; exact Nat.lt_succ_self _
    · rw [List.mem_singleton.mp hb]; exact Nat.lt_succ_of_lt (K.there _ hok).2
  · obtain ⟨t, n, e1, e2⟩ := vi i v h
    exact ⟨t, by show v = Value.int (ns.getD i 0) t; rw [e2, List.getD_eq_getElem?_getD, e1]; rfl⟩
  · have hk : ∀ b o, s.heap.get? b = some o → s'.heap.get? b = some o := fun b o e =>
      hm.heap b o (fun hI => absurd (Heap.lt_size e) (by rw [List.mem_singleton.mp hI]; exact Nat.lt_irrefl _)) (Heap.get?_push_of_some _ e)
    rw [Moved.eq_with hm, l1, preSum_take _ ns fun i v e => by show ns.getD i 0 = v; rw [List.getD_eq_getElem?_getD, e]; rfl]
    have I2 : Inv X pins σ H { s with heap := s'.heap, toks := s'.toks } := I.un (Un.kept hk) (I.hok.kept hk)
    exact ⟨.int _, H, I2, ⟨_, rfl⟩, imm oc.sub oc.row (fun _ => .int _) o⟩
theorem x_svals {o : Expr} {io : E} {p apos mpos : Pos} (hK : X.K = g.K) (hw : X.w = g.w) (hc : X.calm = true) (hg : Gl X "sum") (hm : X.mg "sum" = none) (ho : PE X o (tE g W H0 io env))
    (hbase : attributeBase o "values" X.env (eval o X.env) = eval o X.env) (hline : (apos.endLine == mpos.line) = true) :
    PE X (.Call (.Name "sum" p) [.Call (.Attribute o "values" apos) [] [] mpos] [] pos) (tE g W H0 (.p1 .svals io) env) := by
  refine PE.imp (pe_callB (cr_svals hc) hg hm (by decide +kernel) (pa_cons (pe_valsV ho hbase hline) pa_nil rfl) (by decide) (by decide) rfl rfl) fun σ H Q ⟨C, st, oc, S, o⟩ => ⟨C, st, oc, S, o.bindI fun kd st1 q v C1 H1 p r n => ?_⟩
  obtain ⟨k0, d0⟩ := kd
  cases d0 with
  | dct kvs =>
    refine ⟨⟨C1, st1, k0, kvs, (S.step p).opC hK hw (oc.step p.le), r⟩, fun p2 a e hn => ?_⟩
    subst e
    have pn := post_new p.sub p.row hn (viewV p2 a)
    exact ⟨p2, a, C1, st1, k0, kvs, _, rfl, upd_same, ((S.step p).step pn).opC hK hw ((oc.step p.le).step pn.le), r.step pn, q.imp (fun _ _ z => (z.shift p).shift pn) fun _ _ _ z => z⟩
  | _ => exact (show False from q).elim
/-! ### max(d.values()) -/
def rMV (X : Cx) : List V → Hp → VK → Prop := fun vs H Q => ∃ p a C st k kvs Z, vs = [.ref p] ∧ H p = some (viewV p a) ∧ OpC X C H st ∧ RepK C H k (.ref a) (.dct kvs) ∧ OutG (p1D .mxvals (.dct kvs) st) (RE C H Q) Z
theorem cr_mxvals (hc : X.calm = true) (hu : X.A.units + 100 < cLine) : CallR X (.builtin "max") (rMV X) := by
  intro pins s σ H vs us Q I rs h
  obtain ⟨p, a, C, st, k, kvs, Z, rfl, hp, oc, r, o⟩ := h
  rw [Vals.ref1 rs]
  obtain ⟨a', es, ea, da⟩ := repK_dct I oc.sub r
  cases ea
  obtain ⟨g, o⟩ := OutG.guardB o
  rw [Bool.and_eq_true] at g
  obtain ⟨ob, ens, ep, ho, hx, hd, hpr⟩ := da.at_
  have hv : s.heap.IsValuesView p a := ext_of (I.hok p _ hp)
  have hh : X.A.handled = none := I.ok.hd hc
  obtain ⟨vs', q1, q2⟩ := rv_each (ents_vals da.ents hpr).2
  obtain ⟨ds, hds⟩ : ∃ ds, kvs.map (·.2) = ds := ⟨_, rfl⟩
  rw [hds] at g o q2
  cases ds with
  | nil => exact (show False from o).elim
  | cons e es =>
    have hm : D.plainN 39 (maxD e es) = true := plains_mem g.1 _ (maxD_mem es e)
    have epy := maxD_py es e (lt_of g.1 g.2)
    have hroom : X.A.units + 1 + PyData.depthAll (D.pys (e :: es)) < cLine := by have := (plains_py (e :: es) 39 g.1).2; omega
    obtain ⟨as, rr⟩ := Dp.readsAll I _ _ _ (repAll_dp oc.K oc.sub (e :: es) 39 vs' g.1 q2) q1
    obtain ⟨its, hits⟩ : ∃ its, ens.toList.map (fun e => e.val) = its := ⟨_, rfl⟩
    rw [hits] at rr q1
    have rr : ReadsAll s.heap its.toArray.toList (e.py :: D.pys es) as := rr
    have hn : ens.size = es.length + 1 := by
      have h1 := PySem.W.readsAll_len rr
      have h2 : its.length = ens.size := by rw [← hits, List.length_map, Array.length_toList]
      have h3 : (D.pys es).length = es.length := by rw [pys_map, List.length_map]
      rw [List.size_toArray, List.length_cons, h3] at h1
      omega
    have conv : ∀ (i : Nat) (v : Value), (∃ hi : i < ens.size, v = ens[i].val) → its.toArray[i]? = some v := fun i v ⟨hi, ev⟩ => by
      rw [← hits, List.getElem?_toArray, List.getElem?_map, Array.getElem?_toList, Array.getElem?_eq_getElem hi, ev]; rfl
    have K := KdlSrc.rawValues (prog := X.prog) (w := X.w) (es := ens) (ep := ep) (r := p) (d := a)
    have hok : s.heap.IsValuesView p a ∧ s.heap.DictRaw a ens ep := ⟨hv, ob, ho, hx, hd⟩
    refine call_max_walkH ?_
    obtain ⟨oI, St, hit, W, st0⟩ := K.iter X.A.in1 s hh hok
    have cmp := PySem.W.cmpIn_gt (prog := X.prog) (w := X.w) (A := X.A.in1) rr (alikeAll_of g.2) (by show X.A.units + 1 + _ < _; exact hroom)
    refine hit _ _ ⟨s.heap.objs.size, _, _, _, ens.size, _, _, s.heap, _, rfl, W.toS, st0, fun b hb => ?_, by omega, fun b o e hb => ?_, fun b o e => Heap.get?_push_of_some _ e, fun i j vi vj s2 Q2 E2 hk hi hj hq => cmp i j vi vj s2 Q2 E2 hk (conv i vi hi) (conv j vj hj) hq, fun v s' hP mv => ?_⟩
    · show b < (s.heap.push oI).objs.size
      rw [size_push']
      rcases List.mem_cons.mp hb with e | hb
      · rw [e]; exact Nat.lt_succ_self _
      · rw [List.mem_singleton.mp hb]; exact Nat.lt_succ_of_lt (K.there _ hok).2
    · rw [List.mem_singleton.mp hb] at e
      exact absurd (Heap.lt_size e) (Nat.lt_irrefl _)
    · have hk : ∀ b o, s.heap.get? b = some o → s'.heap.get? b = some o := fun b o e =>
        mv.heap b o (fun hI => absurd (Heap.lt_size e) (by rw [List.mem_singleton.mp hI]; exact Nat.lt_irrefl _)) (Heap.get?_push_of_some _ e)
      have I2 : Inv X pins σ H { s with heap := s'.heap, toks := s'.toks } := I.un (Un.kept hk) (I.hok.kept hk)
      obtain ⟨bs, rd, _, _, _⟩ := PySem.W.readsAll_atA rr _ v (conv _ v hP)
      have e2 := (PySem.W.argBest_fold (fun a b => PySem.W.dataLt b a) PyData.none e.py (D.pys es) (D.pys es).length (Nat.le_refl _)).2
      rw [List.take_length] at e2
      have h3 : ens.size - 1 = (D.pys es).length := by
        have : (D.pys es).length = es.length := by rw [pys_map, List.length_map]
        omega
      rw [h3] at rd hP
      have rd2 : Reads s'.heap v (maxD e es).py bs := PySem.W.reads_keeps hk (by rw [epy]; unfold PySem.W.maxD; rw [← e2]; exact rd)
      obtain ⟨v0, r1, r2⟩ := best_item I oc.K oc.sub g.1 q1 q2 (by have := conv _ v hP; rwa [List.getElem?_toArray] at this) rd2 hm hk
      rw [Moved.eq_with mv]
      exact ⟨v0, H, I2, r1, (show RE C H Q (.sh, maxD e es) st from o) v0 C H (.refl oc.sub oc.row) r2 trivial⟩
theorem x_mxvals {o : Expr} {io : E} {p apos mpos : Pos} (hK : X.K = g.K) (hw : X.w = g.w) (hc : X.calm = true) (hu : X.A.units + 100 < cLine) (hg : Gl X "max") (hm : X.mg "max" = none) (ho : PE X o (tE g W H0 io env))
    (hbase : attributeBase o "values" X.env (eval o X.env) = eval o X.env) (hline : (apos.endLine == mpos.line) = true) :
    PE X (.Call (.Name "max" p) [.Call (.Attribute o "values" apos) [] [] mpos] [] pos) (tE g W H0 (.p1 .mxvals io) env) := by
  refine PE.imp (pe_callB (cr_mxvals hc hu) hg hm (by decide +kernel) (pa_cons (pe_valsV ho hbase hline) pa_nil rfl) (by decide) (by decide) rfl rfl) fun σ H Q ⟨C, st, oc, S, o⟩ => ⟨C, st, oc, S, o.bindI fun kd st1 q v C1 H1 p r n => ?_⟩
  obtain ⟨k0, d0⟩ := kd
  cases d0 with
  | dct kvs =>
    refine ⟨⟨C1, st1, k0, kvs, (S.step p).opC hK hw (oc.step p.le), r⟩, fun p2 a e hn => ?_⟩
    subst e
    have pn := post_new p.sub p.row hn (viewV p2 a)
    exact ⟨p2, a, C1, st1, k0, kvs, _, rfl, upd_same, ((S.step p).step pn).opC hK hw ((oc.step p.le).step pn.le), r.step pn, q.imp (fun _ _ z => (z.shift p).shift pn) fun _ _ _ z => z⟩
  | _ => exact (show False from q).elim
/-! ### list(d.values()) -/
def rLV (X : Cx) : List V → Hp → VK → Prop := fun vs H Q => ∃ p a C st k kvs Z, vs = [.ref p] ∧ H p = some (viewV p a) ∧ OpC X C H st ∧ RepK C H k (.ref a) (.dct kvs) ∧ OutG (p1D .lvals (.dct kvs) st) (RE C H Q) Z
theorem cr_lvals (hc : X.calm = true) : CallR X (.type "list") (rLV X) := by
  intro pins s σ H vs us Q I rs h
  obtain ⟨p, a, C, st, k, kvs, Z, rfl, hp, oc, r, o⟩ := h
  rw [Vals.ref1 rs]
  obtain ⟨a', es, ea, da⟩ := repK_dct I oc.sub r
  cases ea
  obtain ⟨ob, ens, ep, ho, hx, hd, hpr⟩ := da.at_
  have hv : s.heap.IsValuesView p a := ext_of (I.hok p _ hp)
  have hl0 := da.ok.len
  have hl1 : ens.size = kvs.length := by rw [← da.ents.length, ← Array.length_toList]; exact (Paired.length hpr).symm
  have hl : ens.size ≤ sizeLine := by omega
  obtain ⟨vs', q1, q2⟩ := rv_each (ents_vals da.ents hpr).2
  refine PySem.W.kdl_call (KdlSrc.rawValues (es := ens) (ep := ep) (r := p) (d := a)) (I.ok.hd hc) ⟨hv, ob, ho, hx, hd⟩ hl fun h' tk acc c hk he hi => ?_
  have ea := items_eq (f := fun e => e.val) hi
  rw [← ea] at q1
  have hn := I.hok.fresh (Nat.le_refl s.heap.objs.size)
  have hna : s.heap.get? s.heap.objs.size = none := by
    cases e : s.heap.get? s.heap.objs.size with
    | none => rfl
    | some u => exact absurd (Heap.lt_size e) (Nat.lt_irrefl _)
  have hl2 : vs'.length ≤ sizeLine := by rw [q2.length, List.length_map]; omega
  obtain ⟨p1, p2⟩ := new_lst oc.sub oc.row hn q2
  exact ⟨.ref s.heap.objs.size, upd H s.heap.objs.size (.lst vs'), inv_laid I hk hna hn ⟨hl2, acc.toList, c, q1, by rw [Array.toArray_toList]; exact he⟩, rfl, o _ C _ p1 p2 fun a e => by cases e; exact hn⟩
theorem x_lvals {o : Expr} {io : E} {p apos mpos : Pos} (hK : X.K = g.K) (hw : X.w = g.w) (hc : X.calm = true) (hg : Gl X "list") (hm : X.mg "list" = none) (ho : PE X o (tE g W H0 io env))
    (hbase : attributeBase o "values" X.env (eval o X.env) = eval o X.env) (hline : (apos.endLine == mpos.line) = true) :
    PE X (.Call (.Name "list" p) [.Call (.Attribute o "values" apos) [] [] mpos] [] pos) (tE g W H0 (.p1 .lvals io) env) := by
  refine PE.imp (pe_callTy (cr_lvals hc) hg hm (by decide +kernel) (pa_cons (pe_valsV ho hbase hline) pa_nil rfl) (by decide) (by decide) rfl rfl) fun σ H Q ⟨C, st, oc, S, o⟩ => ⟨C, st, oc, S, o.bindI fun kd st1 q v C1 H1 p r n => ?_⟩
  obtain ⟨k0, d0⟩ := kd
  cases d0 with
  | dct kvs =>
    refine ⟨⟨C1, st1, k0, kvs, (S.step p).opC hK hw (oc.step p.le), r⟩, fun p2 a e hn => ?_⟩
    subst e
    have pn := post_new p.sub p.row hn (viewV p2 a)
    exact ⟨p2, a, C1, st1, k0, kvs, _, rfl, upd_same, ((S.step p).step pn).opC hK hw ((oc.step p.le).step pn.le), r.step pn, q.imp (fun _ _ z => (z.shift p).shift pn) fun _ _ _ z => z⟩
  | _ => exact (show False from q).elim
end
end Hb
namespace Hb
open PySem PySem.Spec PyProof.Rows L2

/-! ### a frozen dict, walked by its keys -/
def Itx (d : Addr) (o : Obj) (es : List En) : It :=
  ⟨fun i H => H d = some (.frz o (.ext (DP d es))) ∧ i < es.length, fun i H x H' => H' = H ∧ ∃ e, es[i]? = some e ∧ x = e.2.1, fun i H => H d = some (.frz o (.ext (DP d es))) ∧ es.length ≤ i⟩
theorem frz_raw {P : Program} {w : World} {H : Hp} {h : Heap} {d : Addr} {o : Obj} {es : List En} (x : ObjOk P w H h d (.frz o (.ext (DP d es)))) :
    ∃ ens ep, h.get? d = some o ∧ o.ExactDict ∧ o.data = .dict ens ep ∧ Paired EntIs es ens.toList := by
  obtain ⟨e, ⟨o', ens, ep, e', hx, hd, hp⟩, _⟩ := x
  rw [e] at e'; cases e'
  exact ⟨ens, ep, e, hx, hd, hp⟩
theorem paired_get {α β : Type} {R : α → β → Prop} : ∀ {xs : List α} {ys : List β} {i : Nat} {x : α}, Paired R xs ys → xs[i]? = some x → ∃ y, ys[i]? = some y ∧ R x y
  | _, _, _, _, .nil, e => by simp at e
  | _, _, 0, _, .cons h _, e => by simp at e; subst e; exact ⟨_, rfl, h⟩
  | _, _, i + 1, _, .cons _ t, e => by
    obtain ⟨y, h1, h2⟩ := paired_get (i := i) t (by simpa using e)
    exact ⟨y, by simpa using h1, h2⟩
theorem turn_keysX {P : Program} {w : World} {K : PySem.W.Frag} {tg : Expr} {d : Addr} {o : Obj} {es : List En} {ens0 : Array DictEntry} {ep0 : Nat} (it : Addr) (hod : o.data = .dict ens0 ep0) :
    Turn P w K tg (Itx d o es) [it] it (fun i h => h.IsKeyIter it d i es.length ep0) where
  mem := by simp
  obj := fun i h st b hb => by
    have e : b = it := by simpa using hb
    subst e
    obtain ⟨oi, e, c, dd⟩ := st
    exact ⟨oi, e, fun v z => by rw [dd] at z; cases z⟩
  keep := fun i h h' st k => st.at fun oi e => k it (by simp) oi e
  item := by
    intro X hP hw hK hc i pins s σ H E I hf st hg
    subst hP hw hK
    obtain ⟨hd, hi⟩ := hg
    obtain ⟨f0, f1, f2, f3, f4, f5⟩ := hf it (by simp)
    obtain ⟨ens, ep, ho, hx, hdt, hp⟩ := frz_raw (I.hok d _ hd)
    obtain ⟨rfl, rfl⟩ := dict_ep hod hdt
    have hl : es.length = ens.size := by rw [← Array.length_toList]; exact Paired.length hp
    rw [hl] at st
    have hi2 : i < ens.size := by omega
    refine wpAny_pyNext_keys_item_raw st ⟨o, ho, hx, hdt⟩ hi2 fun h' st' sb => ?_
    have I1 : Inv X pins σ H { s with heap := h' } := I.turned (t' := s.toks) (fun b ob hb e => (sb.2 b hb).trans e) f0 f1 f3 f4 f5
    obtain ⟨oi, e, c, dd⟩ := id st'
    obtain ⟨en, q1, q2⟩ := paired_get hp (List.getElem?_eq_getElem hi)
    rw [Array.getElem?_toList, Array.getElem?_eq_getElem hi2] at q1
    cases q1
    refine ⟨_, rfl, go_of (s := { s with heap := h' }) e c dd (by decide) ⟨es[i].2.1, H, I1, q2.2.1, ⟨rfl, _, List.getElem?_eq_getElem hi, rfl⟩, ?_, fun b hb => (hf b hb).1⟩⟩
    show h'.IsKeyIter it d (i + 1) es.length _
    rw [hl]
    exact st'
  done := by
    intro X hP hw hK hc i pins s σ H E I hf st hg
    subst hP hw hK
    obtain ⟨hd, hi⟩ := hg
    obtain ⟨f0, f1, f2, f3, f4, f5⟩ := hf it (by simp)
    obtain ⟨ens, ep, ho, hx, hdt, hp⟩ := frz_raw (I.hok d _ hd)
    obtain ⟨rfl, rfl⟩ := dict_ep hod hdt
    have hl : es.length = ens.size := by rw [← Array.length_toList]; exact Paired.length hp
    rw [hl] at st
    exact wpAny_pyNext_keys_end_raw (I.ok.hd hc) st ⟨o, ho, hx, hdt⟩ (by omega) fun h' eb => ⟨rfl, I.turned (t' := s.toks) (fun b ob hb e => eb b ob hb e) f0 f1 f3 f4 f5⟩
  self := fun A i s Q E st h => wpAny_pyIter_keyiter st h
theorem ents_key {C : RC} : ∀ {es : List En} {kvs : List (D × D)} {i : Nat} {en : En} {dd : D}, RepEnts C es kvs → es[i]? = some en → (kvs.map (·.1))[i]? = some dd → Rep C en.2.1 dd
  | _, _, _, _, _, .nil, e, _ => by simp at e
  | _, _, 0, _, _, .cons _ h2 _ _, e1, e2 => by
    simp at e1 e2
    subst e1 e2
    exact h2
  | _, _, i + 1, _, _, .cons _ _ _ t, e1, e2 => ents_key (i := i) t (by simpa using e1) (by simpa using e2)
theorem walkD_keys {C : RC} {d : Addr} {o : Obj} {es : List En} {kvs : List (D × D)} {pr : List (Addr × HO)} (hF : C.F d = some (.frz o (.ext (DP d es)))) (r : RepEnts C es kvs) (hz : kvs.length ≤ sizeLine) : WalkD C (Itx d o es) (kvs.map (·.1)) pr where
  len := by rw [List.length_map]; exact hz
  goes := fun i H hi f => ⟨f.1 _ _ hF, by rw [List.length_map] at hi; rw [r.length]; exact hi⟩
  stops := fun H f => ⟨f.1 _ _ hF, by rw [List.length_map, r.length]; exact Nat.le_refl _⟩
  yields := fun i H x H' C1 st1 dd hd f y L sub row => by
    obtain ⟨e, en, y1, y2⟩ := y
    subst e y2
    exact same_yield L sub row (ents_key r y1 hd)
/-! ### the same by its values -/
def Itv (d : Addr) (o : Obj) (es : List En) : It :=
  ⟨fun i H => H d = some (.frz o (.ext (DP d es))) ∧ i < es.length, fun i H x H' => H' = H ∧ ∃ e, es[i]? = some e ∧ x = e.2.2, fun i H => H d = some (.frz o (.ext (DP d es))) ∧ es.length ≤ i⟩
theorem turn_valsX {P : Program} {w : World} {K : PySem.W.Frag} {tg : Expr} {d : Addr} {o : Obj} {es : List En} {ens0 : Array DictEntry} {ep0 : Nat} (it : Addr) (hod : o.data = .dict ens0 ep0) :
    Turn P w K tg (Itv d o es) [it] it (fun i h => h.IsValIter it d i es.length ep0) where
  mem := by simp
  obj := fun i h st b hb => by
    have e : b = it := by simpa using hb
    subst e
    obtain ⟨oi, e, c, dd⟩ := st
    exact ⟨oi, e, fun v z => by rw [dd] at z; cases z⟩
  keep := fun i h h' st k => st.at fun oi e => k it (by simp) oi e
  item := by
    intro X hP hw hK hc i pins s σ H E I hf st hg
    subst hP hw hK
    obtain ⟨hd, hi⟩ := hg
    obtain ⟨f0, f1, f2, f3, f4, f5⟩ := hf it (by simp)
    obtain ⟨ens, ep, ho, hx, hdt, hp⟩ := frz_raw (I.hok d _ hd)
    obtain ⟨rfl, rfl⟩ := dict_ep hod hdt
    have hl : es.length = ens.size := by rw [← Array.length_toList]; exact Paired.length hp
    rw [hl] at st
    have hi2 : i < ens.size := by omega
    refine wpAny_pyNext_values_item_raw st ⟨o, ho, hx, hdt⟩ hi2 fun h' st' sb => ?_
    have I1 : Inv X pins σ H { s with heap := h' } := I.turned (t' := s.toks) (fun b ob hb e => (sb.2 b hb).trans e) f0 f1 f3 f4 f5
    obtain ⟨oi, e, c, dd⟩ := id st'
    obtain ⟨en, q1, q2⟩ := paired_get hp (List.getElem?_eq_getElem hi)
    rw [Array.getElem?_toList, Array.getElem?_eq_getElem hi2] at q1
    cases q1
    refine ⟨_, rfl, go_of (s := { s with heap := h' }) e c dd (by decide) ⟨es[i].2.2, H, I1, q2.2.2, ⟨rfl, _, List.getElem?_eq_getElem hi, rfl⟩, ?_, fun b hb => (hf b hb).1⟩⟩
    show h'.IsValIter it d (i + 1) es.length _
    rw [hl]
    exact st'
  done := by
    intro X hP hw hK hc i pins s σ H E I hf st hg
    subst hP hw hK
    obtain ⟨hd, hi⟩ := hg
    obtain ⟨f0, f1, f2, f3, f4, f5⟩ := hf it (by simp)
    obtain ⟨ens, ep, ho, hx, hdt, hp⟩ := frz_raw (I.hok d _ hd)
    obtain ⟨rfl, rfl⟩ := dict_ep hod hdt
    have hl : es.length = ens.size := by rw [← Array.length_toList]; exact Paired.length hp
    rw [hl] at st
    exact wpAny_pyNext_values_end_raw (I.ok.hd hc) st ⟨o, ho, hx, hdt⟩ (by omega) fun h' eb => ⟨rfl, I.turned (t' := s.toks) (fun b ob hb e => eb b ob hb e) f0 f1 f3 f4 f5⟩
  self := fun A i s Q E st h => wpAny_pyIter_valiter st h
theorem ents_val {C : RC} : ∀ {es : List En} {kvs : List (D × D)} {i : Nat} {en : En} {dd : D}, RepEnts C es kvs → es[i]? = some en → (kvs.map (·.2))[i]? = some dd → Rep C en.2.2 dd
  | _, _, _, _, _, .nil, e, _ => by simp at e
  | _, _, 0, _, _, .cons _ _ h2 _, e1, e2 => by
    simp at e1 e2
    subst e1 e2
    exact h2
  | _, _, i + 1, _, _, .cons _ _ _ t, e1, e2 => ents_val (i := i) t (by simpa using e1) (by simpa using e2)
theorem walkD_vals {C : RC} {d : Addr} {o : Obj} {es : List En} {kvs : List (D × D)} {pr : List (Addr × HO)} (hF : C.F d = some (.frz o (.ext (DP d es)))) (r : RepEnts C es kvs) (hz : kvs.length ≤ sizeLine) : WalkD C (Itv d o es) (kvs.map (·.2)) pr where
  len := by rw [List.length_map]; exact hz
  goes := fun i H hi f => ⟨f.1 _ _ hF, by rw [List.length_map] at hi; rw [r.length]; exact hi⟩
  stops := fun H f => ⟨f.1 _ _ hF, by rw [List.length_map, r.length]; exact Nat.le_refl _⟩
  yields := fun i H x H' C1 st1 dd hd f y L sub row => by
    obtain ⟨e, en, y1, y2⟩ := y
    subst e y2
    exact same_yield L sub row (ents_val r y1 hd)
section
variable {X : Cx} {g : G} {W : WX} {H0 : Hp} {env : Hb.Env} {tg e : Expr} {ie : E} {pos : Pos} (hK : X.K = g.K) (hw : X.w = g.w)
/-- .keys() of a sealed dict -/
theorem pi_keysD {apos : Pos} {te : TE} (he : PE X e te) (hbase : attributeBase e "keys" X.env (eval e X.env) = eval e X.env) (hline : (apos.endLine == pos.line) = true) :
    PI X tg (.Call (.Attribute e "keys" apos) [] [] pos) (fun σ H R => te σ H fun x H1 => ∃ C st kvs, OpC X C H1 st ∧ Rep C x (.dct kvs) ∧ ∀ J pr, WalkD C J (kvs.map (·.1)) pr → pr = [] → R J H1) := by
  refine ⟨fun pins s σ H R I h => ?_⟩
  refine wpAny_Call_method0_late hbase hline (thn (he.run pins s σ H _ I h) fun v s1 ⟨x, H1, I1, r1, C, st, kvs, oc, r, q⟩ => ?_)
  cases r with
  | @dct a o es _ h1 h2 h3 =>
    cases r1
    have hF := oc.sub _ _ h1
    obtain ⟨ens, ep, ho, hx, hdt, hp⟩ := frz_raw (I1.hok a _ hF)
    refine ⟨"dict", "dict.keys", PySem.F.plainAttrs_dict, PySem.F.slot_dict_keys, PySem.F.type_dict_keys, ⟨o, ho, hx.1⟩, fun b e => by cases e; exact ⟨o, ho, hx.2.1⟩, Calls.callWith_builtin rfl (PySem.evalArgs_none ?_)⟩
    have hl : es.length = ens.size := by rw [← Array.length_toList]; exact Paired.length hp
    have I2 : Inv X pins σ H1 { s1 with heap := s1.heap.push { cls := .type "dict_keys", data := .fields #[.ref a] } } := I1.kept (t' := s1.toks) fun b ob q => Heap.get?_push_of_some _ q
    refine call_meetsIn PySem.F.slot_dict_keys ⟨o, ho, hx.1⟩ PySem.F.entry_dict_keys (PySem.F.args_dict_keys_1 _) (meets_dict_keys_raw a h3.sys) ⟨⟨ens, ep, o, ho, hx, hdt⟩, ?_⟩
    refine wpAny_pyIter_keys_raw (d := a) ⟨_, Heap.get?_push_size _ rfl, rfl, rfl⟩ ⟨o, Heap.get?_push_of_some _ ho, hx, hdt⟩ (pi_one (tk := s1.toks) I2 _ (turn_keysX (es := es) _ hdt) ⟨_, Heap.get?_push_size _ rfl, rfl, ?_⟩ (q (Itx a o es) [] (walkD_keys h1 h2 h3.len) rfl))
    rw [hl] <;> rfl
include hK hw in
theorem i_keys {apos : Pos} (he : PE X e (tE g W H0 ie env)) (hbase : attributeBase e "keys" X.env (eval e X.env) = eval e X.env) (hline : (apos.endLine == pos.line) = true) :
    PI X tg (.Call (.Attribute e "keys" apos) [] [] pos) (tI g W H0 (.keys ie) env) := by
  refine PI.imp (pi_keysD (PE.sealF he) hbase hline) fun σ H R ⟨C, st, oc, S, o⟩ => ⟨C, st, oc, S, (OutG.bind o).imp (fun kd st1 q v C1 H1 p r => ?_) fun _ _ _ z => z⟩
  obtain ⟨k, d⟩ := kd
  have q := OutG.bind q
  cases k with
  | br => exact (show False from q).elim
  | sh =>
    cases d with
    | dct kvs => exact ⟨C1, st1, kvs, (S.step p).opC hK hw (oc.step p.le), r, fun J pr w e => (show RI C H R (.sh, kvs.map (·.1)) st1 from q) C1 H1 p J pr w (fun p' hp' => by rw [e] at hp'; nomatch hp') fun _ => e⟩
    | _ => exact (show False from q).elim
  | fr =>
    cases d with
    | dct kvs => exact ⟨C1, st1, kvs, (S.step p).opC hK hw (oc.step p.le), r, fun J pr w e => (show RI C H R (.sh, kvs.map (·.1)) st1 from q) C1 H1 p J pr w (fun p' hp' => by rw [e] at hp'; nomatch hp') fun _ => e⟩
    | _ => exact (show False from q).elim
/-- .values() of a sealed dict -/
theorem pi_valsD {apos : Pos} {te : TE} (he : PE X e te) (hbase : attributeBase e "values" X.env (eval e X.env) = eval e X.env) (hline : (apos.endLine == pos.line) = true) :
    PI X tg (.Call (.Attribute e "values" apos) [] [] pos) (fun σ H R => te σ H fun x H1 => ∃ C st kvs, OpC X C H1 st ∧ Rep C x (.dct kvs) ∧ ∀ J pr, WalkD C J (kvs.map (·.2)) pr → pr = [] → R J H1) := by
  refine ⟨fun pins s σ H R I h => ?_⟩
  refine wpAny_Call_method0_late hbase hline (thn (he.run pins s σ H _ I h) fun v s1 ⟨x, H1, I1, r1, C, st, kvs, oc, r, q⟩ => ?_)
  cases r with
  | @dct a o es _ h1 h2 h3 =>
    cases r1
    have hF := oc.sub _ _ h1
    obtain ⟨ens, ep, ho, hx, hdt, hp⟩ := frz_raw (I1.hok a _ hF)
    refine ⟨"dict", "dict.values", PySem.F.plainAttrs_dict, PySem.F.slot_dict_values, PySem.F.type_dict_values, ⟨o, ho, hx.1⟩, fun b e => by cases e; exact ⟨o, ho, hx.2.1⟩, Calls.callWith_builtin rfl (PySem.evalArgs_none ?_)⟩
    have hl : es.length = ens.size := by rw [← Array.length_toList]; exact Paired.length hp
    have I2 : Inv X pins σ H1 { s1 with heap := s1.heap.push { cls := .type "dict_values", data := .fields #[.ref a] } } := I1.kept (t' := s1.toks) fun b ob q => Heap.get?_push_of_some _ q
    refine call_meetsIn PySem.F.slot_dict_values ⟨o, ho, hx.1⟩ PySem.F.entry_dict_values (PySem.F.args_dict_values_1 _) (meets_dict_values_raw a h3.sys) ⟨⟨ens, ep, o, ho, hx, hdt⟩, ?_⟩
    refine wpAny_pyIter_values_raw (d := a) ⟨_, Heap.get?_push_size _ rfl, rfl, rfl⟩ ⟨o, Heap.get?_push_of_some _ ho, hx, hdt⟩ (pi_one (tk := s1.toks) I2 _ (turn_valsX (es := es) _ hdt) ⟨_, Heap.get?_push_size _ rfl, rfl, ?_⟩ (q (Itv a o es) [] (walkD_vals h1 h2 h3.len) rfl))
    rw [hl] <;> rfl
include hK hw in
theorem i_vals {apos : Pos} (he : PE X e (tE g W H0 ie env)) (hbase : attributeBase e "values" X.env (eval e X.env) = eval e X.env) (hline : (apos.endLine == pos.line) = true) :
    PI X tg (.Call (.Attribute e "values" apos) [] [] pos) (tI g W H0 (.vals ie) env) := by
  refine PI.imp (pi_valsD (PE.sealF he) hbase hline) fun σ H R ⟨C, st, oc, S, o⟩ => ⟨C, st, oc, S, (OutG.bind o).imp (fun kd st1 q v C1 H1 p r => ?_) fun _ _ _ z => z⟩
  obtain ⟨k, d⟩ := kd
  have q := OutG.bind q
  cases k with
  | br => exact (show False from q).elim
  | sh =>
    cases d with
    | dct kvs => exact ⟨C1, st1, kvs, (S.step p).opC hK hw (oc.step p.le), r, fun J pr w e => (show RI C H R (.sh, kvs.map (·.2)) st1 from q) C1 H1 p J pr w (fun p' hp' => by rw [e] at hp'; nomatch hp') fun _ => e⟩
    | _ => exact (show False from q).elim
  | fr =>
    cases d with
    | dct kvs => exact ⟨C1, st1, kvs, (S.step p).opC hK hw (oc.step p.le), r, fun J pr w e => (show RI C H R (.sh, kvs.map (·.2)) st1 from q) C1 H1 p J pr w (fun p' hp' => by rw [e] at hp'; nomatch hp') fun _ => e⟩
    | _ => exact (show False from q).elim
end
/-! ### enumerate -/
theorem meets_enumerate_newT (l : Addr) (items : Array Value) (o : Obj) (ho : o.cls = .type "tuple") (n : Nat) (hd : o.data = .seq items n) :
    Meets (Builtin.«enumerate.__new__» ⟨[.type "enumerate", .ref l], []⟩) (fun _ R s => s.heap.get? l = some o ∧
      R (.ok (.ret (.ref (s.heap.push { cls := .type "tuple_iterator", data := .fields #[.ref l, .int 0 0] }).objs.size)))
        { s with heap := (s.heap.push { cls := .type "tuple_iterator", data := .fields #[.ref l, .int 0 0] }).push { cls := .type "enumerate", data := .fields #[.none, .bool false, .ref s.heap.objs.size, rawInt 0, .none, .none] } }) :=
  .of_wp fun prog w A R s h => by
    obtain ⟨hp, g, d, tk, os⟩ := s; obtain ⟨hl, h⟩ := h
    have hsub := sub_enumerate
    obtain ⟨c, dct, dt, sl⟩ := o
    replace ho : c = .type "tuple" := ho
    replace hd : dt = .seq items n := hd
    subst ho hd
    have hL : Heap.IsTuple (Shared.heap ⟨hp, g, d, tk, os⟩) l items := ⟨_, hl, rfl, n, rfl⟩
    wp_walk using AutoSeq1.wpAny_loadPart' hl
    refine wpAny_stack_any fun st => wpAny_pure ?_
    split
    · rename_i c _ _ _ _ _
      cases (c == Value.type "enumerate")
      · wp_walk using AutoSeq1.wpAny_loadPart' hl, wpAny_pyIter_tuple hL
        exact ⟨_, rfl, h⟩
      · wp_walk using AutoSeq1.wpAny_loadPart' hl, wpAny_pyIter_tuple hL
        exact ⟨_, rfl, h⟩
    · wp_walk using AutoSeq1.wpAny_loadPart' hl, wpAny_pyIter_tuple hL
      exact ⟨_, rfl, h⟩
theorem call_enumerate_tuple {prog : Program} {w : World} {A : Around} {E : Value → Shared → Prop} {s : Shared} {l : Addr} {items : Array Value} {Q : Value → Shared → Prop} (hL : s.heap.IsTuple l items)
    (h : ∀ h', IsEnum h' (s.heap.objs.size + 1) s.heap.objs.size 0 .none → h'.IsTupleIter s.heap.objs.size l 0 → h'.objs.size = s.heap.objs.size + 2 →
      (∀ b o, s.heap.get? b = some o → h'.get? b = some o) → Q (.ref (s.heap.objs.size + 1)) { s with heap := h' }) :
    wpAny (model prog w) A (call (.type "enumerate") [.ref l]) Q E s := by
  obtain ⟨o, hl, hc, n, hd⟩ := hL
  refine callType_new F.called_enumerate (by decide) (F.typeCall_enumerate_1 _) (F.newCall_enumerate_1 _) (fun obj => F.args_object_init_2 obj _) F.entry_enumerate_new
    (meets_enumerate_newT l items o hc n hd) ⟨hl, ?_⟩
  have hz : (s.heap.push { cls := .type "tuple_iterator", data := .fields #[.ref l, .int 0 0] }).objs.size = s.heap.objs.size + 1 := Heap.size_push ..
  show _ ∧ _
  rw [hz]
  have he : IsEnum ((s.heap.push { cls := .type "tuple_iterator", data := .fields #[.ref l, .int 0 0] }).push
      { cls := .type "enumerate", data := .fields #[.none, .bool false, .ref s.heap.objs.size, rawInt 0, .none, .none] }) (s.heap.objs.size + 1) s.heap.objs.size 0 .none := by
    have := Heap.get?_push_size (s.heap.push { cls := .type "tuple_iterator", data := .fields #[.ref l, .int 0 0] })
      (o := { cls := .type "enumerate", data := .fields #[.none, .bool false, .ref s.heap.objs.size, rawInt 0, .none, .none] }) rfl
    rw [hz] at this; exact this
  refine ⟨⟨_, he, rfl⟩, h _ he ⟨_, Heap.get?_push_of_some _ (Heap.get?_push_size _ rfl), rfl, rfl⟩ (by rw [Heap.size_push, hz]) fun b o x => Heap.get?_push_of_some _ (Heap.get?_push_of_some _ x)⟩
/-- the tuple at a, each item in a new pair -/
def Itet (K : PySem.W.Frag) (a : Addr) : It :=
  ⟨fun i H => ∃ (xs : List V) (x : V), SqT K H a xs ∧ xs[i]? = some x, fun i H v H' => ∃ T x ob, v = .ref T ∧ H T = none ∧ ob.dict = none ∧ H' = upd H T (.frz ob (.tup [.int (i : Nat), x])) ∧ ∀ xs, SqT K H a xs → xs[i]? = some x, fun i H => ∃ xs : List V, SqT K H a xs ∧ xs.length = i⟩
theorem turn_enumT {P : Program} {w : World} {K : PySem.W.Frag} {elts : List Expr} {kk : Nat} {tpos : Pos} (a e it : Addr) (hae : a ≠ e) (hai : a ≠ it) :
    Turn P w K (.Tuple elts kk tpos) (Itet K a) [e, it] e (fun i h => (∃ old, IsEnum h e it ((i : Nat) : Int) old) ∧ h.IsTupleIter it a i ∧ e ≠ it) where
  mem := by simp
  obj := fun i h st b hb => by
    obtain ⟨⟨old, he⟩, ⟨o, ho, hc, hd⟩, _⟩ := st
    have e' : b = e ∨ b = it := by simpa using hb
    rcases e' with z | z
    · rw [z]; exact ⟨_, he, fun v q => nomatch q⟩
    · rw [z]; exact ⟨o, ho, fun v q => by rw [hd] at q; cases q⟩
  keep := fun i h h' st k => let ⟨⟨old, he⟩, hi, hne⟩ := st; ⟨⟨old, k e (by simp) _ he⟩, hi.at fun o q => k it (by simp) o q, hne⟩
  item := by
    intro X hP hw hK hc i pins s σ H E I hf st hg
    subst hP hw hK
    obtain ⟨⟨old, he⟩, hit, hne⟩ := st
    obtain ⟨xs, x, hq, hx⟩ := hg
    obtain ⟨its, rv, p, hz⟩ := I.tuple hq
    obtain ⟨u, hu, ru⟩ := rv.get hx
    have hel : e < s.heap.objs.size := Heap.lt_size he
    have hil : it < s.heap.objs.size := by obtain ⟨_, q, _⟩ := hit; exact Heap.lt_size q
    have hlt : i < its.toArray.size := by
      have := (List.getElem?_eq_some_iff.mp hu).1
      simpa using this
    refine wpAny_pyNext_enum_itemD (Draws.tuple (A := X.A.in1) (show X.A.handled = none from I.ok.hd hc) it a hai its.toArray) he ⟨hit, show s.heap.IsTuple a its.toArray from p⟩ hlt hne (by simp; exact ⟨hne, Ne.symm hae⟩) fun x' h' tk hx' ho hst hT hsz hk => ?_
    have ex : x' = u := by
      have hx' : its.toArray[i]? = some x' := hx'
      rw [List.getElem?_toArray, hu] at hx'
      cases hx'; rfl
    subst ex
    refine ⟨_, rfl, wpAny_letOwnedTupleGo_enum (s := { s with heap := h', toks := tk + 1 }) ho fun h'' he' sb => ?_⟩
    have hT2 : h''.get? s.heap.objs.size = some { cls := .type "tuple", data := .seq #[.int i tk, x'] } := (sb.2 _ (Nat.ne_of_gt hel)).trans hT
    have new : ObjOk X.prog X.w (upd H s.heap.objs.size (.frz { cls := .type "tuple", data := .seq #[.int i tk, x'] } (.tup [.int (i : Nat), x]))) h'' s.heap.objs.size (.frz { cls := .type "tuple", data := .seq #[.int i tk, x'] } (.tup [.int (i : Nat), x])) :=
      ⟨hT2, by show 2 ≤ sizeLine; decide, [.int i tk, x'], .cons ⟨_, rfl⟩ (.cons ru .nil), ⟨_, hT2, rfl, _, rfl⟩⟩
    have I1 : Inv X pins σ _ { s with heap := h'', toks := tk + 1 } :=
      I.turnedNew (ch := [e, it]) (fun b ob hb q => (sb.2 b (fun z => hb (by simp [z]))).trans (hk b ob (fun z => hb (by simp [z])) (fun z => hb (by simp [z])) q)) hf (Nat.le_refl _) new
    refine ⟨.ref s.heap.objs.size, _, I1, rfl, ⟨_, x, _, rfl, I.hok.fresh (Nat.le_refl _), rfl, rfl, fun ys hy => by rw [I.tuple_inj hy hq]; exact hx⟩, ⟨⟨x', ?_⟩, hst.1.at fun o q => (sb.2 it (Ne.symm hne)).trans q, hne⟩, fun b hb => ?_⟩
    · have e1 : ((i + 1 : Nat) : Int) = (i : Int) + 1 := by omega
      rw [e1]; exact he'
    · have hb' : b < s.heap.objs.size := by
        have e' : b = e ∨ b = it := by simpa using hb
        rcases e' with z | z
        · rw [z]; exact hel
        · rw [z]; exact hil
      rw [upd_ne (Nat.ne_of_lt hb')]
      exact (hf b hb).1
  done := by
    intro X hP hw hK hc i pins s σ H E I hf st hg
    subst hP hw hK
    obtain ⟨⟨old, he⟩, hit, hne⟩ := st
    obtain ⟨xs, hq, hx⟩ := hg
    obtain ⟨its, rv, p, hz⟩ := I.tuple hq
    obtain ⟨f0, f1, f2, f3, f4, f5⟩ := hf it (by simp)
    have hl : its.toArray.size = i := by rw [List.size_toArray, ← rv.length]; exact hx
    subst hl
    exact wpAny_pyNext_enum_endD (Draws.tuple (A := X.A.in1) (show X.A.handled = none from I.ok.hd hc) it a hai its.toArray) he ⟨hit, show s.heap.IsTuple a its.toArray from p⟩ fun h' eb => ⟨rfl, I.turned (t' := s.toks) (fun b o hb q => eb b o hb q) f0 f1 f3 f4 f5⟩
  self := fun A i s Q E st h => let ⟨⟨_, he⟩, _⟩ := st; wpAny_pyIter_enum he h
/-- the list at a as it stands, each item in a new pair -/
def IteX (K : PySem.W.Frag) (a : Addr) : It :=
  ⟨fun i H => ∃ (xs : List V) (x : V), SqL K H a xs ∧ xs[i]? = some x, fun i H v H' => ∃ T x ob, v = .ref T ∧ H T = none ∧ ob.dict = none ∧ H' = upd H T (.frz ob (.tup [.int (i : Nat), x])) ∧ ∀ xs, SqL K H a xs → xs[i]? = some x, fun i H => ∃ xs : List V, SqL K H a xs ∧ xs.length ≤ i⟩
theorem turn_enumX {P : Program} {w : World} {K : PySem.W.Frag} {elts : List Expr} {kk : Nat} {tpos : Pos} (a e it : Addr) :
    Turn P w K (.Tuple elts kk tpos) (IteX K a) [e, it] e (fun i h => (∃ old, IsEnum h e it ((i : Nat) : Int) old) ∧ h.IsListIter it a i ∧ e ≠ it) where
  mem := (turn_enum (K := K) (P := P) (w := w) (elts := elts) (kk := kk) (tpos := tpos) a e it).mem
  obj := (turn_enum (K := K) (P := P) (w := w) (elts := elts) (kk := kk) (tpos := tpos) a e it).obj
  keep := (turn_enum (K := K) (P := P) (w := w) (elts := elts) (kk := kk) (tpos := tpos) a e it).keep
  item := by
    intro X hP hw hK hc i pins s σ H E I hf st hg
    subst hP hw hK
    obtain ⟨⟨old, he⟩, hit, hne⟩ := st
    obtain ⟨xs, x, hq, hx⟩ := hg
    obtain ⟨as, rv, p, hz⟩ := I.list hq
    obtain ⟨u, hu, ru⟩ := rv.get hx
    have hel : e < s.heap.objs.size := Heap.lt_size he
    have hil : it < s.heap.objs.size := by obtain ⟨_, q, _⟩ := hit; exact Heap.lt_size q
    refine wpAny_pyNext_enum_item he hit p.isList (x := u) (by simpa using hu) hne fun h' ho hit' hT hsz hk => ?_
    refine ⟨_, rfl, wpAny_letOwnedTupleGo_enum (s := { s with heap := h', toks := s.toks + 1 }) ho fun h2 he' sb => ?_⟩
    have hT2 : h2.get? s.heap.objs.size = some { cls := .type "tuple", data := .seq #[.int i s.toks, u] } := (sb.2 _ (Nat.ne_of_gt hel)).trans hT
    have new : ObjOk X.prog X.w (upd H s.heap.objs.size (.frz { cls := .type "tuple", data := .seq #[.int i s.toks, u] } (.tup [.int (i : Nat), x]))) h2 s.heap.objs.size (.frz { cls := .type "tuple", data := .seq #[.int i s.toks, u] } (.tup [.int (i : Nat), x])) :=
      ⟨hT2, by show 2 ≤ sizeLine; decide, [.int i s.toks, u], .cons ⟨_, rfl⟩ (.cons ru .nil), ⟨_, hT2, rfl, _, rfl⟩⟩
    have I1 : Inv X pins σ _ { s with heap := h2, toks := s.toks + 1 } :=
      I.turnedNew (ch := [e, it]) (fun b ob hb q => (sb.2 b (fun z => hb (by simp [z]))).trans (hk b ob (fun z => hb (by simp [z])) (fun z => hb (by simp [z])) q)) hf (Nat.le_refl _) new
    refine ⟨.ref s.heap.objs.size, _, I1, rfl, ⟨_, x, _, rfl, I.hok.fresh (Nat.le_refl _), rfl, rfl, fun ys hy => by rw [I.list_inj hy hq]; exact hx⟩, ⟨⟨u, ?_⟩, hit'.at fun o q => (sb.2 it (Ne.symm hne)).trans q, hne⟩, fun b hb => ?_⟩
    · have e1 : ((i + 1 : Nat) : Int) = (i : Int) + 1 := by omega
      rw [e1]; exact he'
    · have hb' : b < s.heap.objs.size := by
        have e' : b = e ∨ b = it := by simpa using hb
        rcases e' with z | z
        · rw [z]; exact hel
        · rw [z]; exact hil
      rw [upd_ne (Nat.ne_of_lt hb')]
      exact (hf b hb).1
  done := (turn_enum (K := K) (P := P) (w := w) (elts := elts) (kk := kk) (tpos := tpos) a e it).done
  self := (turn_enum (K := K) (P := P) (w := w) (elts := elts) (kk := kk) (tpos := tpos) a e it).self
/-- what enumerate asks -/
theorem pi_enumD {X : Cx} {e : Expr} {te : TE} {p pos tpos : Pos} {elts : List Expr} {kk : Nat} (hg : Gl X "enumerate") (hm : X.mg "enumerate" = none) (he : PE X e te) (hs : starEach [e] X.env = (false, eval e X.env) :: starEach [] X.env) :
    PI X (.Tuple elts kk tpos) (.Call (.Name "enumerate" p) [e] [] pos) (fun σ H R => te σ H fun x H1 => ∃ a xs, x = .ref a ∧ ((SqL X.K H1 a xs ∧ (xs.length ≤ sizeLine → R (IteX X.K a) H1)) ∨ (SqT X.K H1 a xs ∧ (xs.length ≤ sizeLine → R (Itet X.K a) H1)))) := by
  refine ⟨fun pins s σ H R I h => ?_⟩
  let P : V → Hp → Prop := fun x H1 => ∃ a xs, x = V.ref a ∧ ((SqL X.K H1 a xs ∧ (xs.length ≤ sizeLine → R (IteX X.K a) H1)) ∨ (SqT X.K H1 a xs ∧ (xs.length ≤ sizeLine → R (Itet X.K a) H1)))
  refine Call_ (ld_blt I hg hm boot_enumerate (PyProof.Rows.callWith_type1 (thn ((pa_cons he pa_nil hs).run pos pins s σ H (fun vs H1 => match vs with | [x] => P x H1 | _ => False) I h) fun us s1 ⟨vs, H1, I1, r1, q1⟩ => ?_) hs rfl))
  match vs, r1, q1 with
  | [x], .cons r .nil, q1 =>
    obtain ⟨a, xs, ex, q1⟩ := q1
    subst ex
    cases r
    rcases q1 with ⟨hq, q⟩ | ⟨hq, q⟩
    · obtain ⟨its, rv, p', hz⟩ := I1.list hq
      refine call_enumerate_list p'.isList fun h' he hit hsz hk => wpAny_pyIter_enum he ?_
      have I2 : Inv X pins σ H1 { s1 with heap := h' } := I1.kept (t' := s1.toks) hk
      refine ⟨s1.heap.objs.size + 1, [s1.heap.objs.size + 1, s1.heap.objs.size], _, _, H1, rfl, I2, turn_enumX a (s1.heap.objs.size + 1) s1.heap.objs.size, ⟨⟨.none, he⟩, hit, Nat.succ_ne_self _⟩, fun b hb => ?_, q hz⟩
      have e' : b = s1.heap.objs.size + 1 ∨ b = s1.heap.objs.size := by simpa using hb
      have hle : s1.heap.objs.size ≤ b := by
        rcases e' with z | z
        · rw [z]; exact Nat.le_add_right _ _
        · rw [z]; exact Nat.le_refl _
      exact I1.fpOk hle (I1.hok.fresh hle)
    · obtain ⟨its, rv, p', hz⟩ := I1.tuple hq
      have hal : a < s1.heap.objs.size := by obtain ⟨_, q, _⟩ := id p'; exact Heap.lt_size q
      refine call_enumerate_tuple (show s1.heap.IsTuple a its.toArray from p') fun h' he hit hsz hk => wpAny_pyIter_enum he ?_
      have I2 : Inv X pins σ H1 { s1 with heap := h' } := I1.kept (t' := s1.toks) hk
      refine ⟨s1.heap.objs.size + 1, [s1.heap.objs.size + 1, s1.heap.objs.size], _, _, H1, rfl, I2, turn_enumT a (s1.heap.objs.size + 1) s1.heap.objs.size (Nat.ne_of_lt (Nat.lt_succ_of_lt hal)) (Nat.ne_of_lt hal), ⟨⟨.none, he⟩, hit, Nat.succ_ne_self _⟩, fun b hb => ?_, q hz⟩
      have e' : b = s1.heap.objs.size + 1 ∨ b = s1.heap.objs.size := by simpa using hb
      have hle : s1.heap.objs.size ≤ b := by
        rcases e' with z | z
        · rw [z]; exact Nat.le_add_right _ _
        · rw [z]; exact Nat.le_refl _
      exact I1.fpOk hle (I1.hok.fresh hle)
theorem enm_get : ∀ (l : List D) (a : Int) (i : Nat) (d : D), (enm a l)[i]? = some d → ∃ x, l[i]? = some x ∧ d = .tup [.int (a + i), x]
  | [], _, _, _, h => by simp [enm] at h
  | x :: r, a, 0, d, h => by
    have h : some (D.tup [.int a, x]) = some d := h
    cases h
    exact ⟨x, rfl, by rw [show a + ((0 : Nat) : Int) = a by omega]⟩
  | x :: r, a, i + 1, d, h => by
    obtain ⟨y, h1, h2⟩ := enm_get r (a + 1) i d h
    exact ⟨y, h1, by rw [h2, show a + ((i + 1 : Nat) : Int) = a + 1 + (i : Nat) by omega]⟩
theorem enm_len : ∀ (l : List D) (a : Int), (enm a l).length = l.length
  | [], _ => rfl
  | _ :: r, a => congrArg Nat.succ (enm_len r (a + 1))
theorem yield_pair {C1 : RC} {H H' : Hp} {st1 : Hb.St} {x v : V} {T : Addr} {ob : Obj} {i : Nat} {d : D} (sub : ∀ a o, C1.F a = some o → H a = some o) (row : RowOk C1 H st1) (r : Rep C1 x d) (ev : v = .ref T) (hT : H T = none) (hob : ob.dict = none) (eH : H' = upd H T (.frz ob (.tup [.int (i : Nat), x]))) :
    ∃ C2, Post C1 H C2 H' st1 ∧ Rep C2 v (.tup [.int ((0 : Int) + i), d]) := by
  subst ev eH
  obtain ⟨p1, p2⟩ := new_tup sub row hT hob (xs := [.int (i : Nat), x]) (ds := [.int (i : Nat), d]) (.cons (.int _) (.cons r .nil))
  refine ⟨_, p1, ?_⟩
  rw [show (0 : Int) + (i : Nat) = (i : Nat) by omega]
  exact p2
theorem walkD_enmL {C : RC} {a : Addr} {vs : List V} {ds : List D} {pr : List (Addr × HO)} (r : RepAll C vs ds) (hz : vs.length ≤ sizeLine) (h : ∀ H, Fix C pr H → SqL C.K H a vs) : WalkD C (IteX C.K a) (enm 0 ds) pr where
  len := by rw [enm_len, ← r.length]; exact hz
  goes := fun i H hi f => ⟨vs, vs[i]'(by rw [enm_len] at hi; rw [r.length]; exact hi), h H f, List.getElem?_eq_getElem _⟩
  stops := fun H f => ⟨vs, h H f, by rw [enm_len, r.length]; exact Nat.le_refl _⟩
  yields := fun i H x H' C1 st1 d hd f y L sub row => by
    obtain ⟨T, x0, ob, ev, hT, hob, eH, y⟩ := y
    obtain ⟨dx, e1, rfl⟩ := enm_get _ _ _ _ hd
    obtain ⟨v, e2, e3⟩ := r.get e1
    have e4 := y vs (h _ f)
    rw [e2] at e4
    cases e4
    exact yield_pair sub row (Rep.mono L _ _ e3) ev hT hob eH
theorem walkD_enmT {C : RC} {a : Addr} {vs : List V} {ds : List D} {pr : List (Addr × HO)} (r : RepAll C vs ds) (hz : vs.length ≤ sizeLine) (h : ∀ H, Fix C pr H → SqT C.K H a vs) : WalkD C (Itet C.K a) (enm 0 ds) pr where
  len := by rw [enm_len, ← r.length]; exact hz
  goes := fun i H hi f => ⟨vs, vs[i]'(by rw [enm_len] at hi; rw [r.length]; exact hi), h H f, List.getElem?_eq_getElem _⟩
  stops := fun H f => ⟨vs, h H f, by rw [enm_len, r.length]⟩
  yields := fun i H x H' C1 st1 d hd f y L sub row => by
    obtain ⟨T, x0, ob, ev, hT, hob, eH, y⟩ := y
    obtain ⟨dx, e1, rfl⟩ := enm_get _ _ _ _ hd
    obtain ⟨v, e2, e3⟩ := r.get e1
    have e4 := y vs (h _ f)
    rw [e2] at e4
    cases e4
    exact yield_pair sub row (Rep.mono L _ _ e3) ev hT hob eH
section
variable {X : Cx} {g : G} {W : WX} {H0 : Hp} {env : Hb.Env} {e : Expr} {ie : E} {p pos tpos : Pos} {elts : List Expr} {kk : Nat} (hK : X.K = g.K) (hw : X.w = g.w)
include hK hw in
theorem i_enm (hg : Gl X "enumerate") (hm : X.mg "enumerate" = none) (he : PE X e (tE g W H0 ie env)) (hs : starEach [e] X.env = (false, eval e X.env) :: starEach [] X.env) :
    PI X (.Tuple elts kk tpos) (.Call (.Name "enumerate" p) [e] [] pos) (tI g W H0 (.enm ie) env) := by
  refine PI.imp (pi_enumD hg hm (PE.sealF he) hs) fun σ H R ⟨C, st, oc, S, o⟩ => ⟨C, st, oc, S, (OutG.bind o).imp (fun kd st1 q v C1 H1 p r => ?_) fun _ _ _ z => z⟩
  obtain ⟨k, d⟩ := kd
  have q := OutG.bind q
  have oc1 := (S.step p).opC hK hw (oc.step p.le)
  have un : ∀ z : unfr k ≠ .br, k ≠ .br := fun z e => z (by rw [e]; rfl)
  cases d with
  | lst ds =>
    have q : RI C H R (k, enm 0 ds) st1 := q
    rcases hk : unfr k with _ | _ | _
    · rw [hk] at r
      cases r with
      | @lst a vs _ h1 h2 =>
        refine ⟨a, vs, rfl, .inl ⟨.inl (.inl (oc1.sub _ _ h1)), fun hz => ?_⟩⟩
        rw [← oc1.K]
        exact q C1 H1 p _ [] (walkD_enmL h2 hz fun H f => .inl (.inl (f.1 _ _ h1))) (fun p hp => nomatch hp) fun _ => rfl
    · exact absurd hk (unfr_ne k)
    · rw [hk] at r
      obtain ⟨a, rfl, n, m, vs, h1, h2⟩ := r
      refine ⟨a, vs, rfl, .inl ⟨.inl (.inl h1), fun hz => ?_⟩⟩
      rw [← oc1.K]
      refine q C1 H1 p _ [(a, .lst vs)] (walkD_enmL h2 hz fun H f => .inl (.inl (f.2 (a, .lst vs) (List.mem_singleton_self _)))) (fun p hp => ?_) fun z => absurd ?_ z
      · cases List.mem_singleton.mp hp
        exact ⟨h1, m, n⟩
      · cases k <;> first | rfl | cases hk
  | tup ds =>
    have q : RI C H R (k, enm 0 ds) st1 := q
    obtain ⟨a, vs, rfl, h1, h2, _⟩ := repK_tup r
    refine ⟨a, vs, rfl, .inr ⟨by rw [← oc1.K]; exact sqT_mono oc1.sub h1, fun hz => ?_⟩⟩
    rw [← oc1.K]
    exact q C1 H1 p _ [] (walkD_enmT h2 hz fun H f => sqT_mono f.1 h1) (fun p hp => nomatch hp) fun _ => rfl
  | _ => exact (show False from q).elim
end
end Hb
namespace Hb
open PySem PySem.Spec PyProof.Rows L2

/-! ### dict(a list of pairs) -/
/-- the pairs stored one by one -/
theorem dictOf_cons {d : D} {r : List D} {acc kvs : List (D × D)} (h : dictOf (d :: r) acc = some kvs) : ∃ k v, d = .tup [k, v] ∧ kOk acc k = true ∧ dictOf r (dput acc k v) = some kvs := by
  unfold dictOf at h
  split at h
  · rename_i q; exact nomatch q
  · rename_i q
    cases q
    split at h
    · rename_i c; exact ⟨_, _, rfl, c, h⟩
    · exact nomatch h
  · exact nomatch h
theorem dictOf_put {k v : D} {r : List D} {acc : List (D × D)} (c : kOk acc k = true) : dictOf (.tup [k, v] :: r) acc = dictOf r (dput acc k v) := by
  rw [dictOf, if_pos c]
theorem dictOf_step : ∀ (ds : List D) (acc kvs : List (D × D)), dictOf ds acc = some kvs → ∀ i, i ≤ ds.length → ∃ ki, dictOf (ds.take i) acc = some ki ∧ ∀ d, ds[i]? = some d → ∃ k v, d = D.tup [k, v] ∧ kOk ki k = true ∧ dictOf (ds.take (i + 1)) acc = some (dput ki k v)
  | [], acc, kvs, h, 0, _ => ⟨acc, rfl, fun d e => nomatch e⟩
  | d' :: r, acc, kvs, h, 0, _ => by
    obtain ⟨k, v, rfl, c, h2⟩ := dictOf_cons h
    refine ⟨acc, rfl, fun d e => ?_⟩
    rw [List.getElem?_cons_zero] at e
    cases e
    exact ⟨k, v, rfl, c, by rw [List.take_succ_cons, List.take_zero, dictOf_put c, dictOf]⟩
  | [], acc, kvs, h, i + 1, hi => absurd hi (by simp)
  | d' :: r, acc, kvs, h, i + 1, hi => by
    obtain ⟨k, v, rfl, c, h2⟩ := dictOf_cons h
    obtain ⟨ki, e1, e2⟩ := dictOf_step r (dput acc k v) kvs h2 i (by simpa using hi)
    refine ⟨ki, by rw [List.take_succ_cons, dictOf_put c, e1], fun d e => ?_⟩
    rw [List.getElem?_cons_succ] at e
    obtain ⟨k', v', q1, q2, q3⟩ := e2 d e
    exact ⟨k', v', q1, q2, by rw [List.take_succ_cons, dictOf_put c, q3]⟩
theorem pairedR {α β : Type} {F : α → β → Prop} : ∀ {as : List α} {bs : List β}, Paired F as bs → ∀ {i : Nat} {b : β}, bs[i]? = some b → ∃ a, as[i]? = some a ∧ F a b
  | _, _, .nil, i, b, h => nomatch h
  | _, _, .cons x t, 0, b, h => by rw [List.getElem?_cons_zero] at h; cases h; exact ⟨_, rfl, x⟩
  | _, _, .cons x t, i + 1, b, h => by rw [List.getElem?_cons_succ] at h; obtain ⟨a, e, f⟩ := pairedR t h; exact ⟨a, by rw [List.getElem?_cons_succ]; exact e, f⟩
section
variable {X : Cx} {pins : List (Addr × Obj)} {σ : List (Option V)} {H : Hp} {s : Shared} {C : RC}
/-- a pair of the argument: its tuple, key, value -/
def PrIs (C : RC) (h : Heap) (d : D) (t : Addr × Value × Value) : Prop :=
  ∃ (kd vd : D) (kv vv : V), d = D.tup [kd, vd] ∧ PairAt h t.1 t.2.1 t.2.2 ∧ RelV kv t.2.1 ∧ Rep C kv kd ∧ RelV vv t.2.2 ∧ Rep C vv vd
theorem prs_of (I : Inv X pins σ H s) (hK : C.K = X.K) (sub : ∀ a o, C.F a = some o → H a = some o) : ∀ {ds : List D} {vs : List V} {its : List Value}, RepAll C vs ds → Vals vs its → (∀ (i : Nat) (d : D), ds[i]? = some d → ∃ k v, d = D.tup [k, v]) →
    ∃ ts, Paired (PrIs C s.heap) ds ts ∧ its = ts.map fun t => Value.ref t.1
  | _, _, _, .nil, r, _ => by cases r; exact ⟨[], .nil, rfl⟩
  | d :: ds, _, _, .cons r1 r2, r, hd => by
    cases r with
    | cons q1 q2 =>
      obtain ⟨ts, e1, e2⟩ := prs_of I hK sub r2 q2 fun i d h => hd (i + 1) d (by rw [List.getElem?_cons_succ]; exact h)
      obtain ⟨k, v, rfl⟩ := hd 0 _ (List.getElem?_cons_zero ..)
      cases r1 with
      | tup h1 h2 =>
        cases q1
        obtain ⟨its', rv, ht, _⟩ := I.tuple (by rw [← hK]; exact sqT_mono sub h1.sq)
        cases h2 with
        | cons ra h2 => cases h2 with
          | cons rb h2 => cases h2 with
            | nil => cases rv with
              | cons va rv => cases rv with
                | cons vb rv => cases rv with
                  | nil => exact ⟨(_, _, _) :: ts, .cons ⟨k, v, _, _, rfl, .inl ht, va, ra, vb, rb⟩ e1, by rw [e2]; rfl⟩

/-- one entry more, in a state with this heap -/
theorem hd_dictSet2 {A : Around} {E : Value → Shared → Prop} {a : Addr} {es : List En} {kvs : List (D × D)} {d dv : D} {v vv : V} {u uv : Value} {Q : Unit → Shared → Prop} {s' : Shared} (hs' : s'.heap = s.heap) (hu : A.units + 64 < cLine) (I : Inv X pins σ H s) (hK : C.K = X.K) (hw : C.w = X.w) (sub : ∀ a o, C.F a = some o → H a = some o) (g : DAt X C s a es kvs) (ko : kOk kvs d = true) (r : Rep C v d) (ru : RelV v u)
    (rv : Rep C vv dv) (ruv : RelV vv uv) (hl : kvs.length < sizeLine)
    (h : ∀ h' t es', DP a es' h' → RepEnts C es' (dput kvs d dv) → DOk a (dput kvs d dv) → Heap.SameBut a s'.heap h' → Q () { s' with heap := h', toks := t }) : wpAny (model X.prog X.w) A (dictSet a u uv) Q E s' := by
  have room : (nestedKind X.prog X.w).room A := by show A.units + 8 < cLine; omega
  have fin : ∀ h' t, DP a (esPut X.w kvs es d v vv) h' → Heap.SameBut a s'.heap h' → Q () { s' with heap := h', toks := t } := fun h' t dp hs =>
    h h' t _ dp (by rw [← hw]; exact repEnts_put r rv g.ents) (g.ok.put dv ko hl) hs
  rcases kOk_cases g.ok ko with ⟨kd, ka⟩ | ⟨kd, ka⟩
  · obtain ⟨o, ens, ep, ho, hx, hd, hp⟩ := g.at_
    obtain ⟨xs, e1, e2, e3⟩ := ents_T I hK hw sub g.ents hp ka
    have hn : (xs.map (·.1)).Nodup := by rw [TIs.keys e3]; exact g.ok.nd
    have dd : s.heap.DictOfH (nestedKind X.prog X.w) a xs := ⟨o, ens, ep, ho, hx, hd, e1, e2, hn⟩
    obtain ⟨b, eb, kb⟩ := rep_tkey I hK sub kd r
    subst eb
    cases ru
    have hz : xs.length ≤ sizeLine := by rw [← Paired.length e3]; omega
    refine wpAny_dictSet_heap (hsz := hz) room (by rw [hs']; exact kb) (by rw [hs']; exact dd) fun h' dd' hs => fin h' _ ?_ hs
    obtain ⟨o', ens', ep', ho', hx', hd', he', _, _⟩ := dd'
    refine ⟨o', ens', ep', ho', hx', hd', ?_⟩
    rw [he']
    rw [e1] at hp
    exact ents_putT hw ruv rfl kd g.ents hp ka (TIs.keys e3) hn
  · obtain ⟨o, ens, ep, ho, hx, hd, hp⟩ := g.at_
    obtain ⟨qs, e1, e2, e3⟩ := ents_S (X := X) hw g.ents hp ka
    have hn : (qs.map (·.1)).Nodup := by rw [ValIs.keys e3]; exact nodup_sk ka g.ok.nd
    have dd : s.heap.DictOf (mixKind X.prog X.w) a qs := ⟨o, ens, ep, ho, hx, hd, fun e he => e2 e (Array.mem_toList_iff.mpr he), e1, hn⟩
    obtain ⟨rk, ek⟩ := rep_skey kd r ru
    have hz : qs.length ≤ sizeLine := by rw [← Paired.length e3]; omega
    refine wpAny_dictSet_pairs (hsz := hz) (kV_is rk) (by rw [hs']; exact dd) fun h' dd' hs => fin h' _ ?_ hs
    obtain ⟨o', ens', ep', ho', hx', hd', hk', hp', _⟩ := dd'
    refine ⟨o', ens', ep', ho', hx', hd', ?_⟩
    have s2 := ents_S2 (P := X.prog) hw g.ents hp e1 (Paired.mapP e3 fun p q z => z.1) ka
    exact ents_ofS (P := X.prog) (ents_putS hw ruv kd ek g.ents s2 ka (ValIs.keys e3) hn) hp' fun e he => hk' e (Array.mem_toList_iff.mp he)
end
/-- the table after i pairs -/
def TabD (C : RC) (h0 : Heap) (a : Addr) (ds : List D) (i : Nat) (h : Heap) : Prop :=
  ∃ es ki, dictOf (ds.take i) [] = some ki ∧ RepEnts C es ki ∧ DOk a ki ∧ DP a es h ∧ ki.length ≤ i ∧ ∀ b o, h0.get? b = some o → h.get? b = some o
theorem dict_core {X : Cx} (hc : X.calm = true) (hu : X.A.units + 100 < cLine) {pins : List (Addr × Obj)} {σ : List (Option V)} {H : Hp} {s : Shared} {Q : VK} {C : RC} {st : Hb.St} {Z : Nat → D → Hb.St → Prop} {T : String} {a : Addr} {ds : List D} {vs : List V} {its : List Value} {kvs : List (D × D)}
    (I : Inv X pins σ H s) (oc : OpC X C H st) (ra : RepAll C vs ds) (rv : Vals vs its) (hl : PlainSeq T s.heap a its.toArray) (hz : vs.length ≤ sizeLine) (e : dictOf ds [] = some kvs) (o : OutG ((pure (.fr, .dct kvs) : M KD) st) (RE C H Q) Z)
    (P : ∀ (Ts : Nat → Addr) (ps : List (Value × Value)), PairArg X.prog X.w T a (a :: (List.range ps.length).map Ts) [] ps.length (PairRel ps) (fun h => PlainSeq T h a its.toArray ∧ PairItems h its.toArray Ts ps)) :
    wpAny (model X.prog X.w) X.A (call (.type "dict") [.ref a]) (EP X pins σ Q) X.xe s := by
  have steps := dictOf_step ds [] kvs e
  obtain ⟨ts, pt, ei⟩ := prs_of I oc.K oc.sub ra rv fun i d q => by
    obtain ⟨ki, _, z⟩ := steps i (Nat.le_of_lt (List.getElem?_eq_some_iff.mp q).1)
    obtain ⟨k, v, e1, _⟩ := z d q
    exact ⟨k, v, e1⟩
  have hn : H s.heap.objs.size = none := I.hok.fresh (Nat.le_refl _)
  have hd0 : s.heap.get? s.heap.objs.size = none := Heap.get?_none_of_le (Nat.le_refl _)
  have hlen : ts.length = ds.length := (Paired.length pt).symm
  have hlv : ds.length ≤ sizeLine := by rw [← ra.length]; exact hz
  have hh : X.A.handled = none := I.ok.hd hc
  have P := P (fun j => ((ts[j]?).map (·.1)).getD 0) (ts.map (·.2))
  have ok : (fun h => PlainSeq T h a its.toArray ∧ PairItems h its.toArray (fun j => ((ts[j]?).map (·.1)).getD 0) (ts.map (·.2))) s.heap := by
    obtain ⟨o', nn, h1, h2, h3, h4⟩ := hl
    refine ⟨⟨o', nn, h1, h2, h3, h4⟩, by rw [ei]; simp, fun j k v hj => ?_⟩
    rw [List.getElem?_map] at hj
    cases q : ts[j]? with
    | none => rw [q] at hj; exact nomatch hj
    | some t =>
      rw [q] at hj
      obtain ⟨t1, t2⟩ := t
      cases hj
      obtain ⟨d, _, pd⟩ := pairedR pt q
      obtain ⟨_, _, _, _, _, pa, _⟩ := pd
      have et : ((ts[j]?).map (·.1)).getD 0 = t1 := by rw [q]; rfl
      show its.toArray[j]? = some (.ref (((ts[j]?).map (·.1)).getD 0)) ∧ PairAt s.heap (((ts[j]?).map (·.1)).getD 0) k v
      rw [et]
      refine ⟨?_, pa⟩
      rw [ei, List.getElem?_toArray, List.getElem?_map, q]; rfl
  refine call_dict_arg P ok fun s1 e1 hdf ok1 => ?_
  subst e1
  refine updateFrom_arg (A := X.A.in1) (Tab := TabD C s.heap s.heap.objs.size ds) P .none hh ok1 hdf ?_ ?_ ?_ ?_ ?_
  · exact ⟨[], [], rfl, .nil, dOk_nil (sys_ne I), dp_new, Nat.le_refl _, fun b o q => Heap.get?_push_of_some _ q⟩
  · rintro i h ⟨es, ki, _, _, _, ⟨o', _, _, ho, _⟩, _⟩
    exact Heap.lt_size ho
  · rintro i h h' wr' hd hw ⟨es, ki, q1, q2, q3, q4, q5, q6⟩ hk
    refine ⟨es, ki, q1, q2, q3, ?_, q5, fun b o q => hk b o (fun hm => ?_) (q6 b o q)⟩
    · obtain ⟨o', ens, ep, ho, z⟩ := q4
      exact ⟨o', ens, ep, hk _ _ hd ho, z⟩
    · rcases hw b hm with z | z
      · exact nomatch z
      · rw [show (s.heap.push { cls := .type "dict", data := .dict #[] }).get? b = some o from Heap.get?_push_of_some _ q] at z; cases z
  · rintro i k v s' Q' E' hi hrel ⟨es, ki, q1, q2, q3, q4, q5, q6⟩ _ hQ
    have hrel' : (ts.map (·.2))[i]? = some (k, v) := hrel
    rw [List.getElem?_map] at hrel'
    cases q : ts[i]? with
    | none => rw [q] at hrel'; exact nomatch hrel'
    | some t =>
      rw [q] at hrel'
      obtain ⟨t1, t2⟩ := t
      cases hrel'
      obtain ⟨d, hd, kd, vd, kv, vv, ed, pa, rk, ck, rv', cv⟩ := pairedR pt q
      subst ed
      have hil : i < ds.length := (List.getElem?_eq_some_iff.mp hd).1
      obtain ⟨ki', e2, z⟩ := steps i (Nat.le_of_lt hil)
      rw [q1] at e2
      cases e2
      obtain ⟨k', v', ek, ko, e3⟩ := z _ hd
      cases ek
      have I2 : Inv X pins σ (upd H s.heap.objs.size (.ext (DP s.heap.objs.size es))) { s with heap := s'.heap, toks := s'.toks } := inv_laid I q6 hd0 hn (dp_ok q4)
      have sub2 : ∀ a o, C.F a = some o → upd H s.heap.objs.size (.ext (DP s.heap.objs.size es)) a = some o := fun b o z => by
        rw [upd_ne (fun w => by subst w; rw [oc.sub _ _ z] at hn; cases hn)]; exact oc.sub _ _ z
      refine hd_dictSet2 (s := { s with heap := s'.heap, toks := s'.toks }) rfl (by show X.A.units + 1 + 1 + 64 < cLine; omega) I2 oc.K oc.w sub2 ⟨q4, q2, q3⟩ ko ck rk cv rv' (by omega) fun h' tk es' g1 g2 g3 g4 => ?_
      have hkeep : ∀ b o, s.heap.get? b = some o → h'.get? b = some o := fun b o z => g4.extBut b o (fun w => by subst w; rw [hd0] at z; cases z) (q6 b o z)
      exact hQ h' tk ⟨es', _, e3, g2, g3, g1, by have := dput_len ki kd vd; omega, hkeep⟩ g4
  · rintro h' tk ⟨es, ki, q1, q2, q3, q4, q5, q6⟩ _
    have e2 : ds.take (ts.map (·.2)).length = ds := List.take_of_length_le (by rw [List.length_map, hlen]; exact Nat.le_refl _)
    rw [e2, e] at q1
    cases q1
    obtain ⟨p1, p2⟩ := new_dct oc.sub oc.row hn q2 q3
    exact ⟨rfl, .ref s.heap.objs.size, _, inv_laid (s := s) I q6 hd0 hn (dp_ok q4), rfl, o _ C _ p1 p2 fun b e => by cases e; exact hn⟩
theorem c_dict {X : Cx} (hc : X.calm = true) (hu : X.A.units + 100 < cLine) : CallR X (.type "dict") (rP1 X .dict) := by
  intro pins s σ H vs us Q I rs h
  obtain ⟨C, st, k, d, Z, x, rfl, oc, r, o⟩ := h
  cases d with
  | lst ds =>
    obtain ⟨a, vs, rfl, ha, ra⟩ := repK_lst oc.sub r
    rw [Vals.ref1 rs]
    obtain ⟨kvs, e, o⟩ := OutG.needB o
    obtain ⟨its, rv, hl, hz⟩ := I.list (sqL_of (C := C) (K := X.K) ha)
    exact dict_core hc hu I oc ra rv hl hz e o fun Ts ps => PairArg.list a _ Ts ps
  | tup ds =>
    obtain ⟨a, vs, rfl, ⟨ob, hb, hdn⟩, ra⟩ := repK_tupX r
    rw [Vals.ref1 rs]
    obtain ⟨kvs, e, o⟩ := OutG.needB o
    obtain ⟨ho, hz, its, rv, ⟨ob', ho', hcl, n, hdt⟩⟩ := I.hok a _ (oc.sub a _ hb)
    cases ho.symm.trans ho'
    exact dict_core hc hu I oc ra rv ⟨ob, n, ho, hcl, hdn, hdt⟩ hz e o fun Ts ps => PairArg.tuple a _ Ts ps
  | _ => exact (show False from o).elim
end Hb
namespace Hb
open PySem PySem.Spec PyProof.Rows L2

/-! ### list(range(a, b, -1)) -/
section
variable {X : Cx} {g : G} {W : WX} {H0 : Hp} {env : Hb.Env} {a b c : Expr} {ia ib ic : E} {pos : Pos}
def tLst3 (ta : TA) : TE := fun σ H Q => ta σ H fun vs H1 => ∃ i j : Int, vs = [.int i, .int j, .int (-1)] ∧ RgC i j (-1) (i - j).toNat ∧ (i - j).toNat ≤ 2 ^ 24 ∧ ∀ q, H1 q = none → Q (.ref q) (upd H1 q (.lst ((dn i (i - j).toNat).map V.int)))
theorem vals_dn {i : Int} {n : Nat} {acc : Array Value} (h : ItemsOf (fun k v => ∃ t, v = .int (i + k * (-1)) t) acc n) : Vals ((dn i n).map V.int) acc.toList := by
  have e : acc.toList.length = n := by rw [Array.length_toList]; exact h.1
  have e2 : (dn i n).map V.int = (List.range acc.toList.length).map fun k => V.int (i + (k : Nat) * (-1)) := by
    apply List.ext_getElem?
    intro k
    rw [e]
    by_cases hk : k < n
    · rw [List.getElem?_map, dn_get _ _ _ hk, List.getElem?_map, List.getElem?_range hk]; rfl
    · rw [List.getElem?_eq_none (by rw [List.length_map, dn_len]; omega), List.getElem?_eq_none (by rw [List.length_map, List.length_range]; omega)]
  rw [e2]
  refine vals_of_get acc.toList _ fun k u hk => ?_
  obtain ⟨t, rfl⟩ := h.2 k u (by rw [← hk, Array.getElem?_toList])
  exact ⟨t, rfl⟩
theorem pe_list3 {ta : TA} {p p2 pos2 : Pos} (hc : X.calm = true) (hg : Gl X "list") (hm : X.mg "list" = none) (hg2 : Gl X "range") (hm2 : X.mg "range" = none) (ha : PA X [a, b, c] ta)
    (hs : starEach [a, b, c] X.env = (false, eval a X.env) :: starEach [b, c] X.env) (hpl : (backTo pos2 (starEach [b, c] X.env)).any (·.1) = false) :
    PE X (.Call (.Name "list" p) [.Call (.Name "range" p2) [a, b, c] [] pos2] [] pos) (tLst3 ta) := by
  refine ⟨fun pins s σ H Q I h => ?_⟩
  refine Call_ (ld_blt I hg hm boot_list (PyProof.Rows.callWith_type1 (args_cons (thn (Q := fun x s' => ∃ (r : Addr) (i j : Int) (t u v : Tok) (H' : Hp), x = .ref r ∧ IsRange s'.heap r i j (-1) t u v ∧ Inv X pins σ H' s' ∧ RgC i j (-1) (i - j).toNat ∧ (i - j).toNat ≤ 2 ^ 24 ∧ ∀ q, H' q = none → Q (.ref q) (upd H' q (.lst ((dn i (i - j).toNat).map V.int)))) ?_ fun x s1 ⟨r, i, j, t, u, v, H1, ex, hr, I1, ⟨c0, c1, c2, c3⟩, hl, q⟩ => args_nil ?_) rfl) rfl))
  · refine Call_ (ld_blt I hg2 hm2 boot_range (PyProof.Rows.callWith_type1 (thn (ha.run pos2 pins s σ H _ I h) fun us s1 ⟨vs, H1, I1, r1, q1⟩ => ?_) hs hpl))
    obtain ⟨i, j, e, ⟨c0, c1, c2, c3⟩, hl, q⟩ := q1
    subst e
    cases r1 with
    | cons r rr =>
      cases rr with
      | cons r' rr =>
        cases rr with
        | cons r'' rr =>
          cases rr
          obtain ⟨t, rfl⟩ := r
          obtain ⟨t', rfl⟩ := r'
          obtain ⟨t'', rfl⟩ := r''
          exact call_range_3 c0 ⟨_, i, j, t, t', t'', H1, rfl, IsRange.new _ _ _ _ _ _ _, I1.kept (t' := s1.toks) fun b u e => Heap.get?_push_of_some _ e, ⟨c0, c1, c2, c3⟩, hl, q⟩ (.inl (PyProof.noPylong_small c1))
  · subst ex
    refine call_list_range (n := (i - j).toNat) (I1.ok.hd hc) hr c2 c3 hl fun h' tk acc c' hk e' hi => ?_
    refine ⟨.ref s1.heap.objs.size, upd H1 s1.heap.objs.size (.lst ((dn i (i - j).toNat).map V.int)), I1.laid hk (Nat.le_refl _) (show ObjOk X.prog X.w _ _ _ (.lst ((dn i (i - j).toNat).map V.int)) from ⟨?_, acc.toList, c', vals_dn hi, ?_⟩), rfl, q _ (I1.hok.fresh (Nat.le_refl _))⟩
    · rw [List.length_map, dn_len, sizeLine_eq]; omega
    · rw [Array.toArray_toList]; exact e'
theorem reps_int {C : RC} : ∀ (l : List Int), RepAll C (l.map V.int) (l.map D.int)
  | [] => .nil
  | i :: l => .cons (.int i) (reps_int l)
theorem x_lrng3 {p p2 pos2 : Pos} (hc : X.calm = true) (hg : Gl X "list") (hm : X.mg "list" = none) (hg2 : Gl X "range") (hm2 : X.mg "range" = none) (ha : PA X [a, b, c] (tAs g W H0 [ia, ib, ic] env))
    (hs : starEach [a, b, c] X.env = (false, eval a X.env) :: starEach [b, c] X.env) (hpl : (backTo pos2 (starEach [b, c] X.env)).any (·.1) = false) :
    PE X (.Call (.Name "list" p) [.Call (.Name "range" p2) [a, b, c] [] pos2] [] pos) (tE g W H0 (.lrng [ia, ib, ic]) env) := by
  refine PE.imp (pe_list3 hc hg hm hg2 hm2 ha hs hpl) fun σ H Q ⟨C, st, oc, S, o⟩ => ⟨C, st, oc, S, (evA_len (OutG.bind o)).imp (fun ds st1 q vs C1 H1 p r => ?_) fun _ _ _ z => z⟩
  obtain ⟨hl, q⟩ := q
  match ds, hl, q, r with
  | [d, d', d''], _, q, r =>
    cases d with
    | int i =>
      cases d' with
      | int j =>
        cases d'' with
        | int k =>
          obtain ⟨g1, q1⟩ := OutG.guardB (OutG.bind q)
          simp only [Bool.and_eq_true, decide_eq_true_eq] at g1
          obtain ⟨⟨⟨⟨hk, g1⟩, g2⟩, g3⟩, g4⟩ := g1
          subst hk
          refine ⟨i, j, ints3 r, RgC.neg (by omega) (by omega) (by omega) (by omega), by omega, fun ad hp => ?_⟩
          obtain ⟨p1, p2⟩ := new_lst p.sub p.row hp (reps_int (dn i (i - j).toNat))
          exact (show RE C H Q (.fr, .lst ((dn i (i - j).toNat).map D.int)) st1 from q1) _ _ _ (p.trans p1) p2 (New.shift p (k := .fr) (fun a e => by cases e; exact hp))
        | _ => exact (show False from OutG.bind q).elim
      | _ => exact (show False from OutG.bind q).elim
    | _ => exact (show False from OutG.bind q).elim
end
end Hb
namespace Hb
open PySem PySem.Spec PyProof.Rows L2
/-! ### sorted(t), of a list or a tuple -/
theorem c_sorted {X : Cx} (hu : X.A.units + 100 < cLine) : CallR X (.builtin "sorted") (rP1 X .sorted) := by
  intro pins s σ H vs us Q I rs h
  obtain ⟨C, st, k, d, Z, x, rfl, oc, r, o⟩ := h
  cases d with
  | lst ds => exact c_sortedL hu pins s σ H _ _ Q I rs ⟨C, st, k, ds, Z, x, rfl, oc, r, o⟩
  | tup ds =>
    obtain ⟨a, vs, rfl, ha, ra, _⟩ := repK_tup r
    rw [Vals.ref1 rs]
    obtain ⟨gd, o⟩ := OutG.guardB o
    rw [Bool.and_eq_true, Bool.and_eq_true, decide_eq_true_eq] at gd
    obtain ⟨⟨g1, g2⟩, gl⟩ := gd
    have hT : SqT X.K H a vs := by rw [← oc.K]; exact sqT_mono oc.sub ha
    obtain ⟨its, rv, ⟨ob, ho, hcl, n, hd⟩, hz⟩ := I.tuple hT
    have dps : ∀ d ∈ ds, D.plainN 39 d = true := plains_mem g1
    obtain ⟨as, rr⟩ := Dp.readsAll I _ _ _ (repAll_dp oc.K oc.sub ds 39 vs g1 ra) rv
    have hl : ds.length ≤ sizeLine := by rw [← sizeMax_eq]; exact gl
    have hsz : its.toArray.size ≤ sizeLine := by rw [List.size_toArray, ← rv.length]; exact hz
    refine sorted_src (bs := ds) (enc := D.py) (R := RV C) (fun A' E' K hA hK => ?_) (each_rv rv ra) (each_reads rr) (allAlike_of g2) (sh_kinds g2) hl (fun b hb => ?_) fun D out h' tk n' hk hna he hlen eo => ?_
    · exact wpAny_collect_seq a (.inr rfl) ho hcl hd (fun h' hk => hK h' s.toks hk) hsz
    · have := (plain_py b 39 (dps b hb)).2
      omega
    · have hn : H D = none := hn_of I hna
      rw [← sortD_merge g1 g2] at eo
      obtain ⟨vs', q1, q2⟩ := rv_each eo
      have hl2 : vs'.length ≤ sizeLine := by rw [q2.length, sortD_length]; exact hl
      obtain ⟨p1, p2⟩ := new_lst oc.sub oc.row hn q2
      exact ⟨.ref D, upd H D (.lst vs'), inv_laid I hk hna hn ⟨hl2, out, n', q1, he⟩, rfl, o _ C _ p1 p2 fun a e => by cases e; exact hn⟩
  | _ => exact (show False from o).elim
end Hb
namespace Hb
open PySem PySem.Spec PyProof.Rows PySem.Calls PySem.W

theorem init_eq (env : PySem.Env) {p0 p1 p2 p3 p4 : Pos} {f : Str} (hl : (p2.endLine == p4.line) = true) : eval (.Call (.Attribute (.Call (.Name "super" p0) [] [] p1) "__init__" p2) [.Name f p3] [] p4) env = (do
      let ov ← attributeBase (.Call (.Name "super" p0) [] [] p1) "__init__" env (eval (.Call (.Name "super" p0) [] [] p1) env)
      standAt p2.atName
      let (g, first) ← holding [ov] (getMethod ov "__init__" (do return (← importBound (.Call (.Name "super" p0) [] [] p1) env).getD true))
      callWith p4 g first (backTo p4 (starEach [.Name f p3] env)) []) := by
  show (do
    let ov ← attributeBase (.Call (.Name "super" p0) [] [] p1) "__init__" env (eval (.Call (.Name "super" p0) [] [] p1) env)
    standAt p2.atName
    methodCall (.Call (.Name "super" p0) [] [] p1) "__init__" p2 p4 env ov 1 (backTo p4 (starEach [.Name f p3] env)) [] : Sem Value) = _
  unfold methodCall
  have e : methodCallPos (methodCallForm 1 (backTo p4 (starEach [.Name f p3] env)) []) (.Call (.Name "super" p0) [] [] p1) env p2 p4 = pure p4 := by
    unfold methodCallPos
    rw [hl]
    rfl
  rw [e]
  rfl
section
variable {prog : Program} {w : World} {A : Around} {h : Heap} {g : Array GenState} {d : Drawn} {t : Nat} {os : OsState}
variable {K : Frag} {C fI cda cc e t0 : Addr} {f qual file : Str} {pa pb p0 p1 p2 p3 p4 p5 p6 p7 p8 p9 : Pos} {dV kV doc pm ct oc ccl cl u : Value} {an od cdd cld : Option Addr} {osl ccs csl : Array (Option Value)} {vs : Array Value} {tf : Tok} {cd : ClassData} {mg mb : Str → Option Value} {args : Args} {R : Result → Shared → Prop}
theorem init_call (hln : (p2.endLine == p4.line) = true) (hroom : A.depth < recursionLimit) (X : K.In h) (lim : h.NoLimit)
    (ho : K.lookup fI = some ⟨oc, od, .func (ksFn "__init__" qual (iParams f pa pb) (iBody f p0 p1 p2 p3 p4 p5 p6 p7 p8 p9) (iScope f) dV kV doc pm an (.ref cda) ct cc), osl⟩) (hcd : codeIn K (.ref cda) qual = true)
    (hcode : K.lookup cda = some ⟨ccl, cdd, .fields vs, ccs⟩) (hvs : vs[2]? = some (.str file tf)) (hfile : ((prog.main.file : Str) == file) = true)
    (hcell : K.lookup cc = some ⟨cl, cld, .cell (some (.ref C)), csl⟩) (hC : clsIn K C = some cd) (hsub : mroIn K C (.ref C) = some true)
    (htop : (prog.main.scope.names.lookup ("super" : Str)).isSome = false) (hop : nsIn K cStatics "thirdparty.any" = some none)
    (hsi : ks_superIn K C C "__init__" = some (some (.builtin "ValueError.__init__"))) (hVE : subIn K (.ref C) (.type "ValueError") = some true)
    (qI : excInitIn K C HandSPX.veTail "ValueError.__new__" = true) (sa : findIn K (.ref C) "__setattr__" = some (some (.builtin "object.__setattr__"))) (hm : HandSPX.refsVE cd.mro = true) (hh : cd.hasDict = true) (hno : findIn K (.ref C) f = some none)
    (hG : h.Ns mainGlobals mg) (hmg : mg "super" = none) (hB : h.Ns builtinsNs mb) (hmb : mb "super" = some (.type "super"))
    (hns : (f == ("self" : Str)) = false) (hnc : (f == ("__class__" : Str)) = false) (hnd : (f == ("__debug__" : Str)) = false) (hnu : (f == ("super" : Str)) = false)
    (hb : BindsTo ⟨h, g, d, t, os⟩ (ksFn "__init__" qual (iParams f pa pb) (iBody f p0 p1 p2 p3 p4 p5 p6 p7 p8 p9) (iScope f) dV kV doc pm an (.ref cda) ct cc) args [("self", .ref e), (f, u)])
    (he : h.get? e = some (excRec (.ref C) t0 none .none .none (.bool false))) (hKe : K.lookup e = none)
    (hq : ∀ h' t' dx t1, (∀ b o, b ≠ e → h.get? b = some o → h'.get? b = some o) → h.objs.size ≤ dx → dx ≠ e → h'.get? e = some (excRec (.ref C) t1 (some dx) .none .none (.bool false)) →
      h'.Ns1 dx (fun y => if y = f then some u else none) → R (.ok (.ret .none)) ⟨h', g, d, t', os⟩) :
    codeAny (model prog w) A (.call (.ref fI) args) R ⟨h, g, d, t, os⟩ := by
  have cm : ∀ y : Str, (f == y) = false → (y == f) = false := fun y h => by rw [← h]; exact Bool.beq_comm ..
  have lks : (iScope f).names.lookup ("self" : Str) = some NameKind.local := rfl
  have lkf : (iScope f).names.lookup f = some NameKind.local := by
    show List.lookup f [(("self" : Str), NameKind.local), (f, NameKind.local), (("__class__" : Str), NameKind.free), (("super" : Str), NameKind.globalImplicit)] = _
    rw [List.lookup_cons, hns]
    show List.lookup f ((f, NameKind.local) :: _) = _
    rw [List.lookup_cons, beq_self_eq_true]
  have kcls : (iScope f).names.lookup ("__class__" : Str) = some NameKind.free := by
    show List.lookup ("__class__" : Str) [(("self" : Str), NameKind.local), (f, NameKind.local), (("__class__" : Str), NameKind.free), (("super" : Str), NameKind.globalImplicit)] = _
    rw [List.lookup_cons, show (("__class__" : Str) == ("self" : Str)) = false by decide]
    show List.lookup ("__class__" : Str) ((f, NameKind.local) :: _) = _
    rw [List.lookup_cons, cm _ hnc]
    rfl
  have ksup : (iScope f).names.lookup ("super" : Str) = some NameKind.globalImplicit := by
    show List.lookup ("super" : Str) [(("self" : Str), NameKind.local), (f, NameKind.local), (("__class__" : Str), NameKind.free), (("super" : Str), NameKind.globalImplicit)] = _
    rw [List.lookup_cons, show (("super" : Str) == ("self" : Str)) = false by decide]
    show List.lookup ("super" : Str) ((f, NameKind.local) :: _) = _
    rw [List.lookup_cons, cm _ hnu]
    rfl
  refine ks_codeAny_call_defAt (fd := ksFn "__init__" qual (iParams f pa pb) (iBody f p0 p1 p2 p3 p4 p5 p6 p7 p8 p9) (iScope f) dV kV doc pm an (.ref cda) ct cc) hroom (X _ _ ho) rfl lim (codeRec_of X hcd) rfl hb ?_ ?_ ?_
  · intro x hx
    simp only [List.mem_cons, List.not_mem_nil, or_false] at hx
    rcases hx with rfl | rfl | rfl | rfl <;> exact fun z => nomatch z
  · intro x hx
    simp only [List.mem_cons, List.not_mem_nil, or_false] at hx
    rcases hx with rfl | rfl
    · exact lks
    · exact lkf
  intro h₀ ns k
  have X0 : K.In h₀ := X.keeps k
  have he0 := k _ _ he
  have I0 : W.InstAt h₀ e (excRec (.ref C) t0 none .none .none (.bool false)) C none := ⟨he0, rfl, rfl, trivial⟩
  have hself : (fun x : Str => List.lookup x [(("self" : Str), Value.ref e), (f, u)].reverse) ("self" : Str) = some (.ref e) := by
    show List.lookup ("self" : Str) [(f, u), (("self" : Str), Value.ref e)] = _
    rw [List.lookup_cons, cm _ hns]
    rfl
  have hfv : (fun x : Str => List.lookup x [(("self" : Str), Value.ref e), (f, u)].reverse) f = some u := by
    show List.lookup f [(f, u), (("self" : Str), Value.ref e)] = _
    rw [List.lookup_cons, beq_self_eq_true]
  obtain ⟨oD, hD1, hD2⟩ : ∃ oD, h₀.get? C = some oD ∧ oD.data = .cls cd := by
    unfold clsIn at hC
    split at hC
    · rename_i c d cd' sl ho
      cases hC
      exact ⟨_, X0 _ _ ho, rfl⟩
    · cases hC
  refine ks_wpAt_execs_cons ?_
  refine ks_wpAt_Expr_any ?_
  refine ks_wpAt_MethodCall ?_ (init_eq _ hln)
  refine ks_wpAt_super_base (env := callEnv (ksFn "__init__" qual (iParams f pa pb) (iBody f p0 p1 p2 p3 p4 p5 p6 p7 p8 p9) (iScope f) dV kV doc pm an (.ref cda) ct cc) h.objs.size fI) ksup kcls (by decide) rfl (X0 _ _ ho) rfl rfl rfl (X0 _ _ hcode) rfl hvs hfile htop ?_
  refine ks_loadName_global rfl ksup (loadGlobal_builtin (hG.keeps k) hmg (hB.keeps k) hmb ⟨rfl, ?_⟩)
  refine wpAny_loadName_free rfl kcls rfl ⟨_, X0 _ _ hcell, rfl⟩ ?_
  refine wpAny_loadName_local rfl lks ns hself ?_
  refine ks_wpAny_isType_cls hD1 hD2 ⟨rfl, ?_⟩
  refine ks_wpAny_call_super hD1 hD2 he0 rfl (fun c z => nomatch z) (looks_mroIn X0 hsub) (fun h1 hso k1 => ?_)
  have X1 : K.In h1 := X0.keeps k1
  have he1 := k1 _ _ he0
  have I1 : W.InstAt h1 e (excRec (.ref C) t0 none .none .none (.bool false)) C none := ⟨he1, rfl, rfl, trivial⟩
  have hf : alongIn K "__init__" ((cd.mro.dropWhile (· != .ref C)).drop 1) = some (some (.builtin "ValueError.__init__")) := by
    unfold ks_superIn at hsi
    rw [hC] at hsi
    exact hsi
  refine kxs_getMethod kxs_ValueError hso (looks_opaque X1 hop) (l₀ := cd.mro) (fun A Q E s k q => wpAny_bind ((looks_clsIn X1 hC) A _ E s k (wpAny_pure q))) rfl X1 hf (I1.type.andThen (looks_subIn X1 hVE)) (ks_ne X1 I1 hC) (by decide) ?_
  have k2 : ∀ b o, h1.get? b = some o → (h1.push (kxs_mw "ValueError.__init__" e)).get? b = some o := fun b o z => Heap.get?_push_of_some _ z
  have hu : (h1.push (kxs_mw "ValueError.__init__" e)).get? h1.objs.size = some (kxs_mw "ValueError.__init__" e) := Heap.get?_push_at rfl rfl
  have N : News h1 (h1.objs.size + 1) (h1.push (kxs_mw "ValueError.__init__" e)) [(h1.objs.size, kxs_mw "ValueError.__init__" e)] := fun p hp => by
    rw [List.mem_singleton.mp hp]
    refine ⟨hu, Nat.ne_of_lt (Nat.lt_succ_self _), ?_⟩
    cases z : h1.get? h1.objs.size with
    | none => rfl
    | some o => exact absurd (Heap.lt_size z) (Nat.lt_irrefl _)
  refine kxs_callWith1 (i := "ValueError.__init__") (u := h1.objs.size) (x := e) N (List.mem_singleton.mpr rfl) ?_
  have ns2 := ns.keeps fun b o z => k2 b o (k1 b o z)
  refine spliced_more (wpAny_Name (wpAny_loadName_local rfl lkf ns2 hfv (spliced_none ⟨hu, ?_⟩)) hnd)
  have X2 : K.In (h1.push (kxs_mw "ValueError.__init__" e)) := X1.keeps k2
  have he2 := k2 _ _ he1
  obtain ⟨nm, N', qn, bs, bm, hdct, sn, sub, ab, col, dd, k0, k1', k2', k3, k5, hCo, hT⟩ := excInit_of X2 qI
  refine wpAny_call (codeAny_of_tree ?_)
  show wpAny _ _ (callAny (.ref h1.objs.size) ⟨[u], []⟩) _ _ _
  simp only [callAny]
  refine wpAny_bind (wpAny_load hu ?_)
  simp only [kxs_mw, show (Value.type "method-wrapper" == Value.type "method" || Value.type "method-wrapper" == Value.type "builtin_function_or_method" || Value.type "method-wrapper" == Value.type "method-wrapper") = true by decide, if_true]
  refine KFB.if_so (by decide) ?_
  refine wpAny_bind (check_bound_init F.excBase_ValueError.toExcCallFacts hCo he2 rfl ?_)
  refine wpAny_bind (wpAny_pure (wpAny_pure ?_))
  refine ⟨plainId_quiet F.excBase_ValueError.init.plain _, codeAny_builtin F.excBase_ValueError.initEntry ?_⟩
  refine exc_init_tree (cls := .ref C) (t0 := t0) (dv := none) (c2 := .none) (c3 := .none) (b4 := .bool false) he2 (by rw [sizeLine_eq, List.length_singleton]; decide) fun h3 k3 he3 _ => ?_
  have ke : ∀ b o, b ≠ e → h₀.get? b = some o → h3.get? b = some o := fun b o z q => k3 b o z (k2 b o (k1 b o q))
  have X3 : K.In h3 := fun b o z => ke b o (fun y => by rw [y, hKe] at z; cases z) (X0 b o z)
  have Le : h.objs.size ≠ e := Nat.ne_of_gt (Heap.lt_size he)
  obtain ⟨oL, es, ep, hL, rL⟩ := ns
  have ns3 : h3.Ns h.objs.size (fun x => List.lookup x [(("self" : Str), Value.ref e), (f, u)].reverse) := ⟨oL, es, ep, ke _ _ Le hL, rL⟩
  show PySem.wpAt _ _ _ (execs [.Assign [.Attribute (.Name "self" p6) f p7] (.Name f p8) p9] _) _ _ _
  refine ks_wpAt_execs_cons ?_
  refine ks_wpAt_Assign_Attr (PySem.wpAt_of_wpAny (wpAny_Name (wpAny_loadName_local rfl lkf ns3 hfv ?_) hnd))
  refine wpAny_Name (wpAny_loadName_local rfl lks ns3 hself ?_)
  refine PySem.W.set_plain X3 (ox := excRec (.ref C) (h1.push (kxs_mw "ValueError.__init__" e)).objs.size none .none .none (.bool false)) (od := none) ⟨he3, rfl, rfl, trivial⟩ sa (HandSPX.exc_osa X3 he3 hC hm hh hno (fun h' tk' dx kk dn dne hx hn => ?_))
  refine PySem.wpAt_of_wpAny (wpAny_execs_nil ?_)
  refine hq h' tk' dx _ (fun b o z q => kk b o z (ke b o z (k b o q))) (Nat.le_of_lt (Nat.lt_of_lt_of_le (Heap.lt_size (ke _ _ Le hL)) dn)) dne hx hn
end
end Hb

namespace Hb
open PySem PySem.Spec PyProof.Rows L2
/-- the two arguments are bound -/
def BindF (f : Str) : Prop := ∀ (qual : Str) (pa pb p0 p1 p2 p3 p4 p5 p6 p7 p8 p9 : Pos) (kV doc pm ct : Value) (an : Option Addr) (cda cc a : Addr) (u : Value), bindArgs (PySem.W.ksFn "__init__" qual (iParams f pa pb) (iBody f p0 p1 p2 p3 p4 p5 p6 p7 p8 p9) (iScope f) .none kV doc pm an (.ref cda) ct cc) ⟨[.ref a, u], []⟩ = pure [(("self" : Str), Value.ref a), (f, u)]
theorem bindF_index : BindF ("index" : Str) := by
  unfold BindF; intros
  rfl
theorem bindF_most : BindF ("most" : Str) := by
  unfold BindF; intros
  rfl
theorem bindF_place : BindF ("place" : Str) := by
  unfold BindF; intros
  rfl
/-- what the frozen part and the program say of an own exception class with one field -/
structure FiC (P : Program) (K : PySem.W.Frag) (C : Addr) (f : Str) : Prop where
  oex : OexC K C
  ini : ∃ (fI : Addr) (oc : Value) (od : Option Addr) (osl : Array (Option Value)) (qual : Str) (pa pb p0 p1 p2 p3 p4 p5 p6 p7 p8 p9 : Pos) (kV doc pm ct : Value) (an : Option Addr) (cda cc : Addr),
    PySem.W.findIn K (.ref C) "__init__" = some (some (.ref fI)) ∧ PySem.W.typeIn K (.ref fI) = some (.type "function") ∧ (p2.endLine == p4.line) = true ∧
    K.lookup fI = some ⟨oc, od, .func (PySem.W.ksFn "__init__" qual (iParams f pa pb) (iBody f p0 p1 p2 p3 p4 p5 p6 p7 p8 p9) (iScope f) .none kV doc pm an (.ref cda) ct cc), osl⟩ ∧ PySem.W.codeIn K (.ref cda) qual = true ∧
    (∃ ccl cdd vs ccs file tf, K.lookup cda = some ⟨ccl, cdd, .fields vs, ccs⟩ ∧ vs[2]? = some (.str file tf) ∧ ((P.main.file : Str) == file) = true) ∧
    ∃ cl cld csl, K.lookup cc = some ⟨cl, cld, .cell (some (.ref C)), csl⟩
  sub : PySem.W.mroIn K C (.ref C) = some true
  top : (P.main.scope.names.lookup ("super" : Str)).isSome = false
  op : PySem.W.nsIn K cStatics "thirdparty.any" = some none
  si : PySem.W.ks_superIn K C C "__init__" = some (some (.builtin "ValueError.__init__"))
  ve : PySem.W.subIn K (.ref C) (.type "ValueError") = some true
  qI : PySem.W.excInitIn K C PySem.HandSPX.veTail "ValueError.__new__" = true
  no : PySem.W.findIn K (.ref C) f = some none
  ns : (f == ("self" : Str)) = false
  nc : (f == ("__class__" : Str)) = false
  nd : (f == ("__debug__" : Str)) = false
  nu : (f == ("super" : Str)) = false
  bi : BindF f
section
variable {X : Cx} {x f : Str} {C : Addr} {p pos : Pos} {e : Expr} {ta : TA}
/-- Cls(e) -/
theorem pmk_fx (T : FiC X.prog X.K C f) (hdp : X.A.depth + 2 < recursionLimit) (hsu : X.mg "super" = none) (hg : Gl X x) (hm : X.mg x = some (.ref C)) (ha : PA X [e] ta)
    (hdb : (x == ("__debug__" : Str)) = false) (he : starEach [e] X.env = (false, eval e X.env) :: starEach [] X.env := by rfl) (hpl : (backTo pos (starEach [] X.env)).any (·.1) = false := by rfl) :
    PMk X (.Call (.Name x p) [e] [] pos) (fun σ H Q => ta σ H fun vs H1 => ∃ v, vs = [v] ∧ ∀ d, H1 d = none → Q (.ref C) (some d) (upd H1 d (.xd [(f, v)]))) := by
  intro pins s σ H Q I h
  obtain ⟨nm, q, N, bs, bm, sn, sub, ab, col, dd, k0, k1, k2, k3, k5, hC, hbm⟩ := T.oex.cls
  obtain ⟨fI, oc, od, osl, qual, pa, pb, p0, p1, p2, p3, p4, p5, p6, p7, p8, p9, kV, doc, pm, ct, an, cda, cc, iC, tI, hln, lf, hcd, ⟨ccl, cdd, vsC, ccs, file, tf, lc, hvs, hfile⟩, cl, cld, csl, lcc⟩ := T.ini
  refine wpAny_Call_Name_kw (ld_glob I hg hm ?_ hdb)
  refine PySem.W.callWith_K (h₀ := X.base) I.ok.mod.kin T.oex.kC (thn (ha.run pos pins s σ H _ I h) fun us s1 ⟨vs, H1, I1, r1, v, ev, q1⟩ => ⟨I1.kIn, ?_⟩) he hpl
  subst ev
  show wpAny _ _ (call (.ref C) us) _ _ _
  cases r1 with
  | @cons _ u _ ur ru rr =>
  cases rr
  obtain ⟨hp, g, dr, tk, os⟩ := s1
  have hsz : hp.objs.size ≤ hp.objs.size + 1 := Nat.le_succ _
  have hn' : H1 (hp.objs.size + 1) = none := I1.hok.fresh hsz
  have kk : ∀ b o, hp.get? b = some o → ((hp.push (PySem.W.kdv_tup [u])).push (PySem.HandSPX.excO C hp.objs.size)).get? b = some o := fun b o e => Heap.get?_push_of_some _ (Heap.get?_push_of_some _ e)
  have hget : ((hp.push (PySem.W.kdv_tup [u])).push (PySem.HandSPX.excO C hp.objs.size)).get? (hp.objs.size + 1) = some (PySem.HandSPX.excO C hp.objs.size) := by heap_get
  have I2 : Inv X pins σ (upd H1 (hp.objs.size + 1) (exo (hp.objs.size + 1) C none)) ⟨(hp.push (PySem.W.kdv_tup [u])).push (PySem.HandSPX.excO C hp.objs.size), g, dr, tk, os⟩ :=
    I1.laid (t' := tk) (a := hp.objs.size + 1) (o := exo (hp.objs.size + 1) C none) (h' := (hp.push (PySem.W.kdv_tup [u])).push (PySem.HandSPX.excO C hp.objs.size)) kk hsz (exo_ok hget)
  have hcl : PySem.W.clsIn X.K C = some { name := nm, bases := bs, mro := .ref C :: bm, ns := N, qualname := q, hasDict := true, slotNames := sn, subclasses := sub, abstract := ab, collection := col, hasDel := false } := by unfold PySem.W.clsIn; rw [hC] <;> rfl
  obtain ⟨mb, hB, hmb⟩ := I2.ok.mod.blt
  have hKe : X.K.lookup (hp.objs.size + 1) = none := by
    cases z : X.K.lookup (hp.objs.size + 1) with
    | none => rfl
    | some o =>
      have z2 := Heap.lt_size (I1.kIn _ _ z)
      exact absurd z2 (by show ¬ hp.objs.size + 1 < hp.objs.size; omega)
  refine wpAny_call (PySem.HandSPX.call_own F.excBase_ValueError (fun Y => PySem.HandSPX.refsVE_contains Y bm hbm) (I1.kIn _ _ hC) (PySem.W.looks_findIn I1.kIn iC) (fun self => PySem.W.bind_fn I1.kIn self tI) (by rw [sizeLine_eq, List.length_singleton]; decide) ?_)
  refine init_call (g := g) (d := dr) (t := tk) (os := os) (t0 := hp.objs.size) (e := hp.objs.size + 1) (u := u) hln (by rw [make_depth]; show X.A.depth + 1 < _; omega) I2.kIn I2.nolimit lf hcd lc hvs hfile lcc hcl T.sub T.top T.op T.si T.ve T.qI T.oex.sa (show PySem.HandSPX.refsVE (.ref C :: bm) = true from hbm) rfl T.no
    (I2.ok.mod.glob.keeps I2.bk) hsu (hB.keeps I2.bk) ((hmb _ (by decide +kernel)).trans Boot.«super») T.ns T.nc T.nd T.nu (BindsTo.of_eq ?_) hget hKe fun h' t' dx t1 k dn dne hx hn => ⟨rfl, ?_⟩
  · exact T.bi ..
  · have ne1 : ∀ {b : Addr} {o : Obj}, hp.get? b = some o → b ≠ hp.objs.size + 1 := fun {b o} z => Nat.ne_of_lt (Nat.lt_succ_of_lt (Heap.lt_size z))
    have dsz : hp.objs.size + 2 ≤ dx := by
      have : ((hp.push (PySem.W.kdv_tup [u])).push (PySem.HandSPX.excO C hp.objs.size)).objs.size = hp.objs.size + 2 := by
        rw [Heap.size_push, Heap.size_push]
      omega
    have hd1 : H1 dx = none := I1.hok.fresh (by show hp.objs.size ≤ dx; omega)
    have hda : dx ≠ hp.objs.size + 1 := dne
    have e1 : H1 (hp.objs.size + 1) = none := hn'
    have ea2 : upd H1 (hp.objs.size + 1) (exo (hp.objs.size + 1) C none) (hp.objs.size + 1) = some (exo (hp.objs.size + 1) C none) := upd_same
    have hnd : upd H1 (hp.objs.size + 1) (exo (hp.objs.size + 1) C none) dx = none := by rw [upd_ne hda]; exact hd1
    have nd : ∀ {b : Addr} {o : Obj}, ((hp.push (PySem.W.kdv_tup [u])).push (PySem.HandSPX.excO C hp.objs.size)).get? b = some o → b ≠ dx := fun {b o} q => Nat.ne_of_lt (Nat.lt_of_lt_of_le (Heap.lt_size q) dn)
    have na : ∀ {b : Addr}, upd H1 (hp.objs.size + 1) (exo (hp.objs.size + 1) C none) b = none → b ≠ hp.objs.size + 1 := fun {b} n z => by
      rw [z, ea2] at n
      cases n
    have Un1 : Un (frs X.stack) [] (upd H1 (hp.objs.size + 1) (exo (hp.objs.size + 1) C none)) (upd (upd (upd H1 (hp.objs.size + 1) (exo (hp.objs.size + 1) C none)) dx (exd dx [(f, v)])) (hp.objs.size + 1) (exo (hp.objs.size + 1) C (some dx))) ((hp.push (PySem.W.kdv_tup [u])).push (PySem.HandSPX.excO C hp.objs.size)) h' := {
      keep := fun b o q n _ _ => k b o (na n) q
      slot := fun b o q n _ _ => ⟨o.slots, k b o (na n) q⟩
      free := fun b o q n _ => by rw [upd_ne (na n), upd_ne (nd q)]; exact n
      there := fun b o q _ => by
        by_cases hb : b = hp.objs.size + 1
        · exact ⟨_, by rw [hb]; exact hx⟩
        · exact ⟨o, k b o hb q⟩
      tups := fun b xs q => by rw [upd_ne (at_ne ea2 q exo_tup), upd_ne (ne_of_none q hnd)]; exact q
      frzs := fun b o v q => by rw [upd_ne (at_ne ea2 q exo_frz), upd_ne (ne_of_none q hnd)]; exact q
      tbls := fun b ps q => ⟨#[], by rw [upd_ne (at_ne ea2 q exo_tbl), upd_ne (ne_of_none q hnd), q]; simp⟩ }
    have hok : HOk X.prog X.w (upd (upd (upd H1 (hp.objs.size + 1) (exo (hp.objs.size + 1) C none)) dx (exd dx [(f, v)])) (hp.objs.size + 1) (exo (hp.objs.size + 1) C (some dx))) h' := fun b o q => by
      by_cases hb : b = hp.objs.size + 1
      · subst hb
        rw [upd_same] at q
        cases q
        exact exo_ok hx
      · rw [upd_ne hb] at q
        by_cases hd : b = dx
        · subst hd
          rw [upd_same] at q
          cases q
          exact exd_ok hn (relO_put (fs := []) ru fun g => True.intro)
        · rw [upd_ne hd] at q
          exact (I2.hok b o q).stay (fun c v hc z => k c v (by
              rcases hc with hc | hc
              · rw [hc]
                exact hb
              · exact at_ne ea2 hc exo_own) z)
            (fun c hc => by rw [upd_ne (at_ne ea2 hc exo_own), upd_ne (ne_of_none hc hnd)]; exact hc) (fun c xs hc => by rw [upd_ne (at_ne ea2 hc exo_tup), upd_ne (ne_of_none hc hnd)]; exact hc)
    refine mk_end (d := dx) (fs := [(f, v)]) (raises_own T.oex.exC T.oex.tyC) I1 hsz kk Un1 hok rfl I1.bare upd_same (by rw [upd_ne hda]; exact upd_same) hd1 ?_
    have ef : upd (del (upd (upd (upd H1 (hp.objs.size + 1) (exo (hp.objs.size + 1) C none)) dx (exd dx [(f, v)])) (hp.objs.size + 1) (exo (hp.objs.size + 1) C (some dx))) (hp.objs.size + 1)) dx (.xd [(f, v)]) = upd H1 dx (.xd [(f, v)]) := by
      funext b
      by_cases h1 : b = dx
      · rw [h1, upd_same, upd_same]
      · rw [upd_ne h1, upd_ne h1]
        by_cases h2 : b = hp.objs.size + 1
        · rw [h2, del_same, e1]
        · rw [del_ne h2, upd_ne h2, upd_ne h1, upd_ne h2]
    rw [ef]
    exact q1 dx hd1
end
end Hb
namespace Hb
open PySem PySem.Spec PyProof.Rows L2
/-- what the frozen part says of such a class -/
structure ExB (K : PySem.W.Frag) (A : Addr) : Prop where
  own : PySem.W.excIn K A PySem.HandSPX.veTail "ValueError.__new__" = true
  keep : PySem.W.keepIn K (.ref A) = true
  sub : PySem.W.subIn K (.ref A) (.type "BaseException") = some true
  typ : PySem.W.typeIn K (.ref A) = some (.type "type")
  ec : ExcC K A
/-- .. of a class with a field -/
structure ExF (P : Program) (K : PySem.W.Frag) (A : Addr) (f : Str) : Prop where
  fi : FiC P K A f
  ec : ExcC K A
  xf : XfC K A
/-- the numbers of the classes -/
def Kn (xs : List (Str × Nat)) (fs : List (Str × Nat × Str)) (c : Nat) : Prop := (∃ x, xs.lookup x = some c) ∨ ∃ x f, fs.lookup x = some (c, f)
/-- a field's value -/
def Fv (v : V) (d : D) : Prop := (∃ i, v = .int i ∧ d = .int i) ∨ (v = .non ∧ d = .non)
/-- an exception with a field stands -/
def FlAt (fs : List (Str × Nat × Str)) (H : Hp) (c : Nat) (fl : D) (dx : Option Addr) : Prop := ∃ (x f : Str) (d : Addr) (v : V), fs.lookup x = some (c, f) ∧ dx = some d ∧ H d = some (.xd [(f, v)]) ∧ Fv v fl
structure ExA (P : Program) (K : PySem.W.Frag) (mg : Str → Option Value) (xs : List (Str × Nat)) (fs : List (Str × Nat × Str)) (xr : XR) (ca : Nat → Addr) : Prop where
  nf : ∀ x c, xs.lookup x = some c → mg x = some (.ref (ca c)) ∧ ExB K (ca c)
  wf : ∀ x c f, fs.lookup x = some (c, f) → mg x = some (.ref (ca c)) ∧ ExF P K (ca c) f ∧ c ≠ 0 ∧ mg "super" = none
  un : ∀ x x' c f f', fs.lookup x = some (c, f) → fs.lookup x' = some (c, f') → f = f'
  ap : ∀ x c x' f, xs.lookup x = some c → fs.lookup x' = some (c, f) → False
  kt : ∀ c c', Kn xs fs c → Kn xs fs c' → PySem.W.kitOne K (.ref (ca c)) (.ref (ca c')) = some (isxB c c') ∧ PySem.W.exmOne K (.ref (ca c)) (.ref (ca c')) = some (isxB c c')
  xi : ∀ C H c fl cv dx, xr C H c fl cv dx → cv = .ref (ca c) ∧ (((∃ x, xs.lookup x = some c) ∧ dx = none) ∨ FlAt fs H c fl dx)
  r0 : ∀ C H x c, xs.lookup x = some c → xr C H c .non (.ref (ca c)) none
  r1 : ∀ C H c fl dx, FlAt fs H c fl dx → xr C H c fl (.ref (ca c)) dx
theorem ExA.ec {P : Program} {K : PySem.W.Frag} {mg : Str → Option Value} {xs : List (Str × Nat)} {fs : List (Str × Nat × Str)} {xr : XR} {ca : Nat → Addr} (e : ExA P K mg xs fs xr ca) {c : Nat} (h : Kn xs fs c) : ExcC K (ca c) := by
  rcases h with ⟨x, h⟩ | ⟨x, f, h⟩
  · exact (e.nf x c h).2.ec
  · exact (e.wf x c f h).2.1.ec
/-- the classes that a context knows, and how exceptions stand -/
structure XEx (X : Cx) (xs : List (Str × Nat)) (fs : List (Str × Nat × Str)) (g : G) : Prop where
  ex : ∃ ca : Nat → Addr, ExA X.prog X.K X.mg xs fs g.xr ca
end Hb
/-! isinstance of a caught exception that may have a dict -/
namespace Hb
open PySem PySem.Spec PySem.Calls PyProof.Rows PySem.W
section
variable {prog : Program} {w : World} {A : Around} {E : Value → Shared → Prop} {s : Shared} {K : Frag} {x D : Addr} {ox : Obj}
theorem findObj_dataO {C : Addr} {od : Option Obj} {name : Str} {a g : Value} (hc : (clsIn K C).isSome = true) (ha : findIn K (.ref C) name = some (some a)) (hg : specialIn K a "__get__" = some (some g)) (ht : takesIn K a = some true) : findObj K C od name = some (.bind g a) := by
  obtain ⟨cd, hc⟩ := Option.isSome_iff_exists.mp hc
  unfold findObj
  rw [hc, Option.bind_some, ha, Option.bind_some]
  simp [hg, ht]
theorem kin_classO {Q : Option Value → Shared → Prop} (hga : findIn K (.ref D) "__getattribute__" = some (some (.builtin "BaseException.__getattribute__"))) (hgt : findIn K (.ref D) "__getattr__" = some none) (hsub : subIn K (.ref D) (.type "BaseException") = some true)
    (hdct : hasDictIn K D = true) (ha : findIn K (.ref D) "__class__" = some (some (.builtin "object.__class__")))
    (hn : specialIn K (.builtin "object.__class__") "__get__" = some (some (.builtin "getset_descriptor.__get__"))) (htk : takesIn K (.builtin "object.__class__") = some true) (hm : mroIn K D (.type "object") = some true)
    {od : Option Obj} (X : K.In s.heap) (I : InstAt s.heap x ox D od) (h : Q (some (.ref D)) { s with toks := s.toks + 1 }) : wpAny (model prog w) A (getAttr? (.ref x) "__class__") Q E s := by
  have hf : findObj K D od "__class__" = some (.bind (.builtin "getset_descriptor.__get__") (.builtin "object.__class__")) := findObj_dataO (by obtain ⟨cd, hc, _⟩ := any_some hdct; rw [hc]; rfl) ha hn htk
  obtain ⟨hp, g, d, t, os⟩ := s
  have L0 := I.type (M := model prog w)
  have L1 := looks_findIn (M := model prog w) X hga
  have L2 := looks_findIn (M := model prog w) X hgt
  have L3 := looks_find (M := model prog w) X I hf
  have sub : Looks (model prog w) hp (isInstance (.ref x) (.type "BaseException")) true := L0.andThen (looks_subIn X hsub)
  have hx0 : (false && onTheHeap (Value.builtin "BaseException.__getattribute__")) = false := rfl
  have hx2 : (Value.builtin "BaseException.__getattribute__" == Value.builtin "object.__getattribute__") = false := by decide +kernel
  have hx1 : (onTheHeap (Value.ref D) && Value.builtin "BaseException.__getattribute__" == Value.builtin "object.__getattribute__") = false := by rw [hx2]; rfl
  unfold getAttr? getAttrBy? getAttrBy
  refine wpAny_bind (wpAny_mkText (wpAny_bind (wpAny_attempt (wpAny_holding (wpAny_bind (L0.at (wpAny_bind (L1.at ?_))))))))
  show wpAny _ _ (if (onTheHeap (Value.ref D) && Value.builtin "BaseException.__getattribute__" == Value.builtin "object.__getattribute__") = true then _ else _) _ _ _
  rw [hx1, if_neg Bool.false_ne_true]
  unfold getAttrByItsOwn hookBefore
  refine wpAny_bind ?_
  rw [if_pos (show onTheHeap (Value.ref D) = true from rfl)]
  refine L2.at ?_
  refine wpAny_bind (wpAny_attempt (wpAny_holding ?_))
  unfold callGetattribute
  rw [hx0, if_neg Bool.false_ne_true]
  unfold boundAndCalled
  rw [PySem.F.excAttr_ValueError.ga.bind (.ref x)]
  refine wpAny_bind (wpAny_pure ?_)
  show wpAny _ _ (call (.builtin "BaseException.__getattribute__") [.ref x, .str "__class__" t]) _ _ _
  refine wpAny_call (codeAny_call_builtin PySem.F.excAttr_ValueError.ga.plain PySem.F.entry_bexc_ga ?_)
  refine @check_slot (model prog w) _ _ ⟨hp, g, d, t + 1, os⟩ "BaseException.__getattribute__" "BaseException" "__getattribute__" (.ref x) [.str "__class__" t] [] _ (by decide +kernel) (by decide +kernel) sub (PySem.F.args_bexc_ga (.ref x) (.str "__class__" t)) ?_
  unfold Builtin.«object.__getattribute__»
  refine wpAny_bind (wpAny_of_eq (a := ((Value.ref x : Value), [Value.str "__class__" t])) (by first | rfl | (simp only [slotArgs]; rfl)) ?_)
  refine wpAny_bind (wpAny_pure (wpAny_bind (L0.at (wpAny_bind (L3.at ?_)))))
  show wpAny _ _ (holding [Value.builtin "object.__class__"] (call (.builtin "getset_descriptor.__get__") [.builtin "object.__class__", .ref x, .ref D]) >>= ret) _ _ _
  refine wpAny_bind (wpAny_holding (wpAny_call (class_get (s := ⟨hp, g, d, t + 1, os⟩) (ox := ox) (od := od) X I hm ?_)))
  refine wpAny_pure ?_
  show wpAny _ _ (handedOut (.ref D)) _ _ _
  rw [handedOut_of (v := .ref D) rfl]
  first
    | exact wpAny_pure (wpAny_pure h)
    | exact wpAny_pure h
    | exact wpAny_pure (wpAny_bind (wpAny_pure (wpAny_pure h)))
theorem kitx_excO (hga : findIn K (.ref D) "__getattribute__" = some (some (.builtin "BaseException.__getattribute__"))) (hgt : findIn K (.ref D) "__getattr__" = some none) (hsub : subIn K (.ref D) (.type "BaseException") = some true) (hdct : hasDictIn K D = true) (ha : findIn K (.ref D) "__class__" = some (some (.builtin "object.__class__")))
    (hn : specialIn K (.builtin "object.__class__") "__get__" = some (some (.builtin "getset_descriptor.__get__"))) (htk : takesIn K (.builtin "object.__class__") = some true) (hm : mroIn K D (.type "object") = some true) :
    KitX K (.ref x) (.ref D) (fun h => ∃ od, InstAt h x ox D od) where
  ty := fun _ _ _ ⟨_, I⟩ => I.type
  it := fun _ _ X _ => by
    obtain ⟨cdD, hcD, _⟩ := any_some hdct
    unfold clsIn at hcD
    split at hcD
    · rename_i c' d' cd' sl' ho
      intro A' Q' E' s' k q
      unfold isType loadHead
      exact wpAny_bind (wpAny_loadPart (k _ _ (X _ _ ho)) (wpAny_pure q))
    · cases hcD
  ne := fun h tp dd its n sl X htp => by
    obtain ⟨cdD, hcD, _⟩ := any_some hdct
    refine Bool.eq_false_iff.mpr fun q => ?_
    have e : D = tp := Value.ref.inj (beq_iff_eq.mp q)
    subst e
    unfold clsIn at hcD
    split at hcD
    · rename_i c' d' cd' sl' ho
      have z := (X _ _ ho).symm.trans htp
      cases z
    · cases hcD
  ca := fun X ⟨_, I⟩ k => kin_classO hga hgt hsub hdct ha hn htk hm X I k
end
end Hb
namespace Hb
open PySem PySem.Spec PyProof.Rows L2
def rIsO (K : PySem.W.Frag) (D a : Addr) (d : Option Addr) : List V → Hp → VK → Prop := fun xs H Q => ∃ (c : V) (cv : Value) (b : Bool), xs = [.ref a, c] ∧ (∀ u, RelV c u → u = cv) ∧ PySem.W.kitOne K (.ref D) cv = some b ∧ (d = none ∨ ∃ dd fs, d = some dd ∧ H dd = some (.xd fs)) ∧ Q (.bl b) H
theorem call_isO {X : Cx} {a D : Addr} {oe : Obj} {d : Option Addr} {pn : List (Addr × Obj)} (C : ExcC X.K D) (hz : Zc (.ref D) d oe) (hf : ∃ vs, oe.data = .fields vs) : CallR (X.suite a ((a, oe) :: pn)) (.builtin "isinstance") (rIsO X.K D a d) := by
  intro pins s σ H xs us Q I r h
  obtain ⟨c, cv, b, rfl, hcv, e, hd, q⟩ := h
  cases r with
  | cons rx rr =>
    cases rr with
    | cons rt rr =>
      cases rr
      cases rx
      have ec := hcv _ rt
      subst ec
      obtain ⟨hget, _⟩ := I.pin (a, oe) (List.mem_append.mpr (.inl List.mem_cons_self))
      obtain ⟨vs, hv⟩ := hf
      have J : ∃ od, PySem.W.InstAt s.heap a oe D od := by
        obtain ⟨oc, od, oda, osl⟩ := oe
        obtain ⟨h1, h2⟩ := hz
        dsimp only at h1 h2 hv
        subst h1 h2 hv
        rcases hd with e0 | ⟨dd, fs, e0, hh⟩
        · subst e0
          exact ⟨none, hget, rfl, rfl, trivial⟩
        · subst e0
          have hx : ObjOk X.prog X.w H s.heap dd (.xd fs) := I.hok dd _ hh
          obtain ⟨mA, hns, hr⟩ := hx
          obtain ⟨o, ho, hl⟩ := lookIn_ns hns
          exact ⟨some o, hget, rfl, rfl, ho⟩
      exact PySem.W.kia_one (kitx_excO C.hg C.hk C.hs C.hd C.ha C.hn C.ht C.hm) I.kIn J e (fun z => nomatch z) fun tk => ⟨.bl b, H, I.kept (t' := tk) fun _ _ z => z, rfl, q⟩
end Hb
namespace Hb
open PySem PySem.Spec PyProof.Rows L2
/-! ### readers: an instance with a text and a place -/
theorem repK_rdr {C : RC} {H : Hp} {st : Hb.St} {k : Hb.K} {v : V} {n : Nat} (row : RowOk C H st) (r : RepK C H k v (.rdr n)) : ∃ a dx t, v = .ref a ∧ C.gl (.rd n) = some a ∧ st.rds[n]? = some t ∧ C.F a = none ∧ H a = some (rdO C dx t) := by
  cases k with
  | sh =>
    cases (show Rep C v (.rdr n) from r) with
    | rdr e =>
      obtain ⟨dx, t, h1, h2, h3⟩ := row.rdAt e
      exact ⟨_, dx, t, rfl, e, h1, h2, h3⟩
  | fr =>
    obtain ⟨_, _, _, _, z⟩ := r
    exact (show False from z).elim
  | br =>
    obtain ⟨_, _, _, _, z⟩ := r
    exact (show False from z).elim
theorem repK_rdr' {C : RC} {H : Hp} {k : Hb.K} {v : V} {n : Nat} (r : RepK C H k v (.rdr n)) : Rep C v (.rdr n) := by
  cases k with
  | sh => exact r
  | fr =>
    obtain ⟨_, _, _, _, z⟩ := r
    exact (show False from z).elim
  | br =>
    obtain ⟨_, _, _, _, z⟩ := r
    exact (show False from z).elim
section
variable {X : Cx} {g : G} {W : WX} {H0 : Hp} {env : Hb.Env} {o e : Expr} {io ie : E} {pos : Pos}
/-- o.text, o.at -/
theorem x_rdf {t : Bool} {f : Str} (hK : X.K = g.K) (hc : Cls X.K (g.fa rdC)) (hn : NoAttr X.K (g.fa rdC) f) (hf : f = if t = true then ("text" : Str) else ("at" : Str)) (ho : PE X o (tE g W H0 io env)) (hb : attributeBase o f X.env (eval o X.env) = eval o X.env) :
    PE X (.Attribute o f pos) (tE g W H0 (.rdf io t) env) := by
  refine PE.imp (pe_fld ho hb) fun σ H Q ⟨C, st, oc, S, h⟩ => ⟨C, st, oc, S, h.bindI fun kd st1 q v C1 H1 p r n => ?_⟩
  obtain ⟨k0, d0⟩ := kd
  cases d0 with
  | rdr m =>
    have r := repK_rdr p.row r
    obtain ⟨a, dx, tt, rfl, e1, e2, _, e3⟩ := r
    have q : OutG ((theRd m >>= fun r => pure (Hb.K.sh, if t = true then D.str r.1 else .int r.2) : M KD) st1) (RE C H Q) (ZG g.xr W C H σ) := q
    have q := OutG.bind q
    unfold theRd at q
    rw [e2] at q
    have q : RE C H Q (.sh, if t = true then D.str tt.1 else .int tt.2) st1 := q
    have oc1 := oc.step p.le
    refine ⟨a, C1.fa rdC, dx, _, (if t = true then V.str tt.1 else V.int tt.2), rfl, e3, by rw [oc1.fa]; exact hc, by rw [oc1.fa]; exact hn, ?_, q _ C1 H1 p ?_ trivial⟩
    · rw [hf]
      cases t <;> rfl
    · cases t
      · exact Rep.int _
      · exact Rep.str _
  | _ => exact (show False from q).elim
end
/-! ### method calls -/
theorem meth_eq {o : Expr} {m : Str} {apos pos : Pos} {args : List Expr} {env : PySem.Env} (hb : attributeBase o m env (eval o env) = eval o env) (hfew : methodCallForm (args.length + ([] : List Keyword).length) (backTo pos (starEach args env)) (backToKw pos (keywordEach [] env)) = true) (hl : (apos.endLine == pos.line) = true) :
    eval (.Call (.Attribute o m apos) args [] pos) env = (do
      let ov ← eval o env
      standAt apos.atName
      let (f, first) ← holding [ov] (getMethod ov m (do return (← importBound o env).getD true))
      callWith pos f first (backTo pos (starEach args env)) (backToKw pos (keywordEach [] env))) := by
  rw [arm_eval_Call, hb]
  unfold methodCall
  rw [hfew]
  have hp : methodCallPos true o env apos pos = pure pos := by unfold methodCallPos; simp [hl]
  rw [hp]
  rfl
def tMethQ (C : Addr) (m : Str) (sp : Sp) (E : L2.St → XK) (ta : TE) (t : TA) : TE := fun σ H Q => ta σ H fun x H1 => ∃ a dx fs, x = .ref a ∧ H1 a = some (.ins C dx fs) ∧ fs.lookup m = none ∧ t σ H1 fun vs H2 => sp (x :: vs) H2 Q (E σ)
section
variable {X : Cx} {CX : CXT} {k : Nat} {C f : Addr} {fd : FuncData} {ps : List Str} {sp : Sp} {E : L2.St → XK} {m : Str} {o e : Expr} {es : List Expr} {ta : TE} {t : TA} {apos pos : Pos}
theorem pe_methQ {pl : Sem Bool} (he : PE X o ta) (c : Cls X.K C) (hm : Meth X.K C m f) (F : FnOk X.prog X.w X.K X.mg X.base CX k f fd ps sp) (hr : Room k X.A) (hb : L2.Binds X.K fd ps []) (hx : ∀ σ, PassesAt CX X σ (E σ)) (ha : PA X (e :: es) t)
    (hst : starEach (e :: es) X.env = (false, eval e X.env) :: starEach es X.env) (hpl : (backTo pos (starEach es X.env)).any (·.1) = false)
    (ht : eval (.Call (.Attribute o m apos) (e :: es) [] pos) X.env = (do
      let ov ← eval o X.env
      standAt apos.atName
      let (f, first) ← holding [ov] (getMethod ov m pl)
      callWith pos f first (backTo pos (starEach (e :: es) X.env)) (backToKw pos (keywordEach [] X.env)))) :
    PE X (.Call (.Attribute o m apos) (e :: es) [] pos) (tMethQ C m sp E ta t) := by
  refine ⟨fun pins s σ H Q I h => ?_⟩
  refine PySem.W.methodCall_KW (pl := pl) (thn (he.run pins s σ H _ I h) fun u s1 ⟨x, H1, I1, rx, a, dx, fs, ex, ea, l, q⟩ => ?_) ht
  subst ex
  obtain rfl : u = Value.ref a := rx
  refine getmeth_ok I1 ea c hm l ?_
  refine PySem.W.callWith_K (first := [.ref a]) (h₀ := X.base) I.ok.mod.kin hm.kp (thn (ha.run pos pins s1 σ H1 _ I1 q) fun us s2 ⟨vs, H2, I2, r, q2⟩ => ⟨I2.kIn, ?_⟩) hst hpl
  exact run_fnSD (us := .ref a :: us) (vs := .ref a :: vs) F hr hb .nil (hx σ) I2 (.cons rfl r) (by rw [List.append_nil]; exact q2)
theorem pe_methQ0 {pl : Sem Bool} (he : PE X o ta) (c : Cls X.K C) (hm : Meth X.K C m f) (F : FnOk X.prog X.w X.K X.mg X.base CX k f fd ps sp) (hr : Room k X.A) (hb : L2.Binds X.K fd ps []) (hx : ∀ σ, PassesAt CX X σ (E σ))
    (ht : eval (.Call (.Attribute o m apos) [] [] pos) X.env = (do
      let ov ← eval o X.env
      standAt apos.atName
      let (f, first) ← holding [ov] (getMethod ov m pl)
      callWith pos f first (backTo pos (starEach [] X.env)) (backToKw pos (keywordEach [] X.env)))) :
    PE X (.Call (.Attribute o m apos) [] [] pos) (tMethQ C m sp E ta tNil) := by
  refine ⟨fun pins s σ H Q I h => ?_⟩
  refine PySem.W.methodCall_KW (pl := pl) (thn (he.run pins s σ H _ I h) fun u s1 ⟨x, H1, I1, rx, a, dx, fs, ex, ea, l, q⟩ => ?_) ht
  subst ex
  obtain rfl : u = Value.ref a := rx
  refine getmeth_ok I1 ea c hm l ?_
  exact PySem.W.callWith_K0 (first := [.ref a]) I1.kIn hm.kp (run_fnSD (us := [.ref a]) (vs := [.ref a]) F hr hb .nil (hx σ) I1 (.cons rfl .nil) q)
end
section
variable {X : Cx} {g : G} {W : WX} {H0 : Hp} {env : Hb.Env} {o e : Expr} {io ie : E} {pos apos : Pos} {CX : CXT} {k i np : Nat} {f : Addr} {fd : FuncData} {ps : List Str} {m : Str} {es : List Expr} {ies : List E}
theorem mth_core {σ : List (Option V)} {H : Hp} {Q : VK} {C : RC} {st : Hb.St} (hm1 : (m == ("text" : Str)) = false) (hm2 : (m == ("at" : Str)) = false) (hl : ies.length = np) (oc : OkC g C) (S : Sim C H0 H env st σ)
    (h : OutG (evE g.Pg g.cl (.mth i io ies) env st) (RE C H Q) (ZG g.xr W C H σ)) :
    OutG (evE g.Pg g.cl io env st) (RE C H fun x H1 => ∃ a dx fs, x = .ref a ∧ H1 a = some (.ins (g.fa rdC) dx fs) ∧ fs.lookup m = none ∧ tAs g W H0 ies env σ H1 fun vs H2 => spF g i (np + 1) (x :: vs) H2 Q (WE W σ)) (ZG g.xr W C H σ) := by
  refine h.bindI fun kd st1 q v C1 H1 p r nw => ?_
  obtain ⟨k0, d0⟩ := kd
  cases d0 with
  | rdr n =>
    have rr := repK_rdr' r
    obtain ⟨a, dx, tt, rfl, e1, e2, _, e3⟩ := repK_rdr p.row r
    have oc1 := oc.step p.le
    have q : OutG ((evA g.Pg g.cl ies env >>= fun ds => g.cl i (.rdr n :: ds) : M KD) st1) (RE C H Q) (ZG g.xr W C H σ) := q
    refine ⟨a, dx, _, rfl, by rw [e3, rdO, oc1.fa], ?_, C1, st1, oc1, S.step p, ((evA_len (OutG.bind q)).imp (fun ds st2 q2 vs C2 H2 p2 r2 => ?_) fun _ _ _ z => z).z fun _ _ _ z => z.shift p⟩
    · show List.lookup m [(("text" : Str), _), (("at" : Str), _)] = none
      rw [List.lookup_cons, hm1, List.lookup_cons, hm2]; rfl
    · refine ⟨by rw [List.length_cons, r2.length, q2.1, hl], C2, st2, .rdr n :: ds, oc1.step p2.le, p2.sub, p2.row, .cons (rr.up p2) r2, q2.2.imp (fun _ _ z => (z.shift p).shift p2) fun c fl st3 z => ?_⟩
      exact fun cv dx C' H' q x => z cv dx C' H' ((p.trans p2).trans q) x
  | _ => exact (show False from q).elim
theorem few_ok {args : List Expr} (h : args.all notStar = true) (hl : args.length < 29) (env : PySem.Env) (pos : Pos) : methodCallForm (args.length + ([] : List Keyword).length) (backTo pos (starEach args env)) (backToKw pos (keywordEach [] env)) = true := by
  have e : ∀ as : List Expr, as.all notStar = true → (backTo pos (starEach as env)).all (!·.1) = true := fun as => by
    induction as with
    | nil => intro _; rfl
    | cons a as ih =>
      intro h
      obtain ⟨h1, h2⟩ := (Bool.and_eq_true _ _).mp (show (notStar a && as.all notStar) = true from h)
      rw [star_of h1]
      show ((!false) && (backTo pos (starEach as env)).all (!·.1)) = true
      rw [ih h2]; rfl
  unfold methodCallForm
  rw [e args h]
  show (true && true && decide (args.length + 0 + 0 < 30)) = true
  rw [decide_eq_true (by omega)]; rfl
theorem x_mth (F : FnOk X.prog X.w X.K X.mg X.base CX k f fd ps (spF g i (np + 1))) (hr : Room k X.A) (hc : Cls X.K (g.fa rdC)) (hm : Meth X.K (g.fa rdC) m f) (hb : L2.Binds X.K fd ps []) (hx : ∀ σ, PassesAt CX X σ (WE W σ)) (hl : ies.length = np)
    (hm1 : (m == ("text" : Str)) = false) (hm2 : (m == ("at" : Str)) = false) (hl2 : es.length < 29) (hll : es.length = ies.length) (hns : es.all notStar = true)
    (ho : PE X o (tE g W H0 io env)) (ha : PA X es (tAs g W H0 ies env)) (hbase : attributeBase o m X.env (eval o X.env) = eval o X.env) (hline : (apos.endLine == pos.line) = true) :
    PE X (.Call (.Attribute o m apos) es [] pos) (tE g W H0 (.mth i io ies) env) := by
  have ht := meth_eq (o := o) (m := m) (apos := apos) (pos := pos) (args := es) (env := X.env) hbase (few_ok hns hl2 X.env pos) hline
  cases es with
  | nil =>
    refine PE.imp (pe_methQ0 ho hc hm F hr hb hx ht) fun σ H Q ⟨C, st, oc, S, h⟩ => ⟨C, st, oc, S, (mth_core hm1 hm2 hl oc S h).imp (fun kd st1 q v C1 H1 p r n => ?_) fun _ _ _ z => z⟩
    obtain ⟨a, dx, fs, e1, e2, e3, q⟩ := q v C1 H1 p r n
    refine ⟨a, dx, fs, e1, e2, e3, ?_⟩
    obtain ⟨C2, st2, oc2, S2, q2⟩ := q
    cases ies with
    | nil => exact (show RA C2 H1 _ [] st2 from q2) [] C2 H1 S2.refl .nil
    | cons ie ies => exact absurd hll (by simp)
  | cons e es =>
    obtain ⟨n1, n2⟩ := (Bool.and_eq_true _ _).mp (show (notStar e && es.all notStar) = true from hns)
    refine PE.imp (pe_methQ ho hc hm F hr hb hx ha (star_of n1 _ _) (star_plain n2) ht) fun σ H Q ⟨C, st, oc, S, h⟩ => ⟨C, st, oc, S, (mth_core hm1 hm2 hl oc S h).imp (fun kd st1 q v C1 H1 p r n => ?_) fun _ _ _ z => z⟩
    exact q v C1 H1 p r n
end
/-! ### a reader is made -/
theorem new_rd {C : RC} {H : Hp} {st : Hb.St} {x dx : Addr} {t : Str} (sub : ∀ a o, C.F a = some o → H a = some o) (row : RowOk C H st) (hx : H x = none) (hdx : H dx = none) (ne : dx ≠ x) :
    Post C H { C with gl := fun u => if u = .rd st.rds.length then some x else C.gl u } (upd (upd H dx (.own x)) x (rdO C dx (t, 0))) { st with rds := st.rds ++ [(t, 0)] } := by
  have nH : ∀ b o, H b = some o → b ≠ x ∧ b ≠ dx := fun b o e => ⟨fun z => (by rw [z, hx] at e; cases e), fun z => (by rw [z, hdx] at e; cases e)⟩
  have at_ : ∀ b o, H b = some o → upd (upd H dx (.own x)) x (rdO C dx (t, 0)) b = some o := fun b o e => by
    obtain ⟨h1, h2⟩ := nH b o e
    rw [upd_ne h1, upd_ne h2]; exact e
  have gn : C.gl (.rd st.rds.length) = none := by
    have r := row.rds st.rds.length
    unfold RdP at r
    rw [List.getElem?_eq_none (Nat.le_refl _)] at r
    exact r
  have L : C.Le { C with gl := fun u => if u = .rd st.rds.length then some x else C.gl u } := ⟨rfl, rfl, rfl, fun _ _ h => h, fun u a h => by
    show (if u = .rd st.rds.length then some x else C.gl u) = some a
    by_cases q : u = .rd st.rds.length
    · rw [q, gn] at h; cases h
    · rw [if_neg q]; exact h⟩
  have nF : C.F x = none := by
    cases e : C.F x with
    | none => rfl
    | some o => have := sub x o e; rw [hx] at this; cases this
  refine ⟨L, fun a o h => at_ a o (sub a o h), fun _ _ h => .inl h, fun a h => ?_, fun a o h _ => at_ a o h, fun a o h => ⟨o, at_ a o h⟩, ⟨?_, ?_, fun m => ?_, fun m1 m2 a e1 e2 => ?_⟩⟩
  · obtain ⟨u, e⟩ := h
    have e : (if u = .rd st.rds.length then some x else C.gl u) = some a := e
    by_cases q : u = .rd st.rds.length
    · rw [if_pos q] at e; cases e; exact .inr hx
    · rw [if_neg q] at e; exact .inl ⟨u, e⟩
  · have r := row.row
    unfold RowP at r ⊢
    cases q : st.row with
    | none =>
      rw [q] at r
      show (if Gt.row = .rd st.rds.length then some x else C.gl .row) = none
      rw [if_neg (fun z => by cases z)]; exact r
    | some l =>
      rw [q] at r
      obtain ⟨a, xs, h1, h2, h3, h4⟩ := r
      exact ⟨a, xs, L.row _ _ h1, h2, at_ a _ h3, RepAll.mono L _ _ h4⟩
  · have r := row.mem
    unfold MemP at r ⊢
    cases q : st.memo with
    | none =>
      rw [q] at r
      show (if Gt.mm = .rd st.rds.length then some x else C.gl .mm) = none
      rw [if_neg (fun z => by cases z)]; exact r
    | some l =>
      rw [q] at r
      obtain ⟨a, h1, h2, h3⟩ := r
      exact ⟨a, L.row _ _ h1, h2, h3.mono L fun u hu => at_ a u hu⟩
  · unfold RdP
    show (match (st.rds ++ [(t, (0 : Int))])[m]? with
      | none => (if Gt.rd m = .rd st.rds.length then some x else C.gl (.rd m)) = none
      | some r => ∃ a dx', (if Gt.rd m = .rd st.rds.length then some x else C.gl (.rd m)) = some a ∧ C.F a = none ∧ upd (upd H dx (.own x)) x (rdO C dx (t, 0)) a = some (rdO C dx' r))
    by_cases q : m = st.rds.length
    · subst q
      rw [List.getElem?_append_right (Nat.le_refl _), Nat.sub_self]
      exact ⟨x, dx, if_pos rfl, nF, upd_same⟩
    · have en : (if Gt.rd m = .rd st.rds.length then some x else C.gl (.rd m)) = C.gl (.rd m) := if_neg fun z => q (by cases z; rfl)
      rw [en]
      have r := row.rds m
      unfold RdP at r
      by_cases lt : m < st.rds.length
      · rw [List.getElem?_append_left lt]
        cases z : st.rds[m]? with
        | none => rw [z] at r; exact r
        | some l =>
          rw [z] at r
          obtain ⟨a, dx', h1, h2, h3⟩ := r
          exact ⟨a, dx', h1, h2, at_ a _ h3⟩
      · rw [List.getElem?_eq_none (by rw [List.length_append, List.length_singleton]; omega)]
        rw [List.getElem?_eq_none (by omega)] at r
        exact r
  · have f : ∀ m a, (if Gt.rd m = .rd st.rds.length then some x else C.gl (.rd m)) = some a → (m = st.rds.length ∧ a = x) ∨ C.gl (.rd m) = some a := fun m a e => by
      by_cases q : m = st.rds.length
      · subst q; rw [if_pos rfl] at e; cases e; exact .inl ⟨rfl, rfl⟩
      · rw [if_neg (fun z => q (by cases z; rfl))] at e; exact .inr e
    have nx : ∀ m, C.gl (.rd m) ≠ some x := fun m e => by
      obtain ⟨_, _, _, _, h3⟩ := row.rdAt e
      rw [hx] at h3; cases h3
    rcases f m1 a e1 with ⟨h1, h2⟩ | h1
    · rcases f m2 a e2 with ⟨h3, h4⟩ | h3
      · rw [h1, h3]
      · rw [h2] at h3; exact (nx _ h3).elim
    · rcases f m2 a e2 with ⟨h3, h4⟩ | h3
      · rw [h4] at h1; exact (nx _ h1).elim
      · exact row.inj m1 m2 a h1 h3
def spI (C : Addr) : Sp := fun vs H Q E => ∃ (x dx : Addr) (t : Str), vs = [.ref x, .str t] ∧ H x = some (.ins C dx []) ∧ Q .non (upd H x (.ins C dx [("text", .str t), ("at", .int 0)]))
theorem x_mkrd {X : Cx} {g : G} {W : WX} {H0 : Hp} {env : Hb.Env} {e : Expr} {ie : E} {pos p : Pos} {k : Nat} {fI : Addr} {fd : FuncData} {ps : List Str} {x : Str} (M : Mk X.K (g.fa rdC) fI) (F : FnOk X.prog X.w X.K X.mg X.base (L2.CX X.prog X.w) k fI fd ps (spI (g.fa rdC))) (hr : Room (k + 1) X.A) (hb : L2.Binds X.K fd ps [])
    (hg : Gl X x) (hm : X.mg x = some (.ref (g.fa rdC))) (hdb : (x == ("__debug__" : Str)) = false) (he : PE X e (tE g W H0 ie env)) (hs : ∀ es env, starEach (e :: es) env = (false, eval e env) :: starEach es env) :
    PE X (.Call (.Name x p) [e] [] pos) (tE g W H0 (.mkrd ie) env) := by
  refine PE.imp (pe_make (E := fun _ _ _ => False) M F hr hg hm hb .nil (fun _ _ _ _ _ _ _ ⟨_, _, _, _, _, _, _, _, _, _, _, _, z⟩ => z.elim) (pa_cons he pa_nil (hs _ _)) hdb (hs _ _) rfl) fun σ H Q ⟨C, st, oc, S, h⟩ => ⟨C, st, oc, S, h.bindI fun kd st1 q v C1 H1 p1 r n => ?_⟩
  obtain ⟨k0, d0⟩ := kd
  cases d0 with
  | str t =>
    have ev : v = .str t := by
      cases k0 with
      | sh => cases (show Rep C1 v (.str t) from r) with | str => rfl
      | fr =>
        obtain ⟨_, _, _, _, z⟩ := r
        exact (show False from z).elim
      | br =>
        obtain ⟨_, _, _, _, z⟩ := r
        exact (show False from z).elim
    subst ev
    intro x' dx hx hdx ne
    have q : RE C H Q (.sh, .rdr st1.rds.length) { st1 with rds := st1.rds ++ [(t, 0)] } := q
    have oc1 := oc.step p1.le
    have P1 := new_rd (t := t) p1.sub p1.row hx hdx ne
    refine ⟨x', dx, t, rfl, upd_same, rfl, ?_⟩
    rw [upd_upd]
    have ed : (HO.ins (g.fa rdC) dx [("text", .str t), ("at", .int 0)]) = rdO C1 dx (t, 0) := by
      unfold rdO; rw [oc1.fa]
    rw [ed]
    exact q _ _ _ (p1.trans P1) (Rep.rdr (if_pos rfl)) trivial
  | _ => exact (show False from q).elim
/-! ### __init__ -/
def initB (body : List Stmt) : Bool := match body with
  | [.Assign [.Attribute (.Name a _) f _] (.Name b _) _, .Assign [.Attribute (.Name a2 _) f2 _] (.Constant (.int i) _ _) _] => (a == ("self" : Str)) && (f == ("text" : Str)) && (b == ("text" : Str)) && (a2 == ("self" : Str)) && (f2 == ("at" : Str)) && decide (i = 0)
  | _ => false
theorem initB_of {body : List Stmt} (h : initB body = true) : ∃ p1 p2 p3 p4 q1 q2 j q3 q4, body = [.Assign [.Attribute (.Name "self" p1) "text" p2] (.Name "text" p3) p4, .Assign [.Attribute (.Name "self" q1) "at" q2] (.Constant (.int 0) j q3) q4] := by
  unfold initB at h
  split at h
  · simp only [Bool.and_eq_true, beq_iff_eq, decide_eq_true_eq] at h
    obtain ⟨⟨⟨⟨⟨rfl, rfl⟩, rfl⟩, rfl⟩, rfl⟩, rfl⟩ := h
    exact ⟨_, _, _, _, _, _, _, _, _, rfl⟩
  · cases h
theorem init_ok {P : Program} {w : World} {K : PySem.W.Frag} {mg : Str → Option Value} {base : Heap} {nm qual : Str} {params : Arguments} {body : List Stmt} {scope : Scope} {f C : Addr} {fd : FuncData} (S : FnScope ["self", "text"] ["self", "text"] scope)
    (hv1 : Vis scope "self") (hv2 : Vis scope "text") (F : FunD K nm qual params body scope [] [] f fd) (hb : initB body = true) (hc : Cls K C) (h1 : NoAttr K C "text") (h2 : NoAttr K C "at") : FnOk P w K mg base (L2.CX P w) 1 f fd ["self", "text"] (spI C) := by
  obtain ⟨p1, p2, p3, p4, q1, q2, j, q3, q4, rfl⟩ := initB_of hb
  refine F.ok S (fun vs H Q E ⟨x, dx, t, e, _⟩ => by rw [e]; rfl) fun cdv A outer s H vs Q E hr hs => ?_
  obtain ⟨x, dx, t, rfl, hx, q⟩ := hs
  have v1 : ∀ p, PE (cxOf (L2.CX P w) P w K mg base ["self", "text"] qual scope f cdv A outer s H E) (.Name "self" p) (tVar 0) := fun p => pe_var rfl hv1
  have v2 : ∀ p, PE (cxOf (L2.CX P w) P w K mg base ["self", "text"] qual scope f cdv A outer s H E) (.Name "text" p) (tVar 1) := fun p => pe_var rfl hv2
  refine ⟨_, pss_cons (ps_fld (v1 p1) (v2 p3) rfl) (pss_one (ps_fld (v1 q1) pe_int rfl)), ?_⟩
  refine ⟨.str t, rfl, .ref x, rfl, x, C, dx, [], rfl, hx, hc, h1, by decide, ?_⟩
  refine ⟨.ref x, rfl, x, C, dx, [("text", .str t)], rfl, upd_same, hc, h2, (by simp), ?_⟩
  show Q .non (upd (upd H x _) x _)
  rw [upd_upd]
  exact q
/-! ### s.join(list of texts) -/
theorem joinS_cons (s : List Nat) : ∀ (x : Str) (r : List Str), joinS s (x :: r) = x.cps.toList ++ r.flatMap fun p => s ++ p.cps.toList
  | x, [] => by
    show x.cps.toList = x.cps.toList ++ []
    rw [List.append_nil]
  | x, y :: r => by
    show x.cps.toList ++ s ++ joinS s (y :: r) = _
    rw [joinS_cons s y r, List.flatMap_cons, List.append_assoc, List.append_assoc]
theorem glue_fold (s : Array Nat) : ∀ (r : List Str) (acc : Array Nat), (r.foldl (fun acc p => acc ++ s ++ p.cps) acc).toList = acc.toList ++ r.flatMap fun p => s.toList ++ p.cps.toList
  | [], acc => by simp
  | p :: r, acc => by
    rw [List.foldl_cons, glue_fold s r, List.flatMap_cons, Array.toList_append, Array.toList_append, List.append_assoc, List.append_assoc, List.append_assoc]
theorem joinS_eq (s : Str) (ss : List Str) : (⟨(joinS s.cps.toList ss).toArray⟩ : Str) = Txt.join s ss := by
  cases ss with
  | nil => rfl
  | cons x r =>
    show (⟨(joinS s.cps.toList (x :: r)).toArray⟩ : Str) = ⟨r.foldl (fun acc p => acc ++ s.cps ++ p.cps) x.cps⟩
    congr 1
    apply Array.toList_inj.mp
    rw [glue_fold, joinS_cons]
theorem join_size (s : Str) : ∀ ss : List Str, (ss.map (·.length)).sum + ss.length * s.length ≤ (joinS s.cps.toList ss).length + s.length
  | [] => by simp
  | [x] => by
    have e1 : x.cps.toList.length = x.length := Array.length_toList
    show x.length + 0 + 1 * s.length ≤ x.cps.toList.length + s.length
    rw [e1]; omega
  | x :: y :: r => by
    have ih := join_size s (y :: r)
    show x.length + ((y :: r).map (·.length)).sum + ((y :: r).length + 1) * s.length ≤ (x.cps.toList ++ s.cps.toList ++ joinS s.cps.toList (y :: r)).length + s.length
    have e1 : x.cps.toList.length = x.length := Array.length_toList
    have e2 : s.cps.toList.length = s.length := Array.length_toList
    rw [List.length_append, List.length_append, e1, e2, Nat.add_mul]
    omega
theorem strs_rep {C : RC} : ∀ {ds : List D} {ss : List Str} {vs : List V}, RepAll C vs ds → strsOf ds = some ss → vs = ss.map V.str
  | [], ss, vs, r, h => by
    cases r
    have h : some [] = some ss := h
    cases h; rfl
  | .str x :: ds, ss, vs, r, h => by
    have h : (strsOf ds).map (x :: ·) = some ss := h
    obtain ⟨t, e1, e2⟩ := Option.map_eq_some_iff.mp h
    cases r with
    | cons r1 r2 =>
      cases r1
      rw [strs_rep r2 e1, ← e2]; rfl
  | .non :: _, _, _, _, h => nomatch h
  | .bl _ :: _, _, _, _, h => nomatch h
  | .int _ :: _, _, _, _, h => nomatch h
  | .tup _ :: _, _, _, _, h => nomatch h
  | .lst _ :: _, _, _, _, h => nomatch h
  | .dct _ :: _, _, _, _, h => nomatch h
  | .fn _ :: _, _, _, _, h => nomatch h
  | .exc _ _ :: _, _, _, _, h => nomatch h
  | .row :: _, _, _, _, h => nomatch h
  | .scr _ :: _, _, _, _, h => nomatch h
  | .memo :: _, _, _, _, h => nomatch h
  | .rdr _ :: _, _, _, _, h => nomatch h
section
variable {X : Cx} {g : G} {W : WX} {H0 : Hp} {env : Hb.Env} {b : Expr} {ib : E} {apos cpos p1 : Pos} {s : Str} {j : Nat}
theorem x_join (hs : s.length ≤ 1000) (hb : PE X b (tE g W H0 ib env)) (hst : starEach [b] X.env = [(false, eval b X.env)]) (hline : (apos.endLine == cpos.line) = true) :
    PE X (.Call (.Attribute (.Constant (.str s) j p1) "join" apos) [b] [] cpos) (tE g W H0 (.mt .join (.cst (.str s)) ib) env) := by
  refine PE.imp (pe_join (pe_str (x := s)) hb hst rfl hline) fun σ H Q ⟨C, st, oc, S, o⟩ => ⟨⟨s, rfl⟩, C, st, oc, S, ?_⟩
  have o : OutG ((do let y ← evE g.Pg g.cl ib env; p2D .join (.str s) y.2 : M KD) st) (RE C H Q) (ZG g.xr W C H σ) := o
  refine o.bindI fun kd st1 q v C1 H1 p r n => ?_
  obtain ⟨k0, d0⟩ := kd
  have fin : ∀ (xs : List D) (a : Addr) (vs : List V), v = .ref a → RepAll C1 vs xs → (SqL X.K H1 a vs ∨ SqT X.K H1 a vs) → OutG ((do
      let ss ← need (strsOf xs)
      guard_ (decide ((joinS s.cps.toList ss).length + s.length ≤ sizeMax))
      pure (.sh, .str ⟨(joinS s.cps.toList ss).toArray⟩) : M KD) st1) (RE C H Q) (ZG g.xr W C H σ) →
      ∃ (a : Str) (p : Addr) (ys : List Str), V.str s = .str a ∧ [v] = [.ref p] ∧ (SqL X.K H1 p (ys.map V.str) ∨ SqT X.K H1 p (ys.map V.str)) ∧ (ys.map (·.length)).sum + ys.length * a.length ≤ 16777216 ∧ Q (.str (Txt.join a ys)) H1 := fun xs a vs ev ra hq q => by
    obtain ⟨ss, e, q⟩ := OutG.needB q
    obtain ⟨gz, q⟩ := OutG.guardB q
    have gz := of_decide_eq_true gz
    have ev2 := strs_rep ra e
    have js := join_size s ss
    have sm : sizeMax = 16777216 := rfl
    have q : RE C H Q (.sh, .str ⟨(joinS s.cps.toList ss).toArray⟩) st1 := q
    rw [joinS_eq] at q
    exact ⟨s, a, ss, rfl, by rw [ev], by rw [← ev2]; exact hq, by omega, q _ C1 H1 p (.str _) trivial⟩
  cases d0 with
  | lst xs =>
    obtain ⟨a, vs, e, ha, ra⟩ := repK_lst p.sub (show RepK C1 H1 k0 v (.lst xs) from r)
    exact fin xs a vs e ra (.inl (sqL_of (C := C1) (K := X.K) ha)) q
  | tup xs =>
    obtain ⟨a, vs, e, ht, ra⟩ := repK_tupX (show RepK C1 H1 k0 v (.tup xs) from r)
    exact fin xs a vs e ra (.inr (sqT_mono p.sub (TupX.sq ht))) q
  | _ => exact (show False from q).elim
end
end Hb
namespace Hb
open PySem PySem.Spec PyProof.Rows L2

theorem ands {a b : Bool} (h : (a && b) = true) : a = true ∧ b = true := (Bool.and_eq_true a b).mp h
/-- a def that is called -/
def FOk (X : Cx) (g : G) (x : Str) (i np : Nat) : Prop := ∃ (k : Nat) (f : Addr) (fd : FuncData) (ps : List Str), FnOk X.prog X.w X.K X.mg X.base (L2.CX X.prog X.w) k f fd ps (spF g i np) ∧ Room k X.A ∧ X.mg x = some (.ref f) ∧ PySem.W.keepIn X.K (.ref f) = true ∧ Binds X.K fd ps []
/-- a method that is called -/
def MOk (X : Cx) (g : G) (m : Str) (i n : Nat) : Prop := ∃ (k : Nat) (f : Addr) (fd : FuncData) (ps : List Str), FnOk X.prog X.w X.K X.mg X.base (L2.CX X.prog X.w) k f fd ps (spF g i (n + 1)) ∧ Room k X.A ∧ Meth X.K (g.fa rdC) m f ∧ Binds X.K fd ps []
/-- the readers' class is called -/
def ROk (X : Cx) (g : G) (x : Str) : Prop := ∃ (f : Addr) (fd : FuncData) (ps : List Str), Mk X.K (g.fa rdC) f ∧ FnOk X.prog X.w X.K X.mg X.base (L2.CX X.prog X.w) 1 f fd ps (spI (g.fa rdC)) ∧ Binds X.K fd ps [] ∧ X.mg x = some (.ref (g.fa rdC))
/-- what is known of the context -/
structure XOk (X : Cx) (sc : Scope) (fnc : Str → Bool) (cf : Cf) (g : G) (W : WX) : Prop where
  calm : X.calm = true
  sc : X.env.scope = sc
  fn : ∀ x, fnc x = true → X.fn x = true
  N : X.N = cf.N
  nd : X.N.Nodup
  K : X.K = g.K
  w : X.w = g.w
  un : X.A.units + 100 < cLine
  cst : ∀ x i, cf.cs.lookup x = some i → ∃ d v u, g.Pg.cst i = some d ∧ X.mg x = some u ∧ RelV v u ∧ ∀ C, OkC g C → Rep C v d
  fns : ∀ x i np, cf.fs.lookup x = some (i, np) → FOk X g x i np
  blt : ∀ x, cf.bs.contains x = true → X.mg x = none
  tk : Takes X W
  ex : XEx X cf.xs cf.xf g
  rm : Room 2 X.A
  ms : ∀ m i n, cf.ms.lookup m = some (i, n) → MOk X g m i n
  rd : ∀ x, cf.rc.contains x = true → ROk X g x
  rf : cf.rc.isEmpty = false → Cls X.K (g.fa rdC) ∧ NoAttr X.K (g.fa rdC) "text" ∧ NoAttr X.K (g.fa rdC) "at"
theorem XOk.blk {X : Cx} {sc : Scope} {fnc : Str → Bool} {cf : Cf} {g : G} {W : WX} (o : XOk X sc fnc cf g W) (scope : Scope) (s : Shared) (H : Hp) (C : Addr) (cl : List (Str × Addr)) (fp : List Addr) : XOk (X.blk s H scope (compEnvC scope cl C X.env) fp) (inSc sc scope) (blkFn scope) cf g W0 where
  calm := o.calm
  sc := by
    show relS scope X.env.scope = relS scope sc
    rw [o.sc]
  fn := fun x h => h
  N := o.N
  nd := o.nd
  K := o.K
  w := o.w
  un := o.un
  cst := o.cst
  fns := o.fns
  blt := o.blt
  tk := fun u s' ⟨_, _, _, _, _, _, _, _, _, _, _, _, _, _, _, _, z⟩ => z.elim
  ex := ⟨o.ex.ex⟩
  rm := o.rm
  ms := o.ms
  rd := o.rd
  rf := o.rf
section
variable {cf : Cf} {g : G} {H0 : Hp}
theorem XOk.gl {X : Cx} {sc : Scope} {fnc : Str → Bool} {W : WX} (o : XOk X sc fnc cf g W) {x : Str} (h : glo sc x = true) : Gl X x := by
  show X.env.scope.names.lookup x = _
  rw [o.sc]; exact glo_of h
theorem XOk.bl {X : Cx} {sc : Scope} {fnc : Str → Bool} {W : WX} (o : XOk X sc fnc cf g W) {x n : Str} (h : Hb.blt cf sc x n = true) : x = n ∧ Gl X n ∧ X.mg n = none := by
  unfold Hb.blt at h
  rw [Bool.and_eq_true, Bool.and_eq_true] at h
  have e := eq_of_beq h.1.1
  subst e
  exact ⟨rfl, o.gl h.1.2, o.blt x h.2⟩
theorem XOk.ix {X : Cx} {sc : Scope} {fnc : Str → Bool} {W : WX} (o : XOk X sc fnc cf g W) {i : Nat} {x : Str} (h : isN cf i x = true) : X.N[i]? = some x := by rw [o.N]; exact isN_of h
theorem XOk.st {X : Cx} {sc : Scope} {fnc : Str → Bool} {W : WX} (o : XOk X sc fnc cf g W) {x : Str} (h : stOk sc fnc x = true) : Loc X.env.scope x ∧ (X.fn x = true ∨ X.env.scope.names.lookup x = some .local) := by
  unfold stOk at h
  rw [o.sc]
  split at h
  · rename_i e; exact ⟨.inl e, .inr e⟩
  · rename_i e; exact ⟨.inr e, .inl (o.fn x h)⟩
  · exact absurd h Bool.false_ne_true

/-! ### patterns -/
theorem assignEach_len {env : PySem.Env} : ∀ {es : List Expr}, (assignEach es env).length = es.length
  | [] => rfl
  | e :: es => by cases e <;> exact congrArg Nat.succ (assignEach_len (es := es))
theorem assign_of {e : Expr} (h : notStar e = true) (es : List Expr) (env : PySem.Env) : assignEach (e :: es) env = (false, assign e env) :: assignEach es env := by
  cases e <;> first | rfl | exact absurd h Bool.false_ne_true
theorem assign_plain {env : PySem.Env} : ∀ {es : List Expr}, es.all notStar = true → (assignEach es env).findIdx? (·.1) = none
  | [], _ => rfl
  | e :: es, h => by
    rw [List.all_cons, Bool.and_eq_true] at h
    rw [assign_of h.1, List.findIdx?_cons, assign_plain h.2]
    rfl
theorem chkPs_all {sc : Scope} {fnc : Str → Bool} : ∀ {ps : List Pat} {es : List Expr}, chkPs cf sc fnc ps es = true → es.all notStar = true ∧ es.length = ps.length
  | [], es, h => by
    cases es with
    | nil => exact ⟨rfl, rfl⟩
    | cons _ _ => exact absurd h Bool.false_ne_true
  | p :: ps, es, h => by
    cases es with
    | nil => exact absurd h Bool.false_ne_true
    | cons e es =>
      have h : (notStar e && chkP cf sc fnc p e && chkPs cf sc fnc ps es) = true := h
      rw [Bool.and_eq_true, Bool.and_eq_true] at h
      obtain ⟨a, b⟩ := chkPs_all h.2
      exact ⟨by rw [List.all_cons, h.1.1, a]; rfl, congrArg Nat.succ b⟩
mutual
theorem pat_ok : ∀ (p : Pat) (X : Cx) (sc : Scope) (fnc : Str → Bool) (W : WX) (e : Expr) (env : Hb.Env), XOk X sc fnc cf g W → chkP cf sc fnc p e = true → PG X e (gPat g H0 p env)
  | .nm i, X, sc, fnc, W, e, env, o, h => by
    obtain ⟨x, p, rfl, h1⟩ := cName_of h
    obtain ⟨h1, h2⟩ := ands h1
    obtain ⟨a, b⟩ := o.st h2
    exact g_nm o.nd (o.ix h1) a b
  | .tp ps, X, sc, fnc, W, e, env, o, h => by
    obtain ⟨es, k, p, rfl, h⟩ := cTup_of h
    obtain ⟨a, b⟩ := chkPs_all h
    exact g_tp o.K o.calm (pats_ok ps X sc fnc W es env o h) (by rw [assignEach_len, b]) (assign_plain a)
theorem pats_ok : ∀ (ps : List Pat) (X : Cx) (sc : Scope) (fnc : Str → Bool) (W : WX) (es : List Expr) (env : Hb.Env), XOk X sc fnc cf g W → chkPs cf sc fnc ps es = true → PGs X es (gPats g H0 ps env)
  | [], X, sc, fnc, W, es, env, o, h => by
    cases es with
    | nil => exact gs_nil
    | cons _ _ => exact absurd h Bool.false_ne_true
  | p :: ps, X, sc, fnc, W, es, env, o, h => by
    cases es with
    | nil => exact absurd h Bool.false_ne_true
    | cons e es =>
      have h : (notStar e && chkP cf sc fnc p e && chkPs cf sc fnc ps es) = true := h
      rw [Bool.and_eq_true, Bool.and_eq_true] at h
      exact gs_cons (fun env => pat_ok p X sc fnc W e env o h.1.2) (fun env => pats_ok ps X sc fnc W es env o h.2) (by rw [assign_of h.1.1]; rfl)
end
theorem own_snd (p : Pat) : (ownOf' cf p).map (·.2) = p.slots := by
  unfold ownOf'
  rw [List.map_map]
  have : ((fun x : Str × Nat => x.2) ∘ fun i => ((cf.N[i]?).getD "", i)) = id := rfl
  rw [this, List.map_id]
end

/-! ### built-in names -/
theorem bt_len : bootBuiltins "len" = some (.builtin "len") := by decide +kernel
theorem bt_sorted : bootBuiltins "sorted" = some (.builtin "sorted") := by decide +kernel
theorem bt_sum : bootBuiltins "sum" = some (.builtin "sum") := by decide +kernel
theorem bt_min : bootBuiltins "min" = some (.builtin "min") := by decide +kernel
theorem bt_max : bootBuiltins "max" = some (.builtin "max") := by decide +kernel
theorem bt_abs : bootBuiltins "abs" = some (.builtin "abs") := by decide +kernel
theorem bt_tuple : bootBuiltins "tuple" = some (.type "tuple") := by decide +kernel
theorem bt_dict : bootBuiltins "dict" = some (.type "dict") := by decide +kernel
theorem bt_list : bootBuiltins "list" = some (.type "list") := by decide +kernel
theorem bt_int : bootBuiltins "int" = some (.type "int") := by decide +kernel
theorem bt_str : bootBuiltins "str" = some (.type "str") := by decide +kernel
theorem bt_kd (k : Kd) : bootBuiltins (kdNm k) = some (.type (tyK k)) := by cases k <;> decide +kernel
theorem allStar_A {cf : Cf} {sc : Scope} : ∀ {ies : List E} {es : List Expr}, chkA cf ies sc es = true → es.all notStar = true ∧ es.length = ies.length
  | [], es, h => by
    cases es with
    | nil => exact ⟨rfl, rfl⟩
    | cons _ _ => exact absurd h Bool.false_ne_true
  | ie :: ies, es, h => by
    cases es with
    | nil => exact absurd h Bool.false_ne_true
    | cons e es =>
      have h : (notStar e && chkE cf ie sc e && chkA cf ies sc es) = true := h
      rw [Bool.and_eq_true, Bool.and_eq_true] at h
      obtain ⟨a, b⟩ := allStar_A h.2
      exact ⟨by rw [List.all_cons, h.1.1, a]; rfl, congrArg Nat.succ b⟩
theorem nots {a : Bool} (h : (!a) = true) : a = false := by cases a <;> first | rfl | exact absurd h Bool.false_ne_true
/-- PE, and PT where it may be a test -/
def Both (X : Cx) (e : Expr) (g : G) (W : WX) (H0 : Hp) (ie : E) (env : Hb.Env) : Prop := PE X e (tE g W H0 ie env) ∧ (tstOk ie = true → PT X e (tT g W H0 ie env))
theorem Both.of {X : Cx} {e : Expr} {g : G} {W : WX} {H0 : Hp} {ie : E} {env : Hb.Env} (h : PE X e (tE g W H0 ie env)) (he : ∀ whole, isTrue e X.env whole = (do let v ← whole; standAt e.pos; holding [v] (truthy v))) : Both X e g W H0 ie env := ⟨h, fun _ => t_val h he⟩
section
variable (hdict : ∀ (X : Cx) (tg : Expr), X.calm = true → DictIt X tg) {cf : Cf} {g : G} {H0 : Hp}
include hdict
set_option maxHeartbeats 8000000 in
mutual
theorem exp_ok : ∀ (ie : E) (X : Cx) (sc : Scope) (fnc : Str → Bool) (W : WX) (e : Expr) (env : Hb.Env), XOk X sc fnc cf g W → chkE cf ie sc e = true → Both X e g W H0 ie env
  | .var i, X, sc, fnc, W, e, env, o, h => by
    obtain ⟨x, p, rfl, h⟩ := cName_of h
    obtain ⟨h, h3⟩ := ands h
    obtain ⟨h1, h2⟩ := ands h
    obtain ⟨n1, n2, n3⟩ := nmOk_of h3
    exact .of (x_var (o.ix h1) (by rw [o.sc]; exact vis_of h2) n1 n2) fun _ => rfl
  | .cst d, X, sc, fnc, W, e, env, o, h => by
    obtain ⟨c, j, p, rfl, h⟩ := cConst_of h
    cases d with
    | non => cases c <;> first | exact .of x_non fun _ => rfl | exact absurd h Bool.false_ne_true
    | bl b => cases c <;> first | (have e := eq_of_beq h; subst e; exact .of x_bl fun _ => rfl) | exact absurd h Bool.false_ne_true
    | int b => cases c <;> first | (have e := eq_of_beq h; subst e; exact .of x_int fun _ => rfl) | exact absurd h Bool.false_ne_true
    | str b => cases c <;> first | (have e := eq_of_beq h; subst e; exact .of x_str fun _ => rfl) | exact absurd h Bool.false_ne_true
    | _ => exact absurd h Bool.false_ne_true
  | .glob i, X, sc, fnc, W, e, env, o, h => by
    obtain ⟨x, p, rfl, h⟩ := cName_of h
    obtain ⟨h, h3⟩ := ands h
    obtain ⟨h1, h2⟩ := ands h
    obtain ⟨n1, n2, n3⟩ := nmOk_of h3
    obtain ⟨d, v, u, q1, q2, q3, q4⟩ := o.cst x i (eq_of_beq h1)
    exact .of (x_glob q1 (o.gl h2) q2 q3 q4 n1) fun _ => rfl
  | .tup ies, X, sc, fnc, W, e, env, o, h => by
    obtain ⟨es, k, p, rfl, h⟩ := cTup_of h
    obtain ⟨h1, h2⟩ := ands h
    exact .of (x_tup h1 (args_ok ies X sc fnc W es env o h2)) fun _ => rfl
  | .lst ies, X, sc, fnc, W, e, env, o, h => by
    obtain ⟨es, p, rfl, h⟩ := cList_of h
    obtain ⟨h1, h2⟩ := ands h
    exact .of (x_lst h1 (args_ok ies X sc fnc W es env o h2)) fun _ => rfl
  | .bin op a b, X, sc, fnc, W, e, env, o, h => by
    obtain ⟨l, q, r, p, rfl, h⟩ := cBin_of h
    obtain ⟨h, h3⟩ := ands h
    obtain ⟨h1, h2⟩ := ands h
    have e := of_decide_eq_true h1
    subst e
    exact .of (x_bin o.K o.w (exp_ok a X sc fnc W l env o h2).1 (exp_ok b X sc fnc W r env o h3).1) fun _ => rfl
  | .neg a, X, sc, fnc, W, e, env, o, h => by
    obtain ⟨q, l, p, rfl, h⟩ := cUn_of h
    obtain ⟨h1, h2⟩ := ands h
    have e := of_decide_eq_true h1
    subst e
    exact .of (x_neg (exp_ok a X sc fnc W l env o h2).1) fun _ => rfl
  | .not_ a, X, sc, fnc, W, e, env, o, h => by
    obtain ⟨q, l, p, rfl, h⟩ := cUn_of h
    obtain ⟨h1, h2⟩ := ands h
    have e := of_decide_eq_true h1
    subst e
    have r := exp_ok a X sc fnc W l env o h2
    exact ⟨x_not r.1, fun t => t_not (r.2 t)⟩
  | .and_ ies, X, sc, fnc, W, e, env, o, h => by
    obtain ⟨q, es, p, rfl, h⟩ := cBool_of h
    obtain ⟨h, h3⟩ := ands h
    obtain ⟨h1, h2⟩ := ands h
    have e := of_decide_eq_true h1
    subst e
    cases es with
    | nil => exact absurd h2 Bool.false_ne_true
    | cons e es =>
      have r := and_ok ies X sc fnc W e es p env o h3
      exact ⟨r.1, fun _ => t_ofAnd r.2⟩
  | .or_ ies, X, sc, fnc, W, e, env, o, h => by
    obtain ⟨q, es, p, rfl, h⟩ := cBool_of h
    obtain ⟨h, h3⟩ := ands h
    obtain ⟨h1, h2⟩ := ands h
    have e := of_decide_eq_true h1
    subst e
    cases es with
    | nil => exact absurd h2 Bool.false_ne_true
    | cons e es =>
      have r := or_ok ies X sc fnc W e es p env o h3
      exact ⟨r.1, fun _ => t_ofOr r.2⟩
  | .ite c a b, X, sc, fnc, W, e, env, o, h => by
    obtain ⟨x, y, z, p, rfl, h⟩ := cIf_of h
    obtain ⟨h, h4⟩ := ands h
    obtain ⟨h, h3⟩ := ands h
    obtain ⟨h1, h2⟩ := ands h
    exact ⟨x_ite ((exp_ok c X sc fnc W x env o h1).2 h2) (exp_ok a X sc fnc W y env o h3).1 (exp_ok b X sc fnc W z env o h4).1, fun t => absurd t Bool.false_ne_true⟩
  | .cmp op a b, X, sc, fnc, W, e, env, o, h => by
    obtain ⟨l, os, rs, p, rfl, hh⟩ := cCmp_of h
    obtain ⟨h1, hk⟩ := ands hh
    have e := of_decide_eq_true h1
    subst e
    obtain ⟨r, rfl, hl⟩ := c1_of hk
    obtain ⟨hl, h4⟩ := ands hl
    obtain ⟨h2, h3⟩ := ands hl
    have r1 := (exp_ok a X sc fnc W l env o h2).1
    have r2 := (exp_ok b X sc fnc W r env o h3).1
    exact ⟨x_cmp o.K o.w o.un r1 r2 (nots h4), fun _ => t_cmp o.K o.w o.un r1 r2 (nots h4)⟩
  | .cmp2 op op' a b c, X, sc, fnc, W, e, env, o, h => by
    obtain ⟨l, os, rs, p, rfl, hh⟩ := cCmp_of h
    obtain ⟨h1, hk⟩ := ands hh
    have e := of_decide_eq_true h1
    subst e
    obtain ⟨r, z, rfl, hl⟩ := c2_of hk
    obtain ⟨hl, h5⟩ := ands hl
    obtain ⟨hl, h4⟩ := ands hl
    obtain ⟨h2, h3⟩ := ands hl
    have r1 := (exp_ok a X sc fnc W l env o h2).1
    have r2 := (exp_ok b X sc fnc W r env o h3).1
    have r3 := (exp_ok c X sc fnc W z env o h4).1
    exact ⟨x_cmp2 o.K o.w o.un r1 r2 r3 (nots h5), fun _ => t_cmp2 o.K o.w o.un r1 r2 r3 (nots h5)⟩
  | .idx a b, X, sc, fnc, W, e, env, o, h => by
    obtain ⟨x, y, p, rfl, h⟩ := cSub_of h
    obtain ⟨h, h3⟩ := ands h
    obtain ⟨h1, h2⟩ := ands h
    exact .of (x_idx o.K o.w o.un (exp_ok a X sc fnc W x env o h1).1 (exp_ok b X sc fnc W y env o h2).1 (plainIx_of h3)) fun _ => rfl
  | .slc a lo hi, X, sc, fnc, W, e, env, o, h => by
    obtain ⟨x, y, p, rfl, h⟩ := cSub_of h
    obtain ⟨h1, h⟩ := ands h
    obtain ⟨l, u, st, p2, rfl, h⟩ := cSlice_of h
    obtain ⟨h, h4⟩ := ands h
    obtain ⟨h2, h3⟩ := ands h
    have e := cNone_of h4
    subst e
    exact .of (x_slc o.K o.w (exp_ok a X sc fnc W x env o h1).1 (opt_ok lo X sc fnc W l env o h2) (opt_ok hi X sc fnc W u env o h3)) fun _ => rfl
  | .dct kvs, X, sc, fnc, W, e, env, o, h => .of (dct_ok kvs X sc fnc W e env o h) fun _ => by
      have h : chkD cf kvs sc e = true := h
      cases kvs with
      | nil => obtain ⟨p, rfl⟩ := cDict0_of h; rfl
      | cons p r =>
        obtain ⟨_, h⟩ := ands h
        obtain ⟨k, v⟩ := p
        obtain ⟨a, b, p, rfl, _⟩ := cDict1_of h
        rfl
  | .mkm, X, sc, fnc, W, e, env, o, h => by
    obtain ⟨p, rfl⟩ := cDict0_of h
    exact .of x_mkm0 fun _ => rfl
  | .mkrd a, X, sc, fnc, W, e, env, o, h => by
    obtain ⟨x, q, es, p, rfl, h⟩ := cCall_of h
    obtain ⟨h, h4⟩ := ands h
    obtain ⟨h, h3⟩ := ands h
    obtain ⟨h1, h2⟩ := ands h
    obtain ⟨n1, n2, n3⟩ := nmOk_of h3
    obtain ⟨y, rfl, h5⟩ := c1_of h4
    obtain ⟨h5, h6⟩ := ands h5
    obtain ⟨fI, fd, ps, M, F, hb, hm⟩ := o.rd x h1
    exact .of (x_mkrd M F o.rm hb (o.gl h2) hm n1 (exp_ok a X sc fnc W y env o h6).1 (star_of h5)) fun _ => rfl
  | .rdf a t, X, sc, fnc, W, e, env, o, h => by
    obtain ⟨oe, f, p, rfl, h⟩ := cAt_of h
    obtain ⟨h, h4⟩ := ands h
    obtain ⟨h, h3⟩ := ands h
    obtain ⟨h1, h2⟩ := ands h
    obtain ⟨r1, r2, r3⟩ := o.rf (nots h2)
    have ef := eq_of_beq h1
    exact .of (x_rdf o.K r1 (by rw [ef]; cases t; exact r3; exact r2) ef (exp_ok a X sc fnc W oe env o h4).1 (baseOk_of h3 _ _)) fun _ => rfl
  | .mth f a ies, X, sc, fnc, W, e, env, o, h => by
    obtain ⟨oe, m, ap, as, cp, rfl, h⟩ := cMt_of h
    obtain ⟨h, h9⟩ := ands h
    obtain ⟨h, h8⟩ := ands h
    obtain ⟨h, h7⟩ := ands h
    obtain ⟨h, h6⟩ := ands h
    obtain ⟨h, h5⟩ := ands h
    obtain ⟨h, h4⟩ := ands h
    obtain ⟨h, h3⟩ := ands h
    obtain ⟨h1, h2⟩ := ands h
    obtain ⟨r1, r2, r3⟩ := o.rf (nots h9)
    obtain ⟨k, fa, fd, ps, F, hr, hm, hb⟩ := o.ms m f _ (eq_of_beq h1)
    have al := allStar_A h6
    exact .of (x_mth F hr r1 hm hb (passAt o.tk) rfl (nots h7) (nots h8) (of_decide_eq_true h5) al.2 al.1 (exp_ok a X sc fnc W oe env o h2).1 (args_ok ies X sc fnc W as env o h6) (baseOk_of h3 _ _) h4) fun _ => rfl
  | .getd a ies, X, sc, fnc, W, e, env, o, h => by
    obtain ⟨oe, m, ap, as, cp, rfl, h⟩ := cMt_of h
    obtain ⟨h, h6⟩ := ands h
    obtain ⟨h, h5⟩ := ands h
    obtain ⟨h, h4⟩ := ands h
    obtain ⟨h, h3⟩ := ands h
    obtain ⟨h1, h2⟩ := ands h
    have em := eq_of_beq h1
    subst em
    have al := allStar_A h6
    have hl := of_decide_eq_true h5
    have r := args_ok ies X sc fnc W as env o h6
    match ies, as, hl, al, r with
    | [ik, ix], [k, x], _, al, r =>
      obtain ⟨s1, s2⟩ := ands (show (notStar k && (notStar x && true)) = true from al.1)
      obtain ⟨s2, _⟩ := ands s2
      exact .of (x_get o.K o.w o.un (exp_ok a X sc fnc W oe env o h2).1 r (baseOk_of h3 _ _) h4 s1 s2) fun _ => rfl
    | [], _, hl, _, _ => exact absurd hl (by simp)
    | [_], _, hl, _, _ => exact absurd hl (by simp)
    | _ :: _ :: _ :: _, _, hl, _, _ => exact absurd hl (by simp)
    | [_, _], [], _, al, _ => exact absurd al.2 (by simp)
    | [_, _], [_], _, al, _ => exact absurd al.2 (by simp)
    | [_, _], _ :: _ :: _ :: _, _, al, _ => exact absurd al.2 (by simp)
  | .mt f a b, X, sc, fnc, W, e, env, o, h => by
    cases f with
    | join =>
      obtain ⟨oe, m, ap, as, cp, rfl, h⟩ := cMt_of h
      obtain ⟨h, h4⟩ := ands h
      obtain ⟨h, h3⟩ := ands h
      obtain ⟨h1, h2⟩ := ands h
      have em := eq_of_beq h1
      subst em
      obtain ⟨s, j, p1, rfl, rfl, hs⟩ := isCstS_of h2
      obtain ⟨y, rfl, h5⟩ := c1_of h4
      obtain ⟨h5, h6⟩ := ands h5
      exact .of (x_join hs (exp_ok b X sc fnc W y env o h6).1 (by rw [star_of h5]; rfl) h3) fun _ => rfl
    | count =>
      obtain ⟨oe, m, ap, as, cp, rfl, h⟩ := cMt_of h
      obtain ⟨h, h5⟩ := ands h
      obtain ⟨h, h4⟩ := ands h
      obtain ⟨h, h3⟩ := ands h
      obtain ⟨h1, h2⟩ := ands h
      have em := eq_of_beq h1
      subst em
      obtain ⟨y, rfl, h5⟩ := c1_of h5
      obtain ⟨h5, h6⟩ := ands h5
      exact .of (x_count o.K o.w o.un (exp_ok a X sc fnc W oe env o h2).1 (exp_ok b X sc fnc W y env o h6).1 (baseOk_of h3 _ _) h4 h5) fun _ => rfl
    | index =>
      obtain ⟨oe, m, ap, as, cp, rfl, h⟩ := cMt_of h
      obtain ⟨h, h5⟩ := ands h
      obtain ⟨h, h4⟩ := ands h
      obtain ⟨h, h3⟩ := ands h
      obtain ⟨h1, h2⟩ := ands h
      have em := eq_of_beq h1
      subst em
      obtain ⟨y, rfl, h5⟩ := c1_of h5
      obtain ⟨h5, h6⟩ := ands h5
      exact .of (x_index o.K o.w o.un (exp_ok a X sc fnc W oe env o h2).1 (exp_ok b X sc fnc W y env o h6).1 (baseOk_of h3 _ _) h4 h5) fun _ => rfl
    | _ => exact absurd h Bool.false_ne_true
  | .call f ies, X, sc, fnc, W, e, env, o, h => by
    obtain ⟨x, q, es, p, rfl, h⟩ := cCall_of h
    obtain ⟨h, h5⟩ := ands h
    obtain ⟨h, h4⟩ := ands h
    obtain ⟨h, h3⟩ := ands h
    obtain ⟨h1, h2⟩ := ands h
    obtain ⟨n1, n2, n3⟩ := nmOk_of h3
    obtain ⟨k, fa, fd, ps, F, hr, hm, hk, hb⟩ := o.fns x f _ (eq_of_beq h1)
    have al := allStar_A h5
    cases es with
    | nil => exact absurd h4 Bool.false_ne_true
    | cons e es =>
      obtain ⟨a1, a2⟩ := ands (show (notStar e && es.all notStar) = true from al.1)
      exact .of (x_call F hr (o.gl h2) hm hk hb (passAt o.tk) rfl (args_ok ies X sc fnc W (e :: es) env o h5) n1 (star_of a1 _ _) (star_plain a2)) fun _ => rfl
  | .p1 f a, X, sc, fnc, W, e, env, o, h => by
    cases f with
    | rev =>
      obtain ⟨x, y, p, rfl, h⟩ := cSub_of h
      obtain ⟨h1, h⟩ := ands h
      obtain ⟨l, u, st, p2, rfl, h⟩ := cSlice_of h
      obtain ⟨h, h4⟩ := ands h
      obtain ⟨h2, h3⟩ := ands h
      have e := cNone_of h2
      subst e
      have e := cNone_of h3
      subst e
      cases st with
      | none => exact absurd h4 Bool.false_ne_true
      | some z =>
        obtain ⟨q, y, p3, rfl, h⟩ := cUn_of h4
        obtain ⟨h5, h6⟩ := ands h
        obtain ⟨c, j, p4, rfl, h⟩ := cConst_of h6
        cases q <;> first | exact absurd h5 Bool.false_ne_true | skip
        cases c <;> first | exact absurd h Bool.false_ne_true | skip
        have e := eq_of_beq h
        subst e
        exact .of (x_rev o.K (exp_ok a X sc fnc W x env o h1).1) fun _ => rfl
    | skeys =>
      obtain ⟨x, q, es, p, rfl, h⟩ := cCall_of h
      obtain ⟨h1, h⟩ := ands h
      obtain ⟨y, rfl, h⟩ := c1_of h
      obtain ⟨oe, m, ap, as, cp, rfl, h⟩ := cMt_of h
      obtain ⟨h, h6⟩ := ands h
      obtain ⟨h, h5⟩ := ands h
      obtain ⟨h, h4⟩ := ands h
      obtain ⟨h2, h3⟩ := ands h
      have em := eq_of_beq h2
      subst em
      have ea := cNil_of h3
      subst ea
      obtain ⟨rfl, g1, g2⟩ := o.bl h1
      exact .of (x_skeys o.K o.w o.calm o.un g1 g2 (exp_ok a X sc fnc W oe env o h6).1 (baseOk_of h4 _ _) h5) fun _ => rfl
    | svals =>
      obtain ⟨x, q, es, p, rfl, h⟩ := cCall_of h
      obtain ⟨h1, h⟩ := ands h
      obtain ⟨y, rfl, h⟩ := c1_of h
      obtain ⟨oe, m, ap, as, cp, rfl, h⟩ := cMt_of h
      obtain ⟨h, h6⟩ := ands h
      obtain ⟨h, h5⟩ := ands h
      obtain ⟨h, h4⟩ := ands h
      obtain ⟨h2, h3⟩ := ands h
      have em := eq_of_beq h2
      subst em
      have ea := cNil_of h3
      subst ea
      obtain ⟨rfl, g1, g2⟩ := o.bl h1
      exact .of (x_svals o.K o.w o.calm g1 g2 (exp_ok a X sc fnc W oe env o h6).1 (baseOk_of h4 _ _) h5) fun _ => rfl
    | lvals =>
      obtain ⟨x, q, es, p, rfl, h⟩ := cCall_of h
      obtain ⟨h1, h⟩ := ands h
      obtain ⟨y, rfl, h⟩ := c1_of h
      obtain ⟨oe, m, ap, as, cp, rfl, h⟩ := cMt_of h
      obtain ⟨h, h6⟩ := ands h
      obtain ⟨h, h5⟩ := ands h
      obtain ⟨h, h4⟩ := ands h
      obtain ⟨h2, h3⟩ := ands h
      have em := eq_of_beq h2
      subst em
      have ea := cNil_of h3
      subst ea
      obtain ⟨rfl, g1, g2⟩ := o.bl h1
      exact .of (x_lvals o.K o.w o.calm g1 g2 (exp_ok a X sc fnc W oe env o h6).1 (baseOk_of h4 _ _) h5) fun _ => rfl
    | mxvals =>
      obtain ⟨x, q, es, p, rfl, h⟩ := cCall_of h
      obtain ⟨h1, h⟩ := ands h
      obtain ⟨y, rfl, h⟩ := c1_of h
      obtain ⟨oe, m, ap, as, cp, rfl, h⟩ := cMt_of h
      obtain ⟨h, h6⟩ := ands h
      obtain ⟨h, h5⟩ := ands h
      obtain ⟨h, h4⟩ := ands h
      obtain ⟨h2, h3⟩ := ands h
      have em := eq_of_beq h2
      subst em
      have ea := cNil_of h3
      subst ea
      obtain ⟨rfl, g1, g2⟩ := o.bl h1
      exact .of (x_mxvals o.K o.w o.calm o.un g1 g2 (exp_ok a X sc fnc W oe env o h6).1 (baseOk_of h4 _ _) h5) fun _ => rfl
    | sset =>
      obtain ⟨x, q, es, p, rfl, h⟩ := cCall_of h
      obtain ⟨h1, h⟩ := ands h
      obtain ⟨y, rfl, h⟩ := c1_of h
      obtain ⟨x', q', es', p', rfl, h⟩ := cCall_of h
      obtain ⟨h2, h⟩ := ands h
      obtain ⟨z, rfl, h⟩ := c1_of h
      obtain ⟨h3, h4⟩ := ands h
      obtain ⟨rfl, g1, g2⟩ := o.bl h1
      obtain ⟨rfl, g3, g4⟩ := o.bl h2
      exact .of (x_sset o.K o.calm o.un g1 g2 g3 g4 (exp_ok a X sc fnc W z env o h4).1 (star_of h3 _ _)) fun _ => rfl
    | len =>
      obtain ⟨x, q, es, p, rfl, h⟩ := cCall_of h
      obtain ⟨h1, h⟩ := ands h
      obtain ⟨y, rfl, h⟩ := c1_of h
      obtain ⟨h3, h4⟩ := ands h
      obtain ⟨rfl, g1, g2⟩ := o.bl h1
      exact .of (x_p1 o.K o.w (c_len o.un) g1 g2 bt_len (by decide) (by decide) (exp_ok a X sc fnc W y env o h4).1 (star_of h3 _ _)) fun _ => rfl
    | sorted =>
      obtain ⟨x, q, es, p, rfl, h⟩ := cCall_of h
      obtain ⟨h1, h⟩ := ands h
      obtain ⟨y, rfl, h⟩ := c1_of h
      obtain ⟨h3, h4⟩ := ands h
      obtain ⟨rfl, g1, g2⟩ := o.bl h1
      exact .of (x_p1 o.K o.w (c_sorted o.un) g1 g2 bt_sorted (by decide) (by decide) (exp_ok a X sc fnc W y env o h4).1 (star_of h3 _ _)) fun _ => rfl
    | sum =>
      obtain ⟨x, q, es, p, rfl, h⟩ := cCall_of h
      obtain ⟨h1, h⟩ := ands h
      obtain ⟨y, rfl, h⟩ := c1_of h
      obtain ⟨h3, h4⟩ := ands h
      obtain ⟨rfl, g1, g2⟩ := o.bl h1
      exact .of (x_p1 o.K o.w (c_sum o.calm) g1 g2 bt_sum (by decide) (by decide) (exp_ok a X sc fnc W y env o h4).1 (star_of h3 _ _)) fun _ => rfl
    | min =>
      obtain ⟨x, q, es, p, rfl, h⟩ := cCall_of h
      obtain ⟨h1, h⟩ := ands h
      obtain ⟨y, rfl, h⟩ := c1_of h
      obtain ⟨h3, h4⟩ := ands h
      obtain ⟨rfl, g1, g2⟩ := o.bl h1
      exact .of (x_p1 o.K o.w (c_min o.calm o.un) g1 g2 bt_min (by decide) (by decide) (exp_ok a X sc fnc W y env o h4).1 (star_of h3 _ _)) fun _ => rfl
    | max =>
      obtain ⟨x, q, es, p, rfl, h⟩ := cCall_of h
      obtain ⟨h1, h⟩ := ands h
      obtain ⟨y, rfl, h⟩ := c1_of h
      obtain ⟨h3, h4⟩ := ands h
      obtain ⟨rfl, g1, g2⟩ := o.bl h1
      exact .of (x_p1 o.K o.w (c_max o.calm o.un) g1 g2 bt_max (by decide) (by decide) (exp_ok a X sc fnc W y env o h4).1 (star_of h3 _ _)) fun _ => rfl
    | abs =>
      obtain ⟨x, q, es, p, rfl, h⟩ := cCall_of h
      obtain ⟨h1, h⟩ := ands h
      obtain ⟨y, rfl, h⟩ := c1_of h
      obtain ⟨h3, h4⟩ := ands h
      obtain ⟨rfl, g1, g2⟩ := o.bl h1
      exact .of (x_p1 o.K o.w c_abs g1 g2 bt_abs (by decide) (by decide) (exp_ok a X sc fnc W y env o h4).1 (star_of h3 _ _)) fun _ => rfl
    | tuple =>
      obtain ⟨x, q, es, p, rfl, h⟩ := cCall_of h
      obtain ⟨h1, h⟩ := ands h
      obtain ⟨y, rfl, h⟩ := c1_of h
      obtain ⟨h3, h4⟩ := ands h
      obtain ⟨rfl, g1, g2⟩ := o.bl h1
      exact .of (x_p1T o.K o.w c_tuple g1 g2 bt_tuple (by decide) (by decide) (exp_ok a X sc fnc W y env o h4).1 (star_of h3 _ _)) fun _ => rfl
    | dict =>
      obtain ⟨x, q, es, p, rfl, h⟩ := cCall_of h
      obtain ⟨h1, h⟩ := ands h
      obtain ⟨y, rfl, h⟩ := c1_of h
      obtain ⟨h3, h4⟩ := ands h
      obtain ⟨rfl, g1, g2⟩ := o.bl h1
      exact .of (x_p1T o.K o.w (c_dict o.calm o.un) g1 g2 bt_dict (by decide) (by decide) (exp_ok a X sc fnc W y env o h4).1 (star_of h3 _ _)) fun _ => rfl
    | list =>
      obtain ⟨x, q, es, p, rfl, h⟩ := cCall_of h
      obtain ⟨h1, h⟩ := ands h
      obtain ⟨y, rfl, h⟩ := c1_of h
      obtain ⟨h3, h4⟩ := ands h
      obtain ⟨rfl, g1, g2⟩ := o.bl h1
      exact .of (x_p1T o.K o.w c_list g1 g2 bt_list (by decide) (by decide) (exp_ok a X sc fnc W y env o h4).1 (star_of h3 _ _)) fun _ => rfl
    | int =>
      obtain ⟨x, q, es, p, rfl, h⟩ := cCall_of h
      obtain ⟨h1, h⟩ := ands h
      obtain ⟨y, rfl, h⟩ := c1_of h
      obtain ⟨h3, h4⟩ := ands h
      obtain ⟨rfl, g1, g2⟩ := o.bl h1
      exact .of (x_p1T o.K o.w c_int g1 g2 bt_int (by decide) (by decide) (exp_ok a X sc fnc W y env o h4).1 (star_of h3 _ _)) fun _ => rfl
    | str =>
      obtain ⟨x, q, es, p, rfl, h⟩ := cCall_of h
      obtain ⟨h1, h⟩ := ands h
      obtain ⟨y, rfl, h⟩ := c1_of h
      obtain ⟨h3, h4⟩ := ands h
      obtain ⟨rfl, g1, g2⟩ := o.bl h1
      exact .of (x_p1T o.K o.w c_str g1 g2 bt_str (by decide) (by decide) (exp_ok a X sc fnc W y env o h4).1 (star_of h3 _ _)) fun _ => rfl
  | .p2 f a b, X, sc, fnc, W, e, env, o, h => by
    cases f with
    | min =>
      obtain ⟨x, q, es, p, rfl, h⟩ := cCall_of h
      obtain ⟨h1, h⟩ := ands h
      obtain ⟨y, z, rfl, h⟩ := c2_of h
      obtain ⟨h, h5⟩ := ands h
      obtain ⟨h, h4⟩ := ands h
      obtain ⟨h2, h3⟩ := ands h
      obtain ⟨rfl, g1, g2⟩ := o.bl h1
      exact .of (x_p2 o.K o.w (c_min2 o.calm) g1 g2 bt_min (by decide) (by decide) (exp_ok a X sc fnc W y env o h4).1 (exp_ok b X sc fnc W z env o h5).1 (star_of h2 _ _) (star_of h3 _ _)) fun _ => rfl
    | max =>
      obtain ⟨x, q, es, p, rfl, h⟩ := cCall_of h
      obtain ⟨h1, h⟩ := ands h
      obtain ⟨y, z, rfl, h⟩ := c2_of h
      obtain ⟨h, h5⟩ := ands h
      obtain ⟨h, h4⟩ := ands h
      obtain ⟨h2, h3⟩ := ands h
      obtain ⟨rfl, g1, g2⟩ := o.bl h1
      exact .of (x_p2 o.K o.w (c_max2 o.calm) g1 g2 bt_max (by decide) (by decide) (exp_ok a X sc fnc W y env o h4).1 (exp_ok b X sc fnc W z env o h5).1 (star_of h2 _ _) (star_of h3 _ _)) fun _ => rfl
    | _ => exact absurd h Bool.false_ne_true
  | .lrng ies, X, sc, fnc, W, e, env, o, h => by
    obtain ⟨x, q, es, p, rfl, h⟩ := cCall_of h
    obtain ⟨h1, h⟩ := ands h
    obtain ⟨y, rfl, h⟩ := c1_of h
    obtain ⟨x', q', es', p', rfl, h⟩ := cCall_of h
    obtain ⟨h, h5⟩ := ands h
    obtain ⟨h, h4⟩ := ands h
    obtain ⟨h2, h3⟩ := ands h
    obtain ⟨rfl, g1, g2⟩ := o.bl h1
    obtain ⟨rfl, g3, g4⟩ := o.bl h2
    have l1 := of_decide_eq_true h4
    have l2 := of_decide_eq_true h5
    match ies, h3, l1, l2 with
    | [a], h3, l1, l2 => exact .of (x_lrng o.calm g1 g2 (rg_ok [a] X sc fnc W es' q' p' env o g3 g4 h3 l1 (by simp)) rfl) fun _ => rfl
    | [a, b], h3, l1, l2 => exact .of (x_lrng o.calm g1 g2 (rg_ok [a, b] X sc fnc W es' q' p' env o g3 g4 h3 l1 (by simp)) rfl) fun _ => rfl
    | [a, b, c], h3, l1, l2 =>
      have al := allStar_A h3
      have r := args_ok [a, b, c] X sc fnc W es' env o h3
      match es', al, r with
      | [e, e', e''], al, r =>
        obtain ⟨a1, a2⟩ := ands (show (notStar e && [e', e''].all notStar) = true from al.1)
        exact .of (x_lrng3 o.calm g1 g2 g3 g4 r (star_of a1 _ _) (star_plain a2)) fun _ => rfl
      | [], al, r => exact absurd al.2 (by simp)
      | [_], al, r => exact absurd al.2 (by simp)
      | [_, _], al, r => exact absurd al.2 (by simp)
      | _ :: _ :: _ :: _ :: _, al, r => exact absurd al.2 (by simp)
    | _ :: _ :: _ :: _ :: _, h3, l1, l2 => exact absurd l2 (by simp)
  | .trng ies, X, sc, fnc, W, e, env, o, h => by
    obtain ⟨x, q, es, p, rfl, h⟩ := cCall_of h
    obtain ⟨h1, h⟩ := ands h
    obtain ⟨y, rfl, h⟩ := c1_of h
    obtain ⟨x', q', es', p', rfl, h⟩ := cCall_of h
    obtain ⟨h, h5⟩ := ands h
    obtain ⟨h, h4⟩ := ands h
    obtain ⟨h2, h3⟩ := ands h
    obtain ⟨rfl, g1, g2⟩ := o.bl h1
    obtain ⟨rfl, g3, g4⟩ := o.bl h2
    exact .of (x_trng o.calm g1 g2 (rg_ok ies X sc fnc W es' q' p' env o g3 g4 h3 (of_decide_eq_true h4) (of_decide_eq_true h5)) rfl) fun _ => rfl
  | .isa a ks, X, sc, fnc, W, e, env, o, h => by
    obtain ⟨x, q, es, p, rfl, h⟩ := cCall_of h
    obtain ⟨h1, h⟩ := ands h
    obtain ⟨y, z, rfl, h⟩ := c2_of h
    obtain ⟨h, h4⟩ := ands h
    obtain ⟨h2, h3⟩ := ands h
    obtain ⟨rfl, g1, g2⟩ := o.bl h1
    match ks, h4 with
    | [k], h4 =>
      obtain ⟨n, pn, rfl, hq⟩ := cName_of h4
      obtain ⟨h5, h6⟩ := ands hq
      obtain ⟨n1, n2, n3⟩ := nmOk_of h6
      obtain ⟨e1, g3, g4⟩ := o.bl h5
      subst e1
      exact .of (x_isa1 (x := kdNm k) o.K o.w g1 g2 g3 g4 (bt_kd k) n3 n1 (exp_ok a X sc fnc W y env o h3).1 (star_of h2 _ _)) fun _ => rfl
    | [k, k'], h4 =>
      obtain ⟨zs, j, pz, rfl, hq⟩ := cTup_of h4
      obtain ⟨z1, z2, rfl, hr⟩ := c2_of hq
      obtain ⟨n, pn, rfl, hs⟩ := cName_of hr
      obtain ⟨m, pm, rfl, ht⟩ := cName_of hs
      obtain ⟨ht, h8⟩ := ands ht
      obtain ⟨ht, h7⟩ := ands ht
      obtain ⟨h5, h6⟩ := ands ht
      obtain ⟨n1, n2, n3⟩ := nmOk_of h6
      obtain ⟨m1, m2, m3⟩ := nmOk_of h8
      obtain ⟨e1, g3, g4⟩ := o.bl h5
      obtain ⟨e2, g5, g6⟩ := o.bl h7
      subst e1 e2
      exact .of (x_isa2 (x := kdNm k) o.K o.w g1 g2 g3 g4 (bt_kd k) n3 n1 g5 g6 (bt_kd k') m3 m1 (exp_ok a X sc fnc W y env o h3).1 (star_of h2 _ _)) fun _ => rfl
    | [], h4 => exact absurd h4 Bool.false_ne_true
    | _ :: _ :: _ :: _, h4 => exact absurd h4 Bool.false_ne_true
  | .lc elt pt it cond, X, sc, fnc, W, e, env, o, h => by
    obtain ⟨el, tg, iter, ifs, scope, p, rfl, h⟩ := cLC_of h
    obtain ⟨h, h6⟩ := ands h
    obtain ⟨h, h5⟩ := ands h
    obtain ⟨h, h4⟩ := ands h
    obtain ⟨h, h3⟩ := ands h
    obtain ⟨h1, h2⟩ := ands h
    refine .of (x_lc (own := ownOf' cf pt) o.calm o.nd (it_ok it X sc fnc W tg iter env o h3) (by rw [o.N, o.sc]; exact blkOk_by h1) (fun i => by rw [own_snd]) (fun s H C cl fp env' => pat_ok pt _ _ _ W0 tg env' (o.blk scope s H C cl fp) h2)
      (fun s H C cl fp env' => cnd_ok cond _ _ _ W0 ifs env' (o.blk scope s H C cl fp) h5) (fun s H C cl fp env' => (exp_ok elt _ _ _ W0 el env' (o.blk scope s H C cl fp) h6).1) (notSet_of h4 _)) fun _ => rfl
  | .fnv _, _, _, _, _, _, _, _, h => absurd h Bool.false_ne_true
  | .callv _ _, _, _, _, _, _, _, _, h => absurd h Bool.false_ne_true
  | .isx _ _, _, _, _, _, _, _, _, h => absurd h Bool.false_ne_true
  | .fld _ _, _, _, _, _, _, _, _, h => absurd h Bool.false_ne_true
theorem rg_ok : ∀ (ies : List E) (X : Cx) (sc : Scope) (fnc : Str → Bool) (W : WX) (es : List Expr) (q p : Pos) (env : Hb.Env), XOk X sc fnc cf g W → Gl X "range" → X.mg "range" = none → chkA cf ies sc es = true → 1 ≤ ies.length → ies.length ≤ 2 → PRg X (.Call (.Name "range" q) es [] p) (tRg g W H0 ies env)
  | [], X, sc, fnc, W, es, q, p, env, o, g1, g2, h, l1, l2 => absurd l1 (by decide)
  | [a], X, sc, fnc, W, es, q, p, env, o, g1, g2, h, l1, l2 => by
    have al := allStar_A h
    match es, h, al with
    | [e], h, al =>
      have h : (notStar e && chkE cf a sc e && true) = true := h
      obtain ⟨h, _⟩ := ands h
      obtain ⟨h1, h2⟩ := ands h
      exact r_1 g1 g2 (exp_ok a X sc fnc W e env o h2).1 (star_of h1 _ _)
    | [], h, al => exact absurd h Bool.false_ne_true
    | _ :: _ :: _, h, al => exact absurd al.2 (by simp)
  | [a, b], X, sc, fnc, W, es, q, p, env, o, g1, g2, h, l1, l2 => by
    have al := allStar_A h
    match es, h, al with
    | [e, e'], h, al =>
      have h : (notStar e && chkE cf a sc e && (notStar e' && chkE cf b sc e' && true)) = true := h
      obtain ⟨h, h'⟩ := ands h
      obtain ⟨h1, h2⟩ := ands h
      obtain ⟨h', _⟩ := ands h'
      obtain ⟨h3, h4⟩ := ands h'
      exact r_2 g1 g2 (exp_ok a X sc fnc W e env o h2).1 (exp_ok b X sc fnc W e' env o h4).1 (star_of h1 _ _) (star_of h3 _ _)
    | [], h, al => exact absurd al.2 (by simp)
    | [_], h, al => exact absurd al.2 (by simp)
    | _ :: _ :: _ :: _, h, al => exact absurd al.2 (by simp)
  | _ :: _ :: _ :: _, X, sc, fnc, W, es, q, p, env, o, g1, g2, h, l1, l2 => absurd l2 (by simp)
theorem opt_ok : ∀ (io : Option E) (X : Cx) (sc : Scope) (fnc : Str → Bool) (W : WX) (eo : Option Expr) (env : Hb.Env), XOk X sc fnc cf g W → chkO cf io sc eo = true → PO X eo (tO g W H0 io env)
  | none, X, sc, fnc, W, eo, env, o, h => by
    have e := cNone_of h
    subst e
    exact o_none
  | some ie, X, sc, fnc, W, eo, env, o, h => by
    cases eo with
    | none => exact absurd h Bool.false_ne_true
    | some e => exact o_some (exp_ok ie X sc fnc W e env o h).1
theorem cnd_ok : ∀ (io : Option E) (X : Cx) (sc : Scope) (fnc : Str → Bool) (W : WX) (es : List Expr) (env : Hb.Env), XOk X sc fnc cf g W → chkC cf io sc es = true → PTs X es (tCn g W H0 io env)
  | none, X, sc, fnc, W, es, env, o, h => by
    cases es with
    | nil => exact c_none
    | cons _ _ => exact absurd h Bool.false_ne_true
  | some ie, X, sc, fnc, W, es, env, o, h => by
    obtain ⟨e, rfl, h⟩ := c1_of h
    obtain ⟨h1, h2⟩ := ands h
    exact c_some ((exp_ok ie X sc fnc W e env o h1).2 h2)
theorem dct_ok : ∀ (kvs : List (E × E)) (X : Cx) (sc : Scope) (fnc : Str → Bool) (W : WX) (e : Expr) (env : Hb.Env), XOk X sc fnc cf g W → chkD cf kvs sc e = true → PE X e (tE g W H0 (.dct kvs) env)
  | [], X, sc, fnc, W, e, env, o, h => by
    obtain ⟨p, rfl⟩ := cDict0_of h
    exact x_dct0
  | p :: r, X, sc, fnc, W, e, env, o, h => by
    obtain ⟨h1, h2⟩ := ands h
    cases r with
    | nil => exact prd_ok p X sc fnc W e env o h2
    | cons _ _ => exact absurd h1 Bool.false_ne_true
theorem prd_ok : ∀ (p : E × E) (X : Cx) (sc : Scope) (fnc : Str → Bool) (W : WX) (e : Expr) (env : Hb.Env), XOk X sc fnc cf g W → chkPr cf p sc e = true → PE X e (tE g W H0 (.dct [p]) env)
  | (k, v), X, sc, fnc, W, e, env, o, h => by
    obtain ⟨a, b, p, rfl, h⟩ := cDict1_of h
    obtain ⟨h1, h2⟩ := ands h
    exact x_dct1 o.K o.w o.un (exp_ok k X sc fnc W a env o h1).1 (exp_ok v X sc fnc W b env o h2).1
theorem it_ok : ∀ (it : I) (X : Cx) (sc : Scope) (fnc : Str → Bool) (W : WX) (tg e : Expr) (env : Hb.Env), XOk X sc fnc cf g W → chkI cf it sc tg e = true → PI X tg e (tI g W H0 it env)
  | .val a, X, sc, fnc, W, tg, e, env, o, h => i_val o.K o.w (hdict X tg o.calm) (exp_ok a X sc fnc W e env o h).1
  | .rng ies, X, sc, fnc, W, tg, e, env, o, h => by
    obtain ⟨x, q, es, p, rfl, h⟩ := cCall_of h
    obtain ⟨h, h5⟩ := ands h
    obtain ⟨h, h4⟩ := ands h
    obtain ⟨h2, h3⟩ := ands h
    obtain ⟨rfl, g3, g4⟩ := o.bl h2
    have al := allStar_A h3
    have l1 := of_decide_eq_true h4
    have l2 := of_decide_eq_true h5
    have r := args_ok ies X sc fnc W es env o h3
    match ies, es, l1, l2, al, r with
    | [a], [e], _, _, al, r =>
      obtain ⟨a1, _⟩ := ands (show (notStar e && true) = true from al.1)
      exact i_rng1 g3 g4 r (star_of a1 _ _)
    | [a, b], [e, e'], _, _, al, r =>
      obtain ⟨a1, a2⟩ := ands (show (notStar e && (notStar e' && true)) = true from al.1)
      obtain ⟨a2, _⟩ := ands a2
      exact i_rng2 g3 g4 r (by rw [star_of a1, star_of a2]; rfl) (star_of a2 _ _)
    | [a, b, c], [e, e', e''], _, _, al, r =>
      obtain ⟨a1, a2⟩ := ands (show (notStar e && [e', e''].all notStar) = true from al.1)
      exact i_rng3 g3 g4 r (star_of a1 _ _) (star_plain a2)
    | [], _, l1, _, _, _ => exact absurd l1 (by decide)
    | _ :: _ :: _ :: _ :: _, _, _, l2, _, _ => exact absurd l2 (by simp)
    | [_], [], _, _, al, _ => exact absurd al.2 (by simp)
    | [_], _ :: _ :: _, _, _, al, _ => exact absurd al.2 (by simp)
    | [_, _], [], _, _, al, _ => exact absurd al.2 (by simp)
    | [_, _], [_], _, _, al, _ => exact absurd al.2 (by simp)
    | [_, _], _ :: _ :: _ :: _, _, _, al, _ => exact absurd al.2 (by simp)
    | [_, _, _], [], _, _, al, _ => exact absurd al.2 (by simp)
    | [_, _, _], [_], _, _, al, _ => exact absurd al.2 (by simp)
    | [_, _, _], [_, _], _, _, al, _ => exact absurd al.2 (by simp)
    | [_, _, _], _ :: _ :: _ :: _ :: _, _, _, al, _ => exact absurd al.2 (by simp)
  | .keys a, X, sc, fnc, W, tg, e, env, o, h => by
    obtain ⟨oe, m, ap, as, cp, rfl, h⟩ := cMt_of h
    obtain ⟨h, h6⟩ := ands h
    obtain ⟨h, h5⟩ := ands h
    obtain ⟨h, h4⟩ := ands h
    obtain ⟨h2, h3⟩ := ands h
    have em := eq_of_beq h2
    subst em
    have ea := cNil_of h3
    subst ea
    exact i_keys o.K o.w (exp_ok a X sc fnc W oe env o h6).1 (baseOk_of h4 _ _) h5
  | .vals a, X, sc, fnc, W, tg, e, env, o, h => by
    obtain ⟨oe, m, ap, as, cp, rfl, h⟩ := cMt_of h
    obtain ⟨h, h6⟩ := ands h
    obtain ⟨h, h5⟩ := ands h
    obtain ⟨h, h4⟩ := ands h
    obtain ⟨h2, h3⟩ := ands h
    have em := eq_of_beq h2
    subst em
    have ea := cNil_of h3
    subst ea
    exact i_vals o.K o.w (exp_ok a X sc fnc W oe env o h6).1 (baseOk_of h4 _ _) h5
  | .enm a, X, sc, fnc, W, tg, e, env, o, h => by
    obtain ⟨h0, h⟩ := ands h
    obtain ⟨ts, k, tp, rfl⟩ := isTupE_of h0
    obtain ⟨x, q, es, p, rfl, h⟩ := cCall_of h
    obtain ⟨h1, h⟩ := ands h
    obtain ⟨y, rfl, h⟩ := c1_of h
    obtain ⟨h3, h4⟩ := ands h
    obtain ⟨rfl, g1, g2⟩ := o.bl h1
    exact i_enm o.K o.w g1 g2 (exp_ok a X sc fnc W y env o h4).1 (star_of h3 _ _)
theorem and_ok : ∀ (ies : List E) (X : Cx) (sc : Scope) (fnc : Str → Bool) (W : WX) (e : Expr) (es : List Expr) (p : Pos) (env : Hb.Env), XOk X sc fnc cf g W → chkL cf ies sc (e :: es) = true → PE X (.BoolOp .And (e :: es) p) (tE g W H0 (.and_ ies) env) ∧ PW X (.BoolOp .And (e :: es) p) (tAndT g W H0 ies env)
  | [], X, sc, fnc, W, e, es, p, env, o, h => absurd h Bool.false_ne_true
  | ie :: ies, X, sc, fnc, W, e, es, p, env, o, h => by
    have h : (chkE cf ie sc e && tstOk ie && chkL cf ies sc es) = true := h
    obtain ⟨h, h3⟩ := ands h
    obtain ⟨h1, h2⟩ := ands h
    have r := exp_ok ie X sc fnc W e env o h1
    cases es with
    | nil =>
      cases ies with
      | nil => exact ⟨x_and1 r.1, w_and1 (r.2 h2)⟩
      | cons _ _ => exact absurd h3 Bool.false_ne_true
    | cons e' es =>
      have r2 := and_ok ies X sc fnc W e' es p env o h3
      exact ⟨x_and r.1 r2.1, w_and (r.2 h2) r2.2⟩
theorem or_ok : ∀ (ies : List E) (X : Cx) (sc : Scope) (fnc : Str → Bool) (W : WX) (e : Expr) (es : List Expr) (p : Pos) (env : Hb.Env), XOk X sc fnc cf g W → chkL cf ies sc (e :: es) = true → PE X (.BoolOp .Or (e :: es) p) (tE g W H0 (.or_ ies) env) ∧ PW X (.BoolOp .Or (e :: es) p) (tOrT g W H0 ies env)
  | [], X, sc, fnc, W, e, es, p, env, o, h => absurd h Bool.false_ne_true
  | ie :: ies, X, sc, fnc, W, e, es, p, env, o, h => by
    have h : (chkE cf ie sc e && tstOk ie && chkL cf ies sc es) = true := h
    obtain ⟨h, h3⟩ := ands h
    obtain ⟨h1, h2⟩ := ands h
    have r := exp_ok ie X sc fnc W e env o h1
    cases es with
    | nil =>
      cases ies with
      | nil => exact ⟨x_or1 r.1, w_or1 (r.2 h2)⟩
      | cons _ _ => exact absurd h3 Bool.false_ne_true
    | cons e' es =>
      have r2 := or_ok ies X sc fnc W e' es p env o h3
      exact ⟨x_or r.1 r2.1, w_or (r.2 h2) r2.2⟩
theorem args_ok : ∀ (ies : List E) (X : Cx) (sc : Scope) (fnc : Str → Bool) (W : WX) (es : List Expr) (env : Hb.Env), XOk X sc fnc cf g W → chkA cf ies sc es = true → PA X es (tAs g W H0 ies env)
  | [], X, sc, fnc, W, es, env, o, h => by
    cases es with
    | nil => exact a_nil
    | cons _ _ => exact absurd h Bool.false_ne_true
  | ie :: ies, X, sc, fnc, W, es, env, o, h => by
    cases es with
    | nil => exact absurd h Bool.false_ne_true
    | cons e es =>
      have h : (notStar e && chkE cf ie sc e && chkA cf ies sc es) = true := h
      obtain ⟨h, h3⟩ := ands h
      obtain ⟨h1, h2⟩ := ands h
      exact a_cons (exp_ok ie X sc fnc W e env o h2).1 (args_ok ies X sc fnc W es env o h3) (star_of h1 _ _)
end
end
end Hb
namespace Hb
open PySem PySem.Spec PyProof.Rows L2

/-- from the entry C0, H0 on -/
structure Reach (C0 : RC) (H0 : Hp) (B C : RC) : Prop where
  lb : B.Le C
  le : C0.Le C
  fnew : ∀ a o, C.F a = some o → C0.F a = some o ∨ H0 a = none
  rnew : ∀ a, C.G a → C0.G a ∨ H0 a = none
theorem Sim.gone {C : RC} {H0 H : Hp} {env : Hb.Env} {st : Hb.St} {σ : List (Option V)} (S : Sim C H0 H env st σ) {a : Addr} (h : H a = none) : H0 a = none := by
  cases e : H0 a with
  | none => rfl
  | some o =>
    by_cases r : C.G a
    · obtain ⟨_, u, hu⟩ := S.row.gl r
      rw [h] at hu; cases hu
    · have := S.keep a o e r
      rw [h] at this; cases this
theorem Reach.step {C0 B C C' : RC} {H0 H H' : Hp} {env : Hb.Env} {st st' : Hb.St} {σ : List (Option V)} (r : Reach C0 H0 B C) (S : Sim C H0 H env st σ) (p : Post C H C' H' st') : Reach C0 H0 B C' where
  lb := r.lb.trans p.le
  le := r.le.trans p.le
  fnew := fun a o h => (p.fnew a o h).elim (r.fnew a o) fun z => .inr (S.gone z)
  rnew := fun a h => (p.rnew a h).elim (r.rnew a) fun z => .inr (S.gone z)
theorem Sim.post {C0 B C : RC} {H0 H : Hp} {env : Hb.Env} {st : Hb.St} {σ : List (Option V)} (r : Reach C0 H0 B C) (S : Sim C H0 H env st σ) : Post C0 H0 C H st where
  le := r.le
  sub := S.sub
  fnew := r.fnew
  rnew := r.rnew
  keep := fun a o h n => S.keep a o h fun z => (r.rnew a z).elim n fun q => by rw [q] at h; cases h
  there := fun a o h => by
    cases q : H a with
    | some o' => exact ⟨o', rfl⟩
    | none => have := S.gone q; rw [this] at h; cases h
  row := S.row
section
variable (g : G) (W : WX) (C0 : RC) (H0 : Hp) (Wn : Nat)
/-- what is wanted behind a statement -/
def RN (B : RC) (D : Ends) : Hb.Env → Hb.St → Prop := fun env' st' => ∀ σ' C' H', OkC g C' → Reach C0 H0 B C' → Sim C' H0 H' env' st' σ' → D.nx σ' H'
def RR (D : Ends) : KD → Hb.St → Prop := fun kd st' => ∀ v C' H', OkC g C' → Post C0 H0 C' H' st' → kd.1 ≠ .br → RepK C' H' kd.1 v kd.2 → New H0 kd.1 v → D.rt v H'
def RS (B : RC) (D : Ends) : Fl → Hb.St → Prop := fun f st' => match f with
  | .nx env' => RN g C0 H0 B D env' st'
  | .rt kd => RR g C0 H0 D kd st'
def ZS : Nat → D → Hb.St → Prop := fun c fl st' => ∀ cv dx σ' C' H', OkC g C' → Post C0 H0 C' H' st' → g.xr C' H' c fl cv dx → W cv dx σ' H'
def tS (s : S) (env : Hb.Env) : TS := fun D σ H => ∃ B C st, OkC g C ∧ Reach C0 H0 B C ∧ Sim C H0 H env st σ ∧ OutG (exS g.Pg g.cl Wn s env st) (RS g C0 H0 B D) (ZS g W C0 H0)
def tSs (ss : List S) (env : Hb.Env) : TS := fun D σ H => ∃ B C st, OkC g C ∧ Reach C0 H0 B C ∧ Sim C H0 H env st σ ∧ OutG (exSs g.Pg g.cl Wn ss env st) (RS g C0 H0 B D) (ZS g W C0 H0)
end
section
variable {X : Cx} {g : G} {W : WX} {C0 : RC} {H0 : Hp} {Wn : Nat} {env : Hb.Env} {C : RC} {H : Hp} {σ : List (Option V)} {st : Hb.St}
theorem ZS.zg {C : RC} {H : Hp} {σ : List (Option V)} {st : Hb.St} {env : Hb.Env} {B : RC} (oc : OkC g C) (r : Reach C0 H0 B C) (S : Sim C H0 H env st σ) {c : Nat} {fl : D} {st' : Hb.St} (z : ZS g W C0 H0 c fl st') : ZG g.xr W C H σ c fl st' :=
  fun cv dx C' H' p x => z cv dx σ C' H' (oc.step p.le) ((S.post r).trans p) x
/-- an expression within a statement -/
theorem OutG.ex {α β : Type} {m : M α} {f : α → M β} {R : β → Hb.St → Prop} {R1 : α → Hb.St → Prop} {B : RC} (oc : OkC g C) (r : Reach C0 H0 B C) (S : Sim C H0 H env st σ) (h : OutG ((m >>= f) st) R (ZS g W C0 H0)) (hi : ∀ a st1, OutG (f a st1) R (ZS g W C0 H0) → R1 a st1) : OutG (m st) R1 (ZG g.xr W C H σ) :=
  h.bind.imp hi fun _ _ _ z => ZS.zg oc r S z
/-- a fresh object, stored at a name that keeps it -/
theorem Sim.own' (S : Sim C H0 H env st σ) {i : Nat} {v : V} {d : D} (r : RepK C H .fr v d) (n : ∀ a, v = .ref a → ∀ j d', env[j]? = some (some (true, d')) → σ[j]? = some (some (.ref a)) → j = i) (n0 : ∀ a, v = .ref a → H0 a = none) (hi : i < env.length) : Sim C H0 H (env.set i (some (true, d))) st (σ.set i (some v)) := by
  have hl : i < σ.length := by rw [← S.len]; exact hi
  obtain ⟨a, rfl, nF, nr, q⟩ := r
  refine ⟨S.sub, by rw [List.length_set, List.length_set, S.len], fun j e h => ?_, fun j e h => ?_, fun j k b e e' h h' z z' => ?_, S.row, S.keep⟩
  · by_cases q : i = j
    · subst q
      rw [List.getElem?_set_self hi] at h
      cases h
    · rw [List.getElem?_set_ne q] at h
      rw [List.getElem?_set_ne q]
      exact S.cell j e h
  · by_cases p : i = j
    · subst p
      rw [List.getElem?_set_self hi] at h
      cases h
      exact ⟨a, List.getElem?_set_self hl, nF, nr, n0 a rfl, q⟩
    · rw [List.getElem?_set_ne p] at h
      rw [List.getElem?_set_ne p]
      exact S.own j e h
  · by_cases p : i = j
    · by_cases p' : i = k
      · exact p.symm.trans p'
      · rw [List.getElem?_set_ne p'] at h' z'
        subst p
        rw [List.getElem?_set_self hl] at z
        cases z
        exact (n _ rfl k e' h' z').symm
    · rw [List.getElem?_set_ne p] at h z
      by_cases p' : i = k
      · subst p'
        rw [List.getElem?_set_self hl] at z'
        cases z'
        exact n _ rfl j e h z
      · rw [List.getElem?_set_ne p'] at h' z'
        exact S.apart j k b e e' h h' z z'
/-- a new object, behind a step -/
theorem Sim.fresh {C' : RC} {H' : Hp} {st' : Hb.St} (S : Sim C H0 H env st σ) (p : Post C H C' H' st') {i : Nat} {v : V} {d : D} (r : RepK C' H' .fr v d) (n : New H .fr v) (hi : i < env.length) : Sim C' H0 H' (env.set i (some (true, d))) st' (σ.set i (some v)) :=
  (S.step p).own' r (fun a e j d' h z => by
    obtain ⟨a', e1, _, _, _, q⟩ := S.own j d' h
    rw [z] at e1
    cases e1
    obtain ⟨o, ho⟩ := q.there
    rw [n a e] at ho; cases ho) (fun a e => S.gone (n a e)) hi

/-! ### small statements -/
theorem s_nil : PSs X [] (tSs g W C0 H0 Wn [] env) := PSs.imp pss_nil fun D σ H ⟨B, C, st, oc, r, S, o⟩ => o σ C H oc r S
theorem s_pass {pos : Pos} : PS X (.Pass pos) (tS g W C0 H0 Wn .pass env) := PS.imp ps_pass fun D σ H ⟨B, C, st, oc, r, S, o⟩ => o σ C H oc r S
theorem PSs.ex {st : List Stmt} {α : Type} {t : α → TS} (h : ∀ a, PSs X st (t a)) : PSs X st (fun D σ H => ∃ a, t a D σ H) := ⟨fun pins s σ H D I ⟨a, w⟩ => (h a).run pins s σ H D I w⟩
theorem s_cons {s : Stmt} {ss : List Stmt} {is : S} {iss : List S} (h1 : PS X s (tS g W C0 H0 Wn is env)) (h2 : ∀ env', PSs X ss (tSs g W C0 H0 Wn iss env')) : PSs X (s :: ss) (tSs g W C0 H0 Wn (is :: iss) env) := by
  refine PSs.imp (pss_cons h1 (PSs.ex h2)) fun D σ H ⟨B, C, st, oc, r, S, o⟩ => ⟨B, C, st, oc, r, S, (OutG.bind o).imp (fun f st1 q => ?_) fun _ _ _ z => z⟩
  cases f with
  | nx env' => exact fun σ' C' H' oc' r' S' => ⟨env', B, C', st1, oc', r', S', q⟩
  | rt v => exact q
theorem s_ex {e : Expr} {ie : E} {pos : Pos} (he : PE X e (tE g W H0 ie env)) (hs : swapsWith e none pos.line X.env = pure false) : PS X (.Expr e pos) (tS g W C0 H0 Wn (.ex ie) env) := by
  refine PS.imp (ps_expr he hs) fun D σ H ⟨B, C, st, oc, r, S, o⟩ => ⟨C, st, oc, S, OutG.ex oc r S o fun kd st1 q v C1 H1 p rk n => ?_⟩
  exact (show RN g C0 H0 B D env st1 from q) σ C1 H1 (oc.step p.le) (r.step S p) (S.step p)
/-- what is returned -/
def tR (g : G) (W : WX) (C0 : RC) (H0 : Hp) (ie : E) (env : Hb.Env) : TE := fun σ H Q => ∃ B C st, OkC g C ∧ Reach C0 H0 B C ∧ Sim C H0 H env st σ ∧ OutG (evR g.Pg g.cl ie env st) (fun kd st' => ∀ v C' H', OkC g C' → Post C0 H0 C' H' st' → kd.1 ≠ .br → RepK C' H' kd.1 v kd.2 → New H0 kd.1 v → Q v H') (ZG g.xr W C H σ)
theorem r_var {i : Nat} {x : Str} {pos : Pos} (hN : X.N[i]? = some x) (hv : Vis X.env.scope x) (hd : (x == ("__debug__" : Str)) = false) (hcd : (x == ("__classdict__" : Str)) = false) : PE X (.Name x pos) (tR g W C0 H0 (.var i) env) := by
  refine PE.imp (pe_var hN hv hd hcd) fun σ H Q ⟨B, C, st, oc, rr, S, o⟩ => ?_
  have o : OutG ((match env[i]? with
    | some (some (true, d)) => pure (.fr, d)
    | some (some (false, d)) => pure (.sh, d)
    | _ => bad : M KD) st) _ (ZG g.xr W C H σ) := o
  cases q : env[i]? with
  | none => rw [q] at o; exact (show False from o).elim
  | some cl =>
    cases cl with
    | none => rw [q] at o; exact (show False from o).elim
    | some p =>
      obtain ⟨w, d⟩ := p
      rw [q] at o
      cases w with
      | true =>
        obtain ⟨ad, e1, n, m, z, r⟩ := S.own i d q
        exact ⟨_, e1, o _ C H oc (S.post rr) (fun z => nomatch z) ⟨ad, rfl, n, m, r⟩ fun a e => by cases e; exact z⟩
      | false =>
        obtain ⟨v, e1, r⟩ := S.cell i d q
        exact ⟨v, e1, o v C H oc (S.post rr) (fun z => nomatch z) r trivial⟩
theorem r_val {e : Expr} {ie : E} (hv : ∀ env : Hb.Env, evR g.Pg g.cl ie env = (do let x ← evE g.Pg g.cl ie env; notBr x.1; pure x)) (he : PE X e (tE g W H0 ie env)) : PE X e (tR g W C0 H0 ie env) := by
  refine PE.imp he fun σ H Q ⟨B, C, st, oc, rr, S, o⟩ => ⟨C, st, oc, S, ?_⟩
  rw [hv] at o
  refine (OutG.bind o).imp (fun kd st1 q v C1 H1 p rk n => ?_) fun _ _ _ z => z
  obtain ⟨k, d⟩ := kd
  cases k with
  | br => exact (show False from OutG.bind q).elim
  | sh => exact q v C1 H1 (oc.step p.le) ((S.post rr).trans p) (fun z => nomatch z) rk trivial
  | fr => exact q v C1 H1 (oc.step p.le) ((S.post rr).trans p) (fun z => nomatch z) rk fun a e => S.gone (n a e)
theorem r_ite {c a b : Expr} {ic ia ib : E} {pos : Pos} (hc : PT X c (tT g W H0 ic env)) (ha : PE X a (tR g W C0 H0 ia env)) (hb : PE X b (tR g W C0 H0 ib env)) : PE X (.IfExp c a b pos) (tR g W C0 H0 (.ite ic ia ib) env) := by
  refine PE.imp (pe_ifExp hc ha hb) fun σ H Q ⟨B, C, st, oc, rr, S, o⟩ => ?_
  refine ⟨C, st, oc, S, OutG.bind' ((OutG.bind o).imp (fun kd st1 q => (OutG.bind q).imp (fun k st2 q C1 H1 p => ?_) fun _ _ _ z => z) fun _ _ _ z => z)⟩
  cases k with
  | true =>
    rw [if_pos rfl]
    exact ⟨B, C1, st2, oc.step p.le, rr.step S p, S.step p, OutG.z q fun _ _ _ z => z.shift p⟩
  | false =>
    rw [if_neg Bool.false_ne_true]
    exact ⟨B, C1, st2, oc.step p.le, rr.step S p, S.step p, OutG.z q fun _ _ _ z => z.shift p⟩
theorem s_ret {e : Expr} {ie : E} {pos : Pos} (he : PE X e (tR g W C0 H0 ie env)) : PS X (.Return (some e) pos) (tS g W C0 H0 Wn (.ret ie) env) := by
  refine PS.imp (ps_ret he) fun D σ H ⟨B, C, st, oc, r, S, o⟩ => ⟨B, C, st, oc, r, S, OutG.ex oc r S o fun kd st1 q => ?_⟩
  exact (show RR g C0 H0 D kd st1 from q)
theorem s_retN {pos : Pos} : PS X (.Return none pos) (tS g W C0 H0 Wn (.ret (.cst .non)) env) :=
  PS.imp ps_retN fun D σ H ⟨B, C, st, oc, r, S, o⟩ => (show RR g C0 H0 D (.sh, .non) st from o) .non C H oc (S.post r) (fun z => nomatch z) .non trivial
theorem s_if {c : Expr} {ic : E} {a b : List Stmt} {ia ib : List S} {pos : Pos} (hc : PT X c (tT g W H0 ic env)) (ha : PSs X a (tSs g W C0 H0 Wn ia env)) (hb : PSs X b (tSs g W C0 H0 Wn ib env)) : PS X (.If c a b pos) (tS g W C0 H0 Wn (.if_ ic ia ib) env) := by
  refine PS.imp (ps_if hc ha hb) fun D σ H ⟨B, C, st, oc, r, S, o⟩ => ⟨C, st, oc, S, ?_⟩
  refine OutG.bind' (OutG.ex oc r S o fun kd st1 q => ?_)
  refine (OutG.bind q).imp (fun k st2 q C1 H1 p => ?_) fun _ _ _ z => ZS.zg oc r S z
  cases k with
  | true =>
    rw [if_pos rfl]
    exact ⟨B, C1, st2, oc.step p.le, r.step S p, S.step p, q⟩
  | false =>
    rw [if_neg Bool.false_ne_true]
    exact ⟨B, C1, st2, oc.step p.le, r.step S p, S.step p, q⟩
end
end Hb
namespace Hb
open PySem PySem.Spec PyProof.Rows L2

/-- a new list is sealed, the heap as it is -/
theorem seal_lst {H H' : Hp} {C C' : RC} {st : Hb.St} {v : V} {ds : List D} (p : Post C H C' H' st) (r : RepK C' H' .fr v (.lst ds)) (n : New H .fr v) : ∃ C'', Post C H C'' H' st ∧ Rep C'' v (.lst ds) := by
  obtain ⟨a, rfl, nF, nr, xs, e, ra⟩ := r
  have na := n a rfl
  have L : C'.Le { C' with F := upd C'.F a (.lst xs) } := ⟨rfl, rfl, rfl, fun b o h => by show upd C'.F a (.lst xs) b = some o; rw [upd_ne (ne_of_none h nF)]; exact h, fun _ _ h => h⟩
  refine ⟨{ C' with F := upd C'.F a (.lst xs) }, ⟨p.le.trans L, fun b o h => ?_, fun b o h => ?_, p.rnew, p.keep, p.there, ?_⟩, .lst upd_same (RepAll.mono L _ _ ra)⟩
  · have h : upd C'.F a (.lst xs) b = some o := h
    by_cases hb : b = a
    · subst hb; rw [upd_same] at h; cases h; exact e
    · rw [upd_ne hb] at h; exact p.sub b o h
  · have h : upd C'.F a (.lst xs) b = some o := h
    by_cases hb : b = a
    · right; rw [hb]; exact na
    · rw [upd_ne hb] at h; exact p.fnew b o h
  · refine p.row.at L rfl (fun b h => ?_) fun b h => rfl
    show upd C'.F a (.lst xs) b = none
    by_cases hb : b = a
    · exact absurd (hb ▸ h) nr
    · rw [upd_ne hb]
      exact (p.row.gl h).1
def notComp : Expr → Bool
  | .ListComp _ _ _ _ => false
  | .SetComp _ _ _ _ => false
  | .DictComp _ _ _ _ _ => false
  | _ => true
theorem sw_no {e : Expr} (h : notComp e = true) (t : Option Expr) (l : Nat) (env : PySem.Env) : swapsWith e t l env = pure false := by
  cases e <;> first | rfl | exact absurd h Bool.false_ne_true
theorem sws_no {e tg : Expr} (h : notComp e = true) (l : Nat) (env : PySem.Env) : swapsWithSole [tg] e l env = pure false := sw_no h _ _ _
def notTup : Expr → Bool
  | .Tuple _ _ _ => false
  | _ => true
def notSeqT : Expr → Bool
  | .Tuple _ _ _ => false
  | .List _ _ => false
  | _ => true
theorem sst_no {e : Expr} (h : notTup e = true) (t : Expr) (env : PySem.Env) : swappedStores [t] e env = pure none := by
  cases t <;> cases e <;> first | rfl | exact absurd h Bool.false_ne_true
theorem sst_name {t e : Expr} (h : notSeqT t = true) (env : PySem.Env) : swappedStores [t] e env = pure none := by
  cases t <;> cases e <;> first | rfl | exact absurd h Bool.false_ne_true
theorem as_one {t : Expr} (h : notStar t = true) (env : PySem.Env) : (assignEach [t] env).map (·.2) = [assign t env] := by
  cases t <;> first | rfl | exact absurd h Bool.false_ne_true
section
variable {X : Cx} {g : G} {W : WX} {C0 : RC} {H0 : Hp} {Wn : Nat} {env : Hb.Env} {e tg : Expr} {ie : E} {pos : Pos} {p : Pat}
theorem s_asgP (he : PE X e (tE g W H0 ie env)) (hg : PG X tg (gPat g H0 p env)) (hs : swapsWithSole [tg] e pos.line X.env = pure false) (hw : swappedStores [tg] e X.env = pure none) (h1 : (assignEach [tg] X.env).map (·.2) = [assign tg X.env]) :
    PS X (.Assign [tg] e pos) (tS g W C0 H0 Wn (.asg (.pat p) ie) env) := by
  refine PS.imp (ps_asg (PE.seal he) hg hs hw h1) fun D σ H ⟨B, C, st, oc, r, S, o⟩ => ⟨C, st, oc, S, ?_⟩
  refine OutG.bind' (OutG.ex oc r S o fun kd st1 q => ?_)
  have q := OutG.bind (OutG.bind q)
  refine q.imp (fun d st2 q v C1 H1 p1 rv => ?_) fun _ _ _ z => ZS.zg oc r S z
  obtain ⟨env', e1, q⟩ := OutG.need q
  exact ⟨C1, st2, d, env', oc.step p1.le, S.step p1, rv, e1, fun σ' S' _ => (show RN g C0 H0 B D env' st2 from q) σ' C1 H1 (oc.step p1.le) (r.step S p1) S'⟩
theorem s_asgO {i : Nat} {x : Str} {pos' : Pos} (hN : X.N.Nodup) (hi : X.N[i]? = some x) (hx : Loc X.env.scope x) (hf : X.fn x = true ∨ X.env.scope.names.lookup x = some .local) (he : PE X e (tE g W H0 ie env)) (hs : swapsWith e (some (.Name x pos')) pos.line X.env = pure false) :
    PS X (.Assign [.Name x pos'] e pos) (tS g W C0 H0 Wn (.asg (.own i) ie) env) := by
  refine PS.imp (ps_set hN hi hx he hs hf) fun D σ H ⟨B, C, st, oc, r, S, o⟩ => ⟨C, st, oc, S, OutG.ex oc r S o fun kd st1 q v C1 H1 p rk n => ?_⟩
  obtain ⟨ow, e1, q⟩ := OutG.needB (OutG.bind q)
  obtain ⟨gi, q⟩ := OutG.guardB q
  have gi := of_decide_eq_true gi
  obtain ⟨k, d⟩ := kd
  cases k with
  | sh =>
    cases e1
    exact (show RN g C0 H0 B D _ st1 from q) _ C1 H1 (oc.step p.le) (r.step S p) ((S.step p).put rk gi)
  | fr =>
    cases e1
    exact (show RN g C0 H0 B D _ st1 from q) _ C1 H1 (oc.step p.le) (r.step S p) (S.fresh p rk n gi)
  | br => cases e1
section
variable {iter elt : Expr} {ielt : E} {it : I} {pt : Pat} {cond : Option E} {ifs : List Expr} {scope : Scope} {own : List (Str × Nat)} {i : Nat} {y : Str} {py : Pos} {spos : Pos}
theorem s_lcO (hc : X.calm = true) (hN : X.N.Nodup) (hy : X.N[i]? = some y) (hyl : X.env.scope.names.lookup y = some .local) (hsw : swapsWith (.ListComp elt [⟨tg, iter, ifs, 0⟩] scope pos) (some (.Name y py)) spos.line X.env = pure true)
    (hi : PI X tg iter (tI g W H0 it env)) (ok : BlkOk X.N X.env.scope scope own) (hv : ∀ i, i ∈ pt.slots ↔ i ∈ own.map (·.2))
    (hg : ∀ (s : Shared) (H : Hp) (C : Addr) (cl : List (Str × Addr)) (fp : List Addr) (env' : Hb.Env), PG (X.blk s H scope (compEnvC scope cl C X.env) fp) tg (gPat g H0 pt env'))
    (ht : ∀ (s : Shared) (H : Hp) (C : Addr) (cl : List (Str × Addr)) (fp : List Addr) (env' : Hb.Env), PTs (X.blk s H scope (compEnvC scope cl C X.env) fp) ifs (tCn g W0 H0 cond env'))
    (he : ∀ (s : Shared) (H : Hp) (C : Addr) (cl : List (Str × Addr)) (fp : List Addr) (env' : Hb.Env), PE (X.blk s H scope (compEnvC scope cl C X.env) fp) elt (tE g W0 H0 ielt env'))
    (hs : ∀ x, foldedSetIterable iter X.env x = pure x) : PS X (.Assign [.Name y py] (.ListComp elt [⟨tg, iter, ifs, 0⟩] scope pos) spos) (tS g W C0 H0 Wn (.asg (.own i) (.lc ielt pt it cond)) env) := by
  refine PS.imp (ps_setLc hc hN hy hyl hsw hi ok (fun s H C cl fp => PG.ex fun env' => hg s H C cl fp env') (fun s H C cl fp => PTs.ex fun env' => ht s H C cl fp env') (fun s H C cl fp => PE.ex fun env' => PE.seal (he s H C cl fp env')) hs) fun D σ H ⟨B, C, st, oc, r, S, o⟩ => ?_
  refine lc_imp hv ⟨C, st, oc, S, OutG.ex oc r S o fun kd st1 q v C1 H1 p rk n => ?_⟩
  obtain ⟨ow, e1, q⟩ := OutG.needB (OutG.bind q)
  obtain ⟨gi, q⟩ := OutG.guardB q
  have gi := of_decide_eq_true gi
  obtain ⟨k, d⟩ := kd
  cases k with
  | sh =>
    cases e1
    exact (show RN g C0 H0 B D _ st1 from q) _ C1 H1 (oc.step p.le) (r.step S p) ((S.step p).put rk gi)
  | fr =>
    cases e1
    exact (show RN g C0 H0 B D _ st1 from q) _ C1 H1 (oc.step p.le) (r.step S p) (S.fresh p rk n gi)
  | br => cases e1
theorem s_lcP (hc : X.calm = true) (hN : X.N.Nodup) (hy : X.N[i]? = some y) (hyl : X.env.scope.names.lookup y = some .local) (hsw : swapsWith (.ListComp elt [⟨tg, iter, ifs, 0⟩] scope pos) (some (.Name y py)) spos.line X.env = pure true)
    (hi : PI X tg iter (tI g W H0 it env)) (ok : BlkOk X.N X.env.scope scope own) (hv : ∀ i, i ∈ pt.slots ↔ i ∈ own.map (·.2))
    (hg : ∀ (s : Shared) (H : Hp) (C : Addr) (cl : List (Str × Addr)) (fp : List Addr) (env' : Hb.Env), PG (X.blk s H scope (compEnvC scope cl C X.env) fp) tg (gPat g H0 pt env'))
    (ht : ∀ (s : Shared) (H : Hp) (C : Addr) (cl : List (Str × Addr)) (fp : List Addr) (env' : Hb.Env), PTs (X.blk s H scope (compEnvC scope cl C X.env) fp) ifs (tCn g W0 H0 cond env'))
    (he : ∀ (s : Shared) (H : Hp) (C : Addr) (cl : List (Str × Addr)) (fp : List Addr) (env' : Hb.Env), PE (X.blk s H scope (compEnvC scope cl C X.env) fp) elt (tE g W0 H0 ielt env'))
    (hs : ∀ x, foldedSetIterable iter X.env x = pure x) : PS X (.Assign [.Name y py] (.ListComp elt [⟨tg, iter, ifs, 0⟩] scope pos) spos) (tS g W C0 H0 Wn (.asg (.pat (.nm i)) (.lc ielt pt it cond)) env) := by
  refine PS.imp (ps_setLc hc hN hy hyl hsw hi ok (fun s H C cl fp => PG.ex fun env' => hg s H C cl fp env') (fun s H C cl fp => PTs.ex fun env' => ht s H C cl fp env') (fun s H C cl fp => PE.ex fun env' => PE.seal (he s H C cl fp env')) hs) fun D σ H ⟨B, C, st, oc, r, S, o⟩ => ?_
  have o2 : OutG (evE g.Pg g.cl (.lc ielt pt it cond) env st) (fun kd st1 => (∃ ys, kd = (.fr, .lst ys)) ∧ OutG ((do let env' ← storeVal g.Pg g.cl env (.pat (.nm i)) kd; pure (Fl.nx env') : M Fl) st1) (RS g C0 H0 B D) (ZS g W C0 H0)) (ZG g.xr W C H σ) := by
    refine OutG.bind' ((OutG.bind (OutG.ex oc r S o fun kd st1 q => q)).imp (fun a st1 q => ?_) fun _ _ _ z => z)
    exact OutG.bind' ((OutG.bind q).imp (fun ys st2 q => ⟨⟨ys, rfl⟩, q⟩) fun _ _ _ z => z)
  refine lc_imp hv ⟨C, st, oc, S, o2.imp (fun kd st1 ⟨⟨ys, ek⟩, q⟩ v C1 H1 p rk n => ?_) fun _ _ _ z => z⟩
  subst ek
  obtain ⟨C2, p2, r2⟩ := seal_lst p rk n
  have q := OutG.bind q
  have q : OutG (need (setPat (.nm i) (.lst ys) env) st1) _ _ := q
  obtain ⟨env', e1, q⟩ := OutG.need q
  have e1 : (if i < env.length then some (env.set i (some (false, Hb.D.lst ys))) else none) = some env' := e1
  split at e1
  · rename_i gi
    cases e1
    exact (show RN g C0 H0 B D _ st1 from q) _ C2 H1 (oc.step p2.le) (r.step S p2) ((S.step p2).put r2 gi)
  · cases e1
end
end
end Hb
namespace Hb
open PySem PySem.Spec PyProof.Rows L2

section
variable {X : Cx} {g : G} {W : WX} {C0 : RC} {H0 : Hp} {Wn : Nat} {env : Hb.Env} {C : RC} {H : Hp} {σ : List (Option V)} {st : Hb.St} {pos : Pos}
/-- an own object was written -/
theorem Sim.mut (S : Sim C H0 H env st σ) {i : Nat} {a : Addr} {d d' : D} {o : HO} (e : env[i]? = some (some (true, d))) (es : σ[i]? = some (some (.ref a))) (q : ObjR C (upd H a o) a d') : Sim C H0 (upd H a o) (env.set i (some (true, d'))) st σ := by
  obtain ⟨a', e1, nF, nr, n0, q0⟩ := S.own i d e
  rw [es] at e1
  cases e1
  have hi : i < env.length := (List.getElem?_eq_some_iff.mp e).1
  refine ⟨fun b u h => ?_, by rw [List.length_set, S.len], fun j d1 h => ?_, fun j d1 h => ?_, fun j k b d1 d2 h h' z z' => ?_, ?_, fun b u h n => ?_⟩
  · rw [upd_ne fun z => by rw [z, nF] at h; cases h]
    exact S.sub b u h
  · by_cases p : i = j
    · subst p; rw [List.getElem?_set_self hi] at h; cases h
    · rw [List.getElem?_set_ne p] at h
      exact S.cell j d1 h
  · by_cases p : i = j
    · subst p
      rw [List.getElem?_set_self hi] at h
      cases h
      exact ⟨a, es, nF, nr, n0, q⟩
    · rw [List.getElem?_set_ne p] at h
      obtain ⟨b, f1, f2, f3, f4, f5⟩ := S.own j d1 h
      refine ⟨b, f1, f2, f3, f4, f5.mono (.refl C) fun u hu => ?_⟩
      rw [upd_ne fun z => p (S.apart i j a d d1 e h es (by rw [f1, z]))]
      exact hu
  · have old : ∀ j d1, (env.set i (some (true, d')))[j]? = some (some (true, d1)) → ∃ d2, env[j]? = some (some (true, d2)) := fun j d1 h => by
      by_cases p : i = j
      · subst p; exact ⟨d, e⟩
      · rw [List.getElem?_set_ne p] at h; exact ⟨d1, h⟩
    obtain ⟨x, hx⟩ := old j d1 h
    obtain ⟨y, hy⟩ := old k d2 h'
    exact S.apart j k b x y hx hy z z'
  · exact S.row.at (.refl C) rfl (fun b h => (S.row.gl h).1) fun b h => upd_ne fun z => nr (z ▸ h)
  · rw [upd_ne fun z => by rw [z, n0] at h; cases h]
    exact S.keep b u h n
/-- the row was written -/
theorem Sim.rowSet (S : Sim C H0 H env st σ) {ra : Addr} {r : List D} {xs : List V} {j : Nat} {v : V} {d : D} (er : st.row = some r) (ea : C.gl .row = some ra) (hx : H ra = some (.lst xs)) (hr : RepAll C xs r) (rv : Rep C v d) : Sim C H0 (upd H ra (.lst (xs.set j v))) env { st with row := some (r.set j d) } σ := by
  have nF : C.F ra = none := (S.row.gl ⟨_, ea⟩).1
  refine ⟨fun b u h => ?_, S.len, S.cell, fun j d1 h => ?_, S.apart, ⟨?_, ?_, S.row.rdUpd (fun n => S.row.apartR ea) rfl, S.row.inj⟩, fun b u h n => ?_⟩
  · rw [upd_ne fun z => by rw [z, nF] at h; cases h]
    exact S.sub b u h
  · obtain ⟨b, f1, f2, f3, f4, f5⟩ := S.own j d1 h
    refine ⟨b, f1, f2, f3, f4, f5.mono (.refl C) fun u hu => ?_⟩
    rw [upd_ne fun z => f3 ⟨_, by rw [z]; exact ea⟩]
    exact hu
  · exact ⟨ra, xs.set j v, ea, nF, upd_same, hr.set rv j⟩
  · have m := S.row.mem
    have ap := S.row.apart ea
    unfold MemP at m ⊢
    cases q : st.memo with
    | none => rw [q] at m; exact m
    | some l =>
      rw [q] at m
      obtain ⟨a, h1, h2, h3⟩ := m
      exact ⟨a, h1, h2, h3.mono (.refl C) fun u hu => by
        rw [upd_ne fun z => ap (by rw [← z]; exact h1)]; exact hu⟩
  · rw [upd_ne fun z => n ⟨_, by rw [z]; exact ea⟩]
    exact S.keep b u h n
/-- the memo was written -/
theorem Sim.memSet (S : Sim C H0 H env st σ) {ra : Addr} {r' : List (D × D)} {es' : List En} (ea : C.gl .mm = some ra) (hr : RepEnts C es' r') (hd : DOk ra r') : Sim C H0 (upd H ra (.ext (DP ra es'))) env { st with memo := some r' } σ := by
  have nF : C.F ra = none := (S.row.gl ⟨_, ea⟩).1
  refine ⟨fun b u h => ?_, S.len, S.cell, fun j d1 h => ?_, S.apart, ⟨?_, ?_, S.row.rdUpd (fun n => S.row.apartM ea) rfl, S.row.inj⟩, fun b u h n => ?_⟩
  · rw [upd_ne fun z => by rw [z, nF] at h; cases h]
    exact S.sub b u h
  · obtain ⟨b, f1, f2, f3, f4, f5⟩ := S.own j d1 h
    refine ⟨b, f1, f2, f3, f4, f5.mono (.refl C) fun u hu => ?_⟩
    rw [upd_ne fun z => f3 ⟨_, by rw [z]; exact ea⟩]
    exact hu
  · have m := S.row.row
    unfold RowP at m ⊢
    cases q : st.row with
    | none => rw [q] at m; exact m
    | some l =>
      rw [q] at m
      obtain ⟨a, xs, h1, h2, h3, h4⟩ := m
      exact ⟨a, xs, h1, h2, by rw [upd_ne fun z => S.row.apart h1 (by rw [z]; exact ea)]; exact h3, h4⟩
  · exact ⟨ra, ea, nF, es', upd_same, hr, hd⟩
  · rw [upd_ne fun z => n ⟨_, by rw [z]; exact ea⟩]
    exact S.keep b u h n

/-! ### a[k] = v -/
/-- o[i] = v, by what o is -/
def rSetD (X : Cx) : TSet := fun o i v H Q => ∃ (C : RC) (st : Hb.St) (d : D) (ki : Hb.K) (dk dv : D), OpC X C H st ∧ RepK C H ki i dk ∧ Rep C v dv ∧
  ((∃ (a : Addr) (xs : List V) (k : Int) (j : Nat), o = .ref a ∧ H a = some (.lst xs) ∧ dk = .int k ∧ seqIx k xs.length = some j ∧ Q (upd H a (.lst (xs.set j v)))) ∨
   (∃ (a : Addr) (es : List En) (kvs : List (D × D)), o = .ref a ∧ H a = some (.ext (DP a es)) ∧ RepEnts C es kvs ∧ DOk a kvs ∧ kOk kvs dk = true ∧ kvs.length < sizeLine ∧
      ∀ es', RepEnts C es' (dput kvs dk dv) → DOk a (dput kvs dk dv) → Q (upd H a (.ext (DP a es')))))
theorem set_D (hu : X.A.units + 100 < cLine) : PSet X (rSetD X) := by
  intro pins s σ H o i v ov iv u Q I ro ri rv h
  obtain ⟨C, st, d, ki, dk, dv, oc, rk, rd, h⟩ := h
  rcases h with ⟨a, xs, k, j, rfl, ha, rfl, hj, q⟩ | ⟨a, es, kvs, rfl, ha, re, dok, ko, hl, q⟩
  · rw [repK_int rk] at ri
    exact set_list pins s σ H _ _ _ ov iv u Q I ro ri rv ⟨a, xs, k, j, rfl, rfl, ha, hj, q⟩
  · cases ro
    refine hd_setItem (by omega) I oc.K oc.w oc.sub ha ⟨ext_of (I.hok a _ ha), re, dok⟩ ko (repK_key rk (kOk_key ko)) ri rd rv hl fun s' es' I' r' k' => ⟨_, I', q es' r' k'⟩
variable {e o ke : Expr} {ie ike : E} {x : Nat}
theorem sws_sub {a b e : Expr} {p2 : Pos} (l : Nat) (env : PySem.Env) : swapsWithSole [.Subscript a b p2] e l env = pure false := by
  cases e <;> rfl
theorem s_sub (hK : X.K = g.K) (hw : X.w = g.w) (hu : X.A.units + 100 < cLine) {nm : Str} {p p2 : Pos} (hN : X.N[x]? = some nm) (hv : Vis X.env.scope nm) (hd : (nm == ("__debug__" : Str)) = false) (hcd : (nm == ("__classdict__" : Str)) = false)
    (he : PE X e (tE g W H0 ie env)) (hk : PE X ke (tE g W H0 ike env)) (hns : notSlice ke = true) :
    PS X (.Assign [.Subscript (.Name nm p) ke p2] e pos) (tS g W C0 H0 Wn (.asg (.sub x ike) ie) env) := by
  have ha : ∀ v, assign (.Subscript (.Name nm p) ke p2) X.env v = (do
      let ov ← holding [v] (eval (.Name nm p) X.env)
      let iv ← holding [v, ov] (eval ke X.env)
      standAt p2
      holding [v, ov, iv] (setItem ov iv v)
      release [v, ov, iv] []) := by
    intro v
    cases ke <;> first | rfl | exact absurd hns Bool.false_ne_true
  refine PS.imp (ps_asg (PE.seal he) (pg_sub (pe_var hN hv hd hcd) hk (set_D hu) ha) (sws_sub _ _) (sst_name rfl _) rfl) fun D σ H ⟨B, C, st, oc, r, S, o⟩ => ⟨C, st, oc, S, ?_⟩
  refine OutG.bind' (OutG.ex oc r S o fun kd st1 q => ?_)
  have q := OutG.bind (OutG.bind q)
  refine q.imp (fun dv st2 q v C1 H1 p1 rv => ?_) fun _ _ _ z => ZS.zg oc r S z
  have S1 := S.step p1
  have r1 := r.step S p1
  have oc1 := oc.step p1.le
  -- the name's value
  obtain ⟨gb, q⟩ := OutG.guardB q
  obtain ⟨w, d, hx⟩ : ∃ w d, env[x]? = some (some (w, d)) := by
    unfold bound at gb
    split at gb
    · rename_i p e; exact ⟨p.1, p.2, e⟩
    · exact absurd gb Bool.false_ne_true
  cases w with
  | true =>
    obtain ⟨ad, es, nF, nr, n0, q0⟩ := S1.own x d hx
    refine ⟨_, es, C1, st2, oc1, S1, (OutG.bind q).imp (fun kd st3 q iv C2 H2 p2 rk n => ?_) fun _ _ _ z => ZS.zg oc1 r1 S1 z⟩
    have S2 := S1.step p2
    have r2 := r1.step S1 p2
    have oc2 := oc1.step p2.le
    unfold storeSub at q
    rw [hx] at q
    obtain ⟨d', e1, q⟩ := OutG.needB q
    obtain ⟨ad2, es2, _, _, _, q2⟩ := S2.own x d hx
    rw [es] at es2
    cases es2
    obtain ⟨k, kd⟩ := kd
    refine ⟨C2, st3, d, k, kd, dv, S2.opC hK hw oc2, rk, rv.up p2, ?_⟩
    cases d with
    | lst xs =>
      cases kd with
      | int i =>
        obtain ⟨j, e2, e3⟩ := Option.map_eq_some_iff.mp (show (seqIx i xs.length).map (fun j => Hb.D.lst (xs.set j dv)) = some d' from e1)
        subst e3
        obtain ⟨vs, hv2, rv2⟩ := q2
        refine .inl ⟨ad, vs, i, j, rfl, hv2, rfl, by rw [rv2.length]; exact e2, ?_⟩
        exact (show RN g C0 H0 B D _ st3 from q) σ C2 _ oc2 r2 (S2.mut hx es ⟨_, upd_same, rv2.set (rv.up p2) j⟩)
      | _ => exact nomatch e1
    | dct kvs =>
      have e1 : (if (kOk kvs kd && decide (kvs.length < sizeMax)) = true then some (Hb.D.dct (dput kvs kd dv)) else none) = some d' := by cases kd <;> exact e1
      split at e1
      · rename_i gg
        obtain ⟨g1, g2⟩ := ands gg
        cases e1
        obtain ⟨es3, h3, h4, h5⟩ := q2
        refine .inr ⟨ad, es3, kvs, rfl, h3, h4, h5, g1, by rw [← sizeMax_eq]; exact of_decide_eq_true g2, fun es' re' dk' => ?_⟩
        exact (show RN g C0 H0 B D _ st3 from q) σ C2 _ oc2 r2 (S2.mut hx es ⟨es', upd_same, re', dk'⟩)
      · cases e1
    | _ => exact nomatch e1
  | false =>
    obtain ⟨vx, es, rx⟩ := S1.cell x d hx
    refine ⟨_, es, C1, st2, oc1, S1, (OutG.bind q).imp (fun kd st3 q iv C2 H2 p2 rk n => ?_) fun _ _ _ z => ZS.zg oc1 r1 S1 z⟩
    have S2 := S1.step p2
    have r2 := r1.step S1 p2
    have oc2 := oc1.step p2.le
    unfold storeSub at q
    rw [hx] at q
    obtain ⟨k, kd⟩ := kd
    refine ⟨C2, st3, d, k, kd, dv, S2.opC hK hw oc2, rk, rv.up p2, ?_⟩
    cases d with
    | row =>
      cases er : st3.row with
      | none =>
        have q := OutG.bind q
        unfold theRow at q
        rw [er] at q
        exact (show False from q).elim
      | some rw_ =>
        have q := OutG.bind q
        unfold theRow at q
        rw [er] at q
        cases kd with
        | int i =>
          obtain ⟨j, e2, q⟩ := OutG.needB q
          obtain ⟨gg, q⟩ := OutG.guardB q
          obtain ⟨ra, xs, e4, e5, e6, e7⟩ := row_at (X := X) S2.row (show RepK C2 H2 .sh vx .row from rx.up p2) er
          subst e4
          refine .inl ⟨ra, xs, i, j, rfl, e6, rfl, by rw [e7.length]; exact e2, ?_⟩
          exact (show RN g C0 H0 B D env _ from q) σ C2 _ oc2 r2 (S2.rowSet er e5 e6 e7 (rv.up p2))
        | _ => exact (show False from q).elim
    | memo =>
      cases er : st3.memo with
      | none =>
        have q := OutG.bind q
        unfold theMemo at q
        rw [er] at q
        exact (show False from q).elim
      | some kvs =>
        have q := OutG.bind q
        unfold theMemo at q
        rw [er] at q
        obtain ⟨gg, q⟩ := OutG.guardB (show OutG ((do guard_ (kOk kvs kd && decide (kvs.length < sizeMax)); setMemo (dput kvs kd dv); pure env : M Hb.Env) st3) _ _ from q)
        obtain ⟨g1, g2⟩ := ands gg
        obtain ⟨ra, es3, e4, e5, _, h3, h4, h5⟩ := mem_at S2.row (show RepK C2 H2 .sh vx .memo from rx.up p2) er
        subst e4
        refine .inr ⟨ra, es3, kvs, rfl, h3, h4, h5, g1, by rw [← sizeMax_eq]; exact of_decide_eq_true g2, fun es' re' dk' => ?_⟩
        exact (show RN g C0 H0 B D env _ from q) σ C2 _ oc2 r2 (S2.memSet e5 re' dk')
    | _ => exact (show False from q).elim
end
end Hb
namespace Hb
open PySem PySem.Spec PyProof.Rows L2

section
variable {X : Cx} {g : G} {W : WX} {C0 : RC} {H0 : Hp} {Wn : Nat} {env : Hb.Env} {C : RC} {H : Hp} {σ : List (Option V)} {st : Hb.St} {pos : Pos}
/-! ### a, b = x, y -/
/-- a value for a target that keeps it (o) or not -/
def RK (o : Bool) (C : RC) (H : Hp) (Q : VK) : KD → Hb.St → Prop := fun kd st' => ∀ v C' H', Post C H C' H' st' → kd.1 ≠ .br → RepK C' H' (if o = true then kd.1 else .sh) v kd.2 → New H (if o = true then kd.1 else .sh) v → Q v H'
def tK (g : G) (W : WX) (H0 : Hp) (o : Bool) (ie : E) (env : Hb.Env) : TE := fun σ H Q => ∃ C st, OkC g C ∧ Sim C H0 H env st σ ∧ OutG ((do let x ← evE g.Pg g.cl ie env; let _ ← need (ownOf x.1); pure x : M KD) st) (RK o C H Q) (ZG g.xr W C H σ)
theorem RK.shift {o : Bool} {C C1 : RC} {H H1 : Hp} {Q : VK} {st1 : Hb.St} (p : Post C H C1 H1 st1) {kd : KD} {st : Hb.St} (h : RK o C H Q kd st) : RK o C1 H1 Q kd st := fun v C' H' q nb r n => h v C' H' (p.trans q) nb r (n.shift p)
theorem k_of {e : Expr} {ie : E} (o : Bool) (h : PE X e (tE g W H0 ie env)) : PE X e (tK g W H0 o ie env) := by
  cases o with
  | true =>
    refine PE.imp h fun σ H Q ⟨C, st, oc, S, o⟩ => ⟨C, st, oc, S, (OutG.bind o).imp (fun kd st1 q v C1 H1 p r n => ?_) fun _ _ _ z => z⟩
    obtain ⟨b, e1, q⟩ := OutG.needB q
    refine (show RK true C H Q kd st1 from q) v C1 H1 p (fun z => ?_) r n
    rw [z] at e1; cases e1
  | false =>
    refine PE.imp (PE.seal h) fun σ H Q ⟨C, st, oc, S, o⟩ => ⟨C, st, oc, S, OutG.bind' ((OutG.bind o).imp (fun kd st1 q => ?_) fun _ _ _ z => z)⟩
    obtain ⟨b, e1, q⟩ := OutG.needB q
    obtain ⟨k, d⟩ := kd
    have q : RK false C H Q (k, d) st1 := q
    cases k with
    | br => cases e1
    | sh => exact fun v C1 H1 p r => q v C1 H1 p (fun z => nomatch z) r trivial
    | fr => exact fun v C1 H1 p r => q v C1 H1 p (fun z => nomatch z) r trivial
/-- what is stored for it -/
def isFr : Hb.K → Bool
  | .fr => true
  | _ => false
def cellK (o : Bool) (kd : KD) : Bool × D := (o && isFr kd.1, kd.2)
/-- one store of several: H1 is the heap where the value was made -/
theorem Sim.putK {C' : RC} {H1 H' : Hp} {st' : Hb.St} (S : Sim C' H0 H' env st' σ) (old : ∀ (j : Nat) (d' : Hb.D) (a : Addr), env[j]? = some (some (true, d')) → σ[j]? = some (some (V.ref a)) → H1 a ≠ none) (old0 : ∀ a, H1 a = none → H0 a = none) {o : Bool} {i : Nat} {v : V} {kd : KD} (nb : kd.1 ≠ .br)
    (r : RepK C' H' (if o = true then kd.1 else .sh) v kd.2) (n : New H1 (if o = true then kd.1 else .sh) v) (hi : i < env.length) : Sim C' H0 H' (env.set i (some (cellK o kd))) st' (σ.set i (some v)) := by
  obtain ⟨k, d⟩ := kd
  cases o with
  | false =>
    have r : Rep C' v d := r
    exact S.put r hi
  | true =>
    cases k with
    | br => exact absurd rfl nb
    | sh => exact S.put r hi
    | fr => exact S.own' r (fun a e j d' h z => absurd (n a e) (old j d' a h z)) (fun a e => old0 a (n a e)) hi
/-- a target that is a plain name: kept or not, its slot -/
def tgtN : Tgt → Option (Bool × Nat)
  | .own i => some (true, i)
  | .pat (.nm i) => some (false, i)
  | _ => none
theorem storeN {t : Tgt} {o : Bool} {i : Nat} (ht : tgtN t = some (o, i)) {kd : KD} {st1 : Hb.St} {R : Hb.Env → Hb.St → Prop} {Z : Nat → D → Hb.St → Prop} (nb : kd.1 ≠ .br) (h : OutG (storeVal g.Pg g.cl env t kd st1) R Z) : i < env.length ∧ R (env.set i (some (cellK o kd))) st1 := by
  obtain ⟨k, d⟩ := kd
  cases t with
  | own j =>
    cases ht
    obtain ⟨b, e1, h⟩ := OutG.needB h
    obtain ⟨gi, h⟩ := OutG.guardB h
    refine ⟨of_decide_eq_true gi, ?_⟩
    cases k with
    | br => exact absurd rfl nb
    | sh => cases e1; exact h
    | fr => cases e1; exact h
  | pat p =>
    cases p with
    | tp _ => cases ht
    | nm j =>
      cases ht
      have h := OutG.bind h
      have fin : ∀ {R1 : D → Hb.St → Prop}, OutG (need (setPat (.nm i) d env) st1) R Z → i < env.length ∧ R (env.set i (some (false, d))) st1 := fun h => by
        obtain ⟨e', e1, h⟩ := OutG.need h
        have e1 : (if i < env.length then some (env.set i (some (false, d))) else none) = some e' := e1
        split at e1
        · rename_i hi; cases e1; exact ⟨hi, h⟩
        · cases e1
      cases k with
      | br => exact absurd rfl nb
      | sh => exact fin (R1 := fun _ _ => True) h
      | fr => exact fin (R1 := fun _ _ => True) h
  | sub _ _ => cases ht
theorem Sim.oldOwn (S : Sim C H0 H env st σ) : ∀ (j : Nat) (d' : Hb.D) (a : Addr), env[j]? = some (some (true, d')) → σ[j]? = some (some (V.ref a)) → H a ≠ none := fun j d' a h z e => by
  obtain ⟨a', e1, _, _, _, q⟩ := S.own j d' h
  rw [z] at e1; cases e1
  obtain ⟨o, ho⟩ := q.there
  rw [e] at ho; cases ho
theorem old_set {H1 : Hp} {i : Nat} {kd : KD} {o : Bool} {v : V} (old : ∀ (j : Nat) (d' : Hb.D) (a : Addr), env[j]? = some (some (true, d')) → σ[j]? = some (some (V.ref a)) → H1 a ≠ none) (hv : ∀ (a : Addr), v = .ref a → (o = true ∧ kd.1 = .fr) → H1 a ≠ none) (hl : env.length = σ.length) :
    ∀ (j : Nat) (d' : Hb.D) (a : Addr), (env.set i (some (cellK o kd)))[j]? = some (some (true, d')) → (σ.set i (some v))[j]? = some (some (V.ref a)) → H1 a ≠ none := fun j d' a h z => by
  by_cases p : i = j
  · subst p
    by_cases hi : i < env.length
    · rw [List.getElem?_set_self hi] at h
      rw [List.getElem?_set_self (by omega)] at z
      obtain ⟨k, d⟩ := kd
      have e1 : cellK o (k, d) = (true, d') := Option.some.inj (Option.some.inj h)
      have e2 : (o && isFr k) = true := congrArg Prod.fst e1
      have e3 : v = .ref a := Option.some.inj (Option.some.inj z)
      refine hv a e3 ⟨(ands e2).1, ?_⟩
      cases k <;> first | rfl | exact absurd (ands e2).2 Bool.false_ne_true
    · rw [List.getElem?_eq_none (by rw [List.length_set]; omega)] at h; cases h
  · rw [List.getElem?_set_ne p] at h z
    exact old j d' a h z
theorem s_par2 {i j : Nat} {x y : Str} {a b : Expr} {ia ib : E} {t1 t2 : Tgt} {o1 o2 : Bool} {px py pt : Pos} {kt k2 : Nat} {pt2 : Pos} (hc : X.calm = true) (hN : X.N.Nodup) (hi : X.N[i]? = some x) (hj : X.N[j]? = some y) (hij : i ≠ j)
    (hx : X.env.scope.names.lookup x = some .local) (hy : X.env.scope.names.lookup y = some .local) (ht1 : tgtN t1 = some (o1, i)) (ht2 : tgtN t2 = some (o2, j)) (ha : PE X a (tE g W H0 ia env)) (hb : PE X b (tE g W H0 ib env)) (sa : notStar a = true) (sb : notStar b = true)
    (hw : swappedStores [.Tuple [.Name x px, .Name y py] kt pt] (.Tuple [a, b] k2 pt2) X.env = pure (some [x, y])) :
    PS X (.Assign [.Tuple [.Name x px, .Name y py] kt pt] (.Tuple [a, b] k2 pt2) pos) (tS g W C0 H0 Wn (.asgs [t1, t2] [ia, ib]) env) := by
  refine PS.imp (ps_par hc hN hi hj hij hx hy (pa_cons (k_of o1 ha) (pa_cons (k_of o2 hb) pa_nil (star_of sb _ _)) (star_of sa _ _)) hw rfl) fun D σ H ⟨B, C, st, oc, r, S, o⟩ => ⟨C, st, oc, S, ?_⟩
  have o := OutG.bind (OutG.bind o)
  refine OutG.bind' ((o.imp (fun kd st1 q => ?_) fun _ _ _ z => ZS.zg oc r S z))
  obtain ⟨w1, e1, q⟩ := OutG.needB q
  rw [show (do let _ ← need (ownOf kd.1); pure kd : M KD) = pure kd by rw [e1]; rfl]
  refine (fun v C1 H1 p1 nb1 r1 n1 => ?_ : RK o1 C H _ kd st1)
  have S1 := S.step p1
  have rr1 := r.step S p1
  have oc1 := oc.step p1.le
  refine ⟨C1, st1, oc1, S1, ?_⟩
  have q := OutG.bind (OutG.bind q)
  refine OutG.bind' (q.imp (fun kd2 st2 q => ?_) fun _ _ _ z => ZS.zg oc1 rr1 S1 z)
  obtain ⟨w2, e2, q⟩ := OutG.needB q
  rw [show (do let _ ← need (ownOf kd2.1); pure kd2 : M KD) = pure kd2 by rw [e2]; rfl]
  refine (fun v2 C2 H2 p2 nb2 r2 n2 => ?_ : RK o2 C1 H1 _ kd2 st2)
  have S2 := S1.step p2
  refine ⟨v, v2, rfl, ?_⟩
  have q : OutG (storeAll g.Pg g.cl [t1, t2] [kd, kd2] env st2) (fun env' st' => RN g C0 H0 B D env' st') (ZS g W C0 H0) := OutG.bind (show OutG ((storeAll g.Pg g.cl [t1, t2] [kd, kd2] env >>= fun env => pure (Fl.nx env)) st2) (RS g C0 H0 B D) (ZS g W C0 H0) from q)
  obtain ⟨gi, q⟩ := storeN ht1 nb1 (OutG.bind q)
  obtain ⟨gj, q⟩ := storeN ht2 nb2 (OutG.bind q)
  have old2 : ∀ (j : Nat) (d' : Hb.D) (a : Addr), env[j]? = some (some (true, d')) → σ[j]? = some (some (V.ref a)) → H1 a ≠ none := S1.oldOwn
  have SA := S2.putK (H1 := H) S.oldOwn (fun a h => S.gone h) nb1 (r1.step p2) n1 gi
  have SB := SA.putK (H1 := H1) (old_set old2 (fun a e ⟨h1, h2⟩ => by
    rw [h1] at r1
    rw [if_pos rfl, h2] at r1
    obtain ⟨a', e', _, _, q'⟩ := r1
    rw [e] at e'; cases e'
    obtain ⟨u, hu⟩ := q'.there
    rw [hu]; exact fun z => nomatch z) S.len) (fun a h => S1.gone h) nb2 r2 n2 gj
  exact (show RN g C0 H0 B D _ st2 from q) _ C2 H2 (oc1.step p2.le) (rr1.step S1 p2) SB
end
end Hb
namespace Hb
open PySem PySem.Spec PyProof.Rows L2

section
variable {X : Cx} {g : G} {W : WX} {C0 : RC} {H0 : Hp} {Wn : Nat} {env : Hb.Env} {pos : Pos}
/-! ### xs.append(e) -/
theorem s_app {x : Nat} {nm : Str} {p apos cpos : Pos} {e : Expr} {ie : E} (hN : X.N[x]? = some nm) (hv : Vis X.env.scope nm) (hd : (nm == ("__debug__" : Str)) = false) (hcd : (nm == ("__classdict__" : Str)) = false)
    (he : PE X e (tE g W H0 ie env)) (se : notStar e = true) (hline : (apos.endLine == cpos.line) = true) :
    PS X (.Expr (.Call (.Attribute (.Name nm p) "append" apos) [e] [] cpos) pos) (tS g W C0 H0 Wn (.app x ie) env) := by
  have hfew : ((backTo cpos (starEach [e] X.env)).all (fun x => !x.1) && (backToKw cpos (keywordEach [] X.env)).all (fun x => x.1.isSome)
      && decide ([e].length + ([] : List Keyword).length + (if ([] : List Keyword).isEmpty then 0 else 1) < 30)) = true := by
    rw [star_of se]; rfl
  refine PS.imp (ps_expr (pe_bm F.plainAttrs_list F.slot_list_append F.type_list_append mt_append (pe_var hN hv hd hcd) (pa_cons (PE.seal he) pa_nil (star_of se _ _)) rfl hfew hline (star_of se _ _) rfl) rfl) fun D σ H ⟨B, C, st, oc, r, S, o⟩ => ?_
  have o : OutG ((match env[x]? with
    | some (some (true, .lst xs)) => do
      let v ← evE g.Pg g.cl ie env
      let d ← sealed v
      guard_ (decide (xs.length < sizeMax))
      pure (.nx (env.set x (some (true, .lst (xs ++ [d])))))
    | _ => bad : M Fl) st) (RS g C0 H0 B D) (ZS g W C0 H0) := o
  cases hx : env[x]? with
  | none => rw [hx] at o; exact (show False from o).elim
  | some cl =>
    cases cl with
    | none => rw [hx] at o; exact (show False from o).elim
    | some p =>
      obtain ⟨w, d⟩ := p
      rw [hx] at o
      cases w with
      | false => exact (show False from o).elim
      | true =>
        cases d with
        | lst xs =>
          obtain ⟨ad, es, nF, nr, n0, vs0, hv0, _⟩ := S.own x _ hx
          refine ⟨_, es, .inl ⟨rfl, vs0, .inl (.inl hv0)⟩, C, st, oc, S, ?_⟩
          refine OutG.bind' (OutG.ex oc r S o fun kd st1 q => ?_)
          refine (OutG.bind q).imp (fun d st2 q v C1 H1 p1 rv => ?_) fun _ _ _ z => ZS.zg oc r S z
          obtain ⟨gl, q⟩ := OutG.guardB q
          have S1 := S.step p1
          obtain ⟨ad', es', _, _, _, vs, hv, rvs⟩ := S1.own x _ hx
          rw [es] at es'
          cases es'
          refine ⟨ad, vs, v, rfl, rfl, hv, by rw [rvs.length, ← sizeMax_eq]; exact of_decide_eq_true gl, ?_⟩
          exact (show RN g C0 H0 B D _ st2 from q) σ C1 _ (oc.step p1.le) (r.step S p1) (S1.mut hx es ⟨_, upd_same, RepAll.append rvs (.cons rv .nil)⟩)
        | _ => exact (show False from o).elim

/-! ### for, while -/
/-- after turn i of a loop over ds -/
theorem s_for {tg iter : Expr} {body : List Stmt} {p : Pat} {it : I} {ib : List S} (hp : PassesOwn (model X.prog X.w) X.A X.env X.xe) (hc : X.calm = true) (hi : PI X tg iter (tI g W H0 it env)) (hg : ∀ env', PG X tg (gPat g H0 p env')) (hb : ∀ env', PSs X body (tSs g W C0 H0 Wn ib env'))
    (hs : ∀ x, foldedSetIterable iter X.env x = pure x) : PS X (.For tg iter body [] pos) (tS g W C0 H0 Wn (.for_ p it ib) env) := by
  refine PS.imp (ps_for hp hc hi (PG.ex hg) (PSs.ex hb) hs) fun D σ H ⟨B, C, st, oc, r, S, o⟩ => ⟨C, st, oc, S, OutG.ex oc r S o fun kds st1 q C1 H1 p1 J pr w hpr hk => ?_⟩
  obtain ⟨k, ds⟩ := kds
  have nb : k ≠ .br ∧ OutG (forGo p (fun env => exSs g.Pg g.cl Wn ib env) ds env st1) (RS g C0 H0 B D) (ZS g W C0 H0) := by
    cases k with
    | br => exact (show False from OutG.bind q).elim
    | sh => exact ⟨(fun z => nomatch z), OutG.bind q⟩
    | fr => exact ⟨(fun z => nomatch z), OutG.bind q⟩
  obtain ⟨nb, q⟩ := nb
  have epr := hk nb
  subst epr
  let Pv : Nat → List (Option V) → Hp → Prop := fun i σ2 H2 => ∃ C2 st2 env2, OkC g C2 ∧ Reach C0 H0 B C2 ∧ C1.Le C2 ∧ Sim C2 H0 H2 env2 st2 σ2 ∧ OutG (forGo p (fun env => exSs g.Pg g.cl Wn ib env) (ds.drop i) env2 st2) (RS g C0 H0 B D) (ZS g W C0 H0)
  have wk : Walk J ds.length (Fix C1 []) (fun i H x H' => Fix C1 [] H ∧ J.yld i H x H') := ⟨fun i H hi f => w.goes i H hi f, fun H f => w.stops H f, fun i H x H' _ f y => ⟨f, y⟩⟩
  have fixes : ∀ {C2 : RC} {H2 : Hp} {env2 : Hb.Env} {st2 : Hb.St} {σ2 : List (Option V)}, C1.Le C2 → Sim C2 H0 H2 env2 st2 σ2 → Fix C1 [] H2 := fun L S2 => ⟨fun a o h => S2.sub a o (L.F a o h), fun z hz => nomatch hz⟩
  refine for_it (g := fun v σ H Q => ∃ env', gPat g H0 p env' v σ H Q) (tb := fun D σ H => ∃ env', tSs g W C0 H0 Wn ib env' D σ H) (D := D) (σ := σ) (H := H1) wk Pv ?_ (fun i σ2 H2 _ ⟨C2, st2, env2, _, _, L, S2, _⟩ => fixes L S2) ?_ ?_
  · refine ⟨C1, st1, env, oc.step p1.le, r.step S p1, .refl C1, S.step p1, ?_⟩
    rw [List.drop_zero]
    exact q
  · intro i x σ2 H2 H3 hi ⟨C2, st2, env2, oc2, r2, L2', S2, q⟩ ⟨f, y⟩
    have hd : ds[i]? = some (ds[i]'hi) := List.getElem?_eq_getElem hi
    obtain ⟨C3, p3, r3⟩ := w.yields i H2 x H3 C2 st2 _ hd f y L2' S2.sub S2.row
    rw [List.drop_eq_getElem_cons hi] at q
    obtain ⟨env', e1, q⟩ := OutG.needB q
    refine ⟨env2, C3, st2, _, env', oc2.step p3.le, S2.step p3, r3, e1, fun σ3 S3 _ => ⟨env', C1, C3, st2, oc2.step p3.le, { r2.step S2 p3 with lb := L2'.trans p3.le }, S3, ?_⟩⟩
    refine (OutG.bind q).imp (fun fl st4 q => ?_) fun _ _ _ z => z
    cases fl with
    | nx env4 => exact fun σ4 C4 H4 oc4 r4 S4 => ⟨C4, st4, env4, oc4, { r4 with lb := (r.lb.trans p1.le).trans r4.lb }, r4.lb, S4, q⟩
    | rt v => exact q
  · intro σ2 H2 ⟨C2, st2, env2, oc2, r2, L2', S2, q⟩
    rw [List.drop_length] at q
    exact (show RN g C0 H0 B D env2 st2 from q) σ2 C2 H2 oc2 r2 S2
theorem s_while {c : Expr} {body : List Stmt} {ic : E} {ib : List S} (hp : PassesOwn (model X.prog X.w) X.A X.env X.xe) (hc : ∀ env', PT X c (tT g W H0 ic env')) (hb : ∀ env', PSs X body (tSs g W C0 H0 Wn ib env')) : PS X (.While c body [] pos) (tS g W C0 H0 Wn (.while_ ic ib) env) := by
  refine PS.imp (ps_while (tc := fun σ H Q => ∃ env', tT g W H0 ic env' σ H Q) (tb := fun D σ H => ∃ env', tSs g W C0 H0 Wn ib env' D σ H) hp ⟨fun pins s σ H Q I ⟨a, w⟩ => (hc a).run pins s σ H Q I w⟩ (PSs.ex hb)) fun D σ H ⟨B, C, st, oc, r, S, o⟩ => ?_
  refine ⟨fun m σ2 H2 => ∃ C2 st2 env2, OkC g C2 ∧ Reach C0 H0 B C2 ∧ Sim C2 H0 H2 env2 st2 σ2 ∧ OutG (whileGo (fun env => do let x ← evE g.Pg g.cl ic env; asBl x.2) (fun env => exSs g.Pg g.cl Wn ib env) m env2 st2) (RS g C0 H0 B D) (ZS g W C0 H0), ⟨Wn, C, st, env, oc, r, S, o⟩, ?_⟩
  intro m σ2 H2 ⟨C2, st2, env2, oc2, r2, S2, q⟩
  cases m with
  | zero => exact (show False from q).elim
  | succ m =>
    refine ⟨env2, C2, st2, oc2, S2, OutG.ex oc2 r2 S2 q fun k st3 q C3 H3 p3 => ?_⟩
    cases k with
    | true =>
      rw [if_pos rfl]
      refine ⟨fun σ' H' => ∃ C' st' env', OkC g C' ∧ Reach C0 H0 B C' ∧ Sim C' H0 H' env' st' σ' ∧ OutG (whileGo (fun env => do let x ← evE g.Pg g.cl ic env; asBl x.2) (fun env => exSs g.Pg g.cl Wn ib env) m env' st') (RS g C0 H0 B D) (ZS g W C0 H0), fun σ' H' h => ⟨m, Nat.lt_succ_self m, h⟩, env2, B, C3, st3, oc2.step p3.le, r2.step S2 p3, S2.step p3, ?_⟩
      refine (OutG.bind q).imp (fun fl st4 q => ?_) fun _ _ _ z => z
      cases fl with
      | nx env4 => exact fun σ4 C4 H4 oc4 r4 S4 => ⟨C4, st4, env4, oc4, r4, S4, q⟩
      | rt v => exact q
    | false =>
      rw [if_neg Bool.false_ne_true]
      exact (show RN g C0 H0 B D env2 st3 from q) σ2 C3 H3 (oc2.step p3.le) (r2.step S2 p3) (S2.step p3)
end
end Hb
namespace Hb
open PySem PySem.Spec PyProof.Rows L2

section
variable {X : Cx} {g : G} {W : WX} {C0 : RC} {H0 : Hp} {Wn : Nat} {env : Hb.Env} {pos : Pos}
/-- never come to -/
theorem s_stop {s : Stmt} : PS X s (tS g W C0 H0 Wn .stop env) := ⟨fun _ _ _ _ _ _ ⟨_, _, _, _, _, _, o⟩ => (show False from o).elim⟩
/-! ### x += e, x *= e -/
def rAug (X : Cx) (op : BOp) : TIp := fun x y H Q => ∃ i j st Z, x = V.int i ∧ y = V.int j ∧ OutG (augD op (.int i) (.int j) st) (fun d st' => st' = st → ∀ k, d = .int k → Q (.int k) H) Z
theorem ip_aug (op : BOp) (ho : op = .add ∨ op = .mul) : PIp X (opA op) (rAug X op) := by
  intro pins s σ H x y v u Q I r1 r2 h
  obtain ⟨i, j, st, Z, e1, e2, o⟩ := h
  subst e1 e2
  have r1' := r1
  have r2' := r2
  obtain ⟨t, rfl⟩ := r1'
  obtain ⟨t', rfl⟩ := r2'
  rcases ho with rfl | rfl
  · exact iadd_int ⟨.int _, H, I.tok _, ⟨_, rfl⟩, (show _ from o) rfl _ rfl⟩
  · obtain ⟨g1, o⟩ := OutG.guardB (OutG.bind o)
    refine PyProof.Rows.imul_int ⟨.int _, H, I.tok _, ⟨_, rfl⟩, (show _ from o) rfl _ rfl⟩ ?_
    rcases small64_ok g1 with h | h
    · exact .of_left (intBits_le_64 h.1 h.2)
    · exact .of_right (intBits_le_64 h.1 h.2)
theorem s_aug {i : Nat} {x : Str} {e : Expr} {ie : E} {op : BOp} {pos' : Pos} (ho : op = .add ∨ op = .mul) (hN : X.N.Nodup) (hi : X.N[i]? = some x) (hx : Loc X.env.scope x) (hf : X.fn x = true ∨ X.env.scope.names.lookup x = some .local) (he : PE X e (tE g W H0 ie env)) :
    PS X (.AugAssign (.Name x pos') (opA op) e pos) (tS g W C0 H0 Wn (.aug i op ie) env) := by
  refine PS.imp (ps_aug hN hi hx he (ip_aug op ho) hf) fun D σ H ⟨B, C, st, oc, r, S, o⟩ => ?_
  have o : OutG ((match env[i]? with
    | some (some (false, a)) => do
      let v ← evE g.Pg g.cl ie env
      let d ← augD op a v.2
      pure (.nx (env.set i (some (false, d))))
    | _ => bad : M Fl) st) (RS g C0 H0 B D) (ZS g W C0 H0) := o
  cases hx : env[i]? with
  | none => rw [hx] at o; exact (show False from o).elim
  | some cl =>
    cases cl with
    | none => rw [hx] at o; exact (show False from o).elim
    | some p =>
      obtain ⟨w, d⟩ := p
      rw [hx] at o
      cases w with
      | true => exact (show False from o).elim
      | false =>
        obtain ⟨v, es, rv⟩ := S.cell i d hx
        refine ⟨v, es, C, st, oc, S, OutG.ex oc r S o fun kd st1 q v2 C1 H1 p1 r2 n2 => ?_⟩
        have S1 := S.step p1
        cases d with
        | int a =>
          cases rv
          obtain ⟨k, dd⟩ := kd
          cases dd with
          | int b =>
            rw [repK_int r2]
            refine ⟨a, b, st1, fun _ _ _ => False, rfl, rfl, ?_⟩
            have hi2 : i < env.length := (List.getElem?_eq_some_iff.mp hx).1
            have q := OutG.bind q
            have pz : Pure0 (augD op (.int a) (.int b)) := by
              refine pure0_bind ?_ fun _ => pure0_pure _
              rcases ho with rfl | rfl
              · exact pure0_pure _
              · exact pure0_bind (pure0_guard _) fun _ => pure0_pure _
            refine (pz st1 _ _ q).imp (fun d st2 ⟨e2, q⟩ _ k ek => ?_) fun _ _ _ z => z
            subst e2 ek
            exact (show RN g C0 H0 B D _ st2 from q) _ C1 H1 (oc.step p1.le) (r.step S p1) (S1.put (.int k) hi2)
          | _ => exact (show False from OutG.bind q).elim
        | _ => exact (show False from OutG.bind q).elim
/-! ### frozen -/
theorem s_frz {x : Nat} {ss : List Stmt} {iss : List S} (h : ∀ env', PSs X ss (tSs g W C0 H0 Wn iss env')) : PSs X ss (tSs g W C0 H0 Wn (.frz x :: iss) env) := by
  refine ⟨fun pins s σ H D I ⟨B, C, st, oc, r, S, o⟩ => ?_⟩
  have o := OutG.bind o
  have o : OutG ((match env[x]? with
    | some (some (_, d)) => pure (.nx (env.set x (some (false, d))))
    | _ => bad : M Fl) st) (fun f st1 => OutG ((match f with
      | .nx env => exSs g.Pg g.cl Wn iss env
      | .rt v => pure (.rt v) : M Fl) st1) (RS g C0 H0 B D) (ZS g W C0 H0)) (ZS g W C0 H0) := o
  cases hx : env[x]? with
  | none => rw [hx] at o; exact (show False from o).elim
  | some cl =>
    cases cl with
    | none => rw [hx] at o; exact (show False from o).elim
    | some p =>
      obtain ⟨w, d⟩ := p
      rw [hx] at o
      have hi : x < env.length := (List.getElem?_eq_some_iff.mp hx).1
      cases w with
      | false =>
        obtain ⟨v, es, rv⟩ := S.cell x d hx
        have S' := S.put rv hi
        have hl : x < σ.length := by rw [← S.len]; exact hi
        have e : σ.set x (some v) = σ := by
          apply List.ext_getElem?
          intro j
          by_cases q : x = j
          · subst q; rw [List.getElem?_set_self hl, es]
          · rw [List.getElem?_set_ne q]
        rw [e] at S'
        exact (h _).run pins s σ H D I ⟨B, C, st, oc, r, S', o⟩
      | true =>
        obtain ⟨a, es, nF, nr, n0, q⟩ := S.own x d hx
        obtain ⟨C', H', I', L, sub, fn, re, oth, th, rep⟩ := freeze I nF nr q S.sub
        have hl : x < σ.length := by rw [← S.len]; exact hi
        have S' : Sim C' H0 H' (env.set x (some (false, d))) st σ := by
          refine ⟨sub, by rw [List.length_set, S.len], fun j d1 h => ?_, fun j d1 h => ?_, fun j k b d1 d2 h h' z z' => ?_, ?_, fun b u hb n => ?_⟩
          · by_cases p : x = j
            · subst p
              rw [List.getElem?_set_self hi] at h
              cases h
              exact ⟨_, es, rep⟩
            · rw [List.getElem?_set_ne p] at h
              obtain ⟨v, e1, e2⟩ := S.cell j d1 h
              exact ⟨v, e1, Rep.mono L _ _ e2⟩
          · by_cases p : x = j
            · subst p
              rw [List.getElem?_set_self hi] at h
              cases h
            · rw [List.getElem?_set_ne p] at h
              obtain ⟨b, f1, f2, f3, f4, f5⟩ := S.own j d1 h
              have nb : b ≠ a := fun z => p (S.apart x j a d d1 hx h es (by rw [f1, z]))
              refine ⟨b, f1, ?_, fun z => f3 (G_of re z), f4, f5.mono L fun u hu => by rw [oth b nb]; exact hu⟩
              cases e : C'.F b with
              | none => rfl
              | some u =>
                rcases fn b u e with z | z
                · rw [f2] at z; cases z
                · exact absurd z nb
          · have nj : x ≠ j := fun q => by
              subst q; rw [List.getElem?_set_self hi] at h; cases h
            have nk : x ≠ k := fun q => by
              subst q; rw [List.getElem?_set_self hi] at h'; cases h'
            rw [List.getElem?_set_ne nj] at h
            rw [List.getElem?_set_ne nk] at h'
            exact S.apart j k b d1 d2 h h' z z'
          · refine S.row.at L re (fun b hb => ?_) fun b hb => oth b fun e => nr (e ▸ hb)
            cases e : C'.F b with
            | none => rfl
            | some u =>
              rcases fn b u e with z | z
              · rw [(S.row.gl hb).1] at z; cases z
              · exact absurd (z ▸ hb) nr
          · rw [oth b fun z => by rw [z, n0] at hb; cases hb]
            exact S.keep b u hb fun z => n (L.G z)
        have r' : Reach C0 H0 B C' := ⟨r.lb.trans L, r.le.trans L, fun b u hb => (fn b u hb).elim (r.fnew b u) fun z => .inr (by rw [z]; exact n0), fun b hb => r.rnew b (G_of re hb)⟩
        exact (h _).run pins s σ H' D I' ⟨B, C', st, oc.step L, r', S', o⟩
/-! ### the row -/
theorem s_mkrow {x : Nat} {nm : Str} {p lp : Pos} {es : List Expr} {ies : List E} (hN : X.N.Nodup) (hi : X.N[x]? = some nm) (hx : Loc X.env.scope nm) (hf : X.fn nm = true ∨ X.env.scope.names.lookup nm = some .local) (ha : PA X es (tAs g W H0 ies env)) :
    PS X (.Assign [.Name nm p] (.List es lp) pos) (tS g W C0 H0 Wn (.mkrow x ies) env) := by
  refine PS.imp (ps_set hN hi hx (pe_lst ha) rfl hf) fun D σ H ⟨B, C, st, oc, r, S, o⟩ => ⟨C, st, oc, S, OutG.ex oc r S o fun ds st1 q vs C1 H1 p1 rv => ?_⟩
  have q := OutG.bind q
  cases er : st1.row with
  | some _ =>
    unfold newRow at q
    rw [er] at q
    exact (show False from q).elim
  | none =>
    unfold newRow at q
    rw [er] at q
    have q : OutG ((do guard_ (decide (x < env.length) && decide (ds.length ≤ 1000)); pure (Fl.nx (env.set x (some (false, Hb.D.row)))) : M Fl) { st1 with row := some ds }) (RS g C0 H0 B D) (ZS g W C0 H0) := q
    obtain ⟨gi, q⟩ := OutG.guardB q
    obtain ⟨gi, gz⟩ := ands gi
    have gi := of_decide_eq_true gi
    have gz := of_decide_eq_true gz
    have S1 := S.step p1
    refine ⟨by rw [rv.length, sizeLine_eq]; omega, fun ad hp => ?_⟩
    have rn : C1.gl .row = none := by
      have := p1.row.row
      unfold RowP at this
      rw [er] at this
      exact this
    have nF : C1.F ad = none := by
      cases e : C1.F ad with
      | none => rfl
      | some o => have := p1.sub ad o e; rw [hp] at this; cases this
    have ne : ∀ b o, H1 b = some o → b ≠ ad := fun b o e z => by rw [z, hp] at e; cases e
    have L : C1.Le { C1 with gl := fun t => if t = .row then some ad else C1.gl t } := ⟨rfl, rfl, rfl, fun _ _ h => h, fun t b h => by
      cases t with
      | mm => exact h
      | rd n => exact h
      | row => rw [rn] at h; cases h⟩
    have hl : x < σ.length := by rw [← S.len]; exact gi
    have S2 : Sim { C1 with gl := fun t => if t = .row then some ad else C1.gl t } H0 (upd H1 ad (.lst vs)) (env.set x (some (false, .row))) { st1 with row := some ds } (σ.set x (some (.ref ad))) := by
      refine ⟨fun b o h => by rw [upd_ne (ne b o (p1.sub b o h))]; exact p1.sub b o h, by rw [List.length_set, List.length_set, S.len], fun j d1 h => ?_, fun j d1 h => ?_, fun j k b d1 d2 h h' z z' => ?_, ⟨⟨ad, vs, rfl, nF, upd_same, RepAll.mono L _ _ rv⟩, ?_, p1.row.rdNew (T := .row) hp (fun _ z => by cases z) rfl, p1.row.injNew (T := .row) (p := ad) (fun _ z => by cases z)⟩, fun b u hb n => ?_⟩
      · by_cases p : x = j
        · subst p
          rw [List.getElem?_set_self gi] at h
          cases h
          exact ⟨_, List.getElem?_set_self hl, .row rfl⟩
        · rw [List.getElem?_set_ne p] at h
          rw [List.getElem?_set_ne p]
          obtain ⟨v, e1, e2⟩ := S1.cell j d1 h
          exact ⟨v, e1, Rep.mono L _ _ e2⟩
      · by_cases p : x = j
        · subst p
          rw [List.getElem?_set_self gi] at h
          cases h
        · rw [List.getElem?_set_ne p] at h
          rw [List.getElem?_set_ne p]
          obtain ⟨b, f1, f2, f3, f4, f5⟩ := S1.own j d1 h
          obtain ⟨ob, hob⟩ := f5.there
          have nb := ne b ob hob
          refine ⟨b, f1, f2, fun z => ?_, f4, f5.mono L fun u hu => by rw [upd_ne nb]; exact hu⟩
          obtain ⟨t, e⟩ := z
          cases t with
          | mm => exact f3 ⟨.mm, e⟩
          | rd n => exact f3 ⟨.rd n, e⟩
          | row => exact nb (Option.some.inj (show some ad = some b from e)).symm
      · have nj : x ≠ j := fun q => by
          subst q; rw [List.getElem?_set_self gi] at h; cases h
        have nk : x ≠ k := fun q => by
          subst q; rw [List.getElem?_set_self gi] at h'; cases h'
        rw [List.getElem?_set_ne nj] at h z
        rw [List.getElem?_set_ne nk] at h' z'
        exact S1.apart j k b d1 d2 h h' z z'
      · have m := p1.row.mem
        unfold MemP at m ⊢
        cases q2 : st1.memo with
        | none => rw [q2] at m; exact m
        | some l =>
          rw [q2] at m
          obtain ⟨a, h1, h2, h3⟩ := m
          obtain ⟨oa, hoa⟩ := h3.there
          exact ⟨a, h1, h2, h3.mono L fun u hu => by rw [upd_ne (ne a oa hoa)]; exact hu⟩
      · have hb1 := S1.keep b u hb fun z => n (L.G z)
        rw [upd_ne (ne b u hb1)]
        exact hb1
    have r1 := r.step S p1
    refine (show RN g C0 H0 B D _ _ from q) _ { C1 with gl := fun t => if t = .row then some ad else C1.gl t } _ ((oc.step p1.le).step L) ⟨r1.lb.trans L, r1.le.trans L, r1.fnew, fun b hb => ?_⟩ S2
    obtain ⟨t, e⟩ := hb
    cases t with
    | mm => exact r1.rnew b ⟨.mm, e⟩
    | rd n => exact r1.rnew b ⟨.rd n, e⟩
    | row =>
      have e : some ad = some b := e
      cases e
      exact .inr (S1.gone hp)
end
end Hb
namespace Hb
open PySem PySem.Spec PyProof.Rows L2

section
variable {X : Cx} {g : G} {W : WX} {C0 : RC} {H0 : Hp} {Wn : Nat} {env : Hb.Env} {pos : Pos}
theorem s_par3 {i j l : Nat} {x y z : Str} {a b c : Expr} {ia ib ic : E} {t1 t2 t3 : Tgt} {o1 o2 o3 : Bool} {px py pz pt : Pos} {kt k2 : Nat} {pt2 : Pos} (hc : X.calm = true) (hN : X.N.Nodup) (hi : X.N[i]? = some x) (hj : X.N[j]? = some y) (hl : X.N[l]? = some z) (hij : i ≠ j) (hil : i ≠ l) (hjl : j ≠ l)
    (hx : X.env.scope.names.lookup x = some .local) (hy : X.env.scope.names.lookup y = some .local) (hz : X.env.scope.names.lookup z = some .local) (ht1 : tgtN t1 = some (o1, i)) (ht2 : tgtN t2 = some (o2, j)) (ht3 : tgtN t3 = some (o3, l))
    (ha : PE X a (tE g W H0 ia env)) (hb : PE X b (tE g W H0 ib env)) (hcc : PE X c (tE g W H0 ic env)) (sa : notStar a = true) (sb : notStar b = true) (sc : notStar c = true)
    (hw : swappedStores [.Tuple [.Name x px, .Name y py, .Name z pz] kt pt] (.Tuple [a, b, c] k2 pt2) X.env = pure (some [x, y, z])) :
    PS X (.Assign [.Tuple [.Name x px, .Name y py, .Name z pz] kt pt] (.Tuple [a, b, c] k2 pt2) pos) (tS g W C0 H0 Wn (.asgs [t1, t2, t3] [ia, ib, ic]) env) := by
  refine PS.imp (ps_par3 hc hN hi hj hl hij hil hjl hx hy hz (pa_cons (k_of o1 ha) (pa_cons (k_of o2 hb) (pa_cons (k_of o3 hcc) pa_nil (star_of sc _ _)) (star_of sb _ _)) (star_of sa _ _)) hw rfl) fun D σ H ⟨B, C, st, oc, r, S, o⟩ => ⟨C, st, oc, S, ?_⟩
  have o := OutG.bind (OutG.bind o)
  refine OutG.bind' ((o.imp (fun kd st1 q => ?_) fun _ _ _ z => ZS.zg oc r S z))
  obtain ⟨w1, e1, q⟩ := OutG.needB q
  rw [show (do let _ ← need (ownOf kd.1); pure kd : M KD) = pure kd by rw [e1]; rfl]
  refine (fun v C1 H1 p1 nb1 r1 n1 => ?_ : RK o1 C H _ kd st1)
  have S1 := S.step p1
  have rr1 := r.step S p1
  have oc1 := oc.step p1.le
  refine ⟨C1, st1, oc1, S1, ?_⟩
  have q := OutG.bind (OutG.bind q)
  refine OutG.bind' (q.imp (fun kd2 st2 q => ?_) fun _ _ _ z => ZS.zg oc1 rr1 S1 z)
  obtain ⟨w2, e2, q⟩ := OutG.needB q
  rw [show (do let _ ← need (ownOf kd2.1); pure kd2 : M KD) = pure kd2 by rw [e2]; rfl]
  refine (fun v2 C2 H2 p2 nb2 r2 n2 => ?_ : RK o2 C1 H1 _ kd2 st2)
  have S2 := S1.step p2
  have rr2 := rr1.step S1 p2
  have oc2 := oc1.step p2.le
  refine ⟨C2, st2, oc2, S2, ?_⟩
  have q := OutG.bind (OutG.bind q)
  refine OutG.bind' (q.imp (fun kd3 st3 q => ?_) fun _ _ _ z => ZS.zg oc2 rr2 S2 z)
  obtain ⟨w3, e3, q⟩ := OutG.needB q
  rw [show (do let _ ← need (ownOf kd3.1); pure kd3 : M KD) = pure kd3 by rw [e3]; rfl]
  refine (fun v3 C3 H3 p3 nb3 r3 n3 => ?_ : RK o3 C2 H2 _ kd3 st3)
  have S3 := S2.step p3
  refine ⟨v, v2, v3, rfl, ?_⟩
  have q : OutG (storeAll g.Pg g.cl [t1, t2, t3] [kd, kd2, kd3] env st3) (fun env' st' => RN g C0 H0 B D env' st') (ZS g W C0 H0) := OutG.bind (show OutG ((storeAll g.Pg g.cl [t1, t2, t3] [kd, kd2, kd3] env >>= fun env => pure (Fl.nx env)) st3) (RS g C0 H0 B D) (ZS g W C0 H0) from q)
  obtain ⟨gi, q⟩ := storeN ht1 nb1 (OutG.bind q)
  obtain ⟨gj, q⟩ := storeN ht2 nb2 (OutG.bind q)
  obtain ⟨gl, q⟩ := storeN ht3 nb3 (OutG.bind q)
  have there : ∀ {o : Bool} {kd : KD} {v : V} {C1 : RC} {H1 : Hp}, RepK C1 H1 (if o = true then kd.1 else .sh) v kd.2 → ∀ a : Addr, v = .ref a → (o = true ∧ kd.1 = .fr) → H1 a ≠ none := fun {o kd v C1 H1} r a e ⟨h1, h2⟩ => by
    rw [h1] at r
    rw [if_pos rfl, h2] at r
    obtain ⟨a', e', _, _, q'⟩ := r
    rw [e] at e'; cases e'
    obtain ⟨u, hu⟩ := q'.there
    rw [hu]; exact fun z => nomatch z
  have SA := S3.putK (H1 := H) S.oldOwn (fun a h => S.gone h) nb1 ((r1.step p2).step p3) n1 gi
  have SB := SA.putK (H1 := H1) (old_set S1.oldOwn (there r1) S.len) (fun a h => S1.gone h) nb2 (r2.step p3) n2 gj
  have SC := SB.putK (H1 := H2) (old_set (old_set S2.oldOwn (there (r1.step p2)) S.len) (there r2) (by rw [List.length_set, List.length_set]; exact S.len)) (fun a h => S2.gone h) nb3 r3 n3 gl
  exact (show RN g C0 H0 B D _ st3 from q) _ C3 H3 (oc2.step p3.le) (rr2.step S2 p3) SC
end
/-! ### the stores of a, b = x, y -/
theorem bk_fun {env : PySem.Env} (hk : env.scope.kind = .function) : env.blockKind = .function := by unfold PySem.Env.blockKind; rw [hk]; rfl
theorem nostar_any2 {a b : Expr} (na : notStar a = true) (nb : notStar b = true) : ([a, b].any fun | .Starred .. => true | _ => false) = false := by
  cases a <;> cases b <;> first | rfl | exact absurd na Bool.false_ne_true | exact absurd nb Bool.false_ne_true
theorem nostar_one {a : Expr} (na : notStar a = true) : (match a with | .Starred .. => true | _ => false) = false := by
  cases a <;> first | rfl | exact absurd na Bool.false_ne_true
theorem sst_key {l : List Str} {n : Nat} (hn : l.length = n) (he : l.eraseDups = l) : ∀ (bst : Bool) (nm : List Str) (f c : Bool) (U : List Str → Sem (Option (List Str))), bst = false → nm = l → f = false → c = false →
    (if bst = true then pure none else if (nm.length != n || nm.eraseDups.length != nm.length) = true then pure none else if f = true then pure none else if c = true then U nm else pure (some nm)) = (pure (some l) : Sem (Option (List Str))) := by
  rintro bst nm f c U rfl rfl rfl rfl
  rw [if_neg Bool.false_ne_true, he, hn, if_neg (by simp), if_neg Bool.false_ne_true, if_neg Bool.false_ne_true]
theorem sst2 {env : PySem.Env} {x y : Str} {a b : Expr} {px py pt pt2 : Pos} {kt k2 : Nat} (hk : env.scope.kind = .function) (hx : env.scope.names.lookup x = some .local) (hy : env.scope.names.lookup y = some .local) (hl : (py.line == px.line) = true) (hne : (y == x) = false)
    (na : notStar a = true) (nb : notStar b = true) (hf : ([a, b].all (foldedForSure 8)) = false) (hc : ([a, b].all (constantsAlone 8)) = false) : swappedStores [.Tuple [.Name x px, .Name y py] kt pt] (.Tuple [a, b] k2 pt2) env = pure (some [x, y]) := by
  have k1 : env.kindOf x = some .local := hx
  have k2 : env.kindOf y = some .local := hy
  have e1 : ((([(.Name x px), (.Name y py)] : List Expr).filterMap fun
    | .Name id pos => if env.kindOf id == some .local && pos.line == (Expr.Name x px).pos.line then some id else none
    | _ => none)) = [x, y] := by
    have l1 : (px.line == (Expr.Name x px).pos.line) = true := beq_self_eq_true _
    have hl : (py.line == (Expr.Name x px).pos.line) = true := hl
    simp only [List.filterMap_cons, List.filterMap_nil, k1, k2, l1, hl, beq_self_eq_true, Bool.and_self, if_true]
  have e2 : ([x, y] : List Str).eraseDups = [x, y] := by
    simp [List.eraseDups_cons, hne]
  have e3 : env.blockKind = .function := bk_fun hk
  have e4 := nostar_any2 na nb
  unfold swappedStores
  simp only [List.length_cons, List.length_nil, e3, List.head?_cons, Option.map_some, Option.getD_some]
  rw [if_neg (by decide)]
  exact sst_key rfl e2 _ _ _ _ (fun nm => do unsupported "assign.tuple-of-constant-expressions:order-of-the-stores"; pure (some nm)) e4 e1 hf hc
theorem nostar_any3 {a b c : Expr} (na : notStar a = true) (nb : notStar b = true) (nc : notStar c = true) : ([a, b, c].any fun | .Starred .. => true | _ => false) = false := by
  have h := nostar_any2 nb nc
  rw [List.any_cons, h, Bool.or_false]
  cases a <;> first | rfl | exact absurd na Bool.false_ne_true
theorem sst3 {env : PySem.Env} {x y z : Str} {a b c : Expr} {px py pz pt pt2 : Pos} {kt k2 : Nat} (hk : env.scope.kind = .function) (hx : env.scope.names.lookup x = some .local) (hy : env.scope.names.lookup y = some .local) (hz : env.scope.names.lookup z = some .local) (hl : (py.line == px.line) = true) (hl2 : (pz.line == px.line) = true) (hne : (y == x) = false) (hne2 : (z == x) = false) (hne3 : (z == y) = false)
    (na : notStar a = true) (nb : notStar b = true) (nc : notStar c = true) (hf : ([a, b, c].all (foldedForSure 8)) = false) (hc : ([a, b, c].all (constantsAlone 8)) = false) : swappedStores [.Tuple [.Name x px, .Name y py, .Name z pz] kt pt] (.Tuple [a, b, c] k2 pt2) env = pure (some [x, y, z]) := by
  have k1 : env.kindOf x = some .local := hx
  have k2 : env.kindOf y = some .local := hy
  have k3 : env.kindOf z = some .local := hz
  have e1 : ((([(.Name x px), (.Name y py), (.Name z pz)] : List Expr).filterMap fun
    | .Name id pos => if env.kindOf id == some .local && pos.line == (Expr.Name x px).pos.line then some id else none
    | _ => none)) = [x, y, z] := by
    have l1 : (px.line == (Expr.Name x px).pos.line) = true := beq_self_eq_true _
    have hl : (py.line == (Expr.Name x px).pos.line) = true := hl
    have hl2 : (pz.line == (Expr.Name x px).pos.line) = true := hl2
    simp only [List.filterMap_cons, List.filterMap_nil, k1, k2, k3, l1, hl, hl2, beq_self_eq_true, Bool.and_self, if_true]
  have e2 : ([x, y, z] : List Str).eraseDups = [x, y, z] := by
    simp [List.eraseDups_cons, hne, hne2, hne3]
  have e3 : env.blockKind = .function := bk_fun hk
  have e4 := nostar_any3 na nb nc
  unfold swappedStores
  simp only [List.length_cons, List.length_nil, e3, List.head?_cons, Option.map_some, Option.getD_some]
  rw [if_neg (by decide)]
  exact sst_key rfl e2 _ _ _ _ (fun nm => do unsupported "assign.tuple-of-constant-expressions:order-of-the-stores"; pure (some nm)) e4 e1 hf hc
end Hb
namespace Hb
open PySem PySem.Spec PyProof.Rows L2
section
variable {C : RC} {H0 H : Hp} {env : Hb.Env} {st : Hb.St} {σ : List (Option V)}
/-- a reader goes on -/
theorem Sim.rdSet (S : Sim C H0 H env st σ) {a dx : Addr} {n : Nat} {r r' : Str × Int} (er : st.rds[n]? = some r) (ea : C.gl (.rd n) = some a) : Sim C H0 (upd H a (rdO C dx r')) env { st with rds := st.rds.set n r' } σ := by
  have nF : C.F a = none := (S.row.gl ⟨_, ea⟩).1
  refine ⟨fun b u h => ?_, S.len, S.cell, fun j d1 h => ?_, S.apart, ⟨?_, ?_, fun m => ?_, S.row.inj⟩, fun b u h n => ?_⟩
  · rw [upd_ne fun z => by rw [z, nF] at h; cases h]
    exact S.sub b u h
  · obtain ⟨b, f1, f2, f3, f4, f5⟩ := S.own j d1 h
    refine ⟨b, f1, f2, f3, f4, f5.mono (.refl C) fun u hu => ?_⟩
    rw [upd_ne fun z => f3 ⟨_, by rw [z]; exact ea⟩]
    exact hu
  · have m := S.row.row
    unfold RowP at m ⊢
    cases q : st.row with
    | none => rw [q] at m; exact m
    | some l =>
      rw [q] at m
      obtain ⟨b, xs, h1, h2, h3, h4⟩ := m
      exact ⟨b, xs, h1, h2, by rw [upd_ne fun z => S.row.apartR h1 (by rw [z]; exact ea)]; exact h3, h4⟩
  · have m := S.row.mem
    unfold MemP at m ⊢
    cases q : st.memo with
    | none => rw [q] at m; exact m
    | some l =>
      rw [q] at m
      obtain ⟨b, h1, h2, h3⟩ := m
      exact ⟨b, h1, h2, h3.mono (.refl C) fun u hu => by
        rw [upd_ne fun z => S.row.apartM h1 (by rw [z]; exact ea)]; exact hu⟩
  · have z := S.row.rds m
    unfold RdP at z ⊢
    show (match (st.rds.set n r')[m]? with
      | none => C.gl (.rd m) = none
      | some r => ∃ a' dx', C.gl (.rd m) = some a' ∧ C.F a' = none ∧ upd H a (rdO C dx r') a' = some (rdO C dx' r))
    by_cases q : n = m
    · subst q
      have hl := (List.getElem?_eq_some_iff.mp er).1
      rw [List.getElem?_set_self hl]
      exact ⟨a, dx, ea, nF, upd_same⟩
    · rw [List.getElem?_set_ne q]
      cases e : st.rds[m]? with
      | none => rw [e] at z; exact z
      | some l =>
        rw [e] at z
        obtain ⟨a', dx', h1, h2, h3⟩ := z
        exact ⟨a', dx', h1, h2, by rw [upd_ne fun w => q (S.row.inj n m a ea (by rw [← w]; exact h1))]; exact h3⟩
  · rw [upd_ne fun z => n ⟨_, by rw [z]; exact ea⟩]
    exact S.keep b u h n
end
section
variable {X : Cx} {g : G} {W : WX} {C0 : RC} {H0 : Hp} {Wn : Nat} {env : Hb.Env} {o : Expr} {io : E} {pos tpos p1 : Pos} {j : Nat}
/-- o.at += 1 -/
theorem s_inc (hc : Cls X.K (g.fa rdC)) (hn : NoAttr X.K (g.fa rdC) "at") (ho : PE X o (tE g W H0 io env)) : PS X (.AugAssign (.Attribute o "at" tpos) .Add (.Constant (.int 1) j p1) pos) (tS g W C0 H0 Wn (.inc io) env) := by
  refine PS.imp (ps_fldaug ho pe_int in_add) fun D σ H ⟨B, C, st, oc, r, S, h⟩ => ⟨C, st, oc, S, ?_⟩
  have h : OutG ((do let v ← evE g.Pg g.cl io env; match v.2 with | .rdr n => do incRd n; pure (.nx env) | _ => bad : M Fl) st) (RS g C0 H0 B D) (ZS g W C0 H0) := h
  refine OutG.ex oc r S h fun kd st1 q v C1 H1 p1 rk _ => ?_
  obtain ⟨k0, d0⟩ := kd
  cases d0 with
  | rdr n =>
    obtain ⟨a, dx, tt, rfl, e1, e2, _, e3⟩ := repK_rdr p1.row rk
    have q := OutG.bind (show OutG ((incRd n >>= fun _ => pure (Fl.nx env) : M Fl) st1) (RS g C0 H0 B D) (ZS g W C0 H0) from q)
    unfold incRd at q
    rw [e2] at q
    have q : RN g C0 H0 B D env { st1 with rds := st1.rds.set n (tt.1, tt.2 + 1) } := q
    have oc1 := oc.step p1.le
    refine ⟨a, C1.fa rdC, dx, _, .int tt.2, rfl, e3, by rw [oc1.fa]; exact hc, by rw [oc1.fa]; exact hn, rfl, tt.2, 1, rfl, rfl, dx, _, e3, by simp, ?_⟩
    have S1 := S.step p1
    exact q σ C1 _ oc1 (r.step S p1) (S1.rdSet (r' := (tt.1, tt.2 + 1)) e2 e1)
  | _ => exact (show False from q).elim
end
end Hb
namespace Hb
open PySem PySem.Spec PyProof.Rows L2
/-! ### a tuple's targets that are not swapped -/
def isCell (sc : Scope) (e : Expr) : Bool := match e with
  | .Name x _ => (match sc.names.lookup x with | some .local => false | _ => true)
  | _ => true
def tupNone (sc : Scope) (t v : Expr) : Bool := notTup v || match t, v with
  | .Tuple ts _ _, .Tuple vs _ _ => ts.any (isCell sc) || vs.all (foldedForSure 8)
  | _, _ => false
theorem fm_lt {α β : Type} {f : α → Option β} {x : α} (hx : f x = none) : ∀ {l : List α}, x ∈ l → (l.filterMap f).length ≠ l.length
  | [], h => nomatch h
  | y :: r, h => by
    have hle := List.length_filterMap_le f r
    cases q : f y with
    | none =>
      rw [List.filterMap_cons, q]
      show (r.filterMap f).length ≠ r.length + 1
      omega
    | some z =>
      rw [List.filterMap_cons, q]
      show (r.filterMap f).length + 1 ≠ r.length + 1
      rcases List.mem_cons.mp h with rfl | h
      · rw [hx] at q; cases q
      · have := fm_lt (f := f) hx h
        omega
theorem sstN_key {α : Type} {n : Nat} {nm : List Str} {c1 bst d : Bool} {T : Sem (Option α)} (h : nm.length ≠ n) : (if c1 = true then pure none else if bst = true then pure none else if (nm.length != n || d) = true then pure none else T) = pure none := by
  have e : (nm.length != n || d) = true := by rw [bne_iff_ne.mpr h]; rfl
  rw [if_pos e]
  cases c1 <;> cases bst <;> rfl
theorem sstF_key {α : Type} {c1 bst d f : Bool} {T : Sem (Option α)} (h : f = true) : (if c1 = true then pure none else if bst = true then pure none else if d = true then pure none else if f = true then pure none else T) = pure none := by
  rw [if_pos h]
  cases c1 <;> cases bst <;> cases d <;> rfl
theorem sst_none {t v : Expr} {env : PySem.Env} (h : tupNone env.scope t v = true) : swappedStores [t] v env = pure none := by
  cases q : notTup v with
  | true => exact sst_no q t env
  | false =>
    cases t with
    | Tuple ts kt pt =>
      cases v with
      | Tuple vs kv pv =>
        have h : (ts.any (isCell env.scope) || vs.all (foldedForSure 8)) = true := h
        rcases Bool.or_eq_true_iff.mp h with h | h
        · obtain ⟨e, h1, h2⟩ := List.any_eq_true.mp h
          unfold swappedStores
          refine sstN_key (fm_lt (x := e) ?_ h1)
          cases e with
          | Name x p =>
            have k : ∀ z, env.kindOf x = z → (z == some NameKind.local) = false := fun z hz => by
              have h2 : (match env.kindOf x with | some .local => false | _ => true) = true := h2
              rw [hz] at h2
              cases z with
              | none => rfl
              | some m => cases m <;> first | rfl | exact absurd h2 Bool.false_ne_true
            show (if (env.kindOf x == some .local && _) = true then some x else none) = none
            rw [k _ rfl]
            rfl
          | _ => rfl
        · unfold swappedStores
          exact sstF_key h
      | _ => exact absurd q.symm Bool.false_ne_true
    | _ => 
      have h : (notTup v || false) = true := by cases v <;> exact h
      rw [q] at h
      exact absurd h Bool.false_ne_true
end Hb
namespace Hb
open PySem PySem.Spec PyProof.Rows L2

section
variable {X : Cx} {g : G} {W : WX} {C0 : RC} {H0 : Hp} {Wn : Nat} {env : Hb.Env} {C : RC} {H : Hp} {σ : List (Option V)} {st : Hb.St} {pos : Pos}
/-! ### a, b = x, y where a name is a cell: by a tuple that nobody keeps -/
theorem s_gen2 {i j : Nat} {x y : Str} {a b : Expr} {ia ib : E} {t1 t2 : Tgt} {o1 o2 : Bool} {px py pt : Pos} {kt k2 : Nat} {pt2 : Pos} (hc : X.calm = true) (hN : X.N.Nodup) (hi : X.N[i]? = some x) (hj : X.N[j]? = some y)
    (hx : Loc X.env.scope x) (hfx : X.fn x = true ∨ X.env.scope.names.lookup x = some .local) (hy : Loc X.env.scope y) (hfy : X.fn y = true ∨ X.env.scope.names.lookup y = some .local)
    (ht1 : tgtN t1 = some (o1, i)) (ht2 : tgtN t2 = some (o2, j)) (ha : PE X a (tE g W H0 ia env)) (hb : PE X b (tE g W H0 ib env)) (sa : notStar a = true) (sb : notStar b = true)
    (hs : swapsWithSole [.Tuple [.Name x px, .Name y py] kt pt] (.Tuple [a, b] k2 pt2) pos.line X.env = pure false)
    (hw : swappedStores [.Tuple [.Name x px, .Name y py] kt pt] (.Tuple [a, b] k2 pt2) X.env = pure none) :
    PS X (.Assign [.Tuple [.Name x px, .Name y py] kt pt] (.Tuple [a, b] k2 pt2) pos) (tS g W C0 H0 Wn (.asgs [t1, t2] [ia, ib]) env) := by
  refine PS.imp (ps_asg (pe_tup (pa_cons (k_of o1 ha) (pa_cons (k_of o2 hb) pa_nil (star_of sb _ _)) (star_of sa _ _))) (pg_tup (n := 2) hc (pgs_cons (pg_name hN hi hx hfx) (pgs_cons (pg_name hN hj hy hfy) pgs_nil rfl) rfl) rfl rfl) hs hw rfl) fun D σ H ⟨B, C, st, oc, r, S, o⟩ => ⟨C, st, oc, S, ?_⟩
  have o := OutG.bind (OutG.bind o)
  refine OutG.bind' ((o.imp (fun kd st1 q => ?_) fun _ _ _ z => ZS.zg oc r S z))
  obtain ⟨w1, e1, q⟩ := OutG.needB q
  rw [show (do let _ ← need (ownOf kd.1); pure kd : M KD) = pure kd by rw [e1]; rfl]
  refine (fun v C1 H1 p1 nb1 r1 n1 => ?_ : RK o1 C H _ kd st1)
  have S1 := S.step p1
  have rr1 := r.step S p1
  have oc1 := oc.step p1.le
  refine ⟨C1, st1, oc1, S1, ?_⟩
  have q := OutG.bind (OutG.bind q)
  refine OutG.bind' (q.imp (fun kd2 st2 q => ?_) fun _ _ _ z => ZS.zg oc1 rr1 S1 z)
  obtain ⟨w2, e2, q⟩ := OutG.needB q
  rw [show (do let _ ← need (ownOf kd2.1); pure kd2 : M KD) = pure kd2 by rw [e2]; rfl]
  refine (fun v2 C2 H2 p2 nb2 r2 n2 => ?_ : RK o2 C1 H1 _ kd2 st2)
  have S2 := S1.step p2
  refine ⟨by rw [sizeLine_eq]; simp, fun ad hp => ⟨ad, [v, v2], rfl, .inl (.inl upd_same), rfl, v, [v2], rfl, v2, [], rfl, rfl, ?_⟩⟩
  have pn := post_new p2.sub p2.row hp (.tup [v, v2])
  have S3 := S2.step pn
  have q : OutG (storeAll g.Pg g.cl [t1, t2] [kd, kd2] env st2) (fun env' st' => RN g C0 H0 B D env' st') (ZS g W C0 H0) := OutG.bind (show OutG ((storeAll g.Pg g.cl [t1, t2] [kd, kd2] env >>= fun env => pure (Fl.nx env)) st2) (RS g C0 H0 B D) (ZS g W C0 H0) from q)
  obtain ⟨gi, q⟩ := storeN ht1 nb1 (OutG.bind q)
  obtain ⟨gj, q⟩ := storeN ht2 nb2 (OutG.bind q)
  have old2 : ∀ (j : Nat) (d' : Hb.D) (a : Addr), env[j]? = some (some (true, d')) → σ[j]? = some (some (V.ref a)) → H1 a ≠ none := S1.oldOwn
  have SA := S3.putK (H1 := H) S.oldOwn (fun a h => S.gone h) nb1 ((r1.step p2).step pn) n1 gi
  have SB := SA.putK (H1 := H1) (old_set old2 (fun a e ⟨h1, h2⟩ => by
    rw [h1] at r1
    rw [if_pos rfl, h2] at r1
    obtain ⟨a', e', _, _, q'⟩ := r1
    rw [e] at e'; cases e'
    obtain ⟨u, hu⟩ := q'.there
    rw [hu]; exact fun z => nomatch z) S.len) (fun a h => S1.gone h) nb2 (r2.step pn) n2 gj
  exact (show RN g C0 H0 B D _ st2 from q) _ C2 _ ((oc1.step p2.le).step pn.le) ((rr1.step S1 p2).step S2 pn) SB
theorem s_gen3 {i j l : Nat} {x y z : Str} {a b c : Expr} {ia ib ic : E} {t1 t2 t3 : Tgt} {o1 o2 o3 : Bool} {px py pz pt : Pos} {kt k2 : Nat} {pt2 : Pos} (hc : X.calm = true) (hN : X.N.Nodup) (hi : X.N[i]? = some x) (hj : X.N[j]? = some y) (hl : X.N[l]? = some z)
    (hx : Loc X.env.scope x) (hfx : X.fn x = true ∨ X.env.scope.names.lookup x = some .local) (hy : Loc X.env.scope y) (hfy : X.fn y = true ∨ X.env.scope.names.lookup y = some .local) (hz : Loc X.env.scope z) (hfz : X.fn z = true ∨ X.env.scope.names.lookup z = some .local)
    (ht1 : tgtN t1 = some (o1, i)) (ht2 : tgtN t2 = some (o2, j)) (ht3 : tgtN t3 = some (o3, l)) (ha : PE X a (tE g W H0 ia env)) (hb : PE X b (tE g W H0 ib env)) (hcc : PE X c (tE g W H0 ic env)) (sa : notStar a = true) (sb : notStar b = true) (sc : notStar c = true)
    (hs : swapsWithSole [.Tuple [.Name x px, .Name y py, .Name z pz] kt pt] (.Tuple [a, b, c] k2 pt2) pos.line X.env = pure false)
    (hw : swappedStores [.Tuple [.Name x px, .Name y py, .Name z pz] kt pt] (.Tuple [a, b, c] k2 pt2) X.env = pure none) :
    PS X (.Assign [.Tuple [.Name x px, .Name y py, .Name z pz] kt pt] (.Tuple [a, b, c] k2 pt2) pos) (tS g W C0 H0 Wn (.asgs [t1, t2, t3] [ia, ib, ic]) env) := by
  refine PS.imp (ps_asg (pe_tup (pa_cons (k_of o1 ha) (pa_cons (k_of o2 hb) (pa_cons (k_of o3 hcc) pa_nil (star_of sc _ _)) (star_of sb _ _)) (star_of sa _ _))) (pg_tup (n := 3) hc (pgs_cons (pg_name hN hi hx hfx) (pgs_cons (pg_name hN hj hy hfy) (pgs_cons (pg_name hN hl hz hfz) pgs_nil rfl) rfl) rfl) rfl rfl) hs hw rfl) fun D σ H ⟨B, C, st, oc, r, S, o⟩ => ⟨C, st, oc, S, ?_⟩
  have o := OutG.bind (OutG.bind o)
  refine OutG.bind' ((o.imp (fun kd st1 q => ?_) fun _ _ _ z => ZS.zg oc r S z))
  obtain ⟨w1, e1, q⟩ := OutG.needB q
  rw [show (do let _ ← need (ownOf kd.1); pure kd : M KD) = pure kd by rw [e1]; rfl]
  refine (fun v C1 H1 p1 nb1 r1 n1 => ?_ : RK o1 C H _ kd st1)
  have S1 := S.step p1
  have rr1 := r.step S p1
  have oc1 := oc.step p1.le
  refine ⟨C1, st1, oc1, S1, ?_⟩
  have q := OutG.bind (OutG.bind q)
  refine OutG.bind' (q.imp (fun kd2 st2 q => ?_) fun _ _ _ z => ZS.zg oc1 rr1 S1 z)
  obtain ⟨w2, e2, q⟩ := OutG.needB q
  rw [show (do let _ ← need (ownOf kd2.1); pure kd2 : M KD) = pure kd2 by rw [e2]; rfl]
  refine (fun v2 C2 H2 p2 nb2 r2 n2 => ?_ : RK o2 C1 H1 _ kd2 st2)
  have S2 := S1.step p2
  have rr2 := rr1.step S1 p2
  have oc2 := oc1.step p2.le
  refine ⟨C2, st2, oc2, S2, ?_⟩
  have q := OutG.bind (OutG.bind q)
  refine OutG.bind' (q.imp (fun kd3 st3 q => ?_) fun _ _ _ z => ZS.zg oc2 rr2 S2 z)
  obtain ⟨w3, e3, q⟩ := OutG.needB q
  rw [show (do let _ ← need (ownOf kd3.1); pure kd3 : M KD) = pure kd3 by rw [e3]; rfl]
  refine (fun v3 C3 H3 p3 nb3 r3 n3 => ?_ : RK o3 C2 H2 _ kd3 st3)
  have S3 := S2.step p3
  refine ⟨by rw [sizeLine_eq]; simp, fun ad hp => ⟨ad, [v, v2, v3], rfl, .inl (.inl upd_same), rfl, v, [v2, v3], rfl, v2, [v3], rfl, v3, [], rfl, rfl, ?_⟩⟩
  have pn := post_new p3.sub p3.row hp (.tup [v, v2, v3])
  have S4 := S3.step pn
  have q : OutG (storeAll g.Pg g.cl [t1, t2, t3] [kd, kd2, kd3] env st3) (fun env' st' => RN g C0 H0 B D env' st') (ZS g W C0 H0) := OutG.bind (show OutG ((storeAll g.Pg g.cl [t1, t2, t3] [kd, kd2, kd3] env >>= fun env => pure (Fl.nx env)) st3) (RS g C0 H0 B D) (ZS g W C0 H0) from q)
  obtain ⟨gi, q⟩ := storeN ht1 nb1 (OutG.bind q)
  obtain ⟨gj, q⟩ := storeN ht2 nb2 (OutG.bind q)
  obtain ⟨gl, q⟩ := storeN ht3 nb3 (OutG.bind q)
  have there : ∀ {o : Bool} {kd : KD} {v : V} {C1 : RC} {H1 : Hp}, RepK C1 H1 (if o = true then kd.1 else .sh) v kd.2 → ∀ a : Addr, v = .ref a → (o = true ∧ kd.1 = .fr) → H1 a ≠ none := fun {o kd v C1 H1} r a e ⟨h1, h2⟩ => by
    rw [h1] at r
    rw [if_pos rfl, h2] at r
    obtain ⟨a', e', _, _, q'⟩ := r
    rw [e] at e'; cases e'
    obtain ⟨u, hu⟩ := q'.there
    rw [hu]; exact fun z => nomatch z
  have SA := S4.putK (H1 := H) S.oldOwn (fun a h => S.gone h) nb1 (((r1.step p2).step p3).step pn) n1 gi
  have SB := SA.putK (H1 := H1) (old_set S1.oldOwn (there r1) S.len) (fun a h => S1.gone h) nb2 ((r2.step p3).step pn) n2 gj
  have SC := SB.putK (H1 := H2) (old_set (old_set S2.oldOwn (there (r1.step p2)) S.len) (there r2) (by rw [List.length_set, List.length_set]; exact S.len)) (fun a h => S2.gone h) nb3 (r3.step pn) n3 gl
  exact (show RN g C0 H0 B D _ st3 from q) _ C3 _ ((oc2.step p3.le).step pn.le) ((rr2.step S2 p3).step S3 pn) SC
end
end Hb
namespace Hb
open PySem PySem.Spec PyProof.Rows L2

section
variable {X : Cx} {g : G} {W : WX} {C0 : RC} {H0 : Hp} {Wn : Nat} {env : Hb.Env} {C : RC} {H : Hp} {σ : List (Option V)} {st : Hb.St} {pos : Pos}
/-! ### o[k], b = x, y -/
theorem s_gen2s {x j : Nat} {nm y : Str} {a b ke : Expr} {ia ib ike : E} {p p2 py pt : Pos} {kt k2 : Nat} {pt2 : Pos} (hK : X.K = g.K) (hwd : X.w = g.w) (hu : X.A.units + 100 < cLine) (hc : X.calm = true) (hN : X.N.Nodup) (hx : X.N[x]? = some nm)
    (hv : Vis X.env.scope nm) (hd : (nm == ("__debug__" : Str)) = false) (hcd : (nm == ("__classdict__" : Str)) = false) (hk : ∀ env, PE X ke (tE g W H0 ike env)) (hns : notSlice ke = true)
    (hj : X.N[j]? = some y) (hy : Loc X.env.scope y) (hfy : X.fn y = true ∨ X.env.scope.names.lookup y = some .local)
    (ha : PE X a (tE g W H0 ia env)) (hb : PE X b (tE g W H0 ib env)) (sa : notStar a = true) (sb : notStar b = true)
    (hs : swapsWithSole [.Tuple [.Subscript (.Name nm p) ke p2, .Name y py] kt pt] (.Tuple [a, b] k2 pt2) pos.line X.env = pure false)
    (hw : swappedStores [.Tuple [.Subscript (.Name nm p) ke p2, .Name y py] kt pt] (.Tuple [a, b] k2 pt2) X.env = pure none) :
    PS X (.Assign [.Tuple [.Subscript (.Name nm p) ke p2, .Name y py] kt pt] (.Tuple [a, b] k2 pt2) pos) (tS g W C0 H0 Wn (.asgs [.sub x ike, .pat (.nm j)] [ia, ib]) env) := by
  have has : ∀ v, assign (.Subscript (.Name nm p) ke p2) X.env v = (do
      let ov ← holding [v] (eval (.Name nm p) X.env)
      let iv ← holding [v, ov] (eval ke X.env)
      standAt p2
      holding [v, ov, iv] (setItem ov iv v)
      release [v, ov, iv] []) := by
    intro v
    cases ke <;> first | rfl | exact absurd hns Bool.false_ne_true
  refine PS.imp (ps_asg (pe_tup (pa_cons (k_of false ha) (pa_cons (k_of false hb) pa_nil (star_of sb _ _)) (star_of sa _ _))) (pg_tup (n := 2) hc (pgs_cons (pg_sub (pe_var hx hv hd hcd) (hk env) (set_D hu) has) (pgs_cons (pg_name hN hj hy hfy) pgs_nil rfl) rfl) rfl rfl) hs hw rfl) fun D σ H ⟨B, C, st, oc, r, S, o⟩ => ⟨C, st, oc, S, ?_⟩
  have o := OutG.bind (OutG.bind o)
  refine OutG.bind' ((o.imp (fun kd st1 q => ?_) fun _ _ _ z => ZS.zg oc r S z))
  obtain ⟨w1, e1, q⟩ := OutG.needB q
  rw [show (do let _ ← need (ownOf kd.1); pure kd : M KD) = pure kd by rw [e1]; rfl]
  refine (fun v C1 H1 p1 nb1 r1 n1 => ?_ : RK false C H _ kd st1)
  have S1 := S.step p1
  have rr1 := r.step S p1
  have oc1 := oc.step p1.le
  refine ⟨C1, st1, oc1, S1, ?_⟩
  have q := OutG.bind (OutG.bind q)
  refine OutG.bind' (q.imp (fun kd2 st2 q => ?_) fun _ _ _ z => ZS.zg oc1 rr1 S1 z)
  obtain ⟨w2, e2, q⟩ := OutG.needB q
  rw [show (do let _ ← need (ownOf kd2.1); pure kd2 : M KD) = pure kd2 by rw [e2]; rfl]
  refine (fun v2 C2 H2 p2 nb2 r2 n2 => ?_ : RK false C1 H1 _ kd2 st2)
  have S2 := S1.step p2
  have rr2 := rr1.step S1 p2
  have oc2 := oc1.step p2.le
  refine ⟨by rw [sizeLine_eq]; simp, fun ad hp => ⟨ad, [v, v2], rfl, .inl (.inl upd_same), rfl, v, [v2], rfl, ?_⟩⟩
  have pn := post_new p2.sub p2.row hp (.tup [v, v2])
  have S3 := S2.step pn
  have rr3 := rr2.step S2 pn
  have oc3 := oc2.step pn.le
  have rv : Rep C2 v kd.2 := r1.step p2
  have rv2 : Rep C2 v2 kd2.2 := r2
  have q : OutG (storeAll g.Pg g.cl [.sub x ike, .pat (.nm j)] [kd, kd2] env st2) (fun env' st' => RN g C0 H0 B D env' st') (ZS g W C0 H0) := OutG.bind (show OutG ((storeAll g.Pg g.cl [.sub x ike, .pat (.nm j)] [kd, kd2] env >>= fun env => pure (Fl.nx env)) st2) (RS g C0 H0 B D) (ZS g W C0 H0) from q)
  -- the second name
  have fin : ∀ (env' : Hb.Env) (st3 : Hb.St) (C3 : RC) (H3 : Hp), OutG (storeAll g.Pg g.cl [.pat (.nm j)] [kd2] env' st3) (fun env' st' => RN g C0 H0 B D env' st') (ZS g W C0 H0) → OkC g C3 → Reach C0 H0 B C3 → Sim C3 H0 H3 env' st3 σ → Rep C3 v2 kd2.2 → D.nx (σ.set j (some v2)) H3 := fun env' st3 C3 H3 q oc3 rr S3 rv => by
    obtain ⟨gj, q⟩ := storeN (t := .pat (.nm j)) (o := false) rfl nb2 (OutG.bind q)
    exact (show RN g C0 H0 B D _ st3 from q) _ C3 H3 oc3 rr (S3.put rv gj)
  have q := OutG.bind q
  have q : OutG ((do guard_ (bound env x); let k ← evE g.Pg g.cl ike env; storeSub env x k.2 kd.2 : M Hb.Env) st2) (fun env' st' => OutG (storeAll g.Pg g.cl [.pat (.nm j)] [kd2] env' st') (fun env' st' => RN g C0 H0 B D env' st') (ZS g W C0 H0)) (ZS g W C0 H0) := by
    obtain ⟨k, d⟩ := kd
    cases k with
    | br => exact absurd rfl nb1
    | sh => exact q
    | fr => exact q
  obtain ⟨gb, q⟩ := OutG.guardB q
  obtain ⟨w, d, hxx⟩ : ∃ w d, env[x]? = some (some (w, d)) := by
    unfold bound at gb
    split at gb
    · rename_i p e; exact ⟨p.1, p.2, e⟩
    · exact absurd gb Bool.false_ne_true
  cases w with
  | true =>
    obtain ⟨ad, es, nF, nr, n0, q0⟩ := S3.own x d hxx
    refine ⟨_, es, C2, st2, oc3, S3, (OutG.bind q).imp (fun kd3 st3 q iv C4 H4 p4 rk n => ?_) fun _ _ _ z => ZS.zg oc3 rr3 S3 z⟩
    have S4 := S3.step p4
    have rr4 := rr3.step S3 p4
    have oc4 := oc3.step p4.le
    unfold storeSub at q
    rw [hxx] at q
    obtain ⟨d', e1, q⟩ := OutG.needB q
    obtain ⟨ad2, es2, _, _, _, q2⟩ := S4.own x d hxx
    rw [es] at es2
    cases es2
    obtain ⟨k, kd3⟩ := kd3
    refine ⟨C4, st3, d, k, kd3, kd.2, S4.opC hK hwd oc4, rk, rv.up p4, ?_⟩
    cases d with
    | lst xs =>
      cases kd3 with
      | int i =>
        obtain ⟨j', e2, e3⟩ := Option.map_eq_some_iff.mp (show (seqIx i xs.length).map (fun j => Hb.D.lst (xs.set j kd.2)) = some d' from e1)
        subst e3
        obtain ⟨vs, hv2, rv2'⟩ := q2
        refine .inl ⟨ad, vs, i, j', rfl, hv2, rfl, by rw [rv2'.length]; exact e2, v2, [], rfl, rfl, ?_⟩
        exact fin _ st3 C4 _ q oc4 rr4 (S4.mut hxx es ⟨_, upd_same, rv2'.set (rv.up p4) j'⟩) (rv2.up p4)
      | _ => exact nomatch e1
    | dct kvs =>
      have e1 : (if (kOk kvs kd3 && decide (kvs.length < sizeMax)) = true then some (Hb.D.dct (dput kvs kd3 kd.2)) else none) = some d' := by cases kd3 <;> exact e1
      split at e1
      · rename_i gg
        obtain ⟨g1, g2⟩ := ands gg
        cases e1
        obtain ⟨es3, h3, h4, h5⟩ := q2
        refine .inr ⟨ad, es3, kvs, rfl, h3, h4, h5, g1, by rw [← sizeMax_eq]; exact of_decide_eq_true g2, fun es' re' dk' => ⟨v2, [], rfl, rfl, ?_⟩⟩
        exact fin _ st3 C4 _ q oc4 rr4 (S4.mut hxx es ⟨es', upd_same, re', dk'⟩) (rv2.up p4)
      · cases e1
    | _ => exact nomatch e1
  | false =>
    obtain ⟨vx, es, rx⟩ := S3.cell x d hxx
    refine ⟨_, es, C2, st2, oc3, S3, (OutG.bind q).imp (fun kd3 st3 q iv C4 H4 p4 rk n => ?_) fun _ _ _ z => ZS.zg oc3 rr3 S3 z⟩
    have S4 := S3.step p4
    have rr4 := rr3.step S3 p4
    have oc4 := oc3.step p4.le
    unfold storeSub at q
    rw [hxx] at q
    obtain ⟨k, kd3⟩ := kd3
    refine ⟨C4, st3, d, k, kd3, kd.2, S4.opC hK hwd oc4, rk, rv.up p4, ?_⟩
    cases d with
    | row =>
      cases er : st3.row with
      | none =>
        have q := OutG.bind q
        unfold theRow at q
        rw [er] at q
        exact (show False from q).elim
      | some rw_ =>
        have q := OutG.bind q
        unfold theRow at q
        rw [er] at q
        cases kd3 with
        | int i =>
          obtain ⟨j', e2, q⟩ := OutG.needB q
          obtain ⟨gg, q⟩ := OutG.guardB q
          obtain ⟨ra, xs, e4, e5, e6, e7⟩ := row_at (X := X) S4.row (show RepK C4 H4 .sh vx .row from rx.up p4) er
          subst e4
          refine .inl ⟨ra, xs, i, j', rfl, e6, rfl, by rw [e7.length]; exact e2, v2, [], rfl, rfl, ?_⟩
          exact fin env _ C4 _ q oc4 rr4 (S4.rowSet er e5 e6 e7 (rv.up p4)) (rv2.up p4)
        | _ => exact (show False from q).elim
    | memo =>
      cases er : st3.memo with
      | none =>
        have q := OutG.bind q
        unfold theMemo at q
        rw [er] at q
        exact (show False from q).elim
      | some kvs =>
        have q := OutG.bind q
        unfold theMemo at q
        rw [er] at q
        obtain ⟨gg, q⟩ := OutG.guardB (show OutG ((do guard_ (kOk kvs kd3 && decide (kvs.length < sizeMax)); setMemo (dput kvs kd3 kd.2); pure env : M Hb.Env) st3) _ _ from q)
        obtain ⟨g1, g2⟩ := ands gg
        obtain ⟨ra, es3, e4, e5, _, h3, h4, h5⟩ := mem_at S4.row (show RepK C4 H4 .sh vx .memo from rx.up p4) er
        subst e4
        refine .inr ⟨ra, es3, kvs, rfl, h3, h4, h5, g1, by rw [← sizeMax_eq]; exact of_decide_eq_true g2, fun es' re' dk' => ⟨v2, [], rfl, rfl, ?_⟩⟩
        exact fin env _ C4 _ q oc4 rr4 (S4.memSet e5 re' dk') (rv2.up p4)
    | _ => exact (show False from q).elim
end
end Hb
namespace Hb
open PySem PySem.Spec PyProof.Rows L2

/-! ### own exceptions without fields -/
section
variable {X : Cx} {A : Addr} {bmB : List Value} {B newId initId : String}
/-- Cls() -/
theorem pmk_own0 {x : Str} {p pos : Pos} (F : ExcBaseFacts B newId initId bmB) (q : PySem.W.excIn X.K A bmB newId = true) (gC : X.mg x = some (.ref A)) (kC : PySem.W.keepIn X.K (.ref A) = true) (r : Raises X (.ref A)) (hg : Gl X x)
    (hdb : (x == ("__debug__" : Str)) = false) : PMk X (.Call (.Name x p) [] [] pos) (fun _ H Q => Q (.ref A) none H) := by
  intro pins s σ H Q I h
  refine wpAny_Call_Name_kw (ld_glob I hg gC ?_ hdb)
  refine PySem.W.callWith_K0 I.kIn kC ?_
  show wpAny _ _ (call (.ref A) []) _ _ _
  obtain ⟨hp, g, d, t, os⟩ := s
  obtain ⟨bm, N, nm, qn, bs, hdct, sn, sub, ab, col, dd, k0, k1, k2, k3, k5, mN, hC, hN, hni, T⟩ := exc_obj I.kIn q
  refine wpAny_call_exc_subT F T hC hN hni (fun h' e hm => ?_) (by show 0 ≤ sizeLine; omega)
  exact mk_of I hm r h (I.hok.gone hm.new)
end
section
variable {X : Cx} {xs : List (Str × Nat)} {g : G} {W : WX} {C0 : RC} {H0 : Hp} {Wn : Nat} {env : Hb.Env} {pos pos2 p : Pos}
theorem s_raise {fs : List (Str × Nat × Str)} {x : Str} {c : Nat} (e : XEx X xs fs g) (hc : X.calm = true) (tk : Takes X W) (hx : xs.lookup x = some c) (hg : Gl X x) (hdb : (x == ("__debug__" : Str)) = false) :
    PS X (.Raise (some (.Call (.Name x p) [] [] pos)) none pos2) (tS g W C0 H0 Wn (.raise c none) env) := by
  obtain ⟨ca, E⟩ := e.ex
  obtain ⟨gC, b⟩ := E.nf x c hx
  refine PS.imp (ps_raise hc tk (pmk_own0 F.excBase_ValueError b.own gC b.keep (raises_own b.sub b.typ) hg hdb)) fun D σ H ⟨B, C, st, oc, r, S, o⟩ => ?_
  exact (show ZS g W C0 H0 c .non st from o) _ _ σ C H oc (S.post r) (E.r0 C H x c hx)
theorem fv_of {C : RC} {H : Hp} {k : K} {v : V} {d : D} (r : RepK C H k v d) (h : fldOk d = true) : Fv v d := by
  cases d with
  | int i =>
    cases k with
    | sh => cases r; exact .inl ⟨i, rfl, rfl⟩
    | fr => obtain ⟨_, _, _, _, q⟩ := r; exact q.elim
    | br => obtain ⟨_, _, _, _, q⟩ := r; exact q.elim
  | non =>
    cases k with
    | sh => cases r; exact .inr ⟨rfl, rfl⟩
    | fr => obtain ⟨_, _, _, _, q⟩ := r; exact q.elim
    | br => obtain ⟨_, _, _, _, q⟩ := r; exact q.elim
  | _ => cases h
theorem post_xd {C : RC} {H : Hp} {st : Hb.St} {p : Addr} {o : HO} (sub : ∀ a o, C.F a = some o → H a = some o) (row : RowOk C H st) (hp : H p = none) : Post C H C (upd H p o) st := by
  have ne : ∀ b o, H b = some o → b ≠ p := fun b o e z => by rw [z, hp] at e; cases e
  refine ⟨.refl C, fun a o h => ?_, fun _ _ h => .inl h, fun _ h => .inl h, fun a o h _ => ?_, fun a o h => ⟨o, ?_⟩, rowOk_upd (.refl C) rfl (fun _ _ => rfl) hp row⟩
  · rw [upd_ne (ne a o (sub a o h))]; exact sub a o h
  · rw [upd_ne (ne a o h)]; exact h
  · rw [upd_ne (ne a o h)]; exact h
theorem s_raiseF {fs : List (Str × Nat × Str)} {x f : Str} {c : Nat} {a : Expr} {ie : E} (e : XEx X xs fs g) (hc : X.calm = true) (tk : Takes X W) (hdp : X.A.depth + 2 < recursionLimit) (hx : fs.lookup x = some (c, f)) (hg : Gl X x) (hdb : (x == ("__debug__" : Str)) = false) (ha : PE X a (tE g W H0 ie env)) (hs : notStar a = true) :
    PS X (.Raise (some (.Call (.Name x p) [a] [] pos)) none pos2) (tS g W C0 H0 Wn (.raise c (some ie)) env) := by
  obtain ⟨ca, E⟩ := e.ex
  obtain ⟨gC, b, _, su⟩ := E.wf x c f hx
  refine PS.imp (ps_raise hc tk (pmk_fx b.fi hdp su hg gC (pa_cons ha pa_nil (star_of hs [] _)) hdb (star_of hs [] _))) fun D σ H ⟨B, C, st, oc, r, S, o⟩ => ?_
  refine ⟨C, st, oc, S, OutG.ex oc r S (show OutG ((do let v ← evE g.Pg g.cl ie env; guard_ (fldOk v.2); fun s => Out.exc c v.2 s : M Fl) st) _ _ from o) fun kd st1 q v C1 H1 p1 rk _ => ?_⟩
  obtain ⟨gk, q⟩ := OutG.guardB q
  refine ⟨v, rfl, fun d hd => ?_⟩
  exact (show ZS g W C0 H0 c kd.2 st1 from q) _ _ σ C1 _ (oc.step p1.le) (((S.post r).trans p1).trans (post_xd p1.sub p1.row hd)) (E.r1 C1 _ c kd.2 (some d) ⟨x, f, d, v, hx, rfl, upd_same, fv_of rk gk⟩)
end
/-! ### what stands in an except suite -/
section
variable {X : Cx} {a A A' : Addr} {oe : Obj} {pn : List (Addr × Obj)} {i : Nat} {en cn : Str} {p pe pc pos : Pos} {b : Bool}
theorem pe_isx {d : Option Addr} (ec : ExcC X.K A) (hz : Zc (.ref A) d oe) (hf : ∃ vs, oe.data = .fields vs) (hk : PySem.W.kitOne X.K (.ref A) (.ref A') = some b) (hg : Gl X "isinstance") (hm : X.mg "isinstance" = none)
    (hN : X.N[i]? = some en) (hv : Vis X.env.scope en) (hd : (en == ("__debug__" : Str)) = false) (hcd : (en == ("__classdict__" : Str)) = false) (hgC : Gl X cn) (hmC : X.mg cn = some (.ref A')) (hdC : (cn == ("__debug__" : Str)) = false) :
    PE (X.suite a ((a, oe) :: pn)) (.Call (.Name "isinstance" p) [.Name en pe, .Name cn pc] [] pos) (fun σ H Q => σ[i]? = some (some (.ref a)) ∧ (d = none ∨ ∃ dd fs, d = some dd ∧ H dd = some (.xd fs)) ∧ Q (.bl b) H) := by
  refine PE.imp (pe_callB (X := X.suite a ((a, oe) :: pn)) (call_isO ec hz hf) hg hm boot_isinstance (pa_cons (pe_var (X := X.suite a ((a, oe) :: pn)) hN hv hd hcd) (pa_cons (pe_glob (X := X.suite a ((a, oe) :: pn)) (v := .ref A') hgC hmC rfl hdC) pa_nil rfl) rfl) (by decide) (by decide) rfl rfl) fun σ H Q ⟨h1, h2, q⟩ => ?_
  exact ⟨.ref a, h1, .ref A', .ref A', b, rfl, fun u e => e, hk, h2, q⟩
end
section
variable {C : RC} {H0 H : Hp} {env : Hb.Env} {st : Hb.St} {σ : List (Option V)}
theorem Sim.forget (S : Sim C H0 H env st σ) (i : Nat) (x : Option V) : Sim C H0 H (env.set i none) st (σ.set i x) := by
  have old : ∀ (j : Nat) y, (env.set i none)[j]? = some (some y) → env[j]? = some (some y) ∧ i ≠ j := fun j y h => by
    rw [List.getElem?_set] at h
    split at h
    · split at h
      · cases Option.some.inj h
      · cases h
    · exact ⟨h, by assumption⟩
  refine ⟨S.sub, by rw [List.length_set, List.length_set, S.len], fun j d h => ?_, fun j d h => ?_, fun j k a d d' h h' z z' => ?_, S.row, S.keep⟩
  · obtain ⟨h, ne⟩ := old j _ h
    rw [List.getElem?_set_ne ne]
    exact S.cell j d h
  · obtain ⟨h, ne⟩ := old j _ h
    rw [List.getElem?_set_ne ne]
    exact S.own j d h
  · obtain ⟨h, ne⟩ := old j _ h
    obtain ⟨h', ne'⟩ := old k _ h'
    rw [List.getElem?_set_ne ne] at z
    rw [List.getElem?_set_ne ne'] at z'
    exact S.apart j k a d d' h h' z z'
end
/-- a field's value as the slot has it -/
def fvV : D → V
  | .int i => .int i
  | _ => .non
theorem Fv.eq {v : V} {d : D} (h : Fv v d) : v = fvV d := by
  rcases h with ⟨i, rfl, rfl⟩ | ⟨rfl, rfl⟩ <;> rfl
/-- what the suite wants of its state -/
def tH (xs : List (Str × Nat)) (fs : List (Str × Nat × Str)) (ca : Nat → Addr) (i : Nat) (h : HS) (a : Addr) (cls : Value) (d : Option Addr) : TS := fun D σ H => ∃ c fl, Kn xs fs c ∧ cls = .ref (ca c) ∧ (((∃ x, xs.lookup x = some c) ∧ d = none) ∨ FlAt fs H c fl d) ∧ σ[i]? = some (some (.ref a)) ∧ match h with
  | .asg j cc A B => D.nx (σ.set j (some (.str (if isxB c cc = true then A else B)))) H
  | .ifn cc v => if isxB c cc = true then D.nx σ H else D.rt (.bl v) H
  | .fld j cc B => if isxB c cc = true then D.nx (σ.set j (some (fvV fl))) H else D.nx (σ.set j (some (.str B))) H
theorem fl_dict {xs : List (Str × Nat)} {fs : List (Str × Nat × Str)} {H : Hp} {c : Nat} {fl : D} {d : Option Addr} (h : ((∃ x, xs.lookup x = some c) ∧ d = none) ∨ FlAt fs H c fl d) : d = none ∨ ∃ dd es, d = some dd ∧ H dd = some (.xd es) := by
  rcases h with ⟨_, h⟩ | ⟨x, f, dd, v, _, e1, e2, _⟩
  · exact .inl h
  · exact .inr ⟨dd, _, e1, e2⟩
section
variable {X : Cx} {xs : List (Str × Nat)} {fs : List (Str × Nat × Str)} {xr : XR} {ca : Nat → Addr} {a : Addr} {oe : Obj} {cls : Value} {d : Option Addr} {pn : List (Addr × Obj)} {i j cc : Nat} {en cn t f : Str} {p pe pc pt pi pf pos pos2 : Pos} {A B : Str}
theorem h_asg {ja jb : Nat} {pA pB : Pos} (E : ExA X.prog X.K X.mg xs fs xr ca)
    (hz : Zc cls d oe) (hf : ∃ vs, oe.data = .fields vs) (hx : Kn xs fs cc) (hmx : X.mg cn = some (.ref (ca cc))) (hg : Gl X "isinstance") (hm : X.mg "isinstance" = none)
    (hnd : X.N.Nodup) (hN : X.N[i]? = some en) (hv : Vis X.env.scope en) (hd : (en == ("__debug__" : Str)) = false) (hcd : (en == ("__classdict__" : Str)) = false) (hgC : Gl X cn) (hdC : (cn == ("__debug__" : Str)) = false)
    (hj : X.N[j]? = some t) (lx : Loc X.env.scope t) (fx : X.fn t = true ∨ X.env.scope.names.lookup t = some .local) :
    PS (X.suite a ((a, oe) :: pn)) (.Assign [.Name t pt] (.IfExp (.Call (.Name "isinstance" p) [.Name en pe, .Name cn pc] [] pos) (.Constant (.str A) ja pA) (.Constant (.str B) jb pB) pi) pos2) (tH xs fs ca i (.asg j cc A B) a cls d) := by
  refine ⟨fun pins s σ H D I ⟨c, fl, e1, e2, e3, e4, q⟩ => ?_⟩
  subst e2
  have hk := (E.kt c cc e1 hx).1
  refine (ps_set (X := X.suite a ((a, oe) :: pn)) hnd hj lx (pe_ifExp (pt_val (pe_isx (E.ec e1) hz hf hk hg hm hN hv hd hcd hgC hmx hdC)) (pe_str (X := X.suite a ((a, oe) :: pn))) (pe_str (X := X.suite a ((a, oe) :: pn)))) rfl fx).run pins s σ H D I ?_
  have q : D.nx (σ.set j (some (.str (if isxB c cc = true then A else B)))) H := q
  refine ⟨e4, fl_dict e3, ?_⟩
  cases z : isxB c cc with
  | true => rw [z, if_pos rfl] at q; exact ⟨_, rfl, q⟩
  | false => rw [z, if_neg Bool.false_ne_true] at q; exact ⟨_, rfl, q⟩
theorem h_ifn {v : Bool} {jb : Nat} {pA pB : Pos} (E : ExA X.prog X.K X.mg xs fs xr ca)
    (hz : Zc cls d oe) (hf : ∃ vs, oe.data = .fields vs) (hx : Kn xs fs cc) (hmx : X.mg cn = some (.ref (ca cc))) (hg : Gl X "isinstance") (hm : X.mg "isinstance" = none)
    (hN : X.N[i]? = some en) (hv : Vis X.env.scope en) (hd : (en == ("__debug__" : Str)) = false) (hcd : (en == ("__classdict__" : Str)) = false) (hgC : Gl X cn) (hdC : (cn == ("__debug__" : Str)) = false) :
    PS (X.suite a ((a, oe) :: pn)) (.If (.UnaryOp .Not (.Call (.Name "isinstance" p) [.Name en pe, .Name cn pc] [] pos) pt) [.Return (some (.Constant (.bool v) jb pB)) pA] [] pi) (tH xs fs ca i (.ifn cc v) a cls d) := by
  refine ⟨fun pins s σ H D I ⟨c, fl, e1, e2, e3, e4, q⟩ => ?_⟩
  subst e2
  have hk := (E.kt c cc e1 hx).1
  refine (ps_if (X := X.suite a ((a, oe) :: pn)) (pt_not (pt_val (pe_isx (E.ec e1) hz hf hk hg hm hN hv hd hcd hgC hmx hdC))) (pss_one (ps_ret pe_bl)) pss_nil).run pins s σ H D I ?_
  have q : if isxB c cc = true then D.nx σ H else D.rt (.bl v) H := q
  refine ⟨e4, fl_dict e3, ?_⟩
  cases z : isxB c cc with
  | true => rw [z, if_pos rfl] at q; exact ⟨_, rfl, q⟩
  | false => rw [z, if_neg Bool.false_ne_true] at q; exact ⟨_, rfl, q⟩
/-- t = e.f if isinstance(e, C) else B -/
theorem h_fld {jb : Nat} {pA pB : Pos} (E : ExA X.prog X.K X.mg xs fs xr ca)
    (hz : Zc cls d oe) (hf : ∃ vs, oe.data = .fields vs) (hx : fs.lookup cn = some (cc, f)) (hg : Gl X "isinstance") (hm : X.mg "isinstance" = none)
    (hnd : X.N.Nodup) (hN : X.N[i]? = some en) (hv : Vis X.env.scope en) (hd : (en == ("__debug__" : Str)) = false) (hcd : (en == ("__classdict__" : Str)) = false) (hgC : Gl X cn) (hdC : (cn == ("__debug__" : Str)) = false)
    (hj : X.N[j]? = some t) (lx : Loc X.env.scope t) (fx : X.fn t = true ∨ X.env.scope.names.lookup t = some .local) :
    PS (X.suite a ((a, oe) :: pn)) (.Assign [.Name t pt] (.IfExp (.Call (.Name "isinstance" p) [.Name en pe, .Name cn pc] [] pos) (.Attribute (.Name en pf) f pA) (.Constant (.str B) jb pB) pi) pos2) (tH xs fs ca i (.fld j cc B) a cls d) := by
  refine ⟨fun pins s σ H D I ⟨c, fl, e1, e2, e3, e4, q⟩ => ?_⟩
  subst e2
  obtain ⟨hmx, ef, n0, _⟩ := E.wf cn cc f hx
  have hk := (E.kt c cc e1 (.inr ⟨cn, f, hx⟩)).1
  refine (ps_set (X := X.suite a ((a, oe) :: pn)) hnd hj lx (pe_ifExp (pt_val (pe_isx (E.ec e1) hz hf hk hg hm hN hv hd hcd hgC hmx hdC)) (pe_xf (X := X) ef.xf ef.fi.no hz hf (pe_var (X := X.suite a ((a, oe) :: pn)) hN hv hd hcd)) (pe_str (X := X.suite a ((a, oe) :: pn)))) rfl fx).run pins s σ H D I ?_
  have q2 : if isxB c cc = true then D.nx (σ.set j (some (fvV fl))) H else D.nx (σ.set j (some (.str B))) H := q
  refine ⟨e4, fl_dict e3, ?_⟩
  cases z : isxB c cc with
  | false => rw [z, if_neg Bool.false_ne_true] at q2; exact ⟨_, rfl, q2⟩
  | true =>
    rw [z, if_pos rfl] at q2
    have ecc : c = cc := by
      unfold isxB at z
      rcases Bool.or_eq_true_iff.mp z with z | z
      · exact of_decide_eq_true z
      · exact absurd (of_decide_eq_true z) n0
    subst ecc
    rcases e3 with ⟨⟨x, hx'⟩, _⟩ | ⟨x, f', dd, v, hx', rfl, hh, fv⟩
    · exact (E.ap x c cn f hx' hx).elim
    · have : f = f' := E.un cn x c f f' hx hx'
      subst this
      have q3 : D.nx (σ.set j (some v)) H := by rw [fv.eq]; exact q2
      exact ⟨_, rfl, _, e4, rfl, rfl, dd, _, v, rfl, hh, by simp [List.lookup], q3⟩
end
/-! ### try -/
/-- a body's one statement: what it raises is told at the slots that stood -/
def tSx (g : G) (W : WX) (C0 : RC) (H0 : Hp) (Wn : Nat) (s : S) (env : Hb.Env) : TS := fun D σ H => ∃ B C st, OkC g C ∧ Reach C0 H0 B C ∧ Sim C H0 H env st σ ∧ OutG (exS g.Pg g.cl Wn s env st) (RS g C0 H0 B D) (ZG g.xr W C H σ)
section
variable {X : Cx} {g : G} {W : WX} {C0 : RC} {H0 : Hp} {Wn : Nat} {env : Hb.Env} {e tg : Expr} {ie : E} {pos : Pos} {p : Pat}
theorem sx_asgP (he : PE X e (tE g W H0 ie env)) (hg : PG X tg (gPat g H0 p env)) (hs : swapsWithSole [tg] e pos.line X.env = pure false) (hw : swappedStores [tg] e X.env = pure none) (h1 : (assignEach [tg] X.env).map (·.2) = [assign tg X.env]) :
    PS X (.Assign [tg] e pos) (tSx g W C0 H0 Wn (.asg (.pat p) ie) env) := by
  refine PS.imp (ps_asg (PE.seal he) hg hs hw h1) fun D σ H ⟨B, C, st, oc, r, S, o⟩ => ⟨C, st, oc, S, ?_⟩
  refine OutG.bind' ((OutG.bind o).imp (fun kd st1 q => ?_) fun _ _ _ z => z)
  have q := OutG.bind (OutG.bind q)
  refine q.imp (fun d st2 q v C1 H1 p1 rv => ?_) fun _ _ _ z => z
  obtain ⟨env', e1, q⟩ := OutG.need q
  exact ⟨C1, st2, d, env', oc.step p1.le, S.step p1, rv, e1, fun σ' S' _ => (show RN g C0 H0 B D env' st2 from q) σ' C1 H1 (oc.step p1.le) (r.step S p1) S'⟩
theorem sx_ret (he : PE X e (tR g W C0 H0 ie env)) : PS X (.Return (some e) pos) (tSx g W C0 H0 Wn (.ret ie) env) := by
  refine PS.imp (ps_ret he) fun D σ H ⟨B, C, st, oc, r, S, o⟩ => ⟨B, C, st, oc, r, S, (OutG.bind o).imp (fun kd st1 q => ?_) fun _ _ _ z => z⟩
  exact (show RR g C0 H0 D kd st1 from q)
theorem sx_retN : PS X (.Return none pos) (tSx g W C0 H0 Wn (.ret (.cst .non)) env) :=
  PS.imp ps_retN fun D σ H ⟨B, C, st, oc, r, S, o⟩ => (show RR g C0 H0 D (.sh, .non) st from o) .non C H oc (S.post r) (fun z => nomatch z) .non trivial
end
theorem evH_t {c cc : Nat} {dd : Hb.D} {v : Bool} {env : Hb.Env} (z : isxB c cc = true) : evH c dd (.ifn cc v) env = pure (.nx env) := by
  show (match isxB c cc with
    | true => pure (.nx env)
    | false => pure (.rt (.sh, .bl v)) : M Fl) = _
  rw [z]
theorem evH_f {c cc : Nat} {dd : Hb.D} {v : Bool} {env : Hb.Env} (z : isxB c cc = false) : evH c dd (.ifn cc v) env = pure (.rt (.sh, .bl v)) := by
  show (match isxB c cc with
    | true => pure (.nx env)
    | false => pure (.rt (.sh, .bl v)) : M Fl) = _
  rw [z]
theorem tryGo_ok {b : M Fl} {h : Nat → D → M Fl} {s s' : Hb.St} {f : Fl} (e : b s = .ok f s') : tryGo 0 b h s = .ok f s' := by unfold tryGo; rw [e]
theorem tryGo_exc {b : M Fl} {h : Nat → D → M Fl} {s s' : Hb.St} {c : Nat} {d : D} (e : b s = .exc c d s') : tryGo 0 b h s = h c d s' := by
  unfold tryGo; rw [e]
  show (if ((0 : Nat) == c || (0 : Nat) == 0) = true then h c d s' else _) = _
  rw [show ((0 : Nat) == 0) = true from rfl, Bool.or_true, if_pos rfl]
theorem tryGo_bad {b : M Fl} {h : Nat → D → M Fl} {s : Hb.St} (e : b s = .bad) : tryGo 0 b h s = .bad := by unfold tryGo; rw [e]
section
variable {X : Cx} {xs : List (Str × Nat)} {fs : List (Str × Nat × Str)} {ca : Nat → Addr} {g : G} {W : WX} {C0 : RC} {H0 : Hp} {Wn : Nat} {env : Hb.Env} {body hst : Stmt} {ib : S} {h : HS} {i : Nat} {x n : Str} {np pos pos' : Pos}
theorem s_try (hs : X.stack = X.env :: X.outer) (hf : X.env.frame = some X.env.locals) (hN : X.N.Nodup) (hi : X.N[i]? = some n) (hln : X.env.kindOf n = some .local) (hg : Gl X x) (hdb : (x == ("__debug__" : Str)) = false) (tk : Takes X W)
    (hx0 : xs.lookup x = some 0) (E : ExA X.prog X.K X.mg xs fs g.xr ca)
    (hb : ∀ (W' : WX) (pn : List (Addr × Obj)) (xe : Value → Shared → Prop), Takes (X.tr pn xe) W' → PassesOwn (model X.prog X.w) X.A X.env xe → PS (X.tr pn xe) body (tSx g W' C0 H0 Wn ib env))
    (hsu : ∀ (a : Addr) (oe : Obj) (cls : Value) (d : Option Addr) (pn : List (Addr × Obj)), Zc cls d oe → (∃ vs, oe.data = .fields vs) → PS (X.suite a ((a, oe) :: pn)) hst (tH xs fs ca i h a cls d)) :
    PS X (.Try [body] [.ExceptHandler (some (.Name x np)) (some n) [hst] pos'] [] [] pos) (tS g W C0 H0 Wn (.tr ib i h) env) := by
  refine PS.imp (ps_try_as (tb := fun W' => tSx g W' C0 H0 Wn ib env) (ts := tH xs fs ca i h) (c := .ref (ca 0)) (Wout := W) hs hf hN hi hln ⟨hg, hdb, .inl (E.nf x 0 hx0).1⟩ tk
    (fun W' pn xe tk' hp => pss_one (hb W' pn xe tk' hp)) (fun a oe cls d pn hz hf => pss_one (hsu a oe cls d pn hz hf))) fun D σ H ⟨B, C, st, oc, r, S, o⟩ => ⟨B, C, st, oc, r, S, ?_⟩
  obtain ⟨gi, o⟩ := OutG.guardB (b := decide (i < env.length)) (show OutG ((do guard_ (decide (i < env.length)); tryGo 0 (exS g.Pg g.cl Wn ib env) (fun c' d' => do let f ← evH c' d' h (env.set i none); pure (offE i f)) : M Fl) st) _ _ from o)
  have gi := of_decide_eq_true gi
  cases q : exS g.Pg g.cl Wn ib env st with
  | ok f st1 =>
    rw [tryGo_ok q] at o
    exact o
  | bad =>
    rw [tryGo_bad q] at o
    exact o
  | exc c dd st1 =>
    rw [tryGo_exc q] at o
    intro cv dx C' H' p xr
    obtain ⟨rfl, hfl⟩ := E.xi _ _ _ _ _ _ xr
    have kn : Kn xs fs c := by
      rcases hfl with ⟨h, _⟩ | ⟨x, f, _, _, h, _⟩
      · exact .inl h
      · exact .inr ⟨x, f, h⟩
    have hl : i < σ.length := by rw [← S.len]; exact gi
    refine ⟨true, (E.kt c 0 kn (.inl ⟨x, hx0⟩)).2.trans (by unfold isxB; rw [show decide ((0 : Nat) = 0) = true from rfl, Bool.or_true]), fun _ a na => ?_, fun z => nomatch z⟩
    refine ⟨c, dd, kn, rfl, hfl, List.getElem?_set_self hl, ?_⟩
    have o := OutG.bind o
    have S1 : Sim C' H0 H' (env.set i none) st1 (σ.set i (some (.ref a))) := (S.step p).forget i _
    cases h with
    | asg j cc A B' =>
      obtain ⟨gj, o⟩ := OutG.guardB o
      have gj := of_decide_eq_true gj
      have o : RN g C0 H0 B D (((env.set i none).set j (some (false, .str (if isxB c cc = true then A else B')))).set i none) st1 := o
      exact o _ C' H' (oc.step p.le) (r.step S p) ((S1.put (.str _) gj).forget i none)
    | ifn cc v =>
      show if isxB c cc = true then _ else _
      cases z : isxB c cc with
      | true =>
        have o : OutG (evH c dd (.ifn cc v) (env.set i none) st1) (fun f st2 => OutG ((pure (offE i f) : M Fl) st2) (RS g C0 H0 B D) (ZS g W C0 H0)) (ZS g W C0 H0) := o
        rw [evH_t z] at o
        rw [if_pos rfl]
        have o : RN g C0 H0 B D ((env.set i none).set i none) st1 := o
        exact o _ C' H' (oc.step p.le) (r.step S p) (S1.forget i none)
      | false =>
        have o : OutG (evH c dd (.ifn cc v) (env.set i none) st1) (fun f st2 => OutG ((pure (offE i f) : M Fl) st2) (RS g C0 H0 B D) (ZS g W C0 H0)) (ZS g W C0 H0) := o
        rw [evH_f z] at o
        rw [if_neg Bool.false_ne_true]
        have o : RR g C0 H0 D (.sh, .bl v) st1 := o
        exact o _ C' H' (oc.step p.le) ((S.post r).trans p) (fun z => nomatch z) (.bl _) trivial
    | fld j cc B' =>
      obtain ⟨gj, o⟩ := OutG.guardB (b := decide (j < (env.set i none).length)) (show OutG ((do
        guard_ (decide (j < (env.set i none).length))
        match isxB c cc with
        | true => do guard_ (fldOk dd); pure (.nx ((env.set i none).set j (some (false, dd))))
        | false => pure (.nx ((env.set i none).set j (some (false, .str B')))) : M Fl) st1) _ _ from o)
      have gj := of_decide_eq_true gj
      show if isxB c cc = true then _ else _
      cases z : isxB c cc with
      | true =>
        rw [z] at o
        obtain ⟨gd, o⟩ := OutG.guardB o
        rw [if_pos rfl]
        have o : RN g C0 H0 B D (((env.set i none).set j (some (false, dd))).set i none) st1 := o
        have rd : Rep C' (fvV dd) dd := by
          cases dd with
          | int i => exact .int i
          | non => exact .non
          | _ => cases gd
        exact o _ C' H' (oc.step p.le) (r.step S p) ((S1.put rd gj).forget i none)
      | false =>
        rw [z] at o
        rw [if_neg Bool.false_ne_true]
        have o : RN g C0 H0 B D (((env.set i none).set j (some (false, .str B'))).set i none) st1 := o
        exact o _ C' H' (oc.step p.le) (r.step S p) ((S1.put (.str _) gj).forget i none)
end
end Hb
namespace Hb
open PySem PySem.Spec PyProof.Rows L2

def loc (sc : Scope) (x : Str) : Bool := match sc.names.lookup x with | some .local => true | _ => false
theorem loc_of {sc : Scope} {x : Str} (h : loc sc x = true) : sc.names.lookup x = some .local := by
  unfold loc at h
  split at h
  · assumption
  · exact absurd h Bool.false_ne_true
def allFn : Str → Bool := fun _ => true
/-- x = [.. for ..] on one line, x a local -/
def lcSwap (sc : Scope) (x : Str) (l : Nat) (e : Expr) : Bool := match e with
  | .ListComp _ _ scope pos => loc sc x && (l == pos.line) && !(scope.names.any fun (n, k) => n == x && (k == .local || k == .cell))
  | _ => false
/-- the pairs of a, b = x, y -/
def isLC : E → Bool
  | .lc _ _ _ _ => true
  | _ => false
def chkName (cf : Cf) (sc : Scope) (i : Nat) (t : Expr) : Bool := match t with
  | .Name x p => isN cf i x && loc sc x
  | _ => false
def chkAsg (cf : Cf) (sc : Scope) (own : Bool) (i : Nat) (e : E) (t v : Expr) : Bool := match t with
  | .Name x p => isN cf i x && stOk sc allFn x && chkE cf e sc v && (if isLC e then lcSwap sc x p.line v || isCell sc (.Name x p) else notComp v)
  | _ => false
def chkNm2 (cf : Cf) (sc : Scope) (t : Tgt) (e : E) (n v : Expr) (l : Nat) : Bool := match n with
  | .Name x p => (match tgtN t with | some (_, i) => isN cf i x | none => false) && loc sc x && (p.line == l) && notStar v && chkE cf e sc v
  | _ => false
theorem sw_cell {el : Expr} {gs : List Comprehension} {scope : Scope} {pos py : Pos} {y : Str} {l : Nat} {env : PySem.Env} (h : isCell env.scope (.Name y py) = true) : swapsWith (.ListComp el gs scope pos) (some (.Name y py)) l env = pure false := by
  have k : ∀ z, env.kindOf y = z → (z == some NameKind.local) = false := fun z hz => by
    have h2 : (match env.kindOf y with | some .local => false | _ => true) = true := h
    rw [hz] at h2
    cases z with
    | none => rfl
    | some m => cases m <;> first | rfl | exact absurd h2 Bool.false_ne_true
  show (pure (env.blockKind == .function && env.kindOf y == some .local && py.line == pos.line && !(scope.names.any fun (n, k) => n == y && (k == .local || k == .cell))) : Sem Bool) = pure false
  rw [k _ rfl, Bool.and_false, Bool.false_and, Bool.false_and]
def chkNmG (cf : Cf) (sc : Scope) (t : Tgt) (e : E) (n v : Expr) : Bool := match n with
  | .Name x p => (match tgtN t with | some (_, i) => isN cf i x | none => false) && stOk sc allFn x && notStar v && chkE cf e sc v
  | _ => false
def slotOf (t : Tgt) : Nat := match tgtN t with | some (_, i) => i | none => 0
/-- may it be returned -/
def chkR : E → Bool
  | .ite c a b => tstOk c && chkR a && chkR b
  | _ => true
def sAssign (s : Stmt) (k : Expr → Expr → Bool) : Bool := match s with | .Assign [t] v _ => k t v | _ => false
theorem sAssign_of {s : Stmt} {k : Expr → Expr → Bool} (h : sAssign s k = true) : ∃ t v p, s = .Assign [t] v p ∧ k t v = true := by
  cases s with
  | Assign ts v p =>
    cases ts with
    | nil => exact absurd h Bool.false_ne_true
    | cons t r =>
      cases r with
      | nil => exact ⟨t, v, p, rfl, h⟩
      | cons _ _ => exact absurd h Bool.false_ne_true
  | _ => exact absurd h Bool.false_ne_true
def sExpr (s : Stmt) (k : Expr → Bool) : Bool := match s with | .Expr v _ => k v | _ => false
theorem sExpr_of {s : Stmt} {k : Expr → Bool} (h : sExpr s k = true) : ∃ v p, s = .Expr v p ∧ k v = true := by
  cases s <;> first | exact ⟨_, _, rfl, h⟩ | exact absurd h Bool.false_ne_true
def sRet (s : Stmt) (k : Option Expr → Bool) : Bool := match s with | .Return v _ => k v | _ => false
theorem sRet_of {s : Stmt} {k : Option Expr → Bool} (h : sRet s k = true) : ∃ v p, s = .Return v p ∧ k v = true := by
  cases s <;> first | exact ⟨_, _, rfl, h⟩ | exact absurd h Bool.false_ne_true
def sIf (s : Stmt) (k : Expr → List Stmt → List Stmt → Bool) : Bool := match s with | .If t a b _ => k t a b | _ => false
theorem sIf_of {s : Stmt} {k : Expr → List Stmt → List Stmt → Bool} (h : sIf s k = true) : ∃ t a b p, s = .If t a b p ∧ k t a b = true := by
  cases s <;> first | exact ⟨_, _, _, _, rfl, h⟩ | exact absurd h Bool.false_ne_true
def sWhile (s : Stmt) (k : Expr → List Stmt → Bool) : Bool := match s with | .While t a [] _ => k t a | _ => false
theorem sWhile_of {s : Stmt} {k : Expr → List Stmt → Bool} (h : sWhile s k = true) : ∃ t a p, s = .While t a [] p ∧ k t a = true := by
  cases s with
  | While t a b p =>
    cases b with
    | nil => exact ⟨t, a, p, rfl, h⟩
    | cons _ _ => exact absurd h Bool.false_ne_true
  | _ => exact absurd h Bool.false_ne_true
def sFor (s : Stmt) (k : Expr → Expr → List Stmt → Bool) : Bool := match s with | .For t i a [] _ => k t i a | _ => false
theorem sFor_of {s : Stmt} {k : Expr → Expr → List Stmt → Bool} (h : sFor s k = true) : ∃ t i a p, s = .For t i a [] p ∧ k t i a = true := by
  cases s with
  | For t i a b p =>
    cases b with
    | nil => exact ⟨t, i, a, p, rfl, h⟩
    | cons _ _ => exact absurd h Bool.false_ne_true
  | _ => exact absurd h Bool.false_ne_true
def sAug (s : Stmt) (k : Str → Operator → Expr → Bool) : Bool := match s with | .AugAssign t o v _ => cName t fun x => k x o v | _ => false
theorem sAug_of {s : Stmt} {k : Str → Operator → Expr → Bool} (h : sAug s k = true) : ∃ x q o v p, s = .AugAssign (.Name x q) o v p ∧ k x o v = true := by
  cases s with
  | AugAssign t o v p =>
    obtain ⟨x, q, rfl, h⟩ := cName_of (show cName t (fun x => k x o v) = true from h)
    exact ⟨x, q, o, v, p, rfl, h⟩
  | _ => exact absurd h Bool.false_ne_true
def isOne (e : Expr) : Bool := match e with | .Constant (.int i) _ _ => decide (i = 1) | _ => false
theorem isOne_of {e : Expr} (h : isOne e = true) : ∃ j p, e = .Constant (.int 1) j p := by
  unfold isOne at h
  split at h
  · exact ⟨_, _, by rw [of_decide_eq_true h]⟩
  · cases h
def sAugA (s : Stmt) (k : Expr → Str → Operator → Expr → Bool) : Bool := match s with | .AugAssign t op v _ => cAt t fun o f => k o f op v | _ => false
theorem sAugA_of {s : Stmt} {k : Expr → Str → Operator → Expr → Bool} (h : sAugA s k = true) : ∃ o f q op v p, s = .AugAssign (.Attribute o f q) op v p ∧ k o f op v = true := by
  cases s with
  | AugAssign t op v p =>
    obtain ⟨o, f, q, rfl, h⟩ := cAt_of (show cAt t (fun o f => k o f op v) = true from h)
    exact ⟨o, f, q, op, v, p, rfl, h⟩
  | _ => exact absurd h Bool.false_ne_true
def sPass (s : Stmt) : Bool := match s with | .Pass _ => true | _ => false
theorem sPass_of {s : Stmt} (h : sPass s = true) : ∃ p, s = .Pass p := by
  cases s <;> first | exact ⟨_, rfl⟩ | exact absurd h Bool.false_ne_true
/-- x.m(a) -/
def cMeth (e : Expr) (k : Str → Str → Pos → Expr → Pos → Bool) : Bool := match e with | .Call (.Attribute o m ap) as [] cp => cName o fun x => c1 as fun a => k x m ap a cp | _ => false
theorem cMeth_of {e : Expr} {k : Str → Str → Pos → Expr → Pos → Bool} (h : cMeth e k = true) : ∃ x q m ap a cp, e = .Call (.Attribute (.Name x q) m ap) [a] [] cp ∧ k x m ap a cp = true := by
  cases e with
  | Call f as kw cp =>
    cases f with
    | Attribute o m ap =>
      cases kw with
      | nil =>
        obtain ⟨x, q, rfl, h⟩ := cName_of (show cName o (fun x => c1 as fun a => k x m ap a cp) = true from h)
        obtain ⟨a, rfl, h⟩ := c1_of h
        exact ⟨x, q, m, ap, a, cp, rfl, h⟩
      | cons _ _ => exact absurd h Bool.false_ne_true
    | _ => exact absurd h Bool.false_ne_true
  | _ => exact absurd h Bool.false_ne_true
def c3 (l : List Expr) (k : Expr → Expr → Expr → Bool) : Bool := match l with | [a, b, c] => k a b c | _ => false
theorem c3_of {l : List Expr} {k : Expr → Expr → Expr → Bool} (h : c3 l k = true) : ∃ a b c, l = [a, b, c] ∧ k a b c = true := by
  match l, h with
  | [a, b, c], h => exact ⟨a, b, c, rfl, h⟩
  | [], h => exact absurd h Bool.false_ne_true
  | [_], h => exact absurd h Bool.false_ne_true
  | [_, _], h => exact absurd h Bool.false_ne_true
  | _ :: _ :: _ :: _ :: _, h => exact absurd h Bool.false_ne_true
def sRaise (s : Stmt) (k : Expr → Bool) : Bool := match s with | .Raise (some e) none _ => k e | _ => false
theorem sRaise_of {s : Stmt} {k : Expr → Bool} (h : sRaise s k = true) : ∃ e p, s = .Raise (some e) none p ∧ k e = true := by
  unfold sRaise at h
  split at h
  · exact ⟨_, _, rfl, h⟩
  · exact absurd h Bool.false_ne_true
def sTry (s : Stmt) (k : Stmt → Str → Str → Stmt → Bool) : Bool := match s with | .Try [b] [.ExceptHandler (some (.Name x _)) (some n) [hst] _] [] [] _ => k b x n hst | _ => false
theorem sTry_of {s : Stmt} {k : Stmt → Str → Str → Stmt → Bool} (h : sTry s k = true) : ∃ b x np n hst pos' p, s = .Try [b] [.ExceptHandler (some (.Name x np)) (some n) [hst] pos'] [] [] p ∧ k b x n hst = true := by
  unfold sTry at h
  split at h
  · exact ⟨_, _, _, _, _, _, _, rfl, h⟩
  · exact absurd h Bool.false_ne_true
def isStrC (z : Str) (c : Const) : Bool := match c with | .str y => y == z | _ => false
theorem isStrC_of {z : Str} {c : Const} (h : isStrC z c = true) : c = .str z := by
  unfold isStrC at h
  split at h
  · rw [eq_of_beq h]
  · exact absurd h Bool.false_ne_true
def isBlC (z : Bool) (c : Const) : Bool := match c with | .bool y => y == z | _ => false
theorem isBlC_of {z : Bool} {c : Const} (h : isBlC z c = true) : c = .bool z := by
  unfold isBlC at h
  split at h
  · rw [eq_of_beq h]
  · exact absurd h Bool.false_ne_true
/-- the class's name and number -/
def knB (cf : Cf) (cn : Str) (cc : Nat) : Bool := (cf.xs.lookup cn == some cc) || (match cf.xf.lookup cn with | some q => q.1 == cc | none => false)
def fldN (cf : Cf) (cn : Str) (cc : Nat) (k : Str → Bool) : Bool := match cf.xf.lookup cn with | some q => q.1 == cc && k q.2 | none => false
theorem fldN_of {cf : Cf} {cn : Str} {cc : Nat} {k : Str → Bool} (h : fldN cf cn cc k = true) : ∃ f, cf.xf.lookup cn = some (cc, f) ∧ k f = true := by
  unfold fldN at h
  cases e : cf.xf.lookup cn with
  | none => rw [e] at h; cases h
  | some q =>
    rw [e] at h
    obtain ⟨h1, h2⟩ := ands h
    obtain ⟨c, f⟩ := q
    obtain rfl : c = cc := eq_of_beq h1
    exact ⟨f, rfl, h2⟩
theorem knB_of {P : Program} {K : PySem.W.Frag} {mg : Str → Option Value} {xr : XR} {ca : Nat → Addr} {cf : Cf} (E : ExA P K mg cf.xs cf.xf xr ca) {cn : Str} {cc : Nat} (h : knB cf cn cc = true) : Kn cf.xs cf.xf cc ∧ mg cn = some (.ref (ca cc)) := by
  unfold knB at h
  rcases Bool.or_eq_true_iff.mp h with h | h
  · have h := eq_of_beq h
    exact ⟨.inl ⟨cn, h⟩, (E.nf cn cc h).1⟩
  · cases e : cf.xf.lookup cn with
    | none => rw [e] at h; cases h
    | some q =>
      rw [e] at h
      obtain ⟨c, f⟩ := q
      obtain rfl : c = cc := eq_of_beq h
      exact ⟨.inr ⟨cn, f, e⟩, (E.wf cn c f e).1⟩
def cAttr (e : Expr) (en f : Str) : Bool := match e with | .Attribute (.Name x _) g _ => x == en && g == f | _ => false
theorem cAttr_of {e : Expr} {en f : Str} (h : cAttr e en f = true) : ∃ p q, e = .Attribute (.Name en p) f q := by
  unfold cAttr at h
  split at h
  · obtain ⟨h1, h2⟩ := ands h
    rw [eq_of_beq h1, eq_of_beq h2]
    exact ⟨_, _, rfl⟩
  · cases h
def chkIsx (cf : Cf) (sc : Scope) (en : Str) (cc : Nat) (e : Expr) : Bool := cCall e fun x es => blt cf sc x "isinstance" && c2 es fun a b => cName a fun y => cName b fun cn => (y == en) && glo sc cn && nmOk cn && knB cf cn cc
def chkHd (cf : Cf) (sc : Scope) (i : Nat) (en : Str) : HS → Stmt → Bool
  | .asg j cc a b, s => sAssign s fun t v => cName t fun x => isN cf j x && stOk sc allFn x && cIf v fun c y z => chkIsx cf sc en cc c && cConst y (isStrC a) && cConst z (isStrC b)
  | .ifn cc v, s => sIf s fun t p q => cUn t fun o e => (match o with | .Not => true | _ => false) && chkIsx cf sc en cc e && q.isEmpty && (match p with | [r] => sRet r (fun ov => (match ov with | some w => cConst w (isBlC v) | none => false)) | _ => false)
  | .fld j cc b, s => sAssign s fun t v => cName t fun x => isN cf j x && stOk sc allFn x && cIf v fun c y z => (cCall c fun x es => blt cf sc x "isinstance" && c2 es fun a1 b1 => cName a1 fun y1 => cName b1 fun cn => (y1 == en) && glo sc cn && nmOk cn && fldN cf cn cc fun f => cAttr y en f) && cConst z (isStrC b)
def isFrz : S → Bool
  | .frz _ => true
  | _ => false
def chkSubNm (cf : Cf) (sc : Scope) (t1 t2 : Tgt) (e1 e2 : E) (s : Stmt) : Bool := match t1, t2 with
  | .sub x k, .pat (.nm j) => sAssign s fun t v => cTup t fun ns => cTup v fun vs => c2 ns fun n1 n2 => c2 vs fun v1 v2 => cSub n1 fun o ke => cName o fun nm => isN cf x nm && vis sc nm && nmOk nm && notSlice ke && chkE cf k sc ke && chkE cf e1 sc v1 && notStar v1 && chkNmG cf sc (.pat (.nm j)) e2 n2 v2 && tupNone sc t v
  | _, _ => false
section
variable (cf : Cf) (sc : Scope)
mutual
def chkS : S → Stmt → Bool
  | .asg t e, s => chkT t e s
  | .asgs ts es, s => chkTs ts es s
  | .app x e, s => sExpr s fun v => cMeth v fun nm m ap a cp => isN cf x nm && vis sc nm && nmOk nm && (m == ("append" : Str)) && (ap.endLine == cp.line) && notStar a && chkE cf e sc a
  | .aug i op e, s => sAug s fun x o v => isN cf i x && stOk sc allFn x && decide (o = opA op) && (match op with | .add => true | .mul => true | _ => false) && chkE cf e sc v
  | .ex e, s => sExpr s fun v => notComp v && chkE cf e sc v
  | .inc e, s => sAugA s fun o f op v => (f == ("at" : Str)) && decide (op = .Add) && isOne v && !cf.rc.isEmpty && chkE cf e sc o
  | .ret e, s => sRet s fun v => match v with
    | some v => chkE cf e sc v && chkR e
    | none => match e with | .cst .non => true | _ => false
  | .if_ c a b, s => sIf s fun t x y => chkE cf c sc t && tstOk c && chkSs a x && chkSs b y
  | .while_ c b, s => sWhile s fun t x => chkE cf c sc t && tstOk c && chkSs b x
  | .for_ p it b, s => sFor s fun tg iter x => chkP cf sc allFn p tg && chkI cf it sc tg iter && notSet iter && chkSs b x
  | .mkrow x es, s => sAssign s fun t v => cName t fun nm => cList v fun as => isN cf x nm && stOk sc allFn nm && chkA cf es sc as
  | .pass, s => sPass s
  | .stop, _ => true
  | .raise c none, s => sRaise s fun e => cCall e fun x es => cNil es && glo sc x && nmOk x && (cf.xs.lookup x == some c)
  | .raise c (some ie), s => sRaise s fun e => cCall e fun x es => c1 es fun a => glo sc x && nmOk x && notStar a && chkE cf ie sc a && fldN cf x c fun _ => true
  | .tr b i h, s => sTry s fun body x n hst => (match b with | .asg (.pat (.nm _)) e => !isLC e | .ret _ => true | _ => false) && isN cf i n && loc sc n && nmOk n && glo sc x && nmOk x && (cf.xs.lookup x == some 0) && chkS b body && chkHd cf sc i n h hst
  | _, _ => false
def chkSs : List S → List Stmt → Bool
  | [], ss => ss.isEmpty
  | i :: is, ss => match isFrz i with
    | true => chkSs is ss
    | false => match ss with
      | s :: ss => chkS i s && chkSs is ss
      | [] => false
def chkT : Tgt → E → Stmt → Bool
  | .own i, e, s => sAssign s fun t v => chkAsg cf sc true i e t v
  | .pat (.nm i), e, s => sAssign s fun t v => chkAsg cf sc false i e t v
  | .pat (.tp ps), e, s => sAssign s fun t v => chkP cf sc allFn (.tp ps) t && notStar t && notComp v && tupNone sc t v && chkE cf e sc v
  | .sub x k, e, s => sAssign s fun t v => cSub t fun o ke => cName o fun nm => isN cf x nm && vis sc nm && nmOk nm && notSlice ke && chkE cf k sc ke && chkE cf e sc v
def chkTs : List Tgt → List E → Stmt → Bool
  | [t1, t2], [e1, e2], s => chkSubNm cf sc t1 t2 e1 e2 s || sAssign s fun t v => cTup t fun ns => cTup v fun vs => c2 ns fun n1 n2 => c2 vs fun v1 v2 => (chkNm2 cf sc t1 e1 n1 v1 n1.pos.line && chkNm2 cf sc t2 e2 n2 v2 n1.pos.line && !(slotOf t1 == slotOf t2) && !([v1, v2].all (foldedForSure 8)) && !([v1, v2].all (constantsAlone 8))) || (chkNmG cf sc t1 e1 n1 v1 && chkNmG cf sc t2 e2 n2 v2 && tupNone sc t v)
  | [t1, t2, t3], [e1, e2, e3], s => sAssign s fun t v => cTup t fun ns => cTup v fun vs => c3 ns fun n1 n2 n3 => c3 vs fun v1 v2 v3 => (chkNmG cf sc t1 e1 n1 v1 && chkNmG cf sc t2 e2 n2 v2 && chkNmG cf sc t3 e3 n3 v3 && tupNone sc t v) || (chkNm2 cf sc t1 e1 n1 v1 n1.pos.line && chkNm2 cf sc t2 e2 n2 v2 n1.pos.line && chkNm2 cf sc t3 e3 n3 v3 n1.pos.line && !(slotOf t1 == slotOf t2) && !(slotOf t1 == slotOf t3) && !(slotOf t2 == slotOf t3) && !([v1, v2, v3].all (foldedForSure 8)) && !([v1, v2, v3].all (constantsAlone 8)))
  | _, _, _ => false
end
end
end Hb
namespace Hb
open PySem PySem.Spec PyProof.Rows L2
structure SOk (X : Cx) (sc : Scope) (cf : Cf) (g : G) (W : WX) : Prop where
  x : XOk X sc allFn cf g W
  hp : PassesOwn (model X.prog X.w) X.A X.env X.xe
  kind : sc.kind = .function
  stk : X.stack = X.env :: X.outer
  frm : X.env.frame = some X.env.locals
  dp : X.A.depth + 2 < recursionLimit
section
variable (hdict : ∀ (X : Cx) (tg : Expr), X.calm = true → DictIt X tg) {cf : Cf} {sc : Scope} {g : G} {W : WX} {C0 : RC} {H0 : Hp} {Wn : Nat} {X : Cx} {env : Hb.Env} {pos : Pos}
include hdict
theorem SOk.e (o : SOk X sc cf g W) {ie : E} {e : Expr} (h : chkE cf ie sc e = true) (env : Hb.Env) : PE X e (tE g W H0 ie env) := (exp_ok hdict ie X sc allFn W e env o.x h).1
theorem SOk.t (o : SOk X sc cf g W) {ie : E} {e : Expr} (h : chkE cf ie sc e = true) (ht : tstOk ie = true) (env : Hb.Env) : PT X e (tT g W H0 ie env) := (exp_ok hdict ie X sc allFn W e env o.x h).2 ht
theorem SOk.lk (o : SOk X sc cf g W) {x : Str} (h : loc sc x = true) : X.env.scope.names.lookup x = some .local := by rw [o.x.sc]; exact loc_of h
theorem asg_ok (o : SOk X sc cf g W) {own : Bool} {i : Nat} {e : E} {t v : Expr} (h : chkAsg cf sc own i e t v = true) : PS X (.Assign [t] v pos) (tS g W C0 H0 Wn (.asg (if own = true then .own i else .pat (.nm i)) e) env) := by
  cases t with
  | Name x p =>
    have h : (isN cf i x && stOk sc allFn x && chkE cf e sc v && (if isLC e then lcSwap sc x p.line v || isCell sc (.Name x p) else notComp v)) = true := h
    obtain ⟨h, h4⟩ := ands h
    obtain ⟨h, h3⟩ := ands h
    obtain ⟨h1, h2⟩ := ands h
    obtain ⟨lx, fx⟩ := o.x.st h2
    have he := SOk.e hdict o (H0 := H0) h3 env
    cases hl : isLC e with
    | false =>
      rw [hl, if_neg Bool.false_ne_true] at h4
      cases own with
      | true => exact s_asgO o.x.nd (o.x.ix h1) lx fx he (sw_no h4 _ _ _)
      | false => exact s_asgP he (g_nm o.x.nd (o.x.ix h1) lx fx) (sws_no h4 _ _) (sst_name rfl _) rfl
    | true =>
      rw [hl, if_pos rfl] at h4
      cases e with
      | lc elt pt it cond =>
        obtain ⟨el, tg, iter, ifs, scope, p2, rfl, hh⟩ := cLC_of h3
        obtain ⟨hh, h6⟩ := ands hh
        obtain ⟨hh, h5⟩ := ands hh
        obtain ⟨hh, h9⟩ := ands hh
        obtain ⟨hh, h8⟩ := ands hh
        obtain ⟨h10, h7⟩ := ands hh
        rcases (Bool.or_eq_true _ _).mp h4 with h4 | h4
        rotate_left
        · have sw := fun (l : Nat) => sw_cell (el := el) (gs := [⟨tg, iter, ifs, 0⟩]) (scope := scope) (pos := p2) (py := p) (y := x) (l := l) (env := X.env) (by rw [o.x.sc]; exact h4)
          cases own with
          | true => exact s_asgO o.x.nd (o.x.ix h1) lx fx he (sw pos.line)
          | false => exact s_asgP he (g_nm o.x.nd (o.x.ix h1) lx fx) (sw pos.line) (sst_name rfl _) rfl
        have h4 : (loc sc x && (p.line == p2.line) && !(scope.names.any fun (n, k) => n == x && (k == .local || k == .cell))) = true := h4
        obtain ⟨h4, s3⟩ := ands h4
        obtain ⟨s1, s2⟩ := ands h4
        have hy := SOk.lk hdict o s1
        have hsw := sw_true (elt := el) (gs := [⟨tg, iter, ifs, 0⟩]) (scope := scope) (pos := p2) (py := p) (y := x) (l := pos.line) (env := X.env) (by rw [o.x.sc]; exact o.kind) hy s2 (nots s3)
        cases own with
        | true =>
          exact s_lcO (own := ownOf' cf pt) o.x.calm o.x.nd (o.x.ix h1) hy hsw (it_ok hdict it X sc allFn W tg iter env o.x h8) (by rw [o.x.N, o.x.sc]; exact blkOk_by h10) (fun i => by rw [own_snd]) (fun s H C cl fp env' => pat_ok pt _ _ _ W0 tg env' (o.x.blk scope s H C cl fp) h7)
            (fun s H C cl fp env' => cnd_ok hdict cond _ _ _ W0 ifs env' (o.x.blk scope s H C cl fp) h5) (fun s H C cl fp env' => (exp_ok hdict elt _ _ _ W0 el env' (o.x.blk scope s H C cl fp) h6).1) (notSet_of h9 _)
        | false =>
          exact s_lcP (own := ownOf' cf pt) o.x.calm o.x.nd (o.x.ix h1) hy hsw (it_ok hdict it X sc allFn W tg iter env o.x h8) (by rw [o.x.N, o.x.sc]; exact blkOk_by h10) (fun i => by rw [own_snd]) (fun s H C cl fp env' => pat_ok pt _ _ _ W0 tg env' (o.x.blk scope s H C cl fp) h7)
            (fun s H C cl fp env' => cnd_ok hdict cond _ _ _ W0 ifs env' (o.x.blk scope s H C cl fp) h5) (fun s H C cl fp env' => (exp_ok hdict elt _ _ _ W0 el env' (o.x.blk scope s H C cl fp) h6).1) (notSet_of h9 _)
      | _ => exact absurd hl Bool.false_ne_true
  | _ => exact absurd h Bool.false_ne_true
theorem nm2_of (o : SOk X sc cf g W) {t : Tgt} {e : E} {n v : Expr} {l : Nat} (h : chkNm2 cf sc t e n v l = true) : ∃ x p o1 i, n = .Name x p ∧ tgtN t = some (o1, i) ∧ slotOf t = i ∧ X.N[i]? = some x ∧ X.env.scope.names.lookup x = some .local ∧ (p.line == l) = true ∧ notStar v = true ∧ ∀ env, PE X v (tE g W H0 e env) := by
  cases n with
  | Name x p =>
    have h : ((match tgtN t with | some (_, i) => isN cf i x | none => false) && loc sc x && (p.line == l) && notStar v && chkE cf e sc v) = true := h
    obtain ⟨h, h5⟩ := ands h
    obtain ⟨h, h4⟩ := ands h
    obtain ⟨h, h3⟩ := ands h
    obtain ⟨h1, h2⟩ := ands h
    cases q : tgtN t with
    | none => rw [q] at h1; exact absurd h1 Bool.false_ne_true
    | some oi =>
      obtain ⟨o1, i⟩ := oi
      rw [q] at h1
      exact ⟨x, p, o1, i, rfl, rfl, by unfold slotOf; rw [q], o.x.ix h1, SOk.lk hdict o h2, h3, h4, fun env => SOk.e hdict o h5 env⟩
  | _ => exact absurd h Bool.false_ne_true
theorem nmG_of (o : SOk X sc cf g W) {t : Tgt} {e : E} {n v : Expr} (h : chkNmG cf sc t e n v = true) : ∃ x p o1 i, n = .Name x p ∧ tgtN t = some (o1, i) ∧ X.N[i]? = some x ∧ Loc X.env.scope x ∧ (X.fn x = true ∨ X.env.scope.names.lookup x = some .local) ∧ notStar v = true ∧ ∀ env, PE X v (tE g W H0 e env) := by
  cases n with
  | Name x p =>
    have h : ((match tgtN t with | some (_, i) => isN cf i x | none => false) && stOk sc allFn x && notStar v && chkE cf e sc v) = true := h
    obtain ⟨h, h5⟩ := ands h
    obtain ⟨h, h4⟩ := ands h
    obtain ⟨h1, h2⟩ := ands h
    obtain ⟨lx, fx⟩ := o.x.st h2
    cases q : tgtN t with
    | none => rw [q] at h1; exact absurd h1 Bool.false_ne_true
    | some oi =>
      obtain ⟨o1, i⟩ := oi
      rw [q] at h1
      exact ⟨x, p, o1, i, rfl, rfl, o.x.ix h1, lx, fx, h4, fun env => SOk.e hdict o h5 env⟩
  | _ => exact absurd h Bool.false_ne_true
omit hdict in
theorem nb {a b : Nat} (h : (!(a == b)) = true) : a ≠ b := fun e => by rw [e] at h; simp at h
theorem ret_ok (o : SOk X sc cf g W) : ∀ (e : E) (v : Expr) (env : Hb.Env), chkE cf e sc v = true → chkR e = true → PE X v (tR g W C0 H0 e env)
  | .ite c a b, v, env, h, hr => by
    obtain ⟨x, y, z, p, rfl, h⟩ := cIf_of h
    obtain ⟨h, h4⟩ := ands h
    obtain ⟨h, h3⟩ := ands h
    obtain ⟨h1, h2⟩ := ands h
    obtain ⟨hr, r3⟩ := ands hr
    obtain ⟨r1, r2⟩ := ands hr
    exact r_ite (SOk.t hdict o h1 r1 env) (ret_ok o a y env h3 r2) (ret_ok o b z env h4 r3)
  | .var i, v, env, h, _ => by
    obtain ⟨x, p, rfl, h⟩ := cName_of h
    obtain ⟨h, h3⟩ := ands h
    obtain ⟨h1, h2⟩ := ands h
    obtain ⟨n1, n2, n3⟩ := nmOk_of h3
    exact r_var (o.x.ix h1) (by rw [o.x.sc]; exact vis_of h2) n1 n2
  | .cst _, v, env, h, _ => r_val (fun _ => rfl) (SOk.e hdict o h env)
  | .glob _, v, env, h, _ => r_val (fun _ => rfl) (SOk.e hdict o h env)
  | .fnv _, v, env, h, _ => r_val (fun _ => rfl) (SOk.e hdict o h env)
  | .tup _, v, env, h, _ => r_val (fun _ => rfl) (SOk.e hdict o h env)
  | .lst _, v, env, h, _ => r_val (fun _ => rfl) (SOk.e hdict o h env)
  | .dct _, v, env, h, _ => r_val (fun _ => rfl) (SOk.e hdict o h env)
  | .bin _ _ _, v, env, h, _ => r_val (fun _ => rfl) (SOk.e hdict o h env)
  | .neg _, v, env, h, _ => r_val (fun _ => rfl) (SOk.e hdict o h env)
  | .not_ _, v, env, h, _ => r_val (fun _ => rfl) (SOk.e hdict o h env)
  | .and_ _, v, env, h, _ => r_val (fun _ => rfl) (SOk.e hdict o h env)
  | .or_ _, v, env, h, _ => r_val (fun _ => rfl) (SOk.e hdict o h env)
  | .cmp _ _ _, v, env, h, _ => r_val (fun _ => rfl) (SOk.e hdict o h env)
  | .cmp2 _ _ _ _ _, v, env, h, _ => r_val (fun _ => rfl) (SOk.e hdict o h env)
  | .idx _ _, v, env, h, _ => r_val (fun _ => rfl) (SOk.e hdict o h env)
  | .slc _ _ _, v, env, h, _ => r_val (fun _ => rfl) (SOk.e hdict o h env)
  | .call _ _, v, env, h, _ => r_val (fun _ => rfl) (SOk.e hdict o h env)
  | .callv _ _, v, env, h, _ => r_val (fun _ => rfl) (SOk.e hdict o h env)
  | .p1 _ _, v, env, h, _ => r_val (fun _ => rfl) (SOk.e hdict o h env)
  | .p2 _ _ _, v, env, h, _ => r_val (fun _ => rfl) (SOk.e hdict o h env)
  | .getd _ _, v, env, h, _ => r_val (fun _ => rfl) (SOk.e hdict o h env)
  | .mt _ _ _, v, env, h, _ => r_val (fun _ => rfl) (SOk.e hdict o h env)
  | .lrng _, v, env, h, _ => r_val (fun _ => rfl) (SOk.e hdict o h env)
  | .trng _, v, env, h, _ => r_val (fun _ => rfl) (SOk.e hdict o h env)
  | .isa _ _, v, env, h, _ => r_val (fun _ => rfl) (SOk.e hdict o h env)
  | .isx _ _, v, env, h, _ => r_val (fun _ => rfl) (SOk.e hdict o h env)
  | .lc _ _ _ _, v, env, h, _ => r_val (fun _ => rfl) (SOk.e hdict o h env)
  | .fld _ _, v, env, h, _ => r_val (fun _ => rfl) (SOk.e hdict o h env)
  | .mkm, v, env, h, _ => r_val (fun _ => rfl) (SOk.e hdict o h env)
  | .mkrd _, v, env, h, _ => r_val (fun _ => rfl) (SOk.e hdict o h env)
  | .rdf _ _, v, env, h, _ => r_val (fun _ => rfl) (SOk.e hdict o h env)
  | .mth _ _ _, v, env, h, _ => r_val (fun _ => rfl) (SOk.e hdict o h env)
end
end Hb
namespace Hb
open PySem PySem.Spec PyProof.Rows L2
theorem chkSs_cons {cf : Cf} {sc : Scope} {i : S} {is : List S} (ss : List Stmt) : chkSs cf sc (i :: is) ss = (match isFrz i with
  | true => chkSs cf sc is ss
  | false => match ss with
    | s :: ss => chkS cf sc i s && chkSs cf sc is ss
    | [] => false) := by
  cases ss <;> rfl
section
variable (hdict : ∀ (X : Cx) (tg : Expr), X.calm = true → DictIt X tg) {cf : Cf} {sc : Scope} {g : G} {W : WX} {C0 : RC} {H0 : Hp} {Wn : Nat} {X : Cx} {env : Hb.Env} {pos : Pos}
include hdict
theorem tgt_ok (o : SOk X sc cf g W) : ∀ (t : Tgt) (e : E) (s : Stmt) (env : Hb.Env), chkT cf sc t e s = true → PS X s (tS g W C0 H0 Wn (.asg t e) env)
  | .own i, e, s, env, h => by
    obtain ⟨t, v, p, rfl, h⟩ := sAssign_of h
    exact asg_ok hdict o (own := true) h
  | .pat (.nm i), e, s, env, h => by
    obtain ⟨t, v, p, rfl, h⟩ := sAssign_of h
    exact asg_ok hdict o (own := false) h
  | .pat (.tp ps), e, s, env, h => by
    obtain ⟨t, v, p, rfl, h⟩ := sAssign_of h
    obtain ⟨h, h5⟩ := ands h
    obtain ⟨h, h4⟩ := ands h
    obtain ⟨h, h3⟩ := ands h
    obtain ⟨h1, h2⟩ := ands h
    exact s_asgP (SOk.e hdict o h5 env) (pat_ok _ X sc allFn W t env o.x h1) (sws_no h3 _ _) (sst_none (by rw [o.x.sc]; exact h4)) (as_one h2 _)
  | .sub x k, e, s, env, h => by
    obtain ⟨t, v, p, rfl, h⟩ := sAssign_of h
    obtain ⟨a, ke, p2, rfl, h⟩ := cSub_of h
    obtain ⟨nm, q, rfl, hh⟩ := cName_of h
    obtain ⟨hh, h6⟩ := ands hh
    obtain ⟨hh, h5⟩ := ands hh
    obtain ⟨hh, h4⟩ := ands hh
    obtain ⟨hh, h3⟩ := ands hh
    obtain ⟨h1, h2⟩ := ands hh
    obtain ⟨n1, n2, n3⟩ := nmOk_of h3
    exact s_sub o.x.K o.x.w o.x.un (o.x.ix h1) (by rw [o.x.sc]; exact vis_of h2) n1 n2 (SOk.e hdict o h6 env) (SOk.e hdict o h5 env) h4
theorem sub_nm_ok (o : SOk X sc cf g W) (x : Nat) (k : E) (j : Nat) (e1 e2 : E) (s : Stmt) (env : Hb.Env) (h : chkSubNm cf sc (.sub x k) (.pat (.nm j)) e1 e2 s = true) : PS X s (tS g W C0 H0 Wn (.asgs [.sub x k, .pat (.nm j)] [e1, e2]) env) := by
  obtain ⟨t, v, p, rfl, h⟩ := sAssign_of h
  obtain ⟨ns, kt, pt, rfl, h⟩ := cTup_of h
  obtain ⟨vs, k2, pt2, rfl, ha⟩ := cTup_of h
  obtain ⟨n1, n2, rfl, hb⟩ := c2_of ha
  obtain ⟨v1, v2, rfl, hc⟩ := c2_of hb
  obtain ⟨a, ke, p2, rfl, h⟩ := cSub_of hc
  obtain ⟨nm, q, rfl, hh⟩ := cName_of h
  obtain ⟨hh, h9⟩ := ands hh
  obtain ⟨hh, h8⟩ := ands hh
  obtain ⟨hh, h7⟩ := ands hh
  obtain ⟨hh, h6⟩ := ands hh
  obtain ⟨hh, h5⟩ := ands hh
  obtain ⟨hh, h4⟩ := ands hh
  obtain ⟨hh, h3⟩ := ands hh
  obtain ⟨h1, h2⟩ := ands hh
  obtain ⟨m1, m2, m3⟩ := nmOk_of h3
  obtain ⟨y, py, o2, j', rfl, b1, b3, b4, b5, b6, b7⟩ := nmG_of hdict o (H0 := H0) h8
  cases b1
  exact s_gen2s o.x.K o.x.w o.x.un o.x.calm o.x.nd (o.x.ix h1) (by rw [o.x.sc]; exact vis_of h2) m1 m2 (fun env => SOk.e hdict o h5 env) h4 b3 b4 b5 (SOk.e hdict o h6 env) (b7 env) h7 b6 (sws_no rfl _ _) (sst_none (by rw [o.x.sc]; exact h9))
theorem two_ok (o : SOk X sc cf g W) (t1 t2 : Tgt) (e1 e2 : E) (s : Stmt) (env : Hb.Env) (h : chkTs cf sc [t1, t2] [e1, e2] s = true) : PS X s (tS g W C0 H0 Wn (.asgs [t1, t2] [e1, e2]) env) := by
  rcases (Bool.or_eq_true _ _).mp (show (chkSubNm cf sc t1 t2 e1 e2 s || _) = true from h) with h | h
  · cases t1 with
    | sub x k =>
      cases t2 with
      | pat pt =>
        cases pt with
        | nm j => exact sub_nm_ok hdict o x k j e1 e2 s env h
        | tp _ => exact absurd h Bool.false_ne_true
      | own _ => exact absurd h Bool.false_ne_true
      | sub _ _ => exact absurd h Bool.false_ne_true
    | own _ => exact absurd h Bool.false_ne_true
    | pat _ => exact absurd h Bool.false_ne_true
  obtain ⟨t, v, p, rfl, h⟩ := sAssign_of h
  obtain ⟨ns, kt, pt, rfl, h⟩ := cTup_of h
  obtain ⟨vs, k2, pt2, rfl, ha⟩ := cTup_of h
  obtain ⟨n1, n2, rfl, hb⟩ := c2_of ha
  obtain ⟨v1, v2, rfl, hc⟩ := c2_of hb
  rcases (Bool.or_eq_true _ _).mp hc with hc | hc
  rotate_left
  · obtain ⟨hc, h3⟩ := ands hc
    obtain ⟨h1, h2⟩ := ands hc
    obtain ⟨x, px, o1, i, rfl, a1, a3, a4, a5, a6, a7⟩ := nmG_of hdict o (H0 := H0) h1
    obtain ⟨y, py, o2, j, rfl, b1, b3, b4, b5, b6, b7⟩ := nmG_of hdict o (H0 := H0) h2
    exact s_gen2 o.x.calm o.x.nd a3 b3 a4 a5 b4 b5 a1 b1 (a7 env) (b7 env) a6 b6 (sws_no rfl _ _) (sst_none (by rw [o.x.sc]; exact h3))
  obtain ⟨hc, h5⟩ := ands hc
  obtain ⟨hc, h4⟩ := ands hc
  obtain ⟨hc, h3⟩ := ands hc
  obtain ⟨h1, h2⟩ := ands hc
  obtain ⟨x, px, o1, i, rfl, a1, a2, a3, a4, a5, a6, a7⟩ := nm2_of hdict o (H0 := H0) h1
  obtain ⟨y, py, o2, j, rfl, b1, b2, b3, b4, b5, b6, b7⟩ := nm2_of hdict o (H0 := H0) h2
  have ne : i ≠ j := by rw [← a2, ← b2]; exact nb h3
  have nxy : (y == x) = false := by
    cases q : (y == x) with
    | false => rfl
    | true =>
      have e := eq_of_beq q
      exact absurd (L2.nodup_ix o.x.nd a3 (by rw [← e]; exact b3)) ne
  exact s_par2 o.x.calm o.x.nd a3 b3 ne a4 b4 a1 b1 (a7 env) (b7 env) a6 b6 (sst2 (by rw [o.x.sc]; exact o.kind) a4 b4 b5 nxy a6 b6 (nots h4) (nots h5))
theorem three_ok (o : SOk X sc cf g W) (t1 t2 t3 : Tgt) (e1 e2 e3 : E) (s : Stmt) (env : Hb.Env) (h : chkTs cf sc [t1, t2, t3] [e1, e2, e3] s = true) : PS X s (tS g W C0 H0 Wn (.asgs [t1, t2, t3] [e1, e2, e3]) env) := by
  obtain ⟨t, v, p, rfl, h⟩ := sAssign_of h
  obtain ⟨ns, kt, pt, rfl, h⟩ := cTup_of h
  obtain ⟨vs, k2, pt2, rfl, ha⟩ := cTup_of h
  obtain ⟨n1, n2, n3, rfl, hb⟩ := c3_of ha
  obtain ⟨v1, v2, v3, rfl, hc⟩ := c3_of hb
  rcases (Bool.or_eq_true _ _).mp hc with hc | hc
  · obtain ⟨hc, h4⟩ := ands hc
    obtain ⟨hc, h3⟩ := ands hc
    obtain ⟨h1, h2⟩ := ands hc
    obtain ⟨x, px, o1, i, rfl, a1, a3, a4, a5, a6, a7⟩ := nmG_of hdict o (H0 := H0) h1
    obtain ⟨y, py, o2, j, rfl, b1, b3, b4, b5, b6, b7⟩ := nmG_of hdict o (H0 := H0) h2
    obtain ⟨z, pz, o3, l, rfl, d1, d3, d4, d5, d6, d7⟩ := nmG_of hdict o (H0 := H0) h3
    exact s_gen3 o.x.calm o.x.nd a3 b3 d3 a4 a5 b4 b5 d4 d5 a1 b1 d1 (a7 env) (b7 env) (d7 env) a6 b6 d6 (sws_no rfl _ _) (sst_none (by rw [o.x.sc]; exact h4))
  obtain ⟨hc, h8⟩ := ands hc
  obtain ⟨hc, h7⟩ := ands hc
  obtain ⟨hc, h6⟩ := ands hc
  obtain ⟨hc, h5⟩ := ands hc
  obtain ⟨hc, h4⟩ := ands hc
  obtain ⟨hc, h3⟩ := ands hc
  obtain ⟨h1, h2⟩ := ands hc
  obtain ⟨x, px, o1, i, rfl, a1, a2, a3, a4, a5, a6, a7⟩ := nm2_of hdict o (H0 := H0) h1
  obtain ⟨y, py, o2, j, rfl, b1, b2, b3, b4, b5, b6, b7⟩ := nm2_of hdict o (H0 := H0) h2
  obtain ⟨z, pz, o3, l, rfl, c1, c2, c3, c4, c5, c6, c7⟩ := nm2_of hdict o (H0 := H0) h3
  have n12 : i ≠ j := by rw [← a2, ← b2]; exact nb h4
  have n13 : i ≠ l := by rw [← a2, ← c2]; exact nb h5
  have n23 : j ≠ l := by rw [← b2, ← c2]; exact nb h6
  have dif : ∀ {x y : Str} {i j : Nat}, X.N[i]? = some x → X.N[j]? = some y → i ≠ j → (y == x) = false := fun {x y i j} hx hy ne => by
    cases q : (y == x) with
    | false => rfl
    | true =>
      have e := eq_of_beq q
      exact absurd (L2.nodup_ix o.x.nd hx (by rw [← e]; exact hy)) ne
  exact s_par3 o.x.calm o.x.nd a3 b3 c3 n12 n13 n23 a4 b4 c4 a1 b1 c1 (a7 env) (b7 env) (c7 env) a6 b6 c6 (sst3 (by rw [o.x.sc]; exact o.kind) a4 b4 c4 b5 c5 (dif a3 b3 n12) (dif a3 c3 n13) (dif b3 c3 n23) a6 b6 c6 (nots h7) (nots h8))
theorem body_ok (o : SOk X sc cf g W) : ∀ (b : S) (s : Stmt) (env : Hb.Env), (match b with | .asg (.pat (.nm _)) e => !isLC e | .ret _ => true | _ => false) = true → chkS cf sc b s = true → PS X s (tSx g W C0 H0 Wn b env)
  | .asg (.pat (.nm i)) e, s, env, h0, h => by
    obtain ⟨t, v, p, rfl, h⟩ := sAssign_of h
    cases t with
    | Name x p =>
      have h : (isN cf i x && stOk sc allFn x && chkE cf e sc v && (if isLC e then lcSwap sc x p.line v || isCell sc (.Name x p) else notComp v)) = true := h
      obtain ⟨h, h4⟩ := ands h
      obtain ⟨h, h3⟩ := ands h
      obtain ⟨h1, h2⟩ := ands h
      obtain ⟨lx, fx⟩ := o.x.st h2
      rw [show isLC e = false from nots h0, if_neg Bool.false_ne_true] at h4
      exact sx_asgP (SOk.e hdict o h3 env) (g_nm o.x.nd (o.x.ix h1) lx fx) (sws_no h4 _ _) (sst_name rfl _) rfl
    | _ => exact absurd h Bool.false_ne_true
  | .ret e, s, env, _, h => by
    obtain ⟨v, p, rfl, h⟩ := sRet_of h
    cases v with
    | some v =>
      obtain ⟨h1, h2⟩ := ands h
      exact sx_ret (ret_ok hdict o e v env h1 h2)
    | none => 
      cases e with
      | cst d =>
        cases d with
        | non => exact sx_retN
        | _ => exact absurd h Bool.false_ne_true
      | _ => exact absurd h Bool.false_ne_true
  | .asg (.own _) _, _, _, h0, _ => absurd h0 Bool.false_ne_true
  | .asg (.sub _ _) _, _, _, h0, _ => absurd h0 Bool.false_ne_true
  | .asg (.pat (.tp _)) _, _, _, h0, _ => absurd h0 Bool.false_ne_true
  | .tr _ _ _, _, _, h0, _ => absurd h0 Bool.false_ne_true
  | .asgs _ _, _, _, h0, _ => absurd h0 Bool.false_ne_true
  | .app _ _, _, _, h0, _ => absurd h0 Bool.false_ne_true
  | .aug _ _ _, _, _, h0, _ => absurd h0 Bool.false_ne_true
  | .ex _, _, _, h0, _ => absurd h0 Bool.false_ne_true
  | .if_ _ _ _, _, _, h0, _ => absurd h0 Bool.false_ne_true
  | .while_ _ _, _, _, h0, _ => absurd h0 Bool.false_ne_true
  | .for_ _ _ _, _, _, h0, _ => absurd h0 Bool.false_ne_true
  | .raise _ _, _, _, h0, _ => absurd h0 Bool.false_ne_true
  | .try_ _ _ _ _, _, _, h0, _ => absurd h0 Bool.false_ne_true
  | .frz _, _, _, h0, _ => absurd h0 Bool.false_ne_true
  | .mkrow _ _, _, _, h0, _ => absurd h0 Bool.false_ne_true
  | .pass, _, _, h0, _ => absurd h0 Bool.false_ne_true
  | .stop, _, _, h0, _ => absurd h0 Bool.false_ne_true
omit hdict in
theorem vis_loc (o : SOk X sc cf g W) {x : Str} (h : loc sc x = true) : Vis X.env.scope x := by
  rw [o.x.sc]
  exact vis_of (by unfold vis; rw [loc_of h])
omit hdict in
theorem hd_ok (o : SOk X sc cf g W) {ca : Nat → Addr} {a : Addr} {oe : Obj} {cls : Value} {d : Option Addr} {pn : List (Addr × Obj)} {i : Nat} {en : Str} (E : ExA X.prog X.K X.mg cf.xs cf.xf g.xr ca)
    (hN : X.N[i]? = some en) (hv : Vis X.env.scope en) (n1 : (en == ("__debug__" : Str)) = false) (n2 : (en == ("__classdict__" : Str)) = false) (hz : Zc cls d oe) (hf : ∃ vs, oe.data = .fields vs) : ∀ (h : HS) (s : Stmt), chkHd cf sc i en h s = true → PS (X.suite a ((a, oe) :: pn)) s (tH cf.xs cf.xf ca i h a cls d)
  | .asg j cc A B, s, h => by
    obtain ⟨t, v, p, rfl, h⟩ := sAssign_of h
    obtain ⟨x, px, rfl, h⟩ := cName_of h
    obtain ⟨h, hh⟩ := ands h
    obtain ⟨h1, h2⟩ := ands h
    obtain ⟨lx, fx⟩ := o.x.st h2
    obtain ⟨c, y, z, pi, rfl, hh⟩ := cIf_of hh
    obtain ⟨hh, h5⟩ := ands hh
    obtain ⟨h3, h4⟩ := ands hh
    obtain ⟨cy, jy, py, rfl, h4⟩ := cConst_of h4
    obtain ⟨cz, jz, pz, rfl, h5⟩ := cConst_of h5
    obtain rfl := isStrC_of h4
    obtain rfl := isStrC_of h5
    obtain ⟨xi, qi, es, p2, rfl, k1⟩ := cCall_of h3
    obtain ⟨h6, k2⟩ := ands k1
    obtain ⟨a1, b1, rfl, k3⟩ := c2_of k2
    obtain ⟨y1, q1, rfl, k4⟩ := cName_of k3
    obtain ⟨cn, q2, rfl, k5⟩ := cName_of k4
    obtain ⟨k6, h10⟩ := ands k5
    obtain ⟨k7, h9⟩ := ands k6
    obtain ⟨h7, h8⟩ := ands k7
    obtain ⟨rfl, g1, g2⟩ := o.x.bl h6
    obtain rfl := eq_of_beq h7
    exact h_asg E hz hf (knB_of E h10).1 (knB_of E h10).2 g1 g2 o.x.nd hN hv n1 n2 (o.x.gl h8) (nmOk_of h9).1 (o.x.ix h1) lx fx
  | .ifn cc v, s, h => by
    obtain ⟨t, p, q, pi, rfl, h⟩ := sIf_of h
    obtain ⟨op, e, pu, rfl, h⟩ := cUn_of h
    obtain ⟨h, h5⟩ := ands h
    obtain ⟨h, h4⟩ := ands h
    obtain ⟨h1, h3⟩ := ands h
    cases op with
    | Not =>
      obtain ⟨xi, qi, es, p2, rfl, k1⟩ := cCall_of h3
      obtain ⟨h6, k2⟩ := ands k1
      obtain ⟨a1, b1, rfl, k3⟩ := c2_of k2
      obtain ⟨y1, q1, rfl, k4⟩ := cName_of k3
      obtain ⟨cn, q2, rfl, k5⟩ := cName_of k4
      obtain ⟨k6, h10⟩ := ands k5
      obtain ⟨k7, h9⟩ := ands k6
      obtain ⟨h7, h8⟩ := ands k7
      obtain ⟨rfl, g1, g2⟩ := o.x.bl h6
      obtain rfl := eq_of_beq h7
      obtain rfl := List.isEmpty_iff.mp h4
      match p, h5 with
      | [r], h5 =>
        obtain ⟨ov, pr, rfl, h5⟩ := sRet_of h5
        cases ov with
        | none => exact absurd h5 Bool.false_ne_true
        | some w =>
          obtain ⟨cw, jw, pw, rfl, h5⟩ := cConst_of h5
          obtain rfl := isBlC_of h5
          exact h_ifn E hz hf (knB_of E h10).1 (knB_of E h10).2 g1 g2 hN hv n1 n2 (o.x.gl h8) (nmOk_of h9).1
      | [], h5 => exact absurd h5 Bool.false_ne_true
      | _ :: _ :: _, h5 => exact absurd h5 Bool.false_ne_true
    | _ => exact absurd h1 Bool.false_ne_true
  | .fld j cc B, s, h => by
    obtain ⟨t, v, p, rfl, h⟩ := sAssign_of h
    obtain ⟨x, px, rfl, h⟩ := cName_of h
    obtain ⟨h, hh⟩ := ands h
    obtain ⟨h1, h2⟩ := ands h
    obtain ⟨lx, fx⟩ := o.x.st h2
    obtain ⟨c, y, z, pi, rfl, hh⟩ := cIf_of hh
    obtain ⟨h3, h5⟩ := ands hh
    obtain ⟨cz, jz, pz, rfl, h5⟩ := cConst_of h5
    obtain rfl := isStrC_of h5
    obtain ⟨xi, qi, es, p2, rfl, k1⟩ := cCall_of h3
    obtain ⟨h6, k2⟩ := ands k1
    obtain ⟨a1, b1, rfl, k3⟩ := c2_of k2
    obtain ⟨y1, q1, rfl, k4⟩ := cName_of k3
    obtain ⟨cn, q2, rfl, k5⟩ := cName_of k4
    obtain ⟨k6, h10⟩ := ands k5
    obtain ⟨k7, h9⟩ := ands k6
    obtain ⟨h7, h8⟩ := ands k7
    obtain ⟨rfl, g1, g2⟩ := o.x.bl h6
    obtain rfl := eq_of_beq h7
    obtain ⟨f, hx, ha⟩ := fldN_of h10
    obtain ⟨pa, pb, rfl⟩ := cAttr_of ha
    exact h_fld E hz hf hx g1 g2 o.x.nd hN hv n1 n2 (o.x.gl h8) (nmOk_of h9).1 (o.x.ix h1) lx fx
mutual
theorem st_ok (o : SOk X sc cf g W) : ∀ (is : S) (s : Stmt) (env : Hb.Env), chkS cf sc is s = true → PS X s (tS g W C0 H0 Wn is env)
  | .asg t e, s, env, h => tgt_ok hdict o t e s env h
  | .asgs ts es, s, env, h => by
    have h : chkTs cf sc ts es s = true := h
    match ts, es, h with
    | [t1, t2], [e1, e2], h => exact two_ok hdict o t1 t2 e1 e2 s env h
    | [t1, t2, t3], [e1, e2, e3], h => exact three_ok hdict o t1 t2 t3 e1 e2 e3 s env h
  | .app x e, s, env, h => by
    obtain ⟨v, p, rfl, h⟩ := sExpr_of h
    obtain ⟨nm, q, m, ap, a, cp, rfl, hh⟩ := cMeth_of h
    obtain ⟨hh, h7⟩ := ands hh
    obtain ⟨hh, h6⟩ := ands hh
    obtain ⟨hh, h5⟩ := ands hh
    obtain ⟨hh, h4⟩ := ands hh
    obtain ⟨hh, h3⟩ := ands hh
    obtain ⟨h1, h2⟩ := ands hh
    obtain ⟨n1, n2, n3⟩ := nmOk_of h3
    have ea := eq_of_beq h4
    subst ea
    exact s_app (o.x.ix h1) (by rw [o.x.sc]; exact vis_of h2) n1 n2 (SOk.e hdict o h7 env) h6 h5
  | .aug i op e, s, env, h => by
    obtain ⟨x, q, oo, v, p, rfl, hh⟩ := sAug_of h
    obtain ⟨hh, h5⟩ := ands hh
    obtain ⟨hh, h4⟩ := ands hh
    obtain ⟨hh, h3⟩ := ands hh
    obtain ⟨h1, h2⟩ := ands hh
    obtain ⟨lx, fx⟩ := o.x.st h2
    have eo := of_decide_eq_true h3
    subst eo
    exact s_aug (by cases op <;> first | exact .inl rfl | exact .inr rfl | exact absurd h4 Bool.false_ne_true) o.x.nd (o.x.ix h1) lx fx (SOk.e hdict o h5 env)
  | .ex e, s, env, h => by
    obtain ⟨v, p, rfl, hh⟩ := sExpr_of h
    obtain ⟨h1, h2⟩ := ands hh
    exact s_ex (SOk.e hdict o h2 env) (sw_no h1 _ _ _)
  | .inc e, s, env, h => by
    obtain ⟨oe, f, q, op, v, p, rfl, hh⟩ := sAugA_of h
    obtain ⟨hh, h5⟩ := ands hh
    obtain ⟨hh, h4⟩ := ands hh
    obtain ⟨hh, h3⟩ := ands hh
    obtain ⟨h1, h2⟩ := ands hh
    have e1 := eq_of_beq h1
    have e2 := of_decide_eq_true h2
    obtain ⟨j, p1, e3⟩ := isOne_of h3
    subst e1 e2 e3
    obtain ⟨r1, r2, r3⟩ := o.x.rf (nots h4)
    exact s_inc r1 r3 (SOk.e hdict o h5 env)
  | .ret e, s, env, h => by
    obtain ⟨v, p, rfl, hh⟩ := sRet_of h
    cases v with
    | some v =>
      obtain ⟨h1, h2⟩ := ands hh
      exact s_ret (ret_ok hdict o e v env h1 h2)
    | none =>
      match e, hh with
      | .cst .non, _ => exact s_retN
  | .if_ c a b, s, env, h => by
    obtain ⟨t, x, y, p, rfl, hh⟩ := sIf_of h
    obtain ⟨hh, h4⟩ := ands hh
    obtain ⟨hh, h3⟩ := ands hh
    obtain ⟨h1, h2⟩ := ands hh
    exact s_if (SOk.t hdict o h1 h2 env) (sts_ok o a x env h3) (sts_ok o b y env h4)
  | .while_ c b, s, env, h => by
    obtain ⟨t, x, p, rfl, hh⟩ := sWhile_of h
    obtain ⟨hh, h3⟩ := ands hh
    obtain ⟨h1, h2⟩ := ands hh
    exact s_while o.hp (fun env' => SOk.t hdict o h1 h2 env') (fun env' => sts_ok o b x env' h3)
  | .for_ p it b, s, env, h => by
    obtain ⟨tg, iter, x, p, rfl, hh⟩ := sFor_of h
    obtain ⟨hh, h4⟩ := ands hh
    obtain ⟨hh, h3⟩ := ands hh
    obtain ⟨h1, h2⟩ := ands hh
    exact s_for o.hp o.x.calm (it_ok hdict it X sc allFn W tg iter env o.x h2) (fun env' => pat_ok _ X sc allFn W tg env' o.x h1) (fun env' => sts_ok o b x env' h4) (notSet_of h3 _)
  | .mkrow x es, s, env, h => by
    obtain ⟨t, v, p, rfl, h⟩ := sAssign_of h
    obtain ⟨nm, q, rfl, h⟩ := cName_of h
    obtain ⟨as, lp, rfl, hh⟩ := cList_of h
    obtain ⟨hh, h3⟩ := ands hh
    obtain ⟨h1, h2⟩ := ands hh
    obtain ⟨lx, fx⟩ := o.x.st h2
    exact s_mkrow o.x.nd (o.x.ix h1) lx fx (args_ok hdict es X sc allFn W as env o.x h3)
  | .pass, s, env, h => by
    obtain ⟨p, rfl⟩ := sPass_of h
    exact s_pass
  | .stop, s, env, h => s_stop
  | .raise c none, s, env, h => by
    obtain ⟨e, p, rfl, h⟩ := sRaise_of h
    obtain ⟨x, q, es, p2, rfl, h⟩ := cCall_of h
    obtain ⟨h, h4⟩ := ands h
    obtain ⟨h, h3⟩ := ands h
    obtain ⟨h1, h2⟩ := ands h
    obtain rfl := cNil_of h1
    exact s_raise o.x.ex o.x.calm o.x.tk (eq_of_beq h4) (o.x.gl h2) (nmOk_of h3).1
  | .raise c (some ie), s, env, h => by
    obtain ⟨e, p, rfl, h⟩ := sRaise_of h
    obtain ⟨x, q, es, p2, rfl, h⟩ := cCall_of h
    obtain ⟨a, rfl, h⟩ := c1_of h
    obtain ⟨h, h5⟩ := ands h
    obtain ⟨h, h4⟩ := ands h
    obtain ⟨h, h3⟩ := ands h
    obtain ⟨h1, h2⟩ := ands h
    obtain ⟨f, hx, _⟩ := fldN_of h5
    exact s_raiseF o.x.ex o.x.calm o.x.tk o.dp hx (o.x.gl h1) (nmOk_of h2).1 (SOk.e hdict o h4 env) h3
  | .tr b i h0, s, env, h => by
    obtain ⟨body, x, np, n, hst, pos', p, rfl, h⟩ := sTry_of h
    obtain ⟨h, h9⟩ := ands h
    obtain ⟨h, h8⟩ := ands h
    obtain ⟨h, h7⟩ := ands h
    obtain ⟨h, h6⟩ := ands h
    obtain ⟨h, h5⟩ := ands h
    obtain ⟨h, h4⟩ := ands h
    obtain ⟨h, h3⟩ := ands h
    obtain ⟨h1, h2⟩ := ands h
    obtain ⟨ca, E⟩ := o.x.ex.ex
    obtain ⟨n1, n2, n3⟩ := nmOk_of h4
    refine s_try (ca := ca) o.stk o.frm o.x.nd (o.x.ix h2) (SOk.lk hdict o h3) (o.x.gl h5) (nmOk_of h6).1 o.x.tk (eq_of_beq h7) E (fun W' pn xe tk' hp => ?_) fun a oe cls d pn hz hf => ?_
    · have o' : SOk (X.tr pn xe) sc cf g W' := ⟨⟨o.x.calm, o.x.sc, o.x.fn, o.x.N, o.x.nd, o.x.K, o.x.w, o.x.un, o.x.cst, o.x.fns, o.x.blt, tk', ⟨o.x.ex.ex⟩, o.x.rm, o.x.ms, o.x.rd, o.x.rf⟩, hp, o.kind, o.stk, o.frm, o.dp⟩
      exact body_ok hdict o' b body env h1 h8
    · exact hd_ok o E (o.x.ix h2) (vis_loc o h3) n1 n2 hz hf h0 hst h9
  | .try_ _ _ _ _, _, _, h => absurd h Bool.false_ne_true
  | .frz _, _, _, h => absurd h Bool.false_ne_true
theorem sts_ok (o : SOk X sc cf g W) : ∀ (is : List S) (ss : List Stmt) (env : Hb.Env), chkSs cf sc is ss = true → PSs X ss (tSs g W C0 H0 Wn is env)
  | [], ss, env, h => by
    cases ss with
    | nil => exact s_nil
    | cons _ _ => exact absurd h Bool.false_ne_true
  | i :: is, ss, env, h => by
    rw [chkSs_cons] at h
    cases q : isFrz i with
    | true =>
      rw [q] at h
      cases i with
      | frz x => exact s_frz fun env' => sts_ok o is ss env' h
      | _ => exact absurd q Bool.false_ne_true
    | false =>
      rw [q] at h
      cases ss with
      | nil => exact absurd h Bool.false_ne_true
      | cons s ss =>
        obtain ⟨h1, h2⟩ := ands h
        exact s_cons (st_ok o i s env h1) fun env' => sts_ok o is ss env' h2
end
end
end Hb
namespace Hb
open PySem PySem.Spec PyProof.Rows L2

/-- a def of the text -/
structure Df where
  nm : Str
  x : Str
  qual : Str
  params : Arguments
  body : List Stmt
  scope : Scope
  N : List Str
  ps : List Str
  cls : Option Str := none
def isDoc : Stmt → Bool
  | .Expr (.Constant (.str _) _ _) _ => true
  | _ => false
def skipDoc : List Stmt → List Stmt
  | s :: ss => if isDoc s then ss else s :: ss
  | [] => []
def Cf.at (cf : Cf) (N : List Str) : Cf := { cf with N := N }
/-- the def's text and its IR -/
def chkDf (cf : Cf) (d : Df) (fn : Fn) : Bool :=
  (match d.scope.kind with | .function => true | _ => false) && !d.scope.isCoroutine && !d.scope.isGenerator && decide d.N.Nodup && decide (d.N.take d.ps.length = d.ps) &&
  (d.ps.all fun x => match d.scope.names.lookup x with | some .local => true | some .cell => true | _ => false) && (d.scope.names.all fun y => match y.2 with | .free => false | _ => true) &&
  decide (fn.np = d.ps.length) && decide (fn.nl = d.N.length) && chkSs (cf.at d.N) d.scope fn.body (skipDoc d.body)
theorem doc_skip {X : Cx} {t : TS} {ss : List Stmt} (h : PSs X (skipDoc ss) t) : PSs X ss t := by
  cases ss with
  | nil => exact h
  | cons s ss =>
    have h : PSs X (if isDoc s = true then ss else s :: ss) t := h
    by_cases q : isDoc s = true
    · rw [if_pos q] at h
      cases s with
      | Expr v p =>
        cases v with
        | Constant c j p2 =>
          cases c with
          | str x => exact PSs.imp (pss_cons ps_doc h) fun D σ H w => w
          | _ => exact absurd q Bool.false_ne_true
        | _ => exact absurd q Bool.false_ne_true
      | _ => exact absurd q Bool.false_ne_true
    · rw [if_neg q] at h; exact h
structure DfOk (cf : Cf) (d : Df) (fn : Fn) : Prop where
  sc : FnScope d.N d.ps d.scope
  np : fn.np = d.ps.length
  nl : fn.nl = d.N.length
  body : chkSs (cf.at d.N) d.scope fn.body (skipDoc d.body) = true
theorem chkDf_of {cf : Cf} {d : Df} {fn : Fn} (h : chkDf cf d fn = true) : DfOk cf d fn := by
  unfold chkDf at h
  obtain ⟨h, h10⟩ := ands h
  obtain ⟨h, h9⟩ := ands h
  obtain ⟨h, h8⟩ := ands h
  obtain ⟨h, h7⟩ := ands h
  obtain ⟨h, h6⟩ := ands h
  obtain ⟨h, h5⟩ := ands h
  obtain ⟨h, h4⟩ := ands h
  obtain ⟨h, h3⟩ := ands h
  obtain ⟨h1, h2⟩ := ands h
  refine ⟨⟨?_, nots h2, nots h3, of_decide_eq_true h4, of_decide_eq_true h5, fun x hx => ?_, fun y hy e => ?_⟩, of_decide_eq_true h8, of_decide_eq_true h9, h10⟩
  · split at h1
    · assumption
    · exact absurd h1 Bool.false_ne_true
  · have q := List.all_eq_true.mp h6 x hx
    split at q
    · exact .inl (by assumption)
    · exact .inr (by assumption)
    · exact absurd q Bool.false_ne_true
  · have q := List.all_eq_true.mp h7 y hy
    rw [e] at q
    exact absurd q Bool.false_ne_true
section
variable (hdict : ∀ (X : Cx) (tg : Expr), X.calm = true → DictIt X tg) {P : Program} {w : World} {K : PySem.W.Frag} {mg : Str → Option Value} {base : Heap} {Pg : Prog} {Wn : Nat} {fa : Nat → Addr} {xr : XR} {cf : Cf} {ds : List Df}
/-- the evaluator at depth k -/
def gk (Pg : Prog) (Wn : Nat) (K : PySem.W.Frag) (w : World) (fa : Nat → Addr) (xr : XR) (k : Nat) : G := ⟨Pg, callF Pg Wn k, K, w, fa, xr⟩
/-- what is known of the module -/
structure ModF (P : Program) (K : PySem.W.Frag) (w : World) (mg : Str → Option Value) (Pg : Prog) (fa : Nat → Addr) (xr : XR) (cf : Cf) (ds : List Df) : Prop where
  fn : ∀ i d, ds[i]? = some d → ∃ fn fd, Pg.fn i = some fn ∧ DfOk cf d fn ∧ FunD K d.nm d.qual d.params d.body d.scope [] [] (fa i) fd ∧ Binds K fd d.ps []
  nm : ∀ x i np, cf.fs.lookup x = some (i, np) → ∃ d, ds[i]? = some d ∧ d.ps.length = np ∧ mg x = some (.ref (fa i))
  cst : ∀ x i, cf.cs.lookup x = some i → ∃ d v u, Pg.cst i = some d ∧ mg x = some u ∧ RelV v u ∧ ∀ C : RC, C.K = K → Rep C v d
  blt : ∀ x, cf.bs.contains x = true → mg x = none
  ex : ∃ ca : Nat → Addr, ExA P K mg cf.xs cf.xf xr ca
  ms : ∀ m i n, cf.ms.lookup m = some (i, n) → ∃ d, ds[i]? = some d ∧ d.ps.length = n + 1 ∧ Meth K (fa rdC) m (fa i)
  rd : ∀ x, cf.rc.contains x = true → ∃ (f : Addr) (fd : FuncData) (ps : List Str), Mk K (fa rdC) f ∧ (∀ base : Heap, FnOk P w K mg base (L2.CX P w) 1 f fd ps (spI (fa rdC))) ∧ Binds K fd ps [] ∧ mg x = some (.ref (fa rdC))
  rf : cf.rc.isEmpty = false → Cls K (fa rdC) ∧ NoAttr K (fa rdC) "text" ∧ NoAttr K (fa rdC) "at"
theorem start_get {N : List Str} {vs : List V} {i : Nat} : (start N vs)[i]? = if i < vs.length then (vs[i]?).map some else if i < N.length then some none else none := by
  unfold L2.start
  by_cases h : i < vs.length
  · rw [if_pos h, List.getElem?_append_left (by rw [List.length_map]; exact h), List.getElem?_map]
  · rw [if_neg h, List.getElem?_append_right (by rw [List.length_map]; omega), List.length_map]
    by_cases h2 : i < N.length
    · rw [if_pos h2, List.getElem?_replicate, if_pos (by omega)]
    · rw [if_neg h2, List.getElem?_replicate, if_neg (by omega)]
/-- the state at a def's entry -/
theorem sim_start {C : RC} {H : Hp} {st : Hb.St} {N : List Str} {vs : List V} {args : List D} {nl np : Nat} (sub : ∀ a o, C.F a = some o → H a = some o) (row : RowOk C H st) (ra : RepAll C vs args) (hnp : args.length = np) (hnl : nl = N.length) (hle : np ≤ nl) :
    Sim C H H (args.map (fun d => some (false, d)) ++ List.replicate (nl - np) none) st (start N vs) := by
  have cellAt : ∀ i x, (args.map (fun d => some (false, d)) ++ List.replicate (nl - np) none : Hb.Env)[i]? = some (some x) → ∃ d, args[i]? = some d ∧ x = (false, d) := fun i x h => by
    by_cases hi : i < args.length
    · rw [List.getElem?_append_left (by rw [List.length_map]; exact hi), List.getElem?_map] at h
      obtain ⟨d, e1, e2⟩ := Option.map_eq_some_iff.mp h
      exact ⟨d, e1, (Option.some.inj e2).symm⟩
    · rw [List.getElem?_append_right (by rw [List.length_map]; omega), List.getElem?_replicate] at h
      split at h
      · cases Option.some.inj h
      · cases h
  have hlen := ra.length
  refine ⟨sub, ?_, fun i d h => ?_, fun i d h => ?_, fun i j a d d' h _ _ _ => ?_, row, fun a o h _ => h⟩
  · rw [List.length_append, List.length_map, List.length_replicate]
    unfold L2.start
    rw [List.length_append, List.length_map, List.length_replicate]
    omega
  · obtain ⟨d', e1, e2⟩ := cellAt i _ h
    cases e2
    obtain ⟨v, e3, e4⟩ := ra.get e1
    have hi : i < vs.length := (List.getElem?_eq_some_iff.mp e3).1
    exact ⟨v, by rw [start_get, if_pos hi, e3]; rfl, e4⟩
  · obtain ⟨_, _, e2⟩ := cellAt i _ h
    cases e2
  · obtain ⟨_, _, e2⟩ := cellAt i _ h
    cases e2
include hdict
theorem fn_ok (m : ModF P K w mg Pg fa xr cf ds) : ∀ (k : Nat) (i : Nat) (d : Df), ds[i]? = some d → ∀ fd, FunD K d.nm d.qual d.params d.body d.scope [] [] (fa i) fd → FnOk P w K mg base (L2.CX P w) (k + 3) (fa i) fd d.ps (spF (gk Pg Wn K w fa xr k) i d.ps.length)
  | 0, i, d, hd, fd, F => ⟨fun vs H Q E h => h.1, fun A outer s H args us vs Q E hr he hb hv hs => by
      obtain ⟨_, C, st, args', _, _, _, _, o⟩ := hs
      exact (show False from o).elim⟩
  | k + 1, i, d, hd, fd, F => by
    obtain ⟨fn, _, hf, dk, _, _⟩ := m.fn i d hd
    refine F.ok dk.sc (fun vs H Q E h => h.1) fun cdv A outer s H vs Q E hr hs => ?_
    obtain ⟨hl, C, st, args, oc, sub, row, ra, o⟩ := hs
    have xok : SOk (cxOf (L2.CX P w) P w K mg base d.N d.qual d.scope (fa i) cdv A outer s H E) d.scope (cf.at d.N) (gk Pg Wn K w fa xr k) (fun cls dx _ H => E cls dx H) :=
      ⟨{ calm := rfl
         sc := rfl
         fn := fun x _ => rfl
         N := rfl
         nd := dk.sc.nd
         K := rfl
         w := rfl
         un := by
           have := hr.un
           show (A.deeper _).units + 100 < cLine
           omega
         cst := fun x j hx => by
           obtain ⟨dd, v, u, e1, e2, e3, e4⟩ := m.cst x j hx
           exact ⟨dd, v, u, e1, e2, e3, fun C oc => e4 C oc.K⟩
         fns := fun x j np hx => by
           obtain ⟨d', e1, e2, e3⟩ := m.nm x j np hx
           obtain ⟨fn', fd', _, _, F', b'⟩ := m.fn j d' e1
           subst e2
           exact ⟨k + 3, fa j, fd', d'.ps, fn_ok m k j d' e1 fd' F', hr, e3, F'.kp, b'⟩
         blt := m.blt
         tk := takes_of rfl rfl rfl rfl
         ex := ⟨m.ex⟩
         rm := hr.mono (by omega)
         ms := fun x j n hx => by
           obtain ⟨d', e1, e2, e3⟩ := m.ms x j n hx
           obtain ⟨fn', fd', _, _, F', b'⟩ := m.fn j d' e1
           refine ⟨k + 3, fa j, fd', d'.ps, ?_, hr, e3, b'⟩
           have := fn_ok m k j d' e1 fd' F'
           rw [e2] at this
           exact this
         rd := fun x hx => by
           obtain ⟨f', fd', ps', e1, e2, e3, e4⟩ := m.rd x hx
           exact ⟨f', fd', ps', e1, e2 base, e3, e4⟩
         rf := m.rf }, passes_of rfl, dk.sc.kind, rfl, rfl, by
        have := hr.dp
        show (A.deeper _).depth + 2 < recursionLimit
        omega⟩
    refine ⟨_, doc_skip (sts_ok hdict (C0 := C) (H0 := H) (Wn := Wn) xok fn.body (skipDoc d.body) (args.map (fun d => some (false, d)) ++ List.replicate (fn.nl - fn.np) none) dk.body), ?_⟩
    have oc' : OkC (gk Pg Wn K w fa xr k) C := ⟨oc.K, oc.w, oc.fa⟩
    have hle : d.ps.length ≤ d.N.length := by
      have := congrArg List.length dk.sc.pre
      rw [List.length_take] at this
      omega
    have hargs : args.length = fn.np := by rw [← ra.length, hl, dk.np]
    have S : Sim C H H (args.map (fun d => some (false, d)) ++ List.replicate (fn.nl - fn.np) none) st (start d.N vs) := sim_start sub row ra hargs dk.nl (by rw [dk.np, dk.nl]; exact hle)
    refine ⟨C, C, st, oc', ⟨.refl C, .refl C, fun _ _ h => .inl h, fun _ h => .inl h⟩, S, ?_⟩
    have e : callF Pg Wn (k + 1) i args = (do
        let r ← exSs Pg (callF Pg Wn k) Wn fn.body (args.map (fun d => some (false, d)) ++ List.replicate (fn.nl - fn.np) none)
        match r with
        | .nx _ => pure (.sh, .non)
        | .rt v => pure v : M KD) := by
      show (match Pg.fn i with
        | some fn => if args.length = fn.np then _ else bad
        | none => bad : M KD) = _
      rw [hf]
      show (if args.length = fn.np then _ else bad : M KD) = _
      rw [if_pos hargs] <;> rfl
    have o : OutG (callF Pg Wn (k + 1) i args st) (RE C H Q) (ZG xr (fun cv dx _ H' => E cv dx H') C H []) := o
    rw [e] at o
    refine (OutG.bind o).imp (fun f st1 q => ?_) fun c fl st1 z cv dx σ' C' H' _ p x => z cv dx C' H' p x
    cases f with
    | nx env' => exact fun σ' C' H' _ r' S' => (show RE C H Q (.sh, .non) st1 from q) .non C' H' (S'.post r') .non trivial
    | rt v => exact fun v' C' H' _ p _ rk n => (show RE C H Q v st1 from q) v' C' H' p rk n
end
end Hb
namespace Hb
open PySem PySem.Spec PyProof.Rows L2

/-! ### a law's head -/
def Df.at_ (d : Df) : Str × Option Str := match d.cls with
  | none => (d.x, none)
  | some C => (C, some d.x)
def Df.toD (d : Df) : He.DefD := ⟨d.at_, d.nm, d.qual, d.params, d.body, d.scope, [], []⟩
def faOf (rc : Option (Str × Df)) (ds : List Df) (K : PySem.W.Frag) (i : Nat) : Addr := if i = rdC then (match rc with
  | some p => He.ga K p.1
  | none => 0) else match ds[i]? with
  | some d => He.fAd K d.at_
  | none => 0
def BindOk (d : Df) : Prop := ∀ (kV doc pm : Value) (an : Option Addr) (cdv ct : Value) (us : List Value), us.length = d.ps.length → bindArgs (PySem.W.fnOf d.nm d.qual d.params d.body d.scope .none kV doc pm an cdv ct) ⟨us, []⟩ = pure (d.ps.zip us)
def BindAll : List Df → Prop
  | [] => True
  | d :: ds => BindOk d ∧ BindAll ds
theorem BindAll.get : ∀ {ds : List Df} {i : Nat} {d : Df}, BindAll ds → ds[i]? = some d → BindOk d
  | [], _, _, _, e => by simp at e
  | x :: xs, 0, d, h, e => by
    have e : x = d := by simpa using e
    subst e; exact h.1
  | x :: xs, i + 1, d, h, e => BindAll.get (i := i) h.2 (by simpa using e)
/-- a constant of the module -/
inductive Cn where
  | int (i : Int)
  | str (z : Str)
def Cn.d : Cn → D
  | .int i => .int i
  | .str z => .str z
def Cn.v : Cn → V
  | .int i => .int i
  | .str z => .str z
def Cn.fa (x : Str) : Cn → He.Fa
  | .int i => .int x i
  | .str z => .str x z
/-- what a law's text is -/
structure Txt where
  ds : List Df
  fns : List Fn
  cn : List (Str × Cn)
  bs : List Str
  xs : List (Str × Nat)
  fs : List Fc
  file : Str
  rc : Option (Str × Df) := none
def Fc.lk (fs : List Fc) : List (Str × Nat × Str) := fs.map fun k => (k.x, k.c, k.f)
def idx2 {α : Type} (f : α → Nat → Str × Nat × Nat) : List α → Nat → List (Str × Nat × Nat)
  | [], _ => []
  | a :: r, n => f a n :: idx2 f r (n + 1)
def idxC : List (Str × Cn) → Nat → List (Str × Nat)
  | [], _ => []
  | a :: r, n => (a.1, n) :: idxC r (n + 1)
/-- the defs of the module by their names; the methods of the class C -/
def idxF : List Df → Nat → List (Str × Nat × Nat)
  | [], _ => []
  | d :: r, n => match d.cls with
    | none => (d.x, n, d.ps.length) :: idxF r (n + 1)
    | some _ => idxF r (n + 1)
def idxM (C : Str) : List Df → Nat → List (Str × Nat × Nat)
  | [], _ => []
  | d :: r, n => match d.cls with
    | none => idxM C r (n + 1)
    | some C' => if C' = C ∧ 1 ≤ d.ps.length then (d.x, n, d.ps.length - 1) :: idxM C r (n + 1) else idxM C r (n + 1)
def Txt.cf (t : Txt) : Cf := ⟨[], idxF t.ds 0, idxC t.cn 0, t.bs, t.xs, Fc.lk t.fs, match t.rc with | some p => idxM p.1 t.ds 0 | none => [], match t.rc with | some p => [p.1] | none => []⟩
def Df.fas (d : Df) : He.Fa := match d.cls with
  | none => .glo d.x
  | some C => .meth C d.x
def Txt.fas (t : Txt) : List He.Fa := t.ds.map Df.fas ++ (t.cn.map (fun c => c.2.fa c.1) ++ (t.bs.map .free ++ match t.rc with
  | some p => [.glo p.1, .cls p.1, .noat p.1 "text", .noat p.1 "at", .mkr p.1]
  | none => []))
def Txt.fn (t : Txt) : List He.DefD := t.ds.map Df.toD ++ match t.rc with
  | some p => [p.2.toD]
  | none => []
/-- __init__ as it must be -/
def Txt.rcB (t : Txt) : Bool := match t.rc with
  | some p => decide (p.2.cls = some p.1) && (p.2.x == ("__init__" : Str)) && decide (p.2.ps = [("self" : Str), ("text" : Str)]) && decide (p.2.N = [("self" : Str), ("text" : Str)]) && initB p.2.body && vis p.2.scope "self" && vis p.2.scope "text" &&
    ((match p.2.scope.kind with | .function => true | _ => false) && !p.2.scope.isCoroutine && !p.2.scope.isGenerator && ([("self" : Str), ("text" : Str)].all fun x => match p.2.scope.names.lookup x with | some .local => true | some .cell => true | _ => false) && (p.2.scope.names.all fun y => match y.2 with | .free => false | _ => true))
  | none => true
def Txt.rcBind (t : Txt) : Prop := match t.rc with
  | some p => BindOk p.2
  | none => True
def Txt.pg (t : Txt) : Prog := ⟨fun i => t.fns[i]?, fun i => (t.cn[i]?).map fun c => c.2.d⟩
def chkDs (cf : Cf) : List Df → List Fn → Bool
  | [], [] => true
  | d :: ds, f :: fs => chkDf cf d f && chkDs cf ds fs
  | _, _ => false
def Txt.chk (t : Txt) : Bool := chkDs t.cf t.ds t.fns
theorem chkDs_cons {cf : Cf} {d : Df} {f : Fn} {ds : List Df} {fs : List Fn} (h : chkDf cf d f = true) (h2 : chkDs cf ds fs = true) : chkDs cf (d :: ds) (f :: fs) = true := by
  show (chkDf cf d f && chkDs cf ds fs) = true
  rw [h, h2]; rfl
theorem chkDs_get {cf : Cf} : ∀ {ds : List Df} {fs : List Fn} {i : Nat} {d : Df}, chkDs cf ds fs = true → ds[i]? = some d → ∃ f, fs[i]? = some f ∧ chkDf cf d f = true
  | [], _, _, _, _, e => by simp at e
  | x :: xs, [], _, _, h, _ => absurd h Bool.false_ne_true
  | x :: xs, y :: ys, 0, d, h, e => by
    have e : x = d := by simpa using e
    subst e
    exact ⟨y, rfl, (ands (show (chkDf cf x y && chkDs cf xs ys) = true from h)).1⟩
  | x :: xs, y :: ys, i + 1, d, h, e => by
    obtain ⟨f, h1, h2⟩ := chkDs_get (i := i) (ands (show (chkDf cf x y && chkDs cf xs ys) = true from h)).2 (by simpa using e)
    exact ⟨f, by simpa using h1, h2⟩
theorem idxF_look : ∀ {ds : List Df} {x : Str} {i np n : Nat}, (idxF ds n).lookup x = some (i, np) → ∃ d, ds[i - n]? = some d ∧ n ≤ i ∧ d.ps.length = np ∧ d.x = x ∧ d.cls = none
  | [], _, _, _, _, h => nomatch h
  | d :: ds, x, i, np, n, h => by
    have up : (idxF ds (n + 1)).lookup x = some (i, np) → ∃ d', (d :: ds)[i - n]? = some d' ∧ n ≤ i ∧ d'.ps.length = np ∧ d'.x = x ∧ d'.cls = none := fun h => by
      obtain ⟨d', h1, h2, h3⟩ := idxF_look h
      refine ⟨d', ?_, by omega, h3⟩
      have : i - n = (i - (n + 1)) + 1 := by omega
      rw [this]
      simpa using h1
    unfold idxF at h
    cases e : d.cls with
    | some C => rw [e] at h; exact up h
    | none =>
      rw [e] at h
      have h : List.lookup x ((d.x, n, d.ps.length) :: idxF ds (n + 1)) = some (i, np) := h
      rw [List.lookup_cons] at h
      cases q : x == d.x with
      | true =>
        rw [q] at h
        have h : some (n, d.ps.length) = some (i, np) := h
        cases h
        exact ⟨d, by rw [Nat.sub_self]; rfl, Nat.le_refl _, rfl, (beq_iff_eq.mp q).symm, e⟩
      | false =>
        rw [q] at h
        exact up h
theorem idxM_look {C : Str} : ∀ {ds : List Df} {x : Str} {i np n : Nat}, (idxM C ds n).lookup x = some (i, np) → ∃ d, ds[i - n]? = some d ∧ n ≤ i ∧ d.ps.length = np + 1 ∧ d.x = x ∧ d.cls = some C
  | [], _, _, _, _, h => nomatch h
  | d :: ds, x, i, np, n, h => by
    have up : (idxM C ds (n + 1)).lookup x = some (i, np) → ∃ d', (d :: ds)[i - n]? = some d' ∧ n ≤ i ∧ d'.ps.length = np + 1 ∧ d'.x = x ∧ d'.cls = some C := fun h => by
      obtain ⟨d', h1, h2, h3⟩ := idxM_look h
      refine ⟨d', ?_, by omega, h3⟩
      have : i - n = (i - (n + 1)) + 1 := by omega
      rw [this]
      simpa using h1
    unfold idxM at h
    cases e : d.cls with
    | none => rw [e] at h; exact up h
    | some C' =>
      rw [e] at h
      have h : List.lookup x (if C' = C ∧ 1 ≤ d.ps.length then (d.x, n, d.ps.length - 1) :: idxM C ds (n + 1) else idxM C ds (n + 1)) = some (i, np) := h
      split at h
      · rename_i hc
        rw [List.lookup_cons] at h
        cases q : x == d.x with
        | true =>
          rw [q] at h
          have h : some (n, d.ps.length - 1) = some (i, np) := h
          have e1 : n = i ∧ d.ps.length - 1 = np := by simpa using h
          obtain ⟨rfl, rfl⟩ := e1
          exact ⟨d, by rw [Nat.sub_self]; rfl, Nat.le_refl _, by omega, (beq_iff_eq.mp q).symm, by rw [e, hc.1]⟩
        | false =>
          rw [q] at h
          exact up h
      · exact up h
theorem fa_at {rc : Option (Str × Df)} {ds : List Df} {K : PySem.W.Frag} {i : Nat} {d : Df} (hn : ds.length ≤ 4000) (h : ds[i]? = some d) : faOf rc ds K i = He.fAd K d.at_ := by
  have := (List.getElem?_eq_some_iff.mp h).1
  unfold faOf
  rw [if_neg (by unfold rdC; omega), h]
theorem fa_rd {p : Str × Df} {ds : List Df} {K : PySem.W.Frag} : faOf (some p) ds K rdC = He.ga K p.1 := if_pos rfl
theorem idxC_look {cn : List (Str × Cn)} {x : Str} {i : Nat} : ∀ {n : Nat}, (idxC cn n).lookup x = some i → ∃ c, cn[i - n]? = some (x, c) ∧ n ≤ i := by
  induction cn with
  | nil => intro n h; cases h
  | cons d ds ih =>
    intro n h
    have h : List.lookup x ((d.1, n) :: idxC ds (n + 1)) = some i := h
    rw [List.lookup_cons] at h
    cases q : x == d.1 with
    | true =>
      rw [q] at h
      have h : some n = some i := h
      cases h
      refine ⟨d.2, ?_, Nat.le_refl _⟩
      rw [Nat.sub_self, beq_iff_eq.mp q]
      rfl
    | false =>
      rw [q] at h
      obtain ⟨d', h1, h2⟩ := ih h
      refine ⟨d', ?_, by omega⟩
      have : i - n = (i - (n + 1)) + 1 := by omega
      rw [this]
      simpa using h1
theorem fact_mem {fa : List He.Fa} {fn : List He.DefD} {K : PySem.W.Frag} (c : He.SaysD fa fn K) {f : He.Fa} (h : f ∈ fa) : f.ok K = true := by
  obtain ⟨i, hi⟩ := List.getElem?_of_mem h
  exact c.fact i hi
/-! ### the own exceptions' classes -/
theorem exBb_ok {K : PySem.W.Frag} {A : Addr} (h : exBb K A = true) : ExB K A := by
  obtain ⟨h1, h⟩ := ands h
  obtain ⟨h2, h⟩ := ands h
  obtain ⟨h3, h⟩ := ands h
  obtain ⟨h4, h⟩ := ands h
  obtain ⟨h5, h⟩ := ands h
  obtain ⟨h6, h⟩ := ands h
  obtain ⟨h7, h⟩ := ands h
  obtain ⟨h8, h⟩ := ands h
  obtain ⟨h9, h⟩ := ands h
  obtain ⟨h10, h11⟩ := ands h
  exact ⟨h1, h2, of_decide_eq_true h3, of_decide_eq_true h4, ⟨He.eqO_ok h5, He.eqO_ok h6, of_decide_eq_true h3, h7, He.eqO_ok h8, He.eqO_ok h9, of_decide_eq_true h10, of_decide_eq_true h11⟩⟩
def caOf (xs : List (Str × Nat)) (K : PySem.W.Frag) (c : Nat) : Addr := He.ga K (xnm xs c)
theorem lookup_memP {α : Type} {x : Str} {c : α} : ∀ {xs : List (Str × α)}, xs.lookup x = some c → (x, c) ∈ xs
  | [], h => nomatch h
  | (y, d) :: r, h => by
    rw [List.lookup_cons] at h
    split at h
    · rename_i e
      cases h
      rw [eq_of_beq e]
      exact List.mem_cons_self ..
    · exact List.mem_cons_of_mem _ (lookup_memP h)
/-- an exception: of a known class, without a dict or with its field -/
def xrE (xs : List (Str × Nat)) (fs : List Fc) (K : PySem.W.Frag) : XR := fun _ H c fl cv dx => cv = .ref (caOf (xall xs fs) K c) ∧ (((∃ x, xs.lookup x = some c) ∧ fl = .non ∧ dx = none) ∨ FlAt (Fc.lk fs) H c fl dx)
theorem oexB_ok {K : PySem.W.Frag} {C : Addr} (h : oexB K C = true) : ∃ nm q N bs bm sn sub ab col dd k0 k1 k2 k3 k5, K.lookup C = some (excClassObj nm q C N bs bm true sn sub ab col dd k0 k1 k2 k3 k5 "ValueError.__new__") ∧ PySem.HandSPX.refsVE bm = true := by
  unfold oexB at h
  split at h
  · rename_i dd cd sl ho
    split at h
    · rename_i C' bm k0 k1 k2 k3 n k5 hm hs
      obtain ⟨h, h5⟩ := ands h
      obtain ⟨h, h4⟩ := ands h
      obtain ⟨h, h3⟩ := ands h
      obtain ⟨h1, h2⟩ := ands h
      obtain rfl := eq_of_beq h1
      obtain rfl := eq_of_beq h2
      have n3 := nots h3
      obtain ⟨nm, bs, mro, ns, qn, hd, sn, sub, ab, col, del⟩ := cd
      dsimp only at hm n3 h4
      subst hm n3 h4
      have hsl : sl = #[k0, k1, k2, k3, some (.builtin "ValueError.__new__"), k5] := by
        obtain ⟨l⟩ := sl
        simp only at hs
        rw [hs]
      subst hsl
      exact ⟨nm, qn, ns, bs, bm, sn, sub, ab, col, dd, k0, k1, k2, k3, k5, ho, h5⟩
    · cases h
  · cases h
theorem excCb_ok {K : PySem.W.Frag} {A : Addr} (h : excCb K A = true) (hs : PySem.W.subIn K (.ref A) (.type "BaseException") = some true) : ExcC K A := by
  obtain ⟨h5, h⟩ := ands h
  obtain ⟨h6, h⟩ := ands h
  obtain ⟨h7, h⟩ := ands h
  obtain ⟨h8, h⟩ := ands h
  obtain ⟨h9, h⟩ := ands h
  obtain ⟨h10, h11⟩ := ands h
  exact ⟨He.eqO_ok h5, He.eqO_ok h6, hs, h7, He.eqO_ok h8, He.eqO_ok h9, of_decide_eq_true h10, of_decide_eq_true h11⟩
theorem fldB_ok {f : Str} (h : fldB f = true) : BindF f ∧ (f == ("self" : Str)) = false ∧ (f == ("__class__" : Str)) = false ∧ (f == ("__debug__" : Str)) = false ∧ (f == ("super" : Str)) = false := by
  rcases Bool.or_eq_true_iff.mp h with h | h
  · rw [eq_of_beq h]; exact ⟨bindF_index, by decide, by decide, by decide, by decide⟩
  · rcases Bool.or_eq_true_iff.mp h with h | h
    · rw [eq_of_beq h]; exact ⟨bindF_most, by decide, by decide, by decide, by decide⟩
    · rw [eq_of_beq h]; exact ⟨bindF_place, by decide, by decide, by decide, by decide⟩
theorem exF_of {P : Program} {file : Str} {K : PySem.W.Frag} {A : Addr} {k : Fc} (h : fcB file K A k = true) (hv : fnI K (inA K A) = k.val) (hP : ((P.main.file : Str) == file) = true) (hT : (P.main.scope.names.lookup ("super" : Str)).isSome = false) : ExF P K A k.f := by
  obtain ⟨a1, h⟩ := ands h
  obtain ⟨a2, h⟩ := ands h
  obtain ⟨a3, h⟩ := ands h
  obtain ⟨a4, h⟩ := ands h
  obtain ⟨a5, h⟩ := ands h
  obtain ⟨a6, h⟩ := ands h
  obtain ⟨a7, h⟩ := ands h
  obtain ⟨a8, h⟩ := ands h
  obtain ⟨a9, h⟩ := ands h
  obtain ⟨a10, h⟩ := ands h
  obtain ⟨a11, h⟩ := ands h
  obtain ⟨a12, h⟩ := ands h
  obtain ⟨a13, h⟩ := ands h
  obtain ⟨a14, h⟩ := ands h
  obtain ⟨a15, h⟩ := ands h
  obtain ⟨a16, a17⟩ := ands h
  obtain ⟨b0, b1, b2, b3, b4⟩ := fldB_ok a16
  have ec := excCb_ok a17 (of_decide_eq_true a3)
  have O : OexC K A := ⟨oexB_ok a1, He.eqO_ok a2, of_decide_eq_true a3, of_decide_eq_true a4, a5⟩
  refine ⟨⟨O, ?_, of_decide_eq_true a10, hT, He.eqO_ok a11, He.eqO_ok a12, of_decide_eq_true a13, a14, He.eqO_ok a15, b1, b2, b3, b4, b0⟩, ec, ⟨ec.hg, ec.hk, ec.hs, ec.hd⟩⟩
  unfold fnI at hv
  unfold codeB at a9
  cases q : K.lookup (inA K A) with
  | none =>
    rw [q] at a9
    cases a9
  | some o =>
    obtain ⟨oc, od, dt, osl⟩ := o
    rw [q] at a9 hv
    cases dt with
    | func fd =>
      obtain ⟨n1, n2, n3, n4, n5, n6, n7, n8, n9, n10, n11, n12, n13, n14, n15⟩ := fd
      have e2 : (some (n1, n2, n3, n4, n5, n6, n7.map (·.1), n15) : FnI) = some (("__init__" : Str), k.qual, iParams k.f k.pa k.pb, FuncBody.stmts (iBody k.f k.p0 k.p1 k.p2 k.p3 k.p4 k.p5 k.p6 k.p7 k.p8 k.p9), iScope k.f, mainGlobals, [("__class__" : Str)], builtinsNs) := hv
      simp only [Option.some.injEq, Prod.mk.injEq] at e2
      obtain ⟨h1, h2, h3, h4, h5, h6, h7, h8⟩ := e2
      subst h1 h2 h3 h4 h5 h6 h8
      obtain ⟨d1, d23⟩ := ands a9
      obtain ⟨d2, d3⟩ := ands d23
      dsimp only at d1 d2 d3
      cases n8 with
      | none =>
        cases n13 with
        | ref cda =>
          obtain ⟨d4, d5⟩ := ands (show (PySem.W.codeIn K (.ref cda) k.qual && (match K.lookup cda with
            | some ⟨_, _, .fields vs, _⟩ => fileB file vs
            | _ => false)) = true from d2)
          match n7, h7, d3 with
          | [(y, cc)], h7, d3 =>
            have hy : y = ("__class__" : Str) := by
              have : [y] = [("__class__" : Str)] := h7
              exact (List.cons.inj this).1
            subst hy
            have code : ∃ ccl cdd vs ccs file tf, K.lookup cda = some ⟨ccl, cdd, .fields vs, ccs⟩ ∧ vs[2]? = some (.str file tf) ∧ ((P.main.file : Str) == file) = true := by
              split at d5
              · rename_i c0 c1 vs c3 hc
                unfold fileB at d5
                split at d5
                · rename_i fl tf hv2
                  refine ⟨_, _, vs, _, fl, tf, hc, hv2, ?_⟩
                  rw [eq_of_beq hP]; exact d5
                · cases d5
              · cases d5
            have cell : ∃ cl cld csl, K.lookup cc = some ⟨cl, cld, .cell (some (.ref A)), csl⟩ := by
              have d3 : (match K.lookup cc with
                | some ⟨_, _, .cell (some (.ref C')), _⟩ => C' == A
                | _ => false) = true := d3
              split at d3
              · rename_i c0 c1 C' c3 hc
                rw [eq_of_beq d3] at hc
                exact ⟨_, _, _, hc⟩
              · cases d3
            exact ⟨inA K A, oc, od, osl, k.qual, k.pa, k.pb, k.p0, k.p1, k.p2, k.p3, k.p4, k.p5, k.p6, k.p7, k.p8, k.p9, n9, n10, n11, n14, n12, cda, cc, He.eqO_ok a6, of_decide_eq_true a7, a8, q, d4, code, cell⟩
          | [], h7, _ => exact absurd h7 (by simp)
          | _ :: _ :: _, h7, _ => exact absurd h7 (by simp)
        | _ => cases d2
      | _ => cases d1
    | _ => cases a9
theorem ex_of {P : Program} {xs : List (Str × Nat)} {fs : List Fc} {file : Str} {K : PySem.W.Frag} {h : Heap} {mg : Str → Option Value} (hP : ((P.main.file : Str) == file) = true) (hT : (P.main.scope.names.lookup ("super" : Str)).isSome = false) (X : K.In h) (G : h.Ns mainGlobals mg) (e : exA xs fs file K = true) (ev : fs.map (fun k => fnI K (inA K (He.ga K k.x))) = fs.map Fc.val) : ∃ ca : Nat → Addr, ExA P K mg xs (Fc.lk fs) (xrE xs fs K) ca := by
  obtain ⟨a, b⟩ := ands e
  obtain ⟨b, cF⟩ := ands b
  obtain ⟨cF, d⟩ := ands cF
  have nm : ∀ x c, (x, c) ∈ xall xs fs → xnm (xall xs fs) c = x ∧ PySem.W.nsIn K mainGlobals x = some (some (.ref (He.ga K x))) := fun x c hx => by
    obtain ⟨q1, q2⟩ := ands (List.all_eq_true.mp a (x, c) hx)
    exact ⟨of_decide_eq_true q1, He.eqO_ok q2⟩
  have caE : ∀ x c, (x, c) ∈ xall xs fs → caOf (xall xs fs) K c = He.ga K x := fun x c hx => by unfold caOf; rw [(nm x c hx).1]
  have inx : ∀ x c, xs.lookup x = some c → (x, c) ∈ xall xs fs := fun x c hx => List.mem_append_left _ (lookup_memP hx)
  have inf : ∀ x c f, (Fc.lk fs).lookup x = some (c, f) → ∃ k ∈ fs, k.x = x ∧ k.c = c ∧ k.f = f := fun x c f hx => by
    obtain ⟨k, hk, ek⟩ := List.mem_map.mp (lookup_memP hx)
    cases ek
    exact ⟨k, hk, rfl, rfl, rfl⟩
  have inF : ∀ x c f, (Fc.lk fs).lookup x = some (c, f) → (x, c) ∈ xall xs fs := fun x c f hx => by
    obtain ⟨k, hk, e1, e2, _⟩ := inf x c f hx
    exact List.mem_append_right _ (List.mem_map.mpr ⟨k, hk, by rw [e1, e2]⟩)
  have inK : ∀ c, Kn xs (Fc.lk fs) c → ∃ x, (x, c) ∈ xall xs fs := fun c h => by
    rcases h with ⟨x, h⟩ | ⟨x, f, h⟩
    · exact ⟨x, inx x c h⟩
    · exact ⟨x, inF x c f h⟩
  refine ⟨caOf (xall xs fs) K, fun x c hx => ?_, fun x c f hx => ?_, fun x x' c f f' hx hx' => ?_, fun x c x' f hx hx' => ?_, fun c c' hc hc' => ?_, fun C H c fl cv dx hx => ?_, fun C H x c hx => ⟨rfl, .inl ⟨⟨x, hx⟩, rfl, rfl⟩⟩, fun C H c fl dx hx => ⟨rfl, .inr hx⟩⟩
  · have m := inx x c hx
    rw [caE x c m]
    exact ⟨PySem.W.mg_of X G (nm x c m).2, exBb_ok (ands (List.all_eq_true.mp b (x, c) (lookup_memP hx))).1⟩
  · have m := inF x c f hx
    obtain ⟨k, hk, e1, e2, e3⟩ := inf x c f hx
    rw [caE x c m]
    obtain ⟨q1, q2⟩ := ands (List.all_eq_true.mp cF k hk)
    obtain ⟨q2, q3⟩ := ands q2
    have hv : fnI K (inA K (He.ga K k.x)) = k.val := by
      obtain ⟨i, hi⟩ := List.getElem?_of_mem hk
      have e : (fs.map (fun k => fnI K (inA K (He.ga K k.x))))[i]? = (fs.map Fc.val)[i]? := by rw [ev]
      rw [List.getElem?_map, List.getElem?_map, hi] at e
      exact Option.some.inj e
    refine ⟨PySem.W.mg_of X G (nm x c m).2, ?_, fun z => ?_, PySem.W.mg_none_of X G (He.eqO_ok q3)⟩
    · rw [← e1, ← e3]
      exact exF_of q1 hv hP hT
    · have q2 := nots q2
      rw [e2, z] at q2
      cases q2
  · have ex : x = x' := (nm x c (inF x c f hx)).1.symm.trans (nm x' c (inF x' c f' hx')).1
    subst ex
    rw [hx] at hx'
    cases hx'
    rfl
  · obtain ⟨k, hk, _, e2, _⟩ := inf x' c f hx'
    have q := nots (List.all_eq_true.mp (ands (List.all_eq_true.mp b (x, c) (lookup_memP hx))).2 k hk)
    rw [e2] at q
    exact absurd q (by simp)
  · obtain ⟨x, m⟩ := inK c hc
    obtain ⟨x', m'⟩ := inK c' hc'
    rw [caE x c m, caE x' c' m']
    obtain ⟨q1, q2⟩ := ands (List.all_eq_true.mp (List.all_eq_true.mp d (x, c) m) (x', c') m')
    exact ⟨of_decide_eq_true q1, of_decide_eq_true q2⟩
  · obtain ⟨e1, e2⟩ := hx
    refine ⟨e1, ?_⟩
    rcases e2 with ⟨h1, h2, h3⟩ | e2
    · exact .inl ⟨h1, h3⟩
    · exact .inr e2
theorem modF_of {w : World} {K : PySem.W.Frag} {h : Heap} {mg : Str → Option Value} {t : Txt} (hc : t.chk = true) (hb : BindAll t.ds) (X : K.In h) (G : h.Ns mainGlobals mg) {P : Program} (hP : ((P.main.file : Str) == t.file) = true) (hT : (P.main.scope.names.lookup ("super" : Str)).isSome = false) (hn : t.ds.length ≤ 4000) (hrc : t.rcB = true) (hrb : t.rcBind) (c0 : SaysE t.xs t.fs t.file t.fas t.fn K) :
    ModF P K w mg t.pg (faOf t.rc t.ds K) (xrE t.xs t.fs K) t.cf t.ds where
  ex := ex_of hP hT X G c0.d.2.1 c0.d.2.2
  fn i d hd := by
    have c := c0.d.1
    obtain ⟨f, h1, h2⟩ := chkDs_get hc hd
    obtain ⟨fd, F⟩ := c.def_ i (d := d.toD) (by
      show (t.ds.map Df.toD ++ _)[i]? = some d.toD
      have hl := (List.getElem?_eq_some_iff.mp hd).1
      rw [List.getElem?_append_left (by rw [List.length_map]; exact hl), List.getElem?_map, hd]; rfl)
    rw [fa_at hn hd]
    exact ⟨f, fd, h1, chkDf_of h2, F, FunD.bindsN F (hb.get hd)⟩
  nm x i np hx := by
    have c := c0.d.1
    obtain ⟨d, h1, _, h2, h3, h4⟩ := idxF_look (n := 0) hx
    rw [Nat.sub_zero] at h1
    refine ⟨d, h1, h2, ?_⟩
    have ef : d.fas = .glo d.x := by unfold Df.fas; rw [h4]
    have m : He.Fa.glo d.x ∈ t.fas := List.mem_append_left _ (ef ▸ List.mem_map_of_mem (List.mem_of_getElem? h1))
    have e := He.glo_ok X G (fact_mem c m)
    rw [fa_at hn h1, ← h3, e]
    unfold Df.at_
    rw [h4]; rfl
  ms m i n hx := by
    have c := c0.d.1
    cases er : t.rc with
    | none =>
      have hx : (match t.rc with | some p => idxM p.1 t.ds 0 | none => []).lookup m = some (i, n) := hx
      rw [er] at hx
      cases hx
    | some p =>
      have hx : (match t.rc with | some p => idxM p.1 t.ds 0 | none => []).lookup m = some (i, n) := hx
      rw [er] at hx
      obtain ⟨d, h1, _, h2, h3, h4⟩ := idxM_look (n := 0) hx
      rw [Nat.sub_zero] at h1
      refine ⟨d, h1, h2, ?_⟩
      have ef : d.fas = .meth p.1 d.x := by unfold Df.fas; rw [h4]
      have mm : He.Fa.meth p.1 d.x ∈ t.fas := List.mem_append_left _ (ef ▸ List.mem_map_of_mem (List.mem_of_getElem? h1))
      have e := He.meth_ok (fact_mem c mm)
      rw [fa_at hn h1, fa_rd, ← h3]
      unfold Df.at_
      rw [h4]
      exact e
  rd x hx := by
    have c := c0.d.1
    cases er : t.rc with
    | none =>
      have hx : (match t.rc with | some p => [p.1] | none => []).contains x = true := hx
      rw [er] at hx
      cases hx
    | some p =>
      have hx : (match t.rc with | some p => [p.1] | none => []).contains x = true := hx
      rw [er] at hx
      have ex : x = p.1 := by simpa using hx
      subst ex
      have inF : ∀ f ∈ [He.Fa.glo p.1, .cls p.1, .noat p.1 "text", .noat p.1 "at", .mkr p.1], f ∈ t.fas := fun f hf => by
        refine List.mem_append_right _ (List.mem_append_right _ (List.mem_append_right _ ?_))
        rw [er]; exact hf
      have b := hrc
      unfold Txt.rcB at b
      rw [er] at b
      obtain ⟨b, b8⟩ := ands b
      obtain ⟨b, b7⟩ := ands b
      obtain ⟨b, b6⟩ := ands b
      obtain ⟨b, b5⟩ := ands b
      obtain ⟨b, b4⟩ := ands b
      obtain ⟨b, b3⟩ := ands b
      obtain ⟨b1, b2⟩ := ands b
      obtain ⟨c8, c5⟩ := ands b8
      obtain ⟨c8, c4⟩ := ands c8
      obtain ⟨c8, c3⟩ := ands c8
      obtain ⟨c1, c2⟩ := ands c8
      obtain ⟨fd, F⟩ := c.def_ t.ds.length (d := p.2.toD) (by
        show (t.ds.map Df.toD ++ _)[t.ds.length]? = some p.2.toD
        rw [List.getElem?_append_right (by rw [List.length_map]; exact Nat.le_refl _), List.length_map, Nat.sub_self, er]; rfl)
      have hb2 := hrb
      unfold Txt.rcBind at hb2
      rw [er] at hb2
      have ea : p.2.at_ = (p.1, some ("__init__" : Str)) := by
        unfold Df.at_
        rw [of_decide_eq_true b1, eq_of_beq b2]
      have F : FunD K p.2.nm p.2.qual p.2.params p.2.body p.2.scope [] [] (He.fAd K p.2.at_) fd := F
      have bi := FunD.bindsN F hb2
      rw [ea] at F
      have S : FnScope ["self", "text"] ["self", "text"] p.2.scope := by
        refine ⟨?_, nots c2, nots c3, by decide, rfl, fun x hx => ?_, fun y hy e => ?_⟩
        · split at c1
          · assumption
          · exact absurd c1 Bool.false_ne_true
        · have q := List.all_eq_true.mp c4 x hx
          split at q
          · exact .inl (by assumption)
          · exact .inr (by assumption)
          · exact absurd q Bool.false_ne_true
        · have q := List.all_eq_true.mp c5 y hy
          rw [e] at q
          exact absurd q Bool.false_ne_true
      have i1 := He.cls_ok (x := p.1) (fact_mem c (inF _ (by simp)))
      have i2 := He.noat_ok (x := p.1) (f := "text") (fact_mem c (inF _ (by simp)))
      have i3 := He.noat_ok (x := p.1) (f := "at") (fact_mem c (inF _ (by simp)))
      rw [fa_rd]
      refine ⟨_, fd, p.2.ps, He.mkr_ok (fact_mem c (inF _ (by simp))), fun base => ?_, bi, He.glo_ok X G (fact_mem c (inF _ (by simp)))⟩
      rw [of_decide_eq_true b3]
      exact init_ok S (vis_of b6) (vis_of b7) F b5 i1 i2 i3
  rf hx := by
    have c := c0.d.1
    cases er : t.rc with
    | none =>
      have hx : (match t.rc with | some p => [p.1] | none => []).isEmpty = false := hx
      rw [er] at hx
      cases hx
    | some p =>
      have inF : ∀ f ∈ [He.Fa.glo p.1, .cls p.1, .noat p.1 "text", .noat p.1 "at", .mkr p.1], f ∈ t.fas := fun f hf => by
        refine List.mem_append_right _ (List.mem_append_right _ (List.mem_append_right _ ?_))
        rw [er]; exact hf
      rw [fa_rd]
      exact ⟨He.cls_ok (fact_mem c (inF _ (by simp))), He.noat_ok (fact_mem c (inF _ (by simp))), He.noat_ok (fact_mem c (inF _ (by simp)))⟩
  cst x i hx := by
    have c := c0.d.1
    obtain ⟨cv, h1, _⟩ := idxC_look (n := 0) hx
    rw [Nat.sub_zero] at h1
    have m : cv.fa x ∈ t.fas := List.mem_append_right _ (List.mem_append_left _ (List.mem_map_of_mem (f := fun c : Str × Cn => c.2.fa c.1) (List.mem_of_getElem? h1)))
    have q := fact_mem c m
    cases cv with
    | int j =>
      obtain ⟨tt, e⟩ := He.int_ok X G q
      exact ⟨.int j, .int j, _, (by show (t.cn[i]?).map (fun c => c.2.d) = _; rw [h1]; rfl), e, ⟨tt, rfl⟩, fun C _ => .int j⟩
    | str z =>
      obtain ⟨tt, e⟩ := He.str_ok X G q
      exact ⟨.str z, .str z, _, (by show (t.cn[i]?).map (fun c => c.2.d) = _; rw [h1]; rfl), e, ⟨tt, rfl⟩, fun C _ => .str z⟩
  blt x hx := by
    have c := c0.d.1
    have m : He.Fa.free x ∈ t.fas := List.mem_append_right _ (List.mem_append_right _ (List.mem_append_left _ (List.mem_map_of_mem (List.mem_of_elem_eq_true hx))))
    exact He.free_ok X G (fact_mem c m)
/-- what a law asks of the evaluator -/
def Txt.Says (t : Txt) (Wn k i : Nat) : Prop := ∀ ns : List Int, ns.length ≤ 63 → ∃ kn st, callF t.pg Wn k i [.scr ns] {} = .ok (kn, .bl true) st
/-- an exception at some world -/
def CXA (P : Program) : CXT := fun outer H s E u s' => ∃ w, L2.CX P w outer H s E u s'
/-- the frozen part at the law's entry -/
theorem head_sp {w : World} {K : PySem.W.Frag} {t : Txt} {Wn k i : Nat} (hs : t.Says Wn k i) {H : Hp} {a : Addr} {ns : List Int} (hl : ns.length ≤ 63) (hO : Only H) (hS : SqL K H a (ns.map V.int)) :
    spF (gk t.pg Wn K w (faOf t.rc t.ds K) (xrE t.xs t.fs K) k) i 1 [.ref a] H (fun v _ => v = .bl true) fun _ _ _ => False := by
  obtain ⟨kn, st', e⟩ := hs ns hl
  refine ⟨rfl, ⟨K, w, faOf t.rc t.ds K, H, fun _ => none⟩, {}, [.scr ns], ⟨rfl, rfl, rfl⟩, fun _ _ h => h, ⟨rfl, rfl, fun _ => rfl, fun _ _ _ h => nomatch h⟩, .cons (.scr hS) .nil, ?_⟩
  show OutG (callF t.pg Wn k i [.scr ns] {}) _ _
  rw [e]
  intro v C' H' p r n
  exact repK_bl r
theorem facts_of {P : Program} {w : World} {K : PySem.W.Frag} {h : Heap} {mg : Str → Option Value} {t : Txt} {Wn k i : Nat} {d : Df} {f : Addr} {x y : Str} (hdict : ∀ (X : Cx) (tg : Expr), X.calm = true → DictIt X tg)
    (hc : t.chk = true) (hb : BindAll t.ds) (hd : t.ds[i]? = some d) (hx : d.x = x) (hy : d.ps = [y]) (hs : t.Says Wn k i) (X : K.In h) (G : h.Ns mainGlobals mg) (hfa : mg x = some (.ref f)) (hP : ((P.main.file : Str) == t.file) = true) (hT : (P.main.scope.names.lookup ("super" : Str)).isSome = false) (hn : t.ds.length ≤ 4000) (hrc : t.rcB = true) (hrb : t.rcBind) (hcl : d.cls = none) (c0 : SaysE t.xs t.fs t.file t.fas t.fn K) :
    ∃ (K : PySem.W.Frag) (fd : FuncData) (sp : Sp), K.In h ∧ (∀ (s : Shared) (u : Value), BindsTo s fd ⟨[u], []⟩ [(y, u)]) ∧
        (∀ (H : Hp) (a : Addr) (ns : List Int), ns.length ≤ 63 → Only H → SqL K H a (ns.map V.int) → sp [.ref a] H (fun v _ => v = .bl true) fun _ _ _ => False) ∧
        ∀ base : Heap, K.In base → base.Ns mainGlobals mg → FnOk P w K mg base (CXA P) (k + 3) f fd [y] sp := by
  have c := c0.d.1
  have m : ModF P K w mg t.pg (faOf t.rc t.ds K) (xrE t.xs t.fs K) t.cf t.ds := modF_of hc hb X G hP hT hn hrc hrb c0
  obtain ⟨_, fd, _, _, F, _⟩ := m.fn i d hd
  have e : f = faOf t.rc t.ds K i := by
    have ef : d.fas = .glo d.x := by unfold Df.fas; rw [hcl]
    have m1 : He.Fa.glo d.x ∈ t.fas := List.mem_append_left _ (ef ▸ List.mem_map_of_mem (List.mem_of_getElem? hd))
    have e := hfa.symm.trans (hx ▸ He.glo_ok X G (fact_mem c m1))
    have e2 : faOf t.rc t.ds K i = He.ga K d.x := by
      rw [fa_at hn hd]
      unfold Df.at_
      rw [hcl]; rfl
    rw [e2, hx]
    cases e
    rfl
  subst e
  refine ⟨K, fd, spF (gk t.pg Wn K w (faOf t.rc t.ds K) (xrE t.xs t.fs K) k) i 1, X, fun s u => ?_, fun H a ns hl hO hS => head_sp hs hl hO hS, fun base _ _ => ?_⟩
  · have := FunD.bindsA (ps := d.ps) F (hb.get hd) s [u] (by rw [hy]; rfl)
    rw [hy] at this
    exact this
  · have q := fn_ok (P := P) (base := base) (Wn := Wn) (xr := xrE t.xs t.fs K) hdict m k i d hd fd F
    rw [hy] at q
    refine ⟨q.len, fun A outer s H args us vs Q E hr he hb hv hs => codeAny_mono (q.run A outer s H args us vs Q E hr he hb hv hs) fun r s' hq => ?_⟩
    cases r with
    | ok o => cases o <;> exact hq
    | error e => exact ⟨w, hq⟩
theorem cx_false {P : Program} (H : Hp) (s : Shared) (e : Value) (s' : Shared) : CXA P [] H s (fun _ _ _ => False) e s' → False := fun ⟨_, _, _, _, _, _, _, _, _, _, _, _, _, z⟩ => z
end Hb
namespace Hl
open Hb
abbrev f_numbers_is_in : Nat := 0
abbrev f_books_is_row : Nat := 1
abbrev f_books_need_book : Nat := 2
abbrev f_books_reduced_in : Nat := 3
abbrev f_books_reduced : Nat := 4
abbrev f_books_alike : Nat := 5
abbrev f_books_mirrored : Nat := 6
abbrev f_books_backward : Nat := 7
abbrev f_books_need_roofs : Nat := 8
abbrev f_books_met : Nat := 9
abbrev f_books_joined : Nat := 10
abbrev f_books_is_within : Nat := 11
abbrev f_books_lets : Nat := 12
abbrev f_booktext_write_book : Nat := 13
abbrev f_booktext_Reader_sign : Nat := 14
abbrev f_booktext_Reader_skip : Nat := 15
abbrev f_booktext_Reader_take : Nat := 16
abbrev f_booktext_Reader_number : Nat := 17
abbrev f_booktext_Reader_row : Nat := 18
abbrev f_booktext_read_book : Nat := 19
abbrev f_twos_need_pair : Nat := 20
abbrev f_twos_need_two : Nat := 21
abbrev f_twos_all_pairs : Nat := 22
abbrev f_twos_behind : Nat := 23
abbrev f_twos_deeds_in : Nat := 24
abbrev f_twos_two_deeds : Nat := 25
abbrev f_twos_from_in : Nat := 26
abbrev f_twos_two_come : Nat := 27
abbrev f_twos_two_fewest : Nat := 28
abbrev f_twos_off : Nat := 29
abbrev f_twos_crooked_in : Nat := 30
abbrev f_twos_crooked : Nat := 31
abbrev f_twos_is_straight : Nat := 32
abbrev f_twos_table_in : Nat := 33
abbrev f_twos_same_table : Nat := 34
abbrev f_twos_two_lots : Nat := 35
abbrev f_l_alike : Nat := 36
abbrev f_law_k05 : Nat := 37
abbrev c_books_MOST_ROOF : Nat := 0
abbrev c_booktext_DIGITS : Nat := 1
def b_numbers_is_in : Fn :=
  { np := 3, nl := 3, body := [.ret (.and_ [(.isa (.var 0) [.int]), (.not_ (.isa (.var 0) [.bool])), (.cmp2 .le .le (.var 1) (.var 0) (.var 2))])] }
def b_books_is_row : Fn :=
  { np := 2, nl := 3, body := [.if_ (.or_ [(.not_ (.isa (.var 0) [.tuple])), (.cmp .ne (.lc (.var 2) (.nm 2) (.val (.var 0)) (some (.not_ (.call f_numbers_is_in [(.var 2), (.neg (.var 1)), (.var 1)])))) (.lst []))]) [.ret (.cst (.bl false))] [],
  .ret (.cmp .eq (.p1 .list (.var 0)) (.p1 .sset (.var 0)))] }
def b_books_need_book : Fn :=
  { np := 1, nl := 1, body := [.if_ (.or_ [(.not_ (.isa (.var 0) [.tuple])), (.cmp .ne (.p1 .len (.var 0)) (.cst (.int 3))), (.not_ (.call f_numbers_is_in [(.idx (.var 0) (.cst (.int 0))), (.cst (.int 1)), (.glob c_books_MOST_ROOF)]))]) [.stop] [],
  .if_ (.or_ [(.not_ (.call f_books_is_row [(.idx (.var 0) (.cst (.int 1))), (.idx (.var 0) (.cst (.int 0)))])), (.not_ (.call f_books_is_row [(.idx (.var 0) (.cst (.int 2))), (.idx (.var 0) (.cst (.int 0)))]))]) [.stop] []] }
def b_books_reduced_in : Fn :=
  { np := 1, nl := 5, body := [.asg (.pat (.tp [(.nm 1), (.nm 2), (.nm 3)])) (.var 0),
  .ret (.tup [(.var 1), (.p1 .tuple (.lc (.var 4) (.nm 4) (.val (.var 2)) (some (.cmp .gt (.var 4) (.neg (.var 1)))))), (.p1 .tuple (.lc (.var 4) (.nm 4) (.val (.var 3)) (some (.cmp .lt (.var 4) (.var 1)))))])] }
def b_books_reduced : Fn :=
  { np := 1, nl := 1, body := [.ex (.call f_books_need_book [(.var 0)]),
  .ret (.call f_books_reduced_in [(.var 0)])] }
def b_books_alike : Fn :=
  { np := 2, nl := 2, body := [.ex (.call f_books_need_book [(.var 0)]),
  .ex (.call f_books_need_book [(.var 1)]),
  .ret (.cmp .eq (.call f_books_reduced_in [(.var 0)]) (.call f_books_reduced_in [(.var 1)]))] }
def b_books_mirrored : Fn :=
  { np := 1, nl := 5, body := [.ex (.call f_books_need_book [(.var 0)]),
  .asg (.pat (.tp [(.nm 1), (.nm 2), (.nm 3)])) (.call f_books_reduced_in [(.var 0)]),
  .ret (.tup [(.var 1), (.p1 .tuple (.p1 .sorted (.lc (.neg (.var 4)) (.nm 4) (.val (.var 3)) none))), (.p1 .tuple (.p1 .sorted (.lc (.neg (.var 4)) (.nm 4) (.val (.var 2)) none)))])] }
def b_books_backward : Fn :=
  { np := 1, nl := 5, body := [.ex (.call f_books_need_book [(.var 0)]),
  .asg (.pat (.tp [(.nm 1), (.nm 2), (.nm 3)])) (.call f_books_reduced_in [(.var 0)]),
  .ret (.tup [(.var 1), (.p1 .tuple (.lc (.bin .add (.var 4) (.cst (.int 1))) (.nm 4) (.val (.var 3)) none)), (.p1 .tuple (.lc (.bin .sub (.var 4) (.cst (.int 1))) (.nm 4) (.val (.var 2)) none))])] }
def b_books_need_roofs : Fn :=
  { np := 2, nl := 2, body := [.ex (.call f_books_need_book [(.var 0)]),
  .ex (.call f_books_need_book [(.var 1)]),
  .if_ (.cmp .ne (.idx (.var 0) (.cst (.int 0))) (.idx (.var 1) (.cst (.int 0)))) [.stop] []] }
def b_books_met : Fn :=
  { np := 2, nl := 4, body := [.ex (.call f_books_need_roofs [(.var 0), (.var 1)]),
  .asg (.pat (.nm 2)) (.p1 .tuple (.lc (.var 3) (.nm 3) (.val (.idx (.var 0) (.cst (.int 1)))) (some (.cmp .in_ (.var 3) (.idx (.var 1) (.cst (.int 1))))))),
  .ret (.tup [(.idx (.var 0) (.cst (.int 0))), (.var 2), (.p1 .tuple (.lc (.var 3) (.nm 3) (.val (.idx (.var 0) (.cst (.int 2)))) (some (.cmp .in_ (.var 3) (.idx (.var 1) (.cst (.int 2)))))))])] }
def b_books_joined : Fn :=
  { np := 2, nl := 2, body := [.ex (.call f_books_need_roofs [(.var 0), (.var 1)]),
  .ret (.tup [(.idx (.var 0) (.cst (.int 0))), (.p1 .tuple (.p1 .sset (.bin .add (.idx (.var 0) (.cst (.int 1))) (.idx (.var 1) (.cst (.int 1)))))), (.p1 .tuple (.p1 .sset (.bin .add (.idx (.var 0) (.cst (.int 2))) (.idx (.var 1) (.cst (.int 2))))))])] }
def b_books_is_within : Fn :=
  { np := 2, nl := 5, body := [.ex (.call f_books_need_roofs [(.var 0), (.var 1)]),
  .asg (.pat (.tp [(.nm 2), (.nm 3)])) (.tup [(.call f_books_reduced_in [(.var 0)]), (.call f_books_reduced_in [(.var 1)])]),
  .ret (.and_ [(.cmp .eq (.lc (.var 4) (.nm 4) (.val (.idx (.var 2) (.cst (.int 1)))) (some (.cmp .notin (.var 4) (.idx (.var 3) (.cst (.int 1)))))) (.lst [])), (.cmp .eq (.lc (.var 4) (.nm 4) (.val (.idx (.var 2) (.cst (.int 2)))) (some (.cmp .notin (.var 4) (.idx (.var 3) (.cst (.int 2)))))) (.lst []))])] }
def b_books_lets : Fn :=
  { np := 4, nl := 4, body := [.if_ (.var 3) [.ret (.and_ [(.cmp .lt (.var 1) (.idx (.var 0) (.cst (.int 0)))), (.cmp .in_ (.bin .sub (.var 2) (.var 1)) (.idx (.var 0) (.cst (.int 1))))])] [],
  .ret (.and_ [(.cmp .gt (.var 1) (.cst (.int 0))), (.cmp .in_ (.bin .sub (.var 2) (.var 1)) (.idx (.var 0) (.cst (.int 2))))])] }
def b_booktext_write_book : Fn :=
  { np := 1, nl := 4, body := [.ex (.call f_books_need_book [(.var 0)]),
  .asg (.pat (.nm 1)) (.lc (.mt .join (.cst (.str ⟨#[32]⟩)) (.lc (.p1 .str (.var 3)) (.nm 3) (.val (.var 2)) none)) (.nm 2) (.val (.slc (.var 0) (some (.cst (.int 1))) none)) none),
  .ret (.bin .add (.bin .add (.bin .add (.bin .add (.p1 .str (.idx (.var 0) (.cst (.int 0)))) (.cst (.str ⟨#[58]⟩))) (.idx (.var 1) (.cst (.int 0)))) (.cst (.str ⟨#[47]⟩))) (.idx (.var 1) (.cst (.int 1))))] }
def b_booktext_Reader_sign : Fn :=
  { np := 1, nl := 1, body := [.ret (.slc (.rdf (.var 0) true) (some (.rdf (.var 0) false)) (some (.bin .add (.rdf (.var 0) false) (.cst (.int 1)))))] }
def b_booktext_Reader_skip : Fn :=
  { np := 1, nl := 1, body := [.while_ (.cmp .eq (.mth f_booktext_Reader_sign (.var 0) []) (.cst (.str ⟨#[32]⟩))) [.inc (.var 0)]] }
def b_booktext_Reader_take : Fn :=
  { np := 2, nl := 2, body := [.if_ (.cmp .ne (.mth f_booktext_Reader_sign (.var 0) []) (.var 1)) [.stop] [],
  .inc (.var 0)] }
def b_booktext_Reader_number : Fn :=
  { np := 2, nl := 4, body := [.asg (.pat (.nm 2)) (.cmp .eq (.mth f_booktext_Reader_sign (.var 0) []) (.cst (.str ⟨#[45]⟩))),
  .if_ (.var 2) [.inc (.var 0)] [],
  .if_ (.or_ [(.cmp .eq (.mth f_booktext_Reader_sign (.var 0) []) (.cst (.str ⟨#[]⟩))), (.cmp .notin (.mth f_booktext_Reader_sign (.var 0) []) (.glob c_booktext_DIGITS)), (.cmp .gt (.p1 .int (.mth f_booktext_Reader_sign (.var 0) [])) (.var 1)), (.and_ [(.var 2), (.cmp .eq (.mth f_booktext_Reader_sign (.var 0) []) (.cst (.str ⟨#[48]⟩)))])]) [.stop] [],
  .asg (.pat (.nm 3)) (.ite (.var 2) (.neg (.p1 .int (.mth f_booktext_Reader_sign (.var 0) []))) (.p1 .int (.mth f_booktext_Reader_sign (.var 0) []))),
  .inc (.var 0),
  .ret (.var 3)] }
def b_booktext_Reader_row : Fn :=
  { np := 3, nl := 5, body := [.asg (.own 3) (.lst []),
  .ex (.mth f_booktext_Reader_skip (.var 0) []),
  .while_ (.cmp .ne (.mth f_booktext_Reader_sign (.var 0) []) (.var 2)) [.asg (.pat (.nm 4)) (.rdf (.var 0) false),
  .app 3 (.mth f_booktext_Reader_number (.var 0) [(.var 1)]),
  .if_ (.and_ [(.cmp .gt (.p1 .len (.var 3)) (.cst (.int 1))), (.cmp .le (.idx (.var 3) (.neg (.cst (.int 1)))) (.idx (.var 3) (.neg (.cst (.int 2)))))]) [.stop] [],
  .if_ (.and_ [(.cmp .ne (.mth f_booktext_Reader_sign (.var 0) []) (.cst (.str ⟨#[32]⟩))), (.cmp .ne (.mth f_booktext_Reader_sign (.var 0) []) (.var 2))]) [.stop] [],
  .ex (.mth f_booktext_Reader_skip (.var 0) [])],
  .ret (.p1 .tuple (.var 3))] }
def b_booktext_read_book : Fn :=
  { np := 1, nl := 4, body := [.if_ (.not_ (.isa (.var 0) [.str])) [.stop] [],
  .asg (.pat (.nm 1)) (.mkrd (.var 0)),
  .ex (.mth f_booktext_Reader_skip (.var 1) []),
  .if_ (.or_ [(.cmp .eq (.mth f_booktext_Reader_sign (.var 1) []) (.cst (.str ⟨#[]⟩))), (.cmp .notin (.mth f_booktext_Reader_sign (.var 1) []) (.glob c_booktext_DIGITS)), (.not_ (.cmp2 .le .le (.cst (.int 1)) (.p1 .int (.mth f_booktext_Reader_sign (.var 1) [])) (.glob c_books_MOST_ROOF)))]) [.stop] [],
  .asg (.pat (.nm 2)) (.p1 .int (.mth f_booktext_Reader_sign (.var 1) [])),
  .inc (.var 1),
  .ex (.mth f_booktext_Reader_take (.var 1) [(.cst (.str ⟨#[58]⟩))]),
  .asg (.pat (.nm 3)) (.mth f_booktext_Reader_row (.var 1) [(.var 2), (.cst (.str ⟨#[47]⟩))]),
  .ex (.mth f_booktext_Reader_take (.var 1) [(.cst (.str ⟨#[47]⟩))]),
  .ret (.tup [(.var 2), (.var 3), (.mth f_booktext_Reader_row (.var 1) [(.var 2), (.cst (.str ⟨#[]⟩))])])] }
def b_twos_need_pair : Fn :=
  { np := 2, nl := 3, body := [.if_ (.or_ [(.not_ (.isa (.var 1) [.tuple])), (.cmp .ne (.p1 .len (.var 1)) (.cst (.int 2)))]) [.stop] [],
  .if_ (.cmp .ne (.lc (.var 2) (.nm 2) (.val (.var 1)) (some (.not_ (.call f_numbers_is_in [(.var 2), (.cst (.int 0)), (.idx (.var 0) (.cst (.int 0)))])))) (.lst [])) [.stop] []] }
def b_twos_need_two : Fn :=
  { np := 3, nl := 3, body := [.ex (.call f_books_need_book [(.var 0)]),
  .ex (.call f_twos_need_pair [(.var 0), (.var 1)]),
  .ex (.call f_twos_need_pair [(.var 0), (.var 2)])] }
def b_twos_all_pairs : Fn :=
  { np := 1, nl := 4, body := [.asg (.pat (.nm 1)) (.lst []),
  .for_ (.nm 2) (.rng [(.bin .add (.var 0) (.cst (.int 1)))]) [.asg (.pat (.nm 1)) (.bin .add (.var 1) (.lc (.tup [(.var 2), (.var 3)]) (.nm 3) (.rng [(.bin .add (.var 0) (.cst (.int 1)))]) none))],
  .ret (.var 1)] }
def b_twos_behind : Fn :=
  { np := 3, nl := 4, body := [.asg (.pat (.nm 3)) (.ite (.var 2) (.cst (.int 1)) (.neg (.cst (.int 1)))),
  .ret (.ite (.cmp .eq (.var 1) (.cst (.int 0))) (.tup [(.bin .add (.idx (.var 0) (.cst (.int 0))) (.var 3)), (.idx (.var 0) (.cst (.int 1)))]) (.tup [(.idx (.var 0) (.cst (.int 0))), (.bin .add (.idx (.var 0) (.cst (.int 1))) (.var 3))]))] }
def b_twos_deeds_in : Fn :=
  { np := 2, nl := 5, body := [.asg (.own 2) (.lst []),
  .for_ (.nm 3) (.val (.tup [(.cst (.bl false)), (.cst (.bl true))])) [.for_ (.nm 4) (.val (.tup [(.cst (.int 0)), (.cst (.int 1))])) [.if_ (.call f_books_lets [(.var 0), (.idx (.var 1) (.var 4)), (.idx (.var 1) (.bin .sub (.cst (.int 1)) (.var 4))), (.var 3)]) [.app 2 (.tup [(.var 3), (.var 4)])] []]],
  .ret (.var 2)] }
def b_twos_two_deeds : Fn :=
  { np := 2, nl := 2, body := [.ex (.call f_books_need_book [(.var 0)]),
  .ex (.call f_twos_need_pair [(.var 0), (.var 1)]),
  .ret (.p1 .tuple (.call f_twos_deeds_in [(.var 0), (.var 1)]))] }
def b_twos_from_in : Fn :=
  { np := 2, nl := 9, body := [.asgs [(.own 2), (.pat (.nm 3))] [(.dct [((.var 1), (.cst (.int 0)))]), (.lst [(.var 1)])],
  .while_ (.cmp .ne (.var 3) (.lst [])) [.asg (.own 4) (.lst []),
  .for_ (.nm 5) (.val (.var 3)) [.for_ (.tp [(.nm 6), (.nm 7)]) (.val (.call f_twos_deeds_in [(.var 0), (.var 5)])) [.asg (.pat (.nm 8)) (.call f_twos_behind [(.var 5), (.var 7), (.var 6)]),
  .if_ (.cmp .notin (.var 8) (.var 2)) [.asg (.sub 2 (.var 8)) (.bin .add (.idx (.var 2) (.var 5)) (.cst (.int 1))),
  .app 4 (.var 8)] []]],
  .frz 4,
  .asg (.pat (.nm 3)) (.var 4)],
  .ret (.var 2)] }
def b_twos_two_come : Fn :=
  { np := 2, nl := 2, body := [.ex (.call f_books_need_book [(.var 0)]),
  .ex (.call f_twos_need_pair [(.var 0), (.var 1)]),
  .ret (.p1 .skeys (.call f_twos_from_in [(.var 0), (.var 1)]))] }
def b_twos_two_fewest : Fn :=
  { np := 3, nl := 3, body := [.ex (.call f_twos_need_two [(.var 0), (.var 1), (.var 2)]),
  .ret (.getd (.call f_twos_from_in [(.var 0), (.var 1)]) [(.var 2), (.cst .non)])] }
def b_twos_off : Fn :=
  { np := 2, nl := 2, body := [.ret (.bin .add (.p1 .abs (.bin .sub (.idx (.var 0) (.cst (.int 0))) (.idx (.var 1) (.cst (.int 0))))) (.p1 .abs (.bin .sub (.idx (.var 0) (.cst (.int 1))) (.idx (.var 1) (.cst (.int 1))))))] }
def b_twos_crooked_in : Fn :=
  { np := 1, nl := 5, body := [.for_ (.nm 1) (.val (.call f_twos_all_pairs [(.idx (.var 0) (.cst (.int 0)))])) [.asg (.pat (.nm 2)) (.call f_twos_from_in [(.var 0), (.var 1)]),
  .asg (.pat (.nm 3)) (.lc (.var 4) (.nm 4) (.val (.p1 .skeys (.var 2))) (some (.cmp .ne (.idx (.var 2) (.var 4)) (.call f_twos_off [(.var 1), (.var 4)])))),
  .if_ (.cmp .ne (.var 3) (.lst [])) [.ret (.tup [(.var 1), (.idx (.var 3) (.cst (.int 0)))])] []],
  .ret (.cst .non)] }
def b_twos_crooked : Fn :=
  { np := 1, nl := 1, body := [.ex (.call f_books_need_book [(.var 0)]),
  .ret (.call f_twos_crooked_in [(.var 0)])] }
def b_twos_is_straight : Fn :=
  { np := 1, nl := 1, body := [.ex (.call f_books_need_book [(.var 0)]),
  .ret (.cmp .is_ (.call f_twos_crooked_in [(.var 0)]) (.cst .non))] }
def b_twos_table_in : Fn :=
  { np := 1, nl := 2, body := [.ret (.p1 .dict (.lc (.tup [(.var 1), (.p1 .skeys (.call f_twos_from_in [(.var 0), (.var 1)]))]) (.nm 1) (.val (.call f_twos_all_pairs [(.idx (.var 0) (.cst (.int 0)))])) none))] }
def b_twos_same_table : Fn :=
  { np := 2, nl := 2, body := [.ex (.call f_books_need_book [(.var 0)]),
  .ex (.call f_books_need_book [(.var 1)]),
  .ret (.and_ [(.cmp .eq (.idx (.var 0) (.cst (.int 0))) (.idx (.var 1) (.cst (.int 0)))), (.cmp .eq (.call f_twos_table_in [(.var 0)]) (.call f_twos_table_in [(.var 1)]))])] }
def b_twos_two_lots : Fn :=
  { np := 1, nl := 6, body := [.ex (.call f_books_need_book [(.var 0)]),
  .asgs [(.pat (.nm 1)), (.own 2)] [(.call f_twos_table_in [(.var 0)]), (.lst [])],
  .for_ (.nm 3) (.val (.call f_twos_all_pairs [(.idx (.var 0) (.cst (.int 0)))])) [.asg (.pat (.nm 4)) (.p1 .tuple (.lc (.var 5) (.nm 5) (.val (.idx (.var 1) (.var 3))) (some (.cmp .in_ (.var 3) (.idx (.var 1) (.var 5)))))),
  .if_ (.cmp .eq (.idx (.var 4) (.cst (.int 0))) (.var 3)) [.app 2 (.var 4)] []],
  .ret (.p1 .tuple (.var 2))] }
def b_l_alike : Fn :=
  { np := 2, nl := 3, body := [.if_ (.isa (.var 1) [.tuple, .list]) [.if_ (.or_ [(.not_ (.isa (.var 0) [.tuple, .list])), (.cmp .ne (.isa (.var 0) [.list]) (.isa (.var 1) [.list]))]) [.ret (.cst (.bl false))] [],
  .if_ (.cmp .ne (.p1 .len (.var 0)) (.p1 .len (.var 1))) [.ret (.cst (.bl false))] [],
  .ret (.cmp .eq (.lc (.var 2) (.nm 2) (.rng [(.p1 .len (.var 1))]) (some (.not_ (.call f_l_alike [(.idx (.var 0) (.var 2)), (.idx (.var 1) (.var 2))])))) (.lst []))] [],
  .if_ (.or_ [(.cmp .is_ (.var 1) (.cst .non)), (.isa (.var 1) [.str])]) [.ret (.and_ [(.cmp .eq (.var 0) (.var 1)), (.cmp .eq (.isa (.var 0) [.str]) (.isa (.var 1) [.str]))])] [],
  .ret (.and_ [(.isa (.var 0) [.int]), (.cmp .eq (.isa (.var 0) [.bool]) (.isa (.var 1) [.bool])), (.cmp .eq (.var 0) (.var 1))])] }
def b_law_k05 : Fn :=
  { np := 1, nl := 9, body := [.mkrow 1 [(.var 0), (.cst (.int 0)), (.cst (.int 9905)), (.cst (.int 0))],
  .asgs [(.pat (.nm 2)), (.pat (.nm 3))] [(.tup [(.cst (.int 1)), (.tup [(.cst (.int 0)), (.cst (.int 1))]), (.tup [(.neg (.cst (.int 1))), (.cst (.int 0))])]), (.tup [(.cst (.int 1)), (.tup [(.neg (.cst (.int 1))), (.cst (.int 0)), (.cst (.int 1))]), (.tup [(.neg (.cst (.int 1))), (.cst (.int 0)), (.cst (.int 1))])])],
  .asg (.pat (.nm 4)) (.lst [(.call f_books_reduced [(.var 3)]), (.call f_books_alike [(.var 2), (.var 3)]), (.call f_books_mirrored [(.tup [(.cst (.int 2)), (.tup [(.cst (.int 0)), (.cst (.int 1)), (.cst (.int 2))]), (.tup [(.cst (.int 0))])])])]),
  .asg (.pat (.nm 4)) (.bin .add (.var 4) (.lst [(.call f_books_backward [(.tup [(.cst (.int 2)), (.tup [(.cst (.int 0)), (.cst (.int 1)), (.cst (.int 2))]), (.tup [(.neg (.cst (.int 2))), (.neg (.cst (.int 1))), (.cst (.int 0))])])]), (.call f_books_met [(.var 2), (.var 3)]), (.call f_books_joined [(.var 2), (.tup [(.cst (.int 1)), (.tup [(.neg (.cst (.int 1)))]), (.tup [])])])])),
  .asg (.pat (.nm 4)) (.bin .add (.var 4) (.lst [(.call f_books_is_within [(.var 2), (.var 3)]), (.call f_books_is_within [(.var 3), (.var 2)])])),
  .asg (.pat (.nm 5)) (.lst [(.tup [(.cst (.int 1)), (.tup [(.cst (.int 0)), (.cst (.int 1))]), (.tup [(.neg (.cst (.int 1))), (.cst (.int 0))])]), (.cst (.bl true)), (.tup [(.cst (.int 2)), (.tup [(.cst (.int 0))]), (.tup [(.neg (.cst (.int 2))), (.neg (.cst (.int 1))), (.cst (.int 0))])]), (.tup [(.cst (.int 2)), (.tup [(.neg (.cst (.int 1))), (.cst (.int 0)), (.cst (.int 1))]), (.tup [(.neg (.cst (.int 1))), (.cst (.int 0)), (.cst (.int 1))])]), (.var 2)]),
  .asg (.pat (.nm 5)) (.bin .add (.var 5) (.lst [(.tup [(.cst (.int 1)), (.tup [(.neg (.cst (.int 1))), (.cst (.int 0)), (.cst (.int 1))]), (.tup [(.neg (.cst (.int 1))), (.cst (.int 0))])]), (.cst (.bl true)), (.cst (.bl true))])),
  .if_ (.not_ (.call f_l_alike [(.var 4), (.var 5)])) [.ret (.cst (.bl false))] [],
  .asg (.pat (.nm 4)) (.lst [(.call f_booktext_write_book [(.tup [(.cst (.int 2)), (.tup [(.cst (.int 0)), (.cst (.int 1))]), (.tup [(.neg (.cst (.int 1))), (.cst (.int 0))])])]), (.call f_booktext_read_book [(.cst (.str ⟨#[32, 50, 58, 32, 48, 32, 49, 32, 47, 45, 49, 32, 32, 48, 32]⟩))]), (.call f_booktext_write_book [(.tup [(.cst (.int 1)), (.tup []), (.tup [])])])]),
  .asg (.pat (.nm 4)) (.bin .add (.var 4) (.lst [(.call f_booktext_read_book [(.cst (.str ⟨#[49, 58, 47]⟩))])])),
  .if_ (.not_ (.call f_l_alike [(.var 4), (.lst [(.cst (.str ⟨#[50, 58, 48, 32, 49, 47, 45, 49, 32, 48]⟩)), (.tup [(.cst (.int 2)), (.tup [(.cst (.int 0)), (.cst (.int 1))]), (.tup [(.neg (.cst (.int 1))), (.cst (.int 0))])]), (.cst (.str ⟨#[49, 58, 47]⟩)), (.tup [(.cst (.int 1)), (.tup []), (.tup [])])])])) [.ret (.cst (.bl false))] [],
  .asg (.pat (.nm 6)) (.tup [(.cst (.int 2)), (.tup [(.cst (.int 0)), (.cst (.int 1)), (.cst (.int 2))]), (.tup [(.neg (.cst (.int 2))), (.neg (.cst (.int 1))), (.cst (.int 0))])]),
  .asg (.pat (.nm 4)) (.lst [(.call f_twos_two_deeds [(.var 6), (.tup [(.cst (.int 0)), (.cst (.int 2))])]), (.call f_twos_two_deeds [(.var 6), (.tup [(.cst (.int 1)), (.cst (.int 1))])]), (.call f_twos_two_come [(.var 6), (.tup [(.cst (.int 0)), (.cst (.int 2))])])]),
  .asg (.pat (.nm 4)) (.bin .add (.var 4) (.lst [(.call f_twos_two_fewest [(.var 6), (.tup [(.cst (.int 0)), (.cst (.int 2))]), (.tup [(.cst (.int 2)), (.cst (.int 1))])]), (.call f_twos_two_fewest [(.var 6), (.tup [(.cst (.int 0)), (.cst (.int 0))]), (.tup [(.cst (.int 0)), (.cst (.int 2))])]), (.call f_twos_is_straight [(.var 6)])])),
  .asg (.pat (.nm 4)) (.bin .add (.var 4) (.lst [(.call f_twos_crooked [(.var 6)])])),
  .asg (.pat (.nm 5)) (.lst [(.tup [(.tup [(.cst (.bl false)), (.cst (.int 1))]), (.tup [(.cst (.bl true)), (.cst (.int 0))])]), (.tup [(.tup [(.cst (.bl false)), (.cst (.int 0))]), (.tup [(.cst (.bl false)), (.cst (.int 1))]), (.tup [(.cst (.bl true)), (.cst (.int 0))]), (.tup [(.cst (.bl true)), (.cst (.int 1))])])]),
  .asg (.pat (.nm 5)) (.bin .add (.var 5) (.lst [(.lst [(.tup [(.cst (.int 0)), (.cst (.int 0))]), (.tup [(.cst (.int 0)), (.cst (.int 1))]), (.tup [(.cst (.int 0)), (.cst (.int 2))]), (.tup [(.cst (.int 1)), (.cst (.int 0))]), (.tup [(.cst (.int 1)), (.cst (.int 1))]), (.tup [(.cst (.int 1)), (.cst (.int 2))]), (.tup [(.cst (.int 2)), (.cst (.int 1))]), (.tup [(.cst (.int 2)), (.cst (.int 2))])]), (.cst (.int 3)), (.cst .non), (.cst (.bl true)), (.cst .non)])),
  .if_ (.not_ (.call f_l_alike [(.var 4), (.var 5)])) [.ret (.cst (.bl false))] [],
  .asg (.pat (.nm 4)) (.lst [(.call f_twos_two_lots [(.var 6)]), (.call f_twos_same_table [(.var 6), (.tup [(.cst (.int 2)), (.tup [(.cst (.int 0)), (.cst (.int 1)), (.cst (.int 2))]), (.tup [(.neg (.cst (.int 2))), (.neg (.cst (.int 1))), (.cst (.int 0)), (.cst (.int 2))])])]), (.call f_twos_same_table [(.var 6), (.var 2)])]),
  .asg (.pat (.nm 4)) (.bin .add (.var 4) (.lst [(.call f_twos_two_lots [(.var 2)])])),
  .asg (.pat (.nm 7)) (.tup [(.tup [(.cst (.int 0)), (.cst (.int 0))]), (.tup [(.cst (.int 0)), (.cst (.int 1))]), (.tup [(.cst (.int 1)), (.cst (.int 0))]), (.tup [(.cst (.int 1)), (.cst (.int 1))]), (.tup [(.cst (.int 1)), (.cst (.int 2))]), (.tup [(.cst (.int 2)), (.cst (.int 1))]), (.tup [(.cst (.int 2)), (.cst (.int 2))])]),
  .if_ (.not_ (.call f_l_alike [(.var 4), (.lst [(.tup [(.var 7), (.tup [(.tup [(.cst (.int 0)), (.cst (.int 2))])]), (.tup [(.tup [(.cst (.int 2)), (.cst (.int 0))])])]), (.cst (.bl true)), (.cst (.bl false)), (.tup [(.tup [(.tup [(.cst (.int 0)), (.cst (.int 0))]), (.tup [(.cst (.int 0)), (.cst (.int 1))]), (.tup [(.cst (.int 1)), (.cst (.int 0))]), (.tup [(.cst (.int 1)), (.cst (.int 1))])])])])])) [.ret (.cst (.bl false))] [],
  .asg (.pat (.nm 8)) (.tup [(.cst (.int 1)), (.tup [(.cst (.int 1))]), (.tup [(.cst (.int 0))])]),
  .asg (.pat (.nm 4)) (.lst [(.call f_twos_two_come [(.var 8), (.tup [(.cst (.int 0)), (.cst (.int 1))])]), (.call f_twos_two_come [(.var 8), (.tup [(.cst (.int 0)), (.cst (.int 0))])]), (.call f_twos_is_straight [(.var 8)]), (.call f_twos_crooked [(.var 8)]), (.call f_twos_two_fewest [(.var 8), (.tup [(.cst (.int 0)), (.cst (.int 1))]), (.tup [(.cst (.int 1)), (.cst (.int 0))])])]),
  .ret (.call f_l_alike [(.var 4), (.lst [(.lst [(.tup [(.cst (.int 0)), (.cst (.int 1))]), (.tup [(.cst (.int 1)), (.cst (.int 0))]), (.tup [(.cst (.int 1)), (.cst (.int 1))])]), (.lst [(.tup [(.cst (.int 0)), (.cst (.int 0))])]), (.cst (.bl true)), (.cst .non), (.cst (.int 2))])])] }
end Hl
namespace Law
open PySem PySem.Spec PyProof.Rows L2 Hb Hl
def top (i : Nat) : Stmt := Law0.top i
def msub (s : Stmt) (j : Nat) : Stmt := Law0.msub s j
def d_numbers_is_in : Df := ⟨"is_in", "is_in", "is_in", defArgs (top 7), defBody (top 7), defScope (top 7), ["value", "least", "most"], ["value", "least", "most"], none⟩
def d_books_is_row : Df := ⟨"is_row", "is_row", "is_row", defArgs (top 10), defBody (top 10), defScope (top 10), ["value", "roof", "one"], ["value", "roof"], none⟩
def d_books_need_book : Df := ⟨"need_book", "need_book", "need_book", defArgs (top 11), defBody (top 11), defScope (top 11), ["book"], ["book"], none⟩
def d_books_reduced_in : Df := ⟨"reduced_in", "reduced_in", "reduced_in", defArgs (top 12), defBody (top 12), defScope (top 12), ["book", "roof", "raising", "lowering", "one"], ["book"], none⟩
def d_books_reduced : Df := ⟨"reduced", "reduced", "reduced", defArgs (top 13), defBody (top 13), defScope (top 13), ["book"], ["book"], none⟩
def d_books_alike : Df := ⟨"alike", "alike", "alike", defArgs (top 14), defBody (top 14), defScope (top 14), ["book", "other"], ["book", "other"], none⟩
def d_books_mirrored : Df := ⟨"mirrored", "mirrored", "mirrored", defArgs (top 15), defBody (top 15), defScope (top 15), ["book", "roof", "raising", "lowering", "one"], ["book"], none⟩
def d_books_backward : Df := ⟨"backward", "backward", "backward", defArgs (top 16), defBody (top 16), defScope (top 16), ["book", "roof", "raising", "lowering", "one"], ["book"], none⟩
def d_books_need_roofs : Df := ⟨"need_roofs", "need_roofs", "need_roofs", defArgs (top 17), defBody (top 17), defScope (top 17), ["book", "other"], ["book", "other"], none⟩
def d_books_met : Df := ⟨"met", "met", "met", defArgs (top 18), defBody (top 18), defScope (top 18), ["book", "other", "raising", "one"], ["book", "other"], none⟩
def d_books_joined : Df := ⟨"joined", "joined", "joined", defArgs (top 19), defBody (top 19), defScope (top 19), ["book", "other"], ["book", "other"], none⟩
def d_books_is_within : Df := ⟨"is_within", "is_within", "is_within", defArgs (top 20), defBody (top 20), defScope (top 20), ["book", "other", "one", "two", "k"], ["book", "other"], none⟩
def d_books_lets : Df := ⟨"lets", "lets", "lets", defArgs (top 21), defBody (top 21), defScope (top 21), ["book", "own", "near", "up"], ["book", "own", "near", "up"], none⟩
def d_booktext_write_book : Df := ⟨"write_book", "write_book", "write_book", defArgs (top 24), defBody (top 24), defScope (top 24), ["book", "rows", "row", "one"], ["book"], none⟩
def d_booktext_Reader_sign : Df := ⟨"sign", "sign", "Reader.sign", defArgs (msub (top 25) 1), defBody (msub (top 25) 1), defScope (msub (top 25) 1), ["self"], ["self"], some "Reader"⟩
def d_booktext_Reader_skip : Df := ⟨"skip", "skip", "Reader.skip", defArgs (msub (top 25) 2), defBody (msub (top 25) 2), defScope (msub (top 25) 2), ["self"], ["self"], some "Reader"⟩
def d_booktext_Reader_take : Df := ⟨"take", "take", "Reader.take", defArgs (msub (top 25) 3), defBody (msub (top 25) 3), defScope (msub (top 25) 3), ["self", "sign"], ["self", "sign"], some "Reader"⟩
def d_booktext_Reader_number : Df := ⟨"number", "number", "Reader.number", defArgs (msub (top 25) 4), defBody (msub (top 25) 4), defScope (msub (top 25) 4), ["self", "roof", "low", "found"], ["self", "roof"], some "Reader"⟩
def d_booktext_Reader_row : Df := ⟨"row", "row", "Reader.row", defArgs (msub (top 25) 5), defBody (msub (top 25) 5), defScope (msub (top 25) 5), ["self", "roof", "end", "found", "start"], ["self", "roof", "end"], some "Reader"⟩
def d_booktext_read_book : Df := ⟨"read_book", "read_book", "read_book", defArgs (top 26), defBody (top 26), defScope (top 26), ["text", "reader", "roof", "raising"], ["text"], none⟩
def d_twos_need_pair : Df := ⟨"need_pair", "need_pair", "need_pair", defArgs (top 28), defBody (top 28), defScope (top 28), ["book", "pair", "one"], ["book", "pair"], none⟩
def d_twos_need_two : Df := ⟨"need_two", "need_two", "need_two", defArgs (top 29), defBody (top 29), defScope (top 29), ["book", "pair", "other"], ["book", "pair", "other"], none⟩
def d_twos_all_pairs : Df := ⟨"all_pairs", "all_pairs", "all_pairs", defArgs (top 30), defBody (top 30), defScope (top 30), ["roof", "found", "one", "other"], ["roof"], none⟩
def d_twos_behind : Df := ⟨"behind", "behind", "behind", defArgs (top 31), defBody (top 31), defScope (top 31), ["pair", "place", "up", "step"], ["pair", "place", "up"], none⟩
def d_twos_deeds_in : Df := ⟨"deeds_in", "deeds_in", "deeds_in", defArgs (top 32), defBody (top 32), defScope (top 32), ["book", "pair", "found", "up", "place"], ["book", "pair"], none⟩
def d_twos_two_deeds : Df := ⟨"two_deeds", "two_deeds", "two_deeds", defArgs (top 33), defBody (top 33), defScope (top 33), ["book", "pair"], ["book", "pair"], none⟩
def d_twos_from_in : Df := ⟨"from_in", "from_in", "from_in", defArgs (top 34), defBody (top 34), defScope (top 34), ["book", "pair", "found", "rows", "more", "here", "up", "place", "there"], ["book", "pair"], none⟩
def d_twos_two_come : Df := ⟨"two_come", "two_come", "two_come", defArgs (top 35), defBody (top 35), defScope (top 35), ["book", "pair"], ["book", "pair"], none⟩
def d_twos_two_fewest : Df := ⟨"two_fewest", "two_fewest", "two_fewest", defArgs (top 36), defBody (top 36), defScope (top 36), ["book", "pair", "other"], ["book", "pair", "other"], none⟩
def d_twos_off : Df := ⟨"off", "off", "off", defArgs (top 37), defBody (top 37), defScope (top 37), ["pair", "other"], ["pair", "other"], none⟩
def d_twos_crooked_in : Df := ⟨"crooked_in", "crooked_in", "crooked_in", defArgs (top 38), defBody (top 38), defScope (top 38), ["book", "pair", "told", "bad", "other"], ["book"], none⟩
def d_twos_crooked : Df := ⟨"crooked", "crooked", "crooked", defArgs (top 39), defBody (top 39), defScope (top 39), ["book"], ["book"], none⟩
def d_twos_is_straight : Df := ⟨"is_straight", "is_straight", "is_straight", defArgs (top 40), defBody (top 40), defScope (top 40), ["book"], ["book"], none⟩
def d_twos_table_in : Df := ⟨"table_in", "table_in", "table_in", defArgs (top 41), defBody (top 41), defScope (top 41), ["book", "pair"], ["book"], none⟩
def d_twos_same_table : Df := ⟨"same_table", "same_table", "same_table", defArgs (top 42), defBody (top 42), defScope (top 42), ["book", "other"], ["book", "other"], none⟩
def d_twos_two_lots : Df := ⟨"two_lots", "two_lots", "two_lots", defArgs (top 43), defBody (top 43), defScope (top 43), ["book", "table", "found", "pair", "lot", "other"], ["book"], none⟩
def d_l_alike : Df := ⟨"_law_alike", "_law_alike", "_law_alike", defArgs (top 45), defBody (top 45), defScope (top 45), ["_law_found", "_law_due", "_law_k"], ["_law_found", "_law_due"], none⟩
def d_law_k05 : Df := ⟨"law", "law", "law", defArgs (top 46), defBody (top 46), defScope (top 46), ["_law_script", "_law_row", "_law_calm", "_law_free", "_law_found", "_law_due", "_law_level", "_law_soft", "_law_odd"], ["_law_script"], none⟩
def d_rdinit : Df := ⟨"__init__", "__init__", "Reader.__init__", defArgs (msub (top 25) 0), defBody (msub (top 25) 0), defScope (msub (top 25) 0), ["self", "text"], ["self", "text"], some "Reader"⟩
def txt : Txt := ⟨[d_numbers_is_in, d_books_is_row, d_books_need_book, d_books_reduced_in, d_books_reduced, d_books_alike, d_books_mirrored, d_books_backward, d_books_need_roofs, d_books_met, d_books_joined, d_books_is_within, d_books_lets, d_booktext_write_book, d_booktext_Reader_sign, d_booktext_Reader_skip, d_booktext_Reader_take, d_booktext_Reader_number, d_booktext_Reader_row, d_booktext_read_book, d_twos_need_pair, d_twos_need_two, d_twos_all_pairs, d_twos_behind, d_twos_deeds_in, d_twos_two_deeds, d_twos_from_in, d_twos_two_come, d_twos_two_fewest, d_twos_off, d_twos_crooked_in, d_twos_crooked, d_twos_is_straight, d_twos_table_in, d_twos_same_table, d_twos_two_lots, d_l_alike, d_law_k05], [b_numbers_is_in, b_books_is_row, b_books_need_book, b_books_reduced_in, b_books_reduced, b_books_alike, b_books_mirrored, b_books_backward, b_books_need_roofs, b_books_met, b_books_joined, b_books_is_within, b_books_lets, b_booktext_write_book, b_booktext_Reader_sign, b_booktext_Reader_skip, b_booktext_Reader_take, b_booktext_Reader_number, b_booktext_Reader_row, b_booktext_read_book, b_twos_need_pair, b_twos_need_two, b_twos_all_pairs, b_twos_behind, b_twos_deeds_in, b_twos_two_deeds, b_twos_from_in, b_twos_two_come, b_twos_two_fewest, b_twos_off, b_twos_crooked_in, b_twos_crooked, b_twos_is_straight, b_twos_table_in, b_twos_same_table, b_twos_two_lots, b_l_alike, b_law_k05], [("MOST_ROOF", .int 4), ("DIGITS", .str ⟨#[48, 49, 50, 51, 52]⟩)], ["len", "tuple", "list", "sorted", "set", "abs", "dict", "int", "str", "range", "isinstance", "bool"], [], [], PySem.Challenge.pw_heapbooks_k05_known_books.main.file, some ("Reader", d_rdinit)⟩
theorem chk_numbers_is_in : chkDf txt.cf d_numbers_is_in b_numbers_is_in = true := by decide +kernel
theorem chk_books_is_row : chkDf txt.cf d_books_is_row b_books_is_row = true := by decide +kernel
theorem chk_books_need_book : chkDf txt.cf d_books_need_book b_books_need_book = true := by decide +kernel
theorem chk_books_reduced_in : chkDf txt.cf d_books_reduced_in b_books_reduced_in = true := by decide +kernel
theorem chk_books_reduced : chkDf txt.cf d_books_reduced b_books_reduced = true := by decide +kernel
theorem chk_books_alike : chkDf txt.cf d_books_alike b_books_alike = true := by decide +kernel
theorem chk_books_mirrored : chkDf txt.cf d_books_mirrored b_books_mirrored = true := by decide +kernel
theorem chk_books_backward : chkDf txt.cf d_books_backward b_books_backward = true := by decide +kernel
theorem chk_books_need_roofs : chkDf txt.cf d_books_need_roofs b_books_need_roofs = true := by decide +kernel
theorem chk_books_met : chkDf txt.cf d_books_met b_books_met = true := by decide +kernel
theorem chk_books_joined : chkDf txt.cf d_books_joined b_books_joined = true := by decide +kernel
theorem chk_books_is_within : chkDf txt.cf d_books_is_within b_books_is_within = true := by decide +kernel
theorem chk_books_lets : chkDf txt.cf d_books_lets b_books_lets = true := by decide +kernel
theorem chk_booktext_write_book : chkDf txt.cf d_booktext_write_book b_booktext_write_book = true := by decide +kernel
theorem chk_booktext_Reader_sign : chkDf txt.cf d_booktext_Reader_sign b_booktext_Reader_sign = true := by decide +kernel
theorem chk_booktext_Reader_skip : chkDf txt.cf d_booktext_Reader_skip b_booktext_Reader_skip = true := by decide +kernel
theorem chk_booktext_Reader_take : chkDf txt.cf d_booktext_Reader_take b_booktext_Reader_take = true := by decide +kernel
theorem chk_booktext_Reader_number : chkDf txt.cf d_booktext_Reader_number b_booktext_Reader_number = true := by decide +kernel
theorem chk_booktext_Reader_row : chkDf txt.cf d_booktext_Reader_row b_booktext_Reader_row = true := by decide +kernel
theorem chk_booktext_read_book : chkDf txt.cf d_booktext_read_book b_booktext_read_book = true := by decide +kernel
theorem chk_twos_need_pair : chkDf txt.cf d_twos_need_pair b_twos_need_pair = true := by decide +kernel
theorem chk_twos_need_two : chkDf txt.cf d_twos_need_two b_twos_need_two = true := by decide +kernel
theorem chk_twos_all_pairs : chkDf txt.cf d_twos_all_pairs b_twos_all_pairs = true := by decide +kernel
theorem chk_twos_behind : chkDf txt.cf d_twos_behind b_twos_behind = true := by decide +kernel
theorem chk_twos_deeds_in : chkDf txt.cf d_twos_deeds_in b_twos_deeds_in = true := by decide +kernel
theorem chk_twos_two_deeds : chkDf txt.cf d_twos_two_deeds b_twos_two_deeds = true := by decide +kernel
theorem chk_twos_from_in : chkDf txt.cf d_twos_from_in b_twos_from_in = true := by decide +kernel
theorem chk_twos_two_come : chkDf txt.cf d_twos_two_come b_twos_two_come = true := by decide +kernel
theorem chk_twos_two_fewest : chkDf txt.cf d_twos_two_fewest b_twos_two_fewest = true := by decide +kernel
theorem chk_twos_off : chkDf txt.cf d_twos_off b_twos_off = true := by decide +kernel
theorem chk_twos_crooked_in : chkDf txt.cf d_twos_crooked_in b_twos_crooked_in = true := by decide +kernel
theorem chk_twos_crooked : chkDf txt.cf d_twos_crooked b_twos_crooked = true := by decide +kernel
theorem chk_twos_is_straight : chkDf txt.cf d_twos_is_straight b_twos_is_straight = true := by decide +kernel
theorem chk_twos_table_in : chkDf txt.cf d_twos_table_in b_twos_table_in = true := by decide +kernel
theorem chk_twos_same_table : chkDf txt.cf d_twos_same_table b_twos_same_table = true := by decide +kernel
theorem chk_twos_two_lots : chkDf txt.cf d_twos_two_lots b_twos_two_lots = true := by decide +kernel
theorem chk_l_alike : chkDf txt.cf d_l_alike b_l_alike = true := by decide +kernel
theorem chk_law_k05 : chkDf txt.cf d_law_k05 b_law_k05 = true := by decide +kernel
theorem chk : txt.chk = true := chkDs_cons chk_numbers_is_in (chkDs_cons chk_books_is_row (chkDs_cons chk_books_need_book (chkDs_cons chk_books_reduced_in (chkDs_cons chk_books_reduced (chkDs_cons chk_books_alike (chkDs_cons chk_books_mirrored (chkDs_cons chk_books_backward (chkDs_cons chk_books_need_roofs (chkDs_cons chk_books_met (chkDs_cons chk_books_joined (chkDs_cons chk_books_is_within (chkDs_cons chk_books_lets (chkDs_cons chk_booktext_write_book (chkDs_cons chk_booktext_Reader_sign (chkDs_cons chk_booktext_Reader_skip (chkDs_cons chk_booktext_Reader_take (chkDs_cons chk_booktext_Reader_number (chkDs_cons chk_booktext_Reader_row (chkDs_cons chk_booktext_read_book (chkDs_cons chk_twos_need_pair (chkDs_cons chk_twos_need_two (chkDs_cons chk_twos_all_pairs (chkDs_cons chk_twos_behind (chkDs_cons chk_twos_deeds_in (chkDs_cons chk_twos_two_deeds (chkDs_cons chk_twos_from_in (chkDs_cons chk_twos_two_come (chkDs_cons chk_twos_two_fewest (chkDs_cons chk_twos_off (chkDs_cons chk_twos_crooked_in (chkDs_cons chk_twos_crooked (chkDs_cons chk_twos_is_straight (chkDs_cons chk_twos_table_in (chkDs_cons chk_twos_same_table (chkDs_cons chk_twos_two_lots (chkDs_cons chk_l_alike (chkDs_cons chk_law_k05 (rfl))))))))))))))))))))))))))))))))))))))
theorem binds : BindAll txt.ds := ⟨fun _ _ _ _ _ _ us hl => match us, hl with | [_, _, _], _ => rfl, fun _ _ _ _ _ _ us hl => match us, hl with | [_, _], _ => rfl, fun _ _ _ _ _ _ us hl => match us, hl with | [_], _ => rfl, fun _ _ _ _ _ _ us hl => match us, hl with | [_], _ => rfl, fun _ _ _ _ _ _ us hl => match us, hl with | [_], _ => rfl, fun _ _ _ _ _ _ us hl => match us, hl with | [_, _], _ => rfl, fun _ _ _ _ _ _ us hl => match us, hl with | [_], _ => rfl, fun _ _ _ _ _ _ us hl => match us, hl with | [_], _ => rfl, fun _ _ _ _ _ _ us hl => match us, hl with | [_, _], _ => rfl, fun _ _ _ _ _ _ us hl => match us, hl with | [_, _], _ => rfl, fun _ _ _ _ _ _ us hl => match us, hl with | [_, _], _ => rfl, fun _ _ _ _ _ _ us hl => match us, hl with | [_, _], _ => rfl, fun _ _ _ _ _ _ us hl => match us, hl with | [_, _, _, _], _ => rfl, fun _ _ _ _ _ _ us hl => match us, hl with | [_], _ => rfl, fun _ _ _ _ _ _ us hl => match us, hl with | [_], _ => rfl, fun _ _ _ _ _ _ us hl => match us, hl with | [_], _ => rfl, fun _ _ _ _ _ _ us hl => match us, hl with | [_, _], _ => rfl, fun _ _ _ _ _ _ us hl => match us, hl with | [_, _], _ => rfl, fun _ _ _ _ _ _ us hl => match us, hl with | [_, _, _], _ => rfl, fun _ _ _ _ _ _ us hl => match us, hl with | [_], _ => rfl, fun _ _ _ _ _ _ us hl => match us, hl with | [_, _], _ => rfl, fun _ _ _ _ _ _ us hl => match us, hl with | [_, _, _], _ => rfl, fun _ _ _ _ _ _ us hl => match us, hl with | [_], _ => rfl, fun _ _ _ _ _ _ us hl => match us, hl with | [_, _, _], _ => rfl, fun _ _ _ _ _ _ us hl => match us, hl with | [_, _], _ => rfl, fun _ _ _ _ _ _ us hl => match us, hl with | [_, _], _ => rfl, fun _ _ _ _ _ _ us hl => match us, hl with | [_, _], _ => rfl, fun _ _ _ _ _ _ us hl => match us, hl with | [_, _], _ => rfl, fun _ _ _ _ _ _ us hl => match us, hl with | [_, _, _], _ => rfl, fun _ _ _ _ _ _ us hl => match us, hl with | [_, _], _ => rfl, fun _ _ _ _ _ _ us hl => match us, hl with | [_], _ => rfl, fun _ _ _ _ _ _ us hl => match us, hl with | [_], _ => rfl, fun _ _ _ _ _ _ us hl => match us, hl with | [_], _ => rfl, fun _ _ _ _ _ _ us hl => match us, hl with | [_], _ => rfl, fun _ _ _ _ _ _ us hl => match us, hl with | [_, _], _ => rfl, fun _ _ _ _ _ _ us hl => match us, hl with | [_], _ => rfl, fun _ _ _ _ _ _ us hl => match us, hl with | [_, _], _ => rfl, fun _ _ _ _ _ _ us hl => match us, hl with | [_], _ => rfl, trivial⟩
theorem rcb : txt.rcBind := fun _ _ _ _ _ _ us hl => match us, hl with | [_, _], _ => rfl
abbrev R : PySem.W.OpenRow := PySem.W.OpenLaw.row PySem.Challenge.rw_heapbooks_k05_known_books
abbrev hk : PySem.W.Hook := Hb.hookE 4 txt.xs txt.fs txt.file txt.fas txt.fn
def ob (s : PySem.W.SharedT) : Hb.AlF := Hb.obsEG 4 txt.xs txt.fs txt.file txt.fas txt.fn (HandSHeadRun.getT s)
theorem ob_eq (s : PySem.W.SharedT) : ob s = hk.obs s.abs := Hb.obsEG_eq (HandSHeadRun.getT_eq s)
theorem run (w : World) : HandSHeadRun.RunEq R (PySem.W.view R.prog [46]) hk ob 6000 Law0.loose w := Law0.run_of txt.xs txt.fs txt.file txt.fas txt.fn (by rfl) (by rfl) (by rfl) (by rfl) (by rfl) w
open PySem PySem.W PySem.Calls PyProof.Rows
theorem holds_of (Wn : Nat) (hs : txt.Says Wn 40 37) : PySem.Challenge.rw_heapbooks_k05_known_books.Holds := by
  w_on; o_law
  refine HandSHeadRun.head_any (r := OpenLaw.row PySem.Challenge.rw_heapbooks_k05_known_books) (q := view (OpenLaw.row PySem.Challenge.rw_heapbooks_k05_known_books).prog [46]) (H := Law.hk) (ob := Law.ob) (M := 6000) (loose := Law0.loose) (d := HandSHeadRun.topDef (OpenLaw.row PySem.Challenge.rw_heapbooks_k05_known_books).prog 46) (kwd := []) Law.ob_eq
    (by kernel_rfl) (fun s => by kernel_rfl) Law.run (by kernel_rfl) (by kernel_rfl) (by kernel_rfl) (by rfl) (by first | assumption | decide +kernel) (by decide +kernel) ⟨rfl, rfl, rfl, rfl, rfl, by decide +kernel⟩ ?hw ?hc
  case hw => w_witness2
  case hc =>
    refine L2.walk_ofE (l := PySem.Challenge.rw_heapbooks_k05_known_books) (n := 63) (k := 43) (x := "_law_script") (CX := Hb.CXA (PySem.Challenge.rw_heapbooks_k05_known_books).prog) rfl (by decide) (by kernel_rfl) ⟨rfl, by decide, by decide⟩ ?F (fun H s e s' => Hb.cx_false H s e s')
    intro w mg fa h Y G hmg0
    obtain ⟨K, KX, c⟩ := Y
    have hmg : mg ("law" : PySem.Str) = some (.ref fa) := by
      have e : (HandSHeadRun.topDef (OpenLaw.row PySem.Challenge.rw_heapbooks_k05_known_books).prog 46).name = ("law" : PySem.Str) := by kernel_rfl
      rw [← e]
      exact hmg0
    exact Hb.facts_of (t := txt) (d := d_law_k05) (Wn := Wn) (fun _ _ _ => trivial) chk binds rfl rfl rfl hs KX G hmg (by kernel_rfl) (by kernel_rfl) (by decide) (by decide +kernel) rcb rfl c
end Law
namespace Hl
open Hb
def glob : Prog := Law.txt.pg
end Hl
namespace Hp
open Hb
open PySem (Str)
/-! ### the evaluator's steps as equations (the pure side) -/
theorem pb {α β : Type} (a : α) (f : α → M β) : (pure a >>= f) = f a := rfl
theorem ba {α β γ : Type} (m : M α) (f : α → M β) (g : β → M γ) : ((m >>= f) >>= g) = (m >>= fun a => f a >>= g) := by
  funext s
  show M.bind (M.bind m f) g s = M.bind m (fun a => M.bind (f a) g) s
  unfold M.bind
  cases m s <;> rfl
theorem guT : guard_ true = pure () := rfl
theorem neS {α : Type} (a : α) : need (some a) = pure a := rfl
theorem noXp {α : Type} (a : α) : noX (pure a) = pure a := rfl
theorem se_sh (d : D) : sealed (.sh, d) = pure d := rfl
theorem se_fr (d : D) : sealed (.fr, d) = pure d := rfl
theorem nb_sh : notBr .sh = pure () := rfl
theorem nb_fr : notBr .fr = pure () := rfl
theorem asI (i : Int) : asInt (.int i) = pure i := rfl
theorem asB (b : Bool) : asBl (.bl b) = pure b := rfl
theorem le_int (a b : Int) : cmpD .le (.int a) (.int b) = pure (decide (a ≤ b)) := by
  show (pure (!decide (b < a)) : M Bool) = _
  congr 1
  by_cases h : a ≤ b
  · rw [decide_eq_true h, decide_eq_false (by omega)]; rfl
  · rw [decide_eq_false h, decide_eq_true (by omega)]; rfl
theorem ge_int (a b : Int) : cmpD .ge (.int a) (.int b) = pure (decide (a ≥ b)) := by
  show (pure (!decide (a < b)) : M Bool) = _
  congr 1
  by_cases h : a ≥ b
  · rw [decide_eq_true h, decide_eq_false (by omega)]; rfl
  · rw [decide_eq_false h, decide_eq_true (by omega)]; rfl
theorem lt_int (a b : Int) : cmpD .lt (.int a) (.int b) = pure (decide (a < b)) := rfl
theorem gt_int (a b : Int) : cmpD .gt (.int a) (.int b) = pure (decide (b < a)) := rfl
theorem add_int (a b : Int) : binD .add (.int a) (.int b) = pure (.sh, .int (a + b)) := rfl
theorem sub_int (a b : Int) : binD .sub (.int a) (.int b) = pure (.sh, .int (a - b)) := rfl
end Hp
namespace Hp
open Hb
open PySem (Str)
theorem itv_tup (k : K) (xs : List D) : itD k (.tup xs) = pure xs := by cases k <;> rfl
theorem itv_lst (k : K) (xs : List D) : itD k (.lst xs) = pure xs := by cases k <;> rfl
end Hp
namespace Hp
open Hb
theorem sp_nm (i : Nat) (d : D) (env : Env) : setPat (.nm i) d env = if i < env.length then some (env.set i (some (false, d))) else none := rfl
theorem sp_tp (ps : List Pat) (ds : List D) (env : Env) : setPat (.tp ps) (.tup ds) env = setPats ps ds env := rfl
theorem sp_nil (env : Env) : setPats [] [] env = some env := rfl
theorem sp_cons (p : Pat) (ps : List Pat) (d : D) (ds : List D) (env : Env) : setPats (p :: ps) (d :: ds) env = (setPat p d env).bind (setPats ps ds) := rfl
end Hp
namespace Hp
open Hb
open PySem (Str)
theorem bs {α β : Type} (m : M α) (f : α → M β) (s : St) : (m >>= f) s = (match m s with | .ok a s => f a s | .exc c d s => .exc c d s | .bad => .bad) := rfl
theorem ps {α : Type} (a : α) (s : St) : (pure a : M α) s = .ok a s := rfl
end Hp
namespace Hp
open Hb
open PySem (Str)
section
variable (P : Prog) (cl : Cl) (env : Env)
/-! evE's equations by constructor, all but the comprehension's (which is rewritten by a lemma of its own) -/
theorem ev_cst (d : D) : evE P cl (.cst d) env = pure (.sh, d) := rfl
theorem ev_tup (es : List E) : evE P cl (.tup es) env = (do let ds ← evA P cl es env; pure (.sh, .tup ds)) := rfl
theorem ev_lst (es : List E) : evE P cl (.lst es) env = (do let ds ← evA P cl es env; pure (.fr, .lst ds)) := rfl
theorem ev_bin (op : BOp) (a b : E) : evE P cl (.bin op a b) env = (do let x ← evE P cl a env; let y ← evE P cl b env; binD op x.2 y.2) := rfl
theorem ev_neg (a : E) : evE P cl (.neg a) env = (do let x ← evE P cl a env; let i ← asInt x.2; pure (.sh, .int (-i))) := rfl
theorem ev_not (a : E) : evE P cl (.not_ a) env = (do let x ← evE P cl a env; let b ← asBl x.2; pure (.sh, .bl (!b))) := rfl
theorem ev_cmp (op : COp) (a b : E) : evE P cl (.cmp op a b) env = (do let x ← evE P cl a env; let y ← evE P cl b env; let k ← cmpD op x.2 y.2; pure (.sh, .bl k)) := rfl
theorem ev_idx (a b : E) : evE P cl (.idx a b) env = (do let x ← evE P cl a env; let y ← evE P cl b env; let d ← idxD x.2 y.2; pure (.sh, d)) := rfl
theorem ev_slc (a : E) (lo hi : Option E) : evE P cl (.slc a lo hi) env = (do let x ← evE P cl a env; let l ← evO P cl lo env; let h ← evO P cl hi env; slcD x.2 l h) := rfl
theorem ev_call (f : Nat) (es : List E) : evE P cl (.call f es) env = (do let ds ← evA P cl es env; cl f ds) := rfl
theorem ev_p1 (p : P1) (a : E) : evE P cl (.p1 p a) env = (do let x ← evE P cl a env; p1D p x.2) := rfl
theorem ev_p2 (p : P2) (a b : E) : evE P cl (.p2 p a b) env = (do let x ← evE P cl a env; let y ← evE P cl b env; p2D p x.2 y.2) := rfl
theorem ev_lrng (es : List E) : evE P cl (.lrng es) env = (do let ds ← evA P cl es env; let xs ← rngD ds; pure (.fr, .lst xs)) := rfl
theorem ev_trng (es : List E) : evE P cl (.trng es) env = (do let ds ← evA P cl es env; let xs ← rngD ds; pure (.sh, .tup xs)) := rfl
theorem ev_isa (a : E) (ks : List Kd) : evE P cl (.isa a ks) env = (do let x ← evE P cl a env; let k ← isaK x.1 x.2 ks; pure (.sh, .bl k)) := rfl
theorem ev_var (i : Nat) : evE P cl (.var i) env = (match env[i]? with
    | some (some (true, d)) => pure (.br, d)
    | some (some (false, d)) => pure (.sh, d)
    | _ => bad) := rfl
end
theorem wp_nm (i : Nat) (env : Env) : wipeP (.nm i) env = env.set i none := rfl
end Hp
namespace Hp
open Hb
open PySem (Str)
/-! ### sorted lists of ints -/
end Hp
namespace Hl
open Hb Hp
variable (W k : Nat)
-- P_k00
/-- the script and the memo -/
abbrev Gh := List Int × Option (List (D × D))
instance : Coe (List Int) Gh := ⟨fun ns => (ns, none)⟩
/-- the reduced book of rows of ints -/
def Tp (l : List Int) : D := .tup (l.map .int)
def IsRow (r : Int) (l : List Int) : Prop := l.Pairwise (· < ·) ∧ ∀ x ∈ l, -r ≤ x ∧ x ≤ r
theorem IsRow.sub {r : Int} {l l' : List Int} (h : IsRow r l) (s : l'.Sublist l) : IsRow r l' := ⟨h.1.sublist s, fun x hx => h.2 x (s.subset hx)⟩
theorem IsRow.neg {r : Int} {l : List Int} (h : IsRow r l) : IsRow r (l.reverse.map fun i => 0 - i) := by
  refine ⟨?_, fun x hx => ?_⟩
  · rw [List.pairwise_map, List.pairwise_reverse]
    exact h.1.imp fun h => by omega
  · obtain ⟨y, hy, rfl⟩ := List.mem_map.mp hx
    have := h.2 y (List.mem_reverse.mp hy)
    omega
def Bk (r : Int) (u d : List Int) : D := .tup [.int r, Tp u, Tp d]
def neg (l : List Int) : List Int := l.reverse.map fun i => -i
/-- a deed is let -/
def lets (r : Int) (u d : List Int) (own near : Int) (up : Bool) : Bool := if up then decide (own < r) && decide (near - own ∈ u) else decide (0 < own) && decide (near - own ∈ d)
end Hl
namespace Hp
open Hb
open PySem (Str)
/-! ### typed things as data -/
class Enc (α : Type) where
  en : α → D
open Enc (en)
structure Tu (α : Type) where
  l : List α
deriving DecidableEq
structure Tri (α β γ : Type) where
  a : α
  b : β
  c : γ
deriving DecidableEq
instance : Enc Int := ⟨.int⟩
instance : Enc Bool := ⟨.bl⟩
instance {α β : Type} [Enc α] [Enc β] : Enc (α × β) := ⟨fun p => .tup [en p.1, en p.2]⟩
instance {α β γ : Type} [Enc α] [Enc β] [Enc γ] : Enc (Tri α β γ) := ⟨fun p => .tup [en p.a, en p.b, en p.c]⟩
instance {α : Type} [Enc α] : Enc (Tu α) := ⟨fun t => .tup (t.l.map en)⟩
instance {α : Type} [Enc α] : Enc (List α) := ⟨fun l => .lst (l.map en)⟩
theorem en_int (i : Int) : en i = D.int i := rfl
theorem en_bl (b : Bool) : en b = D.bl b := rfl
/-- equality, depth -/
class EnEq (α : Type) [Enc α] [DecidableEq α] where
  dep : Nat
  eqv : ∀ a b : α, D.eqv (en a) (en b) = decide (a = b)
  plain : ∀ (a : α) (n : Nat), dep ≤ n → D.plainN n (en a) = true
instance : EnEq Int := ⟨0, fun a b => by show (a == b) = _; rfl, fun a n _ => by cases n <;> rfl⟩
instance : EnEq Bool := ⟨0, fun a b => by show (a == b) = _; cases a <;> cases b <;> rfl, fun a n _ => by cases n <;> rfl⟩
theorem and_dec (p q : Prop) [Decidable p] [Decidable q] : (decide p && decide q) = decide (p ∧ q) := (Bool.decide_and p q).symm
instance {α β : Type} [Enc α] [Enc β] [DecidableEq α] [DecidableEq β] [EnEq α] [EnEq β] : EnEq (α × β) where
  dep := max (EnEq.dep α) (EnEq.dep β) + 1
  eqv := fun a b => by
    show (D.eqv (en a.1) (en b.1) && (D.eqv (en a.2) (en b.2) && true)) = _
    rw [EnEq.eqv, EnEq.eqv, Bool.and_true, and_dec]
    apply decide_eq_decide.mpr
    rw [Prod.ext_iff]
  plain := fun a n h => by
    obtain ⟨k, rfl⟩ : ∃ k, n = k + 1 := ⟨n - 1, by omega⟩
    show (D.plainN k (en a.1) && (D.plainN k (en a.2) && true)) = true
    rw [EnEq.plain _ k (by omega), EnEq.plain _ k (by omega)]; rfl
instance {α β γ : Type} [Enc α] [Enc β] [Enc γ] [DecidableEq α] [DecidableEq β] [DecidableEq γ] [EnEq α] [EnEq β] [EnEq γ] : EnEq (Tri α β γ) where
  dep := max (EnEq.dep α) (max (EnEq.dep β) (EnEq.dep γ)) + 1
  eqv := fun a b => by
    obtain ⟨a1, a2, a3⟩ := a
    obtain ⟨b1, b2, b3⟩ := b
    show (D.eqv (en a1) (en b1) && (D.eqv (en a2) (en b2) && (D.eqv (en a3) (en b3) && true))) = _
    rw [EnEq.eqv, EnEq.eqv, EnEq.eqv, Bool.and_true, and_dec, and_dec]
    apply decide_eq_decide.mpr
    rw [Tri.mk.injEq]
  plain := fun a n h => by
    obtain ⟨k, rfl⟩ : ∃ k, n = k + 1 := ⟨n - 1, by omega⟩
    show (D.plainN k (en a.a) && (D.plainN k (en a.b) && (D.plainN k (en a.c) && true))) = true
    rw [EnEq.plain _ k (by omega), EnEq.plain _ k (by omega), EnEq.plain _ k (by omega)]; rfl
section
variable {α : Type} [Enc α] [DecidableEq α] [EnEq α]
theorem eqvs_en : ∀ (l m : List α), D.eqvs (l.map en) (m.map en) = decide (l = m)
  | [], [] => rfl
  | [], _ :: _ => rfl
  | _ :: _, [] => rfl
  | x :: r, y :: s => by
    show (D.eqv (en x) (en y) && D.eqvs (r.map en) (s.map en)) = _
    rw [eqvs_en r s, EnEq.eqv, and_dec]
    apply decide_eq_decide.mpr
    rw [List.cons.injEq]
theorem plains_en (n : Nat) (h : EnEq.dep α ≤ n) : ∀ (l : List α), D.plainsN n (l.map en) = true
  | [] => rfl
  | x :: r => by
    show (D.plainN n (en x) && D.plainsN n (r.map en)) = true
    rw [EnEq.plain x n h, plains_en n h r]; rfl
end
instance {α : Type} [Enc α] [DecidableEq α] [EnEq α] : EnEq (List α) where
  dep := EnEq.dep α + 1
  eqv := fun a b => eqvs_en a b
  plain := fun a n h => by
    obtain ⟨k, rfl⟩ : ∃ k, n = k + 1 := ⟨n - 1, by omega⟩
    exact plains_en k (by omega) a
instance {α : Type} [Enc α] [DecidableEq α] [EnEq α] : EnEq (Tu α) where
  dep := EnEq.dep α + 1
  eqv := fun a b => by
    show D.eqvs (a.l.map en) (b.l.map en) = _
    rw [eqvs_en]
    apply decide_eq_decide.mpr
    cases a; cases b
    rw [Tu.mk.injEq]
  plain := fun a n h => by
    obtain ⟨k, rfl⟩ : ∃ k, n = k + 1 := ⟨n - 1, by omega⟩
    exact plains_en k (by omega) a.l
section
variable {α : Type} [Enc α] [DecidableEq α] [EnEq α]
end
/-! ### order -/
class EnLt (α : Type) [Enc α] [DecidableEq α] where
  lt : α → α → Bool
  sh : Sh
  isI : Bool
  irr : ∀ a, lt a a = false
  trans : ∀ a b c, lt a b = true → lt b c = true → lt a c = true
  tri : ∀ a b, a ≠ b → lt a b = true ∨ lt b a = true
  en_lt : ∀ a b : α, D.lt (en a) (en b) = lt a b
  sh_en : ∀ a : α, D.sh (en a) = sh
  sh_sh : Sh.beq sh sh = true
  isI_en : ∀ a : α, D.isInt (en a) = isI
instance : EnLt Int where
  lt := fun a b => decide (a < b)
  sh := .int
  isI := true
  irr := fun a => by simp
  trans := fun a b c h h' => by rw [decide_eq_true_eq] at *; omega
  tri := fun a b h => by simp only [decide_eq_true_eq]; omega
  en_lt := fun a b => rfl
  sh_en := fun a => rfl
  sh_sh := rfl
  isI_en := fun _ => rfl
instance : EnLt Bool where
  lt := fun a b => !a && b
  sh := .bl
  isI := false
  irr := fun a => by cases a <;> rfl
  trans := fun a b c h h' => by cases a <;> cases b <;> cases c <;> simp_all
  tri := fun a b h => by cases a <;> cases b <;> simp_all
  en_lt := fun a b => rfl
  sh_en := fun a => rfl
  sh_sh := rfl
  isI_en := fun _ => rfl
instance {α β : Type} [Enc α] [Enc β] [DecidableEq α] [DecidableEq β] [EnEq α] [EnEq β] [EnLt α] [EnLt β] : EnLt (α × β) where
  lt := fun a b => if a.1 = b.1 then EnLt.lt a.2 b.2 else EnLt.lt a.1 b.1
  sh := if EnLt.isI α && (EnLt.isI β && true) then .nums else .tup [EnLt.sh α, EnLt.sh β]
  isI := false
  irr := fun a => by rw [if_pos rfl]; exact EnLt.irr _
  trans := fun a b c h h' => by
    obtain ⟨a1, a2⟩ := a; obtain ⟨b1, b2⟩ := b; obtain ⟨c1, c2⟩ := c
    dsimp only at *
    by_cases e1 : a1 = b1
    · subst e1
      rw [if_pos rfl] at h
      by_cases e2 : a1 = c1
      · subst e2
        rw [if_pos rfl] at h' ⊢
        exact EnLt.trans _ _ _ h h'
      · rw [if_neg e2] at h' ⊢; exact h'
    · rw [if_neg e1] at h
      by_cases e2 : b1 = c1
      · subst e2
        rw [if_pos rfl] at h'
        rw [if_neg e1]; exact h
      · rw [if_neg e2] at h'
        by_cases e3 : a1 = c1
        · subst e3
          have := EnLt.trans _ _ _ h h'
          rw [EnLt.irr] at this; cases this
        · rw [if_neg e3]; exact EnLt.trans _ _ _ h h'
  tri := fun a b h => by
    obtain ⟨a1, a2⟩ := a; obtain ⟨b1, b2⟩ := b
    dsimp only
    by_cases e : a1 = b1
    · subst e
      rw [if_pos rfl, if_pos rfl]
      exact EnLt.tri _ _ fun e => h (by rw [e])
    · rw [if_neg e, if_neg (Ne.symm e)]
      exact EnLt.tri _ _ e
  en_lt := fun a b => by
    show (if D.eqv (en a.1) (en b.1) = true then (if D.eqv (en a.2) (en b.2) = true then false else D.lt (en a.2) (en b.2)) else D.lt (en a.1) (en b.1)) = _
    rw [EnEq.eqv, EnEq.eqv, EnLt.en_lt, EnLt.en_lt]
    by_cases e : a.1 = b.1
    · rw [if_pos (decide_eq_true e), if_pos e]
      by_cases e2 : a.2 = b.2
      · rw [if_pos (decide_eq_true e2), e2, EnLt.irr]
      · rw [if_neg (by rw [decide_eq_true_eq]; exact e2)]
    · rw [if_neg (by rw [decide_eq_true_eq]; exact e), if_neg e]
  sh_en := fun a => by
    show (if false = true then Sh.bad else if (D.isInt (en a.1) && (D.isInt (en a.2) && true)) = true then Sh.nums else Sh.tup [D.sh (en a.1), D.sh (en a.2)]) = _
    rw [if_neg Bool.false_ne_true, EnLt.isI_en, EnLt.isI_en, EnLt.sh_en, EnLt.sh_en]
  sh_sh := by
    split
    · rfl
    · show (Sh.beq (EnLt.sh α) (EnLt.sh α) && (Sh.beq (EnLt.sh β) (EnLt.sh β) && true)) = true
      rw [EnLt.sh_sh, EnLt.sh_sh]; rfl
  isI_en := fun _ => rfl
/-- triples as nested pairs -/
instance {α β γ : Type} [Enc α] [Enc β] [Enc γ] [DecidableEq α] [DecidableEq β] [DecidableEq γ] [EnEq α] [EnEq β] [EnEq γ] [EnLt α] [EnLt β] [EnLt γ] : EnLt (Tri α β γ) where
  lt := fun x y => EnLt.lt (α := α × (β × γ)) (x.a, x.b, x.c) (y.a, y.b, y.c)
  sh := if EnLt.isI α && (EnLt.isI β && (EnLt.isI γ && true)) then .nums else .tup [EnLt.sh α, EnLt.sh β, EnLt.sh γ]
  isI := false
  irr := fun a => EnLt.irr (α := α × (β × γ)) _
  trans := fun a b c => EnLt.trans (α := α × (β × γ)) _ _ _
  tri := fun a b h => EnLt.tri (α := α × (β × γ)) _ _ fun e => h (by
    obtain ⟨a1, a2, a3⟩ := a
    obtain ⟨b1, b2, b3⟩ := b
    cases e; rfl)
  en_lt := fun a b => by
    show (if D.eqv (en a.a) (en b.a) = true then (if D.eqv (en a.b) (en b.b) = true then (if D.eqv (en a.c) (en b.c) = true then false else D.lt (en a.c) (en b.c)) else D.lt (en a.b) (en b.b)) else D.lt (en a.a) (en b.a)) = (if a.a = b.a then (if a.b = b.b then EnLt.lt a.c b.c else EnLt.lt a.b b.b) else EnLt.lt a.a b.a)
    rw [EnEq.eqv, EnEq.eqv, EnEq.eqv, EnLt.en_lt, EnLt.en_lt, EnLt.en_lt]
    by_cases e : a.a = b.a
    · rw [if_pos (decide_eq_true e), if_pos e]
      by_cases e1 : a.b = b.b
      · rw [if_pos (decide_eq_true e1), if_pos e1]
        by_cases e2 : a.c = b.c
        · rw [if_pos (decide_eq_true e2), e2, EnLt.irr]
        · rw [if_neg (by rw [decide_eq_true_eq]; exact e2)]
      · rw [if_neg (by rw [decide_eq_true_eq]; exact e1), if_neg e1]
    · rw [if_neg (by rw [decide_eq_true_eq]; exact e), if_neg e]
  sh_en := fun a => by
    show (if false = true then Sh.bad else if (D.isInt (en a.a) && (D.isInt (en a.b) && (D.isInt (en a.c) && true))) = true then Sh.nums else Sh.tup [D.sh (en a.a), D.sh (en a.b), D.sh (en a.c)]) = _
    rw [if_neg Bool.false_ne_true, EnLt.isI_en, EnLt.isI_en, EnLt.isI_en, EnLt.sh_en, EnLt.sh_en, EnLt.sh_en]
  sh_sh := by
    split
    · rfl
    · show (Sh.beq (EnLt.sh α) (EnLt.sh α) && (Sh.beq (EnLt.sh β) (EnLt.sh β) && (Sh.beq (EnLt.sh γ) (EnLt.sh γ) && true))) = true
      rw [EnLt.sh_sh, EnLt.sh_sh, EnLt.sh_sh]; rfl
  isI_en := fun _ => rfl
section
variable {α : Type} [Enc α] [DecidableEq α] [EnEq α] [EnLt α]
end
end Hp
namespace Hp
open Hb Enc
open PySem (Str)
/-! ### dicts of typed things -/
class EnKey (α : Type) [Enc α] where
  dpk : Nat
  key : ∀ a : α, D.key (en a) = true
  dp : ∀ a : α, D.dep (en a) ≤ dpk
  tk : Bool
  tks : ∀ a : α, tk = true → dpk ≤ 8 → (en a).tkey = true
  sks : ∀ a : α, tk = false → (en a).skey = true
instance : EnKey Int := ⟨0, fun _ => rfl, fun _ => Nat.le_refl _, false, fun _ h => (Bool.false_ne_true h).elim, fun _ _ => rfl⟩
instance {α β : Type} [Enc α] [Enc β] [EnKey α] [EnKey β] : EnKey (α × β) where
  dpk := max (EnKey.dpk α) (EnKey.dpk β) + 1
  key := fun a => by
    show (D.key (en a.1) && (D.key (en a.2) && true)) = true
    rw [EnKey.key, EnKey.key]; rfl
  dp := fun a => by
    show max (D.dep (en a.1)) (max (D.dep (en a.2)) 0) + 1 ≤ _
    have := EnKey.dp a.1; have := EnKey.dp a.2
    omega
  tk := true
  tks := fun a _ h => by
    show ((D.key (en a.1) && (D.key (en a.2) && true)) && decide (max (D.dep (en a.1)) (max (D.dep (en a.2)) 0) + 1 ≤ 8)) = true
    have := EnKey.dp a.1; have := EnKey.dp a.2
    rw [EnKey.key, EnKey.key, decide_eq_true (by omega)]; rfl
  sks := fun _ h => absurd h (by simp)
instance {α β γ : Type} [Enc α] [Enc β] [Enc γ] [EnKey α] [EnKey β] [EnKey γ] : EnKey (Tri α β γ) where
  dpk := max (EnKey.dpk α) (max (EnKey.dpk β) (EnKey.dpk γ)) + 1
  key := fun a => by
    show (D.key (en a.a) && (D.key (en a.b) && (D.key (en a.c) && true))) = true
    rw [EnKey.key, EnKey.key, EnKey.key]; rfl
  dp := fun a => by
    show max (D.dep (en a.a)) (max (D.dep (en a.b)) (max (D.dep (en a.c)) 0)) + 1 ≤ _
    have := EnKey.dp a.a; have := EnKey.dp a.b; have := EnKey.dp a.c
    omega
  tk := true
  tks := fun a _ h => by
    show ((D.key (en a.a) && (D.key (en a.b) && (D.key (en a.c) && true))) && decide (max (D.dep (en a.a)) (max (D.dep (en a.b)) (max (D.dep (en a.c)) 0)) + 1 ≤ 8)) = true
    have := EnKey.dp a.a; have := EnKey.dp a.b; have := EnKey.dp a.c
    rw [EnKey.key, EnKey.key, EnKey.key, decide_eq_true (by omega)]; rfl
  sks := fun _ h => absurd h (by simp)
theorem keys_en {α : Type} [Enc α] [EnKey α] : ∀ l : List α, D.keys (l.map en) = true
  | [] => rfl
  | x :: r => by
    show (D.key (en x) && D.keys (r.map en)) = true
    rw [EnKey.key, keys_en r]; rfl
theorem deps_en {α : Type} [Enc α] [EnKey α] : ∀ l : List α, D.deps (l.map en) ≤ EnKey.dpk α
  | [] => Nat.zero_le _
  | x :: r => by
    show max (D.dep (en x)) (D.deps (r.map en)) ≤ _
    have := EnKey.dp x; have := deps_en r
    omega
instance {α : Type} [Enc α] [EnKey α] : EnKey (Tu α) where
  dpk := EnKey.dpk α + 1
  key := fun a => keys_en a.l
  dp := fun a => by
    show D.deps (a.l.map en) + 1 ≤ _
    have := deps_en a.l
    omega
  tk := true
  tks := fun a _ h => by
    show (D.keys (a.l.map en) && decide (D.deps (a.l.map en) + 1 ≤ 8)) = true
    have := deps_en a.l
    rw [keys_en, decide_eq_true (by omega)]; rfl
  sks := fun _ h => absurd h (by simp)
section
variable {κ ν : Type} [Enc κ] [Enc ν] [DecidableEq κ] [EnEq κ] [EnKey κ]
def e2 (p : κ × ν) : D × D := (en p.1, en p.2)
def dE (kvs : List (κ × ν)) : D := .dct (kvs.map e2)
end
/-! ### comprehensions -/
section
variable {P : Prog} {cl : Cl} {elt : E} {p : Pat} {it : I} {env : Env} {α : Type} [Enc α]
end
/-! ### loops -/
section
variable {α σ : Type} [Enc α] {p : Pat} {body : Env → M Fl}
end
section
variable {σ : Type} {c : Env → M Bool} {body : Env → M Fl}
end
end Hp
namespace Hp
open Hb Enc
open PySem (Str)
/-! ### the evaluator, step by step, for simp: what waits stays shut -/
section
variable (P : Prog) (cl : Cl) (W : Nat)
def runB (ss : List S) (env : Env) : M Fl := exSs P cl W ss env
def seqK (r : List S) : Fl → M Fl
  | .nx env => runB P cl W r env
  | .rt v => pure (.rt v)
def ifK (a b : List S) (env : Env) : Bool → M Fl
  | true => runB P cl W a env
  | false => runB P cl W b env
def tstE (e : E) (env : Env) : M Bool := do let x ← evE P cl e env; asBl x.2
def iteK (a b : E) (env : Env) : Bool → M KD
  | true => evE P cl a env
  | false => evE P cl b env
def iteR (a b : E) (env : Env) : Bool → M KD
  | true => evR P cl a env
  | false => evR P cl b env
def andK (es : List E) (env : Env) : Bool → M Bool
  | true => evAnd P cl es env
  | false => pure false
def orK (es : List E) (env : Env) : Bool → M Bool
  | true => pure true
  | false => evOr P cl es env
def cmK (op : COp) (y : KD) (c : E) (env : Env) : Bool → M KD
  | true => do let z ← evE P cl c env; let k ← cmpD op y.2 z.2; pure (.sh, .bl k)
  | false => pure (.sh, .bl false)
def retK : Fl → M KD
  | .nx _ => pure (.sh, .non)
  | .rt v => pure v
def forB (p : Pat) (b : List S) (env : Env) (xs : K × List D) : M Fl := do notBr xs.1; forGo p (runB P cl W b) xs.2 env
variable (env : Env)
theorem runB_nil : runB P cl W [] env = pure (.nx env) := rfl
theorem runB_cons (s : S) (r : List S) : runB P cl W (s :: r) env = (exS P cl W s env >>= seqK P cl W r) := by
  show (do
    let f ← exS P cl W s env
    match f with
    | .nx env => exSs P cl W r env
    | .rt v => pure (.rt v) : M Fl) = _
  congr 1
theorem seqK_nx (r : List S) : seqK P cl W r (.nx env) = runB P cl W r env := rfl
theorem seqK_rt (r : List S) (v : KD) : seqK P cl W r (.rt v) = pure (.rt v) := rfl
theorem ifK_t (a b : List S) : ifK P cl W a b env true = runB P cl W a env := rfl
theorem ifK_f (a b : List S) : ifK P cl W a b env false = runB P cl W b env := rfl
theorem iteK_t (a b : E) : iteK P cl a b env true = evE P cl a env := rfl
theorem iteK_f (a b : E) : iteK P cl a b env false = evE P cl b env := rfl
theorem iteR_t (a b : E) : iteR P cl a b env true = evR P cl a env := rfl
theorem iteR_f (a b : E) : iteR P cl a b env false = evR P cl b env := rfl
theorem andK_t (es : List E) : andK P cl es env true = evAnd P cl es env := rfl
theorem andK_f (es : List E) : andK P cl es env false = pure false := rfl
theorem orK_t (es : List E) : orK P cl es env true = pure true := rfl
theorem orK_f (es : List E) : orK P cl es env false = evOr P cl es env := rfl
theorem cmK_t (op : COp) (y : KD) (c : E) : cmK P cl op y c env true = (do let z ← evE P cl c env; let k ← cmpD op y.2 z.2; pure (.sh, .bl k)) := rfl
theorem cmK_f (op : COp) (y : KD) (c : E) : cmK P cl op y c env false = pure (.sh, .bl false) := rfl
theorem retK_nx : retK (.nx env) = pure (.sh, .non) := rfl
theorem retK_rt (v : KD) : retK (.rt v) = pure v := rfl
theorem forB_sh (p : Pat) (b : List S) (xs : List D) : forB P cl W p b env (.sh, xs) = forGo p (runB P cl W b) xs env := rfl
theorem forB_fr (p : Pat) (b : List S) (xs : List D) : forB P cl W p b env (.fr, xs) = forGo p (runB P cl W b) xs env := rfl
theorem x_asg (t : Tgt) (e : E) : exS P cl W (.asg t e) env = (do let v ← evE P cl e env; let env ← storeVal P cl env t v; pure (.nx env)) := rfl
theorem x_asgs (ts : List Tgt) (es : List E) : exS P cl W (.asgs ts es) env = (do let vs ← evKs P cl es env; let env ← storeAll P cl ts vs env; pure (.nx env)) := rfl
theorem x_ex (e : E) : exS P cl W (.ex e) env = (do let _ ← evE P cl e env; pure (.nx env)) := rfl
theorem x_ret (e : E) : exS P cl W (.ret e) env = (do let v ← evR P cl e env; pure (.rt v)) := rfl
theorem x_pass : exS P cl W .pass env = pure (.nx env) := rfl
theorem x_if (c : E) (a b : List S) : exS P cl W (.if_ c a b) env = (tstE P cl c env >>= ifK P cl W a b env) := by
  unfold tstE
  rw [ba]
  show (do
    let x ← evE P cl c env
    let k ← asBl x.2
    match k with
    | true => exSs P cl W a env
    | false => exSs P cl W b env : M Fl) = _
  congr 1
theorem x_while (c : E) (b : List S) : exS P cl W (.while_ c b) env = whileGo (tstE P cl c) (runB P cl W b) W env := rfl
theorem x_for (p : Pat) (it : I) (b : List S) : exS P cl W (.for_ p it b) env = (evI P cl it env >>= forB P cl W p b env) := rfl
theorem x_app (x : Nat) (e : E) : exS P cl W (.app x e) env = (match env[x]? with
    | some (some (true, .lst xs)) => do
      let v ← evE P cl e env
      let d ← sealed v
      guard_ (decide (xs.length < sizeMax))
      pure (.nx (env.set x (some (true, .lst (xs ++ [d])))))
    | _ => bad) := rfl
theorem x_aug (x : Nat) (op : BOp) (e : E) : exS P cl W (.aug x op e) env = (match env[x]? with
    | some (some (false, a)) => do
      let v ← evE P cl e env
      let d ← augD op a v.2
      pure (.nx (env.set x (some (false, d))))
    | _ => bad) := rfl
theorem x_frz (x : Nat) : exS P cl W (.frz x) env = (match env[x]? with
    | some (some (_, d)) => pure (.nx (env.set x (some (false, d))))
    | _ => bad) := rfl
theorem v_ite (c a b : E) : evE P cl (.ite c a b) env = (tstE P cl c env >>= iteK P cl a b env) := by
  unfold tstE
  rw [ba]
  show (do
    let x ← evE P cl c env
    let k ← asBl x.2
    match k with
    | true => evE P cl a env
    | false => evE P cl b env : M KD) = _
  congr 1
theorem v_and (es : List E) : evE P cl (.and_ es) env = (do let b ← evAnd P cl es env; pure (.sh, .bl b)) := rfl
theorem v_or (es : List E) : evE P cl (.or_ es) env = (do let b ← evOr P cl es env; pure (.sh, .bl b)) := rfl
theorem v_and0 : evAnd P cl [] env = pure true := rfl
theorem v_or0 : evOr P cl [] env = pure false := rfl
theorem v_andc (e : E) (es : List E) : evAnd P cl (e :: es) env = (tstE P cl e env >>= andK P cl es env) := by
  unfold tstE
  rw [ba]
  show (do
    let x ← evE P cl e env
    let k ← asBl x.2
    match k with
    | true => evAnd P cl es env
    | false => pure false : M Bool) = _
  congr 1
theorem v_orc (e : E) (es : List E) : evOr P cl (e :: es) env = (tstE P cl e env >>= orK P cl es env) := by
  unfold tstE
  rw [ba]
  show (do
    let x ← evE P cl e env
    let k ← asBl x.2
    match k with
    | true => pure true
    | false => evOr P cl es env : M Bool) = _
  congr 1
theorem v_cmp2 (op op' : COp) (a b c : E) : evE P cl (.cmp2 op op' a b c) env = (do let x ← evE P cl a env; let y ← evE P cl b env; let k ← cmpD op x.2 y.2; cmK P cl op' y c env k) := by
  show (do
    let x ← evE P cl a env
    let y ← evE P cl b env
    let k ← cmpD op x.2 y.2
    match k with
    | true => do let z ← evE P cl c env; let k' ← cmpD op' y.2 z.2; pure (.sh, .bl k')
    | false => pure (.sh, .bl false) : M KD) = _
  congr 1
theorem v_glob (g : Nat) : evE P cl (.glob g) env = (do let d ← need (P.cst g); pure (.sh, d)) := rfl
theorem v_dct1 (k v : E) : evE P cl (.dct [(k, v)]) env = (do
    let p ← (do let x ← evE P cl k env; let k ← sealed x; let y ← evE P cl v env; let v ← sealed y; pure (k, v) : M (D × D))
    let kvs ← (do guard_ (kOk [] p.1 && decide (0 < 15)); pure [(p.1, p.2)] : M (List (D × D)))
    pure (.fr, .dct kvs)) := by
  show (do let kvs ← (do
    let (k, v) ← evP P cl (k, v) env
    guard_ (kOk [] k && decide (0 < 15))
    pure (dput [] k v) : M (List (D × D))); pure (Hb.K.fr, D.dct kvs) : M KD) = _
  rw [ba]
  rfl
theorem v_dct0 : evE P cl (.dct []) env = pure (.fr, .dct []) := rfl
theorem v_getd (a : E) (k x : E) : evE P cl (.getd a [k, x]) env = (do
    let d ← evE P cl a env
    guard_ d.2.isDct
    let k ← (do let x ← evE P cl k env; sealed x : M D)
    let x ← (do let y ← evE P cl x env; sealed y : M D)
    let d ← getdD d.2 k x
    pure (.sh, d)) := by
  show (do
    let d ← evE P cl a env
    guard_ d.2.isDct
    let ds ← (do let y ← evE P cl k env; let d ← sealed y; let ds ← (do let y ← evE P cl x env; let d ← sealed y; let ds ← pure []; pure (d :: ds)); pure (d :: ds) : M (List D))
    match ds with
    | [k, x] => do let d ← getdD d.2 k x; pure (.sh, d)
    | _ => bad : M KD) = _
  simp only [ba, pb]
theorem v_mt (p : P2) (a b : E) : evE P cl (.mt p a b) env = (do let x ← evE P cl a env; guard_ (mtOk p x.2); let y ← evE P cl b env; p2D p x.2 y.2) := rfl
theorem v_A0 : evA P cl [] env = pure [] := rfl
theorem v_Ac (e : E) (es : List E) : evA P cl (e :: es) env = (do let x ← evE P cl e env; let d ← sealed x; let ds ← evA P cl es env; pure (d :: ds)) := rfl
theorem v_K0 : evKs P cl [] env = pure [] := rfl
theorem v_Kc (e : E) (es : List E) : evKs P cl (e :: es) env = (do let x ← evE P cl e env; let _ ← need (ownOf x.1); let r ← evKs P cl es env; pure (x :: r)) := rfl
theorem i_valE (e : E) : evI P cl (.val e) env = (do let x ← evE P cl e env; let ds ← itD x.1 x.2; pure (x.1, ds)) := rfl
theorem i_rngE (es : List E) : evI P cl (.rng es) env = (do let ds ← evA P cl es env; let xs ← rngD ds; pure (.sh, xs)) := rfl
theorem i_keysE (e : E) : evI P cl (.keys e) env = (do let x ← evE P cl e env; let ds ← kysD x.1 x.2; pure (.sh, ds)) := rfl
theorem i_enmE (e : E) : evI P cl (.enm e) env = (do let x ← evE P cl e env; let ds ← enmD x.2; pure (x.1, ds)) := rfl
theorem c_none0 : evC P cl none env = pure true := rfl
theorem c_someE (e : E) : evC P cl (some e) env = tstE P cl e env := rfl
theorem o_none0 : evO P cl none env = pure none := rfl
theorem o_someE (e : E) : evO P cl (some e) env = (do let x ← evE P cl e env; let i ← asInt x.2; pure (some i)) := rfl
theorem tst_E (e : E) : tstE P cl e env = (do let x ← evE P cl e env; asBl x.2) := rfl
theorem t_all0 : storeAll P cl [] [] env = pure env := rfl
theorem t_allc (t : Tgt) (ts : List Tgt) (v : KD) (vs : List KD) : storeAll P cl (t :: ts) (v :: vs) env = (do let env ← storeVal P cl env t v; storeAll P cl ts vs env) := rfl
theorem t_own (i : Nat) (k : K) (d : D) : storeVal P cl env (.own i) (k, d) = (do let o ← need (ownOf k); guard_ (decide (i < env.length)); pure (env.set i (some (o, d)))) := rfl
theorem t_pat (p : Pat) (v : KD) : storeVal P cl env (.pat p) v = (do let d ← sealed v; need (setPat p d env)) := by cases v; rfl
theorem t_sub (x : Nat) (ke : E) (v : KD) : storeVal P cl env (.sub x ke) v = (do
    let d ← sealed v
    guard_ (bound env x)
    let k ← evE P cl ke env
    storeSub env x k.2 d) := by cases v; rfl
theorem own_sh : ownOf .sh = some false := rfl
theorem own_fr : ownOf .fr = some true := rfl
theorem r_var_q (i : Nat) : evR P cl (.var i) env = (match env[i]? with
    | some (some (true, d)) => pure (.fr, d)
    | some (some (false, d)) => pure (.sh, d)
    | _ => bad) := rfl
theorem r_ite_q (c a b : E) : evR P cl (.ite c a b) env = (tstE P cl c env >>= iteR P cl a b env) := by
  unfold tstE
  rw [ba]
  show (do
    let x ← evE P cl c env
    let k ← asBl x.2
    match k with
    | true => evR P cl a env
    | false => evR P cl b env : M KD) = _
  congr 1
end
section
variable (P : Prog) (cl : Cl) (env : Env)
/-- a returned expression that is no name -/
theorem r_cst (d : D) : evR P cl (.cst d) env = (do let x ← evE P cl (.cst d) env; notBr x.1; pure x) := rfl
theorem r_tup (es : List E) : evR P cl (.tup es) env = (do let x ← evE P cl (.tup es) env; notBr x.1; pure x) := rfl
theorem r_lst (es : List E) : evR P cl (.lst es) env = (do let x ← evE P cl (.lst es) env; notBr x.1; pure x) := rfl
theorem r_bin (op : BOp) (a b : E) : evR P cl (.bin op a b) env = (do let x ← evE P cl (.bin op a b) env; notBr x.1; pure x) := rfl
theorem r_not (a : E) : evR P cl (.not_ a) env = (do let x ← evE P cl (.not_ a) env; notBr x.1; pure x) := rfl
theorem r_and (es : List E) : evR P cl (.and_ es) env = (do let x ← evE P cl (.and_ es) env; notBr x.1; pure x) := rfl
theorem r_or (es : List E) : evR P cl (.or_ es) env = (do let x ← evE P cl (.or_ es) env; notBr x.1; pure x) := rfl
theorem r_cmp (op : COp) (a b : E) : evR P cl (.cmp op a b) env = (do let x ← evE P cl (.cmp op a b) env; notBr x.1; pure x) := rfl
theorem r_cmp2 (op op' : COp) (a b c : E) : evR P cl (.cmp2 op op' a b c) env = (do let x ← evE P cl (.cmp2 op op' a b c) env; notBr x.1; pure x) := rfl
theorem r_idx (a b : E) : evR P cl (.idx a b) env = (do let x ← evE P cl (.idx a b) env; notBr x.1; pure x) := rfl
theorem r_slc (a : E) (l h : Option E) : evR P cl (.slc a l h) env = (do let x ← evE P cl (.slc a l h) env; notBr x.1; pure x) := rfl
theorem r_call (f : Nat) (es : List E) : evR P cl (.call f es) env = (do let x ← evE P cl (.call f es) env; notBr x.1; pure x) := rfl
theorem r_p1 (p : P1) (a : E) : evR P cl (.p1 p a) env = (do let x ← evE P cl (.p1 p a) env; notBr x.1; pure x) := rfl
theorem r_p2 (p : P2) (a b : E) : evR P cl (.p2 p a b) env = (do let x ← evE P cl (.p2 p a b) env; notBr x.1; pure x) := rfl
theorem r_getd (a : E) (es : List E) : evR P cl (.getd a es) env = (do let x ← evE P cl (.getd a es) env; notBr x.1; pure x) := rfl
theorem r_lrng (es : List E) : evR P cl (.lrng es) env = (do let x ← evE P cl (.lrng es) env; notBr x.1; pure x) := rfl
theorem r_isa (a : E) (ks : List Kd) : evR P cl (.isa a ks) env = (do let x ← evE P cl (.isa a ks) env; notBr x.1; pure x) := rfl
theorem r_lc (elt : E) (p : Pat) (it : I) (c : Option E) : evR P cl (.lc elt p it c) env = (do let x ← evE P cl (.lc elt p it c) env; notBr x.1; pure x) := rfl
end
theorem isDct_dE {κ ν : Type} [Enc κ] [Enc ν] (kvs : List (κ × ν)) : D.isDct (dE kvs) = true := rfl
theorem itv (k : K) (xs : List D) : itD k (.lst xs) = pure xs := by cases k <;> rfl
theorem p1_tup_lst (xs : List D) : p1D .tuple (.lst xs) = pure (.sh, .tup xs) := rfl
theorem p1_len_l (xs : List D) : p1D .len (.lst xs) = pure (.sh, .int xs.length) := rfl
theorem p1_len_t (xs : List D) : p1D .len (.tup xs) = pure (.sh, .int xs.length) := rfl
theorem p1_abs (i : Int) : p1D .abs (.int i) = pure (.sh, .int i.natAbs) := rfl
theorem ix0 (x : D) (r : List D) : idxD (.tup (x :: r)) (.int 0) = pure x := by
  have e : seqIx 0 (x :: r).length = some 0 := by
    unfold seqIx
    rw [if_pos (by decide), if_pos (by rw [List.length_cons]; omega)]; rfl
  show (need ((seqIx 0 (x :: r).length).bind fun k => (x :: r)[k]?) : M D) = _
  rw [e]; rfl
theorem ix1 (x y : D) (r : List D) : idxD (.tup (x :: y :: r)) (.int 1) = pure y := by
  have e : seqIx 1 (x :: y :: r).length = some 1 := by
    unfold seqIx
    rw [if_pos (by decide), if_pos (by rw [List.length_cons, List.length_cons]; omega)]; rfl
  show (need ((seqIx 1 (x :: y :: r).length).bind fun k => (x :: y :: r)[k]?) : M D) = _
  rw [e]; rfl
theorem ix2 (x y z : D) (r : List D) : idxD (.tup (x :: y :: z :: r)) (.int 2) = pure z := by
  have e : seqIx 2 (x :: y :: z :: r).length = some 2 := by
    unfold seqIx
    rw [if_pos (by decide), if_pos (by rw [List.length_cons, List.length_cons, List.length_cons]; omega)]; rfl
  show (need ((seqIx 2 (x :: y :: z :: r).length).bind fun k => (x :: y :: z :: r)[k]?) : M D) = _
  rw [e]; rfl
theorem lx0 (x : D) (r : List D) : idxD (.lst (x :: r)) (.int 0) = pure x := by
  have e : seqIx 0 (x :: r).length = some 0 := by
    unfold seqIx
    rw [if_pos (by decide), if_pos (by rw [List.length_cons]; omega)]; rfl
  show (need ((seqIx 0 (x :: r).length).bind fun k => (x :: r)[k]?) : M D) = _
  rw [e]; rfl
theorem eq_bl (a b : Bool) : cmpD .eq (.bl a) (.bl b) = pure (decide (a = b)) := by cases a <;> cases b <;> rfl
theorem ne_bl (a b : Bool) : cmpD .ne (.bl a) (.bl b) = pure (!decide (a = b)) := by cases a <;> cases b <;> rfl
theorem ne_int (a b : Int) : cmpD .ne (.int a) (.int b) = pure (!decide (a = b)) := rfl
theorem eq_intD (a b : Int) : cmpD .eq (.int a) (.int b) = pure (decide (a = b)) := rfl
/-! ### runs with a state -/
section
variable {P : Prog} {cl : Cl} {W : Nat} {s : S} {r : List S} {env env' : Env} {st st' : St}
end
end Hp
local macro_rules | `(tactic| simp_arith! [$ls,*]) => `(tactic| simp -implicitDefEqProofs only [Hp.runB_nil, Hp.runB_cons, Hp.seqK_nx, Hp.seqK_rt, Hp.ifK_t, Hp.ifK_f, Hp.iteK_t, Hp.iteK_f, Hp.iteR_t, Hp.iteR_f, Hp.andK_t, Hp.andK_f, Hp.orK_t, Hp.orK_f, Hp.cmK_t, Hp.cmK_f, Hp.retK_nx, Hp.retK_rt, Hp.forB_sh, Hp.forB_fr, Hp.x_asg, Hp.x_asgs, Hp.x_ex, Hp.x_ret, Hp.x_pass, Hp.x_if, Hp.x_while, Hp.x_for, Hp.x_app, Hp.x_aug, Hp.x_frz, Hp.ev_var, Hp.ev_cst, Hp.ev_tup, Hp.ev_lst, Hp.ev_bin, Hp.ev_neg, Hp.ev_not, Hp.ev_cmp, Hp.ev_idx, Hp.ev_slc, Hp.ev_call, Hp.ev_p1, Hp.ev_p2, Hp.ev_lrng, Hp.ev_trng, Hp.ev_isa, Hp.v_ite, Hp.v_and, Hp.v_or, Hp.v_and0, Hp.v_or0, Hp.v_andc, Hp.v_orc, Hp.v_cmp2, Hp.v_glob, Hp.v_dct0, Hp.v_dct1, Hp.v_getd, Hp.v_mt, Hp.v_A0, Hp.v_Ac, Hp.v_K0, Hp.v_Kc, Hp.i_valE, Hp.i_rngE, Hp.i_keysE, Hp.i_enmE, Hp.c_none0, Hp.c_someE, Hp.o_none0, Hp.o_someE, Hp.tst_E, Hp.t_all0, Hp.t_allc, Hp.t_own, Hp.t_pat, Hp.t_sub, Hp.own_sh, Hp.own_fr, Hp.r_var_q, Hp.r_ite_q, Hp.r_cst, Hp.r_tup, Hp.r_lst, Hp.r_bin, Hp.r_not, Hp.r_and, Hp.r_or, Hp.r_cmp, Hp.r_cmp2, Hp.r_idx, Hp.r_slc, Hp.r_call, Hp.r_p1, Hp.r_p2, Hp.r_getd, Hp.r_lrng, Hp.r_isa, Hp.r_lc, Hp.pb, Hp.ba, Hp.guT, Hp.neS, Hp.noXp, Hp.se_sh, Hp.se_fr, Hp.nb_sh, Hp.nb_fr, Hp.asI, Hp.asB, Hp.itv, Hp.itv_tup, Hp.itv_lst, Hp.isDct_dE, Hp.sp_nm, Hp.sp_tp, Hp.sp_nil, Hp.sp_cons, Hp.wp_nm, List.map_cons, List.map_nil, List.cons_append, List.nil_append, List.getElem?_cons_zero, List.getElem?_cons_succ, List.set_cons_zero, List.set_cons_succ, List.length_cons, List.length_nil, Nat.reduceAdd, Nat.reduceSub, Nat.reduceLT, List.replicate, ↓reduceIte, Option.bind_some, decide_true, decide_false, Bool.and_self, Bool.not_true, Bool.not_false, Bool.and_true, Bool.true_and, eq_self, $ls,*])
local macro_rules | `(tactic| simp_arith! [$ls,*] $loc:location) => `(tactic| simp -implicitDefEqProofs only [Hp.runB_nil, Hp.runB_cons, Hp.seqK_nx, Hp.seqK_rt, Hp.ifK_t, Hp.ifK_f, Hp.iteK_t, Hp.iteK_f, Hp.iteR_t, Hp.iteR_f, Hp.andK_t, Hp.andK_f, Hp.orK_t, Hp.orK_f, Hp.cmK_t, Hp.cmK_f, Hp.retK_nx, Hp.retK_rt, Hp.forB_sh, Hp.forB_fr, Hp.x_asg, Hp.x_asgs, Hp.x_ex, Hp.x_ret, Hp.x_pass, Hp.x_if, Hp.x_while, Hp.x_for, Hp.x_app, Hp.x_aug, Hp.x_frz, Hp.ev_var, Hp.ev_cst, Hp.ev_tup, Hp.ev_lst, Hp.ev_bin, Hp.ev_neg, Hp.ev_not, Hp.ev_cmp, Hp.ev_idx, Hp.ev_slc, Hp.ev_call, Hp.ev_p1, Hp.ev_p2, Hp.ev_lrng, Hp.ev_trng, Hp.ev_isa, Hp.v_ite, Hp.v_and, Hp.v_or, Hp.v_and0, Hp.v_or0, Hp.v_andc, Hp.v_orc, Hp.v_cmp2, Hp.v_glob, Hp.v_dct0, Hp.v_dct1, Hp.v_getd, Hp.v_mt, Hp.v_A0, Hp.v_Ac, Hp.v_K0, Hp.v_Kc, Hp.i_valE, Hp.i_rngE, Hp.i_keysE, Hp.i_enmE, Hp.c_none0, Hp.c_someE, Hp.o_none0, Hp.o_someE, Hp.tst_E, Hp.t_all0, Hp.t_allc, Hp.t_own, Hp.t_pat, Hp.t_sub, Hp.own_sh, Hp.own_fr, Hp.r_var_q, Hp.r_ite_q, Hp.r_cst, Hp.r_tup, Hp.r_lst, Hp.r_bin, Hp.r_not, Hp.r_and, Hp.r_or, Hp.r_cmp, Hp.r_cmp2, Hp.r_idx, Hp.r_slc, Hp.r_call, Hp.r_p1, Hp.r_p2, Hp.r_getd, Hp.r_lrng, Hp.r_isa, Hp.r_lc, Hp.pb, Hp.ba, Hp.guT, Hp.neS, Hp.noXp, Hp.se_sh, Hp.se_fr, Hp.nb_sh, Hp.nb_fr, Hp.asI, Hp.asB, Hp.itv, Hp.itv_tup, Hp.itv_lst, Hp.isDct_dE, Hp.sp_nm, Hp.sp_tp, Hp.sp_nil, Hp.sp_cons, Hp.wp_nm, List.map_cons, List.map_nil, List.cons_append, List.nil_append, List.getElem?_cons_zero, List.getElem?_cons_succ, List.set_cons_zero, List.set_cons_succ, List.length_cons, List.length_nil, Nat.reduceAdd, Nat.reduceSub, Nat.reduceLT, List.replicate, ↓reduceIte, Option.bind_some, decide_true, decide_false, Bool.and_self, Bool.not_true, Bool.not_false, Bool.and_true, Bool.true_and, eq_self, $ls,*] $loc:location)
namespace Hp
open Hb Enc
/-! ### breadth first, by rows and by a queue -/
section
variable {α : Type} [Enc α] [DecidableEq α] [EnEq α] [EnKey α] (next : α → List α)
abbrev BS (α : Type) := List (α × Int) × List α
/-- what holds of the found all the way -/
structure Bok (U : List α) (s : BS α) (p : Nat) : Prop where
  nd : (s.1.map (·.1)).Nodup
  inU : ∀ x ∈ s.1.map (·.1), x ∈ U
  sub : ∀ x ∈ s.2, x ∈ s.1.map (·.1)
  cnt : s.1.length = s.2.length + p
theorem nodup_le {β : Type} [DecidableEq β] : ∀ {l U : List β}, l.Nodup → (∀ x ∈ l, x ∈ U) → l.length ≤ U.length
  | [], _, _, _ => Nat.zero_le _
  | x :: r, U, h, hs => by
    obtain ⟨h1, h2⟩ := List.nodup_cons.mp h
    have hx := hs x (List.mem_cons_self ..)
    have := nodup_le (U := U.erase x) h2 fun y hy => (List.mem_erase_of_ne (fun e : y = x => h1 (by rw [← e]; exact hy))).mpr (hs y (List.mem_cons_of_mem _ hy))
    rw [List.length_erase_of_mem hx] at this
    have : 0 < U.length := List.length_pos_of_mem hx
    rw [List.length_cons]; omega
theorem Bok.le {U : List α} {s : BS α} {p : Nat} (h : Bok U s p) : s.1.length ≤ U.length := by
  have := nodup_le h.nd h.inU
  rwa [List.length_map] at this
end
end Hp
namespace Hl
open Hb Hp Hp.Enc
variable (W k : Nat)
theorem bk0 (r : Int) (u d : List Int) : idxD (Bk r u d) (.int 0) = pure (.int r) := rfl
theorem bk1 (r : Int) (u d : List Int) : idxD (Bk r u d) (.int 1) = pure (Tp u) := rfl
theorem bk2 (r : Int) (u d : List Int) : idxD (Bk r u d) (.int 2) = pure (Tp d) := rfl
/-- pairs of heights -/
abbrev Pr := Int × Int
def behind (p : Pr) (place : Int) (up : Bool) : Pr := if place = 0 then (p.1 + (if up = true then 1 else -1), p.2) else (p.1, p.2 + (if up = true then 1 else -1))
/-- the deeds that can be done -/
def at_ (p : Pr) (place : Int) : Int := if place = 0 then p.1 else p.2
def dds (r : Int) (u d : List Int) (p : Pr) : List (Bool × Int) := [(false, (0 : Int)), (false, 1), (true, 0), (true, 1)].filter fun q => lets r u d (at_ p q.2) (at_ p (1 - q.2)) q.1
/-! ### what comes -/
def nx (r : Int) (u d : List Int) (p : Pr) : List Pr := (dds r u d p).map fun q => behind p q.2 q.1
/-! ### the law's own search, by a queue -/
end Hl
namespace Hl
open Hb Hp Hp.Enc
variable (W k : Nat)
/-- what _law_alike may look at, n levels at most -/
def okA : Nat → D → Bool
  | 0, _ => false
  | _ + 1, .int _ => true
  | _ + 1, .bl _ => true
  | _ + 1, .str _ => true
  | _ + 1, .non => true
  | n + 1, .tup xs => decide (xs.length ≤ 100000) && xs.all (okA n)
  | n + 1, .lst xs => decide (xs.length ≤ 100000) && xs.all (okA n)
  | _ + 1, _ => false
end Hl
namespace Hl
open Hb Hp Hp.Enc
variable (W k : Nat)
/-! ### drawn heights -/
end Hl
namespace Hl
open Hb Hp Hp.Enc
variable (W : Nat)
class EnOk (α : Type) [Enc α] where
  od : Nat
  ok : ∀ (a : α) (n : Nat), od ≤ n → okA n (en a) = true
instance : EnOk Int := ⟨1, fun a n h => by obtain ⟨k, rfl⟩ : ∃ k, n = k + 1 := ⟨n - 1, by omega⟩; rfl⟩
instance : EnOk Bool := ⟨1, fun a n h => by obtain ⟨k, rfl⟩ : ∃ k, n = k + 1 := ⟨n - 1, by omega⟩; rfl⟩
instance {α β : Type} [Enc α] [Enc β] [EnOk α] [EnOk β] : EnOk (α × β) := ⟨max (EnOk.od α) (EnOk.od β) + 1, fun a n h => by
  obtain ⟨k, rfl⟩ : ∃ k, n = k + 1 := ⟨n - 1, by omega⟩
  show okA (k + 1) (.tup [en a.1, en a.2]) = true
  rw [okA]
  simp -implicitDefEqProofs only [List.all_cons, List.all_nil, List.length_cons, List.length_nil]
  rw [EnOk.ok a.1 k (by omega), EnOk.ok a.2 k (by omega)]
  decide⟩
instance {α β γ : Type} [Enc α] [Enc β] [Enc γ] [EnOk α] [EnOk β] [EnOk γ] : EnOk (Tri α β γ) := ⟨max (EnOk.od α) (max (EnOk.od β) (EnOk.od γ)) + 1, fun a n h => by
  obtain ⟨k, rfl⟩ : ∃ k, n = k + 1 := ⟨n - 1, by omega⟩
  show okA (k + 1) (.tup [en a.a, en a.b, en a.c]) = true
  rw [okA]
  simp -implicitDefEqProofs only [List.all_cons, List.all_nil, List.length_cons, List.length_nil]
  rw [EnOk.ok a.a k (by omega), EnOk.ok a.b k (by omega), EnOk.ok a.c k (by omega)]
  decide⟩
end Hl
namespace Hl
open Hb Hp Hp.Enc
variable (W k : Nat)
end Hl
namespace Hp
open Hb Enc
/-! ### backward steps: loops, draws -/
/-- a run that ends well -/
def Ok {α : Type} (m : M α) (st : St) (Q : α → St → Prop) : Prop := ∃ v st', m st = .ok v st' ∧ Q v st'
theorem Ok.bind {α β : Type} {m : M α} {f : α → M β} {st : St} {R : α → St → Prop} {Q : β → St → Prop} (h : Ok m st R) (k : ∀ v st', R v st' → Ok (f v) st' Q) : Ok (m >>= f) st Q := by
  obtain ⟨v, s1, e, r⟩ := h
  obtain ⟨u, s2, e2, q⟩ := k v s1 r
  refine ⟨u, s2, ?_, q⟩
  rw [bs, e]; exact e2
theorem Ok.imp {α : Type} {m : M α} {st : St} {R Q : α → St → Prop} (h : Ok m st R) (k : ∀ v st', R v st' → Q v st') : Ok m st Q := let ⟨v, s, e, r⟩ := h; ⟨v, s, e, k v s r⟩
theorem Ok.of {α : Type} {m : M α} {st st' : St} {v : α} {Q : α → St → Prop} (e : m st = .ok v st') (q : Q v st') : Ok m st Q := ⟨v, st', e, q⟩
theorem Ok.at {α β : Type} {m : M α} {f : α → M β} {st st' : St} {v : α} {Q : β → St → Prop} (e : m st = .ok v st') (k : Ok (f v) st' Q) : Ok (m >>= f) st Q := Ok.bind (R := fun u s => u = v ∧ s = st') ⟨v, st', e, rfl, rfl⟩ fun _ _ ⟨h1, h2⟩ => by subst h1 h2; exact k
/-- ends without a return -/
def Ex (m : M Fl) (Q : Env → Prop) : Prop := ∃ env', m = pure (.nx env') ∧ Q env'
theorem Ex.mk {env : Env} {Q : Env → Prop} (q : Q env) : Ex (pure (.nx env)) Q := ⟨env, rfl, q⟩
section
variable {β α σ : Type} [Enc α] {p : Pat} {body : Env → M Fl} {l : List α} {env : Env} {K : Fl → M β}
end
theorem andK_nil (P : Prog) (cl : Cl) (env : Env) (b : Bool) : andK P cl [] env b = pure b := by cases b <;> rfl
theorem orK_nil (P : Prog) (cl : Cl) (env : Env) (b : Bool) : orK P cl [] env b = pure b := by cases b <;> rfl
/-! ### prefixes -/
end Hp
namespace Hp
open Hb Enc
/-! ### the search finds just what comes, with the least numbers of steps -/
inductive Steps {α : Type} (next : α → List α) (x : α) : Nat → α → Prop
  | zero : Steps next x 0 x
  | snoc {n : Nat} {y t : α} : Steps next x n y → t ∈ next y → Steps next x (n + 1) t
section
variable {α : Type} {next : α → List α}
theorem Steps.trans {x y z : α} {n m : Nat} (h : Steps next x n y) (h2 : Steps next y m z) : Steps next x (n + m) z := by
  induction h2 with
  | zero => exact h
  | snoc _ ht ih => exact .snoc ih ht
theorem Steps.cons {x y z : α} {n : Nat} (h : y ∈ next x) (h2 : Steps next y n z) : Steps next x (n + 1) z := by
  have := (Steps.zero.snoc h : Steps next x 1 y).trans h2
  rwa [Nat.add_comm] at this
theorem Steps.inU {U : List α} (hU : ∀ x ∈ U, ∀ t ∈ next x, t ∈ U) {x y : α} {n : Nat} (hx : x ∈ U) (h : Steps next x n y) : y ∈ U := by
  induction h with
  | zero => exact hx
  | snoc _ ht ih => exact hU _ ih _ ht
end
section
variable {α : Type} [Enc α] [DecidableEq α] [EnEq α] [EnKey α] (next : α → List α)
variable {next}
end
end Hp
namespace Hp
open Hb Enc
section
variable {κ ν : Type} [Enc κ] [Enc ν] [DecidableEq κ] [EnEq κ] [EnKey κ]
end
section
variable {α : Type} [Enc α] [DecidableEq α] [EnEq α]
end
section
variable {P : Prog} {cl : Cl} {elt : E} {p : Pat} {env : Env} {α : Type} [Enc α] {it : I}
end
theorem is_blt (a : Bool) : cmpD .is_ (.bl a) (.bl true) = pure a := by cases a <;> rfl
theorem is_blf (a : Bool) : cmpD .is_ (.bl a) (.bl false) = pure (!a) := by cases a <;> rfl
theorem isnot_blt (a : Bool) : cmpD .isnot (.bl a) (.bl true) = pure (!a) := by cases a <;> rfl
theorem isnot_blf (a : Bool) : cmpD .isnot (.bl a) (.bl false) = pure a := by cases a <;> rfl
end Hp
local macro_rules | `(tactic| simp_arith [$ls,*]) => `(tactic| simp -implicitDefEqProofs only [Hp.runB_nil, Hp.runB_cons, Hp.seqK_nx, Hp.seqK_rt, Hp.ifK_t, Hp.ifK_f, Hp.iteK_t, Hp.iteK_f, Hp.iteR_t, Hp.iteR_f, Hp.andK_t, Hp.andK_f, Hp.orK_t, Hp.orK_f, Hp.cmK_t, Hp.cmK_f, Hp.retK_nx, Hp.retK_rt, Hp.forB_sh, Hp.forB_fr, Hp.x_asg, Hp.x_asgs, Hp.x_ex, Hp.x_ret, Hp.x_pass, Hp.x_if, Hp.x_while, Hp.x_for, Hp.x_app, Hp.x_aug, Hp.x_frz, Hp.ev_var, Hp.ev_cst, Hp.ev_tup, Hp.ev_lst, Hp.ev_bin, Hp.ev_neg, Hp.ev_not, Hp.ev_cmp, Hp.ev_idx, Hp.ev_slc, Hp.ev_call, Hp.ev_p1, Hp.ev_p2, Hp.ev_lrng, Hp.ev_trng, Hp.ev_isa, Hp.v_ite, Hp.v_and, Hp.v_or, Hp.v_and0, Hp.v_or0, Hp.v_andc, Hp.v_orc, Hp.v_cmp2, Hp.v_glob, Hp.v_dct0, Hp.v_dct1, Hp.v_getd, Hp.v_mt, Hp.v_A0, Hp.v_Ac, Hp.v_K0, Hp.v_Kc, Hp.i_valE, Hp.i_rngE, Hp.i_keysE, Hp.i_enmE, Hp.c_none0, Hp.c_someE, Hp.o_none0, Hp.o_someE, Hp.tst_E, Hp.t_all0, Hp.t_allc, Hp.t_own, Hp.t_pat, Hp.t_sub, Hp.own_sh, Hp.own_fr, Hp.r_var_q, Hp.r_ite_q, Hp.r_cst, Hp.r_tup, Hp.r_lst, Hp.r_bin, Hp.r_not, Hp.r_and, Hp.r_or, Hp.r_cmp, Hp.r_cmp2, Hp.r_idx, Hp.r_slc, Hp.r_call, Hp.r_p1, Hp.r_p2, Hp.r_getd, Hp.r_lrng, Hp.r_isa, Hp.r_lc, Hp.pb, Hp.ba, Hp.guT, Hp.neS, Hp.noXp, Hp.se_sh, Hp.se_fr, Hp.nb_sh, Hp.nb_fr, Hp.asI, Hp.asB, Hp.itv, Hp.itv_tup, Hp.itv_lst, Hp.isDct_dE, Hp.sp_nm, Hp.sp_tp, Hp.sp_nil, Hp.sp_cons, Hp.wp_nm, List.map_cons, List.map_nil, List.cons_append, List.nil_append, List.getElem?_cons_zero, List.getElem?_cons_succ, List.set_cons_zero, List.set_cons_succ, List.length_cons, List.length_nil, Nat.reduceAdd, Nat.reduceSub, Nat.reduceLT, List.replicate, ↓reduceIte, Option.bind_some, decide_true, decide_false, Bool.and_self, Bool.not_true, Bool.not_false, Bool.and_true, Bool.true_and, eq_self, Hp.andK_nil, Hp.orK_nil, Hp.add_int, Hp.sub_int, Hp.lt_int, Hp.le_int, Hp.gt_int, Hp.ge_int, Hp.eq_intD, Hp.ne_int, Hp.eq_bl, Hp.ne_bl, Hp.ix0, Hp.ix1, Hp.ix2, Hp.lx0, Hl.bk0, Hl.bk1, Hl.bk2, Hp.p1_len_t, Hp.p1_len_l, Hp.p1_tup_lst, Hp.p1_abs, Hp.en_int, Hp.en_bl, Bool.false_eq_true, reduceCtorEq, Hp.is_blt, Hp.is_blf, Hp.isnot_blt, Hp.isnot_blf, $ls,*])
local macro_rules | `(tactic| simp_arith [$ls,*] $loc:location) => `(tactic| simp -implicitDefEqProofs only [Hp.runB_nil, Hp.runB_cons, Hp.seqK_nx, Hp.seqK_rt, Hp.ifK_t, Hp.ifK_f, Hp.iteK_t, Hp.iteK_f, Hp.iteR_t, Hp.iteR_f, Hp.andK_t, Hp.andK_f, Hp.orK_t, Hp.orK_f, Hp.cmK_t, Hp.cmK_f, Hp.retK_nx, Hp.retK_rt, Hp.forB_sh, Hp.forB_fr, Hp.x_asg, Hp.x_asgs, Hp.x_ex, Hp.x_ret, Hp.x_pass, Hp.x_if, Hp.x_while, Hp.x_for, Hp.x_app, Hp.x_aug, Hp.x_frz, Hp.ev_var, Hp.ev_cst, Hp.ev_tup, Hp.ev_lst, Hp.ev_bin, Hp.ev_neg, Hp.ev_not, Hp.ev_cmp, Hp.ev_idx, Hp.ev_slc, Hp.ev_call, Hp.ev_p1, Hp.ev_p2, Hp.ev_lrng, Hp.ev_trng, Hp.ev_isa, Hp.v_ite, Hp.v_and, Hp.v_or, Hp.v_and0, Hp.v_or0, Hp.v_andc, Hp.v_orc, Hp.v_cmp2, Hp.v_glob, Hp.v_dct0, Hp.v_dct1, Hp.v_getd, Hp.v_mt, Hp.v_A0, Hp.v_Ac, Hp.v_K0, Hp.v_Kc, Hp.i_valE, Hp.i_rngE, Hp.i_keysE, Hp.i_enmE, Hp.c_none0, Hp.c_someE, Hp.o_none0, Hp.o_someE, Hp.tst_E, Hp.t_all0, Hp.t_allc, Hp.t_own, Hp.t_pat, Hp.t_sub, Hp.own_sh, Hp.own_fr, Hp.r_var_q, Hp.r_ite_q, Hp.r_cst, Hp.r_tup, Hp.r_lst, Hp.r_bin, Hp.r_not, Hp.r_and, Hp.r_or, Hp.r_cmp, Hp.r_cmp2, Hp.r_idx, Hp.r_slc, Hp.r_call, Hp.r_p1, Hp.r_p2, Hp.r_getd, Hp.r_lrng, Hp.r_isa, Hp.r_lc, Hp.pb, Hp.ba, Hp.guT, Hp.neS, Hp.noXp, Hp.se_sh, Hp.se_fr, Hp.nb_sh, Hp.nb_fr, Hp.asI, Hp.asB, Hp.itv, Hp.itv_tup, Hp.itv_lst, Hp.isDct_dE, Hp.sp_nm, Hp.sp_tp, Hp.sp_nil, Hp.sp_cons, Hp.wp_nm, List.map_cons, List.map_nil, List.cons_append, List.nil_append, List.getElem?_cons_zero, List.getElem?_cons_succ, List.set_cons_zero, List.set_cons_succ, List.length_cons, List.length_nil, Nat.reduceAdd, Nat.reduceSub, Nat.reduceLT, List.replicate, ↓reduceIte, Option.bind_some, decide_true, decide_false, Bool.and_self, Bool.not_true, Bool.not_false, Bool.and_true, Bool.true_and, eq_self, Hp.andK_nil, Hp.orK_nil, Hp.add_int, Hp.sub_int, Hp.lt_int, Hp.le_int, Hp.gt_int, Hp.ge_int, Hp.eq_intD, Hp.ne_int, Hp.eq_bl, Hp.ne_bl, Hp.ix0, Hp.ix1, Hp.ix2, Hp.lx0, Hl.bk0, Hl.bk1, Hl.bk2, Hp.p1_len_t, Hp.p1_len_l, Hp.p1_tup_lst, Hp.p1_abs, Hp.en_int, Hp.en_bl, Bool.false_eq_true, reduceCtorEq, Hp.is_blt, Hp.is_blf, Hp.isnot_blt, Hp.isnot_blf, $ls,*] $loc:location)
namespace Hl
open Hb Hp Hp.Enc
variable (W k : Nat)
/-! ### draws -/
end Hl
namespace Hl
open Hb Hp Hp.Enc
def okB : Out KD → Bool
  | .ok (_, .bl true) _ => true
  | _ => false
theorem okB_of {o : Out KD} (h : okB o = true) : ∃ kn st, o = .ok (kn, .bl true) st := by
  unfold okB at h
  split at h
  · exact ⟨_, _, rfl⟩
  · cases h
theorem law_k05 (ns : List Int) : ∃ kn st, callF glob 200 40 f_law_k05 [.scr ns] {} = .ok (kn, .bl true) st := okB_of (by kernel_rfl)
end Hl
theorem PySem.Challenge.cw_heapbooks_k05_known_books_holds : PySem.Challenge.rw_heapbooks_k05_known_books.Holds := by
  exact Law.holds_of 200 (fun ns _ => Hl.law_k05 ns)
