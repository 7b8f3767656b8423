import PyProof.Rows.All
import Wide.All
import OpenK.AllK
import Wide.FinOn
import KE.KStateDown
import HandS.ForMost
import HandS.ForExc
import HandS.CallSlots
import HandS.Slots
import HandS.SlotsOwn
import HandS.Property
import HandS.ClsMeth
import HandS.Defaults
import HandS.MakeKw
import HandS.MakeKwOnly
import HandS.Flow
import HandS.IsInst
import HandS.FStr
import HandS.RaiseMore
import HandS.Zip
import HandS.ExcInit
import HandS.ExcField
import HandS.ExcIs
import HandS.ExcValue
import HandS.Star
import HandS.Wide
import HandS.WideBits
import HandS.Conv
import HandS.TupAny
import HandS.StrMore
import HandS.TryMany
import HandS.Style
import HandS.Head4
import HandS.HeadHook4
import HandS.HeadWalk
import HandS.HeadNt
import HandS.EndBits
import HandS.HeadEnd
import KE.GoesEnum
import KE.KxText
import PyProof.ReprLen
import PyProof.FitsInt
import HandS.TryOnly
import HandS.Dict
import HandS.Deep
import KE.IntTextLaws
import KE.IntTextText
import PyProof.InstNe
import PyProof.EqKinds
import PyProof.Ascii
import HandS.Comp
import KE.KExcInit
import HandS.Text
import HandS.DictComp
import HandS.Replace
import HandS.ReplaceLit
import PyProof.LongRange
import OpenK.KOps
import PyProof.SumAnyB
import PySem.Challenge.RW_turnstops_k55_journeys_led_ride_by_ride
set_option Elab.async false
set_option linter.all false
set_option maxRecDepth 100000
set_option maxHeartbeats 4000000
/-! the head's facts as Bools, and the Hook: what the kernel run of a top needs (ahead of all else: the run is the largest thing in memory) -/
namespace L3
open PySem PySem.Spec PyProof.Rows L2 PySem.Calls
section
open He He5
variable {K : PySem.W.Frag} {C C' : Addr} {f m : Str} {i : Nat}
def sclsB (K : PySem.W.Frag) (C : Addr) : Bool := PySem.W.plainGet K C Str.empty && (PySem.W.isClsIn K C && (PySem.W.plainOver K C && eqO (PySem.W.findIn K (.ref C) "__setattr__") (some (some (.builtin "object.__setattr__")))))
def sisiB (K : PySem.W.Frag) (C : Addr) : Bool := eqO (PySem.W.findIn K (.ref C) "__class__") (some (some (.builtin "object.__class__"))) && (eqO (PySem.W.specialIn K (.builtin "object.__class__") "__get__") (some (some (.builtin "getset_descriptor.__get__"))) &&
  (decide (PySem.W.takesIn K (.builtin "object.__class__") = some true) && decide (PySem.W.mroIn K C (.type "object") = some true)))
def isB (K : PySem.W.Frag) (C : Addr) : Bool := sclsB K C && (sisiB K C && ["NoneType", "bool", "int", "str", "tuple", "list", "dict"].all fun n => decide (PySem.W.kitOne K (.type n) (.ref C) = some false))
def apB (K : PySem.W.Frag) (C' C : Addr) : Bool := sclsB K C' && (sisiB K C' && decide (PySem.W.kitOne K (.ref C') (.ref C) = some false))
def slB (K : PySem.W.Frag) (C : Addr) (f : Str) (i : Nat) : Bool := sclsB K C && (eqO (PySem.W.findIn K (.ref C) f) (some (some (.ref (ma K C f)))) && (eqO (PySem.W.specialIn K (.ref (ma K C f)) "__get__") (some (some (.builtin "member_descriptor.__get__"))) &&
  (decide (PySem.W.takesIn K (.ref (ma K C f)) = some true) && (decide (PySem.W.typeIn K (.ref (ma K C f)) = some (.type "member_descriptor")) && (decide (PySem.W.slotIn K (ma K C f) C = some i) && decide (i < 1000))))))
def mkB (K : PySem.W.Frag) (C : Addr) : Bool := PySem.W.makesIn K C && (eqO (PySem.W.findIn K (.ref C) "__init__") (some (some (.ref (ma K C "__init__")))) && (PySem.W.isFn K (.ref (ma K C "__init__")) && PySem.W.keepIn K (.ref C)))
def meB (K : PySem.W.Frag) (C : Addr) (m : Str) : Bool := eqO (PySem.W.findIn K (.ref C) m) (some (some (.ref (ma K C m)))) && (PySem.W.isFn K (.ref (ma K C m)) && PySem.W.keepIn K (.ref (ma K C m)))
def prB (K : PySem.W.Frag) (C : Addr) (f : Str) : Bool := eqO (PySem.W.findIn K (.ref C) f) (some (some (.ref (ma K C f)))) && (eqO (PySem.W.specialIn K (.ref (ma K C f)) "__get__") (some (some (.builtin "property.__get__"))) &&
  (decide (PySem.W.takesIn K (.ref (ma K C f)) = some true) && (match PySem.W.recIn K (ma K C f) "property" with | some (.ref _ :: _) => true | _ => false)))
def cmB (K : PySem.W.Frag) (C : Addr) (m : Str) : Bool := wrapB K C "classmethod" "classmethod.__get__" m && (PySem.W.fnIn K (wf K C "classmethod" m) && (PySem.W.readsIn K C (.type "type") && eqO (PySem.W.specialIn K (.ref C) "__getattribute__") (some (some (.builtin "type.__getattribute__")))))
def obsM (fa : List Fa) (fn : List DefA) (ex : PySem.W.Frag → Bool) (K : PySem.W.Frag) : AlD := ((fa.all fun f => f.ok K) && ((fn.all fun d => d.ok K) && ex K), fn.map fun d => fnA K (d.at_ K))
def obsMG (n : Nat) (fa : List Fa) (fn : List DefA) (ex : PySem.W.Frag → Bool) (g : Addr → Option Obj) : AlD := obsM fa fn ex (frG g (sysModules :: asA g n))
def SaysM (fa : List Fa) (fn : List DefA) (ex : PySem.W.Frag → Bool) (K : PySem.W.Frag) : Prop := obsM fa fn ex K = valA fn
def hookM (n : Nat) (fa : List Fa) (fn : List DefA) (ex : PySem.W.Frag → Bool) : PySem.W.Hook where
  α := AlD
  obs := fun s => obsMG n fa fn ex s.heap.get?
  val := fun _ => valA fn
  says := fun _ h => ∃ K : PySem.W.Frag, K.In h ∧ SaysM fa fn ex K
  of := fun _ _ e => ⟨_, frG_in, e⟩
  keeps := fun _ _ _ ⟨K, hK, c⟩ k => ⟨K, PySem.W.Frag.In.keeps hK k, c⟩
theorem obsMG_eq {n : Nat} {fa : List Fa} {fn : List DefA} {ex : PySem.W.Frag → Bool} {g : Addr → Option Obj} {s : Shared} (h : ∀ a, g a = s.heap.get? a) : obsMG n fa fn ex g = (hookM n fa fn ex).obs s := by
  have e : g = s.heap.get? := funext h
  rw [e] <;> rfl
def dfA (at_ : PySem.W.Frag → Addr) (name qual : Str) (st : Stmt) : DefA := ⟨at_, name, qual, defArgs st, defBody st, defScope st, [], []⟩
def dfN (at_ : PySem.W.Frag → Addr) (name qual : Str) (st : Stmt) (dfl : List Dv) : DefA := ⟨at_, name, qual, defArgs st, defBody st, defScope st, dfl, []⟩
def sysB (K : PySem.W.Frag) : Bool := match K.lookup sysModules with
  | some ⟨.type n, _, _, _⟩ => n != "list"
  | _ => false
def eqcB (K : PySem.W.Frag) (C : Addr) : Bool := eqO (PySem.W.findIn K (.ref C) "__ne__") (some (some (.builtin "object.__ne__"))) && ["NoneType", "bool", "int", "str", "tuple", "list", "dict"].all fun n => decide (PySem.W.mroIn K C (.type n) = some false) && PySem.W.notFirst K C (.type n)
def trcB (K : PySem.W.Frag) (C : Addr) : Bool := decide (PySem.W.findIn K (.ref C) "__bool__" = some none) && decide (PySem.W.findIn K (.ref C) "__len__" = some none)
def xshB (K : PySem.W.Frag) (C : Addr) (new : String) (tail : List Value → Bool) : Bool := match K.lookup C with
  | some ⟨.type "type", _, .cls cd, sl⟩ => (match cd.mro, sl.toList with
    | .ref C' :: bm, [_, _, _, _, some (.builtin n), _] => C' == C && (n == new && (cd.hasDict && (!cd.hasDel && tail bm)))
    | _, _ => false)
  | _ => false
def xcB (K : PySem.W.Frag) (C : Addr) (f : Str) : Bool := xshB K C "ValueError.__new__" PySem.HandSPX.refsVE && (eqO (PySem.W.findIn K (.ref C) "__setattr__") (some (some (.builtin "object.__setattr__"))) && (decide (PySem.W.subIn K (.ref C) (.type "BaseException") = some true) &&
  (decide (PySem.W.typeIn K (.ref C) = some (.type "type")) && (PySem.W.keepIn K (.ref C) && (xfB K C && (decide (PySem.W.findIn K (.ref C) f = some none) && (eqO (PySem.W.findIn K (.ref C) "__init__") (some (some (.ref (ma K C "__init__")))) &&
  decide (PySem.W.typeIn K (.ref (ma K C "__init__")) = some (.type "function")))))))))
/-- a builtin exception class that own ones stand over -/
structure ERoot where
  B : String
  newId : String
  initId : String
  tail : List Value
def rootLE : ERoot := ⟨"LookupError", "LookupError.__new__", "LookupError.__init__", [.type "LookupError", .type "Exception", .type "BaseException", .type "object"]⟩
def rootAE : ERoot := ⟨"ArithmeticError", "ArithmeticError.__new__", "ArithmeticError.__init__", [.type "ArithmeticError", .type "Exception", .type "BaseException", .type "object"]⟩
/-- own classes, then a root's mro -/
def refsR (t : List Value) : List Value → Bool
  | .ref _ :: r => refsR t r
  | l => l == t
def xcRB (R : ERoot) (K : PySem.W.Frag) (C : Addr) (f : Str) : Bool := xshB K C R.newId (refsR R.tail) && (eqO (PySem.W.findIn K (.ref C) "__setattr__") (some (some (.builtin "object.__setattr__"))) && (decide (PySem.W.subIn K (.ref C) (.type "BaseException") = some true) &&
  (decide (PySem.W.typeIn K (.ref C) = some (.type "type")) && (PySem.W.keepIn K (.ref C) && (xfB K C && (decide (PySem.W.findIn K (.ref C) f = some none) && (eqO (PySem.W.findIn K (.ref C) "__init__") (some (some (.ref (ma K C "__init__")))) &&
  decide (PySem.W.typeIn K (.ref (ma K C "__init__")) = some (.type "function")))))))))
def exB (K : PySem.W.Frag) (C C' : Addr) (b : Bool) : Bool := decide (PySem.W.exmOne K (.ref C) (.ref C') = some b)
end
end L3
set_option Elab.async false
set_option linter.all false
set_option maxRecDepth 100000
set_option maxHeartbeats 4000000
/-! more of the head's facts as Bools: classes without slots -/
namespace L3
open PySem PySem.Spec PyProof.Rows L2 PySem.Calls
section
open He He5
def oclB (K : PySem.W.Frag) (C : Addr) : Bool := PySem.W.plainGet K C Str.empty && (PySem.W.hasDictIn K C && (PySem.W.plainOver K C && eqO (PySem.W.findIn K (.ref C) "__setattr__") (some (some (.builtin "object.__setattr__")))))
def noaB (K : PySem.W.Frag) (C : Addr) (f : Str) : Bool := eqO (PySem.W.findIn K (.ref C) f) (some none)
def eqOB (K : PySem.W.Frag) (C : Addr) : Bool := eqO (PySem.W.findIn K (.ref C) "__eq__") (some (some (.builtin "object.__eq__"))) && (eqO (PySem.W.findIn K (.ref C) "__ne__") (some (some (.builtin "object.__ne__"))) && decide (PySem.W.mroIn K C (.type "object") = some true))
end
end L3

set_option Elab.async false
set_option linter.all false
set_option maxRecDepth 100000
set_option maxHeartbeats 4000000
namespace TS
open PySem PySem.Spec PyProof.Rows L2 L3
def topS (i : Nat) : Stmt := PySem.Challenge.pw_turnstops_k55_journeys_led_ride_by_ride.main.body.getD i (.Pass ⟨0, 0, 0, 0⟩)
def inClass (st : Stmt) (i : Nat) : Stmt := (match st with | .ClassDef (body := b) .. => b | _ => []).getD i (.Pass ⟨0, 0, 0, 0⟩)
abbrev s_is_integer : Stmt := topS 21
abbrev N_is_integer : List Str := ["value"]
theorem sc_is_integer : FnScope N_is_integer ["value"] (defScope s_is_integer) := ⟨rfl, rfl, rfl, by decide +kernel, rfl, by decide +kernel, by decide +kernel⟩
abbrev s_is_name : Stmt := topS 22
abbrev N_is_name : List Str := ["value", "sign"]
theorem sc_is_name : FnScope N_is_name ["value"] (defScope s_is_name) := ⟨rfl, rfl, rfl, by decide +kernel, rfl, by decide +kernel, by decide +kernel⟩
abbrev s_written_integer : Stmt := topS 24
abbrev N_written_integer : List Str := ["word", "digits", "sign"]
theorem sc_written_integer : FnScope N_written_integer ["word"] (defScope s_written_integer) := ⟨rfl, rfl, rfl, by decide +kernel, rfl, by decide +kernel, by decide +kernel⟩
abbrev s_is_within : Stmt := topS 25
abbrev N_is_within : List Str := ["word", "low", "high", "number"]
theorem sc_is_within : FnScope N_is_within ["word", "low", "high"] (defScope s_is_within) := ⟨rfl, rfl, rfl, by decide +kernel, rfl, by decide +kernel, by decide +kernel⟩
abbrev s_is_where : Stmt := topS 26
abbrev N_is_where : List Str := ["words"]
theorem sc_is_where : FnScope N_is_where ["words"] (defScope s_is_where) := ⟨rfl, rfl, rfl, by decide +kernel, rfl, by decide +kernel, by decide +kernel⟩
abbrev s_is_row : Stmt := topS 27
abbrev N_is_row : List Str := ["value", "words"]
theorem sc_is_row : FnScope N_is_row ["value"] (defScope s_is_row) := ⟨rfl, rfl, rfl, by decide +kernel, rfl, by decide +kernel, by decide +kernel⟩
abbrev s_common_multiple : Stmt := topS 28
abbrev N_common_multiple : List Str := ["one", "other", "found"]
theorem sc_common_multiple : FnScope N_common_multiple ["one", "other"] (defScope s_common_multiple) := ⟨rfl, rfl, rfl, by decide +kernel, rfl, by decide +kernel, by decide +kernel⟩
abbrev s_Kind_init : Stmt := inClass (topS 29) 1
abbrev N_Kind_init : List Str := ["self", "name", "pace", "halt", "wait", "rows", "minutes", "most", "at", "row"]
theorem sc_Kind_init : FnScope N_Kind_init ["self", "name", "pace", "halt", "wait", "rows"] (defScope s_Kind_init) := ⟨rfl, rfl, rfl, by decide +kernel, rfl, by decide +kernel, by decide +kernel⟩
abbrev s_Kind_name : Stmt := inClass (topS 29) 2
abbrev N_Kind_name : List Str := ["self"]
theorem sc_Kind_name : FnScope N_Kind_name ["self"] (defScope s_Kind_name) := ⟨rfl, rfl, rfl, by decide +kernel, rfl, by decide +kernel, by decide +kernel⟩
abbrev s_Kind_pace : Stmt := inClass (topS 29) 3
abbrev N_Kind_pace : List Str := ["self"]
theorem sc_Kind_pace : FnScope N_Kind_pace ["self"] (defScope s_Kind_pace) := ⟨rfl, rfl, rfl, by decide +kernel, rfl, by decide +kernel, by decide +kernel⟩
abbrev s_Kind_halt : Stmt := inClass (topS 29) 4
abbrev N_Kind_halt : List Str := ["self"]
theorem sc_Kind_halt : FnScope N_Kind_halt ["self"] (defScope s_Kind_halt) := ⟨rfl, rfl, rfl, by decide +kernel, rfl, by decide +kernel, by decide +kernel⟩
abbrev s_Kind_wait : Stmt := inClass (topS 29) 5
abbrev N_Kind_wait : List Str := ["self"]
theorem sc_Kind_wait : FnScope N_Kind_wait ["self"] (defScope s_Kind_wait) := ⟨rfl, rfl, rfl, by decide +kernel, rfl, by decide +kernel, by decide +kernel⟩
abbrev s_Kind_rows : Stmt := inClass (topS 29) 6
abbrev N_Kind_rows : List Str := ["self"]
theorem sc_Kind_rows : FnScope N_Kind_rows ["self"] (defScope s_Kind_rows) := ⟨rfl, rfl, rfl, by decide +kernel, rfl, by decide +kernel, by decide +kernel⟩
abbrev s_Kind_eq : Stmt := inClass (topS 29) 7
abbrev N_Kind_eq : List Str := ["self", "other"]
theorem sc_Kind_eq : FnScope N_Kind_eq ["self", "other"] (defScope s_Kind_eq) := ⟨rfl, rfl, rfl, by decide +kernel, rfl, by decide +kernel, by decide +kernel⟩
abbrev s_numbers_of : Stmt := topS 30
abbrev N_numbers_of : List Str := ["kinds", "word", "found", "kind", "row", "words"]
theorem sc_numbers_of : FnScope N_numbers_of ["kinds", "word"] (defScope s_numbers_of) := ⟨rfl, rfl, rfl, by decide +kernel, rfl, by decide +kernel, by decide +kernel⟩
abbrev s_period_of : Stmt := topS 31
abbrev N_period_of : List Str := ["kinds", "found", "number"]
theorem sc_period_of : FnScope N_period_of ["kinds"] (defScope s_period_of) := ⟨rfl, rfl, rfl, by decide +kernel, rfl, by decide +kernel, by decide +kernel⟩
abbrev s_check_kinds : Stmt := topS 32
abbrev N_check_kinds : List Str := ["kinds", "at", "kind", "other"]
theorem sc_check_kinds : FnScope N_check_kinds ["kinds"] (defScope s_check_kinds) := ⟨rfl, rfl, rfl, by decide +kernel, rfl, by decide +kernel, by decide +kernel⟩
abbrev s_kind_lines : Stmt := topS 33
abbrev N_kind_lines : List Str := ["kind"]
theorem sc_kind_lines : FnScope N_kind_lines ["kind"] (defScope s_kind_lines) := ⟨rfl, rfl, rfl, by decide +kernel, rfl, by decide +kernel, by decide +kernel⟩
abbrev s_Book_init : Stmt := inClass (topS 34) 1
abbrev N_Book_init : List Str := ["self", "kinds", "kind", "line"]
theorem sc_Book_init : FnScope N_Book_init ["self", "kinds"] (defScope s_Book_init) := ⟨rfl, rfl, rfl, by decide +kernel, rfl, by decide +kernel, by decide +kernel⟩
abbrev s_Book_str : Stmt := inClass (topS 34) 7
abbrev N_Book_str : List Str := ["self"]
theorem sc_Book_str : FnScope N_Book_str ["self"] (defScope s_Book_str) := ⟨rfl, rfl, rfl, by decide +kernel, rfl, by decide +kernel, by decide +kernel⟩
abbrev s_read_kind : Stmt := topS 35
abbrev N_read_kind : List Str := ["lines", "words", "minutes", "at"]
theorem sc_read_kind : FnScope N_read_kind ["lines"] (defScope s_read_kind) := ⟨rfl, rfl, rfl, by decide +kernel, rfl, by decide +kernel, by decide +kernel⟩
abbrev s_read_lines : Stmt := topS 36
abbrev N_read_lines : List Str := ["lines", "parts", "line", "part"]
theorem sc_read_lines : FnScope N_read_lines ["lines"] (defScope s_read_lines) := ⟨rfl, rfl, rfl, by decide +kernel, rfl, by decide +kernel, by decide +kernel⟩
abbrev s_text_book : Stmt := topS 37
abbrev N_text_book : List Str := ["value", "book"]
theorem sc_text_book : FnScope N_text_book ["value"] (defScope s_text_book) := ⟨rfl, rfl, rfl, by decide +kernel, rfl, by decide +kernel, by decide +kernel⟩
abbrev s_Book_read : Stmt := inClass (topS 34) 2
abbrev N_Book_read : List Str := ["cls", "text", "book"]
theorem sc_Book_read : FnScope N_Book_read ["cls", "text"] (defScope s_Book_read) := ⟨rfl, rfl, rfl, by decide +kernel, rfl, by decide +kernel, by decide +kernel⟩
abbrev s_Book_kinds : Stmt := inClass (topS 34) 3
abbrev N_Book_kinds : List Str := ["self"]
theorem sc_Book_kinds : FnScope N_Book_kinds ["self"] (defScope s_Book_kinds) := ⟨rfl, rfl, rfl, by decide +kernel, rfl, by decide +kernel, by decide +kernel⟩
abbrev s_Book_kind_of : Stmt := inClass (topS 34) 4
abbrev N_Book_kind_of : List Str := ["self", "kind", "other"]
theorem sc_Book_kind_of : FnScope N_Book_kind_of ["self", "kind"] (defScope s_Book_kind_of) := ⟨rfl, rfl, rfl, by decide +kernel, rfl, by decide +kernel, by decide +kernel⟩
abbrev s_Book_changed : Stmt := inClass (topS 34) 5
abbrev N_Book_changed : List Str := ["self", "changes"]
theorem sc_Book_changed : FnScope N_Book_changed ["self", "changes"] (defScope s_Book_changed) := ⟨rfl, rfl, rfl, by decide +kernel, rfl, by decide +kernel, by decide +kernel⟩
abbrev s_Book_eq : Stmt := inClass (topS 34) 6
abbrev N_Book_eq : List Str := ["self", "other"]
theorem sc_Book_eq : FnScope N_Book_eq ["self", "other"] (defScope s_Book_eq) := ⟨rfl, rfl, rfl, by decide +kernel, rfl, by decide +kernel, by decide +kernel⟩
abbrev s_Book_repr : Stmt := inClass (topS 34) 8
abbrev N_Book_repr : List Str := ["self"]
theorem sc_Book_repr : FnScope N_Book_repr ["self"] (defScope s_Book_repr) := ⟨rfl, rfl, rfl, by decide +kernel, rfl, by decide +kernel, by decide +kernel⟩
abbrev s_check_book : Stmt := topS 38
abbrev N_check_book : List Str := ["value"]
theorem sc_check_book : FnScope N_check_book ["value"] (defScope s_check_book) := ⟨rfl, rfl, rfl, by decide +kernel, rfl, by decide +kernel, by decide +kernel⟩
abbrev s_does_fit : Stmt := topS 40
abbrev N_does_fit : List Str := ["row", "front", "back", "words", "place"]
theorem sc_does_fit : FnScope N_does_fit ["row", "front", "back"] (defScope s_does_fit) := ⟨rfl, rfl, rfl, by decide +kernel, rfl, by decide +kernel, by decide +kernel⟩
abbrev s_stands : Stmt := topS 41
abbrev N_stands : List Str := ["kind", "front", "back", "row"]
theorem sc_stands : FnScope N_stands ["kind", "front", "back"] (defScope s_stands) := ⟨rfl, rfl, rfl, by decide +kernel, rfl, by decide +kernel, by decide +kernel⟩
abbrev s_check_length : Stmt := topS 42
abbrev N_check_length : List Str := ["value", "most"]
theorem sc_check_length : FnScope N_check_length ["value", "most"] (defScope s_check_length) := ⟨rfl, rfl, rfl, by decide +kernel, rfl, by decide +kernel, by decide +kernel⟩
abbrev s_check_station : Stmt := topS 43
abbrev N_check_station : List Str := ["value", "low", "high"]
theorem sc_check_station : FnScope N_check_station ["value", "low", "high"] (defScope s_check_station) := ⟨rfl, rfl, rfl, by decide +kernel, rfl, by decide +kernel, by decide +kernel⟩
abbrev s_stops_there : Stmt := topS 44
abbrev N_stops_there : List Str := ["kind", "length", "station"]
theorem sc_stops_there : FnScope N_stops_there ["kind", "length", "station"] (defScope s_stops_there) := ⟨rfl, rfl, rfl, by decide +kernel, rfl, by decide +kernel, by decide +kernel⟩
abbrev s_count_stops : Stmt := topS 45
abbrev N_count_stops : List Str := ["kind", "length", "low", "high", "period", "first", "last", "rounds", "rest", "edges", "found", "station", "at"]
theorem sc_count_stops : FnScope N_count_stops ["kind", "length", "low", "high"] (defScope s_count_stops) := ⟨rfl, rfl, rfl, by decide +kernel, rfl, by decide +kernel, by decide +kernel⟩
abbrev s_ride_time : Stmt := topS 47
abbrev N_ride_time : List Str := ["kind", "length", "start", "goal"]
theorem sc_ride_time : FnScope N_ride_time ["kind", "length", "start", "goal"] (defScope s_ride_time) := ⟨rfl, rfl, rfl, by decide +kernel, rfl, by decide +kernel, by decide +kernel⟩
abbrev s_Journey_init : Stmt := inClass (topS 49) 0
abbrev N_Journey_init : List Str := ["self", "book", "length", "start"]
theorem sc_Journey_init : FnScope N_Journey_init ["self", "book", "length", "start"] (defScope s_Journey_init) := ⟨rfl, rfl, rfl, by decide +kernel, rfl, by decide +kernel, by decide +kernel⟩
abbrev s_Journey_station : Stmt := inClass (topS 49) 1
abbrev N_Journey_station : List Str := ["self"]
theorem sc_Journey_station : FnScope N_Journey_station ["self"] (defScope s_Journey_station) := ⟨rfl, rfl, rfl, by decide +kernel, rfl, by decide +kernel, by decide +kernel⟩
abbrev s_Journey_rides : Stmt := inClass (topS 49) 2
abbrev N_Journey_rides : List Str := ["self", "ride", "minutes"]
theorem sc_Journey_rides : FnScope N_Journey_rides ["self"] (defScope s_Journey_rides) := ⟨rfl, rfl, rfl, by decide +kernel, rfl, by decide +kernel, by decide +kernel⟩
abbrev s_Journey_time : Stmt := inClass (topS 49) 3
abbrev N_Journey_time : List Str := ["self", "ride", "minutes"]
theorem sc_Journey_time : FnScope N_Journey_time ["self"] (defScope s_Journey_time) := ⟨rfl, rfl, rfl, by decide +kernel, rfl, by decide +kernel, by decide +kernel⟩
abbrev s_Journey_len : Stmt := inClass (topS 49) 4
abbrev N_Journey_len : List Str := ["self"]
theorem sc_Journey_len : FnScope N_Journey_len ["self"] (defScope s_Journey_len) := ⟨rfl, rfl, rfl, by decide +kernel, rfl, by decide +kernel, by decide +kernel⟩
abbrev s_Journey_bool : Stmt := inClass (topS 49) 5
abbrev N_Journey_bool : List Str := ["self"]
theorem sc_Journey_bool : FnScope N_Journey_bool ["self"] (defScope s_Journey_bool) := ⟨rfl, rfl, rfl, by decide +kernel, rfl, by decide +kernel, by decide +kernel⟩
abbrev s_Journey_take : Stmt := inClass (topS 49) 6
abbrev N_Journey_take : List Str := ["self", "kind", "goal", "found", "here", "station", "minutes"]
theorem sc_Journey_take : FnScope N_Journey_take ["self", "kind", "goal"] (defScope s_Journey_take) := ⟨rfl, rfl, rfl, by decide +kernel, rfl, by decide +kernel, by decide +kernel⟩
abbrev s_Journey_undo : Stmt := inClass (topS 49) 7
abbrev N_Journey_undo : List Str := ["self"]
theorem sc_Journey_undo : FnScope N_Journey_undo ["self"] (defScope s_Journey_undo) := ⟨rfl, rfl, rfl, by decide +kernel, rfl, by decide +kernel, by decide +kernel⟩
abbrev s_Journey_trial : Stmt := inClass (topS 49) 8
abbrev N_Journey_trial : List Str := ["self"]
theorem sc_Journey_trial : FnScope N_Journey_trial ["self"] (defScope s_Journey_trial) := ⟨rfl, rfl, rfl, by decide +kernel, rfl, by decide +kernel, by decide +kernel⟩
abbrev s_Journey_tried : Stmt := inClass (topS 49) 9
abbrev N_Journey_tried : List Str := ["self", "action"]
theorem sc_Journey_tried : FnScope N_Journey_tried ["self", "action"] (defScope s_Journey_tried) := ⟨rfl, rfl, rfl, by decide +kernel, rfl, by decide +kernel, by decide +kernel⟩
abbrev s_law_cell : Stmt := topS 51
abbrev N_law_cell : List Str := ["_law_script", "_law_spot", "_law_state", "_law_cell_here"]
theorem sc_law_cell : FnScope N_law_cell ["_law_script", "_law_spot"] (defScope s_law_cell) := ⟨rfl, rfl, rfl, by decide +kernel, rfl, by decide +kernel, by decide +kernel⟩
abbrev s_law_pool : Stmt := topS 52
abbrev N_law_pool : List Str := ["_law_cell_here"]
theorem sc_law_pool : FnScope N_law_pool ["_law_cell_here"] (defScope s_law_pool) := ⟨rfl, rfl, rfl, by decide +kernel, rfl, by decide +kernel, by decide +kernel⟩
abbrev s_law_draw : Stmt := topS 53
abbrev N_law_draw : List Str := ["_law_pool_here", "_law_many", "_law_digit", "_law_state"]
theorem sc_law_draw : FnScope N_law_draw ["_law_pool_here", "_law_many"] (defScope s_law_draw) := ⟨rfl, rfl, rfl, by decide +kernel, rfl, by decide +kernel, by decide +kernel⟩
abbrev s_law_pick : Stmt := topS 54
abbrev N_law_pick : List Str := ["_law_pool_here", "_law_things_here"]
theorem sc_law_pick : FnScope N_law_pick ["_law_pool_here", "_law_things_here"] (defScope s_law_pick) := ⟨rfl, rfl, rfl, by decide +kernel, rfl, by decide +kernel, by decide +kernel⟩
abbrev s_law_great : Stmt := topS 55
abbrev N_law_great : List Str := ["_law_pool_here", "_law_found", "_law_turn"]
theorem sc_law_great : FnScope N_law_great ["_law_pool_here"] (defScope s_law_great) := ⟨rfl, rfl, rfl, by decide +kernel, rfl, by decide +kernel, by decide +kernel⟩
abbrev s_law_words : Stmt := topS 56
abbrev N_law_words : List Str := []
theorem sc_law_words : FnScope N_law_words [] (defScope s_law_words) := ⟨rfl, rfl, rfl, by decide +kernel, rfl, by decide +kernel, by decide +kernel⟩
abbrev s_law_tag : Stmt := topS 57
abbrev N_law_tag : List Str := ["_law_pool_here", "_law_signs", "_law_many", "_law_turn"]
theorem sc_law_tag : FnScope N_law_tag ["_law_pool_here"] (defScope s_law_tag) := ⟨rfl, rfl, rfl, by decide +kernel, rfl, by decide +kernel, by decide +kernel⟩
abbrev s_law_tags : Stmt := topS 58
abbrev N_law_tags : List Str := ["_law_pool_here", "_law_many", "_law_found", "_law_spare", "_law_turn", "_law_tag_here", "_law_mate"]
theorem sc_law_tags : FnScope N_law_tags ["_law_pool_here", "_law_many"] (defScope s_law_tags) := ⟨rfl, rfl, rfl, by decide +kernel, rfl, by decide +kernel, by decide +kernel⟩
abbrev s_law_mark : Stmt := topS 59
abbrev N_law_mark : List Str := ["_law_pool_here", "_law_span", "_law_word", "_law_way", "_law_many", "_law_side", "_law_part"]
theorem sc_law_mark : FnScope N_law_mark ["_law_pool_here", "_law_span"] (defScope s_law_mark) := ⟨rfl, rfl, rfl, by decide +kernel, rfl, by decide +kernel, by decide +kernel⟩
abbrev s_law_minutes : Stmt := topS 60
abbrev N_law_minutes : List Str := ["_law_pool_here", "_law_limit", "_law_way"]
theorem sc_law_minutes : FnScope N_law_minutes ["_law_pool_here", "_law_limit"] (defScope s_law_minutes) := ⟨rfl, rfl, rfl, by decide +kernel, rfl, by decide +kernel, by decide +kernel⟩
abbrev s_law_kind : Stmt := topS 61
abbrev N_law_kind : List Str := ["_law_pool_here", "_law_tag_here", "_law_span", "_law_speed", "_law_dwell", "_law_delay", "_law_many", "_law_turn"]
theorem sc_law_kind : FnScope N_law_kind ["_law_pool_here", "_law_tag_here", "_law_span"] (defScope s_law_kind) := ⟨rfl, rfl, rfl, by decide +kernel, rfl, by decide +kernel, by decide +kernel⟩
abbrev s_law_scheme : Stmt := topS 62
abbrev N_law_scheme : List Str := ["_law_pool_here", "_law_limit", "_law_span", "_law_tags_here", "_law_tag_here"]
theorem sc_law_scheme : FnScope N_law_scheme ["_law_pool_here", "_law_limit"] (defScope s_law_scheme) := ⟨rfl, rfl, rfl, by decide +kernel, rfl, by decide +kernel, by decide +kernel⟩
abbrev s_law_text : Stmt := topS 63
abbrev N_law_text : List Str := ["_law_scheme_here", "_law_lines", "_law_tag_here", "_law_speed", "_law_dwell", "_law_delay", "_law_marks", "_law_line"]
theorem sc_law_text : FnScope N_law_text ["_law_scheme_here"] (defScope s_law_text) := ⟨rfl, rfl, rfl, by decide +kernel, rfl, by decide +kernel, by decide +kernel⟩
abbrev s_law_things : Stmt := topS 64
abbrev N_law_things : List Str := ["_law_scheme_here", "_law_row"]
theorem sc_law_things : FnScope N_law_things ["_law_scheme_here"] (defScope s_law_things) := ⟨rfl, rfl, rfl, by decide +kernel, rfl, by decide +kernel, by decide +kernel⟩
abbrev s_law_made : Stmt := topS 65
abbrev N_law_made : List Str := ["_law_pool_here", "_law_scheme_here", "_law_way", "_law_things_here"]
theorem sc_law_made : FnScope N_law_made ["_law_pool_here", "_law_scheme_here"] (defScope s_law_made) := ⟨rfl, rfl, rfl, by decide +kernel, rfl, by decide +kernel, by decide +kernel⟩
abbrev s_law_spans : Stmt := topS 66
abbrev N_law_spans : List Str := ["_law_marks", "_law_found", "_law_mark_here", "_law_words_here"]
theorem sc_law_spans : FnScope N_law_spans ["_law_marks"] (defScope s_law_spans) := ⟨rfl, rfl, rfl, by decide +kernel, rfl, by decide +kernel, by decide +kernel⟩
abbrev s_law_common : Stmt := topS 67
abbrev N_law_common : List Str := ["_law_spans_here", "_law_many", "_law_part"]
theorem sc_law_common : FnScope N_law_common ["_law_spans_here"] (defScope s_law_common) := ⟨rfl, rfl, rfl, by decide +kernel, rfl, by decide +kernel, by decide +kernel⟩
abbrev s_law_fits : Stmt := topS 68
abbrev N_law_fits : List Str := ["_law_mark_here", "_law_size", "_law_place", "_law_words_here", "_law_counted", "_law_here_on"]
theorem sc_law_fits : FnScope N_law_fits ["_law_mark_here", "_law_size", "_law_place"] (defScope s_law_fits) := ⟨rfl, rfl, rfl, by decide +kernel, rfl, by decide +kernel, by decide +kernel⟩
abbrev s_law_calls : Stmt := topS 69
abbrev N_law_calls : List Str := ["_law_marks", "_law_size", "_law_place", "_law_found", "_law_mark_here"]
theorem sc_law_calls : FnScope N_law_calls ["_law_marks", "_law_size", "_law_place"] (defScope s_law_calls) := ⟨rfl, rfl, rfl, by decide +kernel, rfl, by decide +kernel, by decide +kernel⟩
abbrev s_law_count : Stmt := topS 70
abbrev N_law_count : List Str := ["_law_marks", "_law_size", "_law_low", "_law_high", "_law_begin", "_law_end", "_law_edges", "_law_found", "_law_span", "_law_rest", "_law_place"]
theorem sc_law_count : FnScope N_law_count ["_law_marks", "_law_size", "_law_low", "_law_high"] (defScope s_law_count) := ⟨rfl, rfl, rfl, by decide +kernel, rfl, by decide +kernel, by decide +kernel⟩
abbrev s_law_ride_time : Stmt := topS 71
abbrev N_law_ride_time : List Str := ["_law_row", "_law_size", "_law_begin", "_law_end"]
theorem sc_law_ride_time : FnScope N_law_ride_time ["_law_row", "_law_size", "_law_begin", "_law_end"] (defScope s_law_ride_time) := ⟨rfl, rfl, rfl, by decide +kernel, rfl, by decide +kernel, by decide +kernel⟩
abbrev s_law_near : Stmt := topS 72
abbrev N_law_near : List Str := ["_law_pool_here", "_law_size", "_law_way", "_law_many"]
theorem sc_law_near : FnScope N_law_near ["_law_pool_here", "_law_size"] (defScope s_law_near) := ⟨rfl, rfl, rfl, by decide +kernel, rfl, by decide +kernel, by decide +kernel⟩
abbrev s_law_stage : Stmt := topS 73
abbrev N_law_stage : List Str := ["_law_pool_here", "_law_limit", "_law_scheme_here", "_law_way", "_law_size"]
theorem sc_law_stage : FnScope N_law_stage ["_law_pool_here", "_law_limit"] (defScope s_law_stage) := ⟨rfl, rfl, rfl, by decide +kernel, rfl, by decide +kernel, by decide +kernel⟩
abbrev s_law_some_ride : Stmt := topS 74
abbrev N_law_some_ride : List Str := ["_law_pool_here", "_law_scheme_here", "_law_size", "_law_here_here", "_law_boards", "_law_row", "_law_way", "_law_jump", "_law_base", "_law_low", "_law_high", "_law_spots", "_law_place"]
theorem sc_law_some_ride : FnScope N_law_some_ride ["_law_pool_here", "_law_scheme_here", "_law_size", "_law_here_here"] (defScope s_law_some_ride) := ⟨rfl, rfl, rfl, by decide +kernel, rfl, by decide +kernel, by decide +kernel⟩
abbrev s_law_journey_seen : Stmt := topS 75
abbrev N_law_journey_seen : List Str := ["_law_thing"]
theorem sc_law_journey_seen : FnScope N_law_journey_seen ["_law_thing"] (defScope s_law_journey_seen) := ⟨rfl, rfl, rfl, by decide +kernel, rfl, by decide +kernel, by decide +kernel⟩
abbrev s_law_journey_due : Stmt := topS 76
abbrev N_law_journey_due : List Str := ["_law_begin", "_law_model", "_law_here_here", "_law_rides_here", "_law_ride", "_law_minutes_here"]
theorem sc_law_journey_due : FnScope N_law_journey_due ["_law_begin", "_law_model"] (defScope s_law_journey_due) := ⟨rfl, rfl, rfl, by decide +kernel, rfl, by decide +kernel, by decide +kernel⟩
abbrev s_law_rode : Stmt := topS 77
abbrev N_law_rode : List Str := ["_law_size", "_law_model", "_law_here_here", "_law_row", "_law_goal_here", "_law_minutes_here"]
theorem sc_law_rode : FnScope N_law_rode ["_law_size", "_law_model", "_law_here_here", "_law_row", "_law_goal_here"] (defScope s_law_rode) := ⟨rfl, rfl, rfl, by decide +kernel, rfl, by decide +kernel, by decide +kernel⟩
abbrev s_law_here : Stmt := topS 78
abbrev N_law_here : List Str := ["_law_begin", "_law_model"]
theorem sc_law_here : FnScope N_law_here ["_law_begin", "_law_model"] (defScope s_law_here) := ⟨rfl, rfl, rfl, by decide +kernel, rfl, by decide +kernel, by decide +kernel⟩
abbrev s_law_right : Stmt := topS 79
abbrev N_law_right : List Str := ["_law_pool_here", "_law_scheme_here", "_law_size", "_law_begin", "_law_mine", "_law_model", "_law_box", "_law_twin", "_law_turn", "_law_found", "_law_here_here", "_law_row", "_law_spot", "_law_due", "_law_tag_here", "_law_told"]
theorem sc_law_right : FnScope N_law_right ["_law_pool_here"] (defScope s_law_right) := ⟨rfl, rfl, rfl, by decide +kernel, rfl, by decide +kernel, by decide +kernel⟩
abbrev s_law : Stmt := topS 80
abbrev N_law : List Str := ["_law_script", "_law_spot"]
theorem sc_law : FnScope N_law ["_law_script"] (defScope s_law) := ⟨rfl, rfl, rfl, by decide +kernel, rfl, by decide +kernel, by decide +kernel⟩
end TS
set_option Elab.async false
set_option linter.all false
set_option maxRecDepth 100000
set_option maxHeartbeats 0
namespace TS
open PySem PySem.Spec PyProof.Rows L2 L3
def fam0 : List He.Fa := [.free "len", .free "range", .free "isinstance", .free "int", .free "str", .free "tuple", .free "list", .free "bool", .free "dict", .free "all", .free "any", .free "enumerate", .free "zip", .free "max", .free "min", .free "sum", .free "abs", .free "divmod", .free "repr", .int "MOST_KINDS" 4, .int "MOST_ROWS" 6, .int "MOST_PERIOD" 6, .str "DIGITS" "0123456789", .str "LETTERS" "abcdefghijklmnopqrstuvwxyz", .glo "Kind", .glo "Book", .glo "Journey", .glo "is_integer", .glo "is_name", .glo "written_integer"]
def fam1 : List He.Fa := [.glo "is_within", .glo "is_where", .glo "is_row", .glo "common_multiple", .glo "numbers_of", .glo "period_of", .glo "check_kinds", .glo "kind_lines", .glo "read_kind", .glo "read_lines", .glo "text_book", .glo "check_book", .glo "does_fit", .glo "stands", .glo "check_length", .glo "check_station", .glo "stops_there", .glo "count_stops", .glo "ride_time", .glo "_law_cell", .glo "_law_pool", .glo "_law_draw", .glo "_law_pick", .glo "_law_great", .glo "_law_words", .glo "_law_tag", .glo "_law_tags", .glo "_law_mark", .glo "_law_minutes", .glo "_law_kind"]
def fam2 : List He.Fa := [.glo "_law_scheme", .glo "_law_text", .glo "_law_things", .glo "_law_made", .glo "_law_spans", .glo "_law_common", .glo "_law_fits", .glo "_law_calls", .glo "_law_count", .glo "_law_ride_time", .glo "_law_near", .glo "_law_stage", .glo "_law_some_ride", .glo "_law_journey_seen", .glo "_law_journey_due", .glo "_law_rode", .glo "_law_here", .glo "_law_right", .glo "law"]
def fam : List He.Fa := fam0 ++ fam1 ++ fam2
def fnm0 : List He5.DefA := [dfA (fun K => He.ga K "is_integer") "is_integer" "is_integer" s_is_integer, dfA (fun K => He.ga K "is_name") "is_name" "is_name" s_is_name, dfA (fun K => He.ga K "written_integer") "written_integer" "written_integer" s_written_integer, dfA (fun K => He.ga K "is_within") "is_within" "is_within" s_is_within, dfA (fun K => He.ga K "is_where") "is_where" "is_where" s_is_where, dfA (fun K => He.ga K "is_row") "is_row" "is_row" s_is_row, dfA (fun K => He.ga K "common_multiple") "common_multiple" "common_multiple" s_common_multiple, dfA (fun K => He.ma K (He.ga K "Kind") "__init__") "__init__" "Kind.__init__" s_Kind_init, dfA (fun K => He5.wf K (He.ga K "Kind") "property" "name") "name" "Kind.name" s_Kind_name, dfA (fun K => He5.wf K (He.ga K "Kind") "property" "pace") "pace" "Kind.pace" s_Kind_pace, dfA (fun K => He5.wf K (He.ga K "Kind") "property" "halt") "halt" "Kind.halt" s_Kind_halt, dfA (fun K => He5.wf K (He.ga K "Kind") "property" "wait") "wait" "Kind.wait" s_Kind_wait, dfA (fun K => He5.wf K (He.ga K "Kind") "property" "rows") "rows" "Kind.rows" s_Kind_rows, dfA (fun K => He.ma K (He.ga K "Kind") "__eq__") "__eq__" "Kind.__eq__" s_Kind_eq, dfA (fun K => He.ga K "numbers_of") "numbers_of" "numbers_of" s_numbers_of, dfA (fun K => He.ga K "period_of") "period_of" "period_of" s_period_of, dfA (fun K => He.ga K "check_kinds") "check_kinds" "check_kinds" s_check_kinds, dfA (fun K => He.ga K "kind_lines") "kind_lines" "kind_lines" s_kind_lines, dfA (fun K => He.ma K (He.ga K "Book") "__init__") "__init__" "Book.__init__" s_Book_init, dfA (fun K => He.ma K (He.ga K "Book") "__str__") "__str__" "Book.__str__" s_Book_str, dfA (fun K => He.ga K "read_kind") "read_kind" "read_kind" s_read_kind, dfA (fun K => He.ga K "read_lines") "read_lines" "read_lines" s_read_lines, dfA (fun K => He.ga K "text_book") "text_book" "text_book" s_text_book, dfA (fun K => He5.wf K (He.ga K "Book") "classmethod" "read") "read" "Book.read" s_Book_read, dfA (fun K => He5.wf K (He.ga K "Book") "property" "kinds") "kinds" "Book.kinds" s_Book_kinds, dfA (fun K => He.ma K (He.ga K "Book") "kind_of") "kind_of" "Book.kind_of" s_Book_kind_of, dfA (fun K => He.ma K (He.ga K "Book") "changed") "changed" "Book.changed" s_Book_changed, dfA (fun K => He.ma K (He.ga K "Book") "__eq__") "__eq__" "Book.__eq__" s_Book_eq, dfA (fun K => He.ma K (He.ga K "Book") "__repr__") "__repr__" "Book.__repr__" s_Book_repr, dfA (fun K => He.ga K "check_book") "check_book" "check_book" s_check_book]
def fnm1 : List He5.DefA := [dfA (fun K => He.ga K "does_fit") "does_fit" "does_fit" s_does_fit, dfA (fun K => He.ga K "stands") "stands" "stands" s_stands, dfN (fun K => He.ga K "check_length") "check_length" "check_length" s_check_length [.non], dfA (fun K => He.ga K "check_station") "check_station" "check_station" s_check_station, dfA (fun K => He.ga K "stops_there") "stops_there" "stops_there" s_stops_there, dfA (fun K => He.ga K "count_stops") "count_stops" "count_stops" s_count_stops, dfA (fun K => He.ga K "ride_time") "ride_time" "ride_time" s_ride_time, dfA (fun K => He.ma K (He.ga K "Journey") "__init__") "__init__" "Journey.__init__" s_Journey_init, dfA (fun K => He5.wf K (He.ga K "Journey") "property" "station") "station" "Journey.station" s_Journey_station, dfA (fun K => He5.wf K (He.ga K "Journey") "property" "rides") "rides" "Journey.rides" s_Journey_rides, dfA (fun K => He5.wf K (He.ga K "Journey") "property" "time") "time" "Journey.time" s_Journey_time, dfA (fun K => He.ma K (He.ga K "Journey") "__len__") "__len__" "Journey.__len__" s_Journey_len, dfA (fun K => He.ma K (He.ga K "Journey") "__bool__") "__bool__" "Journey.__bool__" s_Journey_bool, dfA (fun K => He.ma K (He.ga K "Journey") "take") "take" "Journey.take" s_Journey_take, dfA (fun K => He.ma K (He.ga K "Journey") "undo") "undo" "Journey.undo" s_Journey_undo, dfA (fun K => He.ma K (He.ga K "Journey") "trial") "trial" "Journey.trial" s_Journey_trial, dfA (fun K => He.ma K (He.ga K "Journey") "tried") "tried" "Journey.tried" s_Journey_tried, dfA (fun K => He.ga K "_law_cell") "_law_cell" "_law_cell" s_law_cell, dfA (fun K => He.ga K "_law_pool") "_law_pool" "_law_pool" s_law_pool, dfA (fun K => He.ga K "_law_draw") "_law_draw" "_law_draw" s_law_draw, dfA (fun K => He.ga K "_law_pick") "_law_pick" "_law_pick" s_law_pick, dfA (fun K => He.ga K "_law_great") "_law_great" "_law_great" s_law_great, dfA (fun K => He.ga K "_law_words") "_law_words" "_law_words" s_law_words, dfA (fun K => He.ga K "_law_tag") "_law_tag" "_law_tag" s_law_tag, dfA (fun K => He.ga K "_law_tags") "_law_tags" "_law_tags" s_law_tags, dfA (fun K => He.ga K "_law_mark") "_law_mark" "_law_mark" s_law_mark, dfA (fun K => He.ga K "_law_minutes") "_law_minutes" "_law_minutes" s_law_minutes, dfA (fun K => He.ga K "_law_kind") "_law_kind" "_law_kind" s_law_kind, dfA (fun K => He.ga K "_law_scheme") "_law_scheme" "_law_scheme" s_law_scheme, dfA (fun K => He.ga K "_law_text") "_law_text" "_law_text" s_law_text]
def fnm2 : List He5.DefA := [dfA (fun K => He.ga K "_law_things") "_law_things" "_law_things" s_law_things, dfA (fun K => He.ga K "_law_made") "_law_made" "_law_made" s_law_made, dfA (fun K => He.ga K "_law_spans") "_law_spans" "_law_spans" s_law_spans, dfA (fun K => He.ga K "_law_common") "_law_common" "_law_common" s_law_common, dfA (fun K => He.ga K "_law_fits") "_law_fits" "_law_fits" s_law_fits, dfA (fun K => He.ga K "_law_calls") "_law_calls" "_law_calls" s_law_calls, dfA (fun K => He.ga K "_law_count") "_law_count" "_law_count" s_law_count, dfA (fun K => He.ga K "_law_ride_time") "_law_ride_time" "_law_ride_time" s_law_ride_time, dfA (fun K => He.ga K "_law_near") "_law_near" "_law_near" s_law_near, dfA (fun K => He.ga K "_law_stage") "_law_stage" "_law_stage" s_law_stage, dfA (fun K => He.ga K "_law_some_ride") "_law_some_ride" "_law_some_ride" s_law_some_ride, dfA (fun K => He.ga K "_law_journey_seen") "_law_journey_seen" "_law_journey_seen" s_law_journey_seen, dfA (fun K => He.ga K "_law_journey_due") "_law_journey_due" "_law_journey_due" s_law_journey_due, dfA (fun K => He.ga K "_law_rode") "_law_rode" "_law_rode" s_law_rode, dfA (fun K => He.ga K "_law_here") "_law_here" "_law_here" s_law_here, dfA (fun K => He.ga K "_law_right") "_law_right" "_law_right" s_law_right, dfA (fun K => He.ga K "law") "law" "law" s_law]
def fnm : List He5.DefA := fnm0 ++ fnm1 ++ fnm2
def exl0 (K : PySem.W.Frag) : List Bool := [sysB K, isB K (He.ga K "Kind"), slB K (He.ga K "Kind") "shape" 0, apB K (He.ga K "Kind") (He.ga K "Book"), PySem.W.notFirst K (He.ga K "Kind") (.ref (He.ga K "Book")), eqcB K (He.ga K "Kind"), trcB K (He.ga K "Kind"), PySem.W.notFirst K (He.ga K "Kind") (.ref (He.ga K "Kind")), isB K (He.ga K "Book"), slB K (He.ga K "Book") "lines" 0, slB K (He.ga K "Book") "shape" 1, apB K (He.ga K "Book") (He.ga K "Kind"), PySem.W.notFirst K (He.ga K "Book") (.ref (He.ga K "Kind")), eqcB K (He.ga K "Book"), trcB K (He.ga K "Book"), PySem.W.notFirst K (He.ga K "Book") (.ref (He.ga K "Book")), oclB K (He.ga K "Journey"), eqOB K (He.ga K "Journey"), noaB K (He.ga K "Journey") "past", noaB K (He.ga K "Journey") "book", noaB K (He.ga K "Journey") "length", noaB K (He.ga K "Journey") "start", mkB K (He.ga K "Kind"), prB K (He.ga K "Kind") "name", prB K (He.ga K "Kind") "pace", prB K (He.ga K "Kind") "halt", prB K (He.ga K "Kind") "wait", prB K (He.ga K "Kind") "rows", meB K (He.ga K "Kind") "__eq__", mkB K (He.ga K "Book")]
def exl1 (K : PySem.W.Frag) : List Bool := [meB K (He.ga K "Book") "__str__", cmB K (He.ga K "Book") "read", prB K (He.ga K "Book") "kinds", meB K (He.ga K "Book") "kind_of", meB K (He.ga K "Book") "changed", meB K (He.ga K "Book") "__eq__", meB K (He.ga K "Book") "__repr__", mkB K (He.ga K "Journey"), prB K (He.ga K "Journey") "station", prB K (He.ga K "Journey") "rides", prB K (He.ga K "Journey") "time", meB K (He.ga K "Journey") "__len__", meB K (He.ga K "Journey") "__bool__", meB K (He.ga K "Journey") "take", meB K (He.ga K "Journey") "undo", meB K (He.ga K "Journey") "trial", meB K (He.ga K "Journey") "tried"]
def exl (K : PySem.W.Frag) : List Bool := exl0 K ++ exl1 K
def exm (K : PySem.W.Frag) : Bool := (exl K).all id
def loo0 : List Str := ["_wall", "WrongValue", "InvalidName", "InvalidMinutes", "InvalidText", "InvalidLength", "InvalidStation", "NotBook", "InvalidRows", "InvalidKinds", "WrongName", "UnknownName", "NotPossible", "NoStop", "MOST_KINDS", "MOST_ROWS", "MOST_PERIOD", "DIGITS", "LETTERS", "is_integer", "is_name", "written_integer", "is_within", "is_where", "is_row", "common_multiple", "Kind", "numbers_of", "period_of", "check_kinds"]
def loo1 : List Str := ["kind_lines", "Book", "read_kind", "read_lines", "text_book", "check_book", "does_fit", "stands", "check_length", "check_station", "stops_there", "count_stops", "ride_time", "Journey", "_law_cell", "_law_pool", "_law_draw", "_law_pick", "_law_great", "_law_words", "_law_tag", "_law_tags", "_law_mark", "_law_minutes", "_law_kind", "_law_scheme", "_law_text", "_law_things", "_law_made", "_law_spans"]
def loo2 : List Str := ["_law_common", "_law_fits", "_law_calls", "_law_count", "_law_ride_time", "_law_near", "_law_stage", "_law_some_ride", "_law_journey_seen", "_law_journey_due", "_law_rode", "_law_here", "_law_right"]
def loo : List Str := loo0 ++ loo1 ++ loo2
def adl : List Addr := sysModules :: [3, 6, 4, 21, 31, 51, 70, 89, 108, 127, 146, 165, 184, 196, 216, 228, 248, 257, 262, 267, 274, 281, 288, 295, 361, 371, 378, 383, 390, 460, 469, 474, 481, 488, 495, 502, 510, 517, 524, 529, 536, 615, 626, 633, 640, 647, 654, 661, 666, 671, 676, 683, 688, 693, 700, 705, 712, 719, 724, 731, 738, 743, 750, 757, 764, 769, 776, 781, 788, 795, 802, 807, 0, 20, 30, 50, 69, 88, 107, 126, 145, 164, 183, 195, 215, 227, 247, 256, 261, 266, 273, 280, 287, 294, 360, 370, 377, 382, 389, 459, 468, 473, 480, 487, 494, 501, 509, 503, 516, 523, 528, 535, 614, 625, 632, 639, 646, 653, 660, 665, 670, 675, 682, 687, 692, 699, 704, 711, 718, 723, 730, 737, 742, 749, 756, 763, 768, 775, 780, 787, 794, 801, 806, 15, 16, 17, 18, 19, 29, 32, 48, 49, 67, 68, 86, 87, 105, 106, 124, 125, 143, 144, 162, 163, 181, 182, 194, 197, 213, 214, 226, 229, 245, 246, 251, 252, 253, 254, 255, 258, 259, 260, 263, 264, 265, 268, 269, 270, 271, 272, 275, 276, 277, 278, 279, 282, 283, 284, 285, 286, 289, 290, 291, 292, 293, 303, 310, 318, 326, 334, 342, 350, 357, 358, 362, 365, 366, 367, 368, 369, 372, 373, 374, 375, 376, 379, 380, 381, 384, 385, 386, 387, 388, 398, 403, 412, 421, 428, 435, 442, 449, 456, 457, 461, 462, 465, 466, 467, 470, 471, 472, 475, 476, 477, 478, 479, 482, 483, 484, 485, 486, 489, 490, 491, 492, 493, 496, 497, 498, 499, 500, 504, 505, 506, 507, 508, 511, 512, 513, 514, 515, 518, 519, 520, 521, 522, 525, 526, 527, 530, 531, 532, 533, 534, 550, 558, 564, 570, 577, 584, 591, 598, 605, 612, 613, 616, 617, 620, 621, 622, 623, 624, 627, 628, 629, 630, 631, 634, 635, 636, 637, 638, 641, 642, 643, 644, 645, 648, 649, 650, 651, 652, 655, 656, 657, 658, 659, 662, 663, 664, 667, 668, 669, 672, 673, 674, 677, 678, 679, 680, 681, 684, 685, 686, 689, 690, 691, 694, 695, 696, 697, 698, 701, 702, 703, 706, 707, 708, 709, 710, 713, 714, 715, 716, 717, 720, 721, 722, 725, 726, 727, 728, 729, 732, 733, 734, 735, 736, 739, 740, 741, 744, 745, 746, 747, 748, 751, 752, 753, 754, 755, 758, 759, 760, 761, 762, 765, 766, 767, 770, 771, 772, 773, 774, 777, 778, 779, 782, 783, 784, 785, 786, 789, 790, 791, 792, 793, 796, 797, 798, 799, 800, 803, 804, 805, 47, 66, 85, 104, 123, 142, 161, 180, 212, 244, 309, 317, 325, 333, 341, 349, 356, 402, 410, 411, 420, 427, 434, 441, 448, 455, 549, 557, 563, 569, 576, 583, 590, 597, 604, 611, 42, 43, 44, 45, 46, 61, 62, 63, 64, 65, 80, 81, 82, 83, 84, 99, 100, 101, 102, 103, 118, 119, 120, 121, 122, 137, 138, 139, 140, 141, 156, 157, 158, 159, 160, 175, 176, 177, 178, 179, 207, 208, 209, 210, 211, 239, 240, 241, 242, 243, 304, 305, 306, 307, 308, 316, 324, 332, 340, 348, 351, 352, 353, 354, 355, 399, 400, 401, 409, 413, 419, 422, 423, 424, 425, 426, 429, 430, 431, 432, 433, 436, 437, 438, 439, 440, 443, 444, 445, 446, 447, 450, 451, 452, 453, 454, 544, 545, 546, 547, 548, 556, 562, 568, 571, 572, 573, 574, 575, 578, 579, 580, 581, 582, 585, 586, 587, 588, 589, 592, 593, 594, 595, 596, 599, 600, 601, 602, 603, 606, 607, 608, 609, 610, 2]
abbrev Rr : PySem.W.OpenRow := PySem.W.OpenLaw.row PySem.Challenge.rw_turnstops_k55_journeys_led_ride_by_ride
open He He5 PySem.Calls in
def hookL (as : List Addr) (fa : List Fa) (fn : List DefA) (ex : PySem.W.Frag → Bool) : PySem.W.Hook where
  α := AlD
  obs := fun s => obsM fa fn ex (frG s.heap.get? as)
  val := fun _ => valA fn
  says := fun _ h => ∃ K : PySem.W.Frag, K.In h ∧ SaysM fa fn ex K
  of := fun _ _ e => ⟨_, frG_in, e⟩
  keeps := fun _ _ _ ⟨K, hK, c⟩ k => ⟨K, PySem.W.Frag.In.keeps hK k, c⟩
abbrev hkm : PySem.W.Hook := hookL adl fam fnm exm
open He He5 PySem.Calls in
def obm (s : PySem.W.SharedT) : He.AlD := obsM fam fnm exm (frG (HandSHeadRun.getT s) adl)
open He He5 PySem.Calls in
theorem obm_eq (s : PySem.W.SharedT) : obm s = hkm.obs s.abs := by
  have e : HandSHeadRun.getT s = s.abs.heap.get? := funext (HandSHeadRun.getT_eq s)
  unfold obm
  rw [e]
  rfl
theorem runm (w : World) : HandSHeadRun.RunEq Rr (PySem.W.view Rr.prog [80]) hkm obm 40000 loo w := by
  intro os
  kernel_rfl
end TS
set_option Elab.async false
set_option linter.all false
set_option maxRecDepth 100000
set_option maxHeartbeats 4000000
/-! L3: a layer over L2 whose values are deep: a tuple, a frozen list, a frozen instance is a datum, not an address. -/
namespace L3
open PySem PySem.Spec PyProof.Rows L2

/-! ### data -/
inductive D where
  | non | bl (b : Bool) | int (i : Int) | str (x : Str) | ref (a : Addr) | ty (n : String)
  | tup (ds : List D) | lst (ds : List D) | scr (ds : List D) | ins (C : Addr) (ds : List D) | obj (C : Addr) (fs : List (Str × D)) | dic (kvs : List (Key × D))

mutual
/-- the datum d stands (frozen, in F) as the value v -/
inductive Rep (K : PySem.W.Frag) (F : Hp) : D → V → Prop
  | non : Rep K F .non .non
  | bl (b : Bool) : Rep K F (.bl b) (.bl b)
  | int (i : Int) : Rep K F (.int i) (.int i)
  | str (x : Str) : Rep K F (.str x) (.str x)
  | ref (a : Addr) : Rep K F (.ref a) (.ref a)
  | ty (n : String) : Rep K F (.ty n) (.ty n)
  | tup {a : Addr} {ds : List D} {vs : List V} : SqT K F a vs → RepL K F ds vs → Rep K F (.tup ds) (.ref a)
  | lst {a : Addr} {ds : List D} {vs : List V} : F a = some (.lst vs) → RepL K F ds vs → Rep K F (.lst ds) (.ref a)
  | scr {a : Addr} {ds : List D} {vs : List V} : SqL K F a vs → RepL K F ds vs → Rep K F (.scr ds) (.ref a)
  | ins {a C dx : Addr} {ds : List D} {vs : List V} : F a = some (SlX.SlO a C dx (vs.map some)) → F dx = some (.xd []) → RepL K F ds vs → Rep K F (.ins C ds) (.ref a)
  | obj {a C dx : Addr} {fs : List (Str × D)} {ws : List (Str × V)} : F a = some (.ins C dx ws) → RepF K F fs ws → Rep K F (.obj C fs) (.ref a)
  | dic {a : Addr} {fs : List (Key × D)} {ws : List (Key × V)} : F a = some (.dK ws) → RepK K F fs ws → Rep K F (.dic fs) (.ref a)
inductive RepL (K : PySem.W.Frag) (F : Hp) : List D → List V → Prop
  | nil : RepL K F [] []
  | cons {d : D} {v : V} {ds : List D} {vs : List V} : Rep K F d v → RepL K F ds vs → RepL K F (d :: ds) (v :: vs)
inductive RepF (K : PySem.W.Frag) (F : Hp) : List (Str × D) → List (Str × V) → Prop
  | nil : RepF K F [] []
  | cons {f : Str} {d : D} {v : V} {ds : List (Str × D)} {vs : List (Str × V)} : Rep K F d v → RepF K F ds vs → RepF K F ((f, d) :: ds) ((f, v) :: vs)
inductive RepK (K : PySem.W.Frag) (F : Hp) : List (Key × D) → List (Key × V) → Prop
  | nil : RepK K F [] []
  | cons {f : Key} {d : D} {v : V} {ds : List (Key × D)} {vs : List (Key × V)} : Rep K F d v → RepK K F ds vs → RepK K F ((f, d) :: ds) ((f, v) :: vs)
end

/-- F' knows all that F knows -/
def Le (F F' : Hp) : Prop := ∀ a o, F a = some o → F' a = some o
theorem Le.refl (F : Hp) : Le F F := fun _ _ h => h
theorem Le.trans {F G H : Hp} (a : Le F G) (b : Le G H) : Le F H := fun x o h => b x o (a x o h)
theorem Le.new {F : Hp} {p : Addr} {o : HO} (h : F p = none) : Le F (upd F p o) := fun a u e => by
  rw [upd_ne (ne_of_none e h)]
  exact e
section
variable {K : PySem.W.Frag} {F F' : Hp}
theorem rd_mono {a : Addr} {u : HO} (l : Le F F') (h : Rd F a u) : Rd F' a u := by
  rcases h with h | ⟨o, h⟩
  · exact .inl (l _ _ h)
  · exact .inr ⟨o, l _ _ h⟩
theorem sqL_mono {a : Addr} {xs : List V} (l : Le F F') (h : SqL K F a xs) : SqL K F' a xs := by
  rcases h with h | h
  · exact .inl (rd_mono l h)
  · exact .inr h
theorem sqT_mono {a : Addr} {xs : List V} (l : Le F F') (h : SqT K F a xs) : SqT K F' a xs := by
  rcases h with h | h
  · exact .inl (rd_mono l h)
  · exact .inr h
mutual
theorem Rep.mono (l : Le F F') : ∀ {d : D} {v : V}, Rep K F d v → Rep K F' d v
  | _, _, .non => .non
  | _, _, .bl b => .bl b
  | _, _, .int i => .int i
  | _, _, .str x => .str x
  | _, _, .ref a => .ref a
  | _, _, .ty n => .ty n
  | _, _, .tup h r => .tup (sqT_mono l h) (RepL.mono l r)
  | _, _, .lst h r => .lst (l _ _ h) (RepL.mono l r)
  | _, _, .scr h r => .scr (sqL_mono l h) (RepL.mono l r)
  | _, _, .ins h h2 r => .ins (l _ _ h) (l _ _ h2) (RepL.mono l r)
  | _, _, .obj h r => .obj (l _ _ h) (RepF.mono l r)
  | _, _, .dic h r => .dic (l _ _ h) (RepK.mono l r)
theorem RepL.mono (l : Le F F') : ∀ {d : List D} {v : List V}, RepL K F d v → RepL K F' d v
  | _, _, .nil => .nil
  | _, _, .cons h r => .cons (Rep.mono l h) (RepL.mono l r)
theorem RepF.mono (l : Le F F') : ∀ {d : List (Str × D)} {v : List (Str × V)}, RepF K F d v → RepF K F' d v
  | _, _, .nil => .nil
  | _, _, .cons h r => .cons (Rep.mono l h) (RepF.mono l r)
theorem RepK.mono (l : Le F F') : ∀ {d : List (Key × D)} {v : List (Key × V)}, RepK K F d v → RepK K F' d v
  | _, _, .nil => .nil
  | _, _, .cons h r => .cons (Rep.mono l h) (RepK.mono l r)
end
theorem RepL.length : ∀ {ds : List D} {vs : List V}, RepL K F ds vs → ds.length = vs.length
  | _, _, .nil => rfl
  | _, _, .cons _ r => by rw [List.length_cons, List.length_cons, RepL.length r]
theorem RepL.get : ∀ {ds : List D} {vs : List V} {i : Nat} {d : D}, RepL K F ds vs → ds[i]? = some d → ∃ v, vs[i]? = some v ∧ Rep K F d v
  | _, _, _, _, .nil, e => by simp at e
  | _, _, 0, _, .cons r _, e => by simp at e; subst e; exact ⟨_, rfl, r⟩
  | _, _, i + 1, d, .cons _ t, e => by
    obtain ⟨u, h1, h2⟩ := RepL.get (i := i) (d := d) t (by simpa using e)
    exact ⟨u, by simpa using h1, h2⟩
theorem RepL.append : ∀ {ds es : List D} {vs us : List V}, RepL K F ds vs → RepL K F es us → RepL K F (ds ++ es) (vs ++ us)
  | _, _, _, _, .nil, s => s
  | _, _, _, _, .cons r t, s => .cons r (RepL.append t s)
theorem RepL.one {d : D} {v : V} (h : Rep K F d v) : RepL K F [d] [v] := .cons h .nil
theorem RepL.take : ∀ {ds : List D} {vs : List V} (n : Nat), RepL K F ds vs → RepL K F (ds.take n) (vs.take n)
  | _, _, 0, _ => .nil
  | _, _, _ + 1, .nil => .nil
  | _, _, n + 1, .cons r t => .cons r (RepL.take n t)
theorem RepL.drop : ∀ {ds : List D} {vs : List V} (n : Nat), RepL K F ds vs → RepL K F (ds.drop n) (vs.drop n)
  | _, _, 0, r => r
  | _, _, _ + 1, .nil => .nil
  | _, _, n + 1, .cons _ t => RepL.drop n t
theorem RepL.set {x : D} {u : V} (r : Rep K F x u) : ∀ {ds : List D} {vs : List V} (i : Nat), RepL K F ds vs → RepL K F (ds.set i x) (vs.set i u)
  | _, _, _, .nil => .nil
  | _, _, 0, .cons _ t => .cons r t
  | _, _, i + 1, .cons q t => .cons q (RepL.set r i t)
theorem RepL.reverse {ds : List D} {vs : List V} (h : RepL K F ds vs) : RepL K F ds.reverse vs.reverse := by
  have gen : ∀ {ds : List D} {vs : List V}, RepL K F ds vs → RepL K F ds.reverse vs.reverse := by
    intro ds
    induction ds with
    | nil =>
      intro vs h
      cases h
      exact .nil
    | cons d ds ih =>
      intro vs h
      cases h with
      | cons r t =>
        rw [List.reverse_cons, List.reverse_cons]
        exact (ih t).append (.one r)
  exact gen h
end

/-! ### mutable things -/
inductive DO where
  /-- a list that is being filled -/
  | lst (ds : List D)
  /-- a list of which something is known -/
  | lsts (f : List D → Prop)
  | dic (kvs : List (Key × D))
  | dit (kvs : List (List Key × D))
  /-- an instance (its dict dx) -/
  | obj (C dx : Addr) (fs : List (Str × D))
  /-- an instance with slots, some filled -/
  | sl (C dx : Addr) (os : List (Option D))
abbrev Gp := Addr → Option DO
inductive RepT (K : PySem.W.Frag) (F : Hp) : List (List Key × D) → List (List Key × V) → Prop
  | nil : RepT K F [] []
  | cons {f : List Key} {d : D} {v : V} {ds : List (List Key × D)} {vs : List (List Key × V)} : Rep K F d v → RepT K F ds vs → RepT K F ((f, d) :: ds) ((f, v) :: vs)
theorem RepT.mono {K : PySem.W.Frag} {F F' : Hp} (l : Le F F') : ∀ {d : List (List Key × D)} {v : List (List Key × V)}, RepT K F d v → RepT K F' d v
  | _, _, .nil => .nil
  | _, _, .cons h r => .cons (h.mono l) (RepT.mono l r)
/-- the dict of an instance with slots may be frozen, empty -/
def XdOk (F : Hp) (dx : Addr) : Prop := ∀ o, F dx = some o → o = .xd []
theorem XdOk.upd {F : Hp} {dx p : Addr} {o : HO} (h : XdOk F dx) (n : dx ≠ p) : XdOk (upd F p o) dx := fun u e => h u (by rwa [upd_ne n] at e)
abbrev St3 := List (Option D)
structure RepS (K : PySem.W.Frag) (F : Hp) (sd : St3) (σ : L2.St) : Prop where
  len : sd.length = σ.length
  at_ : ∀ (i : Nat) (d : D), sd[i]? = some (some d) → ∃ v, σ[i]? = some (some v) ∧ Rep K F d v
theorem RepS.mono0 {K : PySem.W.Frag} {F F' : Hp} {sd : St3} {σ : L2.St} (l : Le F F') (r : RepS K F sd σ) : RepS K F' sd σ := ⟨r.len, fun i d e => let ⟨v, h, q⟩ := r.at_ i d e; ⟨v, h, q.mono l⟩⟩
def RepO (K : PySem.W.Frag) (F H : Hp) (p : Addr) : DO → Prop
  | .lst ds => ∃ vs, H p = some (.lst vs) ∧ RepL K F ds vs
  | .lsts f => ∃ ds vs, f ds ∧ H p = some (.lst vs) ∧ RepL K F ds vs
  | .dic kvs => ∃ ws, H p = some (.dK ws) ∧ RepK K F kvs ws
  | .dit kvs => ∃ ws, H p = some (.dT ws) ∧ RepT K F kvs ws
  | .obj C dx fs => ∃ ws, H p = some (.ins C dx ws) ∧ RepF K F fs ws
  | .sl C dx os => XdOk F dx ∧ dx ≠ p ∧ ∃ ws : L2.St, RepS K F os ws ∧ ((os = [] ∧ H p = some (.ins C dx []) ∧ H dx = some (.own p)) ∨ (H p = some (SlX.SlO p C dx ws) ∧ H dx = some (.xd [])))
/-- the data's heap: F frozen, G mutable, over H -/
structure Cp (K : PySem.W.Frag) (F : Hp) (G : Gp) (H : Hp) : Prop where
  frz : ∀ a o, F a = some o → H a = some o
  own : ∀ p o, G p = some o → F p = none ∧ RepO K F H p o
def gupd (G : Gp) (a : Addr) (o : DO) : Gp := fun b => if b = a then some o else G b
theorem gupd_same {G : Gp} {a : Addr} {o : DO} : gupd G a o a = some o := by unfold gupd; rw [if_pos rfl]
theorem gupd_ne {G : Gp} {a b : Addr} {o : DO} (h : b ≠ a) : gupd G a o b = G b := by unfold gupd; rw [if_neg h]
theorem gupd_gupd {G : Gp} {a : Addr} {o u : DO} : gupd (gupd G a o) a u = gupd G a u := by
  funext b; unfold gupd; split <;> rfl

section
variable {K : PySem.W.Frag} {F F' H H' : Hp} {G : Gp} {sd : St3} {σ : L2.St}
theorem RepS.mono (l : Le F F') (r : RepS K F sd σ) : RepS K F' sd σ := ⟨r.len, fun i d e => let ⟨v, h, q⟩ := r.at_ i d e; ⟨v, h, q.mono l⟩⟩
theorem RepS.set {d : D} {v : V} (r : RepS K F sd σ) (i : Nat) (h : Rep K F d v) : RepS K F (sd.set i (some d)) (σ.set i (some v)) := by
  refine ⟨by rw [List.length_set, List.length_set, r.len], fun j e q => ?_⟩
  by_cases hj : j = i
  · subst hj
    have hl : j < sd.length := by
      have z := (List.getElem?_eq_some_iff.mp q).1
      rwa [List.length_set] at z
    rw [List.getElem?_set_self hl] at q
    cases q
    exact ⟨v, by rw [List.getElem?_set_self (by rw [← r.len]; exact hl)], h⟩
  · rw [List.getElem?_set_ne (Ne.symm hj)] at q
    rw [List.getElem?_set_ne (Ne.symm hj)]
    exact r.at_ j e q
theorem RepS.forget (r : RepS K F sd σ) (i : Nat) (o : Option V) : RepS K F (sd.set i none) (σ.set i o) := by
  refine ⟨by rw [List.length_set, List.length_set, r.len], fun j e q => ?_⟩
  by_cases hj : j = i
  · subst hj
    have hl : j < sd.length := by
      have z := (List.getElem?_eq_some_iff.mp q).1
      rwa [List.length_set] at z
    rw [List.getElem?_set_self hl] at q
    cases q
  · rw [List.getElem?_set_ne (Ne.symm hj)] at q
    rw [List.getElem?_set_ne (Ne.symm hj)]
    exact r.at_ j e q
theorem Cp.free {p : Addr} (c : Cp K F G H) (h : H p = none) : F p = none ∧ G p = none := by
  constructor
  · cases e : F p with
    | none => rfl
    | some o => rw [c.frz p o e] at h; cases h
  · cases e : G p with
    | none => rfl
    | some o =>
      obtain ⟨_, q⟩ := c.own p o e
      cases o with
      | lst ds => obtain ⟨vs, z, _⟩ := q; rw [h] at z; cases z
      | lsts f => obtain ⟨ds, vs, _, z, _⟩ := q; rw [h] at z; cases z
      | dic kvs => obtain ⟨ws, z, _⟩ := q; rw [h] at z; cases z
      | dit kvs => obtain ⟨ws, z, _⟩ := q; rw [h] at z; cases z
      | obj C dx fs => obtain ⟨ws, z, _⟩ := q; rw [h] at z; cases z
      | sl C dx ds =>
        obtain ⟨_, _, vs, _, z | z⟩ := q
        · rw [h] at z; exact nomatch z.2.1
        · rw [h] at z; exact nomatch z.1
/-- what a mutable thing leans on besides its own place -/
theorem RepO.keep {p : Addr} {o : DO} (q : RepO K F H p o) (l : Le F F') (hp : H' p = H p) (hd : ∀ C dx ds, o = .sl C dx ds → H' dx = H dx ∧ XdOk F' dx) : RepO K F' H' p o := by
  cases o with
  | lst ds => obtain ⟨vs, z, r⟩ := q; exact ⟨vs, hp.trans z, r.mono l⟩
  | lsts f => obtain ⟨ds, vs, hf, z, r⟩ := q; exact ⟨ds, vs, hf, hp.trans z, r.mono l⟩
  | dic kvs => obtain ⟨ws, z, r⟩ := q; exact ⟨ws, hp.trans z, r.mono l⟩
  | dit kvs => obtain ⟨ws, z, r⟩ := q; exact ⟨ws, hp.trans z, r.mono l⟩
  | obj C dx fs => obtain ⟨ws, z, r⟩ := q; exact ⟨ws, hp.trans z, r.mono l⟩
  | sl C dx ds =>
    obtain ⟨h1, h2, vs, r, z⟩ := q
    obtain ⟨e1, e2⟩ := hd C dx ds rfl
    refine ⟨e2, h2, vs, r.mono0 l, ?_⟩
    rcases z with ⟨z1, z2, z3⟩ | ⟨z1, z2⟩
    · exact .inl ⟨z1, hp.trans z2, e1.trans z3⟩
    · exact .inr ⟨hp.trans z1, e1.trans z2⟩
/-- a new thing is laid and frozen -/
theorem Cp.newF {p : Addr} {o : HO} (c : Cp K F G H) (h : H p = none) : Cp K (upd F p o) G (upd H p o) ∧ Le F (upd F p o) := by
  obtain ⟨hF, hG⟩ := c.free h
  refine ⟨⟨fun a u e => ?_, fun q u e => ?_⟩, Le.new hF⟩
  · by_cases ha : a = p
    · subst ha; rw [upd_same] at e ⊢; exact e
    · rw [upd_ne ha] at e ⊢; exact c.frz a u e
  · have hq : q ≠ p := fun z => by rw [z, hG] at e; cases e
    obtain ⟨f, r⟩ := c.own q u e
    refine ⟨by rw [upd_ne hq]; exact f, r.keep (Le.new hF) (upd_ne hq) fun C dx ds eo => ?_⟩
    subst eo
    obtain ⟨h1, _, vs, _, z⟩ := r
    have hdx : dx ≠ p := by
      rintro rfl
      rcases z with ⟨_, _, z⟩ | ⟨_, z⟩ <;> · rw [h] at z; cases z
    exact ⟨upd_ne hdx, h1.upd hdx⟩
/-- a new list is laid, to be filled -/
theorem Cp.newG {p : Addr} {ds : List D} {vs : List V} (c : Cp K F G H) (h : H p = none) (r : RepL K F ds vs) : Cp K F (gupd G p (.lst ds)) (upd H p (.lst vs)) := by
  obtain ⟨hF, hG⟩ := c.free h
  refine ⟨fun a u e => ?_, fun q u e => ?_⟩
  · rw [upd_ne (ne_of_none e hF)]
    exact c.frz a u e
  · by_cases hq : q = p
    · subst hq
      rw [gupd_same] at e
      cases e
      exact ⟨hF, vs, upd_same, r⟩
    · rw [gupd_ne hq] at e
      obtain ⟨f, r2⟩ := c.own q u e
      refine ⟨f, r2.keep (Le.refl _) (upd_ne hq) fun C dx ds eo => ?_⟩
      subst eo
      obtain ⟨h1, _, vs, _, z⟩ := r2
      have hdx : dx ≠ p := by
        rintro rfl
        rcases z with ⟨_, _, z⟩ | ⟨_, z⟩ <;> · rw [h] at z; cases z
      exact ⟨upd_ne hdx, h1⟩
/-- a mutable thing is changed; ho: what stands there is none that the others lean on -/
theorem Cp.put {p : Addr} {o : HO} {u : DO} (c : Cp K F G H) (hF : F p = none) (hn : ∀ x, H p ≠ some (.own x)) (hx : H p ≠ some (.xd [])) (hs : ∀ C dx ds, u ≠ .sl C dx ds) (r : RepO K F (upd H p o) p u) : Cp K F (gupd G p u) (upd H p o) := by
  refine ⟨fun a z e => ?_, fun q z e => ?_⟩
  · rw [upd_ne (ne_of_none e hF)]
    exact c.frz a z e
  · by_cases hq : q = p
    · subst hq
      rw [gupd_same] at e
      cases e
      exact ⟨hF, r⟩
    · rw [gupd_ne hq] at e
      obtain ⟨f, r2⟩ := c.own q z e
      refine ⟨f, r2.keep (Le.refl _) (upd_ne hq) fun C dx ds eo => ?_⟩
      subst eo
      obtain ⟨h1, _, vs, _, zz⟩ := r2
      have hdx : dx ≠ p := by
        rintro rfl
        rcases zz with ⟨_, _, y⟩ | ⟨_, y⟩
        · exact hn _ y
        · exact hx y
      exact ⟨upd_ne hdx, h1⟩
/-- what is mutable may be forgotten, or known less -/
inductive Im : DO → DO → Prop
  | refl (o : DO) : Im o o
  | cl {ds : List D} {f : List D → Prop} (h : f ds) : Im (.lst ds) (.lsts f)
  | wk {f g : List D → Prop} (h : ∀ ds, f ds → g ds) : Im (.lsts f) (.lsts g)
def Sub (G G' : Gp) : Prop := ∀ p o, G p = some o → ∃ o', G' p = some o' ∧ Im o' o
theorem Sub.refl (G : Gp) : Sub G G := fun _ o h => ⟨o, h, Im.refl o⟩
theorem Im.trans {a b c : DO} (h : Im a b) (h' : Im b c) : Im a c := by
  cases h with
  | refl => exact h'
  | cl h =>
    cases h' with
    | refl => exact .cl h
    | wk g => exact .cl (g _ h)
  | wk h =>
    cases h' with
    | refl => exact .wk h
    | wk g => exact .wk fun ds z => g _ (h _ z)
theorem Sub.trans {A B C : Gp} (x : Sub A B) (y : Sub B C) : Sub A C := fun p o h => by
  obtain ⟨o1, e1, i1⟩ := x p o h
  obtain ⟨o2, e2, i2⟩ := y p o1 e1
  exact ⟨o2, e2, i2.trans i1⟩
theorem Sub.new {G : Gp} {p : Addr} {o : DO} (h : G p = none) : Sub G (gupd G p o) := fun q u e => by
  have hq : q ≠ p := fun z => by rw [z, h] at e; cases e
  exact ⟨u, by rw [gupd_ne hq]; exact e, Im.refl u⟩
/-- a fresh thing changed further -/
theorem Sub.put {G G' : Gp} {p : Addr} {o : DO} (s : Sub G G') (h : G p = none) : Sub G (gupd G' p o) := fun q u e => by
  have hq : q ≠ p := fun z => by rw [z, h] at e; cases e
  obtain ⟨o', e', i⟩ := s q u e
  exact ⟨o', by rw [gupd_ne hq]; exact e', i⟩
/-- a thing of which less is known is closed again -/
theorem Sub.close {G G' : Gp} {p : Addr} {o u : DO} (s : Sub G G') (h : G p = some u) (i : Im o u) : Sub G (gupd G' p o) := fun q z e => by
  by_cases hq : q = p
  · subst hq
    rw [h] at e
    cases e
    exact ⟨o, gupd_same, i⟩
  · obtain ⟨o', e', i'⟩ := s q z e
    exact ⟨o', by rw [gupd_ne hq]; exact e', i'⟩
theorem RepO.im {p : Addr} {o u : DO} (q : RepO K F H p o) (i : Im o u) : RepO K F H p u := by
  cases i with
  | refl => exact q
  | cl h =>
    obtain ⟨vs, z, r⟩ := q
    exact ⟨_, vs, h, z, r⟩
  | wk h =>
    obtain ⟨ds, vs, hf, z, r⟩ := q
    exact ⟨ds, vs, h ds hf, z, r⟩
theorem Cp.sub {G' : Gp} (c : Cp K F G' H) (s : Sub G G') : Cp K F G H := ⟨c.frz, fun p o e => by
  obtain ⟨o', e', i⟩ := s p o e
  obtain ⟨f, r⟩ := c.own p o' e'
  exact ⟨f, r.im i⟩⟩
/-- a list that was being filled is frozen -/
theorem Cp.freeze {p : Addr} {ds : List D} (c : Cp K F G H) (h : G p = some (.lst ds)) : ∃ F', Le F F' ∧ Cp K F' (fun q => if q = p then none else G q) H ∧ Rep K F' (.lst ds) (.ref p) := by
  obtain ⟨hF, vs, hp, r⟩ := c.own p _ h
  refine ⟨upd F p (.lst vs), Le.new hF, ⟨fun a o e => ?_, fun q o e => ?_⟩, (.lst upd_same (r.mono (Le.new hF)))⟩
  · by_cases ha : a = p
    · subst ha; rw [upd_same] at e; cases e; exact hp
    · rw [upd_ne ha] at e; exact c.frz a o e
  · by_cases hq : q = p
    · subst hq
      rw [if_pos rfl] at e
      cases e
    · rw [if_neg hq] at e
      obtain ⟨f, r2⟩ := c.own q o e
      refine ⟨by rw [upd_ne hq]; exact f, r2.keep (Le.new hF) rfl fun C dx ds eo => ?_⟩
      subst eo
      obtain ⟨h1, _, vs', _, z⟩ := r2
      have hdx : dx ≠ p := by
        rintro rfl
        rcases z with ⟨_, _, z⟩ | ⟨_, z⟩ <;> · rw [hp] at z; cases z
      exact ⟨rfl, h1.upd hdx⟩
end

/-! ### readings over data -/
abbrev DK := D → Gp → Prop
abbrev TE3 := St3 → Gp → DK → Prop
abbrev TT3 := St3 → Gp → (Bool → Gp → Prop) → Prop
abbrev TA3 := St3 → Gp → (List D → Gp → Prop) → Prop
structure Ends3 where
  nx : St3 → Gp → Prop
  rt : DK
  bk : St3 → Gp → Prop := fun _ _ => False
  ct : St3 → Gp → Prop := fun _ _ => False
abbrev TS3 := Ends3 → St3 → Gp → Prop
/-- an exception: its class, its fields -/
abbrev EK := Addr → List (Str × D) → Gp → Prop
abbrev WK := Addr → List (Str × D) → St3 → Gp → Prop
abbrev Sp3 := List D → Gp → DK → EK → Prop

/-- what is neither mutable nor frozen stays as it was -/
structure Ext (K : PySem.W.Frag) (F : Hp) (G : Gp) (H : Hp) (F' : Hp) (G' : Gp) (H' : Hp) : Prop where
  le : Le F F'
  st : ∀ a o, H a = some o → G a = none → F a = none → (∀ x, o ≠ .own x) → H' a = some o ∧ G' a = none ∧ F' a = none
  cp : Cp K F' G' H'
theorem Ext.refl {K : PySem.W.Frag} {F H : Hp} {G : Gp} (c : Cp K F G H) : Ext K F G H F G H := ⟨Le.refl _, fun _ _ h g f _ => ⟨h, g, f⟩, c⟩
theorem Ext.trans {K : PySem.W.Frag} {F H F1 H1 F2 H2 : Hp} {G G1 G2 : Gp} (x : Ext K F G H F1 G1 H1) (y : Ext K F1 G1 H1 F2 G2 H2) : Ext K F G H F2 G2 H2 :=
  ⟨x.le.trans y.le, fun a o h g f n => let ⟨h1, g1, f1⟩ := x.st a o h g f n; y.st a o h1 g1 f1 n, y.cp⟩
/-- a new frozen thing -/
theorem Ext.newF {K : PySem.W.Frag} {F H : Hp} {G : Gp} (c : Cp K F G H) {p : Addr} (o : HO) (h : H p = none) : Ext K F G H (upd F p o) G (upd H p o) :=
  ⟨(c.newF (o := o) h).2, fun a u e g f _ => ⟨by rw [upd_ne (ne_of_none e h)]; exact e, g, by rw [upd_ne (ne_of_none e h)]; exact f⟩, (c.newF h).1⟩
theorem Ext.newG {K : PySem.W.Frag} {F H : Hp} {G : Gp} (c : Cp K F G H) {p : Addr} {ds : List D} {vs : List V} (h : H p = none) (r : RepL K F ds vs) : Ext K F G H F (gupd G p (.lst ds)) (upd H p (.lst vs)) :=
  ⟨Le.refl _, fun a u e g f _ => ⟨by rw [upd_ne (ne_of_none e h)]; exact e, by rw [gupd_ne (ne_of_none e h)]; exact g, f⟩, c.newG h r⟩
theorem Ext.put {K : PySem.W.Frag} {F H : Hp} {G : Gp} (c : Cp K F G H) {p : Addr} {o : HO} {u z : DO} (hG : G p = some z) (hn : ∀ x, H p ≠ some (.own x)) (hx : H p ≠ some (.xd [])) (hs : ∀ C dx ds, u ≠ .sl C dx ds) (r : RepO K F (upd H p o) p u) : Ext K F G H F (gupd G p u) (upd H p o) :=
  ⟨Le.refl _, fun a w e g f _ => by
    have ha : a ≠ p := fun q => by rw [q, hG] at g; cases g
    exact ⟨by rw [upd_ne ha]; exact e, by rw [gupd_ne ha]; exact g, f⟩, c.put (c.own p z hG).1 hn hx hs r⟩
theorem Sub.none {G G' : Gp} (s : Sub G G') {a : Addr} (h : G' a = none) : G a = none := by
  cases e : G a with
  | none => rfl
  | some o =>
    obtain ⟨o', e', _⟩ := s a o e
    rw [h] at e'
    cases e'
/-- less is known -/
theorem Ext.sub {K : PySem.W.Frag} {F H : Hp} {G G' : Gp} (c : Cp K F G' H) (s : Sub G G') : Ext K F G' H F G H := ⟨Le.refl _, fun _ _ h g f _ => ⟨h, s.none g, f⟩, c.sub s⟩
/-- a thing that neither F nor G know is changed -/
theorem Cp.loose {K : PySem.W.Frag} {F H : Hp} {G : Gp} (c : Cp K F G H) {p : Addr} {o : HO} (hF : F p = none) (hG : G p = none) (hn : ∀ x, H p ≠ some (.own x)) (hx : H p ≠ some (.xd [])) : Cp K F G (upd H p o) := by
  refine ⟨fun a u e => ?_, fun q u e => ?_⟩
  · rw [upd_ne (ne_of_none e hF)]
    exact c.frz a u e
  · have hq : q ≠ p := fun z => by rw [z, hG] at e; cases e
    obtain ⟨f, r2⟩ := c.own q u e
    refine ⟨f, r2.keep (Le.refl _) (upd_ne hq) fun C dx ds eo => ?_⟩
    subst eo
    obtain ⟨h1, _, vs, _, zz⟩ := r2
    have hdx : dx ≠ p := by
      rintro rfl
      rcases zz with ⟨_, _, y⟩ | ⟨_, y⟩
      · exact hn _ y
      · exact hx y
    exact ⟨upd_ne hdx, h1⟩
theorem Ext.loose {K : PySem.W.Frag} {F H F' H' : Hp} {G G' : Gp} (x : Ext K F G H F' G' H') {p : Addr} {o : HO} (h : H p = none) (hF : F' p = none) (hG : G' p = none) (hn : ∀ x, H' p ≠ some (.own x)) (hx : H' p ≠ some (.xd [])) : Ext K F G H F' G' (upd H' p o) :=
  ⟨x.le, fun a u e g f n => by
    obtain ⟨h1, g1, f1⟩ := x.st a u e g f n
    exact ⟨by rw [upd_ne (ne_of_none e h)]; exact h1, g1, f1⟩, x.cp.loose hF hG hn hx⟩
theorem Ext.fix {K : PySem.W.Frag} {F H F' H' : Hp} {G G' : Gp} (x : Ext K F G H F' G' H') {p : Addr} {vs : List V} (h : H p = none) (hF : F' p = none) (hG : G' p = none) (hp : H' p = some (.lst vs)) : Ext K F G H (upd F' p (.lst vs)) G' H' :=
  ⟨x.le.trans (Le.new hF), fun a u e g f n => by
    obtain ⟨h1, g1, f1⟩ := x.st a u e g f n
    exact ⟨h1, g1, by rw [upd_ne (ne_of_none e h)]; exact f1⟩, ⟨fun a u e => by
      by_cases ha : a = p
      · subst ha; rw [upd_same] at e; cases e; exact hp
      · rw [upd_ne ha] at e; exact x.cp.frz a u e, fun q u e => by
      have hq : q ≠ p := fun z => by rw [z, hG] at e; cases e
      obtain ⟨f, r2⟩ := x.cp.own q u e
      refine ⟨by rw [upd_ne hq]; exact f, r2.keep (Le.new hF) rfl fun C dx ds eo => ?_⟩
      subst eo
      obtain ⟨h1, _, vs', _, z⟩ := r2
      have hdx : dx ≠ p := by
        rintro rfl
        rcases z with ⟨_, _, z⟩ | ⟨_, z⟩ <;> · rw [hp] at z; cases z
      exact ⟨rfl, h1.upd hdx⟩⟩⟩
/-- where a body began -/
structure Pt where
  F : Hp
  G : Gp
  H : Hp
/-- where one stands -/
structure At (K : PySem.W.Frag) (o : Pt) (F : Hp) (sd : St3) (G : Gp) (σ : L2.St) (H : Hp) : Prop where
  ext : Ext K o.F o.G o.H F G H
  rs : RepS K F sd σ
theorem At.cp {K : PySem.W.Frag} {o : Pt} {F : Hp} {sd : St3} {G : Gp} {σ : L2.St} {H : Hp} (a : At K o F sd G σ H) : Cp K F G H := a.ext.cp
def QR (K : PySem.W.Frag) (F : Hp) (G : Gp) (H : Hp) (Q3 : DK) (Q : VK) : Prop := ∀ d v F' G' H', Ext K F G H F' G' H' → Rep K F' d v → Q3 d G' → Q v H'
def QB (K : PySem.W.Frag) (F : Hp) (G : Gp) (H : Hp) (Q3 : Bool → Gp → Prop) (Q : Bool → Hp → Prop) : Prop := ∀ b F' G' H', Ext K F G H F' G' H' → Q3 b G' → Q b H'
def QA (K : PySem.W.Frag) (F : Hp) (G : Gp) (H : Hp) (Q3 : List D → Gp → Prop) (Q : List V → Hp → Prop) : Prop := ∀ ds vs F' G' H', Ext K F G H F' G' H' → RepL K F' ds vs → Q3 ds G' → Q vs H'
def QS (K : PySem.W.Frag) (F : Hp) (G : Gp) (H : Hp) (Q3 : St3 → Gp → Prop) (Q : L2.St → Hp → Prop) : Prop := ∀ sd' σ' F' G' H', Ext K F G H F' G' H' → RepS K F' sd' σ' → Q3 sd' G' → Q σ' H'
section
variable {K : PySem.W.Frag} {F F1 H H1 : Hp} {G G1 : Gp}
theorem QR.mono {Q3 : DK} {Q : VK} (q : QR K F G H Q3 Q) (l : Ext K F G H F1 G1 H1) : QR K F1 G1 H1 Q3 Q := fun d v F' G' H' l' => q d v F' G' H' (l.trans l')
theorem QB.mono {Q3 : Bool → Gp → Prop} {Q : Bool → Hp → Prop} (q : QB K F G H Q3 Q) (l : Ext K F G H F1 G1 H1) : QB K F1 G1 H1 Q3 Q := fun d F' G' H' l' => q d F' G' H' (l.trans l')
theorem QA.mono {Q3 : List D → Gp → Prop} {Q : List V → Hp → Prop} (q : QA K F G H Q3 Q) (l : Ext K F G H F1 G1 H1) : QA K F1 G1 H1 Q3 Q := fun d v F' G' H' l' => q d v F' G' H' (l.trans l')
theorem QS.mono {Q3 : St3 → Gp → Prop} {Q : L2.St → Hp → Prop} (q : QS K F G H Q3 Q) (l : Ext K F G H F1 G1 H1) : QS K F1 G1 H1 Q3 Q := fun d v F' G' H' l' => q d v F' G' H' (l.trans l')
structure QE (K : PySem.W.Frag) (F : Hp) (G : Gp) (H : Hp) (D3 : Ends3) (D : Ends) : Prop where
  nx : QS K F G H D3.nx D.nx
  rt : QR K F G H D3.rt D.rt
  bk : QS K F G H D3.bk D.bk
  ct : QS K F G H D3.ct D.ct
theorem QE.mono {D3 : Ends3} {D : Ends} (q : QE K F G H D3 D) (l : Ext K F G H F1 G1 H1) : QE K F1 G1 H1 D3 D := ⟨q.nx.mono l, q.rt.mono l, q.bk.mono l, q.ct.mono l⟩
theorem At.step {F0 : Pt} {sd : St3} {σ : L2.St} (a : At K F0 F sd G σ H) (l : Ext K F G H F1 G1 H1) : At K F0 F1 sd G1 σ H1 := ⟨a.ext.trans l, a.rs.mono l.le⟩
end

def low (K : PySem.W.Frag) (F0 : Pt) (t : TE3) : TE := fun σ H Q => ∃ sd F G Q3, At K F0 F sd G σ H ∧ t sd G Q3 ∧ QR K F G H Q3 Q
def lowT (K : PySem.W.Frag) (F0 : Pt) (t : TT3) : TT := fun σ H Q => ∃ sd F G Q3, At K F0 F sd G σ H ∧ t sd G Q3 ∧ QB K F G H Q3 Q
def lowA (K : PySem.W.Frag) (F0 : Pt) (t : TA3) : TA := fun σ H Q => ∃ sd F G Q3, At K F0 F sd G σ H ∧ t sd G Q3 ∧ QA K F G H Q3 Q
def lowS (K : PySem.W.Frag) (F0 : Pt) (t : TS3) : TS := fun D σ H => ∃ sd F G D3, At K F0 F sd G σ H ∧ t D3 sd G ∧ QE K F G H D3 D
/-- an exception's fields, in its dict -/
def XR (K : PySem.W.Frag) (F H : Hp) (d : Option Addr) (fs : List (Str × D)) : Prop := (fs = [] ∧ d = none) ∨ ∃ dd ws, d = some dd ∧ F dd = some (.xd ws) ∧ RepF K F fs ws
def lowW (K : PySem.W.Frag) (F0 : Pt) (W : WK) : WX := fun cls d σ H => ∃ sd F G C fs, At K F0 F sd G σ H ∧ cls = .ref C ∧ XR K F H d fs ∧ W C fs sd G

def DE (X : Cx) (F0 : Pt) (e : Expr) (t : TE3) : Prop := PE X e (low X.K F0 t)
def DT (X : Cx) (F0 : Pt) (e : Expr) (t : TT3) : Prop := PT X e (lowT X.K F0 t)
def DW (X : Cx) (F0 : Pt) (e : Expr) (t : TT3) : Prop := PW X e (lowT X.K F0 t)
def DA (X : Cx) (F0 : Pt) (es : List Expr) (t : TA3) : Prop := PA X es (lowA X.K F0 t)
def DS (X : Cx) (F0 : Pt) (st : Stmt) (t : TS3) : Prop := PS X st (lowS X.K F0 t)
def DSs (X : Cx) (F0 : Pt) (st : List Stmt) (t : TS3) : Prop := PSs X st (lowS X.K F0 t)

section
variable {X : Cx} {F0 : Pt} {e : Expr} {es : List Expr} {st : Stmt} {sts : List Stmt}
theorem PE.imp {te t : TE} (h : PE X e te) (i : ∀ σ H Q, t σ H Q → te σ H Q) : PE X e t := ⟨fun pins s σ H Q I q => h.run pins s σ H Q I (i σ H Q q)⟩
theorem PT.imp {te t : TT} (h : PT X e te) (i : ∀ σ H Q, t σ H Q → te σ H Q) : PT X e t := ⟨fun pins s σ H Q I q => h.run pins s σ H Q I (i σ H Q q)⟩
theorem PW.imp {te t : TT} (h : PW X e te) (i : ∀ σ H Q, t σ H Q → te σ H Q) : PW X e t := ⟨fun wh pins s σ H Q I q => h.run wh pins s σ H Q I (i σ H Q q)⟩
theorem PA.imp {te t : TA} (h : PA X es te) (i : ∀ σ H Q, t σ H Q → te σ H Q) : PA X es t := ⟨fun pos pins s σ H Q I q => h.run pos pins s σ H Q I (i σ H Q q)⟩
theorem PS.imp {te t : TS} (h : PS X st te) (i : ∀ D σ H, t D σ H → te D σ H) : PS X st t := ⟨fun pins s σ H D I q => h.run pins s σ H D I (i D σ H q)⟩
theorem PSs.imp {te t : TS} (h : PSs X sts te) (i : ∀ D σ H, t D σ H → te D σ H) : PSs X sts t := ⟨fun pins s σ H D I q => h.run pins s σ H D I (i D σ H q)⟩
end
end L3
set_option Elab.async false
set_option linter.all false
set_option maxRecDepth 100000
set_option maxHeartbeats 4000000
namespace L3
open PySem PySem.Spec PyProof.Rows L2

/-! ### small words -/
/-- two ways by a truth value -/
def br (b : Bool) (A B : Prop) : Prop := match b with
  | true => A
  | false => B
theorem br_iff {b : Bool} {A B : Prop} : br b A B ↔ (if b = true then A else B) := by cases b <;> simp [br]
theorem brT {A B : Prop} (h : A) : br true A B := h
theorem brF {A B : Prop} (h : B) : br false A B := h
theorem br2 {b : Bool} {A B : Prop} (h1 : b = true → A) (h2 : b = false → B) : br b A B := by
  cases b with
  | true => exact h1 rfl
  | false => exact h2 rfl
theorem brD {c : Prop} [Decidable c] {A B : Prop} (h1 : c → A) (h2 : ¬ c → B) : br (decide c) A B := br2 (fun h => h1 (of_decide_eq_true h)) (fun h => h2 (of_decide_eq_false h))
theorem brN {b : Bool} {A B : Prop} (h : br b B A) : br (!b) A B := by cases b <;> exact h
def sget : St3 → Nat → Option D
  | [], _ => none
  | o :: _, 0 => o
  | _ :: r, n + 1 => sget r n
theorem sget_at : ∀ {sd : St3} {i : Nat} {d : D}, sget sd i = some d → sd[i]? = some (some d)
  | [], _, _, h => nomatch h
  | o :: _, 0, d, h => by
    have h' : o = some d := h
    rw [h']
    rfl
  | _ :: r, n + 1, d, h => by
    have q := sget_at (sd := r) (i := n) (d := d) h
    simpa using q
/-- a slot is filled, the slots written out -/
def sput (K : St3 → Prop) (d : Option D) : St3 → Nat → Prop
  | [], _ => K []
  | _ :: r, 0 => K (d :: r)
  | o :: r, n + 1 => sput (fun z => K (o :: z)) d r n
theorem sput_set {d : Option D} : ∀ {sd : St3} {i : Nat} {K : St3 → Prop}, sput K d sd i → K (sd.set i d)
  | [], _, _, h => h
  | _ :: _, 0, _, h => h
  | o :: r, n + 1, K, h => sput_set (sd := r) (i := n) (K := fun z => K (o :: z)) h

section
variable {X : Cx} {F0 : Pt} {a b c e o : Expr} {es rest : List Expr} {ta tb tc : TE3} {pos : Pos}

/-! ### names, constants -/
def dVar (i : Nat) : TE3 := fun sd G Q => match sget sd i with
  | some d => Q d G
  | none => False
def dC (d : D) : TE3 := fun _ G Q => Q d G
theorem de_var (i : Nat) {x : Str} {pos : Pos} (hN : X.N[i]? = some x := by rfl) (hv : Vis X.env.scope x := by first | exact Or.inl rfl | exact Or.inr (Or.inl rfl) | exact Or.inr (Or.inr rfl)) (hd : (x == ("__debug__" : Str)) = false := by decide)
    (hcd : (x == ("__classdict__" : Str)) = false := by decide) : DE X F0 (.Name x pos) (dVar i) := by
  refine PE.imp (pe_var hN hv hd hcd) fun σ H Q ⟨sd, F, G, Q3, at_, h, k⟩ => ?_
  unfold dVar at h
  split at h
  · rename_i d e
    obtain ⟨v, e1, r⟩ := at_.rs.at_ i d (sget_at e)
    exact ⟨v, e1, k _ _ _ _ _ (Ext.refl at_.cp) r h⟩
  · exact h.elim
theorem de_c {d : D} {v : V} (h : PE X e (tC v)) (r : ∀ K F, Rep K F d v) : DE X F0 e (dC d) :=
  PE.imp h fun σ H Q ⟨sd, F, G, Q3, at_, h, k⟩ => k _ _ _ _ _ (Ext.refl at_.cp) (r _ _) h
theorem de_int {i j pos} : DE X F0 (.Constant (.int i) j pos) (dC (.int i)) := de_c pe_int fun _ _ => .int _
theorem de_bl {i j pos} : DE X F0 (.Constant (.bool i) j pos) (dC (.bl i)) := de_c pe_bl fun _ _ => .bl _
theorem de_non {j pos} : DE X F0 (.Constant .none j pos) (dC .non) := de_c pe_non fun _ _ => .non
theorem de_str {x j pos} : DE X F0 (.Constant (.str x) j pos) (dC (.str x)) := de_c pe_str fun _ _ => .str _
/-- a module's constant: an int, a text; a class, a def -/
theorem de_gint {x : Str} {i : Int} {pos : Pos} (hg : Gl X x) (hm : ∃ t, X.mg x = some (.int i t)) (hd : (x == ("__debug__" : Str)) = false := by decide) : DE X F0 (.Name x pos) (dC (.int i)) := by
  obtain ⟨t, h⟩ := hm
  exact de_c (pe_glob (v := .int i) hg h ⟨t, rfl⟩ hd) fun _ _ => .int _
theorem de_gstr {x z : Str} {pos : Pos} (hg : Gl X x) (hm : ∃ t, X.mg x = some (.str z t)) (hd : (x == ("__debug__" : Str)) = false := by decide) : DE X F0 (.Name x pos) (dC (.str z)) := by
  obtain ⟨t, h⟩ := hm
  exact de_c (pe_glob (v := .str z) hg h ⟨t, rfl⟩ hd) fun _ _ => .str _
theorem de_gref {x : Str} {C : Addr} {pos : Pos} (hg : Gl X x) (hm : X.mg x = some (.ref C)) (hd : (x == ("__debug__" : Str)) = false := by decide) : DE X F0 (.Name x pos) (dC (.ref C)) := de_c (pe_glob (v := .ref C) hg hm rfl hd) fun _ _ => .ref _
/-- a module's tuple -/
theorem de_gtup {x : Str} {p : Addr} {ds : List D} {pos : Pos} (hg : Gl X x) (hm : X.mg x = some (.ref p)) (r : ∀ F, Rep X.K F (.tup ds) (.ref p)) (hd : (x == ("__debug__" : Str)) = false := by decide) : DE X F0 (.Name x pos) (dC (.tup ds)) :=
  PE.imp (pe_glob (v := .ref p) hg hm rfl hd) fun σ H Q ⟨sd, F, G, Q3, at_, h, k⟩ => k _ _ _ _ _ (Ext.refl at_.cp) (r _) h
/-- a built-in class -/
theorem de_ty {x : Str} {n : String} {pos : Pos} (hg : Gl X x) (hm : X.mg x = none) (hv : bootBuiltins x = some (.type n)) (hn : x ≠ "__name__" := by decide) (hd : (x == ("__debug__" : Str)) = false := by decide) : DE X F0 (.Name x pos) (dC (.ty n)) := de_c (pe_bltn (v := .ty n) hg hm hv rfl hn hd) fun _ _ => .ty _

/-! ### operators by values -/
abbrev R3 := D → D → Gp → DK → Prop
def OpD (K : PySem.W.Frag) (r : R2) (r3 : R3) : Prop := ∀ F G H x y dx dy Q Q3, Cp K F G H → Rep K F dx x → Rep K F dy y → r3 dx dy G Q3 → QR K F G H Q3 Q → r x y H Q
def dOp (r3 : R3) (ta tb : TE3) : TE3 := fun sd G Q => ta sd G fun x G1 => tb sd G1 fun y G2 => r3 x y G2 Q
theorem low_op {K : PySem.W.Frag} {r : R2} {r3 : R3} (h3 : OpD K r r3) {σ : L2.St} {H : Hp} {Q : VK} (h : low K F0 (dOp r3 ta tb) σ H Q) : tOp r (low K F0 ta) (low K F0 tb) σ H Q := by
  obtain ⟨sd, F, G, Q3, at_, h, k⟩ := h
  refine ⟨sd, F, G, _, at_, h, fun x vx F1 G1 H1 l1 r1 q1 => ?_⟩
  refine ⟨sd, F1, G1, _, at_.step l1, q1, fun y vy F2 G2 H2 l2 r2 q2 => ?_⟩
  exact h3 F2 G2 H2 vx vy x y Q Q3 l2.cp (r1.mono l2.le) r2 q2 (k.mono (l1.trans l2))
theorem de_op {op : Operator} {r : R2} {r3 : R3} (ho : OpR X (binaryOp op) r) (h3 : OpD X.K r r3) (ha : DE X F0 a ta) (hb : DE X F0 b tb) : DE X F0 (.BinOp a op b pos) (dOp r3 ta tb) := PE.imp (pe_op ho ha hb) fun _ _ _ h => low_op h3 h
theorem de_cmp {op : CmpOp} {r : R2} {r3 : R3} (ho : OpR X (compareOp op) r) (h3 : OpD X.K r r3) (ha : DE X F0 a ta) (hb : DE X F0 b tb) (hm : behindInMarks op b = false) : DE X F0 (.Compare a [op] [b] pos) (dOp r3 ta tb) := PE.imp (pe_cmpR ho ha hb hm) fun _ _ _ h => low_op h3 h
/-- a value that is a truth value, as a test -/
def asB (Q : Bool → Gp → Prop) : DK := fun d G => match d with
  | .bl b => Q b G
  | _ => False
def dB (t : TE3) : TT3 := fun sd G Q => t sd G (asB Q)
theorem qb_of {K : PySem.W.Frag} {F H : Hp} {G : Gp} {Q3 : Bool → Gp → Prop} {Q : Bool → Hp → Prop} (k : QB K F G H Q3 Q) : QR K F G H (asB Q3) (fun x H' => ∃ k, x = .bl k ∧ Q k H') := fun d v F' G' H' l r q => by
  cases d with
  | bl b =>
    cases r
    exact ⟨b, rfl, k b F' G' H' l q⟩
  | _ => exact q.elim
theorem dt_cmp {op : CmpOp} {r : R2} {r3 : R3} (ho : OpR X (compareOp op) r) (h3 : OpD X.K r r3) (ha : DE X F0 a ta) (hb : DE X F0 b tb) (hm : behindInMarks op b = false) : DT X F0 (.Compare a [op] [b] pos) (dB (dOp r3 ta tb)) :=
  PT.imp (pt_cmpR ho ha hb hm) fun _ _ _ ⟨sd, F, G, Q3, at_, h, k⟩ => low_op h3 ⟨sd, F, G, _, at_, h, qb_of k⟩
theorem dt_val (h : DE X F0 e ta) (he : ∀ whole, isTrue e X.env whole = (do let v ← whole; standAt e.pos; holding [v] (truthy v)) := by intro _; rfl) : DT X F0 e (dB ta) :=
  PT.imp (pt_val h he) fun _ _ _ ⟨sd, F, G, Q3, at_, h, k⟩ => ⟨sd, F, G, _, at_, h, qb_of k⟩
/-- a one-place operator -/
def UnD (K : PySem.W.Frag) (r : V → Hp → VK → Prop) (r3 : D → Gp → DK → Prop) : Prop := ∀ F G H x dx Q Q3, Cp K F G H → Rep K F dx x → r3 dx G Q3 → QR K F G H Q3 Q → r x H Q
def dUn (r3 : D → Gp → DK → Prop) (ta : TE3) : TE3 := fun sd G Q => ta sd G fun x G1 => r3 x G1 Q
theorem low_un {K : PySem.W.Frag} {r : V → Hp → VK → Prop} {r3 : D → Gp → DK → Prop} (h3 : UnD K r r3) {σ : L2.St} {H : Hp} {Q : VK} (h : low K F0 (dUn r3 ta) σ H Q) : tUn r (low K F0 ta) σ H Q := by
  obtain ⟨sd, F, G, Q3, at_, h, k⟩ := h
  refine ⟨sd, F, G, _, at_, h, fun x vx F1 G1 H1 l1 r1 q1 => ?_⟩
  exact h3 F1 G1 H1 vx x Q Q3 l1.cp r1 q1 (k.mono l1)
theorem de_un {op : UnaryOp} {r : V → Hp → VK → Prop} {r3 : D → Gp → DK → Prop} (ho : UnR X (unaryOp op) r) (h3 : UnD X.K r r3) (ha : DE X F0 a ta) : DE X F0 (.UnaryOp op a pos) (dUn r3 ta) := PE.imp (pe_un ho ha) fun _ _ _ h => low_un h3 h

/-! ### and, or, not, if -/
variable {tA tB : TT3}
def dAnd (t u : TT3) : TT3 := fun sd G Q => t sd G fun c G1 => br c (u sd G1 Q) (Q false G1)
def dOr (t u : TT3) : TT3 := fun sd G Q => t sd G fun c G1 => br c (Q true G1) (u sd G1 Q)
def dNot (t : TT3) : TT3 := fun sd G Q => t sd G fun c G1 => br c (Q false G1) (Q true G1)
theorem dw_and1 (ha : DT X F0 a tA) : DW X F0 (.BoolOp .And [a] pos) tA := pw_and1 ha
theorem dw_or1 (ha : DT X F0 a tA) : DW X F0 (.BoolOp .Or [a] pos) tA := pw_or1 ha
theorem dw_and (ha : DT X F0 a tA) (hb : DW X F0 (.BoolOp .And (b :: rest) pos) tB) : DW X F0 (.BoolOp .And (a :: b :: rest) pos) (dAnd tA tB) :=
  PW.imp (pw_and ha hb) fun _ _ _ ⟨sd, F, G, Q3, at_, h, k⟩ => ⟨sd, F, G, _, at_, h, fun c F1 G1 H1 l1 q1 => by
    cases c with
    | true => exact iteT ⟨sd, F1, G1, _, at_.step l1, q1, k.mono l1⟩
    | false => exact iteF (k false F1 G1 H1 l1 q1)⟩
theorem dw_or (ha : DT X F0 a tA) (hb : DW X F0 (.BoolOp .Or (b :: rest) pos) tB) : DW X F0 (.BoolOp .Or (a :: b :: rest) pos) (dOr tA tB) :=
  PW.imp (pw_or ha hb) fun _ _ _ ⟨sd, F, G, Q3, at_, h, k⟩ => ⟨sd, F, G, _, at_, h, fun c F1 G1 H1 l1 q1 => by
    cases c with
    | true => exact iteT (k true F1 G1 H1 l1 q1)
    | false => exact iteF ⟨sd, F1, G1, _, at_.step l1, q1, k.mono l1⟩⟩
theorem dt_bool {op : BoolOp} (h : DW X F0 (.BoolOp op es pos) tA) : DT X F0 (.BoolOp op es pos) tA := PW.pt h
theorem dt_not (ha : DT X F0 a tA) : DT X F0 (.UnaryOp .Not a pos) (dNot tA) :=
  PT.imp (pt_not ha) fun _ _ _ ⟨sd, F, G, Q3, at_, h, k⟩ => ⟨sd, F, G, _, at_, h, fun c F1 G1 H1 l1 q1 => by
    cases c with
    | true => exact k false F1 G1 H1 l1 q1
    | false => exact k true F1 G1 H1 l1 q1⟩
/-- as values -/
def dAndV (ta tb : TE3) : TE3 := fun sd G Q => ta sd G (asB fun c G1 => br c (tb sd G1 Q) (Q (.bl false) G1))
def dOrV (ta tb : TE3) : TE3 := fun sd G Q => ta sd G (asB fun c G1 => br c (Q (.bl true) G1) (tb sd G1 Q))
def dNotV (ta : TE3) : TE3 := fun sd G Q => ta sd G (asB fun c G1 => br c (Q (.bl false) G1) (Q (.bl true) G1))
theorem de_one {op} (h : DE X F0 a ta) : DE X F0 (.BoolOp op [a] pos) ta := pe_one h
theorem de_and (ha : DE X F0 a ta) (hb : DE X F0 (.BoolOp .And (b :: rest) pos) tb) : DE X F0 (.BoolOp .And (a :: b :: rest) pos) (dAndV ta tb) :=
  PE.imp (pe_and ha hb) fun _ _ _ ⟨sd, F, G, Q3, at_, h, k⟩ => ⟨sd, F, G, _, at_, h, fun d v F1 G1 H1 l1 r q1 => by
    cases d with
    | bl c =>
      cases r
      refine ⟨c, rfl, ?_⟩
      cases c with
      | true => exact iteT ⟨sd, F1, G1, _, at_.step l1, q1, k.mono l1⟩
      | false => exact iteF (k _ _ F1 G1 H1 l1 (.bl false) q1)
    | _ => exact q1.elim⟩
theorem de_or (ha : DE X F0 a ta) (hb : DE X F0 (.BoolOp .Or (b :: rest) pos) tb) : DE X F0 (.BoolOp .Or (a :: b :: rest) pos) (dOrV ta tb) :=
  PE.imp (pe_or ha hb) fun _ _ _ ⟨sd, F, G, Q3, at_, h, k⟩ => ⟨sd, F, G, _, at_, h, fun d v F1 G1 H1 l1 r q1 => by
    cases d with
    | bl c =>
      cases r
      refine ⟨c, rfl, ?_⟩
      cases c with
      | true => exact iteT (k _ _ F1 G1 H1 l1 (.bl true) q1)
      | false => exact iteF ⟨sd, F1, G1, _, at_.step l1, q1, k.mono l1⟩
    | _ => exact q1.elim⟩
theorem de_not (ha : DE X F0 a ta) : DE X F0 (.UnaryOp .Not a pos) (dNotV ta) :=
  PE.imp (pe_not ha) fun _ _ _ ⟨sd, F, G, Q3, at_, h, k⟩ => ⟨sd, F, G, _, at_, h, fun d v F1 G1 H1 l1 r q1 => by
    cases d with
    | bl c =>
      cases r
      refine ⟨c, rfl, ?_⟩
      cases c with
      | true => exact k _ _ F1 G1 H1 l1 (.bl false) q1
      | false => exact k _ _ F1 G1 H1 l1 (.bl true) q1
    | _ => exact q1.elim⟩
/-- a test as a value (not of a test, chains) is de_not over a value; a if t else b -/
def dIf (t : TT3) (ta tb : TE3) : TE3 := fun sd G Q => t sd G fun c G1 => br c (ta sd G1 Q) (tb sd G1 Q)
theorem de_if {c : Expr} (hc : DT X F0 c tA) (ha : DE X F0 a ta) (hb : DE X F0 b tb) : DE X F0 (.IfExp c a b pos) (dIf tA ta tb) :=
  PE.imp (pe_ifExp hc ha hb) fun _ _ _ ⟨sd, F, G, Q3, at_, h, k⟩ => ⟨sd, F, G, _, at_, h, fun c F1 G1 H1 l1 q1 => by
    cases c with
    | true => exact iteT ⟨sd, F1, G1, _, at_.step l1, q1, k.mono l1⟩
    | false => exact iteF ⟨sd, F1, G1, _, at_.step l1, q1, k.mono l1⟩⟩
/-! ### chains -/
def dChain (r r' : R3) (ta tb tc : TE3) : TE3 := fun sd G Q => ta sd G fun x G1 => tb sd G1 fun y G2 => r x y G2 (asB fun k G3 => br k (tc sd G3 fun z G4 => r' y z G4 Q) (Q (.bl false) G3))
theorem low_chain {K : PySem.W.Frag} {r r' : R2} {q q' : R3} (h3 : OpD K r q) (h3' : OpD K r' q') {σ : L2.St} {H : Hp} {Q : VK} (h : low K F0 (dChain q q' ta tb tc) σ H Q) : tChain r r' (low K F0 ta) (low K F0 tb) (low K F0 tc) σ H Q := by
  obtain ⟨sd, F, G, Q3, at_, h, k⟩ := h
  refine ⟨sd, F, G, _, at_, h, fun x vx F1 G1 H1 l1 r1 q1 => ?_⟩
  refine ⟨sd, F1, G1, _, at_.step l1, q1, fun y vy F2 G2 H2 l2 r2 q2 => ?_⟩
  refine h3 F2 G2 H2 vx vy x y _ _ l2.cp (r1.mono l2.le) r2 q2 fun d v F3 G3 H3 l3 rr q4 => ?_
  cases d with
  | bl kk =>
    cases rr
    refine ⟨kk, rfl, ?_⟩
    cases kk with
    | true =>
      refine iteT ⟨sd, F3, G3, _, ((at_.step l1).step l2).step l3, q4, fun z vz F4 G4 H4 l4 r4 q5 => ?_⟩
      exact h3' F4 G4 H4 vy vz y z Q Q3 l4.cp ((r2.mono l3.le).mono l4.le) r4 q5 (k.mono (((l1.trans l2).trans l3).trans l4))
    | false => exact iteF (k _ _ F3 G3 H3 ((l1.trans l2).trans l3) (.bl false) q4)
  | _ => exact q4.elim
theorem de_chain {op op' : CmpOp} {r r' : R2} {q q' : R3} (ho : OpR X (compareOp op) r) (ho' : OpR X (compareOp op') r') (h3 : OpD X.K r q) (h3' : OpD X.K r' q') (ha : DE X F0 a ta) (hb : DE X F0 b tb) (hc : DE X F0 c tc)
    (hm : lastMarks [op, op'] [b, c] = false := by with_unfolding_all rfl) : DE X F0 (.Compare a [op, op'] [b, c] pos) (dChain q q' ta tb tc) := PE.imp (pe_chain ho ho' ha hb hc hm) fun _ _ _ h => low_chain h3 h3' h
theorem dt_chain {op op' : CmpOp} {r r' : R2} {q q' : R3} (ho : OpR X (compareOp op) r) (ho' : OpR X (compareOp op') r') (h3 : OpD X.K r q) (h3' : OpD X.K r' q') (ha : DE X F0 a ta) (hb : DE X F0 b tb) (hc : DE X F0 c tc)
    (hm : lastMarks [op, op'] [b, c] = false := by with_unfolding_all rfl) : DT X F0 (.Compare a [op, op'] [b, c] pos) (dB (dChain q q' ta tb tc)) :=
  PT.imp (pt_chain ho ho' ha hb hc hm) fun _ _ _ ⟨sd, F, G, Q3, at_, h, k⟩ => low_chain h3 h3' ⟨sd, F, G, _, at_, h, qb_of k⟩
end
end L3
set_option Elab.async false
set_option linter.all false
set_option maxRecDepth 100000
set_option maxHeartbeats 4000000
namespace L3
open PySem PySem.Spec PyProof.Rows L2

section
variable {X : Cx} {K : PySem.W.Frag} {F0 : Pt} {a b c e o : Expr} {es rest : List Expr} {ta tb tc : TE3} {pos : Pos}

/-! ### numbers -/
def rI3 (C : Int → Int → Prop) (g : Int → Int → D) : R3 := fun x y G Q => match x, y with
  | .int i, .int j => C i j ∧ Q (g i j) G
  | _, _ => False
def rI03 (g : Int → Int → D) : R3 := fun x y G Q => match x, y with
  | .int i, .int j => Q (g i j) G
  | _, _ => False
theorem od_I {C : Int → Int → Prop} {g : Int → Int → V} {g3 : Int → Int → D} (hg : ∀ K F i j, Rep K F (g3 i j) (g i j)) : OpD K (rI C g) (rI3 C g3) := by
  intro F G H x y dx dy Q Q3 c rx ry h k
  cases dx <;> cases dy <;> first | exact h.elim | skip
  cases rx; cases ry
  exact ⟨_, _, rfl, rfl, h.1, k _ _ _ _ _ (Ext.refl c) (hg _ _ _ _) h.2⟩
theorem od_I0 {g : Int → Int → V} {g3 : Int → Int → D} (hg : ∀ K F i j, Rep K F (g3 i j) (g i j)) : OpD K (rI0 g) (rI03 g3) := by
  intro F G H x y dx dy Q Q3 c rx ry h k
  cases dx <;> cases dy <;> first | exact h.elim | skip
  cases rx; cases ry
  exact ⟨_, _, rfl, rfl, k _ _ _ _ _ (Ext.refl c) (hg _ _ _ _) h⟩
theorem de_sub (ha : DE X F0 a ta) (hb : DE X F0 b tb) : DE X F0 (.BinOp a .Sub b pos) (dOp (rI03 fun i j => .int (i - j)) ta tb) := de_op op_sub (od_I0 fun _ _ _ _ => .int _) ha hb
theorem de_mod (ha : DE X F0 a ta) (hb : DE X F0 b tb) : DE X F0 (.BinOp a .Mod b pos) (dOp (rI3 (fun _ j => 0 < j) fun i j => .int (i % j)) ta tb) := de_op op_mod (od_I fun _ _ _ _ => .int _) ha hb
theorem de_fdiv (ha : DE X F0 a ta) (hb : DE X F0 b tb) : DE X F0 (.BinOp a .FloorDiv b pos) (dOp (rI3 CDiv fun i j => .int (i / j)) ta tb) := de_op op_fdiv (od_I fun _ _ _ _ => .int _) ha hb
theorem de_pow (ha : DE X F0 a ta) (hb : DE X F0 b tb) : DE X F0 (.BinOp a .Pow b pos) (dOp (rI3 CPow fun i j => .int (i ^ j.toNat)) ta tb) := de_op op_pow (od_I fun _ _ _ _ => .int _) ha hb
theorem de_neg (ha : DE X F0 a ta) : DE X F0 (.UnaryOp .USub a pos) (dUn (fun x G Q => match x with | .int i => Q (.int (-i)) G | _ => False) ta) := de_un un_neg (fun F G H x dx Q Q3 c rx h k => by
  cases dx <;> first | exact h.elim | skip
  cases rx
  exact ⟨_, rfl, k _ _ _ _ _ (Ext.refl c) (.int _) h⟩) ha
/-- +: ints, texts, tuples, lists -/
def rAdd3 : R3 := fun x y G Q => match x, y with
  | .int i, .int j => Q (.int (i + j)) G
  | .str a, .str b => a.length + b.length ≤ sizeLine ∧ Q (.str (a ++ b)) G
  | .tup a, .tup b => a.length + b.length ≤ sizeLine ∧ Q (.tup (a ++ b)) G
  | .lst a, .lst b => a.length + b.length ≤ sizeLine ∧ Q (.lst (a ++ b)) G
  | _, _ => False
def rStrAdd : R2 := fun x y H Q => ∃ i j, x = .str i ∧ y = .str j ∧ i.length + j.length ≤ sizeLine ∧ Q (.str (i ++ j)) H
theorem de_add (ha : DE X F0 a ta) (hb : DE X F0 b tb) : DE X F0 (.BinOp a .Add b pos) (dOp rAdd3 ta tb) := by
  refine de_op (OpR.or op_add (OpR.or op_add_str (OpR.or op_catA op_cat))) (fun F G H x y dx dy Q Q3 c rx ry h k => ?_) ha hb
  cases dx <;> cases dy <;> first | exact h.elim | skip
  · cases rx; cases ry
    exact .inl ⟨_, _, rfl, rfl, k _ _ _ _ _ (Ext.refl c) (.int _) h⟩
  · cases rx; cases ry
    exact .inr (.inl ⟨_, _, rfl, rfl, h.1, k _ _ _ _ _ (Ext.refl c) (.str _) h.2⟩)
  · rename_i da db
    cases rx with
    | @tup aa _ va sa ra =>
      cases ry with
      | @tup ab _ vb sb rb =>
        refine .inr (.inr (.inl ⟨aa, ab, va, vb, rfl, rfl, sqT_mono c.frz sa, sqT_mono c.frz sb, by rw [← ra.length, ← rb.length]; exact h.1, fun e => ?_, fun e1 e2 => ?_, fun e1 e2 p hp => ?_⟩))
        · subst e
          cases ra
          exact k _ _ _ _ _ (Ext.refl c) (.tup sb rb) h.2
        · subst e2
          cases rb
          have h2 : Q3 (.tup (da ++ [])) G := h.2
          rw [List.append_nil] at h2
          exact k _ _ _ _ _ (Ext.refl c) (.tup sa ra) h2
        · have x := Ext.newF c (.tup (va ++ vb)) hp
          have l := x.le
          exact k _ _ _ _ _ x (.tup (.inl (.inl upd_same)) ((ra.mono l).append (rb.mono l))) h.2
  · cases rx with
    | @lst aa _ va sa ra =>
      cases ry with
      | @lst ab _ vb sb rb =>
        refine .inr (.inr (.inr ⟨aa, ab, va, vb, rfl, rfl, c.frz _ _ sa, c.frz _ _ sb, by rw [← ra.length, ← rb.length]; exact h.1, fun p hp => ?_⟩))
        have x := Ext.newF c (.lst (va ++ vb)) hp
        have l := x.le
        exact k _ _ _ _ _ x (.lst upd_same ((ra.mono l).append (rb.mono l))) h.2
/-- *: ints; a list by an int -/
def rMul3 : R3 := fun x y G Q => match x, y with
  | .int i, .int j => CMul i j ∧ Q (.int (i * j)) G
  | .lst a, .int j => (-(2 ^ 63) ≤ j ∧ j < 2 ^ 63) ∧ a.length * j.toNat ≤ sizeLine ∧ Q (.lst (List.replicate j.toNat a).flatten) G
  | _, _ => False
theorem RepL.rep {F : Hp} {ds : List D} {vs : List V} (h : RepL K F ds vs) : ∀ k : Nat, RepL K F (List.replicate k ds).flatten (List.replicate k vs).flatten
  | 0 => .nil
  | n + 1 => by
    rw [List.replicate_succ, List.replicate_succ, List.flatten_cons, List.flatten_cons]
    exact h.append (RepL.rep h n)
theorem de_mul (ha : DE X F0 a ta) (hb : DE X F0 b tb) : DE X F0 (.BinOp a .Mult b pos) (dOp rMul3 ta tb) := by
  refine de_op (OpR.or op_mul op_rep) (fun F G H x y dx dy Q Q3 c rx ry h k => ?_) ha hb
  cases dx <;> cases dy <;> first | exact h.elim | skip
  · cases rx; cases ry
    exact .inl ⟨_, _, rfl, rfl, h.1, k _ _ _ _ _ (Ext.refl c) (.int _) h.2⟩
  · rename_i da j
    cases ry
    cases rx with
    | @lst aa _ va sa ra =>
      refine .inr ⟨aa, _, va, rfl, rfl, c.frz _ _ sa, h.1.1, h.1.2, by rw [← ra.length]; exact h.2.1, fun p hp => ?_⟩
      have x := Ext.newF c (.lst (List.replicate j.toNat va).flatten) hp
      have l := x.le
      exact k _ _ _ _ _ x (.lst upd_same ((ra.mono l).rep _)) h.2.2

/-! ### comparisons -/
/-- ints -/
def rCmp3 (p : Int → Int → Bool) : R3 := rI03 fun i j => .bl (p i j)
theorem dc_lt : OpD K (rI0 fun i j => .bl (decide (i < j))) (rCmp3 fun i j => decide (i < j)) := od_I0 fun _ _ _ _ => .bl _
theorem dc_le : OpD K (rI0 fun i j => .bl (decide (i ≤ j))) (rCmp3 fun i j => decide (i ≤ j)) := od_I0 fun _ _ _ _ => .bl _
theorem dc_gt : OpD K (rI0 fun i j => .bl (decide (j < i))) (rCmp3 fun i j => decide (j < i)) := od_I0 fun _ _ _ _ => .bl _
theorem dc_ge : OpD K (rI0 fun i j => .bl (decide (j ≤ i))) (rCmp3 fun i j => decide (j ≤ i)) := od_I0 fun _ _ _ _ => .bl _
/-! plain data -/
mutual
def toData : D → Option PyData
  | .non => some .none
  | .bl b => some (.bool b)
  | .int i => some (.int i)
  | .str x => some (.str x)
  | .tup ds => (toDataL ds).map .tuple
  | .lst ds => (toDataL ds).map .list
  | .scr ds => (toDataL ds).map .list
  | .ref _ | .ty _ | .ins _ _ | .obj _ _ | .dic _ => none
def toDataL : List D → Option (List PyData)
  | [] => some []
  | d :: ds => match toData d with
    | some p => (toDataL ds).map (p :: ·)
    | none => none
end
mutual
theorem rep_dp {F H : Hp} (l : Le F H) : ∀ {d : D} {v : V} {p : PyData}, Rep K F d v → toData d = some p → Dp K H v p
  | _, _, _, .non, e => by cases e; exact .non
  | _, _, _, .bl b, e => by cases e; exact .bl b
  | _, _, _, .int i, e => by cases e; exact .int i
  | _, _, _, .str x, e => by cases e; exact .str x
  | _, _, _, .ref _, e => nomatch e
  | _, _, _, .ty _, e => nomatch e
  | _, _, _, .tup h r, e => by
    unfold toData at e
    obtain ⟨ps, e1, e2⟩ := Option.map_eq_some_iff.mp e
    subst e2
    exact .tup (sqT_mono l h) (rep_dpl l r e1)
  | _, _, _, .lst h r, e => by
    unfold toData at e
    obtain ⟨ps, e1, e2⟩ := Option.map_eq_some_iff.mp e
    subst e2
    exact .lst (.inl (.inl (l _ _ h))) (rep_dpl l r e1)
  | _, _, _, .scr h r, e => by
    unfold toData at e
    obtain ⟨ps, e1, e2⟩ := Option.map_eq_some_iff.mp e
    subst e2
    exact .lst (sqL_mono l h) (rep_dpl l r e1)
  | _, _, _, .ins _ _ _, e => nomatch e
  | _, _, _, .obj _ _, e => nomatch e
  | _, _, _, .dic _ _, e => nomatch e
theorem rep_dpl {F H : Hp} (l : Le F H) : ∀ {d : List D} {v : List V} {p : List PyData}, RepL K F d v → toDataL d = some p → DpAll K H v p
  | _, _, _, .nil, e => by cases e; exact .nil
  | _, _, _, .cons h r, e => by
    unfold toDataL at e
    split at e
    · rename_i q eq
      obtain ⟨ps, e1, e2⟩ := Option.map_eq_some_iff.mp e
      subst e2
      exact .cons (rep_dp l h eq) (rep_dpl l r e1)
    · cases e
end
theorem dI {i j : Int} : decide (V.int i = V.int j) = decide (i = j) := decide_eq_decide.mpr ⟨fun h => V.int.inj h, fun h => h ▸ rfl⟩
theorem dSt {i j : Str} : decide (V.str i = V.str j) = decide (i = j) := decide_eq_decide.mpr ⟨fun h => V.str.inj h, fun h => h ▸ rfl⟩
theorem dBl {i j : Bool} : decide (V.bl i = V.bl j) = decide (i = j) := decide_eq_decide.mpr ⟨fun h => V.bl.inj h, fun h => h ▸ rfl⟩
/-- == -/
def rEq3 : R3 := fun x y G Q => match x, y with
  | .int i, .int j => Q (.bl (decide (i = j))) G
  | .str i, .str j => Q (.bl (decide (i = j))) G
  | .bl i, .bl j => Q (.bl (decide (i = j))) G
  | .non, .non => Q (.bl true) G
  | x, y => ∃ d e, toData x = some d ∧ toData y = some e ∧ SeqAt.shaped d = true ∧ SeqAt.shaped e = true ∧ Q (.bl (PyData.eqv d e)) G
def rNe3 : R3 := fun x y G Q => rEq3 x y G fun d G1 => match d with
  | .bl b => Q (.bl (!b)) G1
  | _ => False
theorem od_eqD {F G H : _} {x y : V} {dx dy : D} {Q : VK} {Q3 : DK} (c : Cp K F G H) (rx : Rep K F dx x) (ry : Rep K F dy y) (k : QR K F G H Q3 Q)
    (h : ∃ d e, toData dx = some d ∧ toData dy = some e ∧ SeqAt.shaped d = true ∧ SeqAt.shaped e = true ∧ Q3 (.bl (PyData.eqv d e)) G) : rEqD K x y H Q := by
  obtain ⟨d, e, h1, h2, h3, h4, q⟩ := h
  exact ⟨d, e, rep_dp c.frz rx h1, rep_dp c.frz ry h2, h3, h4, k _ _ _ _ _ (Ext.refl c) (.bl _) q⟩
theorem dc_eq : OpD K (fun x y H Q => rEq x y H Q ∨ rEqD K x y H Q) rEq3 := by
  intro F G H x y dx dy Q Q3 c rx ry h k
  unfold rEq3 at h
  split at h
  · cases rx; cases ry
    exact .inl ⟨rfl, k _ _ _ _ _ (Ext.refl c) (by rw [dI]; exact .bl _) h⟩
  · cases rx; cases ry
    exact .inl ⟨rfl, k _ _ _ _ _ (Ext.refl c) (by rw [dSt]; exact .bl _) h⟩
  · cases rx; cases ry
    exact .inl ⟨rfl, k _ _ _ _ _ (Ext.refl c) (by rw [dBl]; exact .bl _) h⟩
  · cases rx; cases ry
    exact .inl ⟨rfl, k _ _ _ _ _ (Ext.refl c) (by rw [decide_eq_true rfl]; exact .bl _) h⟩
  · exact .inr (od_eqD c rx ry k h)
theorem dc_ne : OpD K (fun x y H Q => rNe x y H Q ∨ rNeD K x y H Q) rNe3 := by
  intro F G H x y dx dy Q Q3 c rx ry h k
  unfold rNe3 rEq3 at h
  split at h
  · cases rx; cases ry
    exact .inl ⟨rfl, k _ _ _ _ _ (Ext.refl c) (by rw [dI]; exact .bl _) h⟩
  · cases rx; cases ry
    exact .inl ⟨rfl, k _ _ _ _ _ (Ext.refl c) (by rw [dSt]; exact .bl _) h⟩
  · cases rx; cases ry
    exact .inl ⟨rfl, k _ _ _ _ _ (Ext.refl c) (by rw [dBl]; exact .bl _) h⟩
  · cases rx; cases ry
    exact .inl ⟨rfl, k _ _ _ _ _ (Ext.refl c) (by rw [decide_eq_true rfl]; exact .bl _) h⟩
  · obtain ⟨d, e, h1, h2, h3, h4, q⟩ := h
    exact .inr ⟨d, e, rep_dp c.frz rx h1, rep_dp c.frz ry h2, h3, h4, k _ _ _ _ _ (Ext.refl c) (.bl _) q⟩
theorem op_eqA {j : Nat} (hr : Room j X.A) : OpR X (compareOp .Eq) (fun x y H Q => rEq x y H Q ∨ rEqD X.K x y H Q) := OpR.or op_eq (op_eqD hr.units)
theorem op_neA {j : Nat} (hr : Room j X.A) : OpR X (compareOp .NotEq) (fun x y H Q => rNe x y H Q ∨ rNeD X.K x y H Q) := OpR.or op_ne (op_neD hr.units)
/-- is None -/
def isNon : D → Bool
  | .non => true
  | _ => false
theorem rep_non {F : Hp} {d : D} {v : V} (r : Rep K F d v) : decide (v = V.non) = isNon d := by
  cases r <;> simp [isNon]
def rIsN3 : R3 := fun x y G Q => match y with
  | .non => Q (.bl (isNon x)) G
  | _ => False
def rNotN3 : R3 := fun x y G Q => match y with
  | .non => Q (.bl (!isNon x)) G
  | _ => False
theorem dc_isN : OpD K (fun x y H Q => y = .non ∧ Q (.bl (decide (x = .non))) H) rIsN3 := by
  intro F G H x y dx dy Q Q3 c rx ry h k
  cases dy <;> first | exact h.elim | skip
  cases ry
  exact ⟨rfl, by rw [rep_non rx]; exact k _ _ _ _ _ (Ext.refl c) (.bl _) h⟩
theorem dc_notN : OpD K (fun x y H Q => y = .non ∧ Q (.bl (!decide (x = .non))) H) rNotN3 := by
  intro F G H x y dx dy Q Q3 c rx ry h k
  cases dy <;> first | exact h.elim | skip
  cases ry
  exact ⟨rfl, by rw [rep_non rx]; exact k _ _ _ _ _ (Ext.refl c) (.bl _) h⟩
/-- in: a text in a text; a flat thing in a tuple, in a list -/
def scV : D → Option V
  | .non => some .non
  | .bl b => some (.bl b)
  | .int i => some (.int i)
  | .str x => some (.str x)
  | _ => none
def scL : List D → Option (List V)
  | [] => some []
  | d :: ds => match scV d with
    | some v => (scL ds).map (v :: ·)
    | none => none
theorem scV_ok {F : Hp} {d : D} {v u : V} (r : Rep K F d v) (e : scV d = some u) : v = u ∧ flatV u = true := by
  cases r <;> first | (cases e; exact ⟨rfl, rfl⟩) | (simp [scV] at e)
theorem scL_ok {F : Hp} : ∀ {ds : List D} {vs us : List V}, RepL K F ds vs → scL ds = some us → vs = us ∧ us.all flatV = true
  | _, _, _, .nil, e => by cases e; exact ⟨rfl, rfl⟩
  | _, _, _, .cons h r, e => by
    unfold scL at e
    split at e
    · rename_i v ev
      obtain ⟨us, e1, e2⟩ := Option.map_eq_some_iff.mp e
      subst e2
      obtain ⟨h1, h2⟩ := scV_ok h ev
      obtain ⟨h3, h4⟩ := scL_ok r e1
      subst h1 h3
      exact ⟨rfl, by rw [List.all_cons, h2, h4]; rfl⟩
    · cases e
def rIn3 (neg : Bool) : R3 := fun x y G Q => match x, y with
  | .str i, .str j => Q (.bl (if neg then !(!(Builtin.Str.occurrences j i 0 j.length 1).isEmpty) else !(Builtin.Str.occurrences j i 0 j.length 1).isEmpty)) G
  | x, .tup ds => ∃ v us, scV x = some v ∧ scL ds = some us ∧ Q (.bl (if neg then !inV v us else inV v us)) G
  | x, .lst ds => ∃ v us, scV x = some v ∧ scL ds = some us ∧ Q (.bl (if neg then !inV v us else inV v us)) G
  | x, .ref p => ∃ ds v us, G p = some (.lst ds) ∧ scV x = some v ∧ scL ds = some us ∧ Q (.bl (if neg then !inV v us else inV v us)) G
  | _, _ => False
theorem own_lst {F H : Hp} {G : Gp} {p : Addr} {ds : List D} (c : Cp K F G H) (h : G p = some (.lst ds)) : F p = none ∧ ∃ vs, H p = some (.lst vs) ∧ RepL K F ds vs := c.own p _ h
theorem dc_in : OpD K (fun x y H Q => (∃ i j, x = .str i ∧ y = .str j ∧ Q (.bl (!(Builtin.Str.occurrences j i 0 j.length 1).isEmpty)) H) ∨ rIn K false x y H Q) (rIn3 false) := by
  intro F G H x y dx dy Q Q3 c rx ry h k
  unfold rIn3 at h
  split at h
  · cases rx; cases ry
    exact .inl ⟨_, _, rfl, rfl, k _ _ _ _ _ (Ext.refl c) (.bl _) h⟩
  · obtain ⟨v, us, e1, e2, q⟩ := h
    cases ry with
    | @tup ab _ vb sb rb =>
      obtain ⟨h1, h2⟩ := scV_ok rx e1
      obtain ⟨h3, h4⟩ := scL_ok rb e2
      subst h1 h3
      exact .inr ⟨_, _, rfl, .inr (sqT_mono c.frz sb), h2, h4, k _ _ _ _ _ (Ext.refl c) (.bl _) q⟩
  · obtain ⟨v, us, e1, e2, q⟩ := h
    cases ry with
    | @lst ab _ vb sb rb =>
      obtain ⟨h1, h2⟩ := scV_ok rx e1
      obtain ⟨h3, h4⟩ := scL_ok rb e2
      subst h1 h3
      exact .inr ⟨_, _, rfl, .inl (SqL.of (c.frz _ _ sb)), h2, h4, k _ _ _ _ _ (Ext.refl c) (.bl _) q⟩
  · obtain ⟨ds, v, us, e0, e1, e2, q⟩ := h
    cases ry
    obtain ⟨_, vs, hp, rb⟩ := own_lst c e0
    obtain ⟨h1, h2⟩ := scV_ok rx e1
    obtain ⟨h3, h4⟩ := scL_ok rb e2
    subst h1 h3
    exact .inr ⟨_, _, rfl, .inl (SqL.of hp), h2, h4, k _ _ _ _ _ (Ext.refl c) (.bl _) q⟩
  · exact h.elim
theorem dc_notin : OpD K (fun x y H Q => (∃ i j, x = .str i ∧ y = .str j ∧ Q (.bl (!(!(Builtin.Str.occurrences j i 0 j.length 1).isEmpty))) H) ∨ rIn K true x y H Q) (rIn3 true) := by
  intro F G H x y dx dy Q Q3 c rx ry h k
  unfold rIn3 at h
  split at h
  · cases rx; cases ry
    exact .inl ⟨_, _, rfl, rfl, k _ _ _ _ _ (Ext.refl c) (.bl _) h⟩
  · obtain ⟨v, us, e1, e2, q⟩ := h
    cases ry with
    | @tup ab _ vb sb rb =>
      obtain ⟨h1, h2⟩ := scV_ok rx e1
      obtain ⟨h3, h4⟩ := scL_ok rb e2
      subst h1 h3
      exact .inr ⟨_, _, rfl, .inr (sqT_mono c.frz sb), h2, h4, k _ _ _ _ _ (Ext.refl c) (.bl _) q⟩
  · obtain ⟨v, us, e1, e2, q⟩ := h
    cases ry with
    | @lst ab _ vb sb rb =>
      obtain ⟨h1, h2⟩ := scV_ok rx e1
      obtain ⟨h3, h4⟩ := scL_ok rb e2
      subst h1 h3
      exact .inr ⟨_, _, rfl, .inl (SqL.of (c.frz _ _ sb)), h2, h4, k _ _ _ _ _ (Ext.refl c) (.bl _) q⟩
  · obtain ⟨ds, v, us, e0, e1, e2, q⟩ := h
    cases ry
    obtain ⟨_, vs, hp, rb⟩ := own_lst c e0
    obtain ⟨h1, h2⟩ := scV_ok rx e1
    obtain ⟨h3, h4⟩ := scL_ok rb e2
    subst h1 h3
    exact .inr ⟨_, _, rfl, .inl (SqL.of hp), h2, h4, k _ _ _ _ _ (Ext.refl c) (.bl _) q⟩
  · exact h.elim
theorem op_inA : OpR X (compareOp .In) (fun x y H Q => (∃ i j, x = .str i ∧ y = .str j ∧ Q (.bl (!(Builtin.Str.occurrences j i 0 j.length 1).isEmpty)) H) ∨ rIn X.K false x y H Q) := OpR.or op_in_str op_in_seq
theorem op_notinA : OpR X (compareOp .NotIn) (fun x y H Q => (∃ i j, x = .str i ∧ y = .str j ∧ Q (.bl (!(!(Builtin.Str.occurrences j i 0 j.length 1).isEmpty))) H) ∨ rIn X.K true x y H Q) := OpR.or op_notIn_str op_notIn_seq
end
end L3
set_option Elab.async false
set_option linter.all false
set_option maxRecDepth 100000
set_option maxHeartbeats 4000000
namespace L3
open PySem PySem.Spec PyProof.Rows L2

/-! ### arguments, displays, built-in calls -/
section
variable {X : Cx} {K : PySem.W.Frag} {F0 : Pt} {a b c e o : Expr} {es rest : List Expr} {ta tb tc te : TE3} {t : TA3} {pos p : Pos} {x : Str}
def dNil : TA3 := fun _ G Q => Q [] G
def dCons (ta : TE3) (tr : TA3) : TA3 := fun sd G Q => ta sd G fun x G1 => tr sd G1 fun xs G2 => Q (x :: xs) G2
theorem da_nil : DA X F0 [] dNil := PA.imp pa_nil fun σ H Q ⟨sd, F, G, Q3, at_, h, k⟩ => k [] [] F G H (Ext.refl at_.cp) .nil h
theorem da_cons (ha : DE X F0 e te) (hr : DA X F0 es t) (hs : starEach (e :: es) X.env = (false, eval e X.env) :: starEach es X.env := by rfl) : DA X F0 (e :: es) (dCons te t) :=
  PA.imp (pa_cons ha hr hs) fun σ H Q ⟨sd, F, G, Q3, at_, h, k⟩ => ⟨sd, F, G, _, at_, h, fun d v F1 G1 H1 l1 r1 q1 => ⟨sd, F1, G1, _, at_.step l1, q1, fun ds vs F2 G2 H2 l2 r2 q2 => k _ _ _ _ _ (l1.trans l2) (.cons (r1.mono l2.le) r2) q2⟩⟩
/-- *e: the items of a tuple, of a list -/
def itemsOf : D → Option (List D)
  | .tup ds => some ds
  | .lst ds => some ds
  | .scr ds => some ds
  | _ => none
theorem items_sq {F H : Hp} {d : D} {v : V} {ds : List D} (l : Le F H) (r : Rep K F d v) (e : itemsOf d = some ds) : ∃ p vs, v = .ref p ∧ (SqT K H p vs ∨ SqL K H p vs) ∧ RepL K F ds vs := by
  cases r <;> simp [itemsOf] at e
  · subst e; rename_i s r; exact ⟨_, _, rfl, .inl (sqT_mono l s), r⟩
  · subst e; rename_i s r; exact ⟨_, _, rfl, .inr (SqL.of (l _ _ s)), r⟩
  · subst e; rename_i s r; exact ⟨_, _, rfl, .inr (sqL_mono l s), r⟩
def dStar (te : TE3) (t : TA3) : TA3 := fun sd G Q => te sd G fun x G1 => match itemsOf x with
  | some xs => t sd G1 fun ys G2 => Q (xs ++ ys) G2
  | none => False
theorem da_star (he : DE X F0 e te) (hr : DA X F0 es t) (hs : starEach (.Starred e p :: es) X.env = (true, eval e X.env) :: starEach es X.env := by rfl) : DA X F0 (.Starred e p :: es) (dStar te t) :=
  PA.imp (StX.pa_star he hr hs) fun σ H Q ⟨sd, F, G, Q3, at_, h, k⟩ => ⟨sd, F, G, _, at_, h, fun d v F1 G1 H1 l1 r1 q1 => by
    split at q1
    · rename_i xs ex
      obtain ⟨q, vs, ev, sq, rl⟩ := items_sq l1.cp.frz r1 ex
      exact ⟨q, vs, ev, sq, sd, F1, G1, _, at_.step l1, q1, fun ys us F2 G2 H2 l2 r2 q2 => k _ _ _ _ _ (l1.trans l2) ((rl.mono l2.le).append r2) q2⟩
    · exact q1.elim⟩
/-- a tuple; a list that is not changed; a list to be filled -/
def dTup (t : TA3) : TE3 := fun sd G Q => t sd G fun ds G1 => Q (.tup ds) G1
def dLst (t : TA3) : TE3 := fun sd G Q => t sd G fun ds G1 => Q (.lst ds) G1
def dLstO (t : TA3) : TE3 := fun sd G Q => t sd G fun ds G1 => ∀ p, G1 p = none → Q (.ref p) (gupd G1 p (.lst ds))
/-- how many items at the most are written -/
def few (t : TA3) (n : Nat) : Prop := ∀ sd G Q, t sd G Q → t sd G fun ds G' => ds.length ≤ n ∧ Q ds G'
/-- a display whose starred parts are short -/
def dTupS (t : TA3) : TE3 := fun sd G Q => t sd G fun ds G1 => ds.length ≤ sizeLine ∧ Q (.tup ds) G1
def dLstS (t : TA3) : TE3 := fun sd G Q => t sd G fun ds G1 => ds.length ≤ sizeLine ∧ Q (.lst ds) G1
def dLstSO (t : TA3) : TE3 := fun sd G Q => t sd G fun ds G1 => ds.length ≤ sizeLine ∧ ∀ p, G1 p = none → Q (.ref p) (gupd G1 p (.lst ds))
theorem de_tupS {x1} (h : DA X F0 es t) : DE X F0 (.Tuple es x1 pos) (dTupS t) :=
  PE.imp (pe_tup h) fun σ H Q ⟨sd, F, G, Q3, at_, h, k⟩ => ⟨sd, F, G, _, at_, h, fun ds vs F1 G1 H1 l1 r1 q1 => ⟨by rw [← r1.length]; exact q1.1, fun p hp => by
    have x := Ext.newF l1.cp (.tup vs) hp
    exact k _ _ _ _ _ (l1.trans x) (.tup (.inl (.inl upd_same)) (r1.mono x.le)) q1.2⟩⟩
theorem de_lstS (h : DA X F0 es t) : DE X F0 (.List es pos) (dLstS t) :=
  PE.imp (pe_lst h) fun σ H Q ⟨sd, F, G, Q3, at_, h, k⟩ => ⟨sd, F, G, _, at_, h, fun ds vs F1 G1 H1 l1 r1 q1 => ⟨by rw [← r1.length]; exact q1.1, fun p hp => by
    have x := Ext.newF l1.cp (.lst vs) hp
    exact k _ _ _ _ _ (l1.trans x) (.lst upd_same (r1.mono x.le)) q1.2⟩⟩
theorem de_lstSO (h : DA X F0 es t) : DE X F0 (.List es pos) (dLstSO t) :=
  PE.imp (pe_lst h) fun σ H Q ⟨sd, F, G, Q3, at_, h, k⟩ => ⟨sd, F, G, _, at_, h, fun ds vs F1 G1 H1 l1 r1 q1 => ⟨by rw [← r1.length]; exact q1.1, fun p hp =>
    k _ _ _ _ _ (l1.trans (Ext.newG l1.cp hp r1)) (.ref p) (q1.2 p (l1.cp.free hp).2)⟩⟩
/-- a written display of few items: no star, so its length is known -/
def wlen : TA3 → Nat → Prop := fun t n => ∀ sd G (Q : List D → Gp → Prop), t sd G Q → t sd G fun ds G' => ds.length = n ∧ Q ds G'
def TM (t : TE3) : Prop := ∀ sd G (Q Q' : DK), (∀ d G, Q d G → Q' d G) → t sd G Q → t sd G Q'

/-! a call of a built-in -/
def CallD (K : PySem.W.Frag) (r : List V → Hp → VK → Prop) (r3 : List D → Gp → DK → Prop) : Prop := ∀ F G H xs ds Q Q3, Cp K F G H → RepL K F ds xs → r3 ds G Q3 → QR K F G H Q3 Q → r xs H Q
def dCB (r3 : List D → Gp → DK → Prop) (t : TA3) : TE3 := fun sd G Q => t sd G fun ds G1 => r3 ds G1 Q
variable {idn T : String} {r : List V → Hp → VK → Prop} {r3 : List D → Gp → DK → Prop}
theorem low_cb (h3 : CallD K r r3) {σ : L2.St} {H : Hp} {Q : VK} (h : low K F0 (dCB r3 t) σ H Q) : tCB r (lowA K F0 t) σ H Q := by
  obtain ⟨sd, F, G, Q3, at_, h, k⟩ := h
  exact ⟨sd, F, G, _, at_, h, fun ds vs F1 G1 H1 l1 r1 q1 => h3 F1 G1 H1 vs ds Q Q3 l1.cp r1 q1 (k.mono l1)⟩
theorem de_callB (hc : CallR X (.builtin idn) r) (h3 : CallD X.K r r3) (hg : Gl X x) (hm : X.mg x = none) (hv : bootBuiltins x = some (.builtin idn)) (ha : DA X F0 (e :: es) t) (hn : x ≠ "__name__" := by decide) (hdb : (x == ("__debug__" : Str)) = false := by decide)
    (he : starEach (e :: es) X.env = (false, eval e X.env) :: starEach es X.env := by rfl) (hpl : (backTo pos (starEach es X.env)).any (·.1) = false := by rfl) : DE X F0 (.Call (.Name x p) (e :: es) [] pos) (dCB r3 t) :=
  PE.imp (pe_callB hc hg hm hv ha hn hdb he hpl) fun _ _ _ h => low_cb h3 h
theorem de_callTy (hc : CallR X (.type T) r) (h3 : CallD X.K r r3) (hg : Gl X x) (hm : X.mg x = none) (hv : bootBuiltins x = some (.type T)) (ha : DA X F0 (e :: es) t) (hn : x ≠ "__name__" := by decide) (hdb : (x == ("__debug__" : Str)) = false := by decide)
    (he : starEach (e :: es) X.env = (false, eval e X.env) :: starEach es X.env := by rfl) (hpl : (backTo pos (starEach es X.env)).any (·.1) = false := by rfl) : DE X F0 (.Call (.Name x p) (e :: es) [] pos) (dCB r3 t) :=
  PE.imp (pe_callTy hc hg hm hv ha hn hdb he hpl) fun _ _ _ h => low_cb h3 h
/-- len -/
def rLen3 : List D → Gp → DK → Prop := fun ds G Q => match ds with
  | [.str s] => s.length ≤ sizeLine ∧ Q (.int s.length) G
  | [.tup ds] => Q (.int ds.length) G
  | [.lst ds] => Q (.int ds.length) G
  | [.scr ds] => Q (.int ds.length) G
  | [.ref p] => ∃ ds, G p = some (.lst ds) ∧ Q (.int ds.length) G
  | _ => False
theorem RepL.inv1 {F : Hp} {d : D} {vs : List V} (h : RepL K F [d] vs) : ∃ v, vs = [v] ∧ Rep K F d v := by
  cases h with
  | cons r t =>
    cases t
    exact ⟨_, rfl, r⟩
theorem RepL.inv2 {F : Hp} {d d' : D} {vs : List V} (h : RepL K F [d, d'] vs) : ∃ v u, vs = [v, u] ∧ Rep K F d v ∧ Rep K F d' u := by
  cases h with
  | cons r t =>
    cases t with
    | cons r2 t =>
      cases t
      exact ⟨_, _, rfl, r, r2⟩
theorem RepL.inv0 {F : Hp} {vs : List V} (h : RepL K F [] vs) : vs = [] := by
  cases h
  rfl
theorem cd_len : CallD K (fun xs H Q => ∃ x n, xs = [x] ∧ LenV K x H n ∧ Q (.int n) H) rLen3 := by
  intro F G H xs ds Q Q3 c r h k
  unfold rLen3 at h
  split at h
  · obtain ⟨v, rfl, rv⟩ := r.inv1
    cases rv
    exact ⟨_, _, rfl, And.intro h.1 rfl, k _ _ _ _ _ (Ext.refl c) (.int _) h.2⟩
  · obtain ⟨v, rfl, rv⟩ := r.inv1
    cases rv with
    | tup s rl => exact ⟨_, _, rfl, Or.inr ⟨_, sqT_mono c.frz s, rfl⟩, k _ _ _ _ _ (Ext.refl c) (.int _) (by rw [← rl.length]; exact h)⟩
  · obtain ⟨v, rfl, rv⟩ := r.inv1
    cases rv with
    | lst s rl => exact ⟨_, _, rfl, Or.inl ⟨_, SqL.of (c.frz _ _ s), rfl⟩, k _ _ _ _ _ (Ext.refl c) (.int _) (by rw [← rl.length]; exact h)⟩
  · obtain ⟨v, rfl, rv⟩ := r.inv1
    cases rv with
    | scr s rl => exact ⟨_, _, rfl, Or.inl ⟨_, sqL_mono c.frz s, rfl⟩, k _ _ _ _ _ (Ext.refl c) (.int _) (by rw [← rl.length]; exact h)⟩
  · obtain ⟨v, rfl, rv⟩ := r.inv1
    cases rv
    obtain ⟨ds, e, q⟩ := h
    obtain ⟨_, vs, hp, rl⟩ := own_lst c e
    exact ⟨_, _, rfl, Or.inl ⟨_, SqL.of hp, rfl⟩, k _ _ _ _ _ (Ext.refl c) (.int _) (by rw [← rl.length]; exact q)⟩
  · exact h.elim
/-- all, any of a list of truth values -/
def blsOf : List D → Option (List Bool)
  | [] => some []
  | .bl b :: ds => (blsOf ds).map (b :: ·)
  | _ => none
theorem bls_ok {F : Hp} : ∀ {ds : List D} {vs : List V} {bs : List Bool}, RepL K F ds vs → blsOf ds = some bs → vs = bs.map V.bl
  | [], _, bs, r, e => by
    cases r
    cases e
    rfl
  | d :: ds, _, bs, r, e => by
    cases r with
    | cons r t =>
      cases d with
      | bl b =>
        obtain ⟨cs, e1, e2⟩ := Option.map_eq_some_iff.mp (show (blsOf ds).map (b :: ·) = some bs from e)
        subst e2
        cases r
        rw [bls_ok t e1]
        rfl
      | _ => exact nomatch (show (none : Option (List Bool)) = some bs from e)
theorem blsOf_map (bs : List Bool) : blsOf (bs.map D.bl) = some bs := by
  induction bs with
  | nil => rfl
  | cons b bs ih =>
    show (blsOf (bs.map D.bl)).map (b :: ·) = _
    rw [ih]
    rfl
def rAll3 : List D → Gp → DK → Prop := fun ds G Q => match ds with
  | [.lst ds] => match blsOf ds with
    | some bs => Q (.bl (bs.all id)) G
    | none => False
  | _ => False
def rAny3 : List D → Gp → DK → Prop := fun ds G Q => match ds with
  | [.lst ds] => match blsOf ds with
    | some bs => Q (.bl (bs.any id)) G
    | none => False
  | _ => False
theorem cd_all : CallD K (fun vs H Q => ∃ (a : Addr) (bs : List Bool), vs = [V.ref a] ∧ SqL K H a (bs.map V.bl) ∧ Q (.bl (bs.all id)) H) rAll3 := by
  intro F G H xs ds Q Q3 c r h k
  unfold rAll3 at h
  split at h
  · split at h
    · rename_i bs eb
      obtain ⟨v, rfl, rv⟩ := r.inv1
      cases rv with
      | lst s rl =>
        have ev := bls_ok rl eb
        subst ev
        exact ⟨_, bs, rfl, SqL.of (c.frz _ _ s), k _ _ _ _ _ (Ext.refl c) (.bl _) h⟩
    · exact h.elim
  · exact h.elim
theorem cd_any : CallD K (fun vs H Q => ∃ (a : Addr) (bs : List Bool), vs = [V.ref a] ∧ SqL K H a (bs.map V.bl) ∧ Q (.bl (bs.any id)) H) rAny3 := by
  intro F G H xs ds Q Q3 c r h k
  unfold rAny3 at h
  split at h
  · split at h
    · rename_i bs eb
      obtain ⟨v, rfl, rv⟩ := r.inv1
      cases rv with
      | lst s rl =>
        have ev := bls_ok rl eb
        subst ev
        exact ⟨_, bs, rfl, SqL.of (c.frz _ _ s), k _ _ _ _ _ (Ext.refl c) (.bl _) h⟩
    · exact h.elim
  · exact h.elim
/-- int(i), int(b), int(text) -/
def rInt3 : List D → Gp → DK → Prop := fun ds G Q => match ds with
  | [.int i] => Q (.int i) G
  | [.bl b] => Q (.int (if b then 1 else 0)) G
  | [.str s] => ∃ n, PySem.intText? s = some n ∧ s.length ≤ 640 ∧ Q (.int n) G
  | _ => False
theorem cd_int : CallD K (fun xs H Q => ((∃ i, xs = [.int i] ∧ Q (.int i) H) ∨ ∃ k, xs = [.bl k] ∧ Q (.int (if k then 1 else 0)) H) ∨ ∃ a n, xs = [.str a] ∧ PySem.intText? a = some n ∧ a.length ≤ 640 ∧ Q (.int n) H) rInt3 := by
  intro F G H xs ds Q Q3 c r h k
  unfold rInt3 at h
  split at h
  · obtain ⟨v, rfl, rv⟩ := r.inv1
    cases rv
    exact .inl (.inl ⟨_, rfl, k _ _ _ _ _ (Ext.refl c) (.int _) h⟩)
  · obtain ⟨v, rfl, rv⟩ := r.inv1
    cases rv
    exact .inl (.inr ⟨_, rfl, k _ _ _ _ _ (Ext.refl c) (.int _) h⟩)
  · obtain ⟨v, rfl, rv⟩ := r.inv1
    cases rv
    obtain ⟨n, h1, h2, q⟩ := h
    exact .inr ⟨_, n, rfl, h1, h2, k _ _ _ _ _ (Ext.refl c) (.int _) q⟩
  · exact h.elim
theorem call_intA : CallR X (.type "int") (fun xs H Q => ((∃ i, xs = [.int i] ∧ Q (.int i) H) ∨ ∃ k, xs = [.bl k] ∧ Q (.int (if k then 1 else 0)) H) ∨ ∃ a n, xs = [.str a] ∧ PySem.intText? a = some n ∧ a.length ≤ 640 ∧ Q (.int n) H) := CallR.or call_int1 call_int_str
/-- str(i), str(text) -/
def rStr3 : List D → Gp → DK → Prop := fun ds G Q => match ds with
  | [.int i] => i.natAbs.log2 < 1920 ∧ Q (.str (toString i)) G
  | [.str s] => Q (.str s) G
  | _ => False
theorem cd_str : CallD K (fun xs H Q => (∃ i, xs = [.int i] ∧ i.natAbs.log2 < 1920 ∧ Q (.str (toString i)) H) ∨ ∃ a, xs = [.str a] ∧ Q (.str a) H) rStr3 := by
  intro F G H xs ds Q Q3 c r h k
  unfold rStr3 at h
  split at h
  · obtain ⟨v, rfl, rv⟩ := r.inv1
    cases rv
    exact .inl ⟨_, rfl, h.1, k _ _ _ _ _ (Ext.refl c) (.str _) h.2⟩
  · obtain ⟨v, rfl, rv⟩ := r.inv1
    cases rv
    exact .inr ⟨_, rfl, k _ _ _ _ _ (Ext.refl c) (.str _) h⟩
  · exact h.elim
theorem call_strA : CallR X (.type "str") (fun xs H Q => (∃ i, xs = [.int i] ∧ i.natAbs.log2 < 1920 ∧ Q (.str (toString i)) H) ∨ ∃ a, xs = [.str a] ∧ Q (.str a) H) := CallR.or call_str_int SkE.call_str_str
/-- abs, max, min, divmod of ints -/
def rAbs3 : List D → Gp → DK → Prop := fun ds G Q => match ds with
  | [.int i] => Q (.int (if i < 0 then -i else i)) G
  | _ => False
theorem cd_abs : CallD K (fun xs H Q => ∃ i, xs = [.int i] ∧ Q (.int (if i < 0 then -i else i)) H) rAbs3 := by
  intro F G H xs ds Q Q3 c r h k
  unfold rAbs3 at h
  split at h
  · obtain ⟨v, rfl, rv⟩ := r.inv1
    cases rv
    exact ⟨_, rfl, k _ _ _ _ _ (Ext.refl c) (.int _) h⟩
  · exact h.elim
def rMax23 : List D → Gp → DK → Prop := fun ds G Q => match ds with
  | [.int i, .int j] => Q (.int (if j > i then j else i)) G
  | _ => False
def rMin23 : List D → Gp → DK → Prop := fun ds G Q => match ds with
  | [.int i, .int j] => Q (.int (if j < i then j else i)) G
  | _ => False
theorem cd_max2 : CallD K (fun xs H Q => ∃ i j, xs = [.int i, .int j] ∧ Q (.int (if j > i then j else i)) H) rMax23 := by
  intro F G H xs ds Q Q3 c r h k
  unfold rMax23 at h
  split at h
  · obtain ⟨v, u, rfl, rv, r2⟩ := r.inv2
    cases rv; cases r2
    exact ⟨_, _, rfl, k _ _ _ _ _ (Ext.refl c) (.int _) h⟩
  · exact h.elim
theorem cd_min2 : CallD K (fun xs H Q => ∃ i j, xs = [.int i, .int j] ∧ Q (.int (if j < i then j else i)) H) rMin23 := by
  intro F G H xs ds Q Q3 c r h k
  unfold rMin23 at h
  split at h
  · obtain ⟨v, u, rfl, rv, r2⟩ := r.inv2
    cases rv; cases r2
    exact ⟨_, _, rfl, k _ _ _ _ _ (Ext.refl c) (.int _) h⟩
  · exact h.elim
def rDivmod3 : List D → Gp → DK → Prop := fun ds G Q => match ds with
  | [.int i, .int j] => CDiv i j ∧ Q (.tup [.int (i / j), .int (i % j)]) G
  | _ => False
theorem cd_divmod : CallD K (fun xs H Q => ∃ i j, xs = [.int i, .int j] ∧ CDiv i j ∧ ∀ p, H p = none → Q (.ref p) (upd H p (.tup [.int (i / j), .int (i % j)]))) rDivmod3 := by
  intro F G H xs ds Q Q3 c r h k
  unfold rDivmod3 at h
  split at h
  · obtain ⟨v, u, rfl, rv, r2⟩ := r.inv2
    rename_i i j
    cases rv; cases r2
    refine ⟨_, _, rfl, h.1, fun p hp => ?_⟩
    have x := Ext.newF c (.tup [.int (i / j), .int (i % j)]) hp
    exact k _ _ _ _ _ x (.tup (.inl (.inl upd_same)) (.cons (.int _) (.cons (.int _) .nil))) h.2
  · exact h.elim
/-- tuple(xs), list(xs) -/
def rTuple3 : List D → Gp → DK → Prop := fun ds G Q => match ds with
  | [.tup ds] => Q (.tup ds) G
  | [.lst ds] => Q (.tup ds) G
  | [.ref p] => ∃ ds, G p = some (.lst ds) ∧ Q (.tup ds) G
  | _ => False
theorem cd_tuple : CallD K (fun xs H Q => ∃ p ys, xs = [.ref p] ∧ ((SqL K H p ys ∧ ∀ l, H l = none → Q (.ref l) (upd H l (.tup ys))) ∨ (SqT K H p ys ∧ Q (.ref p) H))) rTuple3 := by
  intro F G H xs ds Q Q3 c r h k
  unfold rTuple3 at h
  split at h
  · obtain ⟨v, rfl, rv⟩ := r.inv1
    cases rv with
    | tup s rl => exact ⟨_, _, rfl, .inr ⟨sqT_mono c.frz s, k _ _ _ _ _ (Ext.refl c) (.tup s rl) h⟩⟩
  · obtain ⟨v, rfl, rv⟩ := r.inv1
    cases rv with
    | @lst a _ vs s rl =>
      refine ⟨_, _, rfl, .inl ⟨SqL.of (c.frz _ _ s), fun p hp => ?_⟩⟩
      have x := Ext.newF c (.tup vs) hp
      exact k _ _ _ _ _ x (.tup (.inl (.inl upd_same)) (rl.mono x.le)) h
  · obtain ⟨v, rfl, rv⟩ := r.inv1
    cases rv
    obtain ⟨ds, e, q⟩ := h
    obtain ⟨_, vs, hp, rl⟩ := own_lst c e
    refine ⟨_, _, rfl, .inl ⟨SqL.of hp, fun p hp => ?_⟩⟩
    have x := Ext.newF c (.tup vs) hp
    exact k _ _ _ _ _ x (.tup (.inl (.inl upd_same)) (rl.mono x.le)) q
  · exact h.elim
def rList3 : List D → Gp → DK → Prop := fun ds G Q => match ds with
  | [.tup ds] => Q (.lst ds) G
  | [.lst ds] => Q (.lst ds) G
  | [.ref p] => ∃ ds, G p = some (.lst ds) ∧ Q (.lst ds) G
  | _ => False
theorem cd_list : CallD K (fun xs H Q => ∃ p ys, xs = [.ref p] ∧ (SqL K H p ys ∨ SqT K H p ys) ∧ ∀ l, H l = none → Q (.ref l) (upd H l (.lst ys))) rList3 := by
  intro F G H xs ds Q Q3 c r h k
  unfold rList3 at h
  split at h
  · obtain ⟨v, rfl, rv⟩ := r.inv1
    cases rv with
    | @tup a _ vs s rl =>
      refine ⟨_, _, rfl, .inr (sqT_mono c.frz s), fun p hp => ?_⟩
      have x := Ext.newF c (.lst vs) hp
      exact k _ _ _ _ _ x (.lst upd_same (rl.mono x.le)) h
  · obtain ⟨v, rfl, rv⟩ := r.inv1
    cases rv with
    | @lst a _ vs s rl =>
      refine ⟨_, _, rfl, .inl (SqL.of (c.frz _ _ s)), fun p hp => ?_⟩
      have x := Ext.newF c (.lst vs) hp
      exact k _ _ _ _ _ x (.lst upd_same (rl.mono x.le)) h
  · obtain ⟨v, rfl, rv⟩ := r.inv1
    cases rv
    obtain ⟨ds, e, q⟩ := h
    obtain ⟨_, vs, hp, rl⟩ := own_lst c e
    refine ⟨_, _, rfl, .inl (SqL.of hp), fun p hp => ?_⟩
    have x := Ext.newF c (.lst vs) hp
    exact k _ _ _ _ _ x (.lst upd_same (rl.mono x.le)) q
  · exact h.elim

/-! subscripts -/
/-- the item of a place -/
def nth (ds : List D) (i : Int) : Option D := atI ds i
theorem atI_rep {F : Hp} {ds : List D} {vs : List V} {i : Int} {d : D} (r : RepL K F ds vs) (h : atI ds i = some d) : ∃ v, atI vs i = some v ∧ Rep K F d v := by
  unfold atI at h ⊢
  rw [← r.length]
  cases e : ixN ds.length i with
  | none => rw [e] at h; cases h
  | some j =>
    rw [e] at h
    exact r.get h
def rIx3 : R3 := fun x y G Q => match x, y with
  | .tup ds, .int i => match atI ds i with
    | some d => Q d G
    | none => False
  | .lst ds, .int i => match atI ds i with
    | some d => Q d G
    | none => False
  | .scr ds, .int i => match atI ds i with
    | some d => Q d G
    | none => False
  | .str s, .int i => s.length ≤ sizeLine ∧ ∃ c, atI s.cps.toList i = some c ∧ Q (.str ⟨#[c]⟩) G
  | .ref p, .int i => ∃ ds d, G p = some (.lst ds) ∧ atI ds i = some d ∧ Q d G
  | _, _ => False
theorem od_ix : OpD K (rIx K) rIx3 := by
  intro F G H x y dx dy Q Q3 c rx ry h k
  unfold rIx3 at h
  split at h
  · split at h
    · rename_i d e
      cases ry
      cases rx with
      | tup s rl =>
        obtain ⟨v, e2, r2⟩ := atI_rep rl e
        exact .inr (.inl ⟨_, _, _, _, rfl, rfl, sqT_mono c.frz s, e2, k _ _ _ _ _ (Ext.refl c) r2 h⟩)
    · exact h.elim
  · split at h
    · rename_i d e
      cases ry
      cases rx with
      | lst s rl =>
        obtain ⟨v, e2, r2⟩ := atI_rep rl e
        exact .inl ⟨_, _, _, _, rfl, rfl, SqL.of (c.frz _ _ s), e2, k _ _ _ _ _ (Ext.refl c) r2 h⟩
    · exact h.elim
  · split at h
    · rename_i d e
      cases ry
      cases rx with
      | scr s rl =>
        obtain ⟨v, e2, r2⟩ := atI_rep rl e
        exact .inl ⟨_, _, _, _, rfl, rfl, sqL_mono c.frz s, e2, k _ _ _ _ _ (Ext.refl c) r2 h⟩
    · exact h.elim
  · cases rx; cases ry
    obtain ⟨hz, cc, e, q⟩ := h
    exact .inr (.inr ⟨_, _, cc, rfl, rfl, hz, e, k _ _ _ _ _ (Ext.refl c) (.str _) q⟩)
  · cases rx; cases ry
    obtain ⟨ds, d, e0, e, q⟩ := h
    obtain ⟨_, vs, hp, rl⟩ := own_lst c e0
    obtain ⟨v, e2, r2⟩ := atI_rep rl e
    exact .inl ⟨_, _, _, _, rfl, rfl, SqL.of hp, e2, k _ _ _ _ _ (Ext.refl c) r2 q⟩
  · exact h.elim
/-- the item of a written place -/
def getI {α : Type} (ds : List α) (i : Nat) (Q : α → Prop) : Prop := match ds, i with
  | d :: _, 0 => Q d
  | _ :: ds, i + 1 => getI ds i Q
  | [], _ => False
theorem getI_of {α : Type} : ∀ {ds : List α} {i : Nat} {Q : α → Prop}, getI ds i Q → ∃ d, ds[i]? = some d ∧ Q d
  | [], _, _, h => h.elim
  | d :: _, 0, _, h => ⟨d, rfl, h⟩
  | _ :: ds, i + 1, _, h => getI_of (ds := ds) h
theorem getI_in {α : Type} : ∀ {ds : List α} {i : Nat} {d : α} {Q : α → Prop}, ds[i]? = some d → Q d → getI ds i Q
  | [], _, _, _, h, _ => by simp at h
  | d :: _, 0, _, _, h, q => by simp at h; subst h; exact q
  | _ :: ds, i + 1, _, _, h, q => getI_in (ds := ds) (by simpa using h) q
def ixD {α : Type} (ds : List α) (i : Int) (Q : α → Prop) : Prop := match i with
  | .ofNat k => getI ds k Q
  | .negSucc k => getI ds.reverse k Q
theorem ixD_of {α : Type} {ds : List α} {i : Int} {Q : α → Prop} (h : ixD ds i Q) : ∃ d, atI ds i = some d ∧ Q d := by
  cases i with
  | ofNat k =>
    obtain ⟨d, e, q⟩ := getI_of (show getI ds k Q from h)
    have hk : k < ds.length := (List.getElem?_eq_some_iff.mp e).1
    refine ⟨d, ?_, q⟩
    unfold atI ixN
    rw [if_pos (show (0 : Int) ≤ Int.ofNat k from Int.natCast_nonneg k), if_pos (show (Int.ofNat k) < (ds.length : Int) by show (k : Int) < _; omega)]
    exact e
  | negSucc k =>
    obtain ⟨d, e, q⟩ := getI_of (show getI ds.reverse k Q from h)
    have hk : k < ds.length := by
      have := (List.getElem?_eq_some_iff.mp e).1
      rwa [List.length_reverse] at this
    refine ⟨d, ?_, q⟩
    unfold atI ixN
    have h1 : ¬ (0 ≤ Int.negSucc k) := by omega
    have h2 : -(ds.length : Int) ≤ Int.negSucc k := by omega
    have h3 : (Int.negSucc k + (ds.length : Int)).toNat = ds.length - 1 - k := by omega
    rw [if_neg h1, if_pos h2, h3]
    show ds[ds.length - 1 - k]? = some d
    rw [List.getElem?_reverse hk] at e
    exact e
theorem ixD_in {α : Type} {ds : List α} {i : Int} {d : α} {Q : α → Prop} (h : atI ds i = some d) (q : Q d) : ixD ds i Q := by
  unfold atI ixN at h
  cases i with
  | ofNat k =>
    rw [if_pos (show (0 : Int) ≤ Int.ofNat k from Int.natCast_nonneg k)] at h
    by_cases hk : (Int.ofNat k) < (ds.length : Int)
    · rw [if_pos hk] at h
      exact getI_in (show ds[k]? = some d from h) q
    · rw [if_neg hk] at h
      cases h
  | negSucc k =>
    have h1 : ¬ (0 ≤ Int.negSucc k) := by omega
    rw [if_neg h1] at h
    by_cases h2 : -(ds.length : Int) ≤ Int.negSucc k
    · rw [if_pos h2] at h
      have h3 : (Int.negSucc k + (ds.length : Int)).toNat = ds.length - 1 - k := by omega
      rw [h3] at h
      have h : ds[ds.length - 1 - k]? = some d := h
      have hk : k < ds.length := by omega
      exact getI_in (show ds.reverse[k]? = some d by rw [List.getElem?_reverse hk]; exact h) q
    · rw [if_neg h2] at h
      cases h
def rIxN : R3 := fun x y G Q => match x, y with
  | .tup ds, .int i => ixD ds i fun d => Q d G
  | .lst ds, .int i => ixD ds i fun d => Q d G
  | .scr ds, .int i => ixD ds i fun d => Q d G
  | .str s, .int i => s.length ≤ sizeLine ∧ ixD s.cps.toList i fun c => Q (.str ⟨#[c]⟩) G
  | .ref p, .int i => ∃ ds, G p = some (.lst ds) ∧ ixD ds i fun d => Q d G
  | _, _ => False
theorem rIxN_imp {x y : D} {G : Gp} {Q : DK} (h : rIxN x y G Q) : rIx3 x y G Q := by
  unfold rIxN at h
  split at h
  · obtain ⟨d, e, q⟩ := ixD_of h
    show (match atI _ _ with | some d => Q d G | none => False)
    rw [e]
    exact q
  · obtain ⟨d, e, q⟩ := ixD_of h
    show (match atI _ _ with | some d => Q d G | none => False)
    rw [e]
    exact q
  · obtain ⟨d, e, q⟩ := ixD_of h
    show (match atI _ _ with | some d => Q d G | none => False)
    rw [e]
    exact q
  · obtain ⟨hz, h⟩ := h
    obtain ⟨d, e, q⟩ := ixD_of h
    exact ⟨hz, d, e, q⟩
  · obtain ⟨ds, eg, h⟩ := h
    obtain ⟨d, e, q⟩ := ixD_of h
    exact ⟨ds, d, eg, e, q⟩
  · exact h.elim
theorem de_ix (ha : DE X F0 a ta) (hb : DE X F0 b tb) (hs : PlainIx b := by intro _ _; rfl) : DE X F0 (.Subscript a b pos) (dOp rIxN ta tb) := PE.imp (pe_ix ix_seq ha hb hs) fun _ _ _ h => low_op (fun F G H x y dx dy Q Q3 c rx ry h k => od_ix F G H x y dx dy Q Q3 c rx ry (rIxN_imp h) k) h
/-- slices -/
abbrev TO3 := St3 → Gp → (Option Int → Gp → Prop) → Prop
def lowO (K : PySem.W.Frag) (F0 : Pt) (t : TO3) : TO := fun σ H Q => ∃ sd F G Q3, At K F0 F sd G σ H ∧ t sd G Q3 ∧ ∀ o F' G' H', Ext K F G H F' G' H' → Q3 o G' → Q o H'
def DOp (X : Cx) (F0 : Pt) (e : Option Expr) (t : TO3) : Prop := PO X e (lowO X.K F0 t)
def dNoPart : TO3 := fun _ G Q => Q none G
def dPart (t : TE3) : TO3 := fun sd G Q => t sd G fun d G1 => match d with
  | .int i => Q (some i) G1
  | _ => False
theorem PO.imp {e : Option Expr} {te t : TO} (h : PO X e te) (i : ∀ σ H Q, t σ H Q → te σ H Q) : PO X e t := ⟨fun pins s σ H Q I q => h.run pins s σ H Q I (i σ H Q q)⟩
theorem do_none : DOp X F0 none dNoPart := PO.imp po_none fun σ H Q ⟨sd, F, G, Q3, at_, h, k⟩ => k _ _ _ _ (Ext.refl at_.cp) h
theorem do_some (h : DE X F0 e te) : DOp X F0 (some e) (dPart te) := PO.imp (po_some h) fun σ H Q ⟨sd, F, G, Q3, at_, h, k⟩ => ⟨sd, F, G, _, at_, h, fun d v F1 G1 H1 l1 r1 q1 => by
  cases d <;> first | exact q1.elim | skip
  cases r1
  exact ⟨_, rfl, k _ _ _ _ l1 q1⟩⟩
def cutD (xs : List D) (lo hi : Option Int) : List D := (xs.drop (HT.sIx xs.length 0 lo)).take (HT.sIx xs.length xs.length hi - HT.sIx xs.length 0 lo)
theorem cut_rep {F : Hp} {ds : List D} {vs : List V} (r : RepL K F ds vs) (lo hi : Option Int) : RepL K F (cutD ds lo hi) (cutV vs lo hi) := by
  unfold cutD cutV
  rw [r.length]
  exact (r.drop _).take _
def rSl3 : D → Option Int → Option Int → Gp → DK → Prop := fun x lo hi G Q => match x with
  | .tup ds => Q (.tup (cutD ds lo hi)) G
  | .lst ds => Q (.lst (cutD ds lo hi)) G
  | .scr ds => Q (.lst (cutD ds lo hi)) G
  | .str z => z.length ≤ sizeLine ∧ Q (.str (cutS z lo hi)) G
  | .ref p => ∃ ds, G p = some (.lst ds) ∧ Q (.lst (cutD ds lo hi)) G
  | _ => False
def dSl (te : TE3) (tl th : TO3) : TE3 := fun sd G Q => te sd G fun x G1 => tl sd G1 fun l G2 => th sd G2 fun u G3 => rSl3 x l u G3 Q
theorem cut_all {ds : List D} {lo hi : Option Int} (h : HT.sIx ds.length 0 lo = 0 ∧ HT.sIx ds.length ds.length hi = ds.length) : cutD ds lo hi = ds := by
  unfold cutD
  rw [h.1, h.2]
  simp
def slD (ds : List D) (lo hi : Option Int) : List D := match lo, hi with
  | some (.ofNat k), none => ds.drop k
  | none, some (.ofNat k) => ds.take k
  | lo, hi => cutD ds lo hi
theorem slD_eq (ds : List D) (lo hi : Option Int) : slD ds lo hi = cutD ds lo hi := by
  unfold slD
  split
  · rename_i k
    unfold cutD
    rw [show HT.sIx ds.length 0 (some (Int.ofNat k)) = min k ds.length from HT.sIx_nat ds.length 0 k]
    show _ = (ds.drop (min k ds.length)).take (ds.length - min k ds.length)
    by_cases h : k ≤ ds.length
    · rw [Nat.min_eq_left h, List.take_of_length_le (by rw [List.length_drop]; omega)]
    · rw [Nat.min_eq_right (by omega), List.drop_eq_nil_of_le (by omega), List.drop_length]
      simp
  · rename_i k
    unfold cutD
    rw [show HT.sIx ds.length ds.length (some (Int.ofNat k)) = min k ds.length from HT.sIx_nat ds.length ds.length k]
    show _ = (ds.drop 0).take (min k ds.length - 0)
    rw [List.drop_zero, Nat.sub_zero]
    by_cases h : k ≤ ds.length
    · rw [Nat.min_eq_left h]
    · rw [Nat.min_eq_right (by omega), List.take_length, List.take_of_length_le (by omega)]
  · rfl
def rSlN : D → Option Int → Option Int → Gp → DK → Prop := fun x lo hi G Q => match x with
  | .tup ds => Q (.tup (slD ds lo hi)) G
  | .lst ds => Q (.lst (slD ds lo hi)) G
  | .scr ds => Q (.lst (slD ds lo hi)) G
  | .str z => z.length ≤ sizeLine ∧ Q (.str (cutS z lo hi)) G
  | .ref p => ∃ ds, G p = some (.lst ds) ∧ Q (.lst (slD ds lo hi)) G
  | _ => False
theorem rSlN_eq : rSlN = rSl3 := by
  funext x lo hi G Q
  unfold rSlN rSl3
  cases x <;> simp only [slD_eq]
def dSlN (te : TE3) (tl th : TO3) : TE3 := fun sd G Q => te sd G fun x G1 => tl sd G1 fun l G2 => th sd G2 fun u G3 => rSlN x l u G3 Q
theorem dSlN_eq {te : TE3} {tl th : TO3} : dSlN te tl th = dSl te tl th := by
  unfold dSlN dSl
  rw [rSlN_eq]
theorem de_slice0 {lo hi : Option Expr} {tl th : TO3} {p2 : Pos} (he : DE X F0 e te) (hl : DOp X F0 lo tl) (hu : DOp X F0 hi th) : DE X F0 (.Subscript e (.Slice lo hi none p2) pos) (dSl te tl th) := by
  refine PE.imp (pe_slice (SlR.or sl_list (SlR.or sl_tupA sl_str)) he hl hu) fun σ H Q ⟨sd, F, G, Q3, at_, h, k⟩ => ?_
  refine ⟨sd, F, G, _, at_, h, fun d v F1 G1 H1 l1 r1 q1 => ⟨sd, F1, G1, _, at_.step l1, q1, fun lo F2 G2 H2 l2 q2 => ⟨sd, F2, G2, _, (at_.step l1).step l2, q2, fun hi F3 G3 H3 l3 q3 => ?_⟩⟩⟩
  have k3 := k.mono ((l1.trans l2).trans l3)
  have r3 := (r1.mono l2.le).mono l3.le
  have c := l3.cp
  unfold rSl3 at q3
  split at q3
  · cases r3 with
    | @tup a ds vs s rl =>
      refine .inr (.inl ⟨_, _, rfl, sqT_mono c.frz s, fun z => ?_, fun z p hp => ?_⟩)
      · rw [← rl.length] at z
        rw [cut_all z] at q3
        exact k3 _ _ _ _ _ (Ext.refl c) (.tup s rl) q3
      · have x := Ext.newF c (.tup (cutV vs lo hi)) hp
        exact k3 _ _ _ _ _ x (.tup (.inl (.inl upd_same)) (cut_rep (rl.mono x.le) lo hi)) q3
  · cases r3 with
    | @lst a ds vs s rl =>
      refine .inl ⟨_, _, rfl, SqL.of (c.frz _ _ s), fun p hp => ?_⟩
      have x := Ext.newF c (.lst (cutV vs lo hi)) hp
      exact k3 _ _ _ _ _ x (.lst upd_same (cut_rep (rl.mono x.le) lo hi)) q3
  · cases r3 with
    | @scr a ds vs s rl =>
      refine .inl ⟨_, _, rfl, sqL_mono c.frz s, fun p hp => ?_⟩
      have x := Ext.newF c (.lst (cutV vs lo hi)) hp
      exact k3 _ _ _ _ _ x (.lst upd_same (cut_rep (rl.mono x.le) lo hi)) q3
  · cases r3
    exact .inr (.inr ⟨_, rfl, q3.1, k3 _ _ _ _ _ (Ext.refl c) (.str _) q3.2⟩)
  · cases r3
    obtain ⟨ds, e0, q⟩ := q3
    obtain ⟨_, vs, hp, rl⟩ := own_lst c e0
    refine .inl ⟨_, _, rfl, SqL.of hp, fun p hp => ?_⟩
    have x := Ext.newF c (.lst (cutV vs lo hi)) hp
    exact k3 _ _ _ _ _ x (.lst upd_same (cut_rep (rl.mono x.le) lo hi)) q
  · exact q3.elim
theorem de_slice {lo hi : Option Expr} {tl th : TO3} {p2 : Pos} (he : DE X F0 e te) (hl : DOp X F0 lo tl) (hu : DOp X F0 hi th) : DE X F0 (.Subscript e (.Slice lo hi none p2) pos) (dSlN te tl th) := by
  rw [dSlN_eq]
  exact de_slice0 he hl hu
end
end L3
set_option Elab.async false
set_option linter.all false
set_option maxRecDepth 100000
set_option maxHeartbeats 4000000
namespace L3
open PySem PySem.Spec PyProof.Rows L2

/-! ### targets -/
abbrev TG3 := D → St3 → Gp → (St3 → Gp → Prop) → Prop
abbrev TGs3 := List D → St3 → Gp → (St3 → Gp → Prop) → Prop
def lowG (K : PySem.W.Frag) (F0 : Pt) (t : TG3) : TG := fun v σ H Q => ∃ d sd F G Q3, At K F0 F sd G σ H ∧ Rep K F d v ∧ t d sd G Q3 ∧ QS K F G H Q3 Q
def lowGs (K : PySem.W.Frag) (F0 : Pt) (t : TGs3) : TGs := fun vs σ H Q => ∃ ds sd F G Q3, At K F0 F sd G σ H ∧ RepL K F ds vs ∧ t ds sd G Q3 ∧ QS K F G H Q3 Q
def DG (X : Cx) (F0 : Pt) (e : Expr) (t : TG3) : Prop := PG X e (lowG X.K F0 t)
def DGs (X : Cx) (F0 : Pt) (es : List Expr) (t : TGs3) : Prop := PGs X es (lowGs X.K F0 t)
section
variable {X : Cx} {K : PySem.W.Frag} {F0 : Pt} {a b c e o : Expr} {es rest : List Expr} {ta tb tc te : TE3} {t : TA3} {pos p : Pos} {x : Str}
theorem PG.imp {e : Expr} {te t : TG} (h : PG X e te) (i : ∀ v σ H Q, t v σ H Q → te v σ H Q) : PG X e t := ⟨fun pins s σ H v u Q I r q => h.run pins s σ H v u Q I r (i v σ H Q q)⟩
theorem PGs.imp {es : List Expr} {te t : TGs} (h : PGs X es te) (i : ∀ v σ H Q, t v σ H Q → te v σ H Q) : PGs X es t := ⟨fun pins s σ H v u Q I r q => h.run pins s σ H v u Q I r (i v σ H Q q)⟩
def gN (i : Nat) : TG3 := fun d sd G Q => sput (fun sd' => Q sd' G) (some d) sd i
theorem dg_name (i : Nat) {x : Str} (hN : X.N.Nodup) (hi : X.N[i]? = some x := by rfl) (hx : Loc X.env.scope x := by first | exact Or.inl rfl | exact Or.inr rfl) (hf : X.fn x = true ∨ X.env.scope.names.lookup x = some .local := by first | exact .inl rfl | exact .inr rfl) : DG X F0 (.Name x pos) (gN i) :=
  PG.imp (pg_name hN hi hx hf) fun v σ H Q ⟨d, sd, F, G, Q3, at_, r, h, k⟩ => k _ _ _ _ _ (Ext.refl at_.cp) (at_.rs.set i r) (sput_set h)
def gsNil : TGs3 := fun ds sd G Q => match ds with
  | [] => Q sd G
  | _ => False
def gsCons (t : TG3) (u : TGs3) : TGs3 := fun ds sd G Q => match ds with
  | d :: r => t d sd G fun sd' G' => u r sd' G' Q
  | [] => False
theorem dgs_nil : DGs X F0 [] gsNil := PGs.imp pgs_nil fun v σ H Q ⟨ds, sd, F, G, Q3, at_, r, h, k⟩ => by
  unfold gsNil at h
  split at h
  · cases r
    exact ⟨rfl, k _ _ _ _ _ (Ext.refl at_.cp) at_.rs h⟩
  · exact h.elim
theorem dgs_cons {t : TG3} {u : TGs3} (h1 : DG X F0 e t) (h2 : DGs X F0 es u) (hs : (assignEach (e :: es) X.env).map (·.2) = assign e X.env :: (assignEach es X.env).map (·.2) := by rfl) : DGs X F0 (e :: es) (gsCons t u) :=
  PGs.imp (pgs_cons h1 h2 hs) fun v σ H Q ⟨ds, sd, F, G, Q3, at_, r, h, k⟩ => by
    unfold gsCons at h
    split at h
    · cases r with
      | cons r rr => exact ⟨_, _, rfl, _, sd, F, G, _, at_, r, h, fun sd' σ' F' G' H' l rs q => ⟨_, sd', F', G', Q3, ⟨at_.ext.trans l, rs⟩, rr.mono l.le, q, k.mono l⟩⟩
    · exact h.elim
/-- (a, b, ..) = a tuple of so many -/
def lenIs : Nat → List D → Bool
  | 0, [] => true
  | n + 1, _ :: r => lenIs n r
  | _, _ => false
theorem lenIs_ok : ∀ {n : Nat} {ds : List D}, lenIs n ds = true → ds.length = n
  | 0, [], _ => rfl
  | n + 1, _ :: r, h => by
    rw [List.length_cons, lenIs_ok (n := n) (ds := r) h]
def gTp (n : Nat) (t : TGs3) : TG3 := fun d sd G Q => match d with
  | .tup ds => br (lenIs n ds) (t ds sd G Q) False
  | _ => False
theorem dg_tup {k : Nat} {t : TGs3} {n : Nat} (hc : X.calm = true) (h : DGs X F0 es t) (hn : (assignEach es X.env).length = n := by rfl) (hst : (assignEach es X.env).findIdx? (·.1) = none := by rfl) : DG X F0 (.Tuple es k pos) (gTp n t) :=
  PG.imp (pg_tup hc h hn hst) fun v σ H Q ⟨d, sd, F, G, Q3, at_, r, h, k⟩ => by
    unfold gTp at h
    split at h
    · rename_i ds
      cases el : lenIs n ds with
      | false => rw [el] at h; exact h.elim
      | true =>
        rw [el] at h
        cases r with
        | tup s rl => exact ⟨_, _, rfl, sqT_mono at_.cp.frz s, by rw [← rl.length]; exact lenIs_ok el, ds, sd, F, G, Q3, at_, rl, h, k⟩
    · exact h.elim
/-- o[i] = .., a list that is being filled -/
def gSubL (to ti : TE3) : TG3 := fun d sd G Q => to sd G fun o G1 => ti sd G1 fun i G2 => match o, i with
  | .ref p, .int k => ∃ ds j, G2 p = some (.lst ds) ∧ ixN ds.length k = some j ∧ Q sd (gupd G2 p (.lst (ds.set j d)))
  | _, _ => False
theorem dg_subL {i : Expr} {to ti : TE3} (ho : DE X F0 o to) (hi : DE X F0 i ti)
    (ha : ∀ v, assign (.Subscript o i pos) X.env v = (do
      let ov ← holding [v] (eval o X.env)
      let iv ← holding [v, ov] (eval i X.env)
      standAt pos
      holding [v, ov, iv] (setItem ov iv v)
      release [v, ov, iv] []) := by intro _; rfl) : DG X F0 (.Subscript o i pos) (gSubL to ti) :=
  PG.imp (pg_sub ho hi set_list ha) fun v σ H Q ⟨d, sd, F, G, Q3, at_, r, h, k⟩ => ⟨sd, F, G, _, at_, h, fun dO vO F1 G1 H1 l1 r1 q1 => ⟨sd, F1, G1, _, at_.step l1, q1, fun dI vI F2 G2 H2 l2 r2 q2 => by
    have l := l1.trans l2
    split at q2
    · obtain ⟨ds, j, e1, e2, q⟩ := q2
      obtain ⟨_, vs, hp, rl⟩ := own_lst l2.cp e1
      cases r1; cases r2
      rename_i p kk
      refine ⟨_, _, _, j, rfl, rfl, hp, by rw [← rl.length]; exact e2, ?_⟩
      have y := Ext.put l2.cp (o := .lst (vs.set j v)) (u := .lst (ds.set j d)) e1 (fun x z => by rw [hp] at z; cases z) (fun z => by rw [hp] at z; cases z) (fun _ _ _ z => nomatch z) ⟨_, upd_same, rl.set (r.mono l.le) j⟩
      exact k _ _ _ _ _ (l.trans y) ((at_.rs.mono l.le).mono y.le) q
    · exact q2.elim⟩⟩

/-! ### statements -/
variable {st : Stmt} {sts : List Stmt} {tt : TT3} {ts us : TS3}
def dNext : TS3 := fun D sd G => D.nx sd G
def dSeq (t u : TS3) : TS3 := fun D sd G => t { D with nx := u D } sd G
theorem dss_nil : DSs X F0 [] dNext := PSs.imp pss_nil fun D σ H ⟨sd, F, G, D3, at_, h, k⟩ => k.nx _ _ _ _ _ (Ext.refl at_.cp) at_.rs h
theorem dss_one (h : DS X F0 st ts) : DSs X F0 [st] ts := pss_one h
theorem dss_cons (h1 : DS X F0 st ts) (h2 : DSs X F0 sts us) : DSs X F0 (st :: sts) (dSeq ts us) :=
  PSs.imp (pss_cons h1 h2) fun D σ H ⟨sd, F, G, D3, at_, h, k⟩ => ⟨sd, F, G, _, at_, h, ⟨fun sd' σ' F' G' H' l rs q => ⟨sd', F', G', D3, ⟨at_.ext.trans l, rs⟩, q, k.mono l⟩, k.rt, k.bk, k.ct⟩⟩
theorem ds_pass : DS X F0 (.Pass pos) dNext := PS.imp ps_pass fun D σ H ⟨sd, F, G, D3, at_, h, k⟩ => k.nx _ _ _ _ _ (Ext.refl at_.cp) at_.rs h
def dBreak : TS3 := fun D sd G => D.bk sd G
def dCont : TS3 := fun D sd G => D.ct sd G
theorem ds_break : DS X F0 (.Break pos) dBreak := PS.imp ps_break fun D σ H ⟨sd, F, G, D3, at_, h, k⟩ => k.bk _ _ _ _ _ (Ext.refl at_.cp) at_.rs h
theorem ds_continue : DS X F0 (.Continue pos) dCont := PS.imp ps_continue fun D σ H ⟨sd, F, G, D3, at_, h, k⟩ => k.ct _ _ _ _ _ (Ext.refl at_.cp) at_.rs h
def dDrop (te : TE3) : TS3 := fun D sd G => te sd G fun _ G1 => D.nx sd G1
theorem ds_expr (he : DE X F0 e te) (hs : swapsWith e none pos.line X.env = pure false := by rfl) : DS X F0 (.Expr e pos) (dDrop te) :=
  PS.imp (ps_expr he hs) fun D σ H ⟨sd, F, G, D3, at_, h, k⟩ => ⟨sd, F, G, _, at_, h, fun d v F1 G1 H1 l r q => k.nx _ _ _ _ _ l (at_.rs.mono l.le) q⟩
def dRet (te : TE3) : TS3 := fun D sd G => te sd G D.rt
theorem ds_ret (he : DE X F0 e te) : DS X F0 (.Return (some e) pos) (dRet te) := PS.imp (ps_ret he) fun D σ H ⟨sd, F, G, D3, at_, h, k⟩ => ⟨sd, F, G, _, at_, h, k.rt⟩
def dRetN : TS3 := fun D _ G => D.rt .non G
theorem ds_retN : DS X F0 (.Return none pos) dRetN := PS.imp ps_retN fun D σ H ⟨sd, F, G, D3, at_, h, k⟩ => k.rt _ _ _ _ _ (Ext.refl at_.cp) .non h
def dIfS (c : TT3) (t u : TS3) : TS3 := fun D sd G => c sd G fun b G1 => br b (t D sd G1) (u D sd G1)
theorem ds_if {c : Expr} {a b : List Stmt} (hc : DT X F0 c tt) (ha : DSs X F0 a ts) (hb : DSs X F0 b us) : DS X F0 (.If c a b pos) (dIfS tt ts us) :=
  PS.imp (ps_if hc ha hb) fun D σ H ⟨sd, F, G, D3, at_, h, k⟩ => ⟨sd, F, G, _, at_, h, fun b F1 G1 H1 l q => by
    cases b with
    | true => exact iteT ⟨sd, F1, G1, D3, at_.step l, q, k.mono l⟩
    | false => exact iteF ⟨sd, F1, G1, D3, at_.step l, q, k.mono l⟩⟩
/-- code that is never reached -/
def dNever : TS3 := fun _ _ _ => False
theorem ds_never : DS X F0 st dNever := ⟨fun _ _ _ _ _ _ ⟨_, _, _, _, _, h, _⟩ => h.elim⟩
theorem dss_never : DSs X F0 sts dNever := ⟨fun _ _ _ _ _ _ ⟨_, _, _, _, _, h, _⟩ => h.elim⟩
/-- name = e -/
def dSet (i : Nat) (te : TE3) : TS3 := fun D sd G => te sd G fun d G1 => sput (fun sd' => D.nx sd' G1) (some d) sd i
theorem ds_set (i : Nat) {x : Str} {pos' : Pos} (hN : X.N.Nodup) (he : DE X F0 e te) (hi : X.N[i]? = some x := by rfl) (hx : Loc X.env.scope x := by first | exact Or.inl rfl | exact Or.inr rfl) (hs : swapsWith e (some (.Name x pos')) pos.line X.env = pure false := by rfl)
    (hf : X.fn x = true ∨ X.env.scope.names.lookup x = some .local := by first | exact .inl rfl | exact .inr rfl) : DS X F0 (.Assign [.Name x pos'] e pos) (dSet i te) :=
  PS.imp (ps_set hN hi hx he hs hf) fun D σ H ⟨sd, F, G, D3, at_, h, k⟩ => ⟨sd, F, G, _, at_, h, fun d v F1 G1 H1 l r q => k.nx _ _ _ _ _ l ((at_.rs.mono l.le).set i r) (sput_set q)⟩
/-- target = e -/
def dAsg (te : TE3) (g : TG3) : TS3 := fun D sd G => te sd G fun d G1 => g d sd G1 D.nx
theorem ds_asg {tg : Expr} {g : TG3} (he : DE X F0 e te) (hg : DG X F0 tg g) (hs : swapsWithSole [tg] e pos.line X.env = pure false := by rfl) (hw : swappedStores [tg] e X.env = pure none := by rfl)
    (h1 : (assignEach [tg] X.env).map (·.2) = [assign tg X.env] := by rfl) : DS X F0 (.Assign [tg] e pos) (dAsg te g) :=
  PS.imp (ps_asg he hg hs hw h1) fun D σ H ⟨sd, F, G, D3, at_, h, k⟩ => ⟨sd, F, G, _, at_, h, fun d v F1 G1 H1 l r q => ⟨d, sd, F1, G1, _, at_.step l, r, q, k.nx.mono l⟩⟩
/-- a, b = e1, e2; a, b, c = e1, e2, e3 (plain local names) -/
def dPar (i j : Nat) (t : TA3) : TS3 := fun D sd G => t sd G fun ds G1 => match ds with
  | [d, d'] => sput (fun s1 => sput (fun s2 => D.nx s2 G1) (some d') s1 j) (some d) sd i
  | _ => False
theorem ds_par (i j : Nat) {x y : Str} {a b : Expr} {px py pt : Pos} {kt k2 pt2} (hc : X.calm = true) (hN : X.N.Nodup) (ha : DA X F0 [a, b] t) (hi : X.N[i]? = some x := by rfl) (hj : X.N[j]? = some y := by rfl) (hij : i ≠ j := by decide)
    (hx : X.env.scope.names.lookup x = some .local := by rfl) (hy : X.env.scope.names.lookup y = some .local := by rfl)
    (hw : swappedStores [.Tuple [.Name x px, .Name y py] kt pt] (.Tuple [a, b] k2 pt2) X.env = pure (some [x, y]) := by rfl)
    (hs : swapsWithSole [.Tuple [.Name x px, .Name y py] kt pt] (.Tuple [a, b] k2 pt2) pos.line X.env = pure false := by rfl) :
    DS X F0 (.Assign [.Tuple [.Name x px, .Name y py] kt pt] (.Tuple [a, b] k2 pt2) pos) (dPar i j t) :=
  PS.imp (ps_par hc hN hi hj hij hx hy ha hw hs) fun D σ H ⟨sd, F, G, D3, at_, h, k⟩ => ⟨sd, F, G, _, at_, h, fun ds vs F1 G1 H1 l r q => by
    split at q
    · obtain ⟨v, u, e, r1, r2⟩ := r.inv2
      subst e
      exact ⟨v, u, rfl, k.nx _ _ _ _ _ l (((at_.rs.mono l.le).set i r1).set j r2) (sput_set (K := fun s2 => D3.nx s2 G1) (sput_set (K := fun s1 => sput (fun s2 => D3.nx s2 G1) (some _) s1 j) q))⟩
    · exact q.elim⟩
end
end L3
set_option Elab.async false
set_option linter.all false
set_option maxRecDepth 100000
set_option maxHeartbeats 4000000
namespace L3
open PySem PySem.Spec PyProof.Rows L2

/-! ### a def's promise over data -/
def QX (K : PySem.W.Frag) (F : Hp) (G : Gp) (H : Hp) (E3 : EK) (E : XK) : Prop := ∀ C fs d F' G' H', Ext K F G H F' G' H' → XR K F' H' d fs → E3 C fs G' → E (.ref C) d H'
def dn (K : PySem.W.Frag) (sp : Sp3) : Sp := fun vs H Q E => ∃ ds F G Q3 E3, Cp K F G H ∧ RepL K F ds vs ∧ sp ds G Q3 E3 ∧ QR K F G H Q3 Q ∧ QX K F G H E3 E
/-- a value may be looked at otherwise where it is handed back -/
def Ghost (K : PySem.W.Frag) (d : D) (G : Gp) (d' : D) (G' : Gp) : Prop := ∀ F H v, Cp K F G H → Rep K F d v → ∃ F', Ext K F G H F' G' H ∧ Rep K F' d' v
def Ret (K : PySem.W.Frag) (Q3 : DK) : DK := fun d G => ∃ d' G', Ghost K d G d' G' ∧ Q3 d' G'
section
variable {K : PySem.W.Frag} {Q3 : DK} {d : D} {G G' : Gp}
theorem ret_id (q : Q3 d G) : Ret K Q3 d G := ⟨d, G, fun F H v c r => ⟨F, Ext.refl c, r⟩, q⟩
theorem ret_sub (s : Sub G' G) (q : Q3 d G') : Ret K Q3 d G := ⟨d, G', fun F H v c r => ⟨F, Ext.sub c s, r⟩, q⟩
def gdel (G : Gp) (p : Addr) : Gp := fun q => if q = p then none else G q
theorem gdel_upd {p : Addr} {o : DO} (h : G p = none) : gdel (gupd G p o) p = G := by
  funext q
  unfold gdel gupd
  by_cases hq : q = p
  · rw [if_pos hq, hq, h]
  · rw [if_neg hq, if_neg hq]
theorem Ext.freeze {F H : Hp} {p : Addr} {ds : List D} (c : Cp K F G H) (h : G p = some (.lst ds)) : ∃ F', Ext K F G H F' (gdel G p) H ∧ Rep K F' (.lst ds) (.ref p) := by
  obtain ⟨hF, vs, hp, r⟩ := c.own p _ h
  have c1 : Cp K F (gdel G p) H := c.sub fun q o e => by
    unfold gdel at e
    split at e
    · cases e
    · exact ⟨o, e, .refl o⟩
  have x1 : Ext K F G H F (gdel G p) H := ⟨Le.refl _, fun a o e g f _ => ⟨e, by unfold gdel; split <;> first | rfl | exact g, f⟩, c1⟩
  refine ⟨upd F p (.lst vs), ⟨Le.new hF, fun a o e g f n => ?_, ?_⟩, .lst upd_same (r.mono (Le.new hF))⟩
  · have ha : a ≠ p := fun q => by rw [q, h] at g; cases g
    obtain ⟨h1, g1, f1⟩ := x1.st a o e g f n
    exact ⟨h1, g1, by rw [upd_ne ha]; exact f1⟩
  · obtain ⟨F', l, c', _⟩ := c.freeze h
    refine ⟨fun a o e => ?_, fun q o e => ?_⟩
    · by_cases ha : a = p
      · subst ha; rw [upd_same] at e; cases e; exact hp
      · rw [upd_ne ha] at e; exact c.frz a o e
    · have hq : q ≠ p := fun z => by unfold gdel at e; rw [if_pos z] at e; cases e
      obtain ⟨f, r2⟩ := c1.own q o e
      refine ⟨by rw [upd_ne hq]; exact f, r2.keep (Le.new hF) rfl fun C dx ds' eo => ?_⟩
      subst eo
      obtain ⟨h1, _, vs', _, z⟩ := r2
      have hdx : dx ≠ p := by
        rintro rfl
        rcases z with ⟨_, _, z⟩ | ⟨_, z⟩ <;> · rw [hp] at z; cases z
      exact ⟨rfl, h1.upd hdx⟩
/-- a list that was filled is handed back -/
theorem ret_frz {p : Addr} {ds : List D} (h : G p = some (.lst ds)) (s : Sub G' (gdel G p)) (q : Q3 (.lst ds) G') : Ret K Q3 (.ref p) G := ⟨.lst ds, G', fun F H v c r => by
  cases r
  obtain ⟨F', x, r'⟩ := Ext.freeze c h
  exact ⟨F', x.trans (Ext.sub x.cp s), r'⟩, q⟩
end

/-- a def of the text that may be called by its name; dds: the last arguments where they are left out -/
structure Cal3 (P : Program) (w : World) (K : PySem.W.Frag) (mg : Str → Option Value) (base : Heap) (k : Nat) (x : Str) (sp : Sp3) (dds : List D) : Prop where
  ex : ∃ (f : Addr) (fd : FuncData) (ps : List Str) (ds : List Value) (dvs : List V), FnOk P w K mg base (L2.CX P w) k f fd ps (dn K sp) ∧ mg x = some (.ref f) ∧ PySem.W.keepIn K (.ref f) = true ∧ Binds K fd ps ds ∧ Vals dvs ds ∧ ∀ F, RepL K F dds dvs
section
variable {X : Cx} {F0 : Pt} {e : Expr} {es : List Expr} {t : TA3} {x : Str} {p pos : Pos} {k j : Nat} {sp : Sp3} {dds : List D} {W : WK}
def dCall (sp : Sp3) (dds : List D) (W : WK) (t : TA3) : TE3 := fun sd G Q => t sd G fun ds G1 => sp (ds ++ dds) G1 Q fun C fs G2 => W C fs sd G2
def NoW : WK := fun _ _ _ _ => False
theorem low_w {K : PySem.W.Frag} {F0 : Pt} {F H : Hp} {G : Gp} {sd : St3} {σ : L2.St} (at_ : At K F0 F sd G σ H) : QX K F G H (fun C fs G2 => W C fs sd G2) fun cls d H' => lowW K F0 W cls d σ H' :=
  fun C fs d F' G' H' l xr q => ⟨sd, F', G', C, fs, at_.step l, rfl, xr, q⟩
theorem de_call (c : Cal3 X.prog X.w X.K X.mg X.base k x sp dds) (hr : Room j X.A) (tk : Takes X (lowW X.K F0 W)) (ha : DA X F0 (e :: es) t) (hk : k ≤ j := by decide) (hg : Gl X x := by rfl)
    (hdb : (x == ("__debug__" : Str)) = false := by decide) (he : starEach (e :: es) X.env = (false, eval e X.env) :: starEach es X.env := by rfl) (hpl : (backTo pos (starEach es X.env)).any (·.1) = false := by rfl) :
    DE X F0 (.Call (.Name x p) (e :: es) [] pos) (dCall sp dds W t) := by
  obtain ⟨f, fd, ps, ds, dvs, F, m, kp, b, vd, rd⟩ := c.ex
  refine PE.imp (pe_callSD (E := fun σ cls d H => lowW X.K F0 W cls d σ H) F (hr.mono hk) hg m kp b vd (fun σ => passAt tk σ) ha hdb he hpl) fun σ H Q ⟨sd, F, G, Q3, at_, h, k⟩ => ?_
  exact ⟨sd, F, G, _, at_, h, fun ds vs F1 G1 H1 l1 r1 q1 => ⟨ds ++ dds, F1, G1, Q3, _, l1.cp, r1.append (rd F1), q1, k.mono l1, low_w (at_.step l1)⟩⟩
theorem de_call0 (c : Cal3 X.prog X.w X.K X.mg X.base k x sp []) (hr : Room j X.A) (tk : Takes X (lowW X.K F0 NoW)) (hk : k ≤ j := by decide) (hg : Gl X x := by rfl) (hdb : (x == ("__debug__" : Str)) = false := by decide) :
    DE X F0 (.Call (.Name x p) [] [] pos) (dCall sp [] NoW dNil) := by
  obtain ⟨f, fd, ps, ds, dvs, F, m, kp, b, vd, rd⟩ := c.ex
  have hz : dvs = [] := (rd (fun _ => none)).inv0
  subst hz
  refine PE.imp (pe_call0 (E := E0) F (hr.mono hk) hg m kp b vd (fun pins σ H s e s' I c => False.elim (by
    obtain ⟨_, _, _, _, _, _, _, _, _, _, _, _, z⟩ := c
    exact z)) hdb) fun σ H Q ⟨sd, F, G, Q3, at_, h, k⟩ => ?_
  exact ⟨[], F, G, Q3, _, at_.cp, .nil, h, k, fun C fs d F' G' H' l xr q => q.elim⟩
theorem takesN : Takes X (lowW X.K F0 NoW) := Takes.imp takes0 fun _ _ _ _ ⟨_, _, _, _, _, _, _, _, z⟩ => z.elim
end

/-! ### a def by its body -/
def start3 : Nat → List D → St3
  | n, d :: ds => some d :: start3 (n - 1) ds
  | n, [] => List.replicate n none
theorem start3_eq : ∀ (n : Nat) (ds : List D), ds.length ≤ n → start3 n ds = ds.map some ++ List.replicate (n - ds.length) none
  | n, [], _ => by simp [start3]
  | n, d :: ds, h => by
    have h' : ds.length ≤ n - 1 := by rw [List.length_cons] at h; omega
    unfold start3
    rw [start3_eq (n - 1) ds h']
    simp only [List.map_cons, List.cons_append, List.length_cons]
    congr 3
    omega
theorem repS_start {K : PySem.W.Frag} {F : Hp} {N : List Str} {ds : List D} {vs : List V} (r : RepL K F ds vs) (h : ds.length ≤ N.length) : RepS K F (start3 N.length ds) (L2.start N vs) := by
  rw [start3_eq _ _ h]
  unfold L2.start
  have el := r.length
  refine ⟨by simp [el], fun i d e => ?_⟩
  by_cases hi : i < ds.length
  · rw [List.getElem?_append_left (by simpa using hi), List.getElem?_map] at e
    cases q : ds[i]? with
    | none => rw [q] at e; cases e
    | some d' =>
      rw [q] at e
      cases e
      obtain ⟨v, h1, h2⟩ := r.get q
      exact ⟨v, by rw [List.getElem?_append_left (by simpa [← el] using hi), List.getElem?_map, h1]; rfl, h2⟩
  · rw [List.getElem?_append_right (by simpa using hi), List.getElem?_replicate] at e
    split at e <;> cases e
section
variable {P : Program} {w : World} {K : PySem.W.Frag} {mg : Str → Option Value} {base : Heap}
/-- THE RULE: the body's term, and its reading -/
theorem ok3 {x qual : Str} {st : Stmt} {f : Addr} {fd : FuncData} {N ps : List Str} {k : Nat} {sp : Sp3} (F : Fun K x qual st f fd) (S : FnScope N ps (defScope st)) (hlen : ps.length ≤ N.length) (len : ∀ ds G Q E, sp ds G Q E → ds.length = ps.length)
    (hbody : ∀ (cdv : Value) (A : Around) (outer : List Env) (s : Shared) (H : Hp) (E : XK) (o : Pt) (E3 : EK), Room k (A.deeper (envOfC qual (defScope st) s.heap.objs.size f cdv)) →
      Takes (cxOf (L2.CX P w) P w K mg base N qual (defScope st) f cdv A outer s H E) (lowW K o fun C fs _ G => E3 C fs G) →
      ∃ t : TS3, DSs (cxOf (L2.CX P w) P w K mg base N qual (defScope st) f cdv A outer s H E) o (defBody st) t ∧
        ∀ ds G Q3, sp ds G Q3 E3 → t { nx := fun _ G' => Ret K Q3 .non G', rt := Ret K Q3 } (start3 N.length ds) G) : FnOk P w K mg base (L2.CX P w) (k + 1) f fd ps (dn K sp) := by
  refine F.okX S (fun vs H Q E ⟨ds, F, G, Q3, E3, _, r, h, _⟩ => by rw [← r.length]; exact len _ _ _ _ h) fun cdv A outer s H vs Q E hr h => ?_
  obtain ⟨ds, F, G, Q3, E3, c, r, h, k1, k2⟩ := h
  have tk : Takes (cxOf (L2.CX P w) P w K mg base N qual (defScope st) f cdv A outer s H E) (lowW K ⟨F, G, H⟩ fun C fs _ G => E3 C fs G) := by
    refine Takes.imp (takes_of (E := E) rfl rfl rfl rfl) fun cls d σ H' ⟨sd, F', G', C, fs, at_, e, xr, q⟩ => ?_
    subst e
    exact k2 C fs d F' G' H' at_.ext xr q
  obtain ⟨t, ht, hq⟩ := hbody cdv A outer s H E ⟨F, G, H⟩ E3 hr tk
  refine ⟨_, ht, start3 N.length ds, F, G, _, ⟨Ext.refl c, repS_start r (by rw [len _ _ _ _ h]; exact hlen)⟩, hq ds G Q3 h, ?_⟩
  have kr : QR K F G H (Ret K Q3) Q := fun d v F' G' H' l rv ⟨d', G2, g, q⟩ => by
    obtain ⟨F2, l2, r2⟩ := g F' H' v l.cp rv
    exact k1 d' v F2 G2 H' (l.trans l2) r2 q
  exact ⟨fun sd σ F' G' H' l _ q => kr _ _ _ _ _ l .non q, kr, fun _ _ _ _ _ _ _ q => q.elim, fun _ _ _ _ _ _ _ q => q.elim⟩
end
end L3
set_option Elab.async false
set_option linter.all false
set_option maxRecDepth 100000
set_option maxHeartbeats 4000000
namespace L3
open PySem PySem.Spec PyProof.Rows L2

/-! ### isinstance -/
inductive BT where
  | int | bool | str | tuple | list | dict
def BT.nm : BT → String
  | .int => "int"
  | .bool => "bool"
  | .str => "str"
  | .tuple => "tuple"
  | .list => "list"
  | .dict => "dict"
def tyNm : D → Option String
  | .non => some "NoneType"
  | .bl _ => some "bool"
  | .int _ => some "int"
  | .str _ => some "str"
  | .tup _ => some "tuple"
  | .lst _ => some "list"
  | .scr _ => some "list"
  | .dic _ => some "dict"
  | _ => none
def isBT : D → BT → Option Bool
  | .non, _ => some false
  | .bl _, .int => some true
  | .bl _, .bool => some true
  | .bl _, _ => some false
  | .int _, .int => some true
  | .int _, _ => some false
  | .str _, .str => some true
  | .str _, _ => some false
  | .tup _, .tuple => some true
  | .tup _, _ => some false
  | .lst _, .list => some true
  | .lst _, _ => some false
  | .scr _, .list => some true
  | .scr _, _ => some false
  | .dic _, .dict => some true
  | .dic _, _ => some false
  | _, _ => none
theorem kitB_all : ∀ τ : BT, kitB "NoneType" τ.nm = some false ∧ kitB "bool" τ.nm = some (match τ with | .int => true | .bool => true | _ => false) ∧ kitB "int" τ.nm = some (match τ with | .int => true | _ => false) ∧
    kitB "str" τ.nm = some (match τ with | .str => true | _ => false) ∧ kitB "tuple" τ.nm = some (match τ with | .tuple => true | _ => false) ∧ kitB "list" τ.nm = some (match τ with | .list => true | _ => false) ∧ kitB "dict" τ.nm = some (match τ with | .dict => true | _ => false) := by
  intro τ
  cases τ <;> exact ⟨by decide +kernel, by decide +kernel, by decide +kernel, by decide +kernel, by decide +kernel, by decide +kernel, by decide +kernel⟩
theorem isBT_kit {K : PySem.W.Frag} {d : D} {τ : BT} {b : Bool} {n : String} (h : isBT d τ = some b) (hn : tyNm d = some n) : PySem.W.kitOne K (.type n) (.type τ.nm) = some b := by
  obtain ⟨h1, h2, h3, h4, h5, h6, h7⟩ := kitB_all τ
  refine kit_ty ?_
  cases d <;> simp only [tyNm] at hn <;> first | (cases hn; cases τ <;> simp only [isBT] at h <;> cases h <;> assumption) | cases hn
theorem rep_ty {K : PySem.W.Frag} {F H : Hp} {d : D} {v : V} {n : String} (l : Le F H) (r : Rep K F d v) (hn : tyNm d = some n) : TyX K H v (.type n) := by
  cases r <;> simp only [tyNm] at hn <;> cases hn
  · exact .base .non
  · exact .base (.bl _)
  · exact .base (.int _)
  · exact .base (.str _)
  · rename_i s _
    rcases s with (s | ⟨o, s⟩) | ⟨o, its, m, s, hc, _⟩
    · exact .base (.tup (l _ _ s))
    · exact .fTuple (l _ _ s)
    · exact .kTuple s hc
  · rename_i s _
    exact .base (.lst (l _ _ s))
  · rename_i s _
    rcases s with (s | ⟨o, s⟩) | ⟨o, its, m, s, hc, _⟩
    · exact .base (.lst (l _ _ s))
    · exact .base (.frz (l _ _ s))
    · exact .kList s hc
  · rename_i s _
    exact .base (.dK (l _ _ s))
section
variable {X : Cx} {K : PySem.W.Frag} {F0 : Pt} {a b c e o : Expr} {es rest : List Expr} {ta tb tc te : TE3} {t : TA3} {pos p p2 : Pos} {x : Str}
def dIsi (τ : BT) (te : TE3) : TE3 := fun sd G Q => te sd G fun d G1 => match isBT d τ with
  | some b => Q (.bl b) G1
  | none => False
theorem isBT_ty {d : D} {τ : BT} {b : Bool} (h : isBT d τ = some b) : ∃ n, tyNm d = some n := by
  cases d <;> cases τ <;> simp [isBT] at h <;> exact ⟨_, rfl⟩
theorem de_isi (τ : BT) (he : DE X F0 e te) (hm : X.mg "isinstance" = none) (hm2 : X.mg x = none) (hv : bootBuiltins x = some (.type τ.nm)) (hg : Gl X "isinstance" := by rfl) (hg2 : Gl X x := by rfl) (hn : x ≠ "__name__" := by decide) (hd : (x == ("__debug__" : Str)) = false := by decide)
    (s1 : starEach [e, .Name x p2] X.env = (false, eval e X.env) :: starEach [.Name x p2] X.env := by rfl) (s2 : starEach [.Name x p2] X.env = (false, eval (.Name x p2) X.env) :: starEach [] X.env := by rfl) (hpl : (backTo pos (starEach [.Name x p2] X.env)).any (·.1) = false := by rfl) :
    DE X F0 (.Call (.Name "isinstance" p) [e, .Name x p2] [] pos) (dIsi τ te) := by
  refine PE.imp (pe_callB call_isi hg hm boot_isinstance (pa_cons he (pa_cons (pe_bltn (v := .ty τ.nm) hg2 hm2 hv rfl hn hd) pa_nil s2) s1) (by decide) (by decide) s1 hpl) fun σ H Q ⟨sd, F, G, Q3, at_, h, k⟩ => ?_
  refine ⟨sd, F, G, _, at_, h, fun d v F1 G1 H1 l1 r1 q1 => ?_⟩
  split at q1
  · rename_i b eb
    obtain ⟨n, en⟩ := isBT_ty eb
    exact ⟨v, .ty τ.nm, .type n, .type τ.nm, b, rfl, .ty _, rep_ty l1.cp.frz r1 en, isBT_kit eb en, k _ _ _ _ _ l1 (.bl b) q1⟩
  · exact q1.elim

/-! ### methods of texts -/
def strsOf : List D → Option (List Str)
  | [] => some []
  | .str x :: ds => (strsOf ds).map (x :: ·)
  | _ => none
theorem strs_ok {F : Hp} : ∀ {ds : List D} {vs : List V} {bs : List Str}, RepL K F ds vs → strsOf ds = some bs → vs = bs.map V.str
  | [], _, bs, r, e => by
    cases r
    cases e
    rfl
  | d :: ds, _, bs, r, e => by
    cases r with
    | cons r t =>
      cases d with
      | str b =>
        obtain ⟨cs, e1, e2⟩ := Option.map_eq_some_iff.mp (show (strsOf ds).map (b :: ·) = some bs from e)
        subst e2
        cases r
        rw [strs_ok t e1]
        rfl
      | _ => exact nomatch (show (none : Option (List Str)) = some bs from e)
theorem strsOf_map (bs : List Str) : strsOf (bs.map D.str) = some bs := by
  induction bs with
  | nil => rfl
  | cons b bs ih =>
    show (strsOf (bs.map D.str)).map (b :: ·) = _
    rw [ih]
    rfl
theorem repL_strs {F : Hp} : ∀ bs : List Str, RepL K F (bs.map D.str) (bs.map V.str)
  | [] => .nil
  | b :: bs => .cons (.str b) (repL_strs bs)
/-- o.m(e), both texts -/
def dM1 (g : Str → Str → DK → Gp → Prop) (to te : TE3) : TE3 := fun sd G Q => to sd G fun x G1 => match x with
  | .str s => te sd G1 fun y G2 => match y with
    | .str z => g s z Q G2
    | _ => False
  | _ => False
theorem low_m1 {g : Str → Str → DK → Gp → Prop} {r : V → List V → Hp → VK → Prop} (hg : ∀ F G H s z Q Q3, Cp K F G H → g s z Q3 G → QR K F G H Q3 Q → r (.str s) [.str z] H Q) {σ : L2.St} {H : Hp} {Q : VK} (h : low K F0 (dM1 g ta tb) σ H Q) : tM1 r (low K F0 ta) (low K F0 tb) σ H Q := by
  obtain ⟨sd, F, G, Q3, at_, h, k⟩ := h
  refine ⟨sd, F, G, _, at_, h, fun d v F1 G1 H1 l1 r1 q1 => ?_⟩
  cases d <;> first | exact q1.elim | skip
  cases r1
  refine ⟨⟨_, rfl⟩, sd, F1, G1, _, at_.step l1, q1, fun d2 v2 F2 G2 H2 l2 r2 q2 => ?_⟩
  cases d2 <;> first | exact q2.elim | skip
  cases r2
  exact hg _ _ _ _ _ _ _ l2.cp q2 (k.mono (l1.trans l2))
section
variable {apos : Pos}
theorem de_split (ho : DE X F0 o ta) (he : DE X F0 e te) (hs : starEach [e] X.env = [(false, eval e X.env)] := by rfl) (hbase : attributeBase o "split" X.env (eval o X.env) = eval o X.env := by rfl) (hline : (apos.endLine == pos.line) = true := by rfl) :
    DE X F0 (.Call (.Attribute o "split" apos) [e] [] pos) (dM1 (fun s z Q G => (z.length == 0) = false ∧ s.length + 2 ≤ sizeLine ∧ Q (.lst ((Txt.split s z).map D.str)) G) ta te) :=
  PE.imp (pe_split ho he hs hbase hline) fun _ _ _ h => low_m1 (fun F G H s z Q Q3 c q k => ⟨s, z, rfl, rfl, q.1, q.2.1, fun p hp => by
    have x := Ext.newF c (.lst ((Txt.split s z).map V.str)) hp
    exact k _ _ _ _ _ x (.lst upd_same (repL_strs _)) q.2.2⟩) h
theorem de_startswith (ho : DE X F0 o ta) (he : DE X F0 e te) (hs : starEach [e] X.env = [(false, eval e X.env)] := by rfl) (hbase : attributeBase o "startswith" X.env (eval o X.env) = eval o X.env := by rfl) (hline : (apos.endLine == pos.line) = true := by rfl) :
    DE X F0 (.Call (.Attribute o "startswith" apos) [e] [] pos) (dM1 (fun s z Q G => Q (.bl (Txt.startswith s z)) G) ta te) :=
  PE.imp (pe_m1 F.slot_str_startswith F.type_str_startswith mt_startswith ho he hs hbase hline) fun _ _ _ h => low_m1 (fun F G H s z Q Q3 c q k => ⟨s, z, rfl, rfl, k _ _ _ _ _ (Ext.refl c) (.bl _) q⟩) h
theorem de_find (ho : DE X F0 o ta) (he : DE X F0 e te) (hs : starEach [e] X.env = [(false, eval e X.env)] := by rfl) (hbase : attributeBase o "find" X.env (eval o X.env) = eval o X.env := by rfl) (hline : (apos.endLine == pos.line) = true := by rfl) :
    DE X F0 (.Call (.Attribute o "find" apos) [e] [] pos) (dM1 (fun s z Q G => Q (.int (Txt.find s z)) G) ta te) :=
  PE.imp (pe_m1 F.slot_str_find F.type_str_find mt_find ho he hs hbase hline) fun _ _ _ h => low_m1 (fun F G H s z Q Q3 c q k => ⟨s, z, rfl, rfl, k _ _ _ _ _ (Ext.refl c) (.int _) q⟩) h
/-- sep.join(texts) -/
def textsIn : D → Gp → Option (List Str)
  | .lst ds, _ => strsOf ds
  | .tup ds, _ => strsOf ds
  | .ref p, G => match G p with
    | some (.lst ds) => strsOf ds
    | _ => none
  | _, _ => none
def dJoin (to te : TE3) : TE3 := fun sd G Q => to sd G fun x G1 => match x with
  | .str s => te sd G1 fun y G2 => ∃ ys, textsIn y G2 = some ys ∧ (ys.map (·.length)).sum + ys.length * s.length ≤ 16777216 ∧ Q (.str (Txt.join s ys)) G2
  | _ => False
theorem de_join (ho : DE X F0 o ta) (he : DE X F0 e te) (hs : starEach [e] X.env = [(false, eval e X.env)] := by rfl) (hbase : attributeBase o "join" X.env (eval o X.env) = eval o X.env := by rfl) (hline : (apos.endLine == pos.line) = true := by rfl) :
    DE X F0 (.Call (.Attribute o "join" apos) [e] [] pos) (dJoin ta te) :=
  PE.imp (pe_join ho he hs hbase hline) fun σ H Q ⟨sd, F, G, Q3, at_, h, k⟩ => ⟨sd, F, G, _, at_, h, fun d v F1 G1 H1 l1 r1 q1 => by
    cases d <;> first | exact q1.elim | skip
    cases r1
    refine ⟨⟨_, rfl⟩, sd, F1, G1, _, at_.step l1, q1, fun d2 v2 F2 G2 H2 l2 r2 ⟨ys, e1, e2, q2⟩ => ?_⟩
    have kk := k _ _ _ _ _ (l1.trans l2) (.str _) q2
    cases d2 <;> simp only [textsIn] at e1 <;> try (exact absurd e1 (by simp))
    · cases r2
      split at e1
      · rename_i ds eg
        obtain ⟨_, vs, hp, rl⟩ := own_lst l2.cp eg
        have ev := strs_ok rl e1
        subst ev
        exact ⟨_, _, ys, rfl, rfl, .inl (SqL.of hp), e2, kk⟩
      · cases e1
    · cases r2 with
      | tup s rl =>
        have ev := strs_ok rl e1
        subst ev
        exact ⟨_, _, ys, rfl, rfl, .inr (sqT_mono l2.cp.frz s), e2, kk⟩
    · cases r2 with
      | lst s rl =>
        have ev := strs_ok rl e1
        subst ev
        exact ⟨_, _, ys, rfl, rfl, .inl (SqL.of (l2.cp.frz _ _ s)), e2, kk⟩⟩
/-- a list that is being filled: append, extend -/
def dApp (to te : TE3) : TE3 := fun sd G Q => to sd G fun x G1 => match x with
  | .ref p => (∃ ds, G1 p = some (.lst ds)) ∧ te sd G1 fun y G2 => ∃ ds, G2 p = some (.lst ds) ∧ ds.length < sizeLine ∧ Q .non (gupd G2 p (.lst (ds ++ [y])))
  | _ => False
theorem de_append (ho : DE X F0 o ta) (he : DE X F0 e te) (hbase : attributeBase o "append" X.env (eval o X.env) = eval o X.env := by rfl)
    (hfew : ((backTo pos (starEach [e] X.env)).all (fun x => !x.1) && (backToKw pos (keywordEach [] X.env)).all (fun x => x.1.isSome) && decide ([e].length + ([] : List Keyword).length + (if ([] : List Keyword).isEmpty then 0 else 1) < 30)) = true := by rfl)
    (hline : (apos.endLine == pos.line) = true := by rfl) (hs : starEach [e] X.env = (false, eval e X.env) :: starEach [] X.env := by rfl) (hplain : (backTo pos (starEach [] X.env)).any (·.1) = false := by rfl) :
    DE X F0 (.Call (.Attribute o "append" apos) [e] [] pos) (dApp ta te) :=
  PE.imp (pe_bm PySem.F.plainAttrs_list PySem.F.slot_list_append PySem.F.type_list_append mt_append ho (pa_cons he pa_nil hs) hbase hfew hline hs hplain) fun σ H Q ⟨sd, F, G, Q3, at_, h, k⟩ => ⟨sd, F, G, _, at_, h, fun d v F1 G1 H1 l1 r1 q1 => by
    cases d <;> first | exact q1.elim | skip
    cases r1
    obtain ⟨⟨ds0, e0⟩, q1⟩ := q1
    obtain ⟨_, vs0, hp0, _⟩ := own_lst l1.cp e0
    refine ⟨.inl ⟨rfl, _, SqL.of hp0⟩, sd, F1, G1, _, at_.step l1, q1, fun d2 v2 F2 G2 H2 l2 r2 ⟨ds, e1, e2, q2⟩ => ?_⟩
    obtain ⟨_, vs, hp, rl⟩ := own_lst l2.cp e1
    refine ⟨_, vs, v2, rfl, rfl, hp, by rw [← rl.length]; exact e2, ?_⟩
    have y := Ext.put l2.cp (o := .lst (vs ++ [v2])) (u := .lst (ds ++ [d2])) e1 (fun x z => by rw [hp] at z; cases z) (fun z => by rw [hp] at z; cases z) (fun _ _ _ z => nomatch z) ⟨_, upd_same, rl.append (.one r2)⟩
    exact k _ _ _ _ _ ((l1.trans l2).trans y) .non q2⟩
def dExt (to te : TE3) : TE3 := fun sd G Q => to sd G fun x G1 => match x with
  | .ref p => (∃ ds, G1 p = some (.lst ds)) ∧ te sd G1 fun y G2 => match y with
    | .lst es => ∃ ds, G2 p = some (.lst ds) ∧ ds.length + es.length ≤ sizeLine ∧ Q .non (gupd G2 p (.lst (ds ++ es)))
    | _ => False
  | _ => False
theorem de_extend (ho : DE X F0 o ta) (he : DE X F0 e te) (hbase : attributeBase o "extend" X.env (eval o X.env) = eval o X.env := by rfl)
    (hfew : ((backTo pos (starEach [e] X.env)).all (fun x => !x.1) && (backToKw pos (keywordEach [] X.env)).all (fun x => x.1.isSome) && decide ([e].length + ([] : List Keyword).length + (if ([] : List Keyword).isEmpty then 0 else 1) < 30)) = true := by rfl)
    (hline : (apos.endLine == pos.line) = true := by rfl) (hs : starEach [e] X.env = (false, eval e X.env) :: starEach [] X.env := by rfl) (hplain : (backTo pos (starEach [] X.env)).any (·.1) = false := by rfl) :
    DE X F0 (.Call (.Attribute o "extend" apos) [e] [] pos) (dExt ta te) :=
  PE.imp (pe_bm PySem.F.plainAttrs_list PySem.F.slot_list_extend PySem.F.type_list_extend mt_extend ho (pa_cons he pa_nil hs) hbase hfew hline hs hplain) fun σ H Q ⟨sd, F, G, Q3, at_, h, k⟩ => ⟨sd, F, G, _, at_, h, fun d v F1 G1 H1 l1 r1 q1 => by
    cases d <;> first | exact q1.elim | skip
    cases r1
    obtain ⟨⟨ds0, e0⟩, q1⟩ := q1
    obtain ⟨_, vs0, hp0, _⟩ := own_lst l1.cp e0
    refine ⟨.inl ⟨rfl, _, SqL.of hp0⟩, sd, F1, G1, _, at_.step l1, q1, fun d2 v2 F2 G2 H2 l2 r2 q2 => ?_⟩
    cases d2 <;> first | exact q2.elim | skip
    obtain ⟨ds, e1, e2, q2⟩ := q2
    obtain ⟨_, vs, hp, rl⟩ := own_lst l2.cp e1
    cases r2 with
    | @lst ab _ vb sb rb =>
      refine ⟨_, ab, vs, vb, rfl, rfl, hp, l2.cp.frz _ _ sb, by rw [← rl.length, ← rb.length]; exact e2, ?_⟩
      have y := Ext.put l2.cp (o := .lst (vs ++ vb)) (u := .lst (ds ++ _)) e1 (fun x z => by rw [hp] at z; cases z) (fun z => by rw [hp] at z; cases z) (fun _ _ _ z => nomatch z) ⟨_, upd_same, rl.append rb⟩
      exact k _ _ _ _ _ ((l1.trans l2).trans y) .non q2⟩
end
end

/-! ### what is walked -/
/-- J yields the data ds, one by one, as long as what is frozen stays -/
structure Walks (K : PySem.W.Frag) (F : Hp) (J : It) (ds : List D) : Prop where
  go : ∀ i F' G' H', Le F F' → Cp K F' G' H' → i < ds.length → J.go i H' ∧ ∀ x H2, J.yld i H' x H2 → ∃ F2, Ext K F' G' H' F2 G' H2 ∧ ∃ d, ds[i]? = some d ∧ Rep K F2 d x
  stop : ∀ i F' G' H', Le F F' → Cp K F' G' H' → ds.length ≤ i → J.stop i H'
abbrev TI3 := St3 → Gp → (List D → Gp → Prop) → Prop
def lowI (K : PySem.W.Frag) (F0 : Pt) (t : TI3) : TI := fun σ H R => ∃ sd F G R3, At K F0 F sd G σ H ∧ t sd G R3 ∧ ∀ ds J F' G' H', Ext K F G H F' G' H' → Walks K F' J ds → R3 ds G' → R J H'
def DI (X : Cx) (F0 : Pt) (tg iter : Expr) (t : TI3) : Prop := PI X tg iter (lowI X.K F0 t)
section
variable {X : Cx} {K : PySem.W.Frag} {F0 : Pt} {tg a b c e o : Expr} {es rest : List Expr} {ta tb tc te : TE3} {t : TA3} {pos p p2 : Pos} {x : Str}
theorem PI.imp {tg e : Expr} {te t : TI} (h : PI X tg e te) (i : ∀ σ H Q, t σ H Q → te σ H Q) : PI X tg e t := ⟨fun pins s σ H Q I q => h.run pins s σ H Q I (i σ H Q q)⟩
theorem walks_list {F : Hp} {p : Addr} {vs : List V} {ds : List D} (s : SqL K F p vs) (r : RepL K F ds vs) (one : ∀ H', Le F H' → ∀ ws, SqL K H' p ws → ws = vs) : Walks K F (Itl K p) ds := by
  refine ⟨fun i F' G' H' l c hi => ?_, fun i F' G' H' l c hi => ⟨vs, sqL_mono (l.trans c.frz) s, by rw [← r.length]; exact hi⟩⟩
  have e : ds[i]? = some ds[i] := by simp [hi]
  obtain ⟨v, e1, r1⟩ := r.get e
  refine ⟨⟨vs, v, sqL_mono (l.trans c.frz) s, e1⟩, fun x H2 ⟨eh, y⟩ => ?_⟩
  subst eh
  have q := y vs (sqL_mono (l.trans c.frz) s)
  rw [e1] at q
  cases q
  exact ⟨F', Ext.refl c, _, e, r1.mono l⟩
theorem walks_tup {F : Hp} {p : Addr} {vs : List V} {ds : List D} (s : SqT K F p vs) (r : RepL K F ds vs) : Walks K F (Itt K p) ds := by
  refine ⟨fun i F' G' H' l c hi => ?_, fun i F' G' H' l c hi => ⟨vs, sqT_mono (l.trans c.frz) s, by rw [← r.length]; exact hi⟩⟩
  have e : ds[i]? = some ds[i] := by simp [hi]
  obtain ⟨v, e1, r1⟩ := r.get e
  refine ⟨⟨vs, v, sqT_mono (l.trans c.frz) s, e1⟩, fun x H2 ⟨eh, y⟩ => ?_⟩
  subst eh
  have q := y vs (sqT_mono (l.trans c.frz) s)
  rw [e1] at q
  cases q
  exact ⟨F', Ext.refl c, _, e, r1.mono l⟩
theorem walks_lst {F : Hp} {p : Addr} {vs : List V} {ds : List D} (s : SqL K F p vs) (r : RepL K F ds vs) : Walks K F (Itl K p) ds := by
  refine ⟨fun i F' G' H' l c hi => ?_, fun i F' G' H' l c hi => ⟨vs, sqL_mono (l.trans c.frz) s, by rw [← r.length]; exact hi⟩⟩
  have e : ds[i]? = some ds[i] := by simp [hi]
  obtain ⟨v, e1, r1⟩ := r.get e
  refine ⟨⟨vs, v, sqL_mono (l.trans c.frz) s, e1⟩, fun x H2 ⟨eh, y⟩ => ?_⟩
  subst eh
  have q := y vs (sqL_mono (l.trans c.frz) s)
  rw [e1] at q
  cases q
  exact ⟨F', Ext.refl c, _, e, r1.mono l⟩
/-- over a list, over a tuple, over a text -/
def wL (te : TE3) : TI3 := fun sd G R => te sd G fun d G1 => match d with
  | .lst ds => R ds G1
  | .scr ds => R ds G1
  | _ => False
def wT (te : TE3) : TI3 := fun sd G R => te sd G fun d G1 => match d with
  | .tup ds => R ds G1
  | _ => False
def signs (s : Str) : List D := s.cps.toList.map fun c => D.str ⟨#[c]⟩
def wS (te : TE3) : TI3 := fun sd G R => te sd G fun d G1 => match d with
  | .str s => R (signs s) G1
  | _ => False
theorem di_list (he : DE X F0 e te) : DI X F0 tg e (wL te) := PI.imp (pi_list he) fun σ H R ⟨sd, F, G, R3, at_, h, k⟩ => ⟨sd, F, G, _, at_, h, fun d v F1 G1 H1 l1 r1 q1 => by
  cases d <;> first | exact q1.elim | skip
  · cases r1 with
    | lst s rl => exact ⟨_, rfl, ⟨_, SqL.of (l1.cp.frz _ _ s)⟩, k _ _ _ _ _ l1 (walks_lst (SqL.of s) rl) q1⟩
  · cases r1 with
    | scr s rl => exact ⟨_, rfl, ⟨_, sqL_mono l1.cp.frz s⟩, k _ _ _ _ _ l1 (walks_lst s rl) q1⟩⟩
theorem di_tup (he : DE X F0 e te) : DI X F0 tg e (wT te) := PI.imp (pi_tup he) fun σ H R ⟨sd, F, G, R3, at_, h, k⟩ => ⟨sd, F, G, _, at_, h, fun d v F1 G1 H1 l1 r1 q1 => by
  cases d <;> first | exact q1.elim | skip
  cases r1 with
  | tup s rl => exact ⟨_, rfl, ⟨_, sqT_mono l1.cp.frz s⟩, k _ _ _ _ _ l1 (walks_tup s rl) q1⟩⟩
theorem di_str (he : DE X F0 e te) : DI X F0 tg e (wS te) := PI.imp (pi_str he) fun σ H R ⟨sd, F, G, R3, at_, h, k⟩ => ⟨sd, F, G, _, at_, h, fun d v F1 G1 H1 l1 r1 q1 => by
  cases d <;> first | exact q1.elim | skip
  rename_i s
  cases r1
  refine ⟨s, rfl, k _ _ _ _ _ l1 ⟨fun i F' G' H' l c hi => ?_, fun i F' G' H' l c hi => ?_⟩ q1⟩
  · have hi' : i < s.cps.size := by simpa [signs] using hi
    refine ⟨hi', fun x H2 ⟨eh, cc, e1, ex⟩ => ?_⟩
    subst eh ex
    refine ⟨F', Ext.refl c, _, ?_, .str _⟩
    unfold signs
    rw [List.getElem?_map, Array.getElem?_toList, e1]
    rfl
  · show s.cps.size ≤ i
    simpa [signs] using hi⟩
/-- range(n), range(a, b) -/
def intsD (lo : Int) (n : Nat) : List D := (List.range n).map fun i => D.int (lo + (i : Nat))
theorem walks_range {F : Hp} (lo : Int) (n : Nat) : Walks K F (Itr lo n) (intsD lo n) := by
  refine ⟨fun i F' G' H' l c hi => ?_, fun i F' G' H' l c hi => ?_⟩
  · have hi' : i < n := by simpa [intsD] using hi
    refine ⟨hi', fun x H2 ⟨eh, ex⟩ => ?_⟩
    subst eh ex
    refine ⟨F', Ext.refl c, _, ?_, .int _⟩
    unfold intsD
    rw [List.getElem?_map, List.getElem?_range hi']
    rfl
  · show n ≤ i
    simpa [intsD] using hi
def wR1 (te : TE3) : TI3 := fun sd G R => te sd G fun d G1 => match d with
  | .int j => (-(2 ^ 62) ≤ j ∧ j < 2 ^ 62) ∧ R (intsD 0 j.toNat) G1
  | _ => False
def wR2 (ta tb : TE3) : TI3 := fun sd G R => ta sd G fun d G1 => tb sd G1 fun d2 G2 => match d, d2 with
  | .int i, .int j => (-(2 ^ 62) ≤ i ∧ i < 2 ^ 62 ∧ -(2 ^ 62) ≤ j ∧ j < 2 ^ 62) ∧ R (intsD i (j - i).toNat) G2
  | _, _ => False
theorem di_range1 (ha : DE X F0 a ta) (hm : X.mg "range" = none) (hg : Gl X "range" := by rfl) (hs : starEach [a] X.env = [(false, eval a X.env)] := by rfl) (hs' : starEach [a] X.env = (false, eval a X.env) :: starEach [] X.env := by rfl) : DI X F0 tg (.Call (.Name "range" p) [a] [] pos) (wR1 ta) :=
  PI.imp (pi_range1 hg hm (pa_cons ha pa_nil hs') hs) fun σ H R ⟨sd, F, G, R3, at_, h, k⟩ => ⟨sd, F, G, _, at_, h, fun d v F1 G1 H1 l1 r1 q1 => by
    cases d <;> first | exact q1.elim | skip
    cases r1
    exact ⟨_, rfl, q1.1.1, q1.1.2, k _ _ _ _ _ l1 (walks_range 0 _) q1.2⟩⟩
theorem di_range2 (ha : DE X F0 a ta) (hb : DE X F0 b tb) (hm : X.mg "range" = none) (hg : Gl X "range" := by rfl) (hs : starEach [a, b] X.env = [(false, eval a X.env), (false, eval b X.env)] := by rfl) (hs2 : starEach [b] X.env = [(false, eval b X.env)] := by rfl)
    (hs' : starEach [a, b] X.env = (false, eval a X.env) :: starEach [b] X.env := by rfl) (hs2' : starEach [b] X.env = (false, eval b X.env) :: starEach [] X.env := by rfl) : DI X F0 tg (.Call (.Name "range" p) [a, b] [] pos) (wR2 ta tb) :=
  PI.imp (pi_range2 hg hm (pa_cons ha (pa_cons hb pa_nil hs2') hs') hs hs2) fun σ H R ⟨sd, F, G, R3, at_, h, k⟩ => ⟨sd, F, G, _, at_, h, fun d v F1 G1 H1 l1 r1 q1 => ⟨sd, F1, G1, _, at_.step l1, q1, fun d2 v2 F2 G2 H2 l2 r2 q2 => by
    cases d <;> cases d2 <;> first | exact q2.elim | skip
    cases r1; cases r2
    exact ⟨_, _, rfl, q2.1, k _ _ _ _ _ (l1.trans l2) (walks_range _ _) q2.2⟩⟩⟩

/-! ### for -/
def forL0 (g : TG3) (tb : TS3) (Z : Ends3) : List D → St3 → Gp → Prop
  | [], sd, G => Z.nx sd G
  | x :: xs, sd, G => g x sd G fun sd' G' => tb { Z with nx := forL0 g tb Z xs, ct := forL0 g tb Z xs, bk := Z.nx } sd' G'
/-- (it is not unfolded by itself: for_inv, forL_nil, forL_cons) -/
@[irreducible] def forL (g : TG3) (tb : TS3) (Z : Ends3) (ds : List D) (sd : St3) (G : Gp) : Prop := forL0 g tb Z ds sd G
theorem forL_nil {g : TG3} {tb : TS3} {Z : Ends3} {sd : St3} {G : Gp} : forL g tb Z [] sd G = Z.nx sd G := by unfold forL; rfl
theorem forL_cons {g : TG3} {tb : TS3} {Z : Ends3} {x : D} {xs : List D} {sd : St3} {G : Gp} : forL g tb Z (x :: xs) sd G = g x sd G fun sd' G' => tb { Z with nx := forL g tb Z xs, ct := forL g tb Z xs, bk := Z.nx } sd' G' := by
  have e : forL g tb Z xs = forL0 g tb Z xs := by funext sd G; unfold forL; rfl
  rw [e]
  unfold forL
  rfl
def dFor (w : TI3) (g : TG3) (tb : TS3) : TS3 := fun Z sd G => w sd G fun ds G1 => forL g tb Z ds sd G1
theorem forL_drop {g : TG3} {tb : TS3} {Z : Ends3} {ds : List D} {i : Nat} {d : D} {sd : St3} {G : Gp} (e : ds[i]? = some d) (h : forL g tb Z (ds.drop i) sd G) :
    g d sd G fun sd' G' => tb { Z with nx := forL g tb Z (ds.drop (i + 1)), ct := forL g tb Z (ds.drop (i + 1)), bk := Z.nx } sd' G' := by
  obtain ⟨hi, ed⟩ := List.getElem?_eq_some_iff.mp e
  rw [List.drop_eq_getElem_cons hi, ed, forL_cons] at h
  exact h
theorem ds_for {iter : Expr} {body : List Stmt} {wi : TI3} {g : TG3} {tb : TS3} (hc : X.calm = true) (hp : PassesOwn (model X.prog X.w) X.A X.env X.xe) (hi : DI X F0 tg iter wi) (hg : DG X F0 tg g) (hb : DSs X F0 body tb)
    (hs : ∀ x, foldedSetIterable iter X.env x = pure x := by intro _; rfl) : DS X F0 (.For tg iter body [] pos) (dFor wi g tb) := by
  refine PS.imp (ps_for hp hc hi hg hb hs) fun D σ H ⟨sd, F, G, D3, at_, h, k⟩ => ?_
  refine ⟨sd, F, G, _, at_, h, fun ds J F1 G1 H1 l1 wk q => ?_⟩
  refine ⟨fun i m σ' H' => m = ds.length - i ∧ ∃ sd' F' G', Ext X.K F1 G1 H1 F' G' H' ∧ RepS X.K F' sd' σ' ∧ forL g tb D3 (ds.drop i) sd' G', ⟨ds.length, rfl, sd, F1, G1, Ext.refl l1.cp, at_.rs.mono l1.le, by rw [List.drop_zero]; exact q⟩, ?_⟩
  rintro i m σ' H' ⟨rfl, sd', F', G', l, rs, q⟩
  by_cases hlt : i < ds.length
  · obtain ⟨hgo, hy⟩ := wk.go i F' G' H' l.le l.cp hlt
    refine .inr ⟨hgo, fun σ2 H2 => ∃ sd2 F2 G2, Ext X.K F1 G1 H1 F2 G2 H2 ∧ RepS X.K F2 sd2 σ2 ∧ forL g tb D3 (ds.drop (i + 1)) sd2 G2, fun σ2 H2 hh => ⟨ds.length - (i + 1), by omega, rfl, hh⟩, fun x H2 y => ?_⟩
    obtain ⟨F2, l2, d, ed, rd⟩ := hy x H2 y
    have a2 : At X.K F0 F2 sd' G' σ' H2 := ⟨at_.ext.trans ((l1.trans l).trans l2), rs.mono l2.le⟩
    refine ⟨d, sd', F2, G', _, a2, rd, forL_drop ed q, fun sd3 σ3 F3 G3 H3 l3 rs3 q3 => ?_⟩
    have lz := (l.trans l2).trans l3
    refine ⟨sd3, F3, G3, _, ⟨at_.ext.trans (l1.trans lz), rs3⟩, q3, ?_⟩
    have nx : QS X.K F3 G3 H3 (forL g tb D3 (ds.drop (i + 1))) fun σ2 H2 => ∃ sd2 F2 G2, Ext X.K F1 G1 H1 F2 G2 H2 ∧ RepS X.K F2 sd2 σ2 ∧ forL g tb D3 (ds.drop (i + 1)) sd2 G2 := fun sd4 σ4 F4 G4 H4 l4 rs4 q4 => ⟨sd4, F4, G4, lz.trans l4, rs4, q4⟩
    exact ⟨nx, k.rt.mono (l1.trans lz), k.nx.mono (l1.trans lz), nx⟩
  · refine .inl ⟨wk.stop i F' G' H' l.le l.cp (by omega), ?_⟩
    rw [List.drop_eq_nil_of_le (by omega), forL_nil] at q
    exact k.nx _ _ _ _ _ (l1.trans l) rs q
/-- while, by a word W with a measure -/
def dWhile (c : TT3) (tb : TS3) : TS3 := fun D sd G => ∃ W : Nat → St3 → Gp → Prop, (∃ m, W m sd G) ∧ ∀ m sd G, W m sd G →
  c sd G fun b G1 => br b (∃ N : St3 → Gp → Prop, (∀ sd' G', N sd' G' → ∃ m', m' < m ∧ W m' sd' G') ∧ tb { D with nx := N, ct := N, bk := D.nx } sd G1) (D.nx sd G1)
theorem ds_while {c : Expr} {body : List Stmt} {tc : TT3} {tb : TS3} (hp : PassesOwn (model X.prog X.w) X.A X.env X.xe) (hc : DT X F0 c tc) (hb : DSs X F0 body tb) : DS X F0 (.While c body [] pos) (dWhile tc tb) := by
  refine PS.imp (ps_while hp hc hb) fun D σ H ⟨sd, F, G, D3, at_, ⟨W, ⟨m0, w0⟩, hW⟩, k⟩ => ?_
  refine ⟨fun m σ' H' => ∃ sd' F' G', Ext X.K F G H F' G' H' ∧ RepS X.K F' sd' σ' ∧ W m sd' G', ⟨m0, sd, F, G, Ext.refl at_.cp, at_.rs, w0⟩, ?_⟩
  rintro m σ' H' ⟨sd', F', G', l, rs, q⟩
  refine ⟨sd', F', G', _, ⟨at_.ext.trans l, rs⟩, hW m sd' G' q, fun b F1 G1 H1 l1 q1 => ?_⟩
  have lz := l.trans l1
  cases b with
  | true =>
    obtain ⟨N, hN, q2⟩ := q1
    refine iteT ⟨fun σ2 H2 => ∃ sd2 F2 G2, Ext X.K F G H F2 G2 H2 ∧ RepS X.K F2 sd2 σ2 ∧ N sd2 G2, fun σ2 H2 ⟨sd2, F2, G2, l2, rs2, n2⟩ => let ⟨m', hm, w'⟩ := hN sd2 G2 n2; ⟨m', hm, sd2, F2, G2, l2, rs2, w'⟩, ?_⟩
    refine ⟨sd', F1, G1, _, ⟨at_.ext.trans lz, rs.mono l1.le⟩, q2, ?_⟩
    have nx : QS X.K F1 G1 H1 N fun σ2 H2 => ∃ sd2 F2 G2, Ext X.K F G H F2 G2 H2 ∧ RepS X.K F2 sd2 σ2 ∧ N sd2 G2 := fun sd4 σ4 F4 G4 H4 l4 rs4 q4 => ⟨sd4, F4, G4, lz.trans l4, rs4, q4⟩
    exact ⟨nx, k.rt.mono lz, k.nx.mono lz, nx⟩
  | false => exact iteF (k.nx _ _ _ _ _ lz (rs.mono l1.le) q1)
end
end L3
set_option Elab.async false
set_option linter.all false
set_option maxRecDepth 100000
set_option maxHeartbeats 4000000
namespace L3
open PySem PySem.Spec PyProof.Rows L2

/-! ### comprehensions -/
theorem wipe_at {σ : L2.St} {k : Nat} : ∀ {vs : List Nat}, (wipe σ vs)[k]? = if k ∈ vs then (if k < σ.length then some none else none) else σ[k]?
  | [] => by simp [wipe]
  | v :: vs => by
    unfold wipe
    by_cases hv : v = k
    · subst hv
      rw [if_pos (List.mem_cons_self)]
      by_cases hl : v < σ.length
      · rw [if_pos hl, List.getElem?_set_self (by rw [wipe_length]; exact hl)]
      · rw [if_neg hl, List.getElem?_eq_none (by rw [List.length_set, wipe_length]; omega)]
    · rw [List.getElem?_set_ne hv, wipe_at]
      by_cases hk : k ∈ vs
      · rw [if_pos hk, if_pos (List.mem_cons_of_mem _ hk)]
      · rw [if_neg hk, if_neg (fun z => (List.mem_cons.mp z).elim (fun e => hv e.symm) hk)]
theorem wipe_set {σ : L2.St} {i : Nat} {x : Option V} {vs : List Nat} (h : i ∈ vs) : wipe (σ.set i x) vs = wipe σ vs := by
  refine List.ext_getElem? fun k => ?_
  rw [wipe_at, wipe_at, List.length_set]
  by_cases hk : k ∈ vs
  · rw [if_pos hk, if_pos hk]
  · rw [if_neg hk, if_neg hk, List.getElem?_set_ne (fun e => hk (by rw [← e]; exact h))]
theorem wipe_wipe {σ : L2.St} {vs : List Nat} : wipe (wipe σ vs) vs = wipe σ vs := by
  refine List.ext_getElem? fun k => ?_
  rw [wipe_at, wipe_length]
  by_cases hk : k ∈ vs
  · rw [if_pos hk, wipe_at, if_pos hk]
  · rw [if_neg hk]
/-- the own slots forgotten -/
def swp (K : St3 → Prop) : List Nat → St3 → Prop
  | [], sd => K sd
  | v :: vs, sd => swp (fun z => sput K none z v) vs sd
theorem swp_rep {K : PySem.W.Frag} {F : Hp} : ∀ {vs : List Nat} {sd : St3} {σ : L2.St} {P : St3 → Prop}, RepS K F sd σ → swp P vs sd → ∃ sw, P sw ∧ RepS K F sw (wipe σ vs)
  | [], sd, σ, P, r, h => ⟨sd, h, r⟩
  | v :: vs, sd, σ, P, r, h => by
    obtain ⟨sw, hp, rs⟩ := swp_rep (vs := vs) r (show swp (fun z => sput P none z v) vs sd from h)
    exact ⟨sw.set v none, sput_set hp, rs.forget v none⟩
/-- a target that stores into the own slots alone -/
def TgtOk (K : PySem.W.Frag) (vs : List Nat) (g2 : TG) (g3 : TG3) : Prop := ∀ F sd G σ H d v (Q3 : St3 → Gp → Prop) (Q : L2.St → Hp → Prop), Cp K F G H → RepS K F sd σ → Rep K F d v → g3 d sd G Q3 →
  (∀ sd' σ', RepS K F sd' σ' → wipe σ' vs = wipe σ vs → Q3 sd' G → Q σ' H) → g2 v σ H Q
def TgtsOk (K : PySem.W.Frag) (vs : List Nat) (g2 : TGs) (g3 : TGs3) : Prop := ∀ F sd G σ H ds us (Q3 : St3 → Gp → Prop) (Q : L2.St → Hp → Prop), Cp K F G H → RepS K F sd σ → RepL K F ds us → g3 ds sd G Q3 →
  (∀ sd' σ', RepS K F sd' σ' → wipe σ' vs = wipe σ vs → Q3 sd' G → Q σ' H) → g2 us σ H Q
theorem tgt_name {K : PySem.W.Frag} {vs : List Nat} {i : Nat} (h : i ∈ vs) : TgtOk K vs (gName i) (gN i) := fun F sd G σ H d v Q3 Q c rs r q k => k _ _ (rs.set i r) (wipe_set h) (sput_set q)
theorem tgts_nil {K : PySem.W.Frag} {vs : List Nat} : TgtsOk K vs gNil gsNil := fun F sd G σ H ds us Q3 Q c rs r q k => by
  unfold gsNil at q
  split at q
  · cases r
    exact ⟨rfl, k _ _ rs rfl q⟩
  · exact q.elim
theorem tgts_cons {K : PySem.W.Frag} {vs : List Nat} {g : TG} {g3 : TG3} {u : TGs} {u3 : TGs3} (h1 : TgtOk K vs g g3) (h2 : TgtsOk K vs u u3) : TgtsOk K vs (gCons g u) (gsCons g3 u3) := fun F sd G σ H ds us Q3 Q c rs r q k => by
  unfold gsCons at q
  split at q
  · cases r with
    | cons r rr => exact ⟨_, _, rfl, h1 F sd G σ H _ _ _ _ c rs r q fun sd' σ' rs' e q' => h2 F sd' G σ' H _ _ _ _ c rs' rr q' fun sd2 σ2 rs2 e2 q2 => k _ _ rs2 (e2.trans e) q2⟩
  · exact q.elim
theorem tgt_tup {K : PySem.W.Frag} {vs : List Nat} {n : Nat} {u : TGs} {u3 : TGs3} (h : TgtsOk K vs u u3) : TgtOk K vs (gTup K n u) (gTp n u3) := fun F sd G σ H d v Q3 Q c rs r q k => by
  unfold gTp at q
  split at q
  · rename_i ds
    cases el : lenIs n ds with
    | false => rw [el] at q; exact q.elim
    | true =>
      rw [el] at q
      cases r with
      | tup s rl => exact ⟨_, _, rfl, sqT_mono c.frz s, by rw [← rl.length]; exact lenIs_ok el, h F sd G σ H ds _ Q3 Q c rs rl q k⟩
  · exact q.elim
def lcL0 (g : TG3) (tt : TT3) (te : TE3) (sw : St3) : List D → Gp → (List D → Gp → Prop) → Prop
  | [], G, K => K [] G
  | x :: xs, G, K => g x sw G fun sd2 G2 => tt sd2 G2 fun b G3 => br b (te sd2 G3 fun y G4 => lcL0 g tt te sw xs G4 fun ys G5 => K (y :: ys) G5) (lcL0 g tt te sw xs G3 K)
/-- (it is not unfolded by itself: lcL_nil, lcL_cons) -/
@[irreducible] def lcL (g : TG3) (tt : TT3) (te : TE3) (sw : St3) (ds : List D) (G : Gp) (K : List D → Gp → Prop) : Prop := lcL0 g tt te sw ds G K
theorem lcL_nil {g : TG3} {tt : TT3} {te : TE3} {sw : St3} {G : Gp} {K : List D → Gp → Prop} : lcL g tt te sw [] G K = K [] G := by unfold lcL; rfl
theorem lcL_cons {g : TG3} {tt : TT3} {te : TE3} {sw : St3} {x : D} {xs : List D} {G : Gp} {K : List D → Gp → Prop} : lcL g tt te sw (x :: xs) G K = g x sw G fun sd2 G2 => tt sd2 G2 fun b G3 => br b (te sd2 G3 fun y G4 => lcL g tt te sw xs G4 fun ys G5 => K (y :: ys) G5) (lcL g tt te sw xs G3 K) := by
  have e : lcL g tt te sw xs = lcL0 g tt te sw xs := by funext G K; unfold lcL; rfl
  rw [e]
  unfold lcL
  rfl
def dYes : TT3 := fun _ G Q => Q true G
def DTs (X : Cx) (F0 : Pt) (ifs : List Expr) (t : TT3) : Prop := PTs X ifs (lowT X.K F0 t)
theorem PTs.imp {X : Cx} {es : List Expr} {te t : TT} (h : PTs X es te) (i : ∀ σ H Q, t σ H Q → te σ H Q) : PTs X es t := ⟨fun pins s σ H Q I q => h.run pins s σ H Q I (i σ H Q q)⟩
theorem dts_nil {X : Cx} {F0 : Pt} : DTs X F0 [] dYes := PTs.imp pts_nil fun σ H Q ⟨sd, F, G, Q3, at_, h, k⟩ => k _ _ _ _ (Ext.refl at_.cp) h
theorem dts_one {X : Cx} {F0 : Pt} {c : Expr} {t : TT3} (h : DT X F0 c t) : DTs X F0 [c] t := pts_one h
def dLc (w : TI3) (g : TG3) (tt : TT3) (te : TE3) (vs : List Nat) : TE3 := fun sd G Q => w sd G fun ds G1 => ds.length < sizeLine ∧ swp (fun sw => lcL g tt te sw ds G1 fun ys G2 => Q (.lst ys) G2) vs sd
theorem lcL_drop {g : TG3} {tt : TT3} {te : TE3} {sw : St3} {ds : List D} {i : Nat} {d : D} {G : Gp} {K : List D → Gp → Prop} (e : ds[i]? = some d) (h : lcL g tt te sw (ds.drop i) G K) :
    g d sw G fun sd2 G2 => tt sd2 G2 fun b G3 => br b (te sd2 G3 fun y G4 => lcL g tt te sw (ds.drop (i + 1)) G4 fun ys G5 => K (y :: ys) G5) (lcL g tt te sw (ds.drop (i + 1)) G3 K) := by
  obtain ⟨hi, ed⟩ := List.getElem?_eq_some_iff.mp e
  rw [List.drop_eq_getElem_cons hi, ed, lcL_cons] at h
  exact h
theorem low_lc {K : PySem.W.Frag} {F0 : Pt} {w : TI3} {g2 : TG} {g : TG3} {tt : TT3} {te : TE3} {vs : List Nat} (tg : TgtOk K vs g2 g) {σ : L2.St} {H : Hp} {Q : VK} (h : low K F0 (dLc w g tt te vs) σ H Q) :
    tLc (lowI K F0 w) g2 (lowT K F0 tt) (low K F0 te) vs σ H Q := by
  obtain ⟨sd, F, G, Q3, at_, h, k⟩ := h
  refine ⟨sd, F, G, _, at_, h, fun ds J F1 G1 H1 l1 wk ⟨hz, q⟩ D hD => ?_⟩
  obtain ⟨sw, q, rsw⟩ := swp_rep (at_.rs.mono l1.le) q
  have fD := (l1.cp.free hD).1
  have gD := (l1.cp.free hD).2
  refine ⟨fun i m H' => m = ds.length - i ∧ ∃ F' G' acc ad, Ext K F1 G1 H1 F' G' H' ∧ H' D = some (.lst acc) ∧ F' D = none ∧ G' D = none ∧ RepL K F' ad acc ∧ acc.length ≤ i ∧ lcL g tt te sw (ds.drop i) G' fun ys G2 => Q3 (.lst (ad ++ ys)) G2,
    ⟨ds.length, rfl, F1, G1, [], [], (Ext.refl l1.cp).loose hD fD gD (fun x z => by rw [hD] at z; cases z) (fun z => by rw [hD] at z; cases z), upd_same, fD, gD, .nil, Nat.zero_le _, by rw [List.drop_zero]; exact q⟩, ?_⟩
  rintro i m H' ⟨rfl, F', G', acc, ad, l, eD, fD', gD', ra, hle, q⟩
  by_cases hlt : i < ds.length
  · obtain ⟨hgo, hy⟩ := wk.go i F' G' H' l.le l.cp hlt
    have nD : ∀ x, (HO.lst acc) ≠ .own x := fun x z => by cases z
    refine .inr ⟨hgo, fun H2 => ∃ F2 G2 acc2 ad2, Ext K F1 G1 H1 F2 G2 H2 ∧ H2 D = some (.lst acc2) ∧ F2 D = none ∧ G2 D = none ∧ RepL K F2 ad2 acc2 ∧ acc2.length ≤ i + 1 ∧ lcL g tt te sw (ds.drop (i + 1)) G2 fun ys G2 => Q3 (.lst (ad2 ++ ys)) G2,
      fun H2 hh => ⟨ds.length - (i + 1), by omega, rfl, hh⟩, fun x H2 y => ?_⟩
    obtain ⟨F2, l2, d, ed, rd⟩ := hy x H2 y
    have q := lcL_drop ed q
    refine tg F2 sw G' (wipe σ vs) H2 d x _ _ l2.cp (rsw.mono (l.le.trans l2.le)) rd q fun sd3 σ3 rs3 ew q3 => ⟨by rw [ew, wipe_wipe], ?_⟩
    have lz2 := l.trans l2
    refine ⟨sd3, F2, G', _, ⟨at_.ext.trans (l1.trans lz2), rs3⟩, q3, fun b F3 G3 H3 l3 q4 => ?_⟩
    have lz3 := lz2.trans l3
    obtain ⟨hD3, gD3, fD3⟩ := (l2.trans l3).st D _ eD gD' fD' nD
    cases b with
    | true =>
      refine iteT ⟨sd3, F3, G3, _, ⟨at_.ext.trans (l1.trans lz3), rs3.mono l3.le⟩, q4, fun yd yv F4 G4 H4 l4 r4 q5 => ?_⟩
      obtain ⟨hD4, gD4, fD4⟩ := l4.st D _ hD3 gD3 fD3 nD
      refine ⟨acc, hD4, by omega, F4, G4, acc ++ [yv], ad ++ [yd], (lz3.trans l4).loose hD fD4 gD4 (fun x z => by rw [hD4] at z; cases z) (fun z => by rw [hD4] at z; cases z), upd_same, fD4, gD4, ?_, ?_, ?_⟩
      · exact (ra.mono (l2.le.trans (l3.le.trans l4.le))).append (.one r4)
      · rw [List.length_append, List.length_singleton]; omega
      · have e : (fun ys G2 => Q3 (.lst (ad ++ [yd] ++ ys)) G2) = fun ys G2 => Q3 (.lst (ad ++ yd :: ys)) G2 := by
          funext ys G2
          rw [List.append_assoc]
          rfl
        rw [e]
        exact q5
    | false => exact iteF ⟨F3, G3, acc, ad, lz3, hD3, fD3, gD3, ra.mono (l2.le.trans l3.le), by omega, q4⟩
  · refine .inl ⟨wk.stop i F' G' H' l.le l.cp (by omega), ?_⟩
    rw [List.drop_eq_nil_of_le (by omega), lcL_nil] at q
    have q : Q3 (.lst (ad ++ [])) G' := q
    rw [List.append_nil] at q
    have x := (l.fix hD fD' gD' eD)
    exact k _ _ _ _ _ (l1.trans x) (.lst upd_same (ra.mono (Le.new fD'))) q
section
variable {X : Cx} {F0 : Pt}
theorem de_lc {elt tg iter : Expr} {ifs : List Expr} {scope : Scope} {pos : Pos} {w : TI3} {g2 : TG} {g : TG3} {tt : TT3} {te : TE3} (own : List (Str × Nat)) (hc : X.calm = true) (hN : X.N.Nodup) (tgo : TgtOk X.K (own.map (·.2)) g2 g) (hi : DI X F0 tg iter w) (ok : BlkOk X.N X.env.scope scope own)
    (hg : ∀ (s : Shared) (H : Hp) (C : Addr) (cl : List (Str × Addr)) (fp : List Addr), PG (X.blk s H scope (compEnvC scope cl C X.env) fp) tg g2) (ht : ∀ (s : Shared) (H : Hp) (C : Addr) (cl : List (Str × Addr)) (fp : List Addr), DTs (X.blk s H scope (compEnvC scope cl C X.env) fp) F0 ifs tt)
    (he : ∀ (s : Shared) (H : Hp) (C : Addr) (cl : List (Str × Addr)) (fp : List Addr), DE (X.blk s H scope (compEnvC scope cl C X.env) fp) F0 elt te) (hs : ∀ x, foldedSetIterable iter X.env x = pure x := by intro _; rfl) :
    DE X F0 (.ListComp elt [⟨tg, iter, ifs, 0⟩] scope pos) (dLc w g tt te (own.map (·.2))) := PE.imp (pe_lc (tt := lowT X.K F0 tt) (te := low X.K F0 te) hc hN hi ok hg ht he hs) fun _ _ _ h => low_lc tgo h
/-- name = [..] -/
theorem ds_setLc (i : Nat) {y : Str} {py : Pos} {elt tg iter : Expr} {ifs : List Expr} {scope : Scope} {pos spos : Pos} {w : TI3} {g2 : TG} {g : TG3} {tt : TT3} {te : TE3} (own : List (Str × Nat)) (hc : X.calm = true) (hN : X.N.Nodup) (tgo : TgtOk X.K (own.map (·.2)) g2 g) (hi : DI X F0 tg iter w) (ok : BlkOk X.N X.env.scope scope own)
    (hg : ∀ (s : Shared) (H : Hp) (C : Addr) (cl : List (Str × Addr)) (fp : List Addr), PG (X.blk s H scope (compEnvC scope cl C X.env) fp) tg g2) (ht : ∀ (s : Shared) (H : Hp) (C : Addr) (cl : List (Str × Addr)) (fp : List Addr), DTs (X.blk s H scope (compEnvC scope cl C X.env) fp) F0 ifs tt)
    (he : ∀ (s : Shared) (H : Hp) (C : Addr) (cl : List (Str × Addr)) (fp : List Addr), DE (X.blk s H scope (compEnvC scope cl C X.env) fp) F0 elt te)
    (hy : X.N[i]? = some y := by rfl) (hyl : X.env.scope.names.lookup y = some .local := by rfl) (hk : X.env.scope.kind = .function := by rfl) (hl : (py.line == pos.line) = true := by rfl)
    (ha : (scope.names.any fun (n, k) => n == y && (k == .local || k == .cell)) = false := by decide +kernel) (hs : ∀ x, foldedSetIterable iter X.env x = pure x := by intro _; rfl) :
    DS X F0 (.Assign [.Name y py] (.ListComp elt [⟨tg, iter, ifs, 0⟩] scope pos) spos) (dSet i (dLc w g tt te (own.map (·.2)))) :=
  PS.imp (ps_setLc (tt := lowT X.K F0 tt) (te := low X.K F0 te) hc hN hy hyl (sw_true hk hyl hl ha) hi ok hg ht he hs) fun D σ H ⟨sd, F, G, D3, at_, h, k⟩ =>
    low_lc tgo ⟨sd, F, G, _, at_, h, fun d v F1 G1 H1 l r q => k.nx _ _ _ _ _ l ((at_.rs.mono l.le).set i r) (sput_set q)⟩
end
end L3
set_option Elab.async false
set_option linter.all false
set_option maxRecDepth 100000
set_option maxHeartbeats 4000000
namespace L3
open PySem PySem.Spec PyProof.Rows L2

/-! ### the built-in names are not the module's -/
structure Blt (mg : Str → Option Value) : Prop where
  len : mg "len" = none
  range : mg "range" = none
  isinstance : mg "isinstance" = none
  int : mg "int" = none
  str : mg "str" = none
  tuple : mg "tuple" = none
  list : mg "list" = none
  bool : mg "bool" = none
  dict : mg "dict" = none
  all : mg "all" = none
  any : mg "any" = none
  enumerate : mg "enumerate" = none
  zip : mg "zip" = none
  max : mg "max" = none
  min : mg "min" = none
  sum : mg "sum" = none
  abs : mg "abs" = none
  divmod : mg "divmod" = none
  repr : mg "repr" = none
/-- a def of the text, as the module names it -/
structure DefAt (K : PySem.W.Frag) (mg : Str → Option Value) (x : Str) (st : Stmt) (ps : List Str) : Prop where
  ex : ∃ (f : Addr) (fd : FuncData), Fun K x x st f fd ∧ mg x = some (.ref f) ∧ PySem.W.keepIn K (.ref f) = true ∧ Binds K fd ps []

/-! ### promises by the number of arguments -/
def sp0 (f : Gp → DK → EK → Prop) : Sp3 := fun ds G Q E => match ds with
  | [] => f G Q E
  | _ => False
def sp1 (f : D → Gp → DK → EK → Prop) : Sp3 := fun ds G Q E => match ds with
  | [a] => f a G Q E
  | _ => False
def sp2 (f : D → D → Gp → DK → EK → Prop) : Sp3 := fun ds G Q E => match ds with
  | [a, b] => f a b G Q E
  | _ => False
def sp3 (f : D → D → D → Gp → DK → EK → Prop) : Sp3 := fun ds G Q E => match ds with
  | [a, b, c] => f a b c G Q E
  | _ => False
def sp4 (f : D → D → D → D → Gp → DK → EK → Prop) : Sp3 := fun ds G Q E => match ds with
  | [a, b, c, d] => f a b c d G Q E
  | _ => False
def sp5 (f : D → D → D → D → D → Gp → DK → EK → Prop) : Sp3 := fun ds G Q E => match ds with
  | [a, b, c, d, e] => f a b c d e G Q E
  | _ => False
def sp6 (f : D → D → D → D → D → D → Gp → DK → EK → Prop) : Sp3 := fun ds G Q E => match ds with
  | [a, b, c, d, e, g] => f a b c d e g G Q E
  | _ => False
section
variable {P : Program} {w : World} {K : PySem.W.Frag} {mg : Str → Option Value} {base : Heap} {x : Str} {st : Stmt} {N : List Str} {k : Nat}
/-- the rule for a def of the module that is called by its name -/
theorem cal3 {ps : List Str} {sp : Sp3} (F : DefAt K mg x st ps) (S : FnScope N ps (defScope st)) (hlen : ps.length ≤ N.length) (len : ∀ ds G Q E, sp ds G Q E → ds.length = ps.length)
    (hbody : ∀ (f : Addr) (cdv : Value) (A : Around) (outer : List Env) (s : Shared) (H : Hp) (E : XK) (o : Pt) (E3 : EK), Room k (A.deeper (envOfC x (defScope st) s.heap.objs.size f cdv)) →
      Takes (cxOf (L2.CX P w) P w K mg base N x (defScope st) f cdv A outer s H E) (lowW K o fun C fs _ G => E3 C fs G) →
      PassesOwn (model P w) (A.deeper (envOfC x (defScope st) s.heap.objs.size f cdv)) (envOfC x (defScope st) s.heap.objs.size f cdv) (cxOf (L2.CX P w) P w K mg base N x (defScope st) f cdv A outer s H E).xe →
      ∃ t : TS3, DSs (cxOf (L2.CX P w) P w K mg base N x (defScope st) f cdv A outer s H E) o (defBody st) t ∧
        ∀ ds G Q3, sp ds G Q3 E3 → t { nx := fun _ G' => Ret K Q3 .non G', rt := Ret K Q3 } (start3 N.length ds) G) : Cal3 P w K mg base (k + 1) x sp [] := by
  obtain ⟨f, fd, hF, hm, hk, hb⟩ := F.ex
  exact ⟨f, fd, ps, [], [], ok3 hF S hlen len fun cdv A outer s H E o E3 hr tk => hbody f cdv A outer s H E o E3 hr tk (passes_of rfl), hm, hk, hb, .nil, fun _ => .nil⟩
theorem len1 {f : D → Gp → DK → EK → Prop} : ∀ ds G Q E, sp1 f ds G Q E → ds.length = 1 := fun ds G Q E h => by unfold sp1 at h; split at h <;> first | rfl | exact h.elim
theorem len0 {f : Gp → DK → EK → Prop} : ∀ ds G Q E, sp0 f ds G Q E → ds.length = 0 := fun ds G Q E h => by unfold sp0 at h; split at h <;> first | rfl | exact h.elim
theorem len2 {f : D → D → Gp → DK → EK → Prop} : ∀ ds G Q E, sp2 f ds G Q E → ds.length = 2 := fun ds G Q E h => by unfold sp2 at h; split at h <;> first | rfl | exact h.elim
theorem len3 {f : D → D → D → Gp → DK → EK → Prop} : ∀ ds G Q E, sp3 f ds G Q E → ds.length = 3 := fun ds G Q E h => by unfold sp3 at h; split at h <;> first | rfl | exact h.elim
theorem len4 {f : D → D → D → D → Gp → DK → EK → Prop} : ∀ ds G Q E, sp4 f ds G Q E → ds.length = 4 := fun ds G Q E h => by unfold sp4 at h; split at h <;> first | rfl | exact h.elim
theorem len5 {f : D → D → D → D → D → Gp → DK → EK → Prop} : ∀ ds G Q E, sp5 f ds G Q E → ds.length = 5 := fun ds G Q E h => by unfold sp5 at h; split at h <;> first | rfl | exact h.elim
theorem in0 {f : Gp → DK → EK → Prop} {ds G Q E} (h : sp0 f ds G Q E) : ds = [] ∧ f G Q E := by unfold sp0 at h; split at h <;> first | exact ⟨rfl, h⟩ | exact h.elim
theorem in1 {f : D → Gp → DK → EK → Prop} {ds G Q E} (h : sp1 f ds G Q E) : ∃ a, ds = [a] ∧ f a G Q E := by unfold sp1 at h; split at h <;> first | exact ⟨_, rfl, h⟩ | exact h.elim
theorem in2 {f : D → D → Gp → DK → EK → Prop} {ds G Q E} (h : sp2 f ds G Q E) : ∃ a b, ds = [a, b] ∧ f a b G Q E := by unfold sp2 at h; split at h <;> first | exact ⟨_, _, rfl, h⟩ | exact h.elim
theorem in3 {f : D → D → D → Gp → DK → EK → Prop} {ds G Q E} (h : sp3 f ds G Q E) : ∃ a b c, ds = [a, b, c] ∧ f a b c G Q E := by unfold sp3 at h; split at h <;> first | exact ⟨_, _, _, rfl, h⟩ | exact h.elim
theorem in4 {f : D → D → D → D → Gp → DK → EK → Prop} {ds G Q E} (h : sp4 f ds G Q E) : ∃ a b c d, ds = [a, b, c, d] ∧ f a b c d G Q E := by unfold sp4 at h; split at h <;> first | exact ⟨_, _, _, _, rfl, h⟩ | exact h.elim
theorem in5 {f : D → D → D → D → D → Gp → DK → EK → Prop} {ds G Q E} (h : sp5 f ds G Q E) : ∃ a b c d e, ds = [a, b, c, d, e] ∧ f a b c d e G Q E := by unfold sp5 at h; split at h <;> first | exact ⟨_, _, _, _, _, rfl, h⟩ | exact h.elim
end
section
variable {X : Cx} {F0 : Pt} {a b c e o : Expr} {ta tb tc te : TE3} {pos : Pos} {tg : Expr}
/-- over a list, a tuple, a text -/
def wA (te : TE3) : TI3 := fun sd G R => te sd G fun d G1 => match d with
  | .lst ds => R ds G1
  | .scr ds => R ds G1
  | .tup ds => R ds G1
  | .str s => R (signs s) G1
  | _ => False
theorem PI.or {tg e : Expr} {t u : TI} (h : PI X tg e t) (h' : PI X tg e u) : PI X tg e fun σ H R => t σ H R ∨ u σ H R := ⟨fun pins s σ H R I q => q.elim (h.run pins s σ H R I) (h'.run pins s σ H R I)⟩
end
/-- a datum that is told by its reading: at a leaf -/
theorem low_any {K : PySem.W.Frag} {F0 : Pt} {te : TE3} : True := trivial
end L3
set_option Elab.async false
set_option linter.all false
set_option maxRecDepth 100000
set_option maxHeartbeats 4000000
namespace L3
open PySem PySem.Spec PyProof.Rows L2 PySem.Calls

/-! ### t[::-1] -/
section
variable {prog : Program} {w : World} {A : Around} {E : Value → Shared → Prop} {s : Shared}
theorem places_rev (n : Nat) : Builtin.Slice.slicePlaces ((n : Int) - 1) (-1) (-1) = n := by
  unfold Builtin.Slice.slicePlaces
  have h1 : ¬ ((-1 : Int) > 0) := by omega
  rw [if_neg h1]
  show (if (n : Int) - 1 > -1 then ((n : Int) - 1 - -1 - 1) / (- -1) + 1 else 0).toNat = n
  rw [show (- -1 : Int) = 1 by decide, Int.ediv_one]
  split <;> omega
theorem pick_rev (xs : Array Value) : ((List.range xs.size).filterMap fun (m : Nat) => xs[((xs.size : Int) - 1 + (m : Int) * -1).toNat]?).toArray = xs.toList.reverse.toArray := by
  have h := PySem.W.krv_pick xs
  unfold slicePick at h
  rw [PySem.W.krv_bounds] at h
  rw [← h]
  show _ = ((sliceRange ((xs.size : Int) - 1) (-1) (-1)).filterMap (xs[·]?)).toArray
  rw [PySem.W.krv_sliceRange, List.filterMap_map]
  congr 1
  have gen : ∀ l : List Nat, (∀ m ∈ l, m < xs.size) → (l.filterMap fun (m : Nat) => xs[((xs.size : Int) - 1 + (m : Int) * -1).toNat]?) = l.filterMap ((fun x => xs[x]?) ∘ fun k => xs.size - 1 - k) := by
    intro l
    induction l with
    | nil => intro _; rfl
    | cons m l ih =>
      intro hl
      have hm := hl m List.mem_cons_self
      have e : ((xs.size : Int) - 1 + (m : Int) * -1).toNat = xs.size - 1 - m := by omega
      rw [List.filterMap_cons, List.filterMap_cons, ih fun k hk => hl k (List.mem_cons_of_mem _ hk), e]
      rfl
  exact gen _ fun m hm => List.mem_range.mp hm
theorem sliceApplied_rev {sl : Addr} {vs : Value} {n : Nat} {Q : Int × Int × Nat → Shared → Prop} (hs : s.heap.IsSliceOf sl .none .none vs) (ps : IsPart vs (some (-1)))
    (h : Q ((n : Int) - 1, -1, n) s) : wpAny (model prog w) A (Builtin.Slice.sliceApplied (.ref sl) (pure (n : Int))) Q E s := by
  obtain ⟨os, hos, hcs, hds⟩ := id hs
  unfold Builtin.Slice.sliceApplied Builtin.Slice.sliceFields
  refine wpAny_bind (wpAny_bind (wpAny_field hos hds (x := .none) rfl (wpAny_bind (wpAny_field hos hds (x := .none) rfl (wpAny_bind (wpAny_field hos hds (x := vs) rfl (wpAny_pure ?_)))))))
  refine wpAny_bind (HT.slicePart_ ps ?_)
  show wpAny _ _ (if ((-1 : Int) == 0) = true then _ else _) _ _ s
  rw [if_neg (by decide)]
  refine wpAny_bind (slicePart_none (wpAny_bind (slicePart_none (wpAny_bind (wpAny_pure ?_)))))
  show wpAny _ _ (pure (((n : Int) - 1), (-1 : Int), Builtin.Slice.slicePlaces ((n : Int) - 1) (-1) (-1))) _ _ s
  rw [places_rev]
  exact wpAny_pure h
theorem getItem_tuple_rev {t sl : Addr} {items : Array Value} {vs : Value} {Q : Value → Shared → Prop} (ht : IsTup s.heap t items) (hs : s.heap.IsSliceOf sl .none .none vs) (ps : IsPart vs (some (-1)))
    (h : Q (.ref s.heap.objs.size) { s with heap := s.heap.push { cls := .type "tuple", data := .seq items.toList.reverse.toArray } })
    (hsz : items.size ≤ sizeLine) : wpAny (model prog w) A (getItem (.ref t) (.ref sl)) Q E s := by
  have htake : sizeOk (.seq items.toList.reverse.toArray) := by
    show items.toList.reverse.toArray.size ≤ sizeLine
    rw [List.size_toArray, List.length_reverse, Array.length_toList]
    exact hsz
  obtain ⟨os, hos, hcs, hds⟩ := id hs
  have hTs : s.TypeIs (.ref sl) "slice" := ⟨os, hos, hcs⟩
  unfold getItem
  try with_reducible refine wpAny_holding ?_
  first | refine wpAny_bind (wpAny_pure ?_) | skip
  refine wpAny_bind (wpAny_sequenceKey ht.typeIs (by decide) ?_)
  refine wpAny_bind (wpAny_callSpecial?_slot (name := Str.ofString "__getitem__") ht.typeIs PyProof.Rows.slot_tuple_getitem
    (wpAny_call_entry PyProof.Rows.slot_tuple_getitem ht.typeIs entry_tuple_getitem ?_ (args_tuple_getitem _ _)))
  show wpAny _ _ (Builtin.Tuple.tupleItemsOf (.ref t) >>= _) _ _ s
  refine wpAny_bind (tupleItemsOf_ ht ?_)
  refine wpAny_bind (wpAny_typeOf hTs ?_)
  rw [if_pos (by decide)]
  refine wpAny_bind (sliceApplied_rev hs ps ?_)
  show wpAny _ _ (if (((items.size : Int) - 1) == 0 && (-1 : Int) == 1 && items.size == items.size) = true then _ else _) _ _ s
  rw [if_neg (by intro q; rw [Bool.and_eq_true, Bool.and_eq_true] at q; exact absurd (eq_of_beq q.1.2) (by decide)), pick_rev]
  first
    | exact wpAny_bind (m := Builtin.Tuple.tupleExact _) (wpAny_newObj_type (wpAny_pure ⟨_, rfl, wpAny_pure h⟩) htake)
    | exact wpAny_bind (m := Builtin.Tuple.tupleExact _) (wpAny_newObj_type (wpAny_bind (wpAny_pure (wpAny_pure ⟨_, rfl, wpAny_pure h⟩))) htake)
    | exact wpAny_bind (wpAny_bind (m := Builtin.Tuple.tupleExact _) (wpAny_newObj_type (wpAny_pure (wpAny_pure ⟨_, rfl, wpAny_pure h⟩)) htake))
    | exact wpAny_bind (wpAny_bind (m := Builtin.Tuple.tupleExact _) (wpAny_newObj_type (wpAny_pure ⟨_, rfl, wpAny_pure h⟩) htake))
end
section
variable {X : Cx}
def tRevA (K : PySem.W.Frag) (te : TE) : TE := fun σ H Q => te σ H fun x H1 => ∃ a xs, x = .ref a ∧ ((SqL K H1 a xs ∧ ∀ p, H1 p = none → Q (.ref p) (upd H1 p (.lst xs.reverse))) ∨ (SqT K H1 a xs ∧ ∀ p, H1 p = none → Q (.ref p) (upd H1 p (.tup xs.reverse))))
theorem pe_revA {e : Expr} {te : TE} {k : Nat} {p1 p2 p3 pos : Pos} (he : PE X e te) : PE X (.Subscript e (.Slice none none (some (.UnaryOp .USub (.Constant (.int 1) k p1) p2)) p3) pos) (tRevA X.K te) := by
  refine ⟨fun pins s σ H Q I h => ?_⟩
  refine Subscript_ (thn (he.run pins s σ H _ I h) fun v s1 ⟨x, H1, I1, r1, q1⟩ => ?_)
  obtain ⟨a, xs, ex, q⟩ := q1
  subst ex
  cases r1
  have hst : PO X (some (.UnaryOp .USub (.Constant (.int 1) k p1) p2)) (tPart (tUn (rU fun i => .int (-i)) (tC (.int 1)))) := po_some (pe_un un_neg pe_int)
  refine wpAny_Slice (thn (po_none.run pins s1 σ H1 (fun o H2 => o = none ∧ H2 = H1) I1 ⟨rfl, rfl⟩) fun vl s2 ⟨l, H2, I2, pl, el, e2⟩ => ?_)
  subst el e2
  refine thn (po_none.run pins s2 σ H2 (fun o H3 => o = none ∧ H3 = H2) I2 ⟨rfl, rfl⟩) fun vu s3 ⟨u, H3, I3, pu, eu, e3⟩ => ?_
  subst eu e3
  refine thn (hst.run pins s3 σ H3 (fun o H4 => o = some (-1) ∧ H4 = H3) I3 ⟨1, rfl, -1, rfl, rfl, rfl⟩) fun vs s4 ⟨o, H4, I4, ps, eo, e4⟩ => ?_
  subst eo e4
  have I5 : Inv X pins σ H4 { s4 with heap := s4.heap.push { cls := .type "slice", data := .fields #[vl, vu, vs] } } := I4.kept (t' := s4.toks) fun b ob q => Heap.get?_push_of_some _ q
  show wpAny (model X.prog X.w) X.A (subscriptTail e (.Slice none none (some (.UnaryOp .USub (.Constant (.int 1) k p1) p2)) p3) (.ref a) (.ref s4.heap.objs.size)) (EP X pins σ Q) X.xe { s4 with heap := s4.heap.push { cls := .type "slice", data := .fields #[vl, vu, vs] } }
  rcases q with ⟨hx, q⟩ | ⟨hx, q⟩
  · obtain ⟨its, r, ht, hz⟩ := I5.list hx
    have hlen := r.length
    refine tail_any (ops := [.ref a, .ref s4.heap.objs.size]) ht.isList.typeIs (PySem.slot_list_getitem.lookup) ?_ (by with_unfolding_all rfl)
    refine wpAny_getItem_list_slice ht.isList (Heap.IsSliceOf.new _ vl vu vs) pl pu ps (by decide) ?_ (by rw [List.size_toArray]; omega)
    rw [PySem.W.krv_pick]
    refine ⟨.ref _, _, I5.laid (t' := s4.toks) (o := .lst xs.reverse) (fun b ob q => Heap.get?_push_of_some _ q) (Nat.le_refl _) ?_, rfl, q _ (I5.hok.fresh (Nat.le_refl _))⟩
    exact ⟨by rw [List.length_reverse]; exact hz, _, 0, r.reverse, Heap.get?_push_size _ rfl⟩
  · obtain ⟨its, r, ht, hz⟩ := I5.tuple hx
    have hlen := r.length
    refine tail_any (ops := [.ref a, .ref s4.heap.objs.size]) ht.typeIs (PyProof.Rows.slot_tuple_getitem.lookup) ?_ (by with_unfolding_all rfl)
    cases pl; cases pu
    refine getItem_tuple_rev ht (Heap.IsSliceOf.new _ .none .none vs) ps ?_ (by rw [List.size_toArray]; omega)
    refine ⟨.ref _, _, I5.laid (t' := s4.toks) (o := .tup xs.reverse) (fun b ob q => Heap.get?_push_of_some _ q) (Nat.le_refl _) ?_, rfl, q _ (I5.hok.fresh (Nat.le_refl _))⟩
    exact ⟨by rw [List.length_reverse]; exact hz, _, r.reverse, IsTup.new _ _⟩
end
section
variable {X : Cx} {F0 : Pt} {a b c e o : Expr} {te : TE3} {pos : Pos} {tg : Expr}
def dRev (te : TE3) : TE3 := fun sd G Q => te sd G fun d G1 => match d with
  | .lst ds => Q (.lst ds.reverse) G1
  | .tup ds => Q (.tup ds.reverse) G1
  | .ref p => ∃ ds, G1 p = some (.lst ds) ∧ Q (.lst ds.reverse) G1
  | _ => False
theorem de_rev {k : Nat} {p1 p2 p3 : Pos} (he : DE X F0 e te) : DE X F0 (.Subscript e (.Slice none none (some (.UnaryOp .USub (.Constant (.int 1) k p1) p2)) p3) pos) (dRev te) :=
  PE.imp (pe_revA he) fun σ H Q ⟨sd, F, G, Q3, at_, h, k⟩ => ⟨sd, F, G, _, at_, h, fun d v F1 G1 H1 l1 r1 q1 => by
    cases d <;> first | exact q1.elim | skip
    · cases r1
      obtain ⟨ds, e0, q⟩ := q1
      obtain ⟨_, vs, hp, rl⟩ := own_lst l1.cp e0
      refine ⟨_, vs, rfl, .inl ⟨SqL.of hp, fun p hp => ?_⟩⟩
      have x := Ext.newF l1.cp (.lst vs.reverse) hp
      exact k _ _ _ _ _ (l1.trans x) (.lst upd_same (rl.reverse.mono x.le)) q
    · cases r1 with
      | @tup _ _ vs s rl =>
        refine ⟨_, vs, rfl, .inr ⟨sqT_mono l1.cp.frz s, fun p hp => ?_⟩⟩
        have x := Ext.newF l1.cp (.tup vs.reverse) hp
        exact k _ _ _ _ _ (l1.trans x) (.tup (.inl (.inl upd_same)) (rl.reverse.mono x.le)) q1
    · cases r1 with
      | @lst _ _ vs s rl =>
        refine ⟨_, vs, rfl, .inl ⟨SqL.of (l1.cp.frz _ _ s), fun p hp => ?_⟩⟩
        have x := Ext.newF l1.cp (.lst vs.reverse) hp
        exact k _ _ _ _ _ (l1.trans x) (.lst upd_same (rl.reverse.mono x.le)) q1⟩

/-! ### for over a list, a tuple, a text -/
def iAny (K : PySem.W.Frag) (te : TE) : TI := fun σ H R => te σ H fun x H1 => (∃ a, x = .ref a ∧ (∃ xs, SqL K H1 a xs) ∧ R (Itl K a) H1) ∨ (∃ a, x = .ref a ∧ (∃ xs, SqT K H1 a xs) ∧ R (Itt K a) H1) ∨ ∃ y, x = .str y ∧ R (Its y) H1
theorem pi_any {te : TE} (he : PE X e te) : PI X tg e (iAny X.K te) := by
  refine ⟨fun pins s σ H R I h => ?_⟩
  refine thn (he.run pins s σ H _ I h) fun v s1 ⟨x, H1, I1, r1, q1⟩ => ?_
  rcases q1 with ⟨a, e, ⟨xs, hq⟩, q⟩ | ⟨a, e, ⟨xs, hq⟩, q⟩ | ⟨y, e, q⟩
  · subst e
    cases r1
    obtain ⟨its, rv, p, hz⟩ := I1.list hq
    refine wpAny_pyIter_list p.isList ?_
    refine ⟨s1.heap.objs.size, [s1.heap.objs.size], _, _, H1, rfl, I1.kept (t' := s1.toks) fun b o e => Heap.get?_push_of_some _ e, turn_list a _, ⟨_, Heap.get?_push_size _ rfl, rfl, rfl⟩, fun b hb => ?_, q⟩
    have e : b = s1.heap.objs.size := by simpa using hb
    subst e
    exact I1.fpOk (Nat.le_refl _) (I1.hok.fresh (Nat.le_refl _))
  · subst e
    cases r1
    obtain ⟨its, rv, p, hz⟩ := I1.tuple hq
    refine wpAny_pyIter_tuple (show s1.heap.IsTuple a its.toArray from p) ?_
    refine ⟨s1.heap.objs.size, [s1.heap.objs.size], _, _, H1, rfl, I1.kept (t' := s1.toks) fun b o e => Heap.get?_push_of_some _ e, turn_tuple a _, ⟨_, Heap.get?_push_size _ rfl, rfl, rfl⟩, fun b hb => ?_, q⟩
    have e : b = s1.heap.objs.size := by simpa using hb
    subst e
    exact I1.fpOk (Nat.le_refl _) (I1.hok.fresh (Nat.le_refl _))
  · subst e
    obtain ⟨t, rfl⟩ := r1
    cases ha : y.cps.all (· < 128)
    · exact wpAny_pyIter_wide ha (pi_one (tk := s1.toks) I1 _ (turn_str _ y t "str_iterator" (.inr rfl)) ⟨_, Heap.get?_push_size _ rfl, rfl, rfl⟩ q)
    · exact wpAny_pyIter_ascii ha (pi_one (tk := s1.toks) I1 _ (turn_str _ y t "str_ascii_iterator" (.inl rfl)) ⟨_, Heap.get?_push_size _ rfl, rfl, rfl⟩ q)
theorem walks_str {K : PySem.W.Frag} {F : Hp} (s : Str) : Walks K F (Its s) (signs s) := by
  refine ⟨fun i F' G' H' l c hi => ?_, fun i F' G' H' l c hi => ?_⟩
  · have hi' : i < s.cps.size := by simpa [signs] using hi
    refine ⟨hi', fun x H2 ⟨eh, cc, e1, ex⟩ => ?_⟩
    subst eh ex
    refine ⟨F', Ext.refl c, _, ?_, .str _⟩
    unfold signs
    rw [List.getElem?_map, Array.getElem?_toList, e1]
    rfl
  · show s.cps.size ≤ i
    simpa [signs] using hi
theorem di_any (he : DE X F0 e te) : DI X F0 tg e (wA te) := PI.imp (pi_any he) fun σ H R ⟨sd, F, G, R3, at_, h, k⟩ => ⟨sd, F, G, _, at_, h, fun d v F1 G1 H1 l1 r1 q1 => by
  cases d <;> first | exact q1.elim | skip
  · cases r1
    exact .inr (.inr ⟨_, rfl, k _ _ _ _ _ l1 (walks_str _) q1⟩)
  · cases r1 with
    | tup s rl => exact .inr (.inl ⟨_, rfl, ⟨_, sqT_mono l1.cp.frz s⟩, k _ _ _ _ _ l1 (walks_tup s rl) q1⟩)
  · cases r1 with
    | lst s rl => exact .inl ⟨_, rfl, ⟨_, SqL.of (l1.cp.frz _ _ s)⟩, k _ _ _ _ _ l1 (walks_lst (SqL.of s) rl) q1⟩
  · cases r1 with
    | scr s rl => exact .inl ⟨_, rfl, ⟨_, sqL_mono l1.cp.frz s⟩, k _ _ _ _ _ l1 (walks_lst s rl) q1⟩⟩
end

/-! ### enumerate(list), enumerate(tuple) -/
def IteT (K : PySem.W.Frag) (a : Addr) : It :=
  ⟨fun i H => ∃ (xs : List V) (x : V), SqT K H a xs ∧ xs[i]? = some x, fun i H v H' => ∃ T x, v = .ref T ∧ H T = none ∧ H' = upd H T (.tup [.int (i : Nat), x]) ∧ ∀ xs, SqT K H a xs → xs[i]? = some x, fun i H => ∃ xs : List V, SqT K H a xs ∧ xs.length ≤ i⟩
theorem isTup_ne {h : Heap} {e t : Addr} {c : Int} {it : Addr} {old : Value} {items : Array Value} (he : IsEnum h e it c old) (ht : h.IsTuple t items) : e ≠ t := fun z => by
  subst z
  obtain ⟨o, ho, hc, _⟩ := ht
  have q := he.symm.trans ho
  have q2 := congrArg Obj.cls (Option.some.inj q)
  rw [hc] at q2
  have q3 : "enumerate" = "tuple" := Value.type.inj q2
  exact absurd q3 (by decide)
theorem iter_ne {h : Heap} {it t : Addr} {i : Nat} {items : Array Value} (hit : h.IsTupleIter it t i) (ht : h.IsTuple t items) : t ≠ it := fun z => by
  subst z
  obtain ⟨o, ho, hc, _⟩ := ht
  obtain ⟨o2, ho2, hc2, _⟩ := hit
  have q := ho.symm.trans ho2
  cases q
  rw [hc] at hc2
  have q3 : "tuple" = "tuple_iterator" := Value.type.inj hc2
  exact absurd q3 (by decide)
theorem turn_enumT {P : Program} {w : World} {K : PySem.W.Frag} {elts : List Expr} {kk : Nat} {tpos : Pos} (a e it : Addr) :
    Turn P w K (.Tuple elts kk tpos) (IteT K a) [e, it] e (fun i h => (∃ old, IsEnum h e it ((i : Nat) : Int) old) ∧ h.IsTupleIter it a i ∧ e ≠ it) where
  mem := by simp
  obj := fun i h st b hb => by
    obtain ⟨⟨old, he⟩, ⟨o, ho, hc, hd⟩, _⟩ := st
    have e' : b = e ∨ b = it := by simpa using hb
    rcases e' with z | z
    · rw [z]; exact ⟨_, he, fun v q => nomatch q⟩
    · rw [z]; exact ⟨o, ho, fun v q => by rw [hd] at q; cases q⟩
  keep := fun i h h' st k => let ⟨⟨old, he⟩, hi, hne⟩ := st; ⟨⟨old, k e (by simp) _ he⟩, hi.at fun o q => k it (by simp) o q, hne⟩
  item := by
    intro X hP hw hK hc i pins s σ H E I hf st hg
    subst hP hw hK
    obtain ⟨⟨old, he⟩, hit, hne⟩ := st
    obtain ⟨xs, x, hq, hx⟩ := hg
    obtain ⟨its, rv, p, hz⟩ := I.tuple hq
    obtain ⟨u, hu, ru⟩ := rv.get hx
    have hel : e < s.heap.objs.size := Heap.lt_size he
    have hil : it < s.heap.objs.size := by obtain ⟨_, q, _⟩ := hit; exact Heap.lt_size q
    have pt : s.heap.IsTuple a its.toArray := p
    have hin : i < its.toArray.size := by
      have q := (List.getElem?_eq_some_iff.mp hu).1
      simpa using q
    refine wpAny_pyNext_enum_itemC (Draws.tuple (A := X.A.in1) (I.ok.hd hc) it a (iter_ne hit pt) its.toArray) he ⟨hit, pt⟩ hin hne (by
      intro hm
      have e' : e = it ∨ e = a := by simpa using hm
      rcases e' with z | z
      · exact hne z
      · exact isTup_ne he pt z) fun x' h' tk hPx ho hit' hT hsz hk => ?_
    have ex : x' = u := by
      have q : its.toArray[i]? = some x' := hPx
      have q2 : its.toArray[i]? = some u := by simpa using hu
      rw [q] at q2
      exact Option.some.inj q2
    subst ex
    refine ⟨_, rfl, wpAny_letOwnedTupleGo_enum (s := { s with heap := h', toks := tk + 1 }) ho fun h'' he' sb => ?_⟩
    have hT2 : h''.get? s.heap.objs.size = some { cls := .type "tuple", data := .seq #[.int i tk, x'] } := (sb.2 _ (Nat.ne_of_gt hel)).trans hT
    have new : ObjOk X.prog X.w (upd H s.heap.objs.size (.tup [.int (i : Nat), x])) h'' s.heap.objs.size (.tup [.int (i : Nat), x]) :=
      ⟨by show 2 ≤ sizeLine; decide, [.int i tk, x'], .cons ⟨_, rfl⟩ (.cons ru .nil), ⟨_, hT2, rfl, _, rfl⟩⟩
    have I1 : Inv X pins σ (upd H s.heap.objs.size (.tup [.int (i : Nat), x])) { s with heap := h'', toks := tk + 1 } :=
      I.turnedNew (ch := [e, it]) (fun b ob hb q => (sb.2 b (fun z => hb (by simp [z]))).trans (hk b ob (fun z => hb (by simp [z])) (fun z => hb (by simp [z])) q)) hf (Nat.le_refl _) new
    refine ⟨.ref s.heap.objs.size, _, I1, rfl, ⟨_, x, rfl, I.hok.fresh (Nat.le_refl _), rfl, fun ys hy => by rw [I.tuple_inj hy hq]; exact hx⟩, ⟨⟨x', ?_⟩, hit'.1.at fun o q => (sb.2 it (Ne.symm hne)).trans q, hne⟩, fun b hb => ?_⟩
    · have e1 : ((i + 1 : Nat) : Int) = (i : Int) + 1 := by omega
      rw [e1]; exact he'
    · have hb' : b < s.heap.objs.size := by
        have e' : b = e ∨ b = it := by simpa using hb
        rcases e' with z | z
        · rw [z]; exact hel
        · rw [z]; exact hil
      rw [upd_ne (Nat.ne_of_lt hb')]
      exact (hf b hb).1
  done := by
    intro X hP hw hK hc i pins s σ H E I hf st hg
    subst hP hw hK
    obtain ⟨⟨old, he⟩, hit, hne⟩ := st
    obtain ⟨xs, hq, hx⟩ := hg
    obtain ⟨its, rv, p, hz⟩ := I.tuple hq
    obtain ⟨f0, f1, f2, f3, f4, f5⟩ := hf it (by simp)
    have hl := rv.length
    have pt : s.heap.IsTuple a its.toArray := p
    have hend : its.toArray[i]? = none := by simp; omega
    have hT : s.TypeIs (.ref e) "enumerate" := ⟨_, he, rfl⟩
    unfold pyNext
    refine wpAny_bind (wpAny_attempt (wpAny_callSpecial?_slot (name := Str.ofString "__next__") hT F.slot_enumerate_next
      (wpAny_call_entry F.slot_enumerate_next hT F.entry_enumerate_next ?_ (F.args_enumerate_next_1 _))))
    show wpAny _ _ (field (.ref e) 2 >>= _) _ _ _
    refine wpAny_bind (wpAny_field he rfl (x := .ref it) rfl ?_)
    refine wpAny_bind (wpAny_nextOf_tuple_end (A := X.A.in1) (I.ok.hd hc) hit pt hend fun h' x he' hx' => ?_)
    obtain ⟨o, ho, hcx⟩ := hx'
    refine wpAny_bind (wpAny_isInstance (T := "StopIteration") (b := true) ⟨o, ho, hcx⟩ isSubtype_stop ?_)
    exact wpAny_pure ⟨rfl, I.turned (t' := s.toks) (fun b o hb q => he' b o hb q) f0 f1 f3 f4 f5⟩
  self := fun A i s Q E st h => let ⟨⟨_, he⟩, _⟩ := st; wpAny_pyIter_enum he h
/-- enumerate(x) -/
def iEnumA (K : PySem.W.Frag) (ta : TA) : TI := fun σ H R => ta σ H fun vs H1 => ∃ a xs, vs = [.ref a] ∧ ((SqL K H1 a xs ∧ R (Ite K a) H1) ∨ (SqT K H1 a xs ∧ R (IteT K a) H1))
theorem meets_enumT {v : Value} {o : Obj} {H : Heap → Prop} (B : Begins v o H) :
    Meets (Builtin.«enumerate.__new__» ⟨[.type "enumerate", v], []⟩) (fun _ R s => H s.heap ∧
      R (.ok (.ret (.ref (s.heap.push o).objs.size))) { s with heap := (s.heap.push o).push { cls := .type "enumerate", data := .fields #[.none, .bool false, .ref s.heap.objs.size, rawInt 0, .none, .none] } }) :=
  .of_wp fun prog w A R s h => by
    obtain ⟨hp, g, d, tk, os⟩ := s; obtain ⟨h1, h⟩ := h
    have hsub := sub_enumerate
    have q1 : ∀ {A' : Around} {E : Value → Shared → Prop} {Q : Value → Shared → Prop}, Q (.ref hp.objs.size) ⟨hp.push o, g, d, tk, os⟩ → wpAny (model prog w) A' (pyIter v) Q E ⟨hp, g, d, tk, os⟩ :=
      fun q => B.iter prog w _ _ ⟨hp, g, d, tk, os⟩ _ h1 q
    wp_walk using q1
    all_goals first
      | exact ⟨_, rfl, h⟩
      | (refine wpAny_stack_any fun st => wpAny_pure ?_
         split
         · rename_i c _ _ _ _ _
           cases (c == Value.type "enumerate")
           · wp_walk using q1
             exact ⟨_, rfl, h⟩
           · wp_walk using q1
             exact ⟨_, rfl, h⟩
         · wp_walk using q1
           exact ⟨_, rfl, h⟩)
theorem call_enumT {prog : Program} {w : World} {A : Around} {E : Value → Shared → Prop} {s : Shared} {a : Addr} {items : Array Value} {Q : Value → Shared → Prop} (p : s.heap.IsTuple a items)
    (h : ∀ h', IsEnum h' (s.heap.objs.size + 1) s.heap.objs.size ((0 : Nat) : Int) .none → h'.IsTupleIter s.heap.objs.size a 0 → h'.objs.size = s.heap.objs.size + 2 → (∀ b o, s.heap.get? b = some o → h'.get? b = some o) → Q (.ref (s.heap.objs.size + 1)) { s with heap := h' }) :
    wpAny (model prog w) A (call (.type "enumerate") [.ref a]) Q E s := by
  have B := begins_tuple a items
  refine callType_new F.called_enumerate (by decide) (F.typeCall_enumerate_1 _) (F.newCall_enumerate_1 _) (fun obj => F.args_object_init_2 obj _) F.entry_enumerate_new
    (meets_enumT B) ⟨p, ?_⟩
  have hz : (s.heap.push { cls := .type "tuple_iterator", data := .fields #[.ref a, .int 0 0] }).objs.size = s.heap.objs.size + 1 := Heap.size_push ..
  show _ ∧ _
  rw [hz]
  have he : IsEnum ((s.heap.push { cls := .type "tuple_iterator", data := .fields #[.ref a, .int 0 0] }).push { cls := .type "enumerate", data := .fields #[.none, .bool false, .ref s.heap.objs.size, rawInt 0, .none, .none] }) (s.heap.objs.size + 1) s.heap.objs.size ((0 : Nat) : Int) .none := by
    have := Heap.get?_push_size (s.heap.push { cls := .type "tuple_iterator", data := .fields #[.ref a, .int 0 0] }) (o := { cls := .type "enumerate", data := .fields #[.none, .bool false, .ref s.heap.objs.size, rawInt 0, .none, .none] }) rfl
    rw [hz] at this; exact this
  refine ⟨⟨_, he, rfl⟩, h _ he ⟨_, Heap.get?_push_of_some _ (Heap.get?_push_size _ B.free), rfl, rfl⟩ (by rw [Heap.size_push, hz]) fun b o x => Heap.get?_push_of_some _ (Heap.get?_push_of_some _ x)⟩
theorem pi_enumA {X : Cx} {e : Expr} {ta : TA} {p pos tpos : Pos} {elts : List Expr} {kk : Nat} (hg : Gl X "enumerate") (hm : X.mg "enumerate" = none) (ha : PA X [e] ta) (hs : starEach [e] X.env = [(false, eval e X.env)] := by rfl) :
    PI X (.Tuple elts kk tpos) (.Call (.Name "enumerate" p) [e] [] pos) (iEnumA X.K ta) := by
  refine ⟨fun pins s σ H R I h => ?_⟩
  refine Call_ (ld_blt I hg hm boot_enumerate (PyProof.Rows.callWith_type1 (thn (ha.run pos pins s σ H _ I h) fun us s1 ⟨vs, H1, I1, r1, q1⟩ => ?_) hs rfl))
  obtain ⟨a, xs, ex, q1⟩ := q1
  subst ex
  cases r1 with
  | cons r rr =>
    cases rr
    cases r
    rcases q1 with ⟨hq, q⟩ | ⟨hq, q⟩
    · obtain ⟨its, rv, p', hz⟩ := I1.list hq
      refine call_enumerate_list p'.isList fun h' he hit hsz hk => wpAny_pyIter_enum he ?_
      have I2 : Inv X pins σ H1 { s1 with heap := h' } := I1.kept (t' := s1.toks) hk
      refine ⟨s1.heap.objs.size + 1, [s1.heap.objs.size + 1, s1.heap.objs.size], _, _, H1, rfl, I2, turn_enum a (s1.heap.objs.size + 1) s1.heap.objs.size, ⟨⟨.none, he⟩, hit, Nat.succ_ne_self _⟩, fun b hb => ?_, q⟩
      have e' : b = s1.heap.objs.size + 1 ∨ b = s1.heap.objs.size := by simpa using hb
      have hle : s1.heap.objs.size ≤ b := by
        rcases e' with z | z
        · rw [z]; exact Nat.le_add_right _ _
        · rw [z]; exact Nat.le_refl _
      exact I1.fpOk hle (I1.hok.fresh hle)
    · obtain ⟨its, rv, p', hz⟩ := I1.tuple hq
      refine call_enumT (show s1.heap.IsTuple a its.toArray from p') fun h' he hit hsz hk => wpAny_pyIter_enum he ?_
      have I2 : Inv X pins σ H1 { s1 with heap := h' } := I1.kept (t' := s1.toks) hk
      refine ⟨s1.heap.objs.size + 1, [s1.heap.objs.size + 1, s1.heap.objs.size], _, _, H1, rfl, I2, turn_enumT a (s1.heap.objs.size + 1) s1.heap.objs.size, ⟨⟨.none, he⟩, hit, Nat.succ_ne_self _⟩, fun b hb => ?_, q⟩
      have e' : b = s1.heap.objs.size + 1 ∨ b = s1.heap.objs.size := by simpa using hb
      have hle : s1.heap.objs.size ≤ b := by
        rcases e' with z | z
        · rw [z]; exact Nat.le_add_right _ _
        · rw [z]; exact Nat.le_refl _
      exact I1.fpOk hle (I1.hok.fresh hle)
def enumD : Nat → List D → List D
  | _, [] => []
  | k, d :: ds => .tup [.int (k : Nat), d] :: enumD (k + 1) ds
theorem enumD_get : ∀ (ds : List D) (k i : Nat), (enumD k ds)[i]? = (ds[i]?).map fun d => .tup [.int ((k + i : Nat) : Int), d]
  | [], k, i => by simp [enumD]
  | d :: ds, k, 0 => by simp [enumD]
  | d :: ds, k, i + 1 => by
    unfold enumD
    rw [List.getElem?_cons_succ, enumD_get ds (k + 1) i, List.getElem?_cons_succ]
    have e : k + 1 + i = k + (i + 1) := by omega
    rw [e]
theorem enumD_length (ds : List D) : ∀ k, (enumD k ds).length = ds.length := by
  induction ds with
  | nil => intro k; rfl
  | cons d ds ih => intro k; show (enumD (k + 1) ds).length + 1 = _; rw [ih]; rfl
section
variable {K : PySem.W.Frag}
theorem walks_enum {F : Hp} {p : Addr} {vs : List V} {ds : List D} (s : SqL K F p vs) (r : RepL K F ds vs) : Walks K F (Ite K p) (enumD 0 ds) := by
  refine ⟨fun i F' G' H' l c hi => ?_, fun i F' G' H' l c hi => ⟨vs, sqL_mono (l.trans c.frz) s, by rw [← r.length]; rwa [enumD_length] at hi⟩⟩
  rw [enumD_length] at hi
  have e : ds[i]? = some ds[i] := by simp [hi]
  obtain ⟨v, e1, r1⟩ := r.get e
  refine ⟨⟨vs, v, sqL_mono (l.trans c.frz) s, e1⟩, fun x H2 ⟨T, y, ex, hT, eh, z⟩ => ?_⟩
  subst ex eh
  have q := z vs (sqL_mono (l.trans c.frz) s)
  rw [e1] at q
  cases q
  have x := Ext.newF c (.tup [.int (i : Nat), v]) hT
  refine ⟨_, x, _, by rw [enumD_get, e]; rfl, ?_⟩
  rw [Nat.zero_add]
  exact .tup (.inl (.inl upd_same)) (.cons (.int _) (.cons ((r1.mono l).mono x.le) .nil))
theorem walks_enumT {F : Hp} {p : Addr} {vs : List V} {ds : List D} (s : SqT K F p vs) (r : RepL K F ds vs) : Walks K F (IteT K p) (enumD 0 ds) := by
  refine ⟨fun i F' G' H' l c hi => ?_, fun i F' G' H' l c hi => ⟨vs, sqT_mono (l.trans c.frz) s, by rw [← r.length]; rwa [enumD_length] at hi⟩⟩
  rw [enumD_length] at hi
  have e : ds[i]? = some ds[i] := by simp [hi]
  obtain ⟨v, e1, r1⟩ := r.get e
  refine ⟨⟨vs, v, sqT_mono (l.trans c.frz) s, e1⟩, fun x H2 ⟨T, y, ex, hT, eh, z⟩ => ?_⟩
  subst ex eh
  have q := z vs (sqT_mono (l.trans c.frz) s)
  rw [e1] at q
  cases q
  have x := Ext.newF c (.tup [.int (i : Nat), v]) hT
  refine ⟨_, x, _, by rw [enumD_get, e]; rfl, ?_⟩
  rw [Nat.zero_add]
  exact .tup (.inl (.inl upd_same)) (.cons (.int _) (.cons ((r1.mono l).mono x.le) .nil))
end
section
variable {X : Cx} {F0 : Pt} {a b c e o : Expr} {te : TE3} {pos p tpos : Pos}
def wEn (te : TE3) : TI3 := fun sd G R => te sd G fun d G1 => match d with
  | .lst ds => R (enumD 0 ds) G1
  | .tup ds => R (enumD 0 ds) G1
  | _ => False
theorem di_enum {elts : List Expr} {kk : Nat} (he : DE X F0 e te) (hm : X.mg "enumerate" = none) (hg : Gl X "enumerate" := by rfl) (hs : starEach [e] X.env = [(false, eval e X.env)] := by rfl) (hs' : starEach [e] X.env = (false, eval e X.env) :: starEach [] X.env := by rfl) :
    DI X F0 (.Tuple elts kk tpos) (.Call (.Name "enumerate" p) [e] [] pos) (wEn te) :=
  PI.imp (pi_enumA hg hm (pa_cons he pa_nil hs') hs) fun σ H R ⟨sd, F, G, R3, at_, h, k⟩ => ⟨sd, F, G, _, at_, h, fun d v F1 G1 H1 l1 r1 q1 => by
    cases d <;> first | exact q1.elim | skip
    · cases r1 with
      | tup s rl => exact ⟨_, _, rfl, .inr ⟨sqT_mono l1.cp.frz s, k _ _ _ _ _ l1 (walks_enumT s rl) q1⟩⟩
    · cases r1 with
      | lst s rl => exact ⟨_, _, rfl, .inl ⟨SqL.of (l1.cp.frz _ _ s), k _ _ _ _ _ l1 (walks_enum (SqL.of s) rl) q1⟩⟩⟩
end
end L3
set_option Elab.async false
set_option linter.all false
set_option maxRecDepth 100000
set_option maxHeartbeats 4000000
namespace L3
open PySem PySem.Spec PyProof.Rows L2 PySem.Calls

/-! ### f-strings -/
section
variable {X : Cx} {K : PySem.W.Frag} {F0 : Pt} {a b c e o : Expr} {es rest : List Expr} {ta tb tc te : TE3} {t : TA3} {pos p : Pos} {x : Str}
def dFmt (te : TE3) : TE3 := fun sd G Q => te sd G fun d G1 => match d with
  | .str y => y.length ≤ sizeLine ∧ Q (.str y) G1
  | .int i => i.natAbs.log2 < 1920 ∧ Q (.str (toString i)) G1
  | _ => False
theorem de_fmt (he : DE X F0 e te) : DE X F0 (.FormattedValue e (-1) none pos) (dFmt te) :=
  PE.imp (pe_fmt he) fun σ H Q ⟨sd, F, G, Q3, at_, h, k⟩ => ⟨sd, F, G, _, at_, h, fun d v F1 G1 H1 l1 r1 q1 => by
    cases d <;> first | exact q1.elim | skip
    · cases r1
      exact .inr ⟨_, rfl, q1.1, k _ _ _ _ _ l1 (.str _) q1.2⟩
    · cases r1
      exact .inl ⟨_, rfl, q1.1, k _ _ _ _ _ l1 (.str _) q1.2⟩⟩
inductive DJ (X : Cx) (F0 : Pt) : List Expr → List TE3 → Prop where
  | nil : DJ X F0 [] []
  | cons {e : Expr} {t : TE3} {es : List Expr} {ts : List TE3} (h : DE X F0 e t) (r : DJ X F0 es ts) : DJ X F0 (e :: es) (t :: ts)
theorem DJ.low : ∀ {es : List Expr} {ts : List TE3}, DJ X F0 es ts → PJ X es (ts.map (low X.K F0))
  | _, _, .nil => .nil
  | _, _, .cons h r => .cons h (DJ.low r)
theorem dj_nil : DJ X F0 [] [] := .nil
theorem dj_cons {t : TE3} {ts : List TE3} (h : DE X F0 e t) (r : DJ X F0 es ts) : DJ X F0 (e :: es) (t :: ts) := .cons h r
def dJs : List TE3 → Str → St3 → Gp → (Str → Gp → Prop) → Prop
  | [], acc, _, G, Q => Q acc G
  | t :: ts, acc, sd, G, Q => t sd G fun d G1 => match d with
    | .str y => (acc ++ y).length ≤ sizeLine ∧ dJs ts (acc ++ y) sd G1 Q
    | _ => False
theorem low_js : ∀ (ts : List TE3) (acc : Str) (sd : St3) (F : Hp) (G : Gp) (σ : L2.St) (H : Hp) (Q3 : Str → Gp → Prop) (Q : Str → Hp → Prop), At K F0 F sd G σ H → dJs ts acc sd G Q3 → (∀ y F' G' H', Ext K F G H F' G' H' → Q3 y G' → Q y H') → tJs (ts.map (L3.low K F0)) acc σ H Q
  | [], acc, sd, F, G, σ, H, Q3, Q, at_, h, k => k _ _ _ _ (Ext.refl at_.cp) h
  | t :: ts, acc, sd, F, G, σ, H, Q3, Q, at_, h, k => ⟨sd, F, G, _, at_, h, fun d v F1 G1 H1 l1 r1 q1 => by
    cases d <;> first | exact q1.elim | skip
    cases r1
    exact ⟨_, rfl, q1.1, low_js ts _ sd F1 G1 σ H1 Q3 Q (at_.step l1) q1.2 fun y F' G' H' l' q' => k y F' G' H' (l1.trans l') q'⟩⟩
def dJd (ts : List TE3) : TE3 := fun sd G Q => dJs ts Str.empty sd G fun y G1 => Q (.str y) G1
theorem de_joined {v1 v2 : Expr} {ts : List TE3} (h : DJ X F0 (v1 :: v2 :: rest) ts) : DE X F0 (.JoinedStr (v1 :: v2 :: rest) pos) (dJd ts) :=
  PE.imp (pe_joined h.low) fun σ H Q ⟨sd, F, G, Q3, at_, h, k⟩ => low_js ts _ sd F G σ H _ _ at_ h fun y F' G' H' l q => k _ _ _ _ _ l (.str y) q
end

/-! ### sum, bool -/
def intsOf : List D → Option (List Int)
  | [] => some []
  | .int i :: ds => (intsOf ds).map (i :: ·)
  | _ => none
/-! ### repr -/
def rRep : List D → Gp → DK → Prop := fun ds G Q => match ds with
  | [x] => ∃ d, toData x = some d ∧ d.showable = true ∧ d.hasDict = false ∧ d.depth ≤ 60 ∧ d.shown.length ≤ sizeLine ∧ Q (.str d.shown) G
  | _ => False
theorem call_reprD {X : Cx} {j : Nat} (hu : X.A.guards = some []) (hr : Room j X.A) : CallR X (.builtin "repr") (fun xs H Q => ∃ x d, xs = [x] ∧ Dp X.K H x d ∧ d.showable = true ∧ d.hasDict = false ∧ d.depth ≤ 60 ∧ d.shown.length ≤ sizeLine ∧ Q (.str d.shown) H) := by
  intro pins s σ H xs us Q I r h
  obtain ⟨x, d, rfl, hd, h1, h2, h3, h4, q⟩ := h
  obtain ⟨u, rfl, ru⟩ := vals1 r
  obtain ⟨as, rd⟩ := Dp.reads I d x u hd ru
  have un := hr.units
  cases u with
  | ref a =>
    refine repr_of_reads' rd h1 (PyData.noDict_hsm h2) hu (by omega) (fun _ _ e => e) (fun h' u tk hk => ⟨.str d.shown, H, I.kept hk, ⟨u, rfl⟩, q⟩) h4
  | none =>
    cases rd
    exact PySem.P.repr_of_none ⟨.str _, H, I.tok _, ⟨_, rfl⟩, q⟩
  | bool b =>
    cases rd
    exact PySem.P.repr_of_bool ⟨.str _, H, I.tok _, ⟨_, rfl⟩, q⟩
  | int i t =>
    cases rd
    have h1' : i.natAbs.log2 < 1920 := of_decide_eq_true h1
    exact PySem.P.repr_of_int h1' ⟨.str _, H, I.tok _, ⟨_, rfl⟩, q⟩
  | str y t =>
    cases rd
    exact PySem.P.repr_of_str ⟨.str _, H, I.tok _, ⟨_, rfl⟩, q⟩ h4
  | _ => cases rd
theorem cd_repr {K : PySem.W.Frag} : CallD K (fun xs H Q => ∃ x d, xs = [x] ∧ Dp K H x d ∧ d.showable = true ∧ d.hasDict = false ∧ d.depth ≤ 60 ∧ d.shown.length ≤ sizeLine ∧ Q (.str d.shown) H) rRep := by
  intro F G H xs ds Q Q3 c r h k
  unfold rRep at h
  split at h
  · obtain ⟨v, rfl, rv⟩ := r.inv1
    obtain ⟨d, h0, h1, h2, h3, h4, q⟩ := h
    exact ⟨_, d, rfl, rep_dp c.frz rv h0, h1, h2, h3, h4, k _ _ _ _ _ (Ext.refl c) (.str _) q⟩
  · exact h.elim

/-! ### defs that run where no guard stands: repr is known -/
structure FnG (P : Program) (w : World) (K : PySem.W.Frag) (mg : Str → Option Value) (base : Heap) (CX : CXT) (k : Nat) (f : Addr) (fd : FuncData) (ps : List Str) (sp : Sp) : Prop where
  len : ∀ vs H Q E, sp vs H Q E → vs.length = ps.length
  run : ∀ (A : Around) (outer : List Env) (s : Shared) (H : Hp) (args : Args) (us : List Value) (vs : List V) (Q : VK) (E : XK), A.guards = some [] → Room k A → Env0 P w K mg base A outer s H → BindsTo s fd args (ps.zip us) → Vals vs us → sp vs H Q E →
    codeAny (model P w) A (.call (.ref f) args) (CR CX outer P w H s Q E) s
theorem fnG_of {CX : CXT} {P : Program} {w : World} {K : PySem.W.Frag} {mg : Str → Option Value} {base : Heap} {k : Nat} {f : Addr} {name qual : Str} {params : Arguments} {body : List Stmt} {scope : Scope} {dV kV doc pm cdv ct oc : Value} {an od : Option Addr}
    {osl : Array (Option Value)} {N ps : List Str} {sp : Sp} (lk : K.lookup f = some ⟨oc, od, .func (PySem.W.fnOf name qual params body scope dV kV doc pm an cdv ct), osl⟩) (hcd : PySem.W.codeIn K cdv qual = true) (S : FnScope N ps scope)
    (len : ∀ vs H Q E, sp vs H Q E → vs.length = ps.length)
    (hbody : ∀ (A : Around) (outer : List Env) (s : Shared) (H : Hp) (vs : List V) (Q : VK) (E : XK), A.guards = some [] → Room k (A.deeper (envOfC qual scope s.heap.objs.size f cdv)) → sp vs H Q E →
      ∃ t, PSs (cxOf CX P w K mg base N qual scope f cdv A outer s H E) body t ∧ t { nx := fun _ H' => Q .non H', rt := Q } (L2.start N vs) H) :
    FnG P w K mg base CX (k + 1) f (PySem.W.fnOf name qual params body scope dV kV doc pm an cdv ct) ps sp := by
  refine ⟨len, fun A outer s H args us vs Q E hgu hr e0 hb r hsp => ?_⟩
  have hl := len _ _ _ _ hsp
  have KX : K.In s.heap := e0.mod.kin.keeps fun b o e => (e0.bs b o e).1
  have lim : s.heap.NoLimit := e0.mod.nolimit.keeps fun b o e => (e0.bs b o e).1
  have hkind : ∀ y ∈ ps.zip us, scope.names.lookup y.1 = some .local ∨ (scope.names.lookup y.1 = some .cell ∧ ((cellsFrom (s.heap.objs.size + 1) scope.names []).lookup y.1).isSome = true) := fun ⟨n, v⟩ hy =>
    (S.par n (List.of_mem_zip hy).1).imp id fun q => ⟨q, PySem.W.cellsFrom_some _ _ _ (.inl q)⟩
  refine codeAny_call_function hr.depth (KX _ _ lk) rfl S.co S.gen rfl (PySem.W.codeRec_of KX hcd) (hb _ _ _ _ (wpAny_newFunctionEnv_cells S.kind hkind fun env he s1 x => ?_))
  subst he
  obtain ⟨t, ht, hq⟩ := hbody A outer s H vs Q E hgu (hr.deeper _) hsp
  refine ⟨lim.keeps x.toInCall.keep, codeAny_func (wpAny_mono (ht.run [] s1 (L2.start N vs) H _ (inv_start S hr.hd e0 hl r x) hq) (fun fl s' hs => ?_) fun e s' hs => hs)⟩
  cases fl with
  | ret u => obtain ⟨v, σ', H', J, rv, q⟩ := hs; exact ⟨v, H', J.os, J.bare, J.base, J.hok, rv, q⟩
  | next => obtain ⟨σ', H', J, q⟩ := hs; exact ⟨V.non, H', J.os, J.bare, J.base, J.hok, rfl, q⟩
  | brk => obtain ⟨_, _, _, q⟩ := hs; exact q.elim
  | cont => obtain ⟨_, _, _, q⟩ := hs; exact q.elim
section
variable {X : Cx} {CX : CXT} {k : Nat} {f : Addr} {fd : FuncData} {ps : List Str} {sp : Sp} {dvs : List V} {ds : List Value} {E : L2.St → XK} {x : Str} {p pos : Pos} {e : Expr} {es : List Expr} {t : TA}
theorem pe_callG (F : FnG X.prog X.w X.K X.mg X.base CX k f fd ps sp) (hgu : X.A.guards = some []) (hr : Room k X.A) (hg : Gl X x) (hm : X.mg x = some (.ref f)) (hk : PySem.W.keepIn X.K (.ref f) = true) (hb : Binds X.K fd ps ds) (hd : Vals dvs ds) (hx : ∀ σ, PassesAt CX X σ (E σ))
    (ha : PA X (e :: es) t) (hdb : (x == ("__debug__" : Str)) = false := by decide) (he : starEach (e :: es) X.env = (false, eval e X.env) :: starEach es X.env := by rfl) (hpl : (backTo pos (starEach es X.env)).any (·.1) = false := by rfl) :
    PE X (.Call (.Name x p) (e :: es) [] pos) (tCallSD sp dvs E t) := by
  refine ⟨fun pins s σ H Q I h => wpAny_Call_Name_kw (ld_glob I hg hm ?_ hdb)⟩
  refine PySem.W.callWith_K (h₀ := X.base) I.ok.mod.kin hk (thn (ha.run pos pins s σ H _ I h) fun us s1 ⟨vs, H1, I1, r, q⟩ => ⟨I1.kIn, ?_⟩) he hpl
  have r2 : Vals (vs ++ dvs) (us ++ ds) := r.append hd
  have hl : (us ++ ds).length = ps.length := r2.length.symm.trans (F.len _ _ _ _ q)
  refine wpAny_call (codeAny_mono (F.run X.A X.stack s1 H1 ⟨us, []⟩ (us ++ ds) (vs ++ dvs) Q (E σ) hgu hr I1.env0 (hb s1 us I1.kIn hl) r2 q) fun r s' hq => ?_)
  cases r with
  | error e => exact hx σ pins H1 s1 e s' I1 hq
  | ok fl =>
    cases fl with
    | ret u => exact I1.after hq
    | next => exact hq.elim
    | brk => exact hq.elim
    | cont => exact hq.elim
end
structure Cal3G (P : Program) (w : World) (K : PySem.W.Frag) (mg : Str → Option Value) (base : Heap) (k : Nat) (x : Str) (sp : Sp3) (dds : List D) : Prop where
  ex : ∃ (f : Addr) (fd : FuncData) (ps : List Str) (ds : List Value) (dvs : List V), FnG P w K mg base (L2.CX P w) k f fd ps (dn K sp) ∧ mg x = some (.ref f) ∧ PySem.W.keepIn K (.ref f) = true ∧ Binds K fd ps ds ∧ Vals dvs ds ∧ ∀ F, RepL K F dds dvs
section
variable {X : Cx} {F0 : Pt} {e : Expr} {es : List Expr} {t : TA3} {x : Str} {p pos : Pos} {k j : Nat} {sp : Sp3} {dds : List D} {W : WK}
theorem de_callG (c : Cal3G X.prog X.w X.K X.mg X.base k x sp dds) (hgu : X.A.guards = some []) (hr : Room j X.A) (tk : Takes X (lowW X.K F0 W)) (ha : DA X F0 (e :: es) t) (hk : k ≤ j := by decide) (hg : Gl X x := by rfl)
    (hdb : (x == ("__debug__" : Str)) = false := by decide) (he : starEach (e :: es) X.env = (false, eval e X.env) :: starEach es X.env := by rfl) (hpl : (backTo pos (starEach es X.env)).any (·.1) = false := by rfl) :
    DE X F0 (.Call (.Name x p) (e :: es) [] pos) (dCall sp dds W t) := by
  obtain ⟨f, fd, ps, ds, dvs, F, m, kp, b, vd, rd⟩ := c.ex
  refine PE.imp (pe_callG (E := fun σ cls d H => lowW X.K F0 W cls d σ H) F hgu (hr.mono hk) hg m kp b vd (fun σ => passAt tk σ) ha hdb he hpl) fun σ H Q ⟨sd, F, G, Q3, at_, h, k⟩ => ?_
  exact ⟨sd, F, G, _, at_, h, fun ds vs F1 G1 H1 l1 r1 q1 => ⟨ds ++ dds, F1, G1, Q3, _, l1.cp, r1.append (rd F1), q1, k.mono l1, low_w (at_.step l1)⟩⟩
end
section
variable {P : Program} {w : World} {K : PySem.W.Frag} {mg : Str → Option Value} {base : Heap}
theorem ok3G {x qual : Str} {st : Stmt} {f : Addr} {fd : FuncData} {N ps : List Str} {k : Nat} {sp : Sp3} (F : Fun K x qual st f fd) (S : FnScope N ps (defScope st)) (hlen : ps.length ≤ N.length) (len : ∀ ds G Q E, sp ds G Q E → ds.length = ps.length)
    (hbody : ∀ (cdv : Value) (A : Around) (outer : List Env) (s : Shared) (H : Hp) (E : XK) (o : Pt) (E3 : EK), A.guards = some [] → Room k (A.deeper (envOfC qual (defScope st) s.heap.objs.size f cdv)) →
      Takes (cxOf (L2.CX P w) P w K mg base N qual (defScope st) f cdv A outer s H E) (lowW K o fun C fs _ G => E3 C fs G) →
      ∃ t : TS3, DSs (cxOf (L2.CX P w) P w K mg base N qual (defScope st) f cdv A outer s H E) o (defBody st) t ∧
        ∀ ds G Q3, sp ds G Q3 E3 → t { nx := fun _ G' => Ret K Q3 .non G', rt := Ret K Q3 } (start3 N.length ds) G) : FnG P w K mg base (L2.CX P w) (k + 1) f fd ps (dn K sp) := by
  obtain ⟨oc, od, kV, doc, pm, an, cdv, ct, osl, rfl, lk, hcd⟩ := F.ex
  refine fnG_of lk hcd S (fun vs H Q E ⟨ds, F, G, Q3, E3, _, r, h, _⟩ => by rw [← r.length]; exact len _ _ _ _ h) fun A outer s H vs Q E hgu hr h => ?_
  obtain ⟨ds, F, G, Q3, E3, c, r, h, k1, k2⟩ := h
  have tk : Takes (cxOf (L2.CX P w) P w K mg base N qual (defScope st) f cdv A outer s H E) (lowW K ⟨F, G, H⟩ fun C fs _ G => E3 C fs G) := by
    refine Takes.imp (takes_of (E := E) rfl rfl rfl rfl) fun cls d σ H' ⟨sd, F', G', C, fs, at_, e, xr, q⟩ => ?_
    subst e
    exact k2 C fs d F' G' H' at_.ext xr q
  obtain ⟨t, ht, hq⟩ := hbody cdv A outer s H E ⟨F, G, H⟩ E3 hgu hr tk
  refine ⟨_, ht, start3 N.length ds, F, G, _, ⟨Ext.refl c, repS_start r (by rw [len _ _ _ _ h]; exact hlen)⟩, hq ds G Q3 h, ?_⟩
  have kr : QR K F G H (Ret K Q3) Q := fun d v F' G' H' l rv ⟨d', G2, g, q⟩ => by
    obtain ⟨F2, l2, r2⟩ := g F' H' v l.cp rv
    exact k1 d' v F2 G2 H' (l.trans l2) r2 q
  exact ⟨fun sd σ F' G' H' l _ q => kr _ _ _ _ _ l .non q, kr, fun _ _ _ _ _ _ _ q => q.elim, fun _ _ _ _ _ _ _ q => q.elim⟩
theorem cal3G {x : Str} {st : Stmt} {N : List Str} {k : Nat} {ps : List Str} {sp : Sp3} (F : DefAt K mg x st ps) (S : FnScope N ps (defScope st)) (hlen : ps.length ≤ N.length) (len : ∀ ds G Q E, sp ds G Q E → ds.length = ps.length)
    (hbody : ∀ (f : Addr) (cdv : Value) (A : Around) (outer : List Env) (s : Shared) (H : Hp) (E : XK) (o : Pt) (E3 : EK), A.guards = some [] → Room k (A.deeper (envOfC x (defScope st) s.heap.objs.size f cdv)) →
      Takes (cxOf (L2.CX P w) P w K mg base N x (defScope st) f cdv A outer s H E) (lowW K o fun C fs _ G => E3 C fs G) →
      PassesOwn (model P w) (A.deeper (envOfC x (defScope st) s.heap.objs.size f cdv)) (envOfC x (defScope st) s.heap.objs.size f cdv) (cxOf (L2.CX P w) P w K mg base N x (defScope st) f cdv A outer s H E).xe →
      ∃ t : TS3, DSs (cxOf (L2.CX P w) P w K mg base N x (defScope st) f cdv A outer s H E) o (defBody st) t ∧
        ∀ ds G Q3, sp ds G Q3 E3 → t { nx := fun _ G' => Ret K Q3 .non G', rt := Ret K Q3 } (start3 N.length ds) G) : Cal3G P w K mg base (k + 1) x sp [] := by
  obtain ⟨f, fd, hF, hm, hk, hb⟩ := F.ex
  exact ⟨f, fd, ps, [], [], ok3G hF S hlen len fun cdv A outer s H E o E3 hgu hr tk => hbody f cdv A outer s H E o E3 hgu hr tk (passes_of rfl), hm, hk, hb, .nil, fun _ => .nil⟩
end
end L3
set_option Elab.async false
set_option linter.all false
set_option maxRecDepth 100000
set_option maxHeartbeats 4000000
namespace L3
open PySem PySem.Spec PyProof.Rows L2 PySem.Calls

/-! ### instances with slots: the data's heap -/
section
variable {K : PySem.W.Frag} {F F' H H' : Hp} {G : Gp} {p C dx : Addr} {ds : List D}
theorem RepO.notX {o : DO} (q : RepO K F H p o) : (∀ x, H p ≠ some (.own x)) ∧ H p ≠ some (.xd []) := by
  cases o with
  | lst ds => obtain ⟨vs, z, _⟩ := q; exact ⟨fun x e => (by rw [z] at e; cases e), fun e => (by rw [z] at e; cases e)⟩
  | lsts f => obtain ⟨ds, vs, _, z, _⟩ := q; exact ⟨fun x e => (by rw [z] at e; cases e), fun e => (by rw [z] at e; cases e)⟩
  | dic kvs => obtain ⟨ws, z, _⟩ := q; exact ⟨fun x e => (by rw [z] at e; cases e), fun e => (by rw [z] at e; cases e)⟩
  | dit kvs => obtain ⟨ws, z, _⟩ := q; exact ⟨fun x e => (by rw [z] at e; cases e), fun e => (by rw [z] at e; cases e)⟩
  | obj C dx fs => obtain ⟨ws, z, _⟩ := q; exact ⟨fun x e => (by rw [z] at e; cases e), fun e => (by rw [z] at e; cases e)⟩
  | sl C dx ds =>
    obtain ⟨_, _, vs, _, z | z⟩ := q
    · exact ⟨fun x e => (by rw [z.2.1] at e; cases e), fun e => (by rw [z.2.1] at e; cases e)⟩
    · exact ⟨fun x e => (by rw [z.1] at e; unfold SlX.SlO at e; cases e), fun e => (by rw [z.1] at e; exact SlX.slO_not (Option.some.inj e))⟩
theorem putS_end {vs : List V} {v : V} : SlX.putS vs.length v (vs.map some) = (vs ++ [v]).map some := by
  unfold SlX.putS
  rw [List.length_map, show vs.length + 1 - vs.length = 1 by omega]
  rw [List.map_append]
  show (vs.map some ++ [none]).set vs.length (some v) = _
  rw [List.set_append_right _ _ (by simp)]
  simp
def putO (i : Nat) (y : D) (os : List (Option D)) : List (Option D) := (os ++ List.replicate (i + 1 - os.length) none).set i (some y)
theorem RepS.put {os : List (Option D)} {ws : L2.St} {y : D} {v : V} (h : RepS K F os ws) (r : Rep K F y v) (i : Nat) : RepS K F (putO i y os) (SlX.putS i v ws) := by
  unfold putO SlX.putS
  rw [← h.len]
  refine RepS.set ⟨by simp [h.len], fun j d e => ?_⟩ i r
  by_cases hj : j < os.length
  · rw [List.getElem?_append_left hj] at e
    rw [List.getElem?_append_left (by rw [← h.len]; exact hj)]
    exact h.at_ j d e
  · rw [List.getElem?_append_right (Nat.le_of_not_lt hj), List.getElem?_replicate] at e
    split at e <;> cases e
theorem RepS.full {ds : List D} {ws : L2.St} (h : RepS K F (ds.map some) ws) : ∃ vs : List V, ws = vs.map some ∧ RepL K F ds vs := by
  induction ds generalizing ws with
  | nil =>
    have := h.len
    cases ws with
    | nil => exact ⟨[], rfl, .nil⟩
    | cons w ws => cases this
  | cons d ds ih =>
    cases ws with
    | nil => cases h.len
    | cons w ws =>
      obtain ⟨v, e, r⟩ := h.at_ 0 d rfl
      cases e
      obtain ⟨vs, e, rl⟩ := ih (ws := ws) ⟨Nat.succ.inj h.len, fun i d e => h.at_ (i + 1) d e⟩
      exact ⟨v :: vs, by rw [e]; rfl, .cons r rl⟩
/-- self.f = y -/
theorem Ext.slot {os : List (Option D)} {y : D} {v : V} (i : Nat) (c : Cp K F G H) (hG : G p = some (.sl C dx os)) (r : Rep K F y v) :
    ∃ ws : L2.St, SlX.Slt H p C dx ws ∧ Ext K F G H F (gupd G p (.sl C dx (putO i y os))) (SlX.slH H p C dx (SlX.putS i v ws)) := by
  obtain ⟨hF, hx, hne, ws, rl, st⟩ := c.own p _ hG
  have hp : ∀ u, H p = some u → u ≠ .xd [] := fun u e z => (c.own p _ hG).2.notX.2 (by rw [e, z])
  have hp2 : H p ≠ none := by
    rcases st with ⟨_, z, _⟩ | ⟨z, _⟩ <;> · rw [z]; simp
  have hdx : H dx = some (.own p) ∨ H dx = some (.xd []) := by
    rcases st with ⟨_, _, z⟩ | ⟨_, z⟩
    · exact .inl z
    · exact .inr z
  refine ⟨ws, ?_, ?_⟩
  · rcases st with ⟨e, z, _⟩ | ⟨z, z2⟩
    · subst e
      have := rl.len
      cases ws with
      | nil => exact .inl ⟨z, rfl⟩
      | cons w ws => cases this
    · exact .inr ⟨z, z2⟩
  · refine ⟨Le.refl _, fun a o e g f n => ?_, ⟨fun a o e => ?_, fun q o e => ?_⟩⟩
    · have ha : a ≠ p := fun z => by rw [z, hG] at g; cases g
      refine ⟨?_, by rw [gupd_ne ha]; exact g, f⟩
      by_cases hd : a = dx
      · subst hd
        rcases hdx with z | z
        · rw [z] at e; cases e; exact absurd rfl (n p)
        · rw [z] at e; cases e
          unfold SlX.slH
          rw [upd_ne ha, upd_same]
      · rw [SlX.slH_ne ha hd]; exact e
    · have ha : a ≠ p := fun z => by rw [z, hF] at e; cases e
      have eh := c.frz a o e
      by_cases hd : a = dx
      · subst hd
        have := hx o e
        subst this
        unfold SlX.slH
        rw [upd_ne ha, upd_same]
      · rw [SlX.slH_ne ha hd]; exact eh
    · by_cases hq : q = p
      · subst hq
        rw [gupd_same] at e
        cases e
        refine ⟨hF, hx, hne, _, rl.put r i, .inr ⟨?_, ?_⟩⟩
        · unfold SlX.slH; rw [upd_same]
        · unfold SlX.slH; rw [upd_ne hne, upd_same]
      · rw [gupd_ne hq] at e
        obtain ⟨f, r2⟩ := c.own q o e
        have nq : q ≠ dx := fun z => by
          subst z
          rcases hdx with z | z
          · exact r2.notX.1 _ z
          · exact r2.notX.2 z
        refine ⟨f, r2.keep (Le.refl _) (SlX.slH_ne hq nq) fun C' dx' ds' eo => ?_⟩
        subst eo
        obtain ⟨h1, h2, vs', _, zz⟩ := r2
        have hdq : H dx' = some (.own q) ∨ H dx' = some (.xd []) := by
          rcases zz with ⟨_, _, z⟩ | ⟨_, z⟩
          · exact .inl z
          · exact .inr z
        have np : dx' ≠ p := fun z => by
          subst z
          rcases hdq with z | z
          · exact (c.own _ _ hG).2.notX.1 _ z
          · exact (c.own _ _ hG).2.notX.2 z
        refine ⟨?_, h1⟩
        by_cases hd : dx' = dx
        · subst hd
          unfold SlX.slH
          rw [upd_ne np, upd_same]
          rcases hdx with z | z
          · rcases hdq with z' | z'
            · rw [z] at z'; cases z'; exact absurd rfl hq
            · rw [z] at z'; cases z'
          · exact z.symm
        · exact SlX.slH_ne np hd
theorem Ext.drop {o : DO} (c : Cp K F G H) (h : G p = some o) : Ext K F G H F (gdel G p) H := by
  have c1 : Cp K F (gdel G p) H := c.sub fun q o e => by
    unfold gdel at e
    split at e
    · cases e
    · exact ⟨o, e, .refl o⟩
  exact ⟨Le.refl _, fun a o e g f _ => ⟨e, by unfold gdel; split <;> first | rfl | exact g, f⟩, c1⟩
/-- an instance is looked at as a datum -/
theorem Cp.frzS (c : Cp K F G H) (hG : G p = some (.sl C dx (ds.map some))) (hn : ds ≠ []) : ∃ F', Le F F' ∧ (∀ a, a ≠ p → a ≠ dx → F' a = F a) ∧ Cp K F' (gdel G p) H ∧ Rep K F' (.ins C ds) (.ref p) := by
  obtain ⟨hF, hx, hne, ws, rs, st⟩ := c.own p _ hG
  obtain ⟨vs, rfl, rl⟩ := rs.full
  rcases st with ⟨e, _, _⟩ | ⟨hp, hd⟩
  · exact absurd (List.map_eq_nil_iff.mp e) hn
  · have l1 : Le F (upd F p (SlX.SlO p C dx (vs.map some))) := Le.new hF
    have l2 : Le (upd F p (SlX.SlO p C dx (vs.map some))) (upd (upd F p (SlX.SlO p C dx (vs.map some))) dx (.xd [])) := fun a u e => by
      by_cases ha : a = dx
      · subst ha
        rw [upd_ne hne] at e
        rw [upd_same, hx u e]
      · rw [upd_ne ha]; exact e
    have x1 := Ext.drop c hG
    refine ⟨upd (upd F p (SlX.SlO p C dx (vs.map some))) dx (.xd []), l1.trans l2, fun a h1 h2 => by rw [upd_ne h2, upd_ne h1], ⟨fun a o e => ?_, fun q o e => ?_⟩, .ins (by rw [upd_ne (Ne.symm hne), upd_same]) upd_same (rl.mono (l1.trans l2))⟩
    · by_cases ha : a = dx
      · subst ha; rw [upd_same] at e; cases e; exact hd
      · rw [upd_ne ha] at e
        by_cases hb : a = p
        · subst hb; rw [upd_same] at e; cases e; exact hp
        · rw [upd_ne hb] at e; exact c.frz a o e
    · have hq : q ≠ p := fun z => by unfold gdel at e; rw [if_pos z] at e; cases e
      obtain ⟨f, r2⟩ := x1.cp.own q o e
      have nq : q ≠ dx := fun z => by subst z; exact r2.notX.2 hd
      refine ⟨by rw [upd_ne nq, upd_ne hq]; exact f, r2.keep (l1.trans l2) rfl fun C' dx' ds' eo => ?_⟩
      subst eo
      obtain ⟨h1, h2, vs', _, zz⟩ := r2
      have np : dx' ≠ p := fun z => by
        subst z
        rcases zz with ⟨_, _, z⟩ | ⟨_, z⟩
        · exact (c.own _ _ hG).2.notX.1 _ z
        · exact (c.own _ _ hG).2.notX.2 z
      refine ⟨rfl, fun o e => ?_⟩
      by_cases hb : dx' = dx
      · subst hb; rw [upd_same] at e; exact (Option.some.inj e).symm
      · rw [upd_ne hb, upd_ne np] at e
        exact h1 o e
/-- a new instance, and its dict -/
theorem Ext.made (c : Cp K F G H) (hp : H p = none) (hd : H dx = none) (hne : dx ≠ p) : Ext K F G H F (gupd G p (.sl C dx [])) (upd (upd H dx (.own p)) p (.ins C dx [])) := by
  obtain ⟨fp, gp⟩ := c.free hp
  obtain ⟨fd, gd⟩ := c.free hd
  have ne : ∀ a o, H a = some o → a ≠ p ∧ a ≠ dx := fun a o e => ⟨ne_of_none e hp, ne_of_none e hd⟩
  refine ⟨Le.refl _, fun a o e g f _ => ?_, ⟨fun a o e => ?_, fun q o e => ?_⟩⟩
  · obtain ⟨n1, n2⟩ := ne a o e
    exact ⟨by rw [upd_ne n1, upd_ne n2]; exact e, by rw [gupd_ne n1]; exact g, f⟩
  · have eh := c.frz a o e
    obtain ⟨n1, n2⟩ := ne a o eh
    rw [upd_ne n1, upd_ne n2]; exact eh
  · by_cases hq : q = p
    · subst hq
      rw [gupd_same] at e
      cases e
      exact ⟨fp, (fun o e => by rw [fd] at e; cases e), hne, [], ⟨rfl, fun i d e => by simp at e⟩, .inl ⟨rfl, upd_same, by rw [upd_ne hne, upd_same]⟩⟩
    · rw [gupd_ne hq] at e
      obtain ⟨f, r2⟩ := c.own q o e
      have nq : q ≠ dx := fun z => by rw [z, gd] at e; cases e
      refine ⟨f, r2.keep (Le.refl _) (by rw [upd_ne hq, upd_ne nq]) fun C' dx' ds' eo => ?_⟩
      subst eo
      obtain ⟨h1, h2, vs', _, zz⟩ := r2
      have hz : ∃ u, H dx' = some u := by
        rcases zz with ⟨_, _, z⟩ | ⟨_, z⟩ <;> exact ⟨_, z⟩
      obtain ⟨u, hz⟩ := hz
      obtain ⟨n1, n2⟩ := ne dx' u hz
      exact ⟨by rw [upd_ne n1, upd_ne n2], h1⟩
/-- .. filled and looked at as a datum -/
theorem Ext.madeF {F1 : Hp} {G1 : Gp} {H1 : Hp} (hp : H p = none) (hd : H dx = none) (x : Ext K F (gupd G p (.sl C dx [])) (upd (upd H dx (.own p)) p (.ins C dx [])) F1 G1 H1) (x0 : Ext K F G H F (gupd G p (.sl C dx [])) (upd (upd H dx (.own p)) p (.ins C dx [])))
    (hG : G1 p = some (.sl C dx (ds.map some))) (hn : ds ≠ []) : ∃ F2, Ext K F G H F2 (gdel G1 p) H1 ∧ Rep K F2 (.ins C ds) (.ref p) := by
  obtain ⟨F2, l, same, c2, r⟩ := x.cp.frzS hG hn
  refine ⟨F2, ⟨x.le.trans l, fun a o e g f n => ?_, c2⟩, r⟩
  have n1 : a ≠ p := ne_of_none e hp
  have n2 : a ≠ dx := ne_of_none e hd
  obtain ⟨e1, g1, f1⟩ := x0.st a o e g f n
  obtain ⟨e2, g2, f2⟩ := x.st a o e1 g1 f1 n
  exact ⟨e2, by unfold gdel; split <;> first | rfl | exact g2, by rw [same a n1 n2]; exact f2⟩
end
end L3
set_option Elab.async false
set_option linter.all false
set_option maxRecDepth 100000
set_option maxHeartbeats 4000000
namespace L3
open PySem PySem.Spec PyProof.Rows L2 PySem.Calls

/-! ### slots read and stored -/
structure Sl1 (K : PySem.W.Frag) (C : Addr) (f : Str) (i : Nat) : Prop where
  c : SlX.SCls K C
  s : ∃ p, SlX.Slot1 K C f p i
section
variable {X : Cx} {K : PySem.W.Frag} {F0 : Pt} {a b e o value : Expr} {es rest : List Expr} {ta tb te tv : TE3} {t : TA3} {pos pos' p apos : Pos} {x f m : Str} {C : Addr} {i : Nat}
theorem own_sl {F H : Hp} {G : Gp} {p C dx : Addr} {os : List (Option D)} (c : Cp K F G H) (h : G p = some (.sl C dx os)) : ∃ ws : L2.St, SlX.Slt H p C dx ws ∧ RepS K F os ws := by
  obtain ⟨_, _, _, ws, rl, st⟩ := c.own p _ h
  rcases st with ⟨e, z, _⟩ | ⟨z, z2⟩
  · subst e
    have := rl.len
    cases ws with
    | nil => exact ⟨[], .inl ⟨z, rfl⟩, rl⟩
    | cons w ws => cases this
  · exact ⟨ws, .inr ⟨z, z2⟩, rl⟩
def getO (os : List (Option D)) (i : Nat) (k : D → Prop) : Prop := match os[i]? with
  | some (some x) => k x
  | _ => False
theorem getO_of {os : List (Option D)} {i : Nat} {k : D → Prop} (h : getO os i k) : ∃ x, os[i]? = some (some x) ∧ k x := by
  unfold getO at h
  split at h
  · exact ⟨_, by assumption, h⟩
  · exact h.elim
def dSlot (C : Addr) (i : Nat) (te : TE3) : TE3 := fun sd G Q => te sd G fun d G1 => match d with
  | .ins C' ds => C' = C ∧ getI ds i fun x => Q x G1
  | .ref p => ∃ dx os, G1 p = some (.sl C dx os) ∧ getO os i fun x => Q x G1
  | _ => False
theorem de_slot (k : Sl1 X.K C f i) (he : DE X F0 e te) (hb : attributeBase e f X.env (eval e X.env) = eval e X.env := by rfl) : DE X F0 (.Attribute e f pos) (dSlot C i te) := by
  obtain ⟨pd, sp⟩ := k.s
  refine PE.imp (SlX.pe_sl he hb) fun σ H Q ⟨sd, F, G, Q3, at_, h, kq⟩ => ⟨sd, F, G, _, at_, h, fun d v F1 G1 H1 l1 r1 q1 => ?_⟩
  cases d <;> first | exact q1.elim | skip
  · cases r1
    obtain ⟨dx, ds, eg, q1⟩ := q1
    obtain ⟨vs, sl, rl⟩ := own_sl l1.cp eg
    obtain ⟨d, ed, q⟩ := getO_of q1
    obtain ⟨v, ev, rv⟩ := rl.at_ _ _ ed
    exact ⟨_, C, dx, pd, vs, i, v, rfl, sl, k.c, sp, ev, kq _ _ _ _ _ l1 rv q⟩
  · obtain ⟨rfl, q1⟩ := q1
    cases r1 with
    | @ins a _ dx _ vs h1 h2 rl =>
      obtain ⟨d, ed, q⟩ := getI_of q1
      obtain ⟨v, ev, rv⟩ := rl.get ed
      exact ⟨_, _, dx, pd, vs.map some, i, v, rfl, .inr ⟨l1.cp.frz _ _ h1, l1.cp.frz _ _ h2⟩, k.c, sp, by rw [List.getElem?_map, ev]; rfl, kq _ _ _ _ _ l1 rv q⟩
/-- self.f = value, f the next slot that is filled -/
def dSlotS (C : Addr) (i : Nat) (te tv : TE3) : TS3 := fun D sd G => tv sd G fun y G1 => te sd G1 fun x G2 => match x with
  | .ref p => ∃ dx os, G2 p = some (.sl C dx os) ∧ D.nx sd (gupd G2 p (.sl C dx (putO i y os)))
  | _ => False
theorem ds_slot (k : Sl1 X.K C f i) (ho : DE X F0 o te) (hv : DE X F0 value tv) (hs : swapsWith value (some (.Attribute o f pos')) pos.line X.env = pure false := by rfl) : DS X F0 (.Assign [.Attribute o f pos'] value pos) (dSlotS C i te tv) := by
  obtain ⟨pd, sp⟩ := k.s
  refine PS.imp (SlX.ps_sl ho hv hs) fun D σ H ⟨sd, F, G, D3, at_, h, kq⟩ => ⟨sd, F, G, _, at_, h, fun y v F1 G1 H1 l1 r1 q1 => ⟨sd, F1, G1, _, at_.step l1, q1, fun x u F2 G2 H2 l2 r2 q2 => ?_⟩⟩
  cases x <;> first | exact q2.elim | skip
  cases r2
  obtain ⟨dx, ds, eg, q⟩ := q2
  obtain ⟨ws, sl, x⟩ := Ext.slot i l2.cp eg (r1.mono l2.le)
  exact ⟨_, C, dx, pd, ws, i, rfl, sl, k.c, sp, kq.nx _ _ _ _ _ ((l1.trans l2).trans x) (((at_.step l1).step l2).step x).rs q⟩

/-! ### properties -/
structure Prop3 (P : Program) (w : World) (K : PySem.W.Frag) (mg : Str → Option Value) (base : Heap) (k : Nat) (C : Addr) (f : Str) (sp : Sp3) : Prop where
  c : SlX.SCls K C
  ex : ∃ p g, PySem.W.findIn K (.ref C) f = some (some (.ref p)) ∧ PySem.W.specialIn K (.ref p) "__get__" = some (some (.builtin "property.__get__")) ∧ PySem.W.takesIn K (.ref p) = some true ∧ (∃ rest, PySem.W.recIn K p "property" = some (.ref g :: rest)) ∧ FnR P w K mg base (L2.CX P w) k g (dn K sp)
def NoE : EK := fun _ _ _ => False
def dProp (C : Addr) (sp : Sp3) (te : TE3) : TE3 := fun sd G Q => te sd G fun d G1 => match d with
  | .ins C' ds => C' = C ∧ sp [.ins C' ds] G1 Q NoE
  | .ref p => (∃ dx ds, G1 p = some (.sl C dx ds)) ∧ sp [.ref p] G1 Q NoE
  | _ => False
theorem cx_none {P : Program} {w : World} {outer : List Env} {H : Hp} {s : Shared} {e : Value} {s' : Shared} (h : L2.CX P w outer H s (fun _ _ _ => False) e s') : False := by
  obtain ⟨_, _, _, _, _, _, _, _, _, _, _, _, z⟩ := h
  exact z
theorem qx_none {F H : Hp} {G : Gp} : QX K F G H NoE (fun _ _ _ => False) := fun _ _ _ _ _ _ _ _ h => h.elim
theorem de_prop {k j : Nat} {sp : Sp3} (c : Prop3 X.prog X.w X.K X.mg X.base k C f sp) (hr : Room j X.A) (he : DE X F0 e te) (hk : k + 1 ≤ j := by decide) (hb : attributeBase e f X.env (eval e X.env) = eval e X.env := by rfl) : DE X F0 (.Attribute e f pos) (dProp C sp te) := by
  obtain ⟨pp, g, e1, e2, e3, e4, F⟩ := c.ex
  refine PE.imp (SlX.pe_propSl he c.c e1 e2 e3 e4 F (hr.mono hk) (fun H s e s' h => cx_none h) hb) fun σ H Q ⟨sd, F, G, Q3, at_, h, kq⟩ => ⟨sd, F, G, _, at_, h, fun d v F1 G1 H1 l1 r1 q1 => ?_⟩
  cases d <;> first | exact q1.elim | skip
  · cases r1
    obtain ⟨⟨dx, ds, eg⟩, q1⟩ := q1
    obtain ⟨vs, sl, rl⟩ := own_sl l1.cp eg
    exact ⟨_, dx, _, rfl, sl, _, F1, G1, Q3, NoE, l1.cp, .one (.ref _), q1, kq.mono l1, qx_none⟩
  · obtain ⟨rfl, q1⟩ := q1
    cases r1 with
    | @ins a _ dx _ vs h1 h2 rl => exact ⟨_, dx, _, rfl, .inr ⟨l1.cp.frz _ _ h1, l1.cp.frz _ _ h2⟩, _, F1, G1, Q3, NoE, l1.cp, .one (.ins h1 h2 rl), q1, kq.mono l1, qx_none⟩

/-! ### methods -/
structure Met3 (P : Program) (w : World) (K : PySem.W.Frag) (mg : Str → Option Value) (base : Heap) (k : Nat) (C : Addr) (m : Str) (sp : Sp3) (dds : List D) : Prop where
  c : SlX.SCls K C
  ex : ∃ (g : Addr) (fd : FuncData) (ps : List Str) (ds : List Value) (dvs : List V), Meth K C m g ∧ FnOk P w K mg base (L2.CX P w) k g fd ps (dn K sp) ∧ Binds K fd ps ds ∧ Vals dvs ds ∧ ∀ F, RepL K F dds dvs
def tMethE (C : Addr) (sp : Sp) (dvs : List V) (E : L2.St → XK) (ta : TE) (t : TA) : TE := fun σ H Q => ta σ H fun x H1 => ∃ a dx vs, x = .ref a ∧ SlX.Slt H1 a C dx vs ∧ t σ H1 fun ws H2 => sp (x :: (ws ++ dvs)) H2 Q (E σ)
theorem pe_methE {CX : CXT} {k : Nat} {g : Addr} {sp : Sp} {E : L2.St → XK} {pl : Sem Bool} {fd : FuncData} {ps : List Str} {ds : List Value} {dvs : List V} {ta : TE} {t : TA} (he : PE X o ta) (c : SlX.SCls X.K C) (hm : Meth X.K C m g) (F : FnOk X.prog X.w X.K X.mg X.base CX k g fd ps sp) (hr : Room k X.A) (hb : Binds X.K fd ps ds) (hd : Vals dvs ds) (hx : ∀ σ, PassesAt CX X σ (E σ)) (ha : PA X (e :: es) t)
    (hst : starEach (e :: es) X.env = (false, eval e X.env) :: starEach es X.env := by rfl) (hpl : (backTo pos (starEach es X.env)).any (·.1) = false := by rfl)
    (ht : eval (.Call (.Attribute o m apos) (e :: es) [] pos) X.env = (do
      let ov ← eval o X.env
      standAt apos.atName
      let (f, first) ← holding [ov] (getMethod ov m pl)
      callWith pos f first (backTo pos (starEach (e :: es) X.env)) (backToKw pos (keywordEach [] X.env))) := by rfl) :
    PE X (.Call (.Attribute o m apos) (e :: es) [] pos) (tMethE C sp dvs E ta t) := by
  refine ⟨fun pins s σ H Q I h => ?_⟩
  refine PySem.W.methodCall_KW (pl := pl) (thn (he.run pins s σ H _ I h) fun u s1 ⟨x, H1, I1, rx, a, dx, vs, ex, hsl, q⟩ => ?_) ht
  subst ex
  obtain rfl : u = Value.ref a := rx
  refine SlX.getmethsl_ok I1 hsl c hm ?_
  refine PySem.W.callWith_K (first := [.ref a]) (h₀ := X.base) I1.ok.mod.kin hm.kp (thn (ha.run pos pins s1 σ H1 _ I1 q) fun us s2 ⟨ws, H2, I2, r, q2⟩ => ⟨I2.kIn, ?_⟩) hst hpl
  exact run_fnSD (us := .ref a :: us) (vs := .ref a :: ws) F hr hb hd (hx σ) I2 (.cons rfl r) q2
theorem pe_methE0 {CX : CXT} {k : Nat} {g : Addr} {sp : Sp} {E : L2.St → XK} {pl : Sem Bool} {fd : FuncData} {ps : List Str} {ds : List Value} {dvs : List V} {ta : TE} (he : PE X o ta) (c : SlX.SCls X.K C) (hm : Meth X.K C m g) (F : FnOk X.prog X.w X.K X.mg X.base CX k g fd ps sp) (hr : Room k X.A) (hb : Binds X.K fd ps ds) (hd : Vals dvs ds) (hx : ∀ σ, PassesAt CX X σ (E σ))
    (ht : eval (.Call (.Attribute o m apos) [] [] pos) X.env = (do
      let ov ← eval o X.env
      standAt apos.atName
      let (f, first) ← holding [ov] (getMethod ov m pl)
      callWith pos f first (backTo pos (starEach [] X.env)) (backToKw pos (keywordEach [] X.env))) := by rfl) :
    PE X (.Call (.Attribute o m apos) [] [] pos) (tMethE C sp dvs E ta tNil) := by
  refine ⟨fun pins s σ H Q I h => ?_⟩
  refine PySem.W.methodCall_KW (pl := pl) (thn (he.run pins s σ H _ I h) fun u s1 ⟨x, H1, I1, rx, a, dx, vs, ex, hsl, q⟩ => ?_) ht
  subst ex
  obtain rfl : u = Value.ref a := rx
  refine SlX.getmethsl_ok I1 hsl c hm ?_
  exact PySem.W.callWith_K0 (first := [.ref a]) I1.kIn hm.kp (run_fnSD (us := [.ref a]) (vs := [.ref a]) F hr hb hd (hx σ) I1 (.cons rfl .nil) q)
def dMeth (C : Addr) (sp : Sp3) (dds : List D) (W : WK) (te : TE3) (t : TA3) : TE3 := fun sd G Q => te sd G fun d G1 => match d with
  | .ins C' ds => C' = C ∧ t sd G1 fun xs G2 => sp (.ins C' ds :: (xs ++ dds)) G2 Q fun C fs G3 => W C fs sd G3
  | .ref p => (∃ dx ds, G1 p = some (.sl C dx ds)) ∧ t sd G1 fun xs G2 => sp (.ref p :: (xs ++ dds)) G2 Q fun C fs G3 => W C fs sd G3
  | _ => False
theorem low_meth {sp : Sp3} {dds : List D} {dvs : List V} {W : WK} (rd : ∀ F, RepL K F dds dvs) {σ : L2.St} {H : Hp} {Q : VK} (h : low K F0 (dMeth C sp dds W te t) σ H Q) : tMethE C (dn K sp) dvs (fun σ cls d H => lowW K F0 W cls d σ H) (low K F0 te) (lowA K F0 t) σ H Q := by
  obtain ⟨sd, F, G, Q3, at_, h, k⟩ := h
  refine ⟨sd, F, G, _, at_, h, fun d v F1 G1 H1 l1 r1 q1 => ?_⟩
  cases d <;> first | exact q1.elim | skip
  · cases r1
    obtain ⟨⟨dx, ds, eg⟩, q1⟩ := q1
    obtain ⟨vs, sl, rl⟩ := own_sl l1.cp eg
    exact ⟨_, dx, _, rfl, sl, sd, F1, G1, _, at_.step l1, q1, fun xs us F2 G2 H2 l2 r2 q2 => ⟨_, F2, G2, Q3, _, l2.cp, .cons (.ref _) (r2.append (rd F2)), q2, k.mono (l1.trans l2), low_w ((at_.step l1).step l2)⟩⟩
  · obtain ⟨rfl, q1⟩ := q1
    cases r1 with
    | @ins a _ dx _ vs h1 h2 rl => exact ⟨_, dx, _, rfl, .inr ⟨l1.cp.frz _ _ h1, l1.cp.frz _ _ h2⟩, sd, F1, G1, _, at_.step l1, q1, fun xs us F2 G2 H2 l2 r2 q2 => ⟨_, F2, G2, Q3, _, l2.cp, .cons ((Rep.ins h1 h2 rl).mono l2.le) (r2.append (rd F2)), q2, k.mono (l1.trans l2), low_w ((at_.step l1).step l2)⟩⟩
theorem de_meth {k j : Nat} {sp : Sp3} {dds : List D} {W : WK} {pl : Sem Bool} (c : Met3 X.prog X.w X.K X.mg X.base k C m sp dds) (hr : Room j X.A) (tk : Takes X (lowW X.K F0 W)) (ho : DE X F0 o te) (ha : DA X F0 (e :: es) t) (hk : k ≤ j := by decide)
    (hst : starEach (e :: es) X.env = (false, eval e X.env) :: starEach es X.env := by rfl) (hpl : (backTo pos (starEach es X.env)).any (·.1) = false := by rfl)
    (ht : eval (.Call (.Attribute o m apos) (e :: es) [] pos) X.env = (do
      let ov ← eval o X.env
      standAt apos.atName
      let (f, first) ← holding [ov] (getMethod ov m pl)
      callWith pos f first (backTo pos (starEach (e :: es) X.env)) (backToKw pos (keywordEach [] X.env))) := by rfl) :
    DE X F0 (.Call (.Attribute o m apos) (e :: es) [] pos) (dMeth C sp dds W te t) := by
  obtain ⟨g, fd, ps, ds, dvs, hm, F, hb, hd, rd⟩ := c.ex
  exact PE.imp (pe_methE (E := fun σ cls d H => lowW X.K F0 W cls d σ H) ho c.c hm F (hr.mono hk) hb hd (fun σ => passAt tk σ) ha hst hpl ht) fun _ _ _ h => low_meth rd h
theorem de_meth0 {k j : Nat} {sp : Sp3} {dds : List D} {W : WK} {pl : Sem Bool} (c : Met3 X.prog X.w X.K X.mg X.base k C m sp dds) (hr : Room j X.A) (tk : Takes X (lowW X.K F0 W)) (ho : DE X F0 o te) (hk : k ≤ j := by decide)
    (ht : eval (.Call (.Attribute o m apos) [] [] pos) X.env = (do
      let ov ← eval o X.env
      standAt apos.atName
      let (f, first) ← holding [ov] (getMethod ov m pl)
      callWith pos f first (backTo pos (starEach [] X.env)) (backToKw pos (keywordEach [] X.env))) := by rfl) :
    DE X F0 (.Call (.Attribute o m apos) [] [] pos) (dMeth C sp dds W te dNil) := by
  obtain ⟨g, fd, ps, ds, dvs, hm, F, hb, hd, rd⟩ := c.ex
  refine PE.imp (pe_methE0 (E := fun σ cls d H => lowW X.K F0 W cls d σ H) ho c.c hm F (hr.mono hk) hb hd (fun σ => passAt tk σ) ht) fun σ H Q h => ?_
  obtain ⟨sd, F, G, Q3, at_, h, kq⟩ := low_meth (t := dNil) rd h
  exact ⟨sd, F, G, Q3, at_, h, fun d v F1 G1 H1 l1 r1 q1 => let ⟨a, dx, vs, ea, sl, q⟩ := kq d v F1 G1 H1 l1 r1 q1; ⟨a, dx, vs, ea, sl, by
    obtain ⟨sd, F, G, R3, at_, h, kr⟩ := q
    exact kr _ _ _ _ _ (Ext.refl at_.cp) .nil h⟩⟩
end
end L3
set_option Elab.async false
set_option linter.all false
set_option maxRecDepth 100000
set_option maxHeartbeats 4000000
namespace L3
open PySem PySem.Spec PyProof.Rows L2 PySem.Calls

/-! ### defs of any place, by their body -/
section
variable {P : Program} {w : World} {K : PySem.W.Frag} {mg : Str → Option Value} {base : Heap} {x qual : Str} {st : Stmt} {N ps : List Str} {k : Nat} {sp : Sp3} {f g : Addr} {fd : FuncData} {C : Addr}
/-- what the body of a def must do -/
def Body (P : Program) (w : World) (K : PySem.W.Frag) (mg : Str → Option Value) (base : Heap) (k : Nat) (qual : Str) (st : Stmt) (N : List Str) (sp : Sp3) : Prop :=
  ∀ (f : Addr) (cdv : Value) (A : Around) (outer : List Env) (s : Shared) (H : Hp) (E : XK) (o : Pt) (E3 : EK), Room k (A.deeper (envOfC qual (defScope st) s.heap.objs.size f cdv)) →
      Takes (cxOf (L2.CX P w) P w K mg base N qual (defScope st) f cdv A outer s H E) (lowW K o fun C fs _ G => E3 C fs G) →
      PassesOwn (model P w) (A.deeper (envOfC qual (defScope st) s.heap.objs.size f cdv)) (envOfC qual (defScope st) s.heap.objs.size f cdv) (cxOf (L2.CX P w) P w K mg base N qual (defScope st) f cdv A outer s H E).xe →
      ∃ t : TS3, DSs (cxOf (L2.CX P w) P w K mg base N qual (defScope st) f cdv A outer s H E) o (defBody st) t ∧
        ∀ ds G Q3, sp ds G Q3 E3 → t { nx := fun _ G' => Ret K Q3 .non G', rt := Ret K Q3 } (start3 N.length ds) G
theorem fn3 (F : Fun K x qual st f fd) (S : FnScope N ps (defScope st)) (hlen : ps.length ≤ N.length) (len : ∀ ds G Q E, sp ds G Q E → ds.length = ps.length) (h : Body P w K mg base k qual st N sp) : FnOk P w K mg base (L2.CX P w) (k + 1) f fd ps (dn K sp) :=
  ok3 F S hlen len fun cdv A outer s H E o E3 hr tk => h f cdv A outer s H E o E3 hr tk (passes_of rfl)
structure PropAt (K : PySem.W.Frag) (C : Addr) (f qual : Str) (st : Stmt) : Prop where
  ex : ∃ p g fd, PySem.W.findIn K (.ref C) f = some (some (.ref p)) ∧ PySem.W.specialIn K (.ref p) "__get__" = some (some (.builtin "property.__get__")) ∧ PySem.W.takesIn K (.ref p) = some true ∧ (∃ rest, PySem.W.recIn K p "property" = some (.ref g :: rest)) ∧ Fun K f qual st g fd ∧ Binds K fd ["self"] []
theorem FnOk.raw0 {ps : List Str} {sp : Sp} (F : FnOk P w K mg base (L2.CX P w) k f fd ps sp) (hb : Binds K fd ps []) : FnR P w K mg base (L2.CX P w) k f sp := (FnOk.raw F hb .nil).imp fun vs H Q E h => by rw [List.append_nil]; exact h
theorem prop3 {f : Str} (c : SlX.SCls K C) (A : PropAt K C f qual st) (S : FnScope N ["self"] (defScope st)) (hlen : 1 ≤ N.length) (len : ∀ ds G Q E, sp ds G Q E → ds.length = 1) (h : Body P w K mg base k qual st N sp) : Prop3 P w K mg base (k + 1) C f sp := by
  obtain ⟨p, g, fd, e1, e2, e3, e4, F, b⟩ := A.ex
  exact ⟨c, p, g, e1, e2, e3, e4, FnOk.raw0 (fn3 F S hlen len h) b⟩
structure MethAt (K : PySem.W.Frag) (C : Addr) (m qual : Str) (st : Stmt) (ps : List Str) : Prop where
  ex : ∃ g fd, Meth K C m g ∧ Fun K m qual st g fd ∧ Binds K fd ps []
theorem met3 {m : Str} (c : SlX.SCls K C) (A : MethAt K C m qual st ps) (S : FnScope N ps (defScope st)) (hlen : ps.length ≤ N.length) (len : ∀ ds G Q E, sp ds G Q E → ds.length = ps.length) (h : Body P w K mg base k qual st N sp) : Met3 P w K mg base (k + 1) C m sp [] := by
  obtain ⟨g, fd, m, F, b⟩ := A.ex
  exact ⟨c, g, fd, ps, [], [], m, fn3 F S hlen len h, b, .nil, fun _ => .nil⟩
/-- a class that is made by its name; st: its __init__ -/
structure MakeAt (K : PySem.W.Frag) (mg : Str → Option Value) (x : Str) (C : Addr) (qual : Str) (st : Stmt) : Prop where
  ex : ∃ f fd, Mk K C f ∧ Fun K "__init__" qual st f fd ∧ mg x = some (.ref C)
structure Mak3 (P : Program) (w : World) (K : PySem.W.Frag) (mg : Str → Option Value) (base : Heap) (k : Nat) (x : Str) (C : Addr) (qual : Str) (st : Stmt) (ps : List Str) (sp : Sp3) : Prop where
  ex : ∃ f fd, Mk K C f ∧ Fun K "__init__" qual st f fd ∧ mg x = some (.ref C) ∧ FnOk P w K mg base (L2.CX P w) k f fd ps (dn K sp)
theorem mak3 (A : MakeAt K mg x C qual st) (S : FnScope N ps (defScope st)) (hlen : ps.length ≤ N.length) (len : ∀ ds G Q E, sp ds G Q E → ds.length = ps.length) (h : Body P w K mg base k qual st N sp) : Mak3 P w K mg base (k + 1) x C qual st ps sp := by
  obtain ⟨f, fd, m, F, b⟩ := A.ex
  exact ⟨f, fd, m, F, b, fn3 F S hlen len h⟩
/-- a def of the module that is called with keywords -/
structure CalF (P : Program) (w : World) (K : PySem.W.Frag) (mg : Str → Option Value) (base : Heap) (k : Nat) (x : Str) (st : Stmt) (ps : List Str) (sp : Sp3) : Prop where
  ex : ∃ f fd, Fun K x x st f fd ∧ mg x = some (.ref f) ∧ PySem.W.keepIn K (.ref f) = true ∧ Binds K fd ps [] ∧ FnOk P w K mg base (L2.CX P w) k f fd ps (dn K sp)
theorem calF (A : DefAt K mg x st ps) (S : FnScope N ps (defScope st)) (hlen : ps.length ≤ N.length) (len : ∀ ds G Q E, sp ds G Q E → ds.length = ps.length) (h : Body P w K mg base k x st N sp) : CalF P w K mg base (k + 1) x st ps sp := by
  obtain ⟨f, fd, F, m, kp, b⟩ := A.ex
  exact ⟨f, fd, F, m, kp, b, fn3 F S hlen len h⟩
theorem CalF.cal (c : CalF P w K mg base k x st ps sp) : Cal3 P w K mg base k x sp [] := by
  obtain ⟨f, fd, F, m, kp, b, h⟩ := c.ex
  exact ⟨f, fd, ps, [], [], h, m, kp, b, .nil, fun _ => .nil⟩
end

/-! ### keywords -/
/-- the items at these places -/
def pk {α : Type} : List Nat → List α → List α
  | [], _ => []
  | i :: r, xs => match xs[i]? with
    | some x => x :: pk r xs
    | none => pk r xs
theorem pk_vals {vs : List V} {us : List Value} (r : Vals vs us) : ∀ l : List Nat, Vals (pk l vs) (pk l us)
  | [] => .nil
  | i :: l => by
    unfold pk
    have hl := r.length
    cases e : vs[i]? with
    | some v =>
      obtain ⟨u, e2, ru⟩ := r.get e
      rw [e2]
      exact .cons ru (pk_vals r l)
    | none =>
      have e2 : us[i]? = none := by
        rw [List.getElem?_eq_none_iff] at e ⊢
        omega
      rw [e2]
      exact pk_vals r l
theorem pk_repL {K : PySem.W.Frag} {F : Hp} {ds : List D} {vs : List V} (r : RepL K F ds vs) : ∀ l : List Nat, RepL K F (pk l ds) (pk l vs)
  | [] => .nil
  | i :: l => by
    unfold pk
    have hl := r.length
    cases e : ds[i]? with
    | some d =>
      obtain ⟨v, e2, rv⟩ := r.get e
      rw [e2]
      exact .cons rv (pk_repL r l)
    | none =>
      have e2 : vs[i]? = none := by
        rw [List.getElem?_eq_none_iff] at e ⊢
        omega
      rw [e2]
      exact pk_repL r l
theorem kbn {K : PySem.W.Frag} {x qual : Str} {st : Stmt} {f : Addr} {fd : FuncData} {ps ks : List Str} {n : Nat} {perm : List Nat} (F : Fun K x qual st f fd)
    (h : ∀ (kV doc pm : Value) (an : Option Addr) (cdv ct : Value) (us ws : List Value), us.length = n → ws.length = ks.length → bindArgs (PySem.W.fnOf x qual (defArgs st) (defBody st) (defScope st) .none kV doc pm an cdv ct) ⟨us, ks.zip ws⟩ = pure (ps.zip (pk perm (us ++ ws)))) :
    KBn K fd ps n ks (fun us ws => pk perm (us ++ ws)) (fun vs zs => pk perm (vs ++ zs)) := by
  obtain ⟨oc, od, kV, doc, pm, an, cdv, ct, osl, rfl, lk, hcd⟩ := F.ex
  exact ⟨fun s us ws X l1 l2 => .of_eq (h kV doc pm an cdv ct us ws l1 l2), fun r1 r2 => pk_vals (r1.append r2) perm⟩
def DK3 (X : Cx) (F0 : Pt) (kws : List Keyword) (t : TA3) : Prop := PK X kws (lowA X.K F0 t)
theorem PK.imp {X : Cx} {kws : List Keyword} {te t : TA} (h : PK X kws te) (i : ∀ σ H Q, t σ H Q → te σ H Q) : PK X kws t := ⟨fun pos pins s σ H Q I q => h.run pos pins s σ H Q I (i σ H Q q)⟩
section
variable {X : Cx} {K : PySem.W.Frag} {F0 : Pt} {a b e o value : Expr} {es rest : List Expr} {ta tb te tv : TE3} {t tk : TA3} {pos pos' p apos kpos : Pos} {x f m : Str} {C : Addr} {i : Nat} {kws : List Keyword} {nm : Option Str}
theorem dk_nil : DK3 X F0 [] dNil := PK.imp pk_nil fun σ H Q ⟨sd, F, G, Q3, at_, h, k⟩ => k [] [] F G H (Ext.refl at_.cp) .nil h
theorem dk_cons (ha : DE X F0 e te) (hr : DK3 X F0 kws t) : DK3 X F0 (⟨nm, e, kpos⟩ :: kws) (dCons te t) :=
  PK.imp (pk_cons ha hr) fun σ H Q ⟨sd, F, G, Q3, at_, h, k⟩ => ⟨sd, F, G, _, at_, h, fun d v F1 G1 H1 l1 r1 q1 => ⟨sd, F1, G1, _, at_.step l1, q1, fun ds vs F2 G2 H2 l2 r2 q2 => k _ _ _ _ _ (l1.trans l2) (.cons (r1.mono l2.le) r2) q2⟩⟩
end
/-! the calls, at L2 -/
section
variable {X : Cx} {CX : CXT} {k n : Nat} {f C : Addr} {fd : FuncData} {ps ks : List Str} {sp : Sp} {E : L2.St → XK} {x : Str} {p pos : Pos} {e : Expr} {es : List Expr} {kws : List Keyword} {t tk : TA} {g : List Value → List Value → List Value} {gV : List V → List V → List V}
theorem run_fnKE {pins : List (Addr × Obj)} {σ : L2.St} {H : Hp} {s : Shared} {Q : VK} {us ws : List Value} {vs zs : List V} (F : FnOk X.prog X.w X.K X.mg X.base CX k f fd ps sp) (hr : Room k X.A) (hb : KBn X.K fd ps n ks g gV) (hx : PassesAt CX X σ (E σ))
    (I : Inv X pins σ H s) (r : Vals vs us) (rz : Vals zs ws) (l1 : vs.length = n) (l2 : zs.length = ks.length) (h : sp (gV vs zs) H Q (E σ)) : wpAny (model X.prog X.w) X.A (call (.ref f) us (ks.zip ws)) (EP X pins σ Q) X.xe s := by
  refine wpAny_call (codeAny_mono (F.run X.A X.stack s H ⟨us, ks.zip ws⟩ (g us ws) (gV vs zs) Q (E σ) hr I.env0 (hb.to s us ws I.kIn (r.length.symm.trans l1) (rz.length.symm.trans l2)) (hb.rel r rz) h) fun r s' hq => ?_)
  cases r with
  | error e => exact hx pins H s e s' I hq
  | ok fl =>
    cases fl with
    | ret u => exact I.after hq
    | next => exact hq.elim
    | brk => exact hq.elim
    | cont => exact hq.elim
def tCallKE (n m : Nat) (sp : Sp) (gV : List V → List V → List V) (E : L2.St → XK) (t tk : TA) : TE := fun σ H Q => t σ H fun vs H1 => tk σ H1 fun zs H2 => vs.length = n ∧ zs.length = m ∧ sp (gV vs zs) H2 Q (E σ)
theorem pe_callKE (F : FnOk X.prog X.w X.K X.mg X.base CX k f fd ps sp) (hr : Room k X.A) (hg : Gl X x) (hm : X.mg x = some (.ref f)) (hk : PySem.W.keepIn X.K (.ref f) = true) (hb : KBn X.K fd ps n ks g gV) (hx : ∀ σ, PassesAt CX X σ (E σ))
    (ha : PA X (e :: es) t) (hkw : PK X kws tk) (hall : (backToKw pos (keywordEach kws X.env)).all (·.1.isSome) = true := by rfl) (hks : (backToKw pos (keywordEach kws X.env)).filterMap (·.1) = ks := by rfl)
    (hdb : (x == ("__debug__" : Str)) = false := by decide) (he : starEach (e :: es) X.env = (false, eval e X.env) :: starEach es X.env := by rfl)
    (hpl : ((backTo pos (starEach (e :: es) X.env)).any (·.1) || (backToKw pos (keywordEach kws X.env)).any (·.1.isNone)) = false := by rfl) :
    PE X (.Call (.Name x p) (e :: es) kws pos) (tCallKE n ks.length sp gV E t tk) := by
  refine ⟨fun pins s σ H Q I h => wpAny_Call_Name_kw (ld_glob I hg hm ?_ hdb)⟩
  refine PySem.W.callWith_KW (h₀ := X.base) I.ok.mod.kin hk hall (thn (ha.run pos pins s σ H _ I h) fun us s1 ⟨vs, H1, I1, r, q⟩ => ?_) hpl he
  refine thn (hkw.run pos pins s1 σ H1 _ I1 q) fun ws s2 ⟨zs, H2, I2, rz, l1, l2, q2⟩ => ⟨I2.kIn, ?_⟩
  rw [hks]
  exact run_fnKE F hr hb (hx σ) I2 r rz l1 l2 q2
theorem pe_callKE0 (F : FnOk X.prog X.w X.K X.mg X.base CX k f fd ps sp) (hr : Room k X.A) (hg : Gl X x) (hm : X.mg x = some (.ref f)) (hk : PySem.W.keepIn X.K (.ref f) = true) (hb : KBn X.K fd ps 0 ks g gV) (hx : ∀ σ, PassesAt CX X σ (E σ))
    (hkw : PK X kws tk) (hall : (backToKw pos (keywordEach kws X.env)).all (·.1.isSome) = true := by rfl) (hks : (backToKw pos (keywordEach kws X.env)).filterMap (·.1) = ks := by rfl)
    (hdb : (x == ("__debug__" : Str)) = false := by decide) (hpl : ((backTo pos (starEach [] X.env)).any (·.1) || (backToKw pos (keywordEach kws X.env)).any (·.1.isNone)) = false := by rfl) :
    PE X (.Call (.Name x p) [] kws pos) (tCallKE 0 ks.length sp gV E tNil tk) := by
  refine ⟨fun pins s σ H Q I h => wpAny_Call_Name_kw (ld_glob I hg hm ?_ hdb)⟩
  refine PySem.W.callWith_KW0 (h₀ := X.base) I.ok.mod.kin hk hall ?_ hpl
  refine thn (hkw.run pos pins s σ H _ I h) fun ws s2 ⟨zs, H2, I2, rz, l1, l2, q2⟩ => ⟨I2.kIn, ?_⟩
  rw [hks]
  exact run_fnKE (us := []) (vs := []) F hr hb (hx σ) I2 .nil rz rfl l2 q2
theorem run_makeE {pins : List (Addr × Obj)} {σ : L2.St} {H : Hp} {s : Shared} {Q : VK} {us ws : List Value} {vs zs : List V} (M : Mk X.K C f) (F : FnOk X.prog X.w X.K X.mg X.base CX k f fd ps sp) (hr : Room (k + 1) X.A) (hb : KBn X.K fd ps (n + 1) ks g gV)
    (hx : PassesAt CX X σ (E σ)) (hi : ∀ {x dx : Addr} {s2 : Shared} {e : Value} {s' : Shared}, CX X.stack (upd (upd H dx (.own x)) x (.ins C dx [])) s2 (E σ) e s' → Inv X pins σ (upd (upd H dx (.own x)) x (.ins C dx [])) s2 → X.xe e s') (I : Inv X pins σ H s) (r : Vals vs us) (rz : Vals zs ws) (l1 : vs.length = n) (l2 : zs.length = ks.length)
    (h : ∀ x dx, H x = none → H dx = none → dx ≠ x → sp (gV (.ref x :: vs) zs) (upd (upd H dx (.own x)) x (.ins C dx [])) (fun v H2 => v = .non ∧ Q (.ref x) H2) (E σ)) :
    wpAny (model X.prog X.w) X.A (call (.ref C) us (ks.zip ws)) (EP X pins σ Q) X.xe s := by
  have hq := h (s.heap.objs.size + 1) s.heap.objs.size (I.hok.fresh (Nat.le_succ _)) (I.hok.fresh (Nat.le_refl _)) (Nat.ne_of_lt (Nat.lt_succ_self _))
  have I2 := Inv.made (C := C) I
  have r1 : Vals (V.ref (s.heap.objs.size + 1) :: vs) (Value.ref (s.heap.objs.size + 1) :: us) := .cons rfl r
  have e1 : (Value.ref (s.heap.objs.size + 1) :: us).length = n + 1 := r1.length.symm.trans (congrArg Nat.succ l1)
  have e2 : ws.length = ks.length := rz.length.symm.trans l2
  refine wpAny_call (make_map (f := f) I.kIn M.makes M.init (beq_iff_eq.mp M.fn) (codeAny_mono (F.run _ X.stack _ _ ⟨Value.ref (s.heap.objs.size + 1) :: us, ks.zip ws⟩ (g (Value.ref (s.heap.objs.size + 1) :: us) ws) _ _ (E σ) (hr.make C us (ks.zip ws))
    (I2.env0.make C us (ks.zip ws)) (hb.to _ (Value.ref (s.heap.objs.size + 1) :: us) ws I2.kIn e1 e2) (hb.rel r1 rz) hq) fun r s' hq' => ?_))
  cases r with
  | error e => exact hi hq' I2
  | ok fl =>
    cases fl with
    | ret u =>
      obtain ⟨v, H', I3, rv, ev, q3⟩ := I2.after hq'
      subst ev
      exact ⟨rv, ⟨V.ref (s.heap.objs.size + 1), H', I3, rfl, q3⟩⟩
    | next => exact hq'.elim
    | brk => exact hq'.elim
    | cont => exact hq'.elim
def tMakeE (C : Addr) (n m : Nat) (sp : Sp) (gV : List V → List V → List V) (E : L2.St → XK) (t tk : TA) : TE := fun σ H Q => t σ H fun vs H1 => tk σ H1 fun zs H2 => vs.length = n ∧ zs.length = m ∧ ∀ x dx, H2 x = none → H2 dx = none → dx ≠ x →
  sp (gV (.ref x :: vs) zs) (upd (upd H2 dx (.own x)) x (.ins C dx [])) (fun v H3 => v = .non ∧ Q (.ref x) H3) (E σ)
theorem pe_makeE0 (M : Mk X.K C f) (F : FnOk X.prog X.w X.K X.mg X.base CX k f fd ps sp) (hr : Room (k + 1) X.A) (hg : Gl X x) (hm : X.mg x = some (.ref C)) (hb : KBn X.K fd ps 1 ks g gV) (hx : ∀ σ, PassesAt CX X σ (E σ)) (hkw : PK X kws tk)
    (hall : (backToKw pos (keywordEach kws X.env)).all (·.1.isSome) = true := by rfl) (hks : (backToKw pos (keywordEach kws X.env)).filterMap (·.1) = ks := by rfl) (hdb : (x == ("__debug__" : Str)) = false := by decide)
    (hpl : ((backTo pos (starEach [] X.env)).any (·.1) || (backToKw pos (keywordEach kws X.env)).any (·.1.isNone)) = false := by rfl) :
    PE X (.Call (.Name x p) [] kws pos) (tMakeE C 0 ks.length sp gV E tNil tk) := by
  refine ⟨fun pins s σ H Q I h => wpAny_Call_Name_kw (ld_glob I hg hm ?_ hdb)⟩
  refine PySem.W.callWith_KW0 (h₀ := X.base) I.ok.mod.kin M.kp hall ?_ hpl
  refine thn (hkw.run pos pins s σ H _ I h) fun ws s2 ⟨zs, H2, I2, rz, l1, l2, q2⟩ => ⟨I2.kIn, ?_⟩
  rw [hks]
  exact run_makeE (us := []) (vs := []) M F hr hb (hx σ) (fun h J => hx σ _ _ _ _ _ J h) I2 .nil rz rfl l2 q2
theorem pe_makeE (M : Mk X.K C f) (F : FnOk X.prog X.w X.K X.mg X.base CX k f fd ps sp) (hr : Room (k + 1) X.A) (hg : Gl X x) (hm : X.mg x = some (.ref C)) (hb : KBn X.K fd ps (n + 1) ks g gV) (hx : ∀ σ, PassesAt CX X σ (E σ)) (ha : PA X (e :: es) t) (hkw : PK X kws tk)
    (hall : (backToKw pos (keywordEach kws X.env)).all (·.1.isSome) = true := by rfl) (hks : (backToKw pos (keywordEach kws X.env)).filterMap (·.1) = ks := by rfl) (hdb : (x == ("__debug__" : Str)) = false := by decide)
    (he : starEach (e :: es) X.env = (false, eval e X.env) :: starEach es X.env := by rfl) (hpl : ((backTo pos (starEach (e :: es) X.env)).any (·.1) || (backToKw pos (keywordEach kws X.env)).any (·.1.isNone)) = false := by rfl) :
    PE X (.Call (.Name x p) (e :: es) kws pos) (tMakeE C n ks.length sp gV E t tk) := by
  refine ⟨fun pins s σ H Q I h => wpAny_Call_Name_kw (ld_glob I hg hm ?_ hdb)⟩
  refine PySem.W.callWith_KW (h₀ := X.base) I.ok.mod.kin M.kp hall (thn (ha.run pos pins s σ H _ I h) fun us s1 ⟨vs, H1, I1, r, q⟩ => ?_) hpl he
  refine thn (hkw.run pos pins s1 σ H1 _ I1 q) fun ws s2 ⟨zs, H2, I2, rz, l1, l2, q2⟩ => ⟨I2.kIn, ?_⟩
  rw [hks]
  exact run_makeE M F hr hb (hx σ) (fun h J => hx σ _ _ _ _ _ J h) I2 r rz l1 l2 q2
end
/-! .. over data -/
section
variable {X : Cx} {K : PySem.W.Frag} {F0 : Pt} {a b e o value : Expr} {es rest : List Expr} {ta tb te tv : TE3} {t tw : TA3} {pos pos' p apos kpos : Pos} {x f m : Str} {C : Addr} {i k j n : Nat} {kws : List Keyword} {nm : Option Str} {qual : Str} {st : Stmt} {ps : List Str} {sp : Sp3} {W : WK}
def dCallK (n m : Nat) (perm : List Nat) (sp : Sp3) (W : WK) (t tk : TA3) : TE3 := fun sd G Q => t sd G fun xs G1 => tk sd G1 fun zs G2 => match lenIs n xs, lenIs m zs with
  | true, true => sp (pk perm (xs ++ zs)) G2 Q fun C fs G3 => W C fs sd G3
  | _, _ => False
theorem de_callK {ks : List Str} (perm : List Nat) (c : CalF X.prog X.w X.K X.mg X.base k x st ps sp) (hr : Room j X.A) (tk : Takes X (lowW X.K F0 W)) (ha : DA X F0 (e :: es) t) (hkw : DK3 X F0 kws tw)
    (hb : ∀ (kV doc pm : Value) (an : Option Addr) (cdv ct : Value) (us ws : List Value), us.length = (e :: es).length → ws.length = ks.length → bindArgs (PySem.W.fnOf x x (defArgs st) (defBody st) (defScope st) .none kV doc pm an cdv ct) ⟨us, ks.zip ws⟩ = pure (ps.zip (pk perm (us ++ ws))))
    (hk : k ≤ j := by decide) (hg : Gl X x := by rfl) (hall : (backToKw pos (keywordEach kws X.env)).all (·.1.isSome) = true := by rfl) (hks : (backToKw pos (keywordEach kws X.env)).filterMap (·.1) = ks := by rfl)
    (hdb : (x == ("__debug__" : Str)) = false := by decide) (he : starEach (e :: es) X.env = (false, eval e X.env) :: starEach es X.env := by rfl) (hpl : ((backTo pos (starEach (e :: es) X.env)).any (·.1) || (backToKw pos (keywordEach kws X.env)).any (·.1.isNone)) = false := by rfl) :
    DE X F0 (.Call (.Name x p) (e :: es) kws pos) (dCallK (e :: es).length ks.length perm sp W t tw) := by
  obtain ⟨f, fd, F, m, kp, b, h⟩ := c.ex
  refine PE.imp (pe_callKE (E := fun σ cls d H => lowW X.K F0 W cls d σ H) h (hr.mono hk) hg m kp (kbn F hb) (fun σ => passAt tk σ) ha hkw hall hks hdb he hpl) fun σ H Q ⟨sd, F, G, Q3, at_, h, kq⟩ => ?_
  refine ⟨sd, F, G, _, at_, h, fun xs vs F1 G1 H1 l1 r1 q1 => ⟨sd, F1, G1, _, at_.step l1, q1, fun zs us F2 G2 H2 l2 r2 q2 => ?_⟩⟩
  split at q2
  · rename_i e1 e2
    exact ⟨by rw [← r1.length]; exact lenIs_ok e1, by rw [← r2.length]; exact lenIs_ok e2, _, F2, G2, Q3, _, l2.cp, pk_repL ((r1.mono l2.le).append r2) perm, q2, kq.mono (l1.trans l2), low_w ((at_.step l1).step l2)⟩
  · exact q2.elim
theorem de_callK0 {ks : List Str} (perm : List Nat) (c : CalF X.prog X.w X.K X.mg X.base k x st ps sp) (hr : Room j X.A) (tk : Takes X (lowW X.K F0 W)) (hkw : DK3 X F0 kws tw)
    (hb : ∀ (kV doc pm : Value) (an : Option Addr) (cdv ct : Value) (us ws : List Value), us.length = 0 → ws.length = ks.length → bindArgs (PySem.W.fnOf x x (defArgs st) (defBody st) (defScope st) .none kV doc pm an cdv ct) ⟨us, ks.zip ws⟩ = pure (ps.zip (pk perm (us ++ ws))))
    (hk : k ≤ j := by decide) (hg : Gl X x := by rfl) (hall : (backToKw pos (keywordEach kws X.env)).all (·.1.isSome) = true := by rfl) (hks : (backToKw pos (keywordEach kws X.env)).filterMap (·.1) = ks := by rfl)
    (hdb : (x == ("__debug__" : Str)) = false := by decide) (hpl : ((backTo pos (starEach [] X.env)).any (·.1) || (backToKw pos (keywordEach kws X.env)).any (·.1.isNone)) = false := by rfl) :
    DE X F0 (.Call (.Name x p) [] kws pos) (dCallK 0 ks.length perm sp W dNil tw) := by
  obtain ⟨f, fd, F, m, kp, b, h⟩ := c.ex
  refine PE.imp (pe_callKE0 (E := fun σ cls d H => lowW X.K F0 W cls d σ H) h (hr.mono hk) hg m kp (kbn F hb) (fun σ => passAt tk σ) hkw hall hks hdb hpl) fun σ H Q ⟨sd, F, G, Q3, at_, h, kq⟩ => ?_
  refine ⟨sd, F, G, _, at_, h, fun zs us F2 G2 H2 l2 r2 q2 => ?_⟩
  split at q2
  · rename_i e1 e2
    exact ⟨rfl, by rw [← r2.length]; exact lenIs_ok e2, _, F2, G2, Q3, _, l2.cp, pk_repL r2 perm, q2, kq.mono l2, low_w (at_.step l2)⟩
  · exact q2.elim
/-- C(e, .., k = v, ..), filled and looked at as a datum -/
def dMakeK (C : Addr) (n m : Nat) (perm : List Nat) (sp : Sp3) (W : WK) (t tk : TA3) : TE3 := fun sd G Q => t sd G fun xs G1 => tk sd G1 fun zs G2 => match lenIs n xs, lenIs m zs with
  | true, true => ∀ p dx, G2 p = none → sp (pk perm ((.ref p :: xs) ++ zs)) (gupd G2 p (.sl C dx [])) (fun d G3 => d = .non ∧ ∃ ds : List D, G3 p = some (.sl C dx (ds.map some)) ∧ ds ≠ [] ∧ Q (.ins C ds) (gdel G3 p)) fun C fs G3 => W C fs sd G3
  | _, _ => False
theorem low_make {F : Hp} {G : Gp} {σ : L2.St} {H : Hp} {Q : VK} {Q3 : DK} {sd : St3} {xs zs : List D} {vs us : List V} {perm : List Nat} (at_ : At K F0 F sd G σ H) (r1 : RepL K F xs vs) (r2 : RepL K F zs us) (kq : QR K F G H Q3 Q)
    (q : ∀ p dx, G p = none → sp (pk perm ((.ref p :: xs) ++ zs)) (gupd G p (.sl C dx [])) (fun d G3 => d = .non ∧ ∃ ds : List D, G3 p = some (.sl C dx (ds.map some)) ∧ ds ≠ [] ∧ Q3 (.ins C ds) (gdel G3 p)) fun C fs G3 => W C fs sd G3)
    (x dx : Addr) (hx : H x = none) (hd : H dx = none) (hne : dx ≠ x) : dn K sp (pk perm ((.ref x :: vs) ++ us)) (upd (upd H dx (.own x)) x (.ins C dx [])) (fun v H3 => v = .non ∧ Q (.ref x) H3) (fun cls d H => lowW K F0 W cls d σ H) := by
  have x0 := Ext.made (C := C) at_.cp hx hd hne
  refine ⟨_, F, _, _, _, x0.cp, pk_repL ((RepL.cons (.ref x) r1).append r2) perm, q x dx (at_.cp.free hx).2, fun d v F' G' H' l r ⟨ed, ds, eg, hn, q3⟩ => ?_, low_w (at_.step x0)⟩
  subst ed
  cases r
  obtain ⟨F2, x2, r⟩ := Ext.madeF hx hd l x0 eg hn
  exact ⟨rfl, kq _ _ _ _ _ x2 r q3⟩
theorem de_makeK {ks : List Str} (perm : List Nat) (c : Mak3 X.prog X.w X.K X.mg X.base k x C qual st ps sp) (hr : Room j X.A) (tk : Takes X (lowW X.K F0 W)) (ha : DA X F0 (e :: es) t) (hkw : DK3 X F0 kws tw)
    (hb : ∀ (kV doc pm : Value) (an : Option Addr) (cdv ct : Value) (us ws : List Value), us.length = (e :: es).length + 1 → ws.length = ks.length → bindArgs (PySem.W.fnOf "__init__" qual (defArgs st) (defBody st) (defScope st) .none kV doc pm an cdv ct) ⟨us, ks.zip ws⟩ = pure (ps.zip (pk perm (us ++ ws))))
    (hk : k + 1 ≤ j := by decide) (hg : Gl X x := by rfl) (hall : (backToKw pos (keywordEach kws X.env)).all (·.1.isSome) = true := by rfl) (hks : (backToKw pos (keywordEach kws X.env)).filterMap (·.1) = ks := by rfl)
    (hdb : (x == ("__debug__" : Str)) = false := by decide) (he : starEach (e :: es) X.env = (false, eval e X.env) :: starEach es X.env := by rfl) (hpl : ((backTo pos (starEach (e :: es) X.env)).any (·.1) || (backToKw pos (keywordEach kws X.env)).any (·.1.isNone)) = false := by rfl) :
    DE X F0 (.Call (.Name x p) (e :: es) kws pos) (dMakeK C (e :: es).length ks.length perm sp W t tw) := by
  obtain ⟨f, fd, M, F, m, h⟩ := c.ex
  refine PE.imp (pe_makeE (E := fun σ cls d H => lowW X.K F0 W cls d σ H) M h (hr.mono hk) hg m (kbn F hb) (fun σ => passAt tk σ) ha hkw hall hks hdb he hpl) fun σ H Q ⟨sd, F, G, Q3, at_, h, kq⟩ => ?_
  refine ⟨sd, F, G, _, at_, h, fun xs vs F1 G1 H1 l1 r1 q1 => ⟨sd, F1, G1, _, at_.step l1, q1, fun zs us F2 G2 H2 l2 r2 q2 => ?_⟩⟩
  split at q2
  · rename_i e1 e2
    exact ⟨by rw [← r1.length]; exact lenIs_ok e1, by rw [← r2.length]; exact lenIs_ok e2, low_make ((at_.step l1).step l2) (r1.mono l2.le) r2 (kq.mono (l1.trans l2)) q2⟩
  · exact q2.elim
theorem de_makeK0 {ks : List Str} (perm : List Nat) (c : Mak3 X.prog X.w X.K X.mg X.base k x C qual st ps sp) (hr : Room j X.A) (tk : Takes X (lowW X.K F0 W)) (hkw : DK3 X F0 kws tw)
    (hb : ∀ (kV doc pm : Value) (an : Option Addr) (cdv ct : Value) (us ws : List Value), us.length = 1 → ws.length = ks.length → bindArgs (PySem.W.fnOf "__init__" qual (defArgs st) (defBody st) (defScope st) .none kV doc pm an cdv ct) ⟨us, ks.zip ws⟩ = pure (ps.zip (pk perm (us ++ ws))))
    (hk : k + 1 ≤ j := by decide) (hg : Gl X x := by rfl) (hall : (backToKw pos (keywordEach kws X.env)).all (·.1.isSome) = true := by rfl) (hks : (backToKw pos (keywordEach kws X.env)).filterMap (·.1) = ks := by rfl)
    (hdb : (x == ("__debug__" : Str)) = false := by decide) (hpl : ((backTo pos (starEach [] X.env)).any (·.1) || (backToKw pos (keywordEach kws X.env)).any (·.1.isNone)) = false := by rfl) :
    DE X F0 (.Call (.Name x p) [] kws pos) (dMakeK C 0 ks.length perm sp W dNil tw) := by
  obtain ⟨f, fd, M, F, m, h⟩ := c.ex
  refine PE.imp (pe_makeE0 (E := fun σ cls d H => lowW X.K F0 W cls d σ H) M h (hr.mono hk) hg m (kbn F hb) (fun σ => passAt tk σ) hkw hall hks hdb hpl) fun σ H Q ⟨sd, F, G, Q3, at_, h, kq⟩ => ?_
  refine ⟨sd, F, G, _, at_, h, fun zs us F2 G2 H2 l2 r2 q2 => ?_⟩
  split at q2
  · rename_i e1 e2
    exact ⟨rfl, by rw [← r2.length]; exact lenIs_ok e2, low_make (at_.step l2) .nil r2 (kq.mono l2) q2⟩
  · exact q2.elim
end
end L3
set_option Elab.async false
set_option linter.all false
set_option maxRecDepth 100000
set_option maxHeartbeats 4000000
namespace L3
open PySem PySem.Spec PyProof.Rows L2 PySem.Calls

/-! ### [e for x in xs for y in ys] -/
def lc2L0 (g : TG3) (tt : TT3) (w1 : TI3) (g1 : TG3) (tt1 : TT3) (te : TE3) (vs1 : List Nat) (sw : St3) : Nat → List D → Gp → (List D → Gp → Prop) → Prop
  | _, [], G, K => K [] G
  | n, x :: xs, G, K => g x sw G fun sd2 G2 => tt sd2 G2 fun b G3 => br b
      (w1 sd2 G3 fun ds1 G4 => n + ds1.length < sizeLine ∧ swp (fun sw1 => lcL g1 tt1 te sw1 ds1 G4 fun ys G5 => lc2L0 g tt w1 g1 tt1 te vs1 sw (n + ds1.length) xs G5 fun zs G6 => K (ys ++ zs) G6) vs1 sd2)
      (lc2L0 g tt w1 g1 tt1 te vs1 sw n xs G3 K)
/-- (it is not unfolded by itself: lc2L_nil, lc2L_cons) -/
@[irreducible] def lc2L (g : TG3) (tt : TT3) (w1 : TI3) (g1 : TG3) (tt1 : TT3) (te : TE3) (vs1 : List Nat) (sw : St3) (n : Nat) (ds : List D) (G : Gp) (K : List D → Gp → Prop) : Prop := lc2L0 g tt w1 g1 tt1 te vs1 sw n ds G K
theorem lc2L_nil {g : TG3} {tt : TT3} {w1 : TI3} {g1 : TG3} {tt1 : TT3} {te : TE3} {vs1 : List Nat} {sw : St3} {n : Nat} {G : Gp} {K : List D → Gp → Prop} : lc2L g tt w1 g1 tt1 te vs1 sw n [] G K = K [] G := by unfold lc2L; rfl
theorem lc2L_cons {g : TG3} {tt : TT3} {w1 : TI3} {g1 : TG3} {tt1 : TT3} {te : TE3} {vs1 : List Nat} {sw : St3} {n : Nat} {x : D} {xs : List D} {G : Gp} {K : List D → Gp → Prop} : lc2L g tt w1 g1 tt1 te vs1 sw n (x :: xs) G K = g x sw G fun sd2 G2 => tt sd2 G2 fun b G3 => br b
      (w1 sd2 G3 fun ds1 G4 => n + ds1.length < sizeLine ∧ swp (fun sw1 => lcL g1 tt1 te sw1 ds1 G4 fun ys G5 => lc2L g tt w1 g1 tt1 te vs1 sw (n + ds1.length) xs G5 fun zs G6 => K (ys ++ zs) G6) vs1 sd2)
      (lc2L g tt w1 g1 tt1 te vs1 sw n xs G3 K) := by
  have e : (fun n => lc2L g tt w1 g1 tt1 te vs1 sw n xs) = fun n => lc2L0 g tt w1 g1 tt1 te vs1 sw n xs := by funext n G K; unfold lc2L; rfl
  have e' : ∀ n, lc2L g tt w1 g1 tt1 te vs1 sw n xs = lc2L0 g tt w1 g1 tt1 te vs1 sw n xs := fun n => congrFun e n
  simp only [e']
  unfold lc2L
  rfl
def dLc2 (w : TI3) (g : TG3) (tt : TT3) (w1 : TI3) (g1 : TG3) (tt1 : TT3) (te : TE3) (vs vs1 : List Nat) : TE3 := fun sd G Q => w sd G fun ds G1 => swp (fun sw => lc2L g tt w1 g1 tt1 te vs1 sw 0 ds G1 fun ys G2 => Q (.lst ys) G2) vs sd
theorem lc2L_drop {g : TG3} {tt : TT3} {w1 : TI3} {g1 : TG3} {tt1 : TT3} {te : TE3} {vs1 : List Nat} {sw : St3} {ds : List D} {i n : Nat} {d : D} {G : Gp} {K : List D → Gp → Prop} (e : ds[i]? = some d) (h : lc2L g tt w1 g1 tt1 te vs1 sw n (ds.drop i) G K) :
    g d sw G fun sd2 G2 => tt sd2 G2 fun b G3 => br b
      (w1 sd2 G3 fun ds1 G4 => n + ds1.length < sizeLine ∧ swp (fun sw1 => lcL g1 tt1 te sw1 ds1 G4 fun ys G5 => lc2L g tt w1 g1 tt1 te vs1 sw (n + ds1.length) (ds.drop (i + 1)) G5 fun zs G6 => K (ys ++ zs) G6) vs1 sd2)
      (lc2L g tt w1 g1 tt1 te vs1 sw n (ds.drop (i + 1)) G3 K) := by
  obtain ⟨hi, ed⟩ := List.getElem?_eq_some_iff.mp e
  rw [List.drop_eq_getElem_cons hi, ed, lc2L_cons] at h
  exact h
theorem low_lc2 {K : PySem.W.Frag} {F0 : Pt} {w w1 : TI3} {g2 g21 : TG} {g g1 : TG3} {tt tt1 : TT3} {te : TE3} {vs vs1 : List Nat} (tg : TgtOk K vs g2 g) (tg1 : TgtOk K vs1 g21 g1) {σ : L2.St} {H : Hp} {Q : VK} (h : low K F0 (dLc2 w g tt w1 g1 tt1 te vs vs1) σ H Q) :
    tLc2 (lowI K F0 w) g2 (lowT K F0 tt) (lowI K F0 w1) g21 (lowT K F0 tt1) (low K F0 te) vs vs1 σ H Q := by
  obtain ⟨sd, F, G, Q3, at_, h, k⟩ := h
  refine ⟨sd, F, G, _, at_, h, fun ds J F1 G1 H1 l1 wk q D hD => ?_⟩
  obtain ⟨sw, q, rsw⟩ := swp_rep (at_.rs.mono l1.le) q
  have fD := (l1.cp.free hD).1
  have gD := (l1.cp.free hD).2
  have nD : ∀ {acc : List V} x, (HO.lst acc) ≠ .own x := fun x z => by cases z
  refine ⟨fun i m H' => m = ds.length - i ∧ ∃ n F' G' acc ad, Ext K F1 G1 H1 F' G' H' ∧ H' D = some (.lst acc) ∧ F' D = none ∧ G' D = none ∧ RepL K F' ad acc ∧ acc.length ≤ n ∧ lc2L g tt w1 g1 tt1 te vs1 sw n (ds.drop i) G' fun ys G2 => Q3 (.lst (ad ++ ys)) G2,
    ⟨ds.length, rfl, 0, F1, G1, [], [], (Ext.refl l1.cp).loose hD fD gD (fun x z => by rw [hD] at z; cases z) (fun z => by rw [hD] at z; cases z), upd_same, fD, gD, .nil, Nat.zero_le _, by rw [List.drop_zero]; exact q⟩, ?_⟩
  rintro i m H' ⟨rfl, n, F', G', acc, ad, l, eD, fD', gD', ra, hle, q⟩
  by_cases hlt : i < ds.length
  · obtain ⟨hgo, hy⟩ := wk.go i F' G' H' l.le l.cp hlt
    refine .inr ⟨hgo, fun H2 => ∃ n F2 G2 acc2 ad2, Ext K F1 G1 H1 F2 G2 H2 ∧ H2 D = some (.lst acc2) ∧ F2 D = none ∧ G2 D = none ∧ RepL K F2 ad2 acc2 ∧ acc2.length ≤ n ∧ lc2L g tt w1 g1 tt1 te vs1 sw n (ds.drop (i + 1)) G2 fun ys G2 => Q3 (.lst (ad2 ++ ys)) G2,
      fun H2 hh => ⟨ds.length - (i + 1), by omega, rfl, hh⟩, fun x H2 y => ?_⟩
    obtain ⟨F2, l2, d, ed, rd⟩ := hy x H2 y
    have q := lc2L_drop ed q
    refine tg F2 sw G' (wipe σ vs) H2 d x _ _ l2.cp (rsw.mono (l.le.trans l2.le)) rd q fun sd3 σ3 rs3 ew q3 => ⟨by rw [ew, wipe_wipe], ?_⟩
    have lz2 := l.trans l2
    refine ⟨sd3, F2, G', _, ⟨at_.ext.trans (l1.trans lz2), rs3⟩, q3, fun b F3 G3 H3 l3 q4 => ?_⟩
    have lz3 := lz2.trans l3
    obtain ⟨hD3, gD3, fD3⟩ := (l2.trans l3).st D _ eD gD' fD' nD
    cases b with
    | true =>
      refine iteT ⟨sd3, F3, G3, _, ⟨at_.ext.trans (l1.trans lz3), rs3.mono l3.le⟩, q4, fun ds1 J1 F4 G4 H4 l4 wk1 ⟨hz1, q5⟩ => ?_⟩
      obtain ⟨sw1, q5, rsw1⟩ := swp_rep (rs3.mono (l3.le.trans l4.le)) q5
      obtain ⟨hD4, gD4, fD4⟩ := l4.st D _ hD3 gD3 fD3 nD
      have lz4 := lz3.trans l4
      refine ⟨fun j m H' => m = ds1.length - j ∧ j ≤ ds1.length ∧ ∃ F' G' acc ad, Le F4 F' ∧ Ext K F1 G1 H1 F' G' H' ∧ H' D = some (.lst acc) ∧ F' D = none ∧ G' D = none ∧ RepL K F' ad acc ∧ acc.length ≤ n + j ∧
          lcL g1 tt1 te sw1 (ds1.drop j) G' fun ys G5 => lc2L g tt w1 g1 tt1 te vs1 sw (n + ds1.length) (ds.drop (i + 1)) G5 fun zs G6 => Q3 (.lst (ad ++ (ys ++ zs))) G6,
        ⟨ds1.length, rfl, Nat.zero_le _, F4, G4, acc, ad, Le.refl _, lz4, hD4, fD4, gD4, ra.mono (l2.le.trans (l3.le.trans l4.le)), by omega, by rw [List.drop_zero]; exact q5⟩, ?_⟩
      rintro j m H5 ⟨rfl, hj, F5, G5, acc5, ad5, le5, lz5, eD5, fD5, gD5, ra5, hle5, q6⟩
      by_cases hlt1 : j < ds1.length
      · obtain ⟨hgo1, hy1⟩ := wk1.go j F5 G5 H5 le5 lz5.cp hlt1
        refine .inr ⟨hgo1, fun H6 => ∃ F' G' acc ad, Le F4 F' ∧ Ext K F1 G1 H1 F' G' H6 ∧ H6 D = some (.lst acc) ∧ F' D = none ∧ G' D = none ∧ RepL K F' ad acc ∧ acc.length ≤ n + (j + 1) ∧
          lcL g1 tt1 te sw1 (ds1.drop (j + 1)) G' fun ys G5 => lc2L g tt w1 g1 tt1 te vs1 sw (n + ds1.length) (ds.drop (i + 1)) G5 fun zs G6 => Q3 (.lst (ad ++ (ys ++ zs))) G6,
          fun H6 hh => ⟨ds1.length - (j + 1), by omega, rfl, by omega, hh⟩, fun x1 H6 y1 => ?_⟩
        obtain ⟨F6, l6, d1, ed1, rd1⟩ := hy1 x1 H6 y1
        have q6 := lcL_drop ed1 q6
        refine tg1 F6 sw1 G5 (wipe σ3 vs1) H6 d1 x1 _ _ l6.cp (rsw1.mono (le5.trans l6.le)) rd1 q6 fun sd7 σ7 rs7 ew7 q7 => ⟨by rw [ew7, wipe_wipe], ?_⟩
        have lz6 := lz5.trans l6
        refine ⟨sd7, F6, G5, _, ⟨at_.ext.trans (l1.trans lz6), rs7⟩, q7, fun b F7 G7 H7 l7 q8 => ?_⟩
        have lz7 := lz6.trans l7
        obtain ⟨hD7, gD7, fD7⟩ := (l6.trans l7).st D _ eD5 gD5 fD5 nD
        cases b with
        | true =>
          refine iteT ⟨sd7, F7, G7, _, ⟨at_.ext.trans (l1.trans lz7), rs7.mono l7.le⟩, q8, fun yd yv F8 G8 H8 l8 r8 q9 => ?_⟩
          obtain ⟨hD8, gD8, fD8⟩ := l8.st D _ hD7 gD7 fD7 nD
          refine ⟨acc5, hD8, by omega, F8, G8, acc5 ++ [yv], ad5 ++ [yd], le5.trans (l6.le.trans (l7.le.trans l8.le)), (lz7.trans l8).loose hD fD8 gD8 (fun x z => by rw [hD8] at z; cases z) (fun z => by rw [hD8] at z; cases z), upd_same, fD8, gD8, ?_, ?_, ?_⟩
          · exact (ra5.mono (l6.le.trans (l7.le.trans l8.le))).append (.one r8)
          · rw [List.length_append, List.length_singleton]; omega
          · have e : (fun ys G5 => lc2L g tt w1 g1 tt1 te vs1 sw (n + ds1.length) (ds.drop (i + 1)) G5 fun zs G6 => Q3 (.lst (ad5 ++ [yd] ++ (ys ++ zs))) G6) = fun ys G5 => lc2L g tt w1 g1 tt1 te vs1 sw (n + ds1.length) (ds.drop (i + 1)) G5 fun zs G6 => Q3 (.lst (ad5 ++ (yd :: ys ++ zs))) G6 := by
              funext ys G5
              congr 1
              funext zs G6
              rw [List.append_assoc]
              rfl
            rw [e]
            exact q9
        | false => exact iteF ⟨F7, G7, acc5, ad5, le5.trans (l6.le.trans l7.le), lz7, hD7, fD7, gD7, ra5.mono (l6.le.trans l7.le), by omega, q8⟩
      · refine .inl ⟨wk1.stop j F5 G5 H5 le5 lz5.cp (by omega), ?_⟩
        rw [List.drop_eq_nil_of_le (by omega), lcL_nil] at q6
        have q6 : lc2L g tt w1 g1 tt1 te vs1 sw (n + ds1.length) (ds.drop (i + 1)) G5 fun zs G6 => Q3 (.lst (ad5 ++ ([] ++ zs))) G6 := q6
        exact ⟨n + ds1.length, F5, G5, acc5, ad5, lz5, eD5, fD5, gD5, ra5, by omega, q6⟩
    | false => exact iteF ⟨n, F3, G3, acc, ad, lz3, hD3, fD3, gD3, ra.mono (l2.le.trans l3.le), by omega, q4⟩
  · refine .inl ⟨wk.stop i F' G' H' l.le l.cp (by omega), ?_⟩
    rw [List.drop_eq_nil_of_le (by omega), lc2L_nil] at q
    have q : Q3 (.lst (ad ++ [])) G' := q
    rw [List.append_nil] at q
    have x := (l.fix hD fD' gD' eD)
    exact k _ _ _ _ _ (l1.trans x) (.lst upd_same (ra.mono (Le.new fD'))) q
section
variable {X : Cx} {F0 : Pt}
theorem de_lc2 {elt tg iter tg1 iter1 : Expr} {ifs ifs1 : List Expr} {scope : Scope} {pos : Pos} {w w1 : TI3} {g2 g21 : TG} {g g1 : TG3} {tt tt1 : TT3} {te : TE3} (own : List (Str × Nat)) (vs1 : List Nat) (hc : X.calm = true) (hN : X.N.Nodup) (tgo : TgtOk X.K (own.map (·.2)) g2 g) (tgo1 : TgtOk X.K vs1 g21 g1) (hi : DI X F0 tg iter w) (ok : BlkOk X.N X.env.scope scope own) (hv : ∀ i ∈ vs1, i ∈ own.map (·.2))
    (hg : ∀ (s : Shared) (H : Hp) (C : Addr) (cl : List (Str × Addr)) (fp : List Addr), PG (X.blk s H scope (compEnvC scope cl C X.env) fp) tg g2) (ht : ∀ (s : Shared) (H : Hp) (C : Addr) (cl : List (Str × Addr)) (fp : List Addr), DTs (X.blk s H scope (compEnvC scope cl C X.env) fp) F0 ifs tt)
    (hi1 : ∀ (s : Shared) (H : Hp) (C : Addr) (cl : List (Str × Addr)) (fp : List Addr), DI (X.blk s H scope (compEnvC scope cl C X.env) fp) F0 tg1 iter1 w1)
    (hg1 : ∀ (s : Shared) (H : Hp) (C : Addr) (cl : List (Str × Addr)) (fp : List Addr), PG (X.blk s H scope (compEnvC scope cl C X.env) fp) tg1 g21) (ht1 : ∀ (s : Shared) (H : Hp) (C : Addr) (cl : List (Str × Addr)) (fp : List Addr), DTs (X.blk s H scope (compEnvC scope cl C X.env) fp) F0 ifs1 tt1)
    (he : ∀ (s : Shared) (H : Hp) (C : Addr) (cl : List (Str × Addr)) (fp : List Addr), DE (X.blk s H scope (compEnvC scope cl C X.env) fp) F0 elt te) (hs : ∀ x, foldedSetIterable iter X.env x = pure x := by intro _; rfl) (hs1 : ∀ env x, foldedSetIterable iter1 env x = pure x := by intro _ _; rfl) :
    DE X F0 (.ListComp elt [⟨tg, iter, ifs, 0⟩, ⟨tg1, iter1, ifs1, 0⟩] scope pos) (dLc2 w g tt w1 g1 tt1 te (own.map (·.2)) vs1) :=
  PE.imp (pe_lc2 (tt := lowT X.K F0 tt) (wi1 := lowI X.K F0 w1) (tt1 := lowT X.K F0 tt1) (te := low X.K F0 te) hc hN hi ok hv hg ht hi1 hg1 ht1 he hs hs1) fun _ _ _ h => low_lc2 tgo tgo1 h
end
/-! ### what is mutable is looked at as a datum -/
mutual
/-- lists that were filled, frozen, also one in another -/
inductive Frz : Gp → D → D → Gp → Prop
  | refl (G : Gp) (d : D) : Frz G d d G
  | lst {G G' : Gp} {p : Addr} {ds es : List D} (h : G p = some (.lst ds)) (r : FrzL (gdel G p) ds es G') : Frz G (.ref p) (.lst es) G'
inductive FrzL : Gp → List D → List D → Gp → Prop
  | nil (G : Gp) : FrzL G [] [] G
  | cons {G G1 G2 : Gp} {d e : D} {ds es : List D} (h : Frz G d e G1) (r : FrzL G1 ds es G2) : FrzL G (d :: ds) (e :: es) G2
end
section
variable {K : PySem.W.Frag}
mutual
theorem Frz.run : ∀ {G G' : Gp} {d d' : D}, Frz G d d' G' → ∀ {F H : Hp} {v : V}, Cp K F G H → Rep K F d v → ∃ F', Ext K F G H F' G' H ∧ Rep K F' d' v
  | _, _, _, _, .refl G d, F, H, v, c, r => ⟨F, Ext.refl c, r⟩
  | _, _, _, _, .lst (G := G0) (p := p) h q, F, H, v, c, r => by
    cases r
    obtain ⟨hF, vs, hp, rl⟩ := c.own _ _ h
    have x0 := Ext.drop c h
    obtain ⟨F1, x1, r1⟩ := FrzL.run q x0.cp rl
    have gp : gdel G0 p p = none := by unfold gdel; rw [if_pos rfl]
    obtain ⟨h1, g1, f1⟩ := x1.st p _ hp gp hF (fun x z => by cases z)
    have x := x0.trans x1
    have l : Le F1 (upd F1 p (.lst vs)) := Le.new f1
    refine ⟨upd F1 p (.lst vs), ⟨x.le.trans l, fun a o e g f n => ?_, ⟨fun a o e => ?_, fun q o e => ?_⟩⟩, .lst upd_same (r1.mono l)⟩
    · have ha : a ≠ p := fun z => by rw [z, h] at g; cases g
      obtain ⟨e2, g2, f2⟩ := x.st a o e g f n
      exact ⟨e2, g2, by rw [upd_ne ha]; exact f2⟩
    · by_cases ha : a = p
      · subst ha; rw [upd_same] at e; cases e; exact hp
      · rw [upd_ne ha] at e; exact x.cp.frz a o e
    · have hq : q ≠ p := fun z => by rw [z, g1] at e; cases e
      obtain ⟨f, r2⟩ := x.cp.own q o e
      refine ⟨by rw [upd_ne hq]; exact f, r2.keep l rfl fun C dx ds' eo => ?_⟩
      subst eo
      obtain ⟨h1, _, vs', _, z⟩ := r2
      have hdx : dx ≠ p := by
        rintro rfl
        rcases z with ⟨_, _, z⟩ | ⟨_, z⟩ <;> · rw [hp] at z; cases z
      exact ⟨rfl, h1.upd hdx⟩
theorem FrzL.run : ∀ {G G' : Gp} {d d' : List D}, FrzL G d d' G' → ∀ {F H : Hp} {v : List V}, Cp K F G H → RepL K F d v → ∃ F', Ext K F G H F' G' H ∧ RepL K F' d' v
  | _, _, _, _, .nil G, F, H, v, c, r => ⟨F, Ext.refl c, r⟩
  | _, _, _, _, .cons h q, F, H, v, c, r => by
    cases r with
    | cons r rr =>
      obtain ⟨F1, x1, r1⟩ := Frz.run h c r
      obtain ⟨F2, x2, r2⟩ := FrzL.run q x1.cp (rr.mono x1.le)
      exact ⟨F2, x1.trans x2, .cons (r1.mono x2.le) r2⟩
end
theorem ret_deep {Q3 : DK} {d d' : D} {G G1 G' : Gp} (h : Frz G d d' G1) (s : Sub G' G1) (q : Q3 d' G') : Ret K Q3 d G := ⟨d', G', fun F H v c r => by
  obtain ⟨F', x, r'⟩ := h.run c r
  exact ⟨F', x.trans (Ext.sub x.cp s), r'⟩, q⟩
end
/-- a slot's value is looked at as a datum -/
def dGh (i : Nat) (t : TS3) : TS3 := fun D sd G => ∃ d d' G1 G', sd[i]? = some (some d) ∧ Frz G d d' G1 ∧ Sub G' G1 ∧ sput (fun sd' => t D sd' G') (some d') sd i
theorem dss_ghost {X : Cx} {F0 : Pt} {sts : List Stmt} {t : TS3} (i : Nat) (h : DSs X F0 sts t) : DSs X F0 sts (dGh i t) :=
  PSs.imp h fun D σ H ⟨sd, F, G, D3, at_, ⟨d, d', G1, G', e, fr, s, q⟩, k⟩ => by
    obtain ⟨v, ev, r⟩ := at_.rs.at_ i d e
    obtain ⟨F', x, r'⟩ := fr.run at_.cp r
    have x' := x.trans (Ext.sub x.cp s)
    have rs : RepS X.K F' (sd.set i (some d')) σ := by
      have z := (at_.rs.mono x'.le).set i r'
      have es : σ.set i (some v) = σ := by
        refine List.ext_getElem? fun j => ?_
        by_cases hj : j = i
        · subst hj
          rw [List.getElem?_set_self (List.getElem?_eq_some_iff.mp ev).1, ev]
        · rw [List.getElem?_set_ne (Ne.symm hj)]
      rwa [es] at z
    exact ⟨_, F', G', D3, ⟨at_.ext.trans x', rs⟩, sput_set q, k.mono x'⟩
end L3
set_option Elab.async false
set_option linter.all false
set_option maxRecDepth 100000
set_option maxHeartbeats 4000000
namespace L3
open PySem PySem.Spec PyProof.Rows L2 PySem.Calls

/-! ### isinstance(x, C), C an own class -/
structure IsC (K : PySem.W.Frag) (C : Addr) : Prop where
  c : SlX.SCls K C
  i : SlX.SIsi K C
  base : ∀ n : String, n ∈ ["NoneType", "bool", "int", "str", "tuple", "list", "dict"] → PySem.W.kitOne K (.type n) (.ref C) = some false
structure Apart (K : PySem.W.Frag) (C' C : Addr) : Prop where
  c : SlX.SCls K C'
  i : SlX.SIsi K C'
  k : PySem.W.kitOne K (.ref C') (.ref C) = some false
def isiK (K : PySem.W.Frag) (C C' : Addr) (Q : Bool → Prop) : Prop := (C' = C ∧ Q true) ∨ (Apart K C' C ∧ Q false)
def rIsiC (K : PySem.W.Frag) (C : Addr) : List D → Gp → DK → Prop := fun ds G Q => match ds with
  | [x, .ref c] => c = C ∧ match x with
    | .non => Q (.bl false) G
    | .bl _ => Q (.bl false) G
    | .int _ => Q (.bl false) G
    | .str _ => Q (.bl false) G
    | .tup _ => Q (.bl false) G
    | .lst _ => Q (.bl false) G
    | .scr _ => Q (.bl false) G
    | .dic _ => Q (.bl false) G
    | .ins C' _ => isiK K C C' fun b => Q (.bl b) G
    | .ref p => ∃ C' dx ds, G p = some (.sl C' dx ds) ∧ isiK K C C' fun b => Q (.bl b) G
    | _ => False
  | _ => False
def IsiR (K : PySem.W.Frag) (C : Addr) : List V → Hp → VK → Prop := fun xs H Q => rIsi K xs H Q ∨ SlX.rIsiSl K (.ref C) xs H Q
theorem call_isiC {X : Cx} (C : Addr) : CallR X (.builtin "isinstance") (IsiR X.K C) := CallR.or call_isi (SlX.call_isiSl (.ref C))
theorem cd_isiC {K : PySem.W.Frag} {C : Addr} (k : IsC K C) : CallD K (IsiR K C) (rIsiC K C) := by
  intro F G H xs ds Q Q3 c r h kq
  have base : ∀ {d : D} {v : V} {n : String}, tyNm d = some n → n ∈ ["NoneType", "bool", "int", "str", "tuple", "list", "dict"] → Rep K F d v → Q3 (.bl false) G → IsiR K C [v, .ref C] H Q := fun {d v n} hn hm rv q =>
    .inl ⟨v, .ref C, .type n, .ref C, false, rfl, .own C, rep_ty c.frz rv hn, k.base n hm, kq _ _ _ _ _ (Ext.refl c) (.bl false) q⟩
  have own : ∀ {C' : Addr} {a dx : Addr} {vs : List (Option V)}, SlX.Slt H a C' dx vs → isiK K C C' (fun b => Q3 (.bl b) G) → IsiR K C [.ref a, .ref C] H Q := fun {C' a dx vs} sl q => by
    rcases q with ⟨e, q⟩ | ⟨ap, q⟩
    · subst e
      exact .inr ⟨a, _, dx, vs, .ref _, true, rfl, rfl, fun w e => e, sl, k.c, k.i, if_pos (beq_self_eq_true _), kq _ _ _ _ _ (Ext.refl c) (.bl true) q⟩
    · exact .inr ⟨a, C', dx, vs, .ref C, false, rfl, rfl, fun w e => e, sl, ap.c, ap.i, ap.k, kq _ _ _ _ _ (Ext.refl c) (.bl false) q⟩
  unfold rIsiC at h
  split at h
  · rename_i x cc
    obtain ⟨v, u, rfl, rx, ru⟩ := r.inv2
    cases ru
    obtain ⟨rfl, h⟩ := h
    cases x with
    | non => exact base rfl (by decide) rx h
    | bl b => exact base rfl (by decide) rx h
    | int i => exact base rfl (by decide) rx h
    | str s => exact base rfl (by decide) rx h
    | tup ds => exact base rfl (by decide) rx h
    | lst ds => exact base rfl (by decide) rx h
    | scr ds => exact base rfl (by decide) rx h
    | dic ds => exact base rfl (by decide) rx h
    | ins C' ds =>
      cases rx with
      | @ins a _ dx _ vs h1 h2 rl => exact own (.inr ⟨c.frz _ _ h1, c.frz _ _ h2⟩) h
    | ref p =>
      cases rx
      obtain ⟨C', dx, ds, eg, h⟩ := h
      obtain ⟨vs, sl, _⟩ := own_sl c eg
      exact own sl h
    | ty n => exact h.elim
    | obj C fs => exact h.elim
  · exact h.elim

/-! ### str(x), x an instance with an own __str__ -/
section
variable {X : Cx} {CX : CXT} {n : Nat} {C g : Addr} {sp : Sp}
theorem call_strOwn (hs : PySem.W.findIn X.K (.ref C) "__str__" = some (some (.ref g))) (hf : PySem.W.isFn X.K (.ref g) = true) (F : FnR X.prog X.w X.K X.mg X.base (L2.CX X.prog X.w) n g sp) (hr : Room (n + 2) X.A) :
    CallR X (.type "str") (fun xs H Q => ∃ a dx vs, xs = [V.ref a] ∧ SlX.Slt H a C dx vs ∧ sp [.ref a] H (fun z H' => ∃ y, z = .str y ∧ Q z H') fun _ _ _ => False) := by
  intro pins s σ H xs us Q I r h
  obtain ⟨a, dx, vs, rfl, hsl, q⟩ := h
  obtain ⟨u, rfl, ru⟩ := r.one
  cases (show u = Value.ref a from ru)
  obtain ⟨sl, od, _, J, _⟩ := SlX.slt_inst I hsl
  have hr2 : Room n X.A.in1.in1 := (show Room (n + 1) X.A.in1 from Room.in1 hr).in1
  have hx : Passes (L2.CX X.prog X.w) X (fun _ _ _ => False) := fun _ _ _ _ _ _ _ h => (cx_none h).elim
  refine PySem.W.kso_call hr2.units0 I.kIn J hs hf (wpAny_mono (wpAny_call (SlX.run_at (us := [.ref a]) (ws := [.ref a]) F hr2 I.env0.in1.in1 hx I (.cons rfl .nil) q)) (fun w s' z => ?_) fun _ _ x => x)
  obtain ⟨z', H', I', rz, y, ey, qz⟩ := z
  subst ey
  obtain ⟨t, e⟩ := (show ∃ t, w = Value.str y t from rz)
  cases e
  exact ⟨.str y, H', I', ⟨t, rfl⟩, qz⟩
end
section
variable {X : Cx} {K : PySem.W.Frag} {F0 : Pt} {a b e o value : Expr} {es rest : List Expr} {ta tb te tv : TE3} {t tw : TA3} {pos pos' p apos kpos : Pos} {x f m : Str} {C : Addr} {i k j n : Nat} {sp : Sp3} {W : WK}
def rStrO (C : Addr) (sp : Sp3) : List D → Gp → DK → Prop := fun ds G Q => match ds with
  | [.ins C' fs] => C' = C ∧ sp [.ins C' fs] G (fun z G2 => ∃ y, z = .str y ∧ Q z G2) NoE
  | _ => False
theorem de_strO (c : Met3 X.prog X.w X.K X.mg X.base k C "__str__" sp []) (hr : Room j X.A) (hm : X.mg "str" = none) (ha : DA X F0 [e] t) (hk : k + 2 ≤ j := by decide) (hg : Gl X "str" := by rfl)
    (he : starEach [e] X.env = (false, eval e X.env) :: starEach [] X.env := by rfl) (hpl : (backTo pos (starEach [] X.env)).any (·.1) = false := by rfl) : DE X F0 (.Call (.Name "str" p) [e] [] pos) (dCB (rStrO C sp) t) := by
  obtain ⟨g, fd, ps, ds, dvs, hm3, F, hb, hd, rd⟩ := c.ex
  have hz : dvs = [] := (rd (fun _ => none)).inv0
  subst hz
  refine de_callTy (call_strOwn hm3.at_ hm3.fn ((FnOk.raw F hb hd).imp (sp' := dn X.K sp) fun vs H Q E h => by rw [List.append_nil]; exact h) (hr.mono hk)) ?_ hg hm (by decide +kernel) ha (by decide) (by decide) he hpl
  intro F G H xs ds Q Q3 cp r h kq
  unfold rStrO at h
  split at h
  · obtain ⟨v, rfl, rv⟩ := r.inv1
    obtain ⟨ec, h⟩ := h
    subst ec
    cases rv with
    | @ins a _ dx _ vs h1 h2 rl =>
      refine ⟨a, dx, _, rfl, .inr ⟨cp.frz _ _ h1, cp.frz _ _ h2⟩, _, F, G, _, NoE, cp, .one (.ins h1 h2 rl), h, fun d v F' G' H' l r ⟨y, ey, q⟩ => ?_, qx_none⟩
      subst ey
      cases r
      exact ⟨y, rfl, kq _ _ _ _ _ l (.str y) q⟩
  · exact h.elim

/-! ### C.m(..), m a classmethod -/
structure ClsMAt (K : PySem.W.Frag) (C : Addr) (m qual : Str) (st : Stmt) (ps : List Str) : Prop where
  ex : ∃ mc p g fd, ClX.CRead K C mc ∧ ClX.CMet K C mc m p g ∧ Fun K m qual st g fd ∧ Binds K fd ps []
structure CMt3 (P : Program) (w : World) (K : PySem.W.Frag) (mg : Str → Option Value) (base : Heap) (k : Nat) (C : Addr) (m : Str) (sp : Sp3) : Prop where
  ex : ∃ mc p g, ClX.CRead K C mc ∧ ClX.CMet K C mc m p g ∧ FnR P w K mg base (L2.CX P w) k g (dn K sp)
theorem cmt3 {P : Program} {w : World} {mg : Str → Option Value} {base : Heap} {qual : Str} {st : Stmt} {N ps : List Str} (A : ClsMAt K C m qual st ps) (S : FnScope N ps (defScope st)) (hlen : ps.length ≤ N.length) (len : ∀ ds G Q E, sp ds G Q E → ds.length = ps.length) (h : Body P w K mg base k qual st N sp) : CMt3 P w K mg base (k + 1) C m sp := by
  obtain ⟨mc, p, g, fd, r, c, F, b⟩ := A.ex
  exact ⟨mc, p, g, r, c, FnOk.raw0 (fn3 F S hlen len h) b⟩
theorem run_fnRE {CX : CXT} {pins : List (Addr × Obj)} {σ : L2.St} {H : Hp} {s : Shared} {f : Addr} {sp : Sp} {E : XK} {Q : VK} {us : List Value} {vs : List V} (F : FnR X.prog X.w X.K X.mg X.base CX k f sp) (hr : Room k X.A) (hx : PassesAt CX X σ E) (I : Inv X pins σ H s) (r : Vals vs us) (h : sp vs H Q E) :
    codeAny (model X.prog X.w) X.A (.call (.ref f) ⟨us, []⟩) (fun r s' => match r with | .ok (.ret v) => EP X pins σ Q v s' | .ok _ => False | .error e => X.xe e s') s := by
  refine codeAny_mono (F X.A X.stack s H us vs Q E hr I.env0 r h) fun r s' hq => ?_
  cases r with
  | error e => exact hx pins H s e s' I hq
  | ok fl =>
    cases fl with
    | ret u => exact I.after hq
    | next => exact hq.elim
    | brk => exact hq.elim
    | cont => exact hq.elim
def tCMethE (C : Addr) (sp : Sp) (E : L2.St → XK) (ta : TE) (t : TA) : TE := fun σ H Q => ta σ H fun x H1 => x = .ref C ∧ t σ H1 fun vs H2 => sp (.ref C :: vs) H2 Q (E σ)
theorem pe_cmethE {CX : CXT} {g : Addr} {pd : Addr} {mc : Value} {sp : Sp} {E : L2.St → XK} {ta : TE} {t : TA} {pl : Sem Bool} (he : PE X o ta) (r : ClX.CRead X.K C mc) (c : ClX.CMet X.K C mc m pd g) (F : FnR X.prog X.w X.K X.mg X.base CX k g sp) (hr : Room k X.A) (hx : ∀ σ, PassesAt CX X σ (E σ)) (ha : PA X (e :: es) t)
    (hst : starEach (e :: es) X.env = (false, eval e X.env) :: starEach es X.env := by rfl) (hpl : (backTo pos (starEach es X.env)).any (·.1) = false := by rfl)
    (ht : eval (.Call (.Attribute o m apos) (e :: es) [] pos) X.env = (do
      let ov ← eval o X.env
      standAt apos.atName
      let (f, first) ← holding [ov] (getMethod ov m pl)
      callWith pos f first (backTo pos (starEach (e :: es) X.env)) (backToKw pos (keywordEach [] X.env))) := by rfl) :
    PE X (.Call (.Attribute o m apos) (e :: es) [] pos) (tCMethE C sp E ta t) := by
  refine ⟨fun pins s σ H Q I h => ?_⟩
  refine PySem.W.methodCall_KW (pl := pl) (thn (he.run pins s σ H _ I h) fun u s1 ⟨x, H1, I1, rx, ex, q⟩ => ?_) ht
  subst ex
  obtain rfl : u = Value.ref C := rx
  refine ClX.getmethcm_ok I1 r c fun s2 I2 => ?_
  refine ClX.callwith_cm I2 (ClX.base_none I1 (Nat.le_refl _)) c.fi (thn (ha.run pos _ s2 σ H1 _ I2 q) fun us s3 ⟨vs, H2, I3, rv, q2⟩ => ⟨⟨ClX.pin_at I3, I3.kIn⟩, ?_⟩) hst hpl
  exact thn (wpAny_call (PySem.W.method_call (ClX.pin_at I3) (run_fnRE (us := .ref C :: us) (vs := .ref C :: vs) F hr (hx σ) I3 (.cons rfl rv) q2))) fun _ _ y => ClX.unpinE y
def dCMeth (C : Addr) (sp : Sp3) (W : WK) (te : TE3) (t : TA3) : TE3 := fun sd G Q => te sd G fun d G1 => match d with
  | .ref c => c = C ∧ t sd G1 fun xs G2 => sp (.ref C :: xs) G2 Q fun C fs G3 => W C fs sd G3
  | _ => False
theorem de_cmeth {pl : Sem Bool} (c : CMt3 X.prog X.w X.K X.mg X.base k C m sp) (hr : Room j X.A) (tk : Takes X (lowW X.K F0 W)) (ho : DE X F0 o te) (ha : DA X F0 (e :: es) t) (hk : k ≤ j := by decide)
    (hst : starEach (e :: es) X.env = (false, eval e X.env) :: starEach es X.env := by rfl) (hpl : (backTo pos (starEach es X.env)).any (·.1) = false := by rfl)
    (ht : eval (.Call (.Attribute o m apos) (e :: es) [] pos) X.env = (do
      let ov ← eval o X.env
      standAt apos.atName
      let (f, first) ← holding [ov] (getMethod ov m pl)
      callWith pos f first (backTo pos (starEach (e :: es) X.env)) (backToKw pos (keywordEach [] X.env))) := by rfl) :
    DE X F0 (.Call (.Attribute o m apos) (e :: es) [] pos) (dCMeth C sp W te t) := by
  obtain ⟨mc, pd, g, r, cm, F⟩ := c.ex
  refine PE.imp (pe_cmethE (E := fun σ cls d H => lowW X.K F0 W cls d σ H) ho r cm F (hr.mono hk) (fun σ => passAt tk σ) ha hst hpl ht) fun σ H Q ⟨sd, F, G, Q3, at_, h, kq⟩ => ⟨sd, F, G, _, at_, h, fun d v F1 G1 H1 l1 r1 q1 => ?_⟩
  cases d <;> first | exact q1.elim | skip
  cases r1
  obtain ⟨rfl, q1⟩ := q1
  exact ⟨rfl, sd, F1, G1, _, at_.step l1, q1, fun xs us F2 G2 H2 l2 r2 q2 => ⟨_, F2, G2, Q3, _, l2.cp, .cons (.ref _) r2, q2, kq.mono (l1.trans l2), low_w ((at_.step l1).step l2)⟩⟩

/-! ### try, where nothing is raised -/
theorem ds_try0 {body : List Stmt} {h₀ : ExceptHandler} {hs : List ExceptHandler} {ts : TS3} (hb : DSs X.nox F0 body ts) : DS X F0 (.Try body (h₀ :: hs) [] [] pos) ts := ps_try_thru0 hb
end

/-! ### defs with a default -/
section
variable {P : Program} {w : World} {K : PySem.W.Frag} {mg : Str → Option Value} {base : Heap} {x : Str} {st : Stmt} {N ps : List Str} {k : Nat} {sp : Sp3} {dvs : List V} {dds : List D}
structure DefAtD (K : PySem.W.Frag) (mg : Str → Option Value) (x : Str) (st : Stmt) (dvs : List V) : Prop where
  ex : ∃ f fd, FunD K x x (defArgs st) (defBody st) (defScope st) dvs [] f fd ∧ mg x = some (.ref f)
theorem fn3D {f : Addr} {fd : FuncData} (F : FunD K x x (defArgs st) (defBody st) (defScope st) dvs [] f fd) (S : FnScope N ps (defScope st)) (hlen : ps.length ≤ N.length) (len : ∀ ds G Q E, sp ds G Q E → ds.length = ps.length) (h : Body P w K mg base k x st N sp) : FnOk P w K mg base (L2.CX P w) (k + 1) f fd ps (dn K sp) := by
  refine FunD.ok F S (fun vs H Q E ⟨ds, F, G, Q3, E3, _, r, h, _⟩ => by rw [← r.length]; exact len _ _ _ _ h) fun cdv A outer s H vs Q E hr hh => ?_
  obtain ⟨ds, F, G, Q3, E3, c, r, hh, k1, k2⟩ := hh
  have tk : Takes (cxOf (L2.CX P w) P w K mg base N x (defScope st) f cdv A outer s H E) (lowW K ⟨F, G, H⟩ fun C fs _ G => E3 C fs G) := by
    refine Takes.imp (takes_of (E := E) rfl rfl rfl rfl) fun cls d σ H' ⟨sd, F', G', C, fs, at_, e, xr, q⟩ => ?_
    subst e
    exact k2 C fs d F' G' H' at_.ext xr q
  obtain ⟨t, ht, hq⟩ := h f cdv A outer s H E ⟨F, G, H⟩ E3 hr tk (passes_of rfl)
  refine ⟨_, ht, start3 N.length ds, F, G, _, ⟨Ext.refl c, repS_start r (by rw [len _ _ _ _ hh]; exact hlen)⟩, hq ds G Q3 hh, ?_⟩
  have kr : QR K F G H (Ret K Q3) Q := fun d v F' G' H' l rv ⟨d', G2, g, q⟩ => by
    obtain ⟨F2, l2, r2⟩ := g F' H' v l.cp rv
    exact k1 d' v F2 G2 H' (l.trans l2) r2 q
  exact ⟨fun sd σ F' G' H' l _ q => kr _ _ _ _ _ l .non q, kr, fun _ _ _ _ _ _ _ q => q.elim, fun _ _ _ _ _ _ _ q => q.elim⟩
/-- the promise of such a def, called with n arguments -/
theorem cal3D (A : DefAtD K mg x st dvs) (S : FnScope N ps (defScope st)) (hlen : ps.length ≤ N.length) (len : ∀ ds G Q E, sp ds G Q E → ds.length = ps.length) (h : Body P w K mg base k x st N sp) (n j : Nat) (hd : dvs ≠ []) (hn : n + (dvs.length - j) = ps.length) (rd : ∀ F, RepL K F dds (dvs.drop j))
    (hb : ∀ (T : Addr) (kV doc pm : Value) (an : Option Addr) (cdv ct : Value) (us its : List Value), us.length = n → its.length = dvs.length →
      ∃ k, bindArgs (PySem.W.fnOf x x (defArgs st) (defBody st) (defScope st) (.ref T) kV doc pm an cdv ct) ⟨us, []⟩ = seqItems? (.ref T) >>= k ∧ k (some its.toArray) = pure (ps.zip (us ++ its.drop j))) : Cal3 P w K mg base (k + 1) x sp dds := by
  obtain ⟨f, fd, F, m⟩ := A.ex
  obtain ⟨ds, v, b⟩ := FunD.binds1 F n j hd hn hb
  exact ⟨f, fd, ps, ds, dvs.drop j, fn3D F S hlen len h, m, F.kp, b, v, rd⟩
end
end L3
set_option Elab.async false
set_option linter.all false
set_option maxRecDepth 100000
set_option maxHeartbeats 4000000
namespace L3
open PySem PySem.Spec PyProof.Rows L2 PySem.Calls

/-! ### comprehensions, by what they yield -/
section
variable {α : Type} {g : TG3} {tt : TT3} {te : TE3} {sw : St3} {e : α → D}
theorem lc_map (f : α → D) {G : Gp} : ∀ (xs : List α) {K : List D → Gp → Prop}, (∀ a ∈ xs, ∀ K' : DK, K' (f a) G → g (e a) sw G fun sd2 G2 => te sd2 G2 K') → K (xs.map f) G → lcL g dYes te sw (xs.map e) G K
  | [], _, _, k => by rw [List.map_nil, lcL_nil]; exact k
  | a :: xs, K, h, k => by rw [List.map_cons, lcL_cons]; exact h a List.mem_cons_self _ (lc_map f xs (fun b hb => h b (List.mem_cons_of_mem _ hb)) k)
/-- what is yielded is not known, only R of it -/
theorem lc_rel (R : α → D → Prop) {G : Gp} : ∀ (xs : List α) {K : List D → Gp → Prop}, (∀ a ∈ xs, ∀ K' : DK, (∀ y, R a y → K' y G) → g (e a) sw G fun sd2 G2 => te sd2 G2 K') → (∀ ys, Paired R xs ys → K ys G) → lcL g dYes te sw (xs.map e) G K
  | [], _, _, k => by rw [List.map_nil, lcL_nil]; exact k [] .nil
  | a :: xs, K, h, k => by rw [List.map_cons, lcL_cons]; exact h a List.mem_cons_self _ fun y hy => lc_rel R xs (fun b hb => h b (List.mem_cons_of_mem _ hb)) fun ys hys => k _ (.cons hy hys)
theorem lc_filter (p : α → Bool) (f : α → D) {G : Gp} : ∀ (xs : List α) {K : List D → Gp → Prop}, (∀ a ∈ xs, ∀ (K1 : DK) (K2 : Gp → Prop), (p a = true → K1 (f a) G) → (p a = false → K2 G) → g (e a) sw G fun sd2 G2 => tt sd2 G2 fun b G3 => br b (te sd2 G3 K1) (K2 G3)) →
    K ((xs.filter p).map f) G → lcL g tt te sw (xs.map e) G K
  | [], _, _, k => by rw [List.map_nil, lcL_nil]; exact k
  | a :: xs, K, h, k => by
    rw [List.map_cons, lcL_cons]
    refine h a List.mem_cons_self _ _ (fun hp => ?_) fun hp => ?_
    · refine lc_filter p f xs (fun b hb => h b (List.mem_cons_of_mem _ hb)) ?_
      rw [List.filter_cons_of_pos hp] at k
      exact k
    · refine lc_filter p f xs (fun b hb => h b (List.mem_cons_of_mem _ hb)) ?_
      rw [List.filter_cons_of_neg (by rw [hp]; exact Bool.false_ne_true)] at k
      exact k
end
/-! ### for, by what holds at each turn -/
theorem for_inv {α : Type} {e : α → D} {g : TG3} {tb : TS3} {Z : Ends3} (I : List α → St3 → Gp → Prop) (hd : ∀ sd G, I [] sd G → Z.nx sd G)
    (hs : ∀ x xs sd G, I (x :: xs) sd G → ∀ N : St3 → Gp → Prop, (∀ sd' G', I xs sd' G' → N sd' G') → g (e x) sd G fun sd' G' => tb { Z with nx := N, ct := N, bk := Z.nx } sd' G') : ∀ (xs : List α) (sd : St3) (G : Gp), I xs sd G → forL g tb Z (xs.map e) sd G
  | [], sd, G, h => by rw [List.map_nil, forL_nil]; exact hd sd G h
  | x :: xs, sd, G, h => by rw [List.map_cons, forL_cons]; exact hs x xs sd G h _ fun sd' G' h' => for_inv I hd hs xs sd' G' h'

/-! ### a list of which something is known is opened -/
def dOpen (i : Nat) (t : TS3) : TS3 := fun D sd G => ∃ p f, sd[i]? = some (some (.ref p)) ∧ G p = some (.lsts f) ∧ ∀ ds, f ds → t D sd (gupd G p (.lst ds))
theorem Ext.open_ {K : PySem.W.Frag} {F H : Hp} {G : Gp} {p : Addr} {f : List D → Prop} (c : Cp K F G H) (h : G p = some (.lsts f)) : ∃ ds, f ds ∧ Ext K F G H F (gupd G p (.lst ds)) H := by
  obtain ⟨hF, ds, vs, hf, hp, rl⟩ := c.own p _ h
  refine ⟨ds, hf, Le.refl _, fun a o e g f _ => ?_, c.frz, fun q o e => ?_⟩
  · have ha : a ≠ p := fun z => by rw [z, h] at g; cases g
    exact ⟨e, by rw [gupd_ne ha]; exact g, f⟩
  · by_cases hq : q = p
    · subst hq
      rw [gupd_same] at e
      cases e
      exact ⟨hF, vs, hp, rl⟩
    · rw [gupd_ne hq] at e
      exact c.own q o e
theorem dss_open {X : Cx} {F0 : Pt} {sts : List Stmt} {t : TS3} (i : Nat) (h : DSs X F0 sts t) : DSs X F0 sts (dOpen i t) :=
  PSs.imp h fun D σ H ⟨sd, F, G, D3, at_, ⟨p, f, e, eg, q⟩, k⟩ => by
    obtain ⟨ds, hf, x⟩ := Ext.open_ at_.cp eg
    exact ⟨sd, F, _, D3, at_.step x, q ds hf, k.mono x⟩
/-- .. and closed again, where a value is handed back -/
theorem ret_close {K : PySem.W.Frag} {Q3 : DK} {d : D} {G G' : Gp} {p : Addr} {ds : List D} {f : List D → Prop} (h : G' p = some (.lsts f)) (hG : G = gupd G' p (.lst ds)) (hf : f ds) (q : Q3 d G') : Ret K Q3 d G := by
  subst hG
  refine ret_sub (fun q o e => ?_) q
  by_cases hq : q = p
  · subst hq
    rw [h] at e
    cases e
    exact ⟨.lst ds, gupd_same, .cl hf⟩
  · exact ⟨o, by rw [gupd_ne hq]; exact e, .refl o⟩
theorem gupd_twice {G : Gp} {a : Addr} {o u : DO} : gupd (gupd G a o) a u = gupd G a u := gupd_gupd
theorem len6 {f : D → D → D → D → D → D → Gp → DK → EK → Prop} : ∀ ds G Q E, sp6 f ds G Q E → ds.length = 6 := fun ds G Q E h => by unfold sp6 at h; split at h <;> first | rfl | exact h.elim
theorem in6 {f : D → D → D → D → D → D → Gp → DK → EK → Prop} {ds G Q E} (h : sp6 f ds G Q E) : ∃ a b c d e g, ds = [a, b, c, d, e, g] ∧ f a b c d e g G Q E := by unfold sp6 at h; split at h <;> first | exact ⟨_, _, _, _, _, _, rfl, h⟩ | exact h.elim
theorem br_true {b : Bool} {A B : Prop} (h : b = true) (a : A) : br b A B := by subst h; exact a
theorem br_false {b : Bool} {A B : Prop} (h : b = false) (a : B) : br b A B := by subst h; exact a
theorem br_cases {b : Bool} {A B : Prop} (ht : b = true → A) (hf : b = false → B) : br b A B := by cases b; exact hf rfl; exact ht rfl
/-! ### texts -/
theorem signs_len (x : Str) : (signs x).length = x.length := by unfold signs; rw [List.length_map, Array.length_toList]; rfl
theorem S_length (x : Str) : x.length = x.cps.toList.length := by show x.cps.size = _; simp
theorem in_one {z : Str} {c : Nat} : (!(Builtin.Str.occurrences z ⟨#[c]⟩ 0 z.length 1).isEmpty) = decide (c ∈ z.cps.toList) := PySem.StrLaws.found_one z c
/-! ### repr of flat things -/
def flatP (m : Nat) (p : PyData) : Prop := p.showable = true ∧ p.hasDict = false ∧ p.depth = 0 ∧ p.shown.length ≤ m
theorem flat_show {m : Nat} : ∀ {ps : List PyData}, (∀ p ∈ ps, flatP m p) → PyData.showableAll ps = true ∧ PyData.hasDictAll ps = false ∧ PyData.depthAll ps = 0 ∧ ((PyData.shownAll ps).map (·.length)).sum ≤ m * ps.length ∧ (PyData.shownAll ps).length = ps.length
  | [], _ => ⟨rfl, rfl, rfl, Nat.le_refl _, rfl⟩
  | p :: ps, h => by
    obtain ⟨a, b, c, d⟩ := h p List.mem_cons_self
    obtain ⟨a2, b2, c2, d2, e2⟩ := flat_show fun q hq => h q (List.mem_cons_of_mem _ hq)
    refine ⟨?_, ?_, ?_, ?_, ?_⟩
    · unfold PyData.showableAll; rw [a, a2]; rfl
    · unfold PyData.hasDictAll; rw [b, b2]; rfl
    · unfold PyData.depthAll; rw [c, c2]; rfl
    · unfold PyData.shownAll
      rw [List.map_cons, List.sum_cons, List.length_cons, Nat.mul_add]
      omega
    · unfold PyData.shownAll
      rw [List.length_cons, List.length_cons, e2]
/-- what repr asks of a datum -/
def RepOk (x : D) (d : PyData) : Prop := toData x = some d ∧ d.showable = true ∧ d.hasDict = false ∧ d.depth ≤ 60 ∧ d.shown.length ≤ sizeLine
theorem rep_tup {ds : List D} {ps : List PyData} {m : Nat} (h : toDataL ds = some ps) (f : ∀ p ∈ ps, flatP m p) (hm : m * ps.length + 2 * ps.length + 3 ≤ sizeLine) : RepOk (.tup ds) (.tuple ps) := by
  obtain ⟨a, b, c, d, e⟩ := flat_show f
  refine ⟨by unfold toData; rw [h]; rfl, by unfold PyData.showable; exact a, by unfold PyData.hasDict; exact b, by unfold PyData.depth; rw [c]; decide, ?_⟩
  unfold PyData.shown
  have := tupleText_len_le (PyData.shownAll ps)
  rw [e] at this
  omega
theorem rep_lst {ds : List D} {ps : List PyData} {m : Nat} (h : toDataL ds = some ps) (f : ∀ p ∈ ps, flatP m p) (hm : m * ps.length + 2 * ps.length + 3 ≤ sizeLine) : RepOk (.lst ds) (.list ps) := by
  obtain ⟨a, b, c, d, e⟩ := flat_show f
  refine ⟨by unfold toData; rw [h]; rfl, by unfold PyData.showable; exact a, by unfold PyData.hasDict; exact b, by unfold PyData.depth; rw [c]; decide, ?_⟩
  unfold PyData.shown
  have := listText_len_le (PyData.shownAll ps)
  rw [e] at this
  omega
theorem toDataL_map {α : Type} (f : α → D) (g : α → PyData) (h : ∀ a, toData (f a) = some (g a)) : ∀ xs : List α, toDataL (xs.map f) = some (xs.map g)
  | [] => rfl
  | x :: xs => by
    show toDataL (f x :: xs.map f) = _
    unfold toDataL
    rw [h x, toDataL_map f g h xs]
    rfl
theorem flat_bool (b : Bool) : flatP 5 (.bool b) := ⟨rfl, rfl, rfl, by cases b <;> decide⟩
theorem flat_int {i : Int} {k : Nat} (hk : 0 < k) (h : i.natAbs < 10 ^ k) (hz : i.natAbs.log2 < 1920) : flatP (k + 1) (.int i) := ⟨decide_eq_true hz, rfl, rfl, by
  show (Str.ofString (toString i)).length ≤ _
  rw [PySem.ofString_length]
  exact int_text_length_le10 hk h⟩
theorem rep_bl (b : Bool) : RepOk (.bl b) (.bool b) := ⟨rfl, rfl, rfl, by show 0 ≤ 60; decide, by cases b <;> decide⟩
end L3
set_option Elab.async false
set_option linter.all false
set_option maxRecDepth 100000
set_option maxHeartbeats 4000000
namespace L3
open PySem PySem.Spec PyProof.Rows L2 PySem.Calls

/-! ### the end: the law's def, called where no guard stands -/
section
variable {P : Program} {w : World} {K : PySem.W.Frag} {mg mb : Str → Option Value} {CX : CXT} {k : Nat} {fa a : Addr} {fd : FuncData} {x : Str} {sp : Sp} {s₁ : Shared} {vs : List Value} {ns : List Int}
/-- the script as it is tracked: what H knows is the list at a, or nothing -/
structure ScriptIn (K : PySem.W.Frag) (H : Hp) (h : Heap) (a : Addr) (vs : List Value) (ns : List Int) : Prop where
  only : Only H
  sq : SqL K H a (ns.map V.int)
  at_ : ∀ b, H b ≠ none → b = a
  away : H a ≠ none → K.lookup a = none
  frz : ∀ b u, H b = some u → b = a ∧ u = .frz { cls := .type "list", data := .seq vs.toArray } (.lst (ns.map V.int))
theorem law_callG (KX : K.In s₁.heap) (hns : s₁.heap.Ns mainGlobals mg) (hb : s₁.heap.Ns builtinsNs mb) (hbb : ∀ x : Str, x ≠ "__name__" → mb x = bootBuiltins x) (hlim : s₁.heap.NoLimit) (hg : s₁.gens = #[])
    (ha : s₁.heap.get? a = some { cls := .type "list", data := .seq vs.toArray }) (hi : IntsAre vs ns) (hl : ns.length ≤ sizeLine) (hr : Room k callerA)
    (F : ∀ base : Heap, K.In base → base.Ns mainGlobals mg → FnG P w K mg base CX k fa fd [x] sp) (hbind : ∀ (s : Shared) (u : Value), BindsTo s fd ⟨[u], []⟩ [(x, u)])
    (hsp : ∀ H : Hp, Only H → SqL K H a (ns.map V.int) → sp [.ref a] H (fun v _ => v = .bl true) fun _ _ _ => False)
    (hCX : ∀ H e s', CX [] H s₁ (fun _ _ _ => False) e s' → False) :
    codeAny (model P w) callerA (.call (.ref fa) ⟨[.ref a], []⟩) (fun r s' => r = .ok (.ret (.bool true)) ∧ OldK s₁.heap s'.heap ∧ s'.os = s₁.os ∧ AllBare s'.gens) s₁ := by
  have rv := vals_ints hi
  have lenV := hi.length
  have run : ∀ H : Hp, ScriptIn K H s₁.heap a vs ns → codeAny (model P w) callerA (.call (.ref fa) ⟨[.ref a], []⟩) (fun r s' => r = .ok (.ret (.bool true)) ∧ OldK s₁.heap s'.heap ∧ s'.os = s₁.os ∧ AllBare s'.gens) s₁ := by
    intro H S
    have hok : HOk P w H s₁.heap := fun b u e => by
      obtain ⟨rfl, rfl⟩ := S.frz b u e
      exact ⟨ha, by rw [List.length_map]; exact hl, vs, _, rv, ha⟩
    have free : ∀ {b : Addr}, b ≠ a → H b = none := fun {b} hne => by
      cases e : H b with
      | none => rfl
      | some u => exact absurd (S.at_ b (by rw [e]; simp)) hne
    have ofNs : ∀ {b : Addr} {m : Str → Option Value}, s₁.heap.Ns b m → (hidT s₁.heap H).Ns b m := fun {b m} ⟨o, es, ep, e, d, r⟩ => ⟨o, es, ep, hidT_get e (free fun z => by
      subst z
      rw [ha] at e
      cases e
      have d' : Data.seq vs.toArray _ = Data.dict es ep := d
      cases d'), d, r⟩
    have ofK : K.In (hidT s₁.heap H) := fun b o e => hidT_get (KX b o e) (by
      cases q : H b with
      | none => rfl
      | some u =>
        have z := S.at_ b (by rw [q]; simp)
        subst z
        rw [S.away (by rw [q]; simp)] at e
        cases e)
    have md : Mod K mg (hidT s₁.heap H) := ⟨ofK, ofNs hns, ⟨mb, ofNs hb, hbb⟩, let ⟨mc, h1, h2⟩ := hlim; ⟨mc, ofNs h1, h2⟩⟩
    have e0 : Env0 P w K mg (hidT s₁.heap H) callerA [] s₁ H := ⟨rfl, md, fun b o e => of_hidT e, Nat.le_of_eq (hidT_size _ _), trivial, (fun b hb => absurd (show b ∈ ([] : List Addr) from hb) (by simp)), hok, .of_eq hg⟩
    refine codeAny_mono ((F _ ofK (ofNs hns)).run callerA [] s₁ H ⟨[.ref a], []⟩ [.ref a] [.ref a] _ _ rfl hr e0 (hbind s₁ (.ref a)) (.cons rfl .nil) (hsp H S.only S.sq)) fun r s' h => ?_
    cases r with
    | error e => exact (hCX H e s' h).elim
    | ok fl =>
      cases fl with
      | next => exact h.elim
      | brk => exact h.elim
      | cont => exact h.elim
      | ret u =>
        obtain ⟨v, H', os, bare, un, hok', r', q⟩ := h
        obtain rfl : v = .bl true := q
        obtain rfl : u = Value.bool true := r'
        refine ⟨rfl, OldK.of_keep fun b o e => ?_, os, bare⟩
        cases q : H b with
        | none => exact un.keep b o e q (by intro z; exact absurd (show b ∈ ([] : List Addr) from z) (by simp)) (by simp)
        | some u =>
          obtain ⟨rfl, rfl⟩ := S.frz b u q
          obtain ⟨e1, _⟩ := hok b _ q
          obtain ⟨e2, _⟩ := hok' b _ (un.frzs b _ _ q)
          rw [e] at e1
          cases e1
          exact e2
  cases hk : K.lookup a with
  | some o =>
    have e := KX a o hk
    rw [ha] at e
    cases e
    exact run (fun _ => none) ⟨fun _ => .inl rfl, .inr ⟨_, vs.toArray, _, hk, rfl, rfl, rfl, by rw [List.size_toArray, lenV]; exact hl, by simpa using rv⟩, fun b z => absurd rfl z, fun z => absurd rfl z, fun b u z => nomatch (show (none : Option HO) = some u from z)⟩
  | none =>
    refine run (fun b => if b = a then some (.frz { cls := .type "list", data := .seq vs.toArray } (.lst (ns.map V.int))) else none) ⟨fun b => ?_, .inl (.inr ⟨{ cls := .type "list", data := .seq vs.toArray }, if_pos rfl⟩), fun b z => ?_, fun _ => hk, fun b u z => ?_⟩
    · by_cases hb : b = a
      · exact .inr ⟨_, _, if_pos hb⟩
      · exact .inl (if_neg hb)
    · by_cases hb : b = a
      · exact hb
      · exact absurd (if_neg hb) z
    · by_cases hb : b = a
      · have z' := (if_pos hb).symm.trans z
        cases z'
        exact ⟨hb, rfl⟩
      · have z' := (if_neg hb).symm.trans z
        cases z'
end
theorem walk_ofG {l : PySem.W.OpenLaw} {n k : Nat} {q : Program} {loose : List Str} {XP : (Str → Option Value) → Heap → Prop} {YP : World → Heap → Prop} {d : DefRec} {x : Str}
    (hn : l.most = some n) (hn2 : n ≤ sizeLine) (hdf : d.params.defaults = []) (hr : Room k callerA)
    (F : ∀ (w : World) (mg : Str → Option Value) (fa : Addr) (h : Heap), YP w h → h.Ns mainGlobals mg → mg d.name = some (.ref fa) →
      ∃ (K : PySem.W.Frag) (fd : FuncData) (sp : Sp3), K.In h ∧ (∀ (s : Shared) (u : Value), BindsTo s fd ⟨[u], []⟩ [(x, u)]) ∧
        (∀ (ns : List Int) (G : Gp) (Q : DK), ns.length ≤ n → (∀ z ∈ ns, Builtin.Int.intBits z ≤ 1048576) → Q (.bl true) G → sp [.scr (ns.map D.int)] G Q NoE) ∧
        ∀ base : Heap, K.In base → base.Ns mainGlobals mg → FnG l.prog w K mg base (L2.CX l.prog w) k fa fd [x] (dn K sp)) :
    PySem.W.WalkO q loose XP YP l.row.toRowW d [] (fun f vs => PySem.call f vs) := by
  refine Att.attach_callB hn hdf fun w s₀ s₁ mg mb fa o pm cd doc a vs ns G Y ho hd hcd hmg hobj hints hlen hbits hg => ?_
  obtain ⟨K, fd, sp, KX, hb, hsp, hF⟩ := F w mg fa _ Y G.T.g hmg
  refine law_callG KX G.T.g G.T.b G.T.builtins G.T.nolimit hg hobj hints (Nat.le_trans hlen hn2) hr hF hb (fun H hO hS => ?_) fun H e s' h => cx_none h
  have c : Cp K H (fun _ => none) H := ⟨fun _ _ e => e, fun _ _ e => nomatch e⟩
  have r : RepL K H (ns.map D.int) (ns.map V.int) := by
    have gen : ∀ xs : List Int, RepL K H (xs.map D.int) (xs.map V.int) := fun xs => by
      induction xs with
      | nil => exact .nil
      | cons x xs ih => exact .cons (.int x) ih
    exact gen ns
  refine ⟨[.scr (ns.map D.int)], H, fun _ => none, fun d _ => d = .bl true, NoE, c, .one (.scr hS r), hsp ns _ _ hlen hbits rfl, fun d v F' G' H' l r e => ?_, qx_none⟩
  subst e
  cases r
  rfl

theorem fnG3 {P : Program} {w : World} {K : PySem.W.Frag} {mg : Str → Option Value} {base : Heap} {x : Str} {st : Stmt} {N : List Str} {k : Nat} {ps : List Str} {sp : Sp3} {f : Addr} {fd : FuncData} (F : Fun K x x st f fd) (S : FnScope N ps (defScope st)) (hlen : ps.length ≤ N.length) (len : ∀ ds G Q E, sp ds G Q E → ds.length = ps.length)
    (hbody : ∀ (f : Addr) (cdv : Value) (A : Around) (outer : List Env) (s : Shared) (H : Hp) (E : XK) (o : Pt) (E3 : EK), A.guards = some [] → Room k (A.deeper (envOfC x (defScope st) s.heap.objs.size f cdv)) →
      Takes (cxOf (L2.CX P w) P w K mg base N x (defScope st) f cdv A outer s H E) (lowW K o fun C fs _ G => E3 C fs G) →
      PassesOwn (model P w) (A.deeper (envOfC x (defScope st) s.heap.objs.size f cdv)) (envOfC x (defScope st) s.heap.objs.size f cdv) (cxOf (L2.CX P w) P w K mg base N x (defScope st) f cdv A outer s H E).xe →
      ∃ t : TS3, DSs (cxOf (L2.CX P w) P w K mg base N x (defScope st) f cdv A outer s H E) o (defBody st) t ∧
        ∀ ds G Q3, sp ds G Q3 E3 → t { nx := fun _ G' => Ret K Q3 .non G', rt := Ret K Q3 } (start3 N.length ds) G) : FnG P w K mg base (L2.CX P w) (k + 1) f fd ps (dn K sp) :=
  ok3G F S hlen len fun cdv A outer s H E o E3 hgu hr tk => hbody f cdv A outer s H E o E3 hgu hr tk (passes_of rfl)
/-! ### the head's facts -/
section
open He He5
variable {K : PySem.W.Frag} {C C' : Addr} {f m : Str} {i : Nat}
theorem scls_of (h : sclsB K C = true) : SlX.SCls K C := by
  obtain ⟨h1, h⟩ := ba h
  obtain ⟨h2, h⟩ := ba h
  obtain ⟨h3, h4⟩ := ba h
  exact ⟨h1, h2, h3, eqO_ok h4⟩
theorem sisi_of (h : sisiB K C = true) : SlX.SIsi K C := by
  obtain ⟨h1, h⟩ := ba h
  obtain ⟨h2, h⟩ := ba h
  obtain ⟨h3, h4⟩ := ba h
  exact ⟨eqO_ok h1, eqO_ok h2, of_decide_eq_true h3, of_decide_eq_true h4⟩
theorem is_of (h : isB K C = true) : IsC K C := by
  obtain ⟨h1, h⟩ := ba h
  obtain ⟨h2, h3⟩ := ba h
  exact ⟨scls_of h1, sisi_of h2, fun n hn => of_decide_eq_true (List.all_eq_true.mp h3 n hn)⟩
theorem ap_of (h : apB K C' C = true) : Apart K C' C := by
  obtain ⟨h1, h⟩ := ba h
  obtain ⟨h2, h3⟩ := ba h
  exact ⟨scls_of h1, sisi_of h2, of_decide_eq_true h3⟩
theorem sl_of (h : slB K C f i = true) : Sl1 K C f i := by
  obtain ⟨h1, h⟩ := ba h
  obtain ⟨h2, h⟩ := ba h
  obtain ⟨h3, h⟩ := ba h
  obtain ⟨h4, h⟩ := ba h
  obtain ⟨h5, h⟩ := ba h
  obtain ⟨h6, h7⟩ := ba h
  exact ⟨scls_of h1, _, eqO_ok h2, eqO_ok h3, of_decide_eq_true h4, of_decide_eq_true h5, of_decide_eq_true h6, of_decide_eq_true h7⟩
theorem mk_of' (h : mkB K C = true) : Mk K C (ma K C "__init__") := by
  obtain ⟨h1, h⟩ := ba h
  obtain ⟨h2, h⟩ := ba h
  obtain ⟨h3, h4⟩ := ba h
  exact ⟨h1, eqO_ok h2, h3, h4⟩
theorem me_of (h : meB K C m = true) : Meth K C m (ma K C m) := by
  obtain ⟨h1, h⟩ := ba h
  obtain ⟨h2, h3⟩ := ba h
  exact ⟨eqO_ok h1, h2, h3⟩
theorem pr_of (h : prB K C f = true) : PySem.W.findIn K (.ref C) f = some (some (.ref (ma K C f))) ∧ PySem.W.specialIn K (.ref (ma K C f)) "__get__" = some (some (.builtin "property.__get__")) ∧ PySem.W.takesIn K (.ref (ma K C f)) = some true ∧ ∃ rest, PySem.W.recIn K (ma K C f) "property" = some (.ref (wf K C "property" f) :: rest) := by
  obtain ⟨h1, h⟩ := ba h
  obtain ⟨h2, h⟩ := ba h
  obtain ⟨h3, h4⟩ := ba h
  refine ⟨eqO_ok h1, eqO_ok h2, of_decide_eq_true h3, ?_⟩
  unfold wf
  split at h4
  · rename_i g rest e
    rw [e]
    exact ⟨rest, rfl⟩
  · cases h4
theorem cm_of (h : cmB K C m = true) : ClX.CRead K C (.type "type") ∧ ClX.CMet K C (.type "type") m (ma K C m) (wf K C "classmethod" m) := by
  obtain ⟨h1, h⟩ := ba h
  obtain ⟨h2, h⟩ := ba h
  obtain ⟨h3, h4⟩ := ba h
  exact ⟨⟨h3, eqO_ok h4⟩, cmet_of h1 h2⟩
variable {fa : List Fa} {fn : List DefA} {ex : PySem.W.Frag → Bool}
theorem SaysM.all (c : SaysM fa fn ex K) : (∀ f ∈ fa, f.ok K = true) ∧ (∀ d ∈ fn, d.ok K = true) ∧ ex K = true ∧ ∀ d ∈ fn, fnA K (d.at_ K) = d.val := by
  have c1 : ((fa.all fun f => f.ok K) && ((fn.all fun d => d.ok K) && ex K)) = true := congrArg (fun z : AlD => z.1) c
  have c2 : fn.map (fun d => fnA K (d.at_ K)) = fn.map DefA.val := congrArg (fun z : AlD => z.2) c
  obtain ⟨h1, h⟩ := ba c1
  obtain ⟨h2, h3⟩ := ba h
  refine ⟨fun f hf => List.all_eq_true.mp h1 f hf, fun d hd => List.all_eq_true.mp h2 d hd, h3, fun d hd => ?_⟩
  exact List.map_inj_left.mp c2 d hd
theorem SaysM.def_ (c : SaysM fa fn ex K) {d : DefA} (h : d ∈ fn) : ∃ fd, FunD K d.name d.qual d.params d.body d.scope (d.dvs K) (d.kws K) (d.at_ K) fd := by
  obtain ⟨_, h2, _, h4⟩ := c.all
  exact DefA.funD (h4 d h) (h2 d h)
theorem SaysM.fun_ (c : SaysM fa fn ex K) {at_ : PySem.W.Frag → Addr} {name qual : Str} {st : Stmt} (h : dfA at_ name qual st ∈ fn) : ∃ fd, Fun K name qual st (at_ K) fd := by
  obtain ⟨fd, F⟩ := c.def_ h
  exact ⟨fd, fun_of F⟩
end
end L3
set_option Elab.async false
set_option linter.all false
set_option maxRecDepth 100000
set_option maxHeartbeats 4000000
namespace L3
open PySem PySem.Spec PyProof.Rows L2 PySem.Calls
/-! ### is, is not of bools -/
section
variable {K : PySem.W.Frag}
def rIsB3 : R3 := fun x y G Q => match x, y with
  | .bl a, .bl b => Q (.bl (decide (a = b))) G
  | _, _ => False
def rNotB3 : R3 := fun x y G Q => match x, y with
  | .bl a, .bl b => Q (.bl (!decide (a = b))) G
  | _, _ => False
theorem dc_isB : OpD K rIsB rIsB3 := by
  intro F G H x y dx dy Q Q3 c rx ry h k
  cases dx <;> first | exact h.elim | skip
  cases dy <;> first | exact h.elim | skip
  cases rx
  cases ry
  exact ⟨_, _, rfl, rfl, k _ _ _ _ _ (Ext.refl c) (.bl _) h⟩
theorem dc_notB : OpD K rNotB rNotB3 := by
  intro F G H x y dx dy Q Q3 c rx ry h k
  cases dx <;> first | exact h.elim | skip
  cases dy <;> first | exact h.elim | skip
  cases rx
  cases ry
  exact ⟨_, _, rfl, rfl, k _ _ _ _ _ (Ext.refl c) (.bl _) h⟩
end
end L3
set_option Elab.async false
set_option linter.all false
set_option maxRecDepth 100000
set_option maxHeartbeats 4000000
namespace L3
open PySem PySem.Spec PyProof.Rows L2
section
variable {X : Cx} {F0 : Pt} {es : List Expr} {pos : Pos}
theorem PG.or {e : Expr} {t u : TG} (h : PG X e t) (h' : PG X e u) : PG X e fun v σ H Q => t v σ H Q ∨ u v σ H Q := ⟨fun pins s σ H v w Q I r q => q.elim (h.run pins s σ H v w Q I r) (h'.run pins s σ H v w Q I r)⟩
/-- a, b = a tuple or a list -/
def gTL (n : Nat) (t : TGs3) : TG3 := fun d sd G Q => match d with
  | .tup ds => br (lenIs n ds) (t ds sd G Q) False
  | .lst ds => br (lenIs n ds) (t ds sd G Q) False
  | .scr ds => br (lenIs n ds) (t ds sd G Q) False
  | _ => False
theorem dg_tl {k : Nat} {t : TGs3} {n : Nat} (hc : X.calm = true) (h : DGs X F0 es t) (hn : (assignEach es X.env).length = n := by rfl) (hst : (assignEach es X.env).findIdx? (·.1) = none := by rfl) : DG X F0 (.Tuple es k pos) (gTL n t) :=
  PG.imp (PG.or (pg_tup hc h hn hst) (pg_lst hc h hn hst)) fun v σ H Q ⟨d, sd, F, G, Q3, at_, r, h, k⟩ => by
    unfold gTL at h
    split at h
    · rename_i ds
      cases el : lenIs n ds with
      | false => rw [el] at h; exact h.elim
      | true =>
        rw [el] at h
        cases r with
        | tup s rl => exact .inl ⟨_, _, rfl, sqT_mono at_.cp.frz s, by rw [← rl.length]; exact lenIs_ok el, ds, sd, F, G, Q3, at_, rl, h, k⟩
    · rename_i ds
      cases el : lenIs n ds with
      | false => rw [el] at h; exact h.elim
      | true =>
        rw [el] at h
        cases r with
        | lst s rl => exact .inr ⟨_, _, rfl, SqL.of (at_.cp.frz _ _ s), by rw [← rl.length]; exact lenIs_ok el, ds, sd, F, G, Q3, at_, rl, h, k⟩
    · rename_i ds
      cases el : lenIs n ds with
      | false => rw [el] at h; exact h.elim
      | true =>
        rw [el] at h
        cases r with
        | scr s rl => exact .inr ⟨_, _, rfl, sqL_mono at_.cp.frz s, by rw [← rl.length]; exact lenIs_ok el, ds, sd, F, G, Q3, at_, rl, h, k⟩
    · exact h.elim
end
/-! ### plain data compared -/
theorem dall_le {n : Nat} : ∀ {ps : List PyData}, (∀ p ∈ ps, p.canLay0 = true ∧ p.depth ≤ n) → PyData.canLayAll0 ps = true ∧ PyData.depthAll ps ≤ n
  | [], _ => ⟨rfl, Nat.zero_le _⟩
  | p :: ps, h => by
    obtain ⟨a, b⟩ := dall_le (n := n) (ps := ps) fun q hq => h q (List.mem_cons_of_mem _ hq)
    obtain ⟨c, d⟩ := h p List.mem_cons_self
    refine ⟨?_, ?_⟩
    · unfold PyData.canLayAll0
      rw [a, c]
      rfl
    · unfold PyData.depthAll
      exact Nat.max_le.mpr ⟨d, b⟩
theorem sh_list {ps : List PyData} (h : ∀ p ∈ ps, p.canLay0 = true ∧ p.depth ≤ 60) : SeqAt.shaped (.list ps) = true := by
  obtain ⟨a, b⟩ := dall_le h
  unfold SeqAt.shaped PyData.canLay0 PyData.depth
  rw [a, Bool.true_and]
  exact decide_eq_true (by omega)
theorem sh_tuple {ps : List PyData} (h : ∀ p ∈ ps, p.canLay0 = true ∧ p.depth ≤ 60) : SeqAt.shaped (.tuple ps) = true := by
  obtain ⟨a, b⟩ := dall_le h
  unfold SeqAt.shaped PyData.canLay0 PyData.depth
  rw [a, Bool.true_and]
  exact decide_eq_true (by omega)
theorem toD_lst {ds : List D} {ps : List PyData} (h : toDataL ds = some ps) : toData (.lst ds) = some (.list ps) := by unfold toData; rw [h]; rfl
theorem toD_tup {ds : List D} {ps : List PyData} (h : toDataL ds = some ps) : toData (.tup ds) = some (.tuple ps) := by unfold toData; rw [h]; rfl
theorem eqv_nil (ps : List PyData) : PyData.eqv (.list ps) (.list []) = ps.isEmpty := by cases ps <;> rfl
theorem eqv_nilT (ps : List PyData) : PyData.eqv (.tuple ps) (.tuple []) = ps.isEmpty := by cases ps <;> rfl
theorem eqvAll_map {α : Type} [DecidableEq α] (g : α → PyData) (h : ∀ a b, PyData.eqv (g a) (g b) = decide (a = b)) : ∀ xs ys : List α, PyData.eqvAll (xs.map g) (ys.map g) = decide (xs = ys)
  | [], [] => rfl
  | [], _ :: _ => rfl
  | _ :: _, [] => rfl
  | x :: xs, y :: ys => by
    show (PyData.eqv (g x) (g y) && PyData.eqvAll (xs.map g) (ys.map g)) = _
    rw [h, eqvAll_map g h xs ys]
    by_cases e1 : x = y <;> by_cases e2 : xs = ys <;> simp [e1, e2]
theorem eqv_int (a b : Int) : PyData.eqv (.int a) (.int b) = decide (a = b) := by
  show (a == b) = _
  by_cases h : a = b <;> simp [h]
theorem eqv_bool (a b : Bool) : PyData.eqv (.bool a) (.bool b) = decide (a = b) := by cases a <;> cases b <;> rfl
theorem eqv_str (a b : Str) : PyData.eqv (.str a) (.str b) = decide (a = b) := by
  show (a == b) = _
  by_cases h : a = b <;> simp [h]
/-! ### a list made by a comprehension, to be filled further -/
theorem Ext.fixG {K : PySem.W.Frag} {F H F' H' : Hp} {G G' : Gp} (x : Ext K F G H F' G' H') {p : Addr} {vs : List V} {ds : List D} (h : H p = none) (hF : F' p = none) (hG : G' p = none) (hp : H' p = some (.lst vs)) (r : RepL K F' ds vs) : Ext K F G H F' (gupd G' p (.lst ds)) H' :=
  ⟨x.le, fun a u e g f n => by
    obtain ⟨h1, g1, f1⟩ := x.st a u e g f n
    exact ⟨h1, by rw [gupd_ne (ne_of_none e h)]; exact g1, f1⟩, ⟨x.cp.frz, fun q u e => by
      by_cases hq : q = p
      · subst hq
        rw [gupd_same] at e
        cases e
        exact ⟨hF, vs, hp, r⟩
      · rw [gupd_ne hq] at e
        exact x.cp.own q u e⟩⟩
def dLcO (w : TI3) (g : TG3) (tt : TT3) (te : TE3) (vs : List Nat) : TE3 := fun sd G Q => w sd G fun ds G1 => ds.length < sizeLine ∧ swp (fun sw => lcL g tt te sw ds G1 fun ys G2 => ∀ p, G2 p = none → Q (.ref p) (gupd G2 p (.lst ys))) vs sd
theorem low_lcO {K : PySem.W.Frag} {F0 : Pt} {w : TI3} {g2 : TG} {g : TG3} {tt : TT3} {te : TE3} {vs : List Nat} (tg : TgtOk K vs g2 g) {σ : L2.St} {H : Hp} {Q : VK} (h : low K F0 (dLcO w g tt te vs) σ H Q) :
    tLc (lowI K F0 w) g2 (lowT K F0 tt) (low K F0 te) vs σ H Q := by
  obtain ⟨sd, F, G, Q3, at_, h, k⟩ := h
  refine ⟨sd, F, G, _, at_, h, fun ds J F1 G1 H1 l1 wk ⟨hz, q⟩ D hD => ?_⟩
  obtain ⟨sw, q, rsw⟩ := swp_rep (at_.rs.mono l1.le) q
  have fD := (l1.cp.free hD).1
  have gD := (l1.cp.free hD).2
  refine ⟨fun i m H' => m = ds.length - i ∧ ∃ F' G' acc ad, Ext K F1 G1 H1 F' G' H' ∧ H' D = some (.lst acc) ∧ F' D = none ∧ G' D = none ∧ RepL K F' ad acc ∧ acc.length ≤ i ∧ lcL g tt te sw (ds.drop i) G' fun ys G2 => ∀ p, G2 p = none → Q3 (.ref p) (gupd G2 p (.lst (ad ++ ys))),
    ⟨ds.length, rfl, F1, G1, [], [], (Ext.refl l1.cp).loose hD fD gD (fun x z => by rw [hD] at z; cases z) (fun z => by rw [hD] at z; cases z), upd_same, fD, gD, .nil, Nat.zero_le _, by rw [List.drop_zero]; exact q⟩, ?_⟩
  rintro i m H' ⟨rfl, F', G', acc, ad, l, eD, fD', gD', ra, hle, q⟩
  by_cases hlt : i < ds.length
  · obtain ⟨hgo, hy⟩ := wk.go i F' G' H' l.le l.cp hlt
    have nD : ∀ x, (HO.lst acc) ≠ .own x := fun x z => by cases z
    refine .inr ⟨hgo, fun H2 => ∃ F2 G2 acc2 ad2, Ext K F1 G1 H1 F2 G2 H2 ∧ H2 D = some (.lst acc2) ∧ F2 D = none ∧ G2 D = none ∧ RepL K F2 ad2 acc2 ∧ acc2.length ≤ i + 1 ∧ lcL g tt te sw (ds.drop (i + 1)) G2 fun ys G2 => ∀ p, G2 p = none → Q3 (.ref p) (gupd G2 p (.lst (ad2 ++ ys))),
      fun H2 hh => ⟨ds.length - (i + 1), by omega, rfl, hh⟩, fun x H2 y => ?_⟩
    obtain ⟨F2, l2, d, ed, rd⟩ := hy x H2 y
    have q := lcL_drop ed q
    refine tg F2 sw G' (wipe σ vs) H2 d x _ _ l2.cp (rsw.mono (l.le.trans l2.le)) rd q fun sd3 σ3 rs3 ew q3 => ⟨by rw [ew, wipe_wipe], ?_⟩
    have lz2 := l.trans l2
    refine ⟨sd3, F2, G', _, ⟨at_.ext.trans (l1.trans lz2), rs3⟩, q3, fun b F3 G3 H3 l3 q4 => ?_⟩
    have lz3 := lz2.trans l3
    obtain ⟨hD3, gD3, fD3⟩ := (l2.trans l3).st D _ eD gD' fD' nD
    cases b with
    | true =>
      refine iteT ⟨sd3, F3, G3, _, ⟨at_.ext.trans (l1.trans lz3), rs3.mono l3.le⟩, q4, fun yd yv F4 G4 H4 l4 r4 q5 => ?_⟩
      obtain ⟨hD4, gD4, fD4⟩ := l4.st D _ hD3 gD3 fD3 nD
      refine ⟨acc, hD4, by omega, F4, G4, acc ++ [yv], ad ++ [yd], (lz3.trans l4).loose hD fD4 gD4 (fun x z => by rw [hD4] at z; cases z) (fun z => by rw [hD4] at z; cases z), upd_same, fD4, gD4, ?_, ?_, ?_⟩
      · exact (ra.mono (l2.le.trans (l3.le.trans l4.le))).append (.one r4)
      · rw [List.length_append, List.length_singleton]; omega
      · have e : (fun (ys : List L3.D) (G2 : Gp) => ∀ p, G2 p = none → Q3 (.ref p) (gupd G2 p (.lst (ad ++ [yd] ++ ys)))) = fun ys G2 => ∀ p, G2 p = none → Q3 (.ref p) (gupd G2 p (.lst (ad ++ yd :: ys))) := by
          funext ys G2
          rw [List.append_assoc]
          rfl
        rw [e]
        exact q5
    | false => exact iteF ⟨F3, G3, acc, ad, lz3, hD3, fD3, gD3, ra.mono (l2.le.trans l3.le), by omega, q4⟩
  · refine .inl ⟨wk.stop i F' G' H' l.le l.cp (by omega), ?_⟩
    rw [List.drop_eq_nil_of_le (by omega), lcL_nil] at q
    have q : ∀ p, G' p = none → Q3 (.ref p) (gupd G' p (.lst (ad ++ []))) := q
    rw [List.append_nil] at q
    have x := l.fixG hD fD' gD' eD ra
    exact k _ _ _ _ _ (l1.trans x) (.ref _) (q D gD')
section
variable {X : Cx} {F0 : Pt}
theorem de_lcO {elt tg iter : Expr} {ifs : List Expr} {scope : Scope} {pos : Pos} {w : TI3} {g2 : TG} {g : TG3} {tt : TT3} {te : TE3} (own : List (Str × Nat)) (hc : X.calm = true) (hN : X.N.Nodup) (tgo : TgtOk X.K (own.map (·.2)) g2 g) (hi : DI X F0 tg iter w) (ok : BlkOk X.N X.env.scope scope own)
    (hg : ∀ (s : Shared) (H : Hp) (C : Addr) (cl : List (Str × Addr)) (fp : List Addr), PG (X.blk s H scope (compEnvC scope cl C X.env) fp) tg g2) (ht : ∀ (s : Shared) (H : Hp) (C : Addr) (cl : List (Str × Addr)) (fp : List Addr), DTs (X.blk s H scope (compEnvC scope cl C X.env) fp) F0 ifs tt)
    (he : ∀ (s : Shared) (H : Hp) (C : Addr) (cl : List (Str × Addr)) (fp : List Addr), DE (X.blk s H scope (compEnvC scope cl C X.env) fp) F0 elt te) (hs : ∀ x, foldedSetIterable iter X.env x = pure x := by intro _; rfl) :
    DE X F0 (.ListComp elt [⟨tg, iter, ifs, 0⟩] scope pos) (dLcO w g tt te (own.map (·.2))) := PE.imp (pe_lc (tt := lowT X.K F0 tt) (te := low X.K F0 te) hc hN hi ok hg ht he hs) fun _ _ _ h => low_lcO tgo h
/-- name = [..] -/
theorem ds_setLcO (i : Nat) {y : Str} {py : Pos} {elt tg iter : Expr} {ifs : List Expr} {scope : Scope} {pos spos : Pos} {w : TI3} {g2 : TG} {g : TG3} {tt : TT3} {te : TE3} (own : List (Str × Nat)) (hc : X.calm = true) (hN : X.N.Nodup) (tgo : TgtOk X.K (own.map (·.2)) g2 g) (hi : DI X F0 tg iter w) (ok : BlkOk X.N X.env.scope scope own)
    (hg : ∀ (s : Shared) (H : Hp) (C : Addr) (cl : List (Str × Addr)) (fp : List Addr), PG (X.blk s H scope (compEnvC scope cl C X.env) fp) tg g2) (ht : ∀ (s : Shared) (H : Hp) (C : Addr) (cl : List (Str × Addr)) (fp : List Addr), DTs (X.blk s H scope (compEnvC scope cl C X.env) fp) F0 ifs tt)
    (he : ∀ (s : Shared) (H : Hp) (C : Addr) (cl : List (Str × Addr)) (fp : List Addr), DE (X.blk s H scope (compEnvC scope cl C X.env) fp) F0 elt te)
    (hy : X.N[i]? = some y := by rfl) (hyl : X.env.scope.names.lookup y = some .local := by rfl) (hk : X.env.scope.kind = .function := by rfl) (hl : (py.line == pos.line) = true := by rfl)
    (ha : (scope.names.any fun (n, k) => n == y && (k == .local || k == .cell)) = false := by decide +kernel) (hs : ∀ x, foldedSetIterable iter X.env x = pure x := by intro _; rfl) :
    DS X F0 (.Assign [.Name y py] (.ListComp elt [⟨tg, iter, ifs, 0⟩] scope pos) spos) (dSet i (dLcO w g tt te (own.map (·.2)))) :=
  PS.imp (ps_setLc (tt := lowT X.K F0 tt) (te := low X.K F0 te) hc hN hy hyl (sw_true hk hyl hl ha) hi ok hg ht he hs) fun D σ H ⟨sd, F, G, D3, at_, h, k⟩ =>
    low_lcO tgo ⟨sd, F, G, _, at_, h, fun d v F1 G1 H1 l r q => k.nx _ _ _ _ _ l ((at_.rs.mono l.le).set i r) (sput_set q)⟩
end
end L3
set_option Elab.async false
set_option linter.all false
set_option maxRecDepth 100000
set_option maxHeartbeats 4000000
namespace L3
open PySem PySem.Spec PyProof.Rows L2
/-! ### dicts, keys ints and texts -/
def keyD : L3.D → Option Key
  | .int i => some (.inl i)
  | .str x => some (.inr x)
  | _ => none
def valD : List (Key × L3.D) → Key → Option L3.D
  | [], _ => none
  | (j, d) :: r, k => if j = k then some d else valD r k
def putD : List (Key × L3.D) → Key → L3.D → List (Key × L3.D)
  | [], k, d => [(k, d)]
  | (j, e) :: r, k, d => if j = k then (k, d) :: r else (j, e) :: putD r k d
def dropD (kvs : List (Key × L3.D)) (k : Key) : List (Key × L3.D) := kvs.filter fun kv => decide (kv.1 ≠ k)
section
variable {K : PySem.W.Frag} {F F' H : Hp} {G : Gp}
theorem rep_key {d : L3.D} {v : V} {k : Key} (r : Rep K F d v) (h : keyD d = some k) : v = kV k := by
  cases r <;> simp [keyD] at h
  · subst h; rfl
  · subst h; rfl
theorem RepK.val {k : Key} : ∀ {ks : List (Key × L3.D)} {ws : List (Key × V)}, RepK K F ks ws → (∀ d, valD ks k = some d → ∃ v, valV ws k = some v ∧ Rep K F d v) ∧ (valD ks k = none → valV ws k = none)
  | _, _, .nil => ⟨fun d h => (by cases h), fun _ => rfl⟩
  | _, _, .cons (f := j) (d := e) (v := v) (ds := r) (vs := vs) h t => by
    have ih := RepK.val (k := k) t
    by_cases hj : j = k
    · refine ⟨fun d hd => ?_, fun hd => ?_⟩
      · unfold valD at hd
        rw [if_pos hj] at hd
        cases hd
        exact ⟨v, valV_pos hj, h⟩
      · unfold valD at hd
        rw [if_pos hj] at hd
        cases hd
    · refine ⟨fun d hd => ?_, fun hd => ?_⟩
      · unfold valD at hd
        rw [if_neg hj] at hd
        rw [valV_neg hj]
        exact ih.1 d hd
      · unfold valD at hd
        rw [if_neg hj] at hd
        rw [valV_neg hj]
        exact ih.2 hd
theorem RepK.getD {k : Key} {ks : List (Key × L3.D)} {ws : List (Key × V)} {z : L3.D} {u : V} (h : RepK K F ks ws) (r : Rep K F z u) : Rep K F ((valD ks k).getD z) ((valV ws k).getD u) := by
  obtain ⟨h1, h2⟩ := h.val (k := k)
  cases e : valD ks k with
  | none => rw [h2 e]; exact r
  | some d =>
    obtain ⟨v, e1, e2⟩ := h1 d e
    rw [e1]
    exact e2
theorem RepK.length : ∀ {ks : List (Key × L3.D)} {ws : List (Key × V)}, RepK K F ks ws → ks.length = ws.length
  | _, _, .nil => rfl
  | _, _, .cons _ r => by rw [List.length_cons, List.length_cons, RepK.length r]
theorem RepK.drop {k : Key} : ∀ {ks : List (Key × L3.D)} {ws : List (Key × V)}, RepK K F ks ws → RepK K F (dropD ks k) (dropK ws k)
  | _, _, .nil => .nil
  | _, _, .cons (f := j) (d := e) (v := v) (ds := r) (vs := vs) h t => by
    have ih := RepK.drop (k := k) t
    unfold dropD dropK at ih ⊢
    rw [List.filter_cons, List.filter_cons]
    by_cases hj : j = k
    · rw [if_neg (by simp [hj]), if_neg (by simp [hj])]
      exact ih
    · rw [if_pos (by simp [hj]), if_pos (by simp [hj])]
      exact .cons h ih
theorem putK_cons {j k : Key} {v y : V} {r : List (Key × V)} (h : j ≠ k) : putK ((j, v) :: r) k y = (j, v) :: putK r k y := by
  unfold putK
  rw [List.any_cons]
  show (if (decide (j = k) || _) = true then (if j = k then (j, y) else (j, v)) :: _ else _) = _
  rw [decide_eq_false h, Bool.false_or, if_neg h]
  split <;> rfl
theorem putK_none {k : Key} {y : V} : putK [] k y = [(k, y)] := rfl
/-- a dict without a key twice -/
def Uq {α : Type} : List (Key × α) → Prop
  | [] => True
  | (j, _) :: r => (∀ p ∈ r, p.1 ≠ j) ∧ Uq r
theorem putK_head {k : Key} {v y : V} {r : List (Key × V)} (h : ∀ p ∈ r, p.1 ≠ k) : putK ((k, v) :: r) k y = (k, y) :: r := by
  unfold putK
  rw [List.any_cons]
  show (if (decide (k = k) || _) = true then (if k = k then (k, y) else (k, v)) :: _ else _) = _
  rw [decide_eq_true rfl, Bool.true_or, if_pos rfl, if_pos rfl]
  congr 1
  have : ∀ l : List (Key × V), (∀ p ∈ l, p.1 ≠ k) → l.map (fun kv => if kv.1 = k then (kv.1, y) else kv) = l := by
    intro l
    induction l with
    | nil => intro _; rfl
    | cons a l ih =>
      intro hl
      rw [List.map_cons, if_neg (hl a List.mem_cons_self), ih fun p hp => hl p (List.mem_cons_of_mem _ hp)]
  exact this r h
theorem RepK.uq : ∀ {ks : List (Key × L3.D)} {ws : List (Key × V)}, RepK K F ks ws → Uq ks → Uq ws
  | _, _, .nil, _ => trivial
  | _, _, .cons (f := j) (d := e) (v := v) (ds := r) (vs := vs) h t, u => by
    refine ⟨fun p hp => ?_, t.uq u.2⟩
    have keys : ∀ {a : List (Key × L3.D)} {b : List (Key × V)}, RepK K F a b → ∀ p ∈ b, ∃ q ∈ a, q.1 = p.1 := by
      intro a
      induction a with
      | nil =>
        intro b h p hp
        cases h
        cases hp
      | cons x a ih =>
        intro b h p hp
        cases h with
        | cons h1 t1 =>
          rcases List.mem_cons.mp hp with z | z
          · subst z; exact ⟨_, List.mem_cons_self, rfl⟩
          · obtain ⟨q, hq, e⟩ := ih t1 p z
            exact ⟨q, List.mem_cons_of_mem _ hq, e⟩
    obtain ⟨q, hq, eq⟩ := keys t p hp
    rw [← eq]
    exact u.1 q hq
theorem RepK.put {k : Key} {d : L3.D} {v : V} (rd : Rep K F d v) : ∀ {ks : List (Key × L3.D)} {ws : List (Key × V)}, Uq ks → RepK K F ks ws → RepK K F (putD ks k d) (putK ws k v) := by
  intro ks
  induction ks with
  | nil =>
    intro ws _ h
    cases h
    exact .cons rd .nil
  | cons a r ih =>
    intro ws uq h
    have hh := h
    cases h with
    | @cons j e u _ vs h t =>
      by_cases hj : j = k
      · subst hj
        have uw := RepK.uq hh uq
        rw [putK_head uw.1]
        unfold putD
        rw [if_pos rfl]
        exact .cons rd t
      · rw [putK_cons hj]
        unfold putD
        rw [if_neg hj]
        exact .cons h (ih uq.2 t)
theorem putD_mem {k : Key} {d : L3.D} : ∀ {ks : List (Key × L3.D)} {p : Key × L3.D}, p ∈ putD ks k d → p.1 = k ∨ ∃ q ∈ ks, q.1 = p.1
  | [], p, h => by
    cases List.mem_singleton.mp h
    exact .inl rfl
  | (j, e) :: r, p, h => by
    unfold putD at h
    split at h
    · rcases List.mem_cons.mp h with z | z
      · subst z; exact .inl rfl
      · exact .inr ⟨p, List.mem_cons_of_mem _ z, rfl⟩
    · rcases List.mem_cons.mp h with z | z
      · subst z; exact .inr ⟨_, List.mem_cons_self, rfl⟩
      · rcases putD_mem z with y | ⟨q, hq, e⟩
        · exact .inl y
        · exact .inr ⟨q, List.mem_cons_of_mem _ hq, e⟩
theorem Uq.put {k : Key} {d : L3.D} : ∀ {ks : List (Key × L3.D)}, Uq ks → Uq (putD ks k d)
  | [], _ => ⟨fun p hp => (by cases hp), trivial⟩
  | (j, e) :: r, h => by
    unfold putD
    split
    · rename_i hj
      subst hj
      exact ⟨h.1, h.2⟩
    · rename_i hj
      refine ⟨fun p hp => ?_, Uq.put h.2⟩
      rcases putD_mem hp with y | ⟨q, hq, e⟩
      · rw [y]; exact fun z => hj z.symm
      · rw [← e]; exact h.1 q hq
/-- several puts -/
def mergeD : List (Key × L3.D) → List (Key × L3.D) → List (Key × L3.D)
  | kvs, [] => kvs
  | kvs, (k, d) :: r => mergeD (putD kvs k d) r
theorem RepK.merge : ∀ {more : List (Key × L3.D)} {ms : List (Key × V)} {ks : List (Key × L3.D)} {ws : List (Key × V)}, Uq ks → RepK K F more ms → RepK K F ks ws → RepK K F (mergeD ks more) (mergeK ws ms) := by
  intro more
  induction more with
  | nil =>
    intro ms ks ws u h hk
    cases h
    exact hk
  | cons a r ih =>
    intro ms ks ws u h hk
    cases h with
    | @cons j e v _ vs h t =>
      show RepK K F (mergeD (putD ks j e) r) (mergeK (putK ws j v) vs)
      exact ih (Uq.put u) t (RepK.put h u hk)
end
/-! the display -/
def dPairs : List (TE3 × TE3) → St3 → Gp → (List (L3.D × L3.D) → Gp → Prop) → Prop
  | [], _, G, Q => Q [] G
  | (tk, tv) :: r, sd, G, Q => tk sd G fun k G1 => tv sd G1 fun v G2 => dPairs r sd G2 fun ps G3 => Q ((k, v) :: ps) G3
def keysD : List (L3.D × L3.D) → Option (List (Key × L3.D))
  | [] => some []
  | (k, d) :: r => match keyD k with
    | some j => (keysD r).map ((j, d) :: ·)
    | none => none
inductive RepP (K : PySem.W.Frag) (F : Hp) : List (L3.D × L3.D) → List (V × V) → Prop
  | nil : RepP K F [] []
  | cons {k d : L3.D} {j v : V} {r : List (L3.D × L3.D)} {s : List (V × V)} : Rep K F k j → Rep K F d v → RepP K F r s → RepP K F ((k, d) :: r) ((j, v) :: s)
theorem RepP.keys {K : PySem.W.Frag} {F : Hp} : ∀ {ps : List (L3.D × L3.D)} {vs : List (V × V)} {ks : List (Key × L3.D)}, RepP K F ps vs → keysD ps = some ks → ∃ ws : List (Key × V), vs = ws.map (fun kv => (kV kv.1, kv.2)) ∧ RepK K F ks ws
  | _, _, ks, .nil, e => by
    cases e
    exact ⟨[], rfl, .nil⟩
  | _, _, ks, .cons hk hd t, e => by
    unfold keysD at e
    split at e
    · rename_i j ej
      obtain ⟨r, e1, e2⟩ := Option.map_eq_some_iff.mp e
      subst e2
      obtain ⟨ws, e3, h3⟩ := RepP.keys t e1
      rw [rep_key hk ej, e3]
      exact ⟨(j, _) :: ws, rfl, .cons hd h3⟩
    · cases e
theorem low_pairs {K : PySem.W.Frag} {F0 : Pt} : ∀ (trs : List (TE3 × TE3)) (sd : St3) (F : Hp) (G : Gp) (σ : L2.St) (H : Hp) (Q3 : List (L3.D × L3.D) → Gp → Prop) (Q : List (V × V) → Hp → Prop), At K F0 F sd G σ H → dPairs trs sd G Q3 →
    (∀ ps vs F' G' H', Ext K F G H F' G' H' → RepP K F' ps vs → Q3 ps G' → Q vs H') → tPairs (trs.map fun t => (low K F0 t.1, low K F0 t.2)) σ H Q
  | [], sd, F, G, σ, H, Q3, Q, at_, h, k => k [] [] _ _ _ (Ext.refl at_.cp) .nil h
  | (tk, tv) :: r, sd, F, G, σ, H, Q3, Q, at_, h, k => ⟨sd, F, G, _, at_, h, fun dk vk F1 G1 H1 l1 r1 q1 => ⟨sd, F1, G1, _, at_.step l1, q1, fun dv vv F2 G2 H2 l2 r2 q2 => by
    refine low_pairs r sd F2 G2 σ H2 _ _ ((at_.step l1).step l2) q2 fun ps vs F' G' H' l rp q => ?_
    exact k _ _ _ _ _ ((l1.trans l2).trans l) (.cons (r1.mono (l2.le.trans l.le)) (r2.mono l.le) rp) q⟩⟩
section
variable {X : Cx} {F0 : Pt} {o e f i : Expr} {pos apos : Pos} {to te tf : TE3}
structure DPs (X : Cx) (F0 : Pt) (pos : Pos) (keys : List (Option Expr)) (values : List Expr) (trs : List (TE3 × TE3)) : Prop where
  run : PPs X pos keys values (trs.map fun t => (low X.K F0 t.1, low X.K F0 t.2))
theorem dps_nil : DPs X F0 pos [] [] [] := ⟨pps_nil⟩
theorem dps_cons {k v : Expr} {ks : List (Option Expr)} {vs : List Expr} {tk tv : TE3} {trs : List (TE3 × TE3)} (hk : DE X F0 k tk) (hv : DE X F0 v tv) (hr : DPs X F0 pos ks vs trs) : DPs X F0 pos (some k :: ks) (v :: vs) ((tk, tv) :: trs) := ⟨pps_cons hk hv hr.run⟩
def dDisp (trs : List (TE3 × TE3)) : TE3 := fun sd G Q => dPairs trs sd G fun ps G1 => match keysD ps with
  | some ks => Q (.dic (mergeD [] ks)) G1
  | none => False
def dDispO (trs : List (TE3 × TE3)) : TE3 := fun sd G Q => dPairs trs sd G fun ps G1 => match keysD ps with
  | some ks => ∀ p, G1 p = none → Q (.ref p) (gupd G1 p (.dic (mergeD [] ks)))
  | none => False
theorem Ext.looseD {K : PySem.W.Frag} {F H F' H' : Hp} {G G' : Gp} (x : Ext K F G H F' G' H') {p : Addr} {o : HO} (h : H p = none) (hF : F' p = none) (hG : G' p = none) (hp : ∃ kvs, H' p = some (.dK kvs)) : Ext K F G H F' G' (upd H' p o) := by
  obtain ⟨kvs, hp⟩ := hp
  exact x.loose h hF hG (fun y z => by rw [hp] at z; cases z) (fun z => by rw [hp] at z; cases z)
theorem Ext.fixD {K : PySem.W.Frag} {F H F' H' : Hp} {G G' : Gp} (x : Ext K F G H F' G' H') {p : Addr} {ks : List (Key × V)} (h : H p = none) (hF : F' p = none) (hG : G' p = none) (hp : H' p = some (.dK ks)) : Ext K F G H (upd F' p (.dK ks)) G' H' :=
  ⟨x.le.trans (Le.new hF), fun a u e g f n => by
    obtain ⟨h1, g1, f1⟩ := x.st a u e g f n
    exact ⟨h1, g1, by rw [upd_ne (ne_of_none e h)]; exact f1⟩, ⟨fun a u e => by
      by_cases ha : a = p
      · subst ha; rw [upd_same] at e; cases e; exact hp
      · rw [upd_ne ha] at e; exact x.cp.frz a u e, fun q u e => by
      have hq : q ≠ p := fun z => by rw [z, hG] at e; cases e
      obtain ⟨f, r2⟩ := x.cp.own q u e
      refine ⟨by rw [upd_ne hq]; exact f, r2.keep (Le.new hF) rfl fun C dx ds eo => ?_⟩
      subst eo
      obtain ⟨h1, _, vs', _, z⟩ := r2
      have hdx : dx ≠ p := by
        rintro rfl
        rcases z with ⟨_, _, z⟩ | ⟨_, z⟩ <;> · rw [hp] at z; cases z
      exact ⟨rfl, h1.upd hdx⟩⟩⟩
theorem Ext.fixGD {K : PySem.W.Frag} {F H F' H' : Hp} {G G' : Gp} (x : Ext K F G H F' G' H') {p : Addr} {ws : List (Key × V)} {ks : List (Key × L3.D)} (h : H p = none) (hF : F' p = none) (hG : G' p = none) (hp : H' p = some (.dK ws)) (r : RepK K F' ks ws) : Ext K F G H F' (gupd G' p (.dic ks)) H' :=
  ⟨x.le, fun a u e g f n => by
    obtain ⟨h1, g1, f1⟩ := x.st a u e g f n
    exact ⟨h1, by rw [gupd_ne (ne_of_none e h)]; exact g1, f1⟩, ⟨x.cp.frz, fun q u e => by
      by_cases hq : q = p
      · subst hq
        rw [gupd_same] at e
        cases e
        exact ⟨hF, ws, hp, r⟩
      · rw [gupd_ne hq] at e
        exact x.cp.own q u e⟩⟩
theorem keysD_len : ∀ {ps : List (L3.D × L3.D)} {ks : List (Key × L3.D)}, keysD ps = some ks → ks.length = ps.length
  | [], _, e => by cases e; rfl
  | (k, d) :: r, ks, e => by
    unfold keysD at e
    split at e
    · obtain ⟨r', e1, e2⟩ := Option.map_eq_some_iff.mp e
      subst e2
      rw [List.length_cons, List.length_cons, keysD_len e1]
    · cases e
theorem pairs_len : ∀ (trs : List (TE3 × TE3)) {K : PySem.W.Frag} {F0 : Pt} (sd : St3) (F : Hp) (G : Gp) (σ : L2.St) (H : Hp) (Q3 : List (L3.D × L3.D) → Gp → Prop) (Q : List (V × V) → Hp → Prop), At K F0 F sd G σ H → dPairs trs sd G Q3 →
    (∀ ps vs F' G' H', Ext K F G H F' G' H' → RepP K F' ps vs → ps.length = trs.length → Q3 ps G' → Q vs H') → tPairs (trs.map fun t => (low K F0 t.1, low K F0 t.2)) σ H Q
  | [], _, _, sd, F, G, σ, H, Q3, Q, at_, h, k => k [] [] _ _ _ (Ext.refl at_.cp) .nil rfl h
  | (tk, tv) :: r, _, _, sd, F, G, σ, H, Q3, Q, at_, h, k => ⟨sd, F, G, _, at_, h, fun dk vk F1 G1 H1 l1 r1 q1 => ⟨sd, F1, G1, _, at_.step l1, q1, fun dv vv F2 G2 H2 l2 r2 q2 => by
    refine pairs_len r sd F2 G2 σ H2 _ _ ((at_.step l1).step l2) q2 fun ps vs F' G' H' l rp hl q => ?_
    exact k _ _ _ _ _ ((l1.trans l2).trans l) (.cons (r1.mono (l2.le.trans l.le)) (r2.mono l.le) rp) (by rw [List.length_cons, List.length_cons, hl]) q⟩⟩
theorem low_disp {K : PySem.W.Frag} {F0 : Pt} {trs : List (TE3 × TE3)} (h15 : trs.length ≤ 15) {Qx : L3.D → Gp → Prop} {σ : L2.St} {H : Hp} {Q : VK} {sd : St3} {F : Hp} {G : Gp} {Q3 : List (L3.D × L3.D) → Gp → Prop} (at_ : At K F0 F sd G σ H) (h : dPairs trs sd G Q3)
    (k : ∀ p ps ks ws F' G' H', H p = none → Ext K F G H F' G' H' → F' p = none → G' p = none → H' p = some (.dK (mergeK [] ws)) → RepK K F' (mergeD [] ks) (mergeK [] ws) → keysD ps = some ks → Q3 ps G' → Q (.ref p) H') (hk : ∀ ps G, Q3 ps G → ∃ ks, keysD ps = some ks) :
    tDisp (trs.map fun t => (low K F0 t.1, low K F0 t.2)) σ H Q := by
  intro p hp
  have fp := (at_.cp.free hp).1
  have gp := (at_.cp.free hp).2
  have x0 : Ext K F G H F G (upd H p (.dK [])) := (Ext.refl at_.cp).loose hp fp gp (fun x z => by rw [hp] at z; cases z) (fun z => by rw [hp] at z; cases z)
  refine pairs_len trs sd F G σ _ _ _ (at_.step x0) h fun ps vs F' G' H' l rp hl q => ?_
  obtain ⟨hp', gp', fp'⟩ := l.st p _ upd_same gp fp (fun x z => by cases z)
  obtain ⟨ks, ek⟩ := hk ps G' q
  obtain ⟨ws, e1, rk⟩ := rp.keys ek
  refine ⟨hp', ws, e1, by rw [← rk.length, keysD_len ek]; omega, ?_⟩
  refine k p ps ks ws F' G' _ hp ((x0.trans l).looseD hp fp' gp' ⟨_, hp'⟩) fp' gp' upd_same (RepK.merge trivial rk .nil) ek q
theorem de_disp {keys : List (Option Expr)} {values : List Expr} {trs : List (TE3 × TE3)} (h : DPs X F0 pos keys values trs) (hall : keys.all (·.isSome) = true := by rfl) (hl : keys.length = values.length := by rfl) (h0 : keys ≠ [] := by intro z; cases z) (h15 : keys.length ≤ 15 := by decide) (ht : trs.length ≤ 15 := by decide) :
    DE X F0 (.Dict keys values pos) (dDisp trs) :=
  PE.imp (pe_disp h.run hall hl h0 h15) fun σ H Q ⟨sd, F, G, Q3, at_, hh, k⟩ => by
    refine low_disp ht (Qx := Q3) at_ hh (fun p ps ks ws F' G' H' hp x fp gp e rk ek q => ?_) fun ps G q => ?_
    · have q : Q3 (.dic (mergeD [] ks)) G' := by
        rw [ek] at q
        exact q
      exact k _ _ _ _ _ (x.fixD hp fp gp e) (.dic upd_same (rk.mono (Le.new fp))) q
    · cases ek : keysD ps with
      | none => rw [ek] at q; exact q.elim
      | some ks => exact ⟨ks, rfl⟩
theorem de_dispO {keys : List (Option Expr)} {values : List Expr} {trs : List (TE3 × TE3)} (h : DPs X F0 pos keys values trs) (hall : keys.all (·.isSome) = true := by rfl) (hl : keys.length = values.length := by rfl) (h0 : keys ≠ [] := by intro z; cases z) (h15 : keys.length ≤ 15 := by decide) (ht : trs.length ≤ 15 := by decide) :
    DE X F0 (.Dict keys values pos) (dDispO trs) :=
  PE.imp (pe_disp h.run hall hl h0 h15) fun σ H Q ⟨sd, F, G, Q3, at_, hh, k⟩ => by
    refine low_disp ht (Qx := Q3) at_ hh (fun p ps ks ws F' G' H' hp x fp gp e rk ek q => ?_) fun ps G q => ?_
    · rw [ek] at q
      exact k _ _ _ _ _ (x.fixGD hp fp gp e rk) (.ref p) (q p gp)
    · cases ek : keysD ps with
      | none => rw [ek] at q; exact q.elim
      | some ks => exact ⟨ks, rfl⟩
def dEmp : TE3 := fun _ G Q => Q (.dic []) G
def dEmpO : TE3 := fun _ G Q => ∀ p, G p = none → Q (.ref p) (gupd G p (.dic []))
theorem de_emp : DE X F0 (.Dict [] [] pos) dEmp := PE.imp pe_dnewK fun σ H Q ⟨sd, F, G, Q3, at_, h, k⟩ p hp => by
  have x := Ext.newF at_.cp (.dK []) hp
  exact k _ _ _ _ _ x (.dic upd_same .nil) h
theorem de_empO : DE X F0 (.Dict [] [] pos) dEmpO := PE.imp pe_dnewK fun σ H Q ⟨sd, F, G, Q3, at_, h, k⟩ p hp => by
  have fp := (at_.cp.free hp).1
  have gp := (at_.cp.free hp).2
  have x0 : Ext X.K F G H F G (upd H p (.dK [])) := (Ext.refl at_.cp).loose hp fp gp (fun x z => by rw [hp] at z; cases z) (fun z => by rw [hp] at z; cases z)
  exact k _ _ _ _ _ (x0.fixGD hp fp gp upd_same .nil) (.ref p) (h p gp)
/-! reading -/
/-- the pairs of a dict -/
def pairsOf (d : L3.D) (G : Gp) : Option (List (Key × L3.D)) := match d with
  | .dic ks => some ks
  | .ref p => match G p with
    | some (.dic ks) => some ks
    | _ => none
  | _ => none
theorem pairs_dk {K : PySem.W.Frag} {F H : Hp} {G : Gp} {d : L3.D} {v : V} {ks : List (Key × L3.D)} (c : Cp K F G H) (r : Rep K F d v) (e : pairsOf d G = some ks) : ∃ p ws, v = .ref p ∧ H p = some (.dK ws) ∧ RepK K F ks ws := by
  unfold pairsOf at e
  split at e
  · cases e
    cases r with
    | dic h rk => exact ⟨_, _, rfl, c.frz _ _ h, rk⟩
  · split at e
    · rename_i p ks' eg
      cases e
      cases r
      obtain ⟨_, ws, hp, rk⟩ := c.own _ _ eg
      exact ⟨_, ws, rfl, hp, rk⟩
    · cases e
  · cases e
theorem keep_dk {K : PySem.W.Frag} {F H F' H' : Hp} {G G' : Gp} {d : L3.D} {v : V} {ks : List (Key × L3.D)} (c : Cp K F G H) (x : Ext K F G H F' G' H') (r : Rep K F d v) (e : pairsOf d G = some ks) : ∀ ks', pairsOf d G' = some ks' → ∃ p ws, v = .ref p ∧ H' p = some (.dK ws) ∧ RepK K F' ks' ws := fun ks' e' => pairs_dk x.cp (r.mono x.le) e'
def dGet2 (to te tf : TE3) : TE3 := fun sd G Q => to sd G fun d G1 => (pairsOf d G1).isSome = true ∧ te sd G1 fun y G2 => tf sd G2 fun z G3 => ∃ ks k, pairsOf d G3 = some ks ∧ keyD y = some k ∧ Q ((valD ks k).getD z) G3
theorem de_get2 {j : Nat} (hr : Room j X.A) (ho : DE X F0 o to) (he : DE X F0 e te) (hf : DE X F0 f tf) (m : M2 X o "get" apos e f pos := by exact ⟨rfl, rfl, rfl, rfl⟩) : DE X F0 (.Call (.Attribute o "get" apos) [e, f] [] pos) (dGet2 to te tf) :=
  PE.imp (pe_dget2 (by have := hr.units; omega) ho he hf m) fun σ H Q ⟨sd, F, G, Q3, at_, h, k⟩ => ⟨sd, F, G, _, at_, h, fun d v F1 G1 H1 l1 r1 ⟨q0, q1⟩ => by
    obtain ⟨ks0, e0⟩ := Option.isSome_iff_exists.mp q0
    obtain ⟨p, ws0, rfl, hp0, _⟩ := pairs_dk l1.cp r1 e0
    refine ⟨p, rfl, .inl ⟨ws0, .inl hp0⟩, sd, F1, G1, _, at_.step l1, q1, fun y vy F2 G2 H2 l2 r2 q2 => ⟨sd, F2, G2, _, (at_.step l1).step l2, q2, fun z vz F3 G3 H3 l3 r3 ⟨ks, kk, e3, ek, q3⟩ => ?_⟩⟩
    obtain ⟨p', ws, ep, hp, rk⟩ := pairs_dk l3.cp (r1.mono (l2.le.trans l3.le)) e3
    cases ep
    have ey := rep_key r2 ek
    subst ey
    exact ⟨_, DGet.k hp, k _ _ _ _ _ ((l1.trans l2).trans l3) (rk.getD r3) q3⟩⟩
def dGet1 (to te : TE3) : TE3 := fun sd G Q => to sd G fun d G1 => (pairsOf d G1).isSome = true ∧ te sd G1 fun y G2 => ∃ ks k, pairsOf d G2 = some ks ∧ keyD y = some k ∧ Q ((valD ks k).getD .non) G2
theorem de_get1 {j : Nat} (hr : Room j X.A) (ho : DE X F0 o to) (he : DE X F0 e te) (m : M1 X o "get" apos e pos := by exact ⟨rfl, rfl, rfl, rfl⟩) : DE X F0 (.Call (.Attribute o "get" apos) [e] [] pos) (dGet1 to te) :=
  PE.imp (pe_dget1 (by have := hr.units; omega) ho he m) fun σ H Q ⟨sd, F, G, Q3, at_, h, k⟩ => ⟨sd, F, G, _, at_, h, fun d v F1 G1 H1 l1 r1 ⟨q0, q1⟩ => by
    obtain ⟨ks0, e0⟩ := Option.isSome_iff_exists.mp q0
    obtain ⟨p, ws0, rfl, hp0, _⟩ := pairs_dk l1.cp r1 e0
    refine ⟨p, rfl, .inl ⟨ws0, .inl hp0⟩, sd, F1, G1, _, at_.step l1, q1, fun y vy F2 G2 H2 l2 r2 ⟨ks, kk, e3, ek, q3⟩ => ?_⟩
    obtain ⟨p', ws, ep, hp, rk⟩ := pairs_dk l2.cp (r1.mono l2.le) e3
    cases ep
    have ey := rep_key r2 ek
    subst ey
    exact ⟨_, DGet.k hp, k _ _ _ _ _ (l1.trans l2) (rk.getD .non) q3⟩⟩
/-- d[k] -/
def dIxK (to te : TE3) : TE3 := fun sd G Q => to sd G fun d G1 => te sd G1 fun y G2 => ∃ ks k z, pairsOf d G2 = some ks ∧ keyD y = some k ∧ valD ks k = some z ∧ Q z G2
theorem de_ixK {j : Nat} (hr : Room j X.A) (ho : DE X F0 o to) (hi : DE X F0 i te) (hs : NoSl i := by intro _ _; rfl) : DE X F0 (.Subscript o i pos) (dIxK to te) :=
  PE.imp (pe_dget (by have := hr.units; omega) ho hi hs) fun σ H Q ⟨sd, F, G, Q3, at_, h, k⟩ => ⟨sd, F, G, _, at_, h, fun d v F1 G1 H1 l1 r1 q1 => ⟨sd, F1, G1, _, at_.step l1, q1, fun y vy F2 G2 H2 l2 r2 ⟨ks, kk, z, e3, ek, ez, q3⟩ => by
    obtain ⟨p', ws, rfl, hp, rk⟩ := pairs_dk l2.cp (r1.mono l2.le) e3
    have ey := rep_key r2 ek
    subst ey
    obtain ⟨u, eu, ru⟩ := (rk.val (k := kk)).1 z ez
    refine ⟨p', u, rfl, ?_, k _ _ _ _ _ (l1.trans l2) ru q3⟩
    have := DGet.k (k := kk) hp
    rw [eu] at this
    exact this⟩⟩
/-- d.pop(k, x), the dict being one's own -/
def dPop2 (to te tf : TE3) : TE3 := fun sd G Q => to sd G fun d G1 => match d with
  | .ref p => (∃ ks, G1 p = some (.dic ks)) ∧ te sd G1 fun y G2 => tf sd G2 fun z G3 => ∃ ks k, G3 p = some (.dic ks) ∧ keyD y = some k ∧ (match valD ks k with
    | some u => Q u (gupd G3 p (.dic (dropD ks k)))
    | none => Q z G3)
  | _ => False
theorem de_pop2 (ho : DE X F0 o to) (he : DE X F0 e te) (hf : DE X F0 f tf) (m : M2 X o "pop" apos e f pos := by exact ⟨rfl, rfl, rfl, rfl⟩) : DE X F0 (.Call (.Attribute o "pop" apos) [e, f] [] pos) (dPop2 to te tf) :=
  PE.imp (pe_dpop2 ho he hf m) fun σ H Q ⟨sd, F, G, Q3, at_, h, k⟩ => ⟨sd, F, G, _, at_, h, fun d v F1 G1 H1 l1 r1 q1 => by
    cases d <;> first | exact q1.elim | skip
    rename_i p
    cases r1
    obtain ⟨⟨ks0, e0⟩, q1⟩ := q1
    obtain ⟨_, ws0, hp0, _⟩ := l1.cp.own _ _ e0
    refine ⟨p, rfl, .inl ⟨ws0, .inl hp0⟩, sd, F1, G1, _, at_.step l1, q1, fun y vy F2 G2 H2 l2 r2 q2 => ⟨sd, F2, G2, _, (at_.step l1).step l2, q2, fun z vz F3 G3 H3 l3 r3 ⟨ks, kk, e3, ek, q3⟩ => ?_⟩⟩
    obtain ⟨_, ws, hp, rk⟩ := l3.cp.own _ _ e3
    have ey := rep_key r2 ek
    subst ey
    obtain ⟨v1, v2⟩ := rk.val (k := kk)
    refine ⟨ws, kk, hp, rfl, fun u eu => ?_, fun eu => ?_⟩
    · cases ed : valD ks kk with
      | none => rw [v2 ed] at eu; cases eu
      | some du =>
        obtain ⟨u', eu', ru⟩ := v1 du ed
        rw [eu'] at eu
        cases eu
        rw [ed] at q3
        have y := Ext.put l3.cp (o := .dK (dropK ws kk)) (u := .dic (dropD ks kk)) e3 (fun x z => by rw [hp] at z; cases z) (fun z => by rw [hp] at z; cases z) (fun _ _ _ z => nomatch z) ⟨_, upd_same, rk.drop⟩
        exact k _ _ _ _ _ (((l1.trans l2).trans l3).trans y) ru q3
    · cases ed : valD ks kk with
      | none =>
        rw [ed] at q3
        exact k _ _ _ _ _ ((l1.trans l2).trans l3) r3 q3
      | some du =>
        obtain ⟨u', eu', ru⟩ := v1 du ed
        rw [eu'] at eu
        cases eu⟩
end
end L3
set_option Elab.async false
set_option linter.all false
set_option maxRecDepth 100000
set_option maxHeartbeats 4000000
namespace L3
open PySem PySem.Spec PyProof.Rows L2
/-! ### list(range(..)), *range(..) -/
abbrev TR3 := St3 → Gp → (Int → Int → Gp → Prop) → Prop
def lowR (K : PySem.W.Frag) (F0 : Pt) (t : TR3) : L2.St → Hp → (Int → Int → Hp → Prop) → Prop := fun σ H Q => ∃ sd F G Q3, At K F0 F sd G σ H ∧ t sd G Q3 ∧ ∀ a b F' G' H', Ext K F G H F' G' H' → Q3 a b G' → Q a b H'
def DRg (X : Cx) (F0 : Pt) (e : Expr) (t : TR3) : Prop := PRg X e (lowR X.K F0 t)
theorem PRg.imp {X : Cx} {e : Expr} {t u : L2.St → Hp → (Int → Int → Hp → Prop) → Prop} (h : PRg X e t) (i : ∀ σ H Q, u σ H Q → t σ H Q) : PRg X e u := fun pins s σ H Q I q => h pins s σ H Q I (i σ H Q q)
def dRg1 (ta : TE3) : TR3 := fun sd G Q => ta sd G fun d G1 => match d with
  | .int n => Q 0 n G1
  | _ => False
def dRg2 (ta tb : TE3) : TR3 := fun sd G Q => ta sd G fun d G1 => tb sd G1 fun d2 G2 => match d, d2 with
  | .int a, .int b => Q a b G2
  | _, _ => False
section
variable {X : Cx} {F0 : Pt} {a b e : Expr} {es : List Expr} {ta tb : TE3} {t : TA3} {p pos p2 : Pos}
theorem drg_1 (ha : DE X F0 a ta) (hm : X.mg "range" = none) (hg : Gl X "range" := by rfl) (na : starEach [a] X.env = (false, eval a X.env) :: starEach [] X.env := by rfl) : DRg X F0 (.Call (.Name "range" p) [a] [] pos) (dRg1 ta) :=
  PRg.imp (prg_1 hg hm ha na) fun σ H Q ⟨sd, F, G, Q3, at_, h, k⟩ => ⟨sd, F, G, _, at_, h, fun d v F1 G1 H1 l1 r1 q1 => by
    cases d <;> first | exact q1.elim | skip
    cases r1
    exact ⟨_, rfl, k _ _ _ _ _ l1 q1⟩⟩
theorem drg_2 (ha : DE X F0 a ta) (hb : DE X F0 b tb) (hm : X.mg "range" = none) (hg : Gl X "range" := by rfl) (na : starEach [a, b] X.env = (false, eval a X.env) :: starEach [b] X.env := by rfl)
    (nb : starEach [b] X.env = (false, eval b X.env) :: starEach [] X.env := by rfl) (hp : (backTo pos (starEach [b] X.env)).any (·.1) = false := by rfl) : DRg X F0 (.Call (.Name "range" p) [a, b] [] pos) (dRg2 ta tb) :=
  PRg.imp (prg_2 hg hm ha hb na nb hp) fun σ H Q ⟨sd, F, G, Q3, at_, h, k⟩ => ⟨sd, F, G, _, at_, h, fun d v F1 G1 H1 l1 r1 q1 => ⟨sd, F1, G1, _, at_.step l1, q1, fun d2 v2 F2 G2 H2 l2 r2 q2 => by
    cases d <;> first | exact q2.elim | skip
    cases d2 <;> first | exact q2.elim | skip
    cases r1
    cases r2
    exact ⟨_, _, rfl, rfl, k _ _ _ _ _ (l1.trans l2) q2⟩⟩⟩
theorem rg_rep {K : PySem.W.Frag} {F : Hp} (a b : Int) : RepL K F (intsD a (b - a).toNat) (rgV a b) := by
  unfold intsD rgV
  have : ∀ l : List Nat, RepL K F (l.map fun i => D.int (a + (i : Nat))) (l.map fun i => V.int (a + (i : Nat))) := by
    intro l
    induction l with
    | nil => exact .nil
    | cons x l ih => exact .cons (.int _) ih
  exact this _
def dLstRg (tr : TR3) : TE3 := fun sd G Q => tr sd G fun a b G1 => RgOk a b ∧ Q (.lst (intsD a (b - a).toNat)) G1
theorem de_listRg {tr : TR3} (hc : X.calm = true) (he : DRg X F0 e tr) (hm : X.mg "list" = none) (hg : Gl X "list" := by rfl) (na : starEach [e] X.env = (false, eval e X.env) :: starEach [] X.env := by rfl) : DE X F0 (.Call (.Name "list" p) [e] [] pos) (dLstRg tr) :=
  PE.imp (pe_listRg hc hg hm he na) fun σ H Q ⟨sd, F, G, Q3, at_, h, k⟩ => ⟨sd, F, G, _, at_, h, fun a b F1 G1 H1 l1 ⟨ok, q1⟩ => ⟨ok, fun q hq => by
    have x := Ext.newF l1.cp (.lst (rgV a b)) hq
    exact k _ _ _ _ _ (l1.trans x) (.lst upd_same (rg_rep a b)) q1⟩⟩
def dTupRg (tr : TR3) : TE3 := fun sd G Q => tr sd G fun a b G1 => RgOk a b ∧ Q (.tup (intsD a (b - a).toNat)) G1
theorem de_tupRg {tr : TR3} (hc : X.calm = true) (he : DRg X F0 e tr) (hm : X.mg "tuple" = none) (hg : Gl X "tuple" := by rfl) (na : starEach [e] X.env = (false, eval e X.env) :: starEach [] X.env := by rfl) : DE X F0 (.Call (.Name "tuple" p) [e] [] pos) (dTupRg tr) :=
  PE.imp (pe_tupRg hc hg hm he na) fun σ H Q ⟨sd, F, G, Q3, at_, h, k⟩ => ⟨sd, F, G, _, at_, h, fun a b F1 G1 H1 l1 ⟨ok, q1⟩ => ⟨ok, fun q hq => by
    have x := Ext.newF l1.cp (.tup (rgV a b)) hq
    exact k _ _ _ _ _ (l1.trans x) (.tup (.inl (.inl upd_same)) (rg_rep a b)) q1⟩⟩
/-- *range(..) -/
def tStarRg (te : L2.St → Hp → (Int → Int → Hp → Prop) → Prop) (t : TA) : TA := fun σ H Q => te σ H fun a b H1 => RgOk a b ∧ t σ H1 fun ys H2 => Q (rgV a b ++ ys) H2
theorem pa_starRg {te : L2.St → Hp → (Int → Int → Hp → Prop) → Prop} {t : TA} {sp : Pos} (hc : X.calm = true) (he : PRg X e te) (hr : PA X es t) (hs : starEach (.Starred e sp :: es) X.env = (true, eval e X.env) :: starEach es X.env := by rfl) : PA X (.Starred e sp :: es) (tStarRg te t) := by
  refine ⟨fun pos pins s σ H Q I h => ?_⟩
  refine PySem.W.items_star (thn (he pins s σ H _ I h) fun x s1 ⟨r, a, b, t, u, v, H1, ex, hrg, I1, ok, q⟩ => ?_) hs
  subst ex
  obtain ⟨b1, b2, b3, b4, b5⟩ := ok
  have hT : s1.TypeIs (.ref r) "range" := ⟨_, hrg, rfl⟩
  unfold PySem.W.StarOf notIterableAtAll
  refine wpAny_bind (wpAny_specialOf hT PySem.F.slot_range_iter.lookup (wpAny_pure ⟨rfl, ?_⟩))
  refine collect_range (n := (b - a).toNat) (I1.ok.hd hc) hrg (small_one b1 b2 b3 b4) (rangeSize_nat a b) b5 fun h' tk acc hk hi => ?_
  have I2 : Inv X pins σ H1 { s1 with heap := h', toks := tk } := I1.kept hk
  exact thn (hr.run pos pins _ σ H1 _ I2 q) fun ws s3 ⟨vs, H3, I3, r3, q3⟩ => ⟨rgV a b ++ vs, H3, I3, (vals_rg hi).append r3, q3⟩
def dStarRg (tr : TR3) (t : TA3) : TA3 := fun sd G Q => tr sd G fun a b G1 => RgOk a b ∧ t sd G1 fun ys G2 => Q (intsD a (b - a).toNat ++ ys) G2
theorem da_starRg {tr : TR3} {sp : Pos} (hc : X.calm = true) (he : DRg X F0 e tr) (hr : DA X F0 es t) (hs : starEach (.Starred e sp :: es) X.env = (true, eval e X.env) :: starEach es X.env := by rfl) : DA X F0 (.Starred e sp :: es) (dStarRg tr t) :=
  PA.imp (pa_starRg hc he hr hs) fun σ H Q ⟨sd, F, G, Q3, at_, h, k⟩ => ⟨sd, F, G, _, at_, h, fun a b F1 G1 H1 l1 ⟨ok, q1⟩ => ⟨ok, sd, F1, G1, _, at_.step l1, q1, fun ys us F2 G2 H2 l2 r2 q2 => k _ _ _ _ _ (l1.trans l2) ((rg_rep a b).append r2) q2⟩⟩
end
/-! ### x in xs, any plain data -/
def rInX (neg : Bool) : R3 := fun x y G Q => ∃ d ds, toData x = some d ∧ toData y = some (.list ds) ∧ SeqAt.shaped d = true ∧ SeqAt.shaped (.list ds) = true ∧ Q (.bl (if neg then !ds.any fun z => PyData.eqv z d else ds.any fun z => PyData.eqv z d)) G
theorem dc_inX {K : PySem.W.Frag} : OpD K (rInD K) (rInX false) := by
  intro F G H x y dx dy Q Q3 c rx ry ⟨d, ds, h1, h2, h3, h4, q⟩ k
  exact ⟨d, ds, rep_dp c.frz rx h1, rep_dp c.frz ry h2, h3, h4, k _ _ _ _ _ (Ext.refl c) (.bl _) q⟩
theorem dc_notinX {K : PySem.W.Frag} : OpD K (rNotInD K) (rInX true) := by
  intro F G H x y dx dy Q Q3 c rx ry ⟨d, ds, h1, h2, h3, h4, q⟩ k
  exact ⟨d, ds, rep_dp c.frz rx h1, rep_dp c.frz ry h2, h3, h4, k _ _ _ _ _ (Ext.refl c) (.bl _) q⟩
theorem op_inX {X : Cx} {j : Nat} (hr : Room j X.A) : OpR X (compareOp .In) (rInD X.K) := op_inD (by have := hr.un; omega)
theorem op_notinX {X : Cx} {j : Nat} (hr : Room j X.A) : OpR X (compareOp .NotIn) (rNotInD X.K) := op_notInD (by have := hr.un; omega)
end L3
set_option Elab.async false
set_option linter.all false
set_option maxRecDepth 100000
set_option maxHeartbeats 4000000
namespace L3
open PySem PySem.Spec PyProof.Rows L2
/-! ### more about dicts -/
theorem putD_new {k : Key} {d : D} : ∀ {ks : List (Key × D)}, k ∉ ks.map (·.1) → putD ks k d = ks ++ [(k, d)]
  | [], _ => rfl
  | (j, e) :: r, h => by
    rw [List.map_cons, List.mem_cons, not_or] at h
    unfold putD
    rw [if_neg fun z => h.1 z.symm, putD_new h.2]
    rfl
theorem mergeD_app : ∀ (more pre : List (Key × D)), ((pre ++ more).map (·.1)).Nodup → mergeD pre more = pre ++ more
  | [], pre, _ => by simp [mergeD]
  | (k, d) :: r, pre, h => by
    have nk : k ∉ pre.map (·.1) := fun hm => by
      rw [List.map_append, List.nodup_append] at h
      exact h.2.2 k hm k (by simp) rfl
    show mergeD (putD pre k d) r = _
    rw [putD_new nk, mergeD_app r (pre ++ [(k, d)]) (by rw [List.append_assoc]; exact h), List.append_assoc]
    rfl
theorem mergeD_nil {more : List (Key × D)} (h : (more.map (·.1)).Nodup) : mergeD [] more = more := mergeD_app more [] h
/-! ### a, b, c = x, y, z -/
theorem RepL.inv3 {K : PySem.W.Frag} {F : Hp} {d d' d2 : D} {vs : List V} (h : RepL K F [d, d', d2] vs) : ∃ v u w, vs = [v, u, w] ∧ Rep K F d v ∧ Rep K F d' u ∧ Rep K F d2 w := by
  cases h with
  | cons r t =>
    obtain ⟨u, w, rfl, r1, r2⟩ := t.inv2
    exact ⟨_, u, w, rfl, r, r1, r2⟩
def dPar3 (i j l : Nat) (t : TA3) : TS3 := fun D sd G => t sd G fun ds G1 => match ds with
  | [d, d', d2] => sput (fun s1 => sput (fun s2 => sput (fun s3 => D.nx s3 G1) (some d2) s2 l) (some d') s1 j) (some d) sd i
  | _ => False
section
variable {X : Cx} {F0 : Pt} {t : TA3} {pos : Pos}
theorem ds_par3 (i j l : Nat) {x y z : Str} {a b c : Expr} {px py pz pt : Pos} {kt k2 pt2} (hc : X.calm = true) (hN : X.N.Nodup) (ha : DA X F0 [a, b, c] t) (hi : X.N[i]? = some x := by rfl) (hj : X.N[j]? = some y := by rfl) (hl : X.N[l]? = some z := by rfl)
    (hij : i ≠ j := by decide) (hil : i ≠ l := by decide) (hjl : j ≠ l := by decide)
    (hx : X.env.scope.names.lookup x = some .local := by rfl) (hy : X.env.scope.names.lookup y = some .local := by rfl) (hz : X.env.scope.names.lookup z = some .local := by rfl)
    (hw : swappedStores [.Tuple [.Name x px, .Name y py, .Name z pz] kt pt] (.Tuple [a, b, c] k2 pt2) X.env = pure (some [x, y, z]) := by rfl)
    (hs : swapsWithSole [.Tuple [.Name x px, .Name y py, .Name z pz] kt pt] (.Tuple [a, b, c] k2 pt2) pos.line X.env = pure false := by rfl) :
    DS X F0 (.Assign [.Tuple [.Name x px, .Name y py, .Name z pz] kt pt] (.Tuple [a, b, c] k2 pt2) pos) (dPar3 i j l t) :=
  PS.imp (ps_par3 hc hN hi hj hl hij hil hjl hx hy hz ha hw hs) fun D σ H ⟨sd, F, G, D3, at_, h, k⟩ => ⟨sd, F, G, _, at_, h, fun ds vs F1 G1 H1 l1 r q => by
    split at q
    · obtain ⟨v, u, w, e, r1, r2, r3⟩ := r.inv3
      subst e
      exact ⟨v, u, w, rfl, k.nx _ _ _ _ _ l1 ((((at_.rs.mono l1.le).set i r1).set j r2).set l r3) (sput_set (K := fun s3 => D3.nx s3 G1) (sput_set (K := fun s2 => sput (fun s3 => D3.nx s3 G1) (some _) s2 l) (sput_set (K := fun s1 => sput (fun s2 => sput (fun s3 => D3.nx s3 G1) (some _) s2 l) (some _) s1 j) q)))⟩
    · exact q.elim⟩
end
end L3
set_option Elab.async false
set_option linter.all false
set_option maxRecDepth 100000
set_option maxHeartbeats 4000000
namespace L3
open PySem PySem.Spec PyProof.Rows L2
/-- the slots of a comprehension's own names forgotten, said without a step that the kernel has to find -/
def swpE : List Nat → St3 → St3
  | [], sd => sd
  | v :: vs, sd => (swpE vs sd).set v none
theorem sput_eq {d : Option D} : ∀ {sd : St3} {i : Nat} {K : St3 → Prop}, K (sd.set i d) → sput K d sd i
  | [], _, _, h => h
  | _ :: _, 0, _, h => h
  | o :: r, n + 1, K, h => sput_eq (sd := r) (i := n) (K := fun z => K (o :: z)) h
theorem swp_go : ∀ {vs : List Nat} {sd : St3} {P : St3 → Prop} (sw : St3), swpE vs sd = sw → P sw → swp P vs sd
  | [], sd, P, sw, e, h => by subst e; exact h
  | v :: vs, sd, P, sw, e, h => by
    subst e
    exact swp_go (vs := vs) (P := fun z => sput P none z v) _ rfl (sput_eq h)
/-- a statement and what follows it, joined by a word about the slots and the heap between them -/
def dJoinI (t u : TS3) : TS3 := fun D sd G => ∃ I : St3 → Gp → Prop, t { D with nx := I } sd G ∧ ∀ sd' G', I sd' G' → u D sd' G'
theorem dss_join {X : Cx} {F0 : Pt} {st : Stmt} {sts : List Stmt} {ts us : TS3} (h1 : DS X F0 st ts) (h2 : DSs X F0 sts us) : DSs X F0 (st :: sts) (dJoinI ts us) :=
  PSs.imp (pss_cons h1 h2) fun D σ H ⟨sd, F, G, D3, at_, ⟨I, h, hi⟩, k⟩ => ⟨sd, F, G, _, at_, h, ⟨fun sd' σ' F' G' H' l rs q => ⟨sd', F', G', D3, ⟨at_.ext.trans l, rs⟩, hi sd' G' q, k.mono l⟩, k.rt, k.bk, k.ct⟩⟩
end L3
set_option Elab.async false
set_option linter.all false
set_option maxRecDepth 100000
set_option maxHeartbeats 4000000
/-! several except clauses, each with a name or without (after the hand layer's rules for both kinds) -/
namespace L2
open PySem PySem.Spec PyProof.Rows
/-- a clause: the class, the slot of its name, what the suite does -/
structure Clause where
  c : Value
  o : Option Nat
  ts : Addr → Value → Option Addr → TS
def asE (o : Option Nat) (D : Ends) : Ends := match o with
  | none => D
  | some i => { nx := fun σ' H' => D.nx (σ'.set i none) H', rt := D.rt, bk := fun σ' H' => D.bk (σ'.set i none) H', ct := fun σ' H' => D.ct (σ'.set i none) H' }
def asS (o : Option Nat) (a : Addr) (σ : St) : St := match o with
  | none => σ
  | some i => σ.set i (some (.ref a))
def wMix (K : PySem.W.Frag) (Wout : WX) (D : Ends) : List Clause → WX
  | [] => Wout
  | k :: r => fun cls d σ H => ∃ b, PySem.W.exmOne K cls k.c = some b ∧ (b = true → ∀ a, H a = none → k.ts a cls d (asE k.o D) (asS k.o a σ) H) ∧ (b = false → wMix K Wout D r cls d σ H)
inductive HdsX (X : Cx) : List ExceptHandler → List Clause → Prop
  | nil : HdsX X [] []
  | cons {x : Str} {c : Value} {ts : Addr → Value → Option Addr → TS} {b₀ : Stmt} {suite : List Stmt} {np pos' : Pos} {hds : List ExceptHandler} {l : List Clause} (hc : Names X x c)
      (hsu : ∀ (a : Addr) (oe : Obj) (cls : Value) (d : Option Addr) (pn : List (Addr × Obj)), Zc cls d oe → (∃ vs, oe.data = .fields vs) → PSs (X.suite a ((a, oe) :: pn)) (b₀ :: suite) (ts a cls d)) (r : HdsX X hds l) :
      HdsX X (.ExceptHandler (some (.Name x np)) none (b₀ :: suite) pos' :: hds) (⟨c, none, ts⟩ :: l)
  | named {x n : Str} {c : Value} {i : Nat} {ts : Addr → Value → Option Addr → TS} {b₀ : Stmt} {suite : List Stmt} {np pos' : Pos} {hds : List ExceptHandler} {l : List Clause} (hc : Names X x c) (hi : X.N[i]? = some n) (hln : X.env.kindOf n = some .local)
      (hsu : ∀ (a : Addr) (oe : Obj) (cls : Value) (d : Option Addr) (pn : List (Addr × Obj)), Zc cls d oe → (∃ vs, oe.data = .fields vs) → PSs (X.suite a ((a, oe) :: pn)) (b₀ :: suite) (ts a cls d)) (r : HdsX X hds l) :
      HdsX X (.ExceptHandler (some (.Name x np)) (some n) (b₀ :: suite) pos' :: hds) (⟨c, some i, ts⟩ :: l)
section
variable {X : Cx} {body : List Stmt} {h₀ : ExceptHandler} {hds : List ExceptHandler} {l : List Clause} {pos : Pos} {tb : WX → TS} {Wout : WX}
theorem ps_try_mix (hs : X.stack = X.env :: X.outer) (hf : X.env.frame = some X.env.locals) (tk : Takes X Wout)
    (hb : ∀ (W : WX) (pn : List (Addr × Obj)) (xe : Value → Shared → Prop), Takes (X.tr pn xe) W → PassesOwn (model X.prog X.w) X.A X.env xe → PSs (X.tr pn xe) body (tb W))
    (hN : X.N.Nodup) (hh : HdsX X (h₀ :: hds) l) : PS X (.Try body (h₀ :: hds) [] [] pos) (fun D σ H => tb (wMix X.K Wout D l) D σ H) := by
  refine ⟨fun pins s σ H D I h => ?_⟩
  have ok := I.ok
  have hfr : X.A.frames = some (X.env :: X.outer) := by rw [ok.frames, hs]
  refine wpAny_Try_except ?_
  refine wpAny_mono ((hb (wMix X.K Wout D l) (X.pn ++ pins) (fun e s₁ => wpAny (model X.prog X.w) X.A (noteFrame e X.env) (fun _ s₂ => wpAny (model X.prog X.w) X.A (setFlight e none) (fun _ s₃ =>
    wpAny (model X.prog X.w) X.A (handleBy e X.env (h₀ :: hds)) (SP X pins D) X.xe s₃) X.xe s₂) X.xe s₁) (fun u s' xx => ?_) PassesOwn.looking).run [] s σ H D (I.toTry _) h) (fun f s1 hsp => ?_) (fun e s1 he => he)
  · -- the catch
    obtain ⟨a, B, sI, pins', σ', H', cls, d, rfl, J', nb, up, sky, na, os, ag, w⟩ := xx
    have J : Inv X pins σ' H' sI := J'.ofTry ok
    have sky' : Sky B (X.env :: X.outer) a (Zc cls d) X.env.locals s'.heap := by rw [← hs]; exact sky
    show wpAny (model X.prog X.w) X.A (noteFrame (.ref a) X.env) _ _ _
    refine Sky.land Zc.steady hfr hf sky' fun h3 fl3 up3 => ?_
    have J3 : Inv X pins σ' H' { s' with heap := h3 } := J.landed nb fl3.1 (up.trans up3) os ag
    obtain ⟨oe3, vs3, he3, hz3, hd3⟩ := fl3.there
    have notFr : ∀ {h : Heap} {o : Obj} {vs : Array Value}, h.FunFrames B (X.env :: X.outer) → h.get? a = some o → o.data = .fields vs → a ∉ frs (X.env :: X.outer) := fun {h o vs} ff e dd hm => by
      obtain ⟨_, o', e', hnf⟩ := ff.mem hm
      rw [e] at e'; cases e'
      exact hnf _ dd
    have nfr := notFr fl3.2.2.1 he3 hd3
    have nL : a ≠ X.env.locals := fun z => nfr (List.mem_filterMap.mpr ⟨X.env, List.mem_cons_self, by rw [hf, z]⟩)
    have nF : a ∉ X.fs := fun hm => by
      obtain ⟨e, he, q⟩ := List.mem_filterMap.mp hm
      exact nfr (List.mem_filterMap.mpr ⟨e, List.mem_cons_of_mem _ he, q⟩)
    have S3 := J3.suite he3 hd3 na nL nF
    have go : ∀ {hds' : List ExceptHandler} {l' : List Clause}, HdsX X hds' l' → wMix X.K Wout D l' cls d σ' H' →
        wpAny (model X.prog X.w) X.A (handleBy (.ref a) X.env hds') (SP X pins D) X.xe { s' with heap := h3 } := by
      intro hds' l' hk
      induction hk with
      | nil =>
        intro w
        refine wpAny_handleBy_nil ?_
        obtain ⟨k1, k2, k3, oe, vs, T, oT, ts', he, hz, hd, h1, hr⟩ := id fl3
        unfold PySem.passOn
        refine wpAny_bind (wpAny_field he hd h1 ?_)
        rw [if_neg (show ¬ ((Value.ref T == Value.none) = true) from by simp)]
        have fin : wpAny (model X.prog X.w) X.A (setFlight (.ref a) X.env.frame) (fun _ s4 => wpAny (model X.prog X.w) X.A (throw (.ref a) : Sem Flow) (SP X pins D) X.xe s4) X.xe { s' with heap := h3 } := by
          rw [hf]
          refine HandSPX.setFlight_upZ fl3 fun h4 hh4 up4 => wpAny_throw (tk _ _ ?_)
          exact ⟨a, B, sI, pins, σ', H', cls, d, rfl, J, nb, (up.trans up3).trans up4, .inr (.inr (by rw [hs]; exact hh4)), na, os, ag, w⟩
        first
          | exact wpAny_bind (wpAny_pure (wpAny_bind fin))
          | exact wpAny_bind fin
      | @cons x c ts b₀ suite np pos' hds2 l2 hc hsu r ih =>
        intro w
        obtain ⟨b, hb1, hyes, hno⟩ := w
        refine wpAny_handleBy_cons (codeAny_handlers_test ?_) (by intro q; cases q)
        have LT : PySem.W.Looks (model X.prog X.w) h3 (typeOf (.ref a)) cls := fun A Q E s k q => wpAny_typeOf_ref (k _ _ he3) (by rw [hz3.1]; exact q)
        have LM := PySem.W.exm_one (M := model X.prog X.w) (J3.kIn) LT hb1
        have test : ∀ {Q : Value → Shared → Prop} {E : Value → Shared → Prop}, Q c { s' with heap := h3 } → wpAny (model X.prog X.w) (X.A.mark (some (.ref a))) (eval (.Name x np) X.env) Q E { s' with heap := h3 } := fun {Q E} q => by
          obtain ⟨hg, hdbg, hm | ⟨hm, hv, hnn⟩⟩ := hc
          · exact ld_glob (X := X.suite a ((a, oe3) :: (X.pn ++ pins))) S3 hg hm q hdbg
          · exact ld_blt (X := X.suite a ((a, oe3) :: (X.pn ++ pins))) S3 hg hm hv q hnn hdbg
        refine test (LM.here ?_)
        cases b with
        | true =>
          refine codeAny_handlers_suite ?_
          refine HandSPX.lands_againZ fl3 fun h4 fl4 up4 => ?_
          have J4 : Inv X pins σ' H' { s' with heap := h4 } := J.landed nb fl4.1 ((up.trans up3).trans up4) os ag
          obtain ⟨oe4, vs4, he4, hz4, hd4⟩ := fl4.there
          have S4 := J4.suite he4 hd4 na nL nF
          refine wpAny_mono ((hsu a oe4 cls d (X.pn ++ pins) hz4 ⟨_, hd4⟩).run [] _ _ H' _ S4 (hyes rfl a na)) (fun f s6 hsp => ?_) (fun _ _ z => False.elim z)
          cases f with
          | next =>
            obtain ⟨σ6, H6, S6, q6⟩ := hsp
            exact ⟨_, _, S6.unsuite ok, q6⟩
          | brk =>
            obtain ⟨σ6, H6, S6, q6⟩ := hsp
            exact ⟨_, _, S6.unsuite ok, q6⟩
          | cont =>
            obtain ⟨σ6, H6, S6, q6⟩ := hsp
            exact ⟨_, _, S6.unsuite ok, q6⟩
          | ret u =>
            obtain ⟨v6, σ6, H6, S6, r6, q6⟩ := hsp
            exact ⟨_, _, _, S6.unsuite ok, r6, q6⟩
        | false =>
          show wpAny _ X.A (handleBy (.ref a) X.env hds2) _ _ _
          exact ih (hno rfl)
      | @named x n c i ts b₀ suite np pos' hds2 l2 hc hi hln hsu r ih =>
        intro w
        obtain ⟨b, hb1, hyes, hno⟩ := w
        refine wpAny_handleBy_cons (codeAny_handlers_test ?_) (by intro q; cases q)
        have LT : PySem.W.Looks (model X.prog X.w) h3 (typeOf (.ref a)) cls := fun A Q E s k q => wpAny_typeOf_ref (k _ _ he3) (by rw [hz3.1]; exact q)
        have LM := PySem.W.exm_one (M := model X.prog X.w) (J3.kIn) LT hb1
        have test : ∀ {Q : Value → Shared → Prop} {E : Value → Shared → Prop}, Q c { s' with heap := h3 } → wpAny (model X.prog X.w) (X.A.mark (some (.ref a))) (eval (.Name x np) X.env) Q E { s' with heap := h3 } := fun {Q E} q => by
          obtain ⟨hg, hdbg, hm | ⟨hm, hv, hnn⟩⟩ := hc
          · exact ld_glob (X := X.suite a ((a, oe3) :: (X.pn ++ pins))) S3 hg hm q hdbg
          · exact ld_blt (X := X.suite a ((a, oe3) :: (X.pn ++ pins))) S3 hg hm hv q hnn hdbg
        refine test (LM.here ?_)
        cases b with
        | true =>
          refine codeAny_handlers_suite_as ?_
          refine HandSPX.lands_againZ fl3 fun h4 fl4 up4 => ?_
          have J4 : Inv X pins σ' H' { s' with heap := h4 } := J.landed nb fl4.1 ((up.trans up3).trans up4) os ag
          obtain ⟨oe4, vs4, he4, hz4, hd4⟩ := fl4.there
          have S4 := J4.suite he4 hd4 na nL nF
          refine store_ok (X := X.suite a ((a, oe4) :: (X.pn ++ pins))) (v := .ref a) S4 hN hi (.inl hln) rfl (fun s5 S5 => ?_) (.inr hln)
          refine wpAny_mono ((hsu a oe4 cls d (X.pn ++ pins) hz4 ⟨_, hd4⟩).run [] s5 _ H' _ S5 (hyes rfl a na)) (fun f s6 hsp => ?_) (fun _ _ z => False.elim z)
          have end_ : ∀ {σ6 : St} {H6 : Hp} {Q : Shared → Prop}, Inv (X.suite a ((a, oe4) :: (X.pn ++ pins))) [] σ6 H6 s6 → (∀ s7, Inv X pins (σ6.set i none) H6 s7 → Q s7) →
              wpAny (model X.prog X.w) X.A (do bindName X.env n .none; unbindBehindTheSuite X.env n pos') (fun _ s7 => Q s7) X.xe s6 := fun {σ6 H6 Q} S6 hq => gone_ok (S6.unsuite ok) hN hi hln hq
          cases f with
          | next =>
            obtain ⟨σ6, H6, S6, q6⟩ := hsp
            exact end_ S6 fun s7 J7 => ⟨_, _, J7, q6⟩
          | brk =>
            obtain ⟨σ6, H6, S6, q6⟩ := hsp
            exact end_ S6 fun s7 J7 => ⟨_, _, J7, q6⟩
          | cont =>
            obtain ⟨σ6, H6, S6, q6⟩ := hsp
            exact end_ S6 fun s7 J7 => ⟨_, _, J7, q6⟩
          | ret u =>
            obtain ⟨v6, σ6, H6, S6, r6, q6⟩ := hsp
            exact end_ S6 fun s7 J7 => ⟨_, _, _, J7, r6, q6⟩
        | false =>
          show wpAny _ X.A (handleBy (.ref a) X.env hds2) _ _ _
          exact ih (hno rfl)
    exact go hh w
  · cases f with
    | next =>
      obtain ⟨σ', H', J', q⟩ := hsp
      exact wpAny_execs_nil ⟨σ', H', J'.ofTry ok, q⟩
    | brk =>
      obtain ⟨σ', H', J', q⟩ := hsp
      exact ⟨σ', H', J'.ofTry ok, q⟩
    | cont =>
      obtain ⟨σ', H', J', q⟩ := hsp
      exact ⟨σ', H', J'.ofTry ok, q⟩
    | ret u =>
      obtain ⟨v, σ', H', J', r, q⟩ := hsp
      exact ⟨v, σ', H', J'.ofTry ok, r, q⟩
end
end L2
namespace L3
open PySem PySem.Spec PyProof.Rows L2
/-! ### raise C(e): an own class whose __init__ keeps its one argument in a field -/
def InitIs (st : Stmt) (f : Str) : Prop := ∃ p1 p2 p3 p4, defBody st = [.Assign [.Attribute (.Name "self" p1) f p2] (.Name f p3) p4]
structure ExcAt (K : PySem.W.Frag) (mg : Str → Option Value) (x : Str) (C : Addr) (f qual : Str) (st : Stmt) : Prop where
  oex : OexC K C
  xf : XfC K C
  g : mg x = some (.ref C)
  no : PySem.W.findIn K (.ref C) f = some none
  fn : ∃ fI fd, PySem.W.findIn K (.ref C) "__init__" = some (some (.ref fI)) ∧ PySem.W.typeIn K (.ref fI) = some (.type "function") ∧ Fun K "__init__" qual st fI fd ∧ Binds K fd ["self", f] []
def spI (K : PySem.W.Frag) (f : Str) : Sp := fun vs H Q _ => ∃ (a C : Addr) (y : V), vs = [.ref a, y] ∧ OexC K C ∧ PySem.W.findIn K (.ref C) f = some none ∧ H a = some (exo a C none) ∧ ∀ dx, H dx = none → dx ≠ a → Q .non (upd (upd H dx (exd dx [(f, y)])) a (exo a C (some dx)))
section
variable {P : Program} {w : World} {K : PySem.W.Frag} {mg : Str → Option Value} {base : Heap}
theorem spI_ok {f qual : Str} {st : Stmt} {fI : Addr} {fd : FuncData} (F : Fun K "__init__" qual st fI fd) (S : FnScope ["self", f] ["self", f] (defScope st)) (B : InitIs st f) (hdf : (f == ("__debug__" : Str)) = false) (hcf : (f == ("__classdict__" : Str)) = false)
    (hv : Vis (defScope st) "self") (hvf : Vis (defScope st) f) (hsw : ∀ (env : Env) p1 p2 p3 (p4 : Pos), swapsWith (.Name f p3) (some (.Attribute (.Name "self" p1) f p2)) p4.line env = pure false) : FnOk P w K mg base CX0 1 fI fd ["self", f] (spI K f) := by
  refine Fun.ok F S (fun vs H Q E ⟨_, _, _, e, _⟩ => by rw [e]; rfl) fun cdv A outer s H vs Q E hr ⟨a, C, y, ev, T, no, ea, q⟩ => ?_
  obtain ⟨p1, p2, p3, p4, eb⟩ := B
  subst ev
  rw [eb]
  refine ⟨_, pss_one (ps_ost (pe_var (i := 0) rfl hv (by decide) (by decide)) (pe_var (i := 1) rfl hvf hdf hcf) (hsw _ _ _ _ _)), ?_⟩
  refine ⟨y, rfl, .ref a, rfl, a, C, rfl, T, no, .inl ⟨ea, fun dx n ne => q dx n ne⟩⟩
end
section
variable {X : Cx} {F0 : Pt} {e : Expr} {te : TE3} {W : WK} {x f qual : Str} {C : Addr} {st : Stmt} {p pos pos2 : Pos} {j : Nat}
def dRaise (C : Addr) (f : Str) (W : WK) (te : TE3) : TS3 := fun _ sd G => te sd G fun d G1 => W C [(f, d)] sd G1
theorem ds_raise3 (A : ExcAt X.K X.mg x C f qual st) (hc : X.calm = true) (hr : Room j X.A) (tk : Takes X (lowW X.K F0 W)) (he : DE X F0 e te) (S : FnScope ["self", f] ["self", f] (defScope st)) (B : InitIs st f) (hj : 2 ≤ j := by decide)
    (hdf : (f == ("__debug__" : Str)) = false := by decide) (hcf : (f == ("__classdict__" : Str)) = false := by decide) (hv : Vis (defScope st) "self" := by first | exact Or.inl rfl | exact Or.inr (Or.inl rfl) | exact Or.inr (Or.inr rfl)) (hvf : Vis (defScope st) f := by first | exact Or.inl rfl | exact Or.inr (Or.inl rfl) | exact Or.inr (Or.inr rfl))
    (hsw : ∀ (env : Env) p1 p2 p3 (p4 : Pos), swapsWith (.Name f p3) (some (.Attribute (.Name "self" p1) f p2)) p4.line env = pure false := by intros; rfl) (hg : Gl X x := by rfl) (hdb : (x == ("__debug__" : Str)) = false := by decide)
    (hs : starEach (e :: []) X.env = (false, eval e X.env) :: starEach [] X.env := by rfl) (hpl : (backTo pos (starEach [] X.env)).any (·.1) = false := by rfl) :
    DS X F0 (.Raise (some (.Call (.Name x p) [e] [] pos)) none pos2) (dRaise C f W te) := by
  obtain ⟨fI, fd, iC, tI, F, b⟩ := A.fn
  have F1 := spI_ok (P := X.prog) (w := X.w) (mg := X.mg) (base := X.base) F S B hdf hcf hv hvf hsw
  refine PS.imp (ps_raise hc tk (pmk_oex A.oex iC tI F1 (hr.mono hj) b .nil pass0 hg A.g (pa_cons he pa_nil hs) hdb hs hpl)) fun D σ H ⟨sd, F, G, D3, at_, h, k⟩ => ?_
  refine ⟨sd, F, G, _, at_, h, fun d v F1 G1 H1 l r q => ⟨(by decide : 1 ≤ 1000), fun a ha => ?_⟩⟩
  refine ⟨a, C, v, rfl, A.oex, A.no, upd_same, fun dx n ne => ?_⟩
  have n1 : H1 dx = none := by rwa [upd_ne ne] at n
  refine ⟨rfl, dx, [(f, v)], upd_same, ?_, n1, ?_⟩
  · rw [upd_ne ne]
    exact upd_same
  have eh : upd (del (upd (upd (upd H1 a (exo a C none)) dx (exd dx [(f, v)])) a (exo a C (some dx))) a) dx (.xd [(f, v)]) = upd H1 dx (.xd [(f, v)]) := by
    funext b
    by_cases hb : b = dx
    · rw [hb, upd_same, upd_same]
    · rw [upd_ne hb, upd_ne hb]
      by_cases hba : b = a
      · rw [hba, del_same, ha]
      · rw [del_ne hba, upd_ne hba, upd_ne hb, upd_ne hba]
  rw [eh]
  obtain ⟨nF, nG⟩ := l.cp.free n1
  have y := Ext.newF l.cp (.xd [(f, v)]) n1
  exact ⟨sd, _, G1, C, [(f, d)], at_.step (l.trans y), rfl, .inr ⟨dx, [(f, v)], rfl, upd_same, .cons (r.mono y.le) .nil⟩, q⟩
end
/-! ### try: .. except C: .. except C as e: .. -/
/-- the exception's fields, at a point -/
def XL (K : PySem.W.Frag) (o : Pt) (d : Option Addr) (fs : List (Str × D)) : Prop := fs = [] ∨ ∃ dd ws, d = some dd ∧ o.F dd = some (.xd ws) ∧ RepF K o.F fs ws
structure Cl3 where
  c : Value
  o : Option Nat
  ts : Addr → Addr → List (Str × D) → TS3
def asE3 (o : Option Nat) (D : Ends3) : Ends3 := match o with
  | none => D
  | some i => { nx := fun sd G => D.nx (sd.set i none) G, rt := D.rt, bk := fun sd G => D.bk (sd.set i none) G, ct := fun sd G => D.ct (sd.set i none) G }
def asS3 (o : Option Nat) (a : Addr) (sd : St3) : St3 := match o with
  | none => sd
  | some i => sd.set i (some (.ref a))
def wMix3 (K : PySem.W.Frag) (Wout : WK) (D : Ends3) : List Cl3 → WK
  | [] => Wout
  | k :: r => fun C fs sd G => ∃ b, PySem.W.exmOne K (.ref C) k.c = some b ∧ br b (∀ a, k.ts a C fs (asE3 k.o D) (asS3 k.o a sd) G) (wMix3 K Wout D r C fs sd G)
def lowTs (K : PySem.W.Frag) (t : Addr → Addr → List (Str × D) → TS3) : Addr → Value → Option Addr → TS := fun a cls d D σ H => ∃ C fs o, cls = .ref C ∧ XL K o d fs ∧ lowS K o (t a C fs) D σ H
def lowCl (K : PySem.W.Frag) (k : Cl3) : Clause := ⟨k.c, k.o, lowTs K k.ts⟩
theorem QE.as {K : PySem.W.Frag} {F H : Hp} {G : Gp} {D3 : Ends3} {D : Ends} (q : QE K F G H D3 D) (o : Option Nat) : QE K F G H (asE3 o D3) (asE o D) := by
  cases o with
  | none => exact q
  | some i => exact ⟨fun sd σ F' G' H' l r h => q.nx _ _ _ _ _ l (r.forget i none) h, q.rt, fun sd σ F' G' H' l r h => q.bk _ _ _ _ _ l (r.forget i none) h, fun sd σ F' G' H' l r h => q.ct _ _ _ _ _ l (r.forget i none) h⟩
theorem RepS.as {K : PySem.W.Frag} {F : Hp} {sd : St3} {σ : L2.St} (r : RepS K F sd σ) (o : Option Nat) (a : Addr) : RepS K F (asS3 o a sd) (asS o a σ) := by
  cases o with
  | none => exact r
  | some i => exact r.set i (.ref a)
theorem XR.link {K : PySem.W.Frag} {F H : Hp} {G : Gp} {d : Option Addr} {fs : List (Str × D)} (x : XR K F H d fs) : XL K ⟨F, G, H⟩ d fs := x.elim (fun h => .inl h.1) .inr
inductive HdsD (X : Cx) : List ExceptHandler → List Cl3 → Prop
  | nil : HdsD X [] []
  | cons {x : Str} {c : Value} {ts : Addr → Addr → List (Str × D) → TS3} {b₀ : Stmt} {suite : List Stmt} {np pos' : Pos} {hds : List ExceptHandler} {l : List Cl3} (hc : Names X x c)
      (hsu : ∀ (a : Addr) (oe : Obj) (cls : Value) (d : Option Addr) (pn : List (Addr × Obj)) (C : Addr) (fs : List (Str × D)) (o : Pt), Zc cls d oe → (∃ vs, oe.data = .fields vs) → cls = .ref C → XL X.K o d fs → DSs (X.suite a ((a, oe) :: pn)) o (b₀ :: suite) (ts a C fs)) (r : HdsD X hds l) :
      HdsD X (.ExceptHandler (some (.Name x np)) none (b₀ :: suite) pos' :: hds) (⟨c, none, ts⟩ :: l)
  | named {x n : Str} {c : Value} {i : Nat} {ts : Addr → Addr → List (Str × D) → TS3} {b₀ : Stmt} {suite : List Stmt} {np pos' : Pos} {hds : List ExceptHandler} {l : List Cl3} (hc : Names X x c) (hi : X.N[i]? = some n) (hln : X.env.kindOf n = some .local)
      (hsu : ∀ (a : Addr) (oe : Obj) (cls : Value) (d : Option Addr) (pn : List (Addr × Obj)) (C : Addr) (fs : List (Str × D)) (o : Pt), Zc cls d oe → (∃ vs, oe.data = .fields vs) → cls = .ref C → XL X.K o d fs → DSs (X.suite a ((a, oe) :: pn)) o (b₀ :: suite) (ts a C fs)) (r : HdsD X hds l) :
      HdsD X (.ExceptHandler (some (.Name x np)) (some n) (b₀ :: suite) pos' :: hds) (⟨c, some i, ts⟩ :: l)
theorem HdsD.low {X : Cx} : ∀ {hds : List ExceptHandler} {l : List Cl3}, HdsD X hds l → HdsX X hds (l.map (lowCl X.K)) := by
  intro hds l h
  induction h with
  | nil => exact .nil
  | cons hc hsu r ih => exact .cons hc (fun a oe cls d pn hz hf => ⟨fun pins s σ H D I ⟨C, fs, o, hC, hx, low⟩ => (hsu a oe cls d pn C fs o hz hf hC hx).run pins s σ H D I low⟩) ih
  | named hc hi hln hsu r ih => exact .named hc hi hln (fun a oe cls d pn hz hf => ⟨fun pins s σ H D I ⟨C, fs, o, hC, hx, low⟩ => (hsu a oe cls d pn C fs o hz hf hC hx).run pins s σ H D I low⟩) ih
def dTry (K : PySem.W.Frag) (tb : WK → TS3) (Wout : WK) (l : List Cl3) : TS3 := fun D sd G => tb (wMix3 K Wout D l) D sd G
theorem low_mix {K : PySem.W.Frag} {F0 : Pt} {Wout : WK} {D3 : Ends3} {D : Ends} {sd : St3} {F H : Hp} {G : Gp} {σ : L2.St} (at_ : At K F0 F sd G σ H) (k : QE K F G H D3 D) {cls : Value} {d : Option Addr} {σ' : L2.St} {H' : Hp} :
    ∀ {l : List Cl3}, lowW K ⟨F, G, H⟩ (wMix3 K Wout D3 l) cls d σ' H' → wMix K (lowW K F0 Wout) D (l.map (lowCl K)) cls d σ' H'
  | [], ⟨sd', F', G', C, fs, at', hC, xr, w⟩ => ⟨sd', F', G', C, fs, ⟨at_.ext.trans at'.ext, at'.rs⟩, hC, xr, w⟩
  | c :: l, ⟨sd', F', G', C, fs, at', hC, xr, b, eb, w⟩ => by
    subst hC
    refine ⟨b, eb, fun e a _ => ?_, fun e => ?_⟩
    · subst e
      exact ⟨C, fs, ⟨F', G', H'⟩, rfl, xr.link, asS3 c.o a sd', F', G', asE3 c.o D3, ⟨Ext.refl at'.cp, at'.rs.as c.o a⟩, w a, (k.mono at'.ext).as c.o⟩
    · subst e
      exact low_mix at_ k (l := l) ⟨sd', F', G', C, fs, at', rfl, xr, w⟩
theorem ds_try3 {X : Cx} {F0 : Pt} {body : List Stmt} {h₀ : ExceptHandler} {hds : List ExceptHandler} {l : List Cl3} {pos : Pos} {tb : WK → TS3} {Wout : WK} (hs : X.stack = X.env :: X.outer) (hf : X.env.frame = some X.env.locals) (tk : Takes X (lowW X.K F0 Wout)) (hN : X.N.Nodup)
    (hb : ∀ (o : Pt) (W : WK) (pn : List (Addr × Obj)) (xe : Value → Shared → Prop), Takes (X.tr pn xe) (lowW X.K o W) → PassesOwn (model X.prog X.w) X.A X.env xe → DSs (X.tr pn xe) o body (tb W))
    (hh : HdsD X (h₀ :: hds) l) : DS X F0 (.Try body (h₀ :: hds) [] [] pos) (dTry X.K tb Wout l) :=
  PS.imp (ps_try_mix (tb := fun W D σ H => ∃ o W3, (∀ cls d σ' H', lowW X.K o W3 cls d σ' H' → W cls d σ' H') ∧ lowS X.K o (tb W3) D σ H) hs hf tk
    (fun W pn xe tkW po => ⟨fun pins s σ H D I ⟨o, W3, hi, low⟩ => (hb o W3 pn xe (Takes.imp tkW hi) po).run pins s σ H D I low⟩) hN hh.low)
    fun D σ H ⟨sd, F, G, D3, at_, h, k⟩ => ⟨⟨F, G, H⟩, wMix3 X.K Wout D3 l, fun cls d σ' H' w => low_mix at_ k w, sd, F, G, D3, ⟨Ext.refl at_.cp, at_.rs⟩, h, k⟩
/-! ### e.f of the caught exception -/
def dXf (C : Addr) (f : Str) (a : Addr) (C' : Addr) (fs : List (Str × D)) (te : TE3) : TE3 := fun sd G Q => te sd G fun x G1 => x = .ref a ∧ C' = C ∧ ∃ v, fs.lookup f = some v ∧ Q v G1
theorem RepF.look {K : PySem.W.Frag} {F : Hp} {f : Str} : ∀ {fs : List (Str × D)} {ws : List (Str × V)} {v : D}, RepF K F fs ws → fs.lookup f = some v → ∃ u, ws.lookup f = some u ∧ Rep K F v u
  | _, _, _, .nil, e => by cases e
  | _, _, v, .cons (f := g) h r, e => by
    rw [List.lookup_cons] at e
    rw [List.lookup_cons]
    split at e
    · cases e
      exact ⟨_, rfl, h⟩
    · exact RepF.look r e
theorem de_xf {X : Cx} {o : Pt} {x f qual : Str} {st : Stmt} {C : Addr} {a : Addr} {oe : Obj} {cls : Value} {d : Option Addr} {pn : List (Addr × Obj)} {C' : Addr} {fs : List (Str × D)} {e : Expr} {te : TE3} {pos : Pos} (A : ExcAt X.K X.mg x C f qual st)
    (hz : Zc cls d oe) (hf : ∃ vs, oe.data = .fields vs) (hC : cls = .ref C') (hx : XL X.K o d fs) (he : DE (X.suite a ((a, oe) :: pn)) o e te) (hb : attributeBase e f X.env (eval e X.env) = eval e X.env := by rfl) :
    DE (X.suite a ((a, oe) :: pn)) o (.Attribute e f pos) (dXf C f a C' fs te) :=
  PE.imp (pe_xf A.xf A.no hz hf he hb) fun σ H Q ⟨sd, F, G, Q3, at_, h, k⟩ => ⟨sd, F, G, _, at_, h, fun x v F1 G1 H1 l r ⟨ex, ec, v3, el, q⟩ => by
    subst ex ec hC
    cases r
    refine ⟨rfl, rfl, ?_⟩
    rcases hx with e0 | ⟨dd, ws, ed, eF, rf⟩
    · subst e0
      cases el
    · obtain ⟨u, eu, ru⟩ := rf.look el
      have le : Le o.F F1 := at_.ext.le.trans l.le
      exact ⟨dd, ws, u, ed, l.cp.frz _ _ (le _ _ eF), eu, k _ _ _ _ _ l (ru.mono le) q⟩⟩
end L3
set_option Elab.async false
set_option linter.all false
set_option maxRecDepth 100000
set_option maxHeartbeats 4000000
namespace L3
open PySem PySem.Spec PyProof.Rows L2
/-! ### an exception class's facts, as a Bool of the written part -/
theorem xsh_of {K : PySem.W.Frag} {C : Addr} {new : String} {tail : List Value → Bool} (h : xshB K C new tail = true) : ∃ nm q N bs bm sn sub ab col dd k0 k1 k2 k3 k5, K.lookup C = some (excClassObj nm q C N bs bm true sn sub ab col dd k0 k1 k2 k3 k5 new) ∧ tail bm = true := by
  unfold xshB at h
  split at h
  · rename_i dd cd sl ho
    split at h
    · rename_i C' bm k0 k1 k2 k3 n k5 hm hs
      simp only [Bool.and_eq_true, beq_iff_eq, Bool.not_eq_true'] at h
      obtain ⟨rfl, rfl, hd, hdel, ht⟩ := h
      obtain ⟨nm, bs, mro, ns, qn, hdd, sn, sub, ab, col, del⟩ := cd
      dsimp only at hm hdel hd
      subst hm hdel hd
      have hsl : sl = #[k0, k1, k2, k3, some (.builtin n), k5] := by
        obtain ⟨l⟩ := sl
        simp only at hs
        rw [hs]
      subst hsl
      exact ⟨nm, qn, ns, bs, bm, sn, sub, ab, col, dd, k0, k1, k2, k3, k5, ho, ht⟩
    · cases h
  · cases h
open He He5
theorem exc_of {K : PySem.W.Frag} {mg : Str → Option Value} {x : Str} {C : Addr} {f qual : Str} {st : Stmt} {fd : FuncData} (h : xcB K C f = true) (g : mg x = some (.ref C)) (F : Fun K "__init__" qual st (ma K C "__init__") fd) (b : Binds K fd ["self", f] []) : ExcAt K mg x C f qual st := by
  obtain ⟨h1, h⟩ := ba h
  obtain ⟨h2, h⟩ := ba h
  obtain ⟨h3, h⟩ := ba h
  obtain ⟨h4, h⟩ := ba h
  obtain ⟨h5, h⟩ := ba h
  obtain ⟨h6, h⟩ := ba h
  obtain ⟨h7, h⟩ := ba h
  obtain ⟨h8, h9⟩ := ba h
  exact ⟨⟨xsh_of h1, eqO_ok h2, of_decide_eq_true h3, of_decide_eq_true h4, h5⟩, xfB_ok h6, g, of_decide_eq_true h7, _, fd, eqO_ok h8, of_decide_eq_true h9, F, b⟩
theorem ex_of {K : PySem.W.Frag} {C C' : Addr} {b : Bool} (h : exB K C C' b = true) : PySem.W.exmOne K (.ref C) (.ref C') = some b := of_decide_eq_true h
end L3
set_option Elab.async false
set_option linter.all false
set_option maxRecDepth 100000
set_option maxHeartbeats 4000000
namespace L3
open PySem PySem.Spec PyProof.Rows L2 PySem.NumText
/-! ### texts: slices, digits -/
theorem cut_from (x : Str) (k : Nat) : TL.tl (cutS x (some ((k : Nat) : Int)) none) = (TL.tl x).drop k := by
  unfold cutS
  rw [HT.sIx_nat]
  show ((x.cps.toList.drop (min k x.length)).take (x.length - min k x.length)).toArray.toList = x.cps.toList.drop k
  have hl : x.length = x.cps.toList.length := S_length x
  rw [List.toList_toArray]
  by_cases h : k ≤ x.length
  · rw [Nat.min_eq_left h, List.take_of_length_le (by rw [List.length_drop, ← hl]; omega)]
  · rw [Nat.min_eq_right (by omega), List.drop_eq_nil_of_le (by rw [← hl]; omega), List.drop_eq_nil_of_le (by rw [← hl]; omega)]
    simp
theorem cut_to (x : Str) (k : Nat) : TL.tl (cutS x none (some ((k : Nat) : Int))) = (TL.tl x).take k := by
  unfold cutS
  rw [HT.sIx_nat]
  show ((x.cps.toList.drop 0).take (min k x.length - 0)).toArray.toList = x.cps.toList.take k
  have hl : x.length = x.cps.toList.length := S_length x
  rw [List.toList_toArray, List.drop_zero, Nat.sub_zero]
  by_cases h : k ≤ x.length
  · rw [Nat.min_eq_left h]
  · rw [Nat.min_eq_right (by omega), List.take_of_length_le (by rw [← hl]; exact Nat.le_refl _), List.take_of_length_le (by rw [← hl]; omega)]
theorem digitsVal_lt : ∀ {cs : List Nat} {a k : Nat}, AllDigits cs → a < 10 ^ k → cs.foldl (fun acc c => acc * 10 + (c - 48)) a < 10 ^ (k + cs.length)
  | [], a, k, _, h => h
  | c :: cs, a, k, hd, h => by
    have hc := hd c List.mem_cons_self
    have := digitsVal_lt (cs := cs) (a := a * 10 + (c - 48)) (k := k + 1) hd.tail (by rw [Nat.pow_succ]; omega)
    show cs.foldl _ (a * 10 + (c - 48)) < 10 ^ (k + (cs.length + 1))
    rw [show k + (cs.length + 1) = k + 1 + cs.length by omega]
    exact this
theorem digits_dec {c : Nat} : c ∈ ("0123456789" : Str).cps.toList ↔ 48 ≤ c ∧ c ≤ 57 := by
  have e : ("0123456789" : Str).cps.toList = [48, 49, 50, 51, 52, 53, 54, 55, 56, 57] := by decide +kernel
  rw [e]
  simp only [List.mem_cons, List.not_mem_nil, or_false]
  omega
theorem starts_one {x : Str} {c : Nat} (h : Txt.startswith x ⟨#[c]⟩ = true) : ∃ cs, x.cps.toList = c :: cs := by
  unfold Txt.startswith at h
  rw [Bool.and_eq_true] at h
  have h1 : 0 + 1 ≤ x.length := of_decide_eq_true h.1
  have h2 : (x.cps.extract 0 (0 + 1) == #[c]) = true := h.2
  have h2 := beq_iff_eq.mp h2
  obtain ⟨⟨l⟩⟩ := x
  cases l with
  | nil => exact absurd h1 (by decide)
  | cons a l =>
    have e : #[a] = #[c] := by
      rw [← h2]
      simp
    cases e
    exact ⟨l, rfl⟩
/-! ### a text split at one sign -/
theorem spl_nil1 (s : Nat) (acc : List Nat) : TL.spl [s] 0 acc [] = [acc] := TL.spl_nil _ _ _
theorem spl_cons1 (s : Nat) (acc : List Nat) (c : Nat) (r : List Nat) : TL.spl [s] 0 acc (c :: r) = if c = s then acc :: TL.spl [s] 0 [] r else TL.spl [s] 0 (acc ++ [c]) r := by
  by_cases h : c = s
  · subst h
    rw [if_pos rfl, TL.spl_hit (by simp [TL.pre])]
    rfl
  · rw [if_neg h, TL.spl_miss (by simp [TL.pre]; first | exact fun z => h z | exact fun z => h z.symm | (intro z; exact h z.symm) | simpa using Ne.symm h)]
theorem spl_all1 (s : Nat) : ∀ (l acc : List Nat), TL.joinL [s] (TL.spl [s] 0 acc l) = acc ++ l ∧ TL.spl [s] 0 acc l ≠ [] ∧ (TL.spl [s] 0 acc l).length ≤ l.length + 1 ∧ (∀ p ∈ TL.spl [s] 0 acc l, p.length ≤ acc.length + l.length)
  | [], acc => by
    rw [spl_nil1]
    refine ⟨by simp [TL.joinL], by simp, by simp, fun p hp => ?_⟩
    cases List.mem_singleton.mp hp
    simp
  | c :: r, acc => by
    rw [spl_cons1]
    by_cases h : c = s
    · subst h
      rw [if_pos rfl]
      obtain ⟨h1, h2, h3, h4⟩ := spl_all1 c r []
      refine ⟨?_, by simp, by simp; omega, fun p hp => ?_⟩
      · cases e : TL.spl [c] 0 [] r with
        | nil => exact absurd e h2
        | cons a b =>
          rw [e] at h1
          show acc ++ ([c] ++ TL.joinL [c] (a :: b)) = acc ++ c :: r
          rw [h1]
          simp
      · rcases List.mem_cons.mp hp with z | z
        · rw [z]; omega
        · have := h4 p z
          simp at this ⊢
          omega
    · rw [if_neg h]
      obtain ⟨h1, h2, h3, h4⟩ := spl_all1 s r (acc ++ [c])
      refine ⟨by rw [h1]; simp, h2, by simp; omega, fun p hp => ?_⟩
      have := h4 p hp
      simp at this ⊢
      omega
/-- what a text split at a sign is -/
theorem split_one {x y : Str} {s : Nat} (ey : TL.tl y = [s]) (hk : y.cps.all (· < 256) = true) : Txt.join y (Txt.split x y) = x ∧ Txt.split x y ≠ [] ∧ (Txt.split x y).length ≤ x.length + 1 ∧ ∀ w ∈ Txt.split x y, w.length ≤ x.length := by
  have e := TL.split_spl x y (by rw [ey]; simp) (TL.kind_ok hk)
  rw [ey] at e
  obtain ⟨h1, h2, h3, h4⟩ := spl_all1 s (TL.tl x) []
  rw [← e] at h1 h2 h3 h4
  have hl : x.length = (TL.tl x).length := S_length x
  refine ⟨?_, fun z => h2 (by rw [z]; rfl), by rw [List.length_map] at h3; omega, fun w hw => ?_⟩
  · refine TL.ext_tl ?_
    rw [TL.join_eq, TL.tl_join, ey, h1]
    rfl
  · have := h4 (TL.tl w) (List.mem_map.mpr ⟨w, hw, rfl⟩)
    rw [S_length w]
    show (TL.tl w).length ≤ _
    rw [List.length_nil, Nat.zero_add] at this
    rw [hl]
    exact this
end L3
set_option Elab.async false
set_option linter.all false
set_option maxRecDepth 100000
set_option maxHeartbeats 4000000
namespace L3
open PySem PySem.Spec PyProof.Rows L2 PySem.Calls
/-! ### repr of data with dicts -/
def keyP : Key → PyData
  | .inl i => .int i
  | .inr x => .str x
mutual
def toX : D → Option PyData
  | .non => some .none
  | .bl b => some (.bool b)
  | .int i => some (.int i)
  | .str x => some (.str x)
  | .tup ds => (toXL ds).map .tuple
  | .lst ds => (toXL ds).map .list
  | .dic ks => (toXK ks).map .dict
  | .scr _ | .ref _ | .ty _ | .ins _ _ | .obj _ _ => none
def toXL : List D → Option (List PyData)
  | [] => some []
  | d :: ds => match toX d with
    | some p => (toXL ds).map (p :: ·)
    | none => none
def toXK : List (Key × D) → Option (List (PyData × PyData))
  | [] => some []
  | (k, d) :: ds => match toX d with
    | some p => (toXK ds).map ((keyP k, p) :: ·)
    | none => none
end
mutual
inductive Dx (K : PySem.W.Frag) (H : Hp) : V → PyData → Prop
  | non : Dx K H .non .none
  | bl (b : Bool) : Dx K H (.bl b) (.bool b)
  | int (i : Int) : Dx K H (.int i) (.int i)
  | str (x : Str) : Dx K H (.str x) (.str x)
  | lst {a : Addr} {xs : List V} {ds : List PyData} : H a = some (.lst xs) → DxL K H xs ds → Dx K H (.ref a) (.list ds)
  | tup {a : Addr} {xs : List V} {ds : List PyData} : SqT K H a xs → DxL K H xs ds → Dx K H (.ref a) (.tuple ds)
  | dic {a : Addr} {ks : List (Key × V)} {ds : List (PyData × PyData)} : H a = some (.dK ks) → DxK K H ks ds → Dx K H (.ref a) (.dict ds)
inductive DxL (K : PySem.W.Frag) (H : Hp) : List V → List PyData → Prop
  | nil : DxL K H [] []
  | cons {v : V} {vs : List V} {d : PyData} {ds : List PyData} : Dx K H v d → DxL K H vs ds → DxL K H (v :: vs) (d :: ds)
inductive DxK (K : PySem.W.Frag) (H : Hp) : List (Key × V) → List (PyData × PyData) → Prop
  | nil : DxK K H [] []
  | cons {k : Key} {v : V} {vs : List (Key × V)} {d : PyData} {ds : List (PyData × PyData)} : Dx K H v d → DxK K H vs ds → DxK K H ((k, v) :: vs) ((keyP k, d) :: ds)
end
mutual
theorem rep_x {K : PySem.W.Frag} {F H : Hp} (l : Le F H) : ∀ {d : D} {v : V} {p : PyData}, Rep K F d v → toX d = some p → Dx K H v p
  | _, _, _, .non, e => by cases e; exact .non
  | _, _, _, .bl b, e => by cases e; exact .bl b
  | _, _, _, .int i, e => by cases e; exact .int i
  | _, _, _, .str x, e => by cases e; exact .str x
  | _, _, _, .ref _, e => nomatch e
  | _, _, _, .ty _, e => nomatch e
  | _, _, _, .tup h r, e => by
    unfold toX at e
    obtain ⟨ps, e1, e2⟩ := Option.map_eq_some_iff.mp e
    subst e2
    exact .tup (sqT_mono l h) (rep_xl l r e1)
  | _, _, _, .lst h r, e => by
    unfold toX at e
    obtain ⟨ps, e1, e2⟩ := Option.map_eq_some_iff.mp e
    subst e2
    exact .lst (l _ _ h) (rep_xl l r e1)
  | _, _, _, .scr _ _, e => nomatch e
  | _, _, _, .ins _ _ _, e => nomatch e
  | _, _, _, .obj _ _, e => nomatch e
  | _, _, _, .dic h r, e => by
    unfold toX at e
    obtain ⟨ps, e1, e2⟩ := Option.map_eq_some_iff.mp e
    subst e2
    exact .dic (l _ _ h) (rep_xk l r e1)
theorem rep_xl {K : PySem.W.Frag} {F H : Hp} (l : Le F H) : ∀ {d : List D} {v : List V} {p : List PyData}, RepL K F d v → toXL d = some p → DxL K H v p
  | _, _, _, .nil, e => by cases e; exact .nil
  | _, _, _, .cons h r, e => by
    unfold toXL at e
    split at e
    · rename_i q eq
      obtain ⟨ps, e1, e2⟩ := Option.map_eq_some_iff.mp e
      subst e2
      exact .cons (rep_x l h eq) (rep_xl l r e1)
    · cases e
theorem rep_xk {K : PySem.W.Frag} {F H : Hp} (l : Le F H) : ∀ {d : List (Key × D)} {v : List (Key × V)} {p : List (PyData × PyData)}, RepK K F d v → toXK d = some p → DxK K H v p
  | _, _, _, .nil, e => by cases e; exact .nil
  | _, _, _, .cons h r, e => by
    unfold toXK at e
    split at e
    · rename_i q eq
      obtain ⟨ps, e1, e2⟩ := Option.map_eq_some_iff.mp e
      subst e2
      exact .cons (rep_x l h eq) (rep_xk l r e1)
    · cases e
end
/-- the object at sysModules is known, and is no list -/
def SysM (K : PySem.W.Frag) : Prop := ∃ o, K.lookup sysModules = some o ∧ o.cls ≠ .type "list"
theorem sys_of {K : PySem.W.Frag} (h : sysB K = true) : SysM K := by
  unfold sysB at h
  split at h
  · rename_i n a b c e
    refine ⟨_, e, fun z => ?_⟩
    have z : Value.type n = Value.type "list" := z
    cases z
    simp at h
  · cases h
section
variable {X : Cx} {pins : List (Addr × Obj)} {σ : L2.St} {H : Hp} {s : Shared}
theorem nil_notin : sysModules ∉ ([] : List Addr) := fun h => by cases h
theorem paired_keys {h : Heap} : ∀ {es : List DictEntry} {vs : List (Key × Value)}, Pairs (mixKind X.prog X.w) es vs → ∃ as, ReadsAll h (es.map (·.key)) (vs.map fun p => keyP p.1) as ∧ sysModules ∉ as
  | _, _, .nil => ⟨[], .nil, nil_notin⟩
  | _, _, .cons (kv := kv) h1 h2 r => by
    obtain ⟨as, q1, q2⟩ := paired_keys r
    obtain ⟨k, u⟩ := kv
    rcases keyIs_shape (show keyIs k _ = true from h1) with ⟨i, t, e1, e2⟩ | ⟨x, t, e1, e2⟩
    · have e1 : k = .inl i := e1
      subst e1
      refine ⟨[] ++ as, ?_, by simpa using q2⟩
      rw [List.map_cons, List.map_cons, e2]
      exact .cons (.int i t) q1
    · have e1 : k = .inr x := e1
      subst e1
      refine ⟨[] ++ as, ?_, by simpa using q2⟩
      rw [List.map_cons, List.map_cons, e2]
      exact .cons (.str x t) q1
theorem paired_vals : ∀ {es : List DictEntry} {vs : List (Key × Value)}, Pairs (mixKind X.prog X.w) es vs → es.map (·.val) = vs.map (·.2)
  | _, _, .nil => rfl
  | _, _, .cons h1 h2 r => by rw [List.map_cons, List.map_cons, h2, paired_vals r]
mutual
theorem Dx.reads (I : Inv X pins σ H s) (hS : SysM X.K) : ∀ {v : V} {d : PyData} {u : Value}, Dx X.K H v d → RelV v u → ∃ as, Reads s.heap u d as ∧ sysModules ∉ as
  | _, _, _, .non, r => by
    cases r
    exact ⟨_, Reads.none, nil_notin⟩
  | _, _, _, .bl b, r => by
    cases r
    exact ⟨_, Reads.bool b, nil_notin⟩
  | _, _, _, .int i, r => by
    obtain ⟨t, rfl⟩ := r
    exact ⟨_, Reads.int i t, nil_notin⟩
  | _, _, _, .str x, r => by
    obtain ⟨t, rfl⟩ := r
    exact ⟨_, Reads.str x t, nil_notin⟩
  | _, _, _, .lst (a := a) hs ha, r => by
    cases r
    obtain ⟨its, rv, ⟨o, n, ho, hc, _, hd⟩, _⟩ := I.list (.inl (.inl hs))
    obtain ⟨as, hr, hn⟩ := DxL.reads I hS ha rv
    refine ⟨_, Reads.list ho hc hd hr, fun hm => ?_⟩
    rcases List.mem_cons.mp hm with e | hm
    · obtain ⟨o', e1, e2⟩ := hS
      have e3 := I.kIn _ _ e1
      rw [e] at e3
      rw [ho] at e3
      cases e3
      exact e2 hc
    · exact hn hm
  | _, _, _, .tup hs ha, r => by
    cases r
    obtain ⟨its, rv, ⟨o, ho, hc, n, hd⟩, _⟩ := I.tuple hs
    obtain ⟨as, hr, hn⟩ := DxL.reads I hS ha rv
    exact ⟨_, Reads.tuple ho hc hd hr, hn⟩
  | _, _, _, .dic (a := a) (ks := ks) (ds := ds) hs ha, r => by
    cases r
    obtain ⟨_, hsys, vs, kv, o, es, ep, ho, hx, hd, _, hp, _⟩ := I.hok _ _ hs
    obtain ⟨as, q1, q2⟩ := paired_keys (h := s.heap) hp
    obtain ⟨bs, q3, q4⟩ := DxK.reads I hS ha kv
    have ek : ds.map (·.1) = vs.map fun p => keyP p.1 := DxK.keys ha kv
    refine ⟨_, Reads.dict ho hx.1 hd (by rw [ek]; exact q1) (by rw [paired_vals hp]; exact q3), fun hm => ?_⟩
    rcases List.mem_append.mp hm with hm | hm
    · rcases List.mem_cons.mp hm with e | hm
      · subst e
        rw [beq_self_eq_true] at hsys
        cases hsys
      · exact q2 hm
    · exact q4 hm
theorem DxL.reads (I : Inv X pins σ H s) (hS : SysM X.K) : ∀ {vs : List V} {ds : List PyData} {us : List Value}, DxL X.K H vs ds → Vals vs us → ∃ as, ReadsAll s.heap us ds as ∧ sysModules ∉ as
  | _, _, _, .nil, r => by
    cases r
    exact ⟨_, ReadsAll.nil, nil_notin⟩
  | _, _, _, .cons h1 h2, r => by
    cases r with
    | cons r1 r2 =>
      obtain ⟨as, q1, n1⟩ := Dx.reads I hS h1 r1
      obtain ⟨bs, q2, n2⟩ := DxL.reads I hS h2 r2
      exact ⟨_, ReadsAll.cons q1 q2, fun hm => (List.mem_append.mp hm).elim n1 n2⟩
theorem DxK.reads (I : Inv X pins σ H s) (hS : SysM X.K) : ∀ {ks : List (Key × V)} {ds : List (PyData × PyData)} {us : List (Key × Value)}, DxK X.K H ks ds → KV ks us → ∃ as, ReadsAll s.heap (us.map (·.2)) (ds.map (·.2)) as ∧ sysModules ∉ as
  | _, _, _, .nil, r => by
    cases r
    exact ⟨_, ReadsAll.nil, nil_notin⟩
  | _, _, _, .cons h1 h2, r => by
    cases r with
    | cons r1 r2 =>
      obtain ⟨as, q1, n1⟩ := Dx.reads I hS h1 r1.2
      obtain ⟨bs, q2, n2⟩ := DxK.reads I hS h2 r2
      exact ⟨_, ReadsAll.cons q1 q2, fun hm => (List.mem_append.mp hm).elim n1 n2⟩
theorem DxK.keys {K : PySem.W.Frag} {H : Hp} : ∀ {ks : List (Key × V)} {ds : List (PyData × PyData)} {us : List (Key × Value)}, DxK K H ks ds → KV ks us → ds.map (·.1) = us.map fun p => keyP p.1
  | _, _, _, .nil, r => by
    cases r
    rfl
  | _, _, _, .cons h1 h2, r => by
    cases r with
    | cons r1 r2 =>
      rw [List.map_cons, List.map_cons, DxK.keys h2 r2]
      exact congrArg (fun z => keyP z :: _) r1.1
end
end
def rRepX : List D → Gp → DK → Prop := fun ds G Q => match ds with
  | [x] => ∃ d, toX x = some d ∧ d.showable = true ∧ d.depth ≤ 60 ∧ d.shown.length ≤ sizeLine ∧ Q (.str d.shown) G
  | _ => False
theorem call_reprX {X : Cx} {j : Nat} (hS : SysM X.K) (hu : X.A.guards = some []) (hr : Room j X.A) : CallR X (.builtin "repr") (fun xs H Q => ∃ x d, xs = [x] ∧ Dx X.K H x d ∧ d.showable = true ∧ d.depth ≤ 60 ∧ d.shown.length ≤ sizeLine ∧ Q (.str d.shown) H) := by
  intro pins s σ H xs us Q I r h
  obtain ⟨x, d, rfl, hd, h1, h3, h4, q⟩ := h
  obtain ⟨u, rfl, ru⟩ := vals1 r
  obtain ⟨as, rd, hn⟩ := Dx.reads I hS hd ru
  have un := hr.units
  cases u with
  | ref a =>
    refine repr_of_reads' rd h1 (fun _ => hn) hu (by omega) (fun _ _ e => e) (fun h' u tk hk => ⟨.str d.shown, H, I.kept hk, ⟨u, rfl⟩, q⟩) h4
  | none =>
    cases rd
    exact PySem.P.repr_of_none ⟨.str _, H, I.tok _, ⟨_, rfl⟩, q⟩
  | bool b =>
    cases rd
    exact PySem.P.repr_of_bool ⟨.str _, H, I.tok _, ⟨_, rfl⟩, q⟩
  | int i t =>
    cases rd
    have h1' : i.natAbs.log2 < 1920 := of_decide_eq_true h1
    exact PySem.P.repr_of_int h1' ⟨.str _, H, I.tok _, ⟨_, rfl⟩, q⟩
  | str y t =>
    cases rd
    exact PySem.P.repr_of_str ⟨.str _, H, I.tok _, ⟨_, rfl⟩, q⟩ h4
  | _ => cases rd
theorem cd_reprX {K : PySem.W.Frag} : CallD K (fun xs H Q => ∃ x d, xs = [x] ∧ Dx K H x d ∧ d.showable = true ∧ d.depth ≤ 60 ∧ d.shown.length ≤ sizeLine ∧ Q (.str d.shown) H) rRepX := by
  intro F G H xs ds Q Q3 c r h k
  unfold rRepX at h
  split at h
  · obtain ⟨v, rfl, rv⟩ := r.inv1
    obtain ⟨d, h0, h1, h3, h4, q⟩ := h
    exact ⟨_, d, rfl, rep_x c.frz rv h0, h1, h3, h4, k _ _ _ _ _ (Ext.refl c) (.str _) q⟩
  · exact h.elim
/-! what repr asks, by a bound of the length -/
def wtKey : Key → Nat
  | .inl _ => 200
  | .inr x => x.length
def okKey : Key → Bool
  | .inl i => decide (i.natAbs.log2 < 200)
  | .inr x => x.cps.toList.all fun c => decide (c < 1000)
mutual
def okD : D → Bool
  | .non => true
  | .bl _ => true
  | .int i => decide (i.natAbs.log2 < 200)
  | .str x => x.cps.toList.all fun c => decide (c < 1000)
  | .tup ds => okL ds
  | .lst ds => okL ds
  | .dic ks => okK ks
  | .scr _ | .ref _ | .ty _ | .ins _ _ | .obj _ _ => false
def okL : List D → Bool
  | [] => true
  | d :: ds => okD d && okL ds
def okK : List (Key × D) → Bool
  | [] => true
  | (k, d) :: ds => okKey k && (okD d && okK ds)
end
mutual
def wtD : D → Nat
  | .int _ => 200
  | .str x => x.length
  | .tup ds => wtL ds
  | .lst ds => wtL ds
  | .dic ks => wtK ks
  | .non | .bl _ | .scr _ | .ref _ | .ty _ | .ins _ _ | .obj _ _ => 0
def wtL : List D → Nat
  | [] => 0
  | d :: ds => wtD d + 1 + wtL ds
def wtK : List (Key × D) → Nat
  | [] => 0
  | (k, d) :: ds => wtKey k + wtD d + 2 + wtK ds
end
mutual
def dpD : D → Nat
  | .tup ds => dpL ds + 1
  | .lst ds => dpL ds + 1
  | .dic ks => dpK ks + 1
  | .int _ | .str _ | .non | .bl _ | .scr _ | .ref _ | .ty _ | .ins _ _ | .obj _ _ => 0
def dpL : List D → Nat
  | [] => 0
  | d :: ds => max (dpD d) (dpL ds)
def dpK : List (Key × D) → Nat
  | [] => 0
  | (_, d) :: ds => max (dpD d) (dpK ds)
end
def Shw (w k : Nat) (p : PyData) : Prop := p.showable = true ∧ p.leavesShort 250 = true ∧ p.weight ≤ w ∧ p.depth ≤ k
theorem shw_int {i : Int} (h : i.natAbs.log2 < 200) : Shw 200 0 (.int i) := by
  refine ⟨by unfold PyData.showable; exact decide_eq_true (by omega), ?_, ?_, Nat.le_refl _⟩
  · unfold PyData.leavesShort
    refine decide_eq_true ?_
    show (Str.ofString (toString i)).length ≤ 250
    rw [PySem.ofString_length]
    have := int_text_length_le (k := 200) (by decide) h
    omega
  · unfold PyData.weight
    split <;> omega
theorem shw_str {x : Str} (h : (x.cps.toList.all fun c => decide (c < 1000)) = true) : Shw x.length 0 (.str x) := by
  refine ⟨by unfold PyData.showable; rfl, ?_, by unfold PyData.weight; exact Nat.le_refl _, Nat.le_refl _⟩
  unfold PyData.leavesShort
  refine List.all_eq_true.mpr fun c hc => decide_eq_true ?_
  have := of_decide_eq_true (List.all_eq_true.mp h c hc)
  exact Nat.lt_of_lt_of_le this (by decide)
theorem shw_key {k : Key} (h : okKey k = true) : Shw (wtKey k) 0 (keyP k) := by
  cases k with
  | inl i => exact shw_int (of_decide_eq_true h)
  | inr x => exact shw_str h
mutual
theorem shw_of : ∀ (d : D), okD d = true → ∃ p, toX d = some p ∧ Shw (wtD d) (dpD d) p
  | .non, _ => ⟨_, rfl, rfl, rfl, Nat.le_refl _, Nat.le_refl _⟩
  | .bl b, _ => ⟨_, rfl, rfl, rfl, Nat.le_refl _, Nat.le_refl _⟩
  | .int i, h => ⟨_, rfl, shw_int (of_decide_eq_true (by unfold okD at h; exact h))⟩
  | .str x, h => ⟨_, rfl, shw_str (by unfold okD at h; exact h)⟩
  | .tup ds, h => by
    unfold okD at h
    obtain ⟨ps, e, a, b, c, d⟩ := shw_ofL ds h
    refine ⟨.tuple ps, by unfold toX; rw [e]; rfl, by unfold PyData.showable; exact a, by unfold PyData.leavesShort; exact b, by unfold PyData.weight wtD; exact c, by unfold PyData.depth dpD; omega⟩
  | .lst ds, h => by
    unfold okD at h
    obtain ⟨ps, e, a, b, c, d⟩ := shw_ofL ds h
    refine ⟨.list ps, by unfold toX; rw [e]; rfl, by unfold PyData.showable; exact a, by unfold PyData.leavesShort; exact b, by unfold PyData.weight wtD; exact c, by unfold PyData.depth dpD; omega⟩
  | .dic ks, h => by
    unfold okD at h
    obtain ⟨ps, e, a, b, c, d⟩ := shw_ofK ks h
    refine ⟨.dict ps, by unfold toX; rw [e]; rfl, by unfold PyData.showable; exact a, by unfold PyData.leavesShort; exact b, by unfold PyData.weight wtD; exact c, by unfold PyData.depth dpD; omega⟩
  | .scr _, h => by cases h
  | .ref _, h => by cases h
  | .ty _, h => by cases h
  | .ins _ _, h => by cases h
  | .obj _ _, h => by cases h
theorem shw_ofL : ∀ (ds : List D), okL ds = true → ∃ ps, toXL ds = some ps ∧ PyData.showableAll ps = true ∧ PyData.leavesShortAll 250 ps = true ∧ PyData.weightAll ps ≤ wtL ds ∧ PyData.depthAll ps ≤ dpL ds
  | [], _ => ⟨[], rfl, rfl, rfl, Nat.le_refl _, Nat.le_refl _⟩
  | d :: ds, h => by
    unfold okL at h
    rw [Bool.and_eq_true] at h
    obtain ⟨p, e1, a1, b1, c1, d1⟩ := shw_of d h.1
    obtain ⟨ps, e2, a2, b2, c2, d2⟩ := shw_ofL ds h.2
    refine ⟨p :: ps, by unfold toXL; rw [e1, e2]; rfl, by unfold PyData.showableAll; rw [a1, a2]; rfl, by unfold PyData.leavesShortAll; rw [b1, b2]; rfl, by unfold PyData.weightAll wtL; omega, by unfold PyData.depthAll dpL; omega⟩
theorem shw_ofK : ∀ (ks : List (Key × D)), okK ks = true → ∃ ps, toXK ks = some ps ∧ PyData.showableKv ps = true ∧ PyData.leavesShortKv 250 ps = true ∧ PyData.weightKv ps ≤ wtK ks ∧ PyData.depthKv ps ≤ dpK ks
  | [], _ => ⟨[], rfl, rfl, rfl, Nat.le_refl _, Nat.le_refl _⟩
  | (k, d) :: ds, h => by
    unfold okK at h
    rw [Bool.and_eq_true, Bool.and_eq_true] at h
    obtain ⟨a0, b0, c0, d0⟩ := shw_key h.1
    obtain ⟨p, e1, a1, b1, c1, d1⟩ := shw_of d h.2.1
    obtain ⟨ps, e2, a2, b2, c2, d2⟩ := shw_ofK ds h.2.2
    refine ⟨(keyP k, p) :: ps, by unfold toXK; rw [e1, e2]; rfl, by unfold PyData.showableKv; rw [a0, a1, a2]; rfl, by unfold PyData.leavesShortKv; rw [b0, b1, b2]; rfl, by unfold PyData.weightKv wtK; omega, by unfold PyData.depthKv dpK; omega⟩
end
/-- what repr prints -/
noncomputable def reprD (d : D) : Str := match toX d with
  | some p => p.shown
  | none => Str.empty
/-- repr(x), x within bounds -/
theorem repr_ok {d : D} {G : Gp} {Q : DK} (h : okD d = true) (hw : wtD d ≤ 60000) (hd : dpD d ≤ 60) (q : Q (.str (reprD d)) G) : rRepX [d] G Q := by
  obtain ⟨p, e, a, b, c, z⟩ := shw_of d h
  refine ⟨p, e, a, Nat.le_trans z hd, ?_, ?_⟩
  · have := PyData.shown_le 250 (by decide) p b
    have h2 : (250 + 2) * p.weight ≤ 252 * 60000 := Nat.mul_le_mul (Nat.le_refl _) (Nat.le_trans c hw)
    have e3 : sizeLine = 16777216 := rfl
    omega
  · unfold reprD at q
    rw [e] at q
    exact q
end L3
set_option Elab.async false
set_option linter.all false
set_option maxRecDepth 100000
set_option maxHeartbeats 4000000
/-! own == and != of instances, with things of other kinds on either side -/
namespace OwE
open PySem PySem.Spec PyProof.Rows PySem.W PySem.SeqAt
section
variable {prog : Program} {w : World} {A : Around} {E : Value → Shared → Prop} {s : Shared} {K : Frag} {x C f : Addr} {ox : Obj} {od : Option Obj} {b tb : Value}
theorem bound_ne {us : List Value} {Q : Option Value → Shared → Prop} (kin : K.In s.heap) (ia : InstAt s.heap x ox C od) (en : findIn K (.ref C) "__ne__" = some (some (.builtin "object.__ne__")))
    (q : wpAny (model prog w) A (call (.builtin "object.__ne__") (.ref x :: us)) (fun r => Q (some r)) E s) : wpAny (model prog w) A (callSpecialIfBound? (.ref x) "__ne__" us) Q E s := by
  simp only [callSpecialIfBound?, bindSpecialIfBound?]
  refine wpAny_holding (wpAny_bind (wpAny_bind (wpAny_bind (ia.type.here ((looks_findIn kin en).here ?g)))))
  case g =>
    have last : wpAny (model prog w) A (call (.builtin "object.__ne__") ([.ref x] ++ us) >>= fun r => pure (some r)) Q E s := wpAny_bind (wpAny_mono q (fun r s1 z => wpAny_pure z) fun _ _ z => z)
    refine wpAny_bind (wpAny_askSetting (wpAny_ite ?_))
    split
    · exact wpAny_bind (wpAny_of_eq (F.cmp_object.ne.bind _) (wpAny_pure (by exact last)))
    · exact wpAny_tryCatch (wpAny_bind (wpAny_of_eq (F.cmp_object.ne.bind _) (wpAny_pure (by exact last))))
theorem entry_ne {Q : Fin → Shared → Prop} (hu : A.units < cLine) (kin : K.In s.heap) (ia : InstAt s.heap x ox C od) (he : findIn K (.ref C) "__eq__" = some (some (.ref f))) (hf : isFn K (.ref f) = true)
    (q : wpAny (model prog w) A (call (.ref f) [.ref x, b]) (fun v s1 => ∃ r, v = .bool r ∧ Q (.done (.ret (.bool (!r)))) s1) E s) : wpAny (model prog w) A (Builtin.«object.__ne__» ⟨[.ref x, b], []⟩) Q E s := by
  have go : ∀ {R : Option Value → Shared → Prop}, (∀ r s1, Q (.done (.ret (.bool (!r)))) s1 → R (some (.bool r)) s1) → wpAny (model prog w) A (callSpecialIfBound? (.ref x) "__eq__" [b]) R E s := fun k =>
    ifBound_K kin ia he hf (wpAny_mono q (fun v s1 z => by
      obtain ⟨r, e, z⟩ := z
      subst e
      exact k r s1 z) fun _ _ z => z)
  unfold Builtin.«object.__ne__»
  repeat (first
    | with_reducible refine wpAny_cRoomFor hu ?_
    | (refine wpAny_bind (m := callSpecialIfBound? (.ref x) (Str.ofString "__eq__") [b]) (go fun r s1 z => ?_)
       repeat (first | exact z | exact wpAny_pure z | exact wpAny_truthy_bool z | (refine wpAny_bind (m := truthy (.bool _)) (wpAny_truthy_bool ?_)) | wp_step))
    | wp_step)
theorem cmp_ne {Q : Value → Shared → Prop} (hu : A.units + 1 < cLine) (kin : K.In s.heap) (ia : InstAt s.heap x ox C od) (hb : Looks (model prog w) s.heap (typeOf b) tb) (hn : notFirst K C tb = true) (en : findIn K (.ref C) "__ne__" = some (some (.builtin "object.__ne__")))
    (hm : mroIn K C (.type "object") = some true) (he : findIn K (.ref C) "__eq__" = some (some (.ref f))) (hf : isFn K (.ref f) = true)
    (q : wpAny (model prog w) A.in1 (call (.ref f) [.ref x, b]) (fun v s1 => ∃ r, v = .bool r ∧ Q (.bool (!r)) s1) E s) : wpAny (model prog w) A (richCompare .NotEq (.ref x) b) Q E s := by
  have one : wpAny (model prog w) A (tryCompare (.ref x) "__ne__" b) (fun r s1 => ∃ v, r = some v ∧ Q v s1) E s := by
    unfold tryCompare
    refine wpAny_bind (bound_ne kin ia en ?_)
    refine wpAny_call (codeAny_call_builtin F.cmp_object.ne.plain F.cmpEntry_ne (check_slot F.cmpKind_ne F.cmpSplit_ne (ia.type.andThen (looks_mroIn kin hm)) (F.cmpArgs_ne _ _) ?_))
    refine entry_ne (A := A.in1) hu kin ia he hf (wpAny_mono q (fun v s1 z => ?_) fun _ _ z => z)
    obtain ⟨r, e, z⟩ := z
    exact ⟨r, e, wpAny_pure ⟨_, rfl, z⟩⟩
  unfold richCompare
  simp only [oneThing_ref, cmpInfo_NotEq]
  refine wpAny_holding (wpAny_bind (wpAny_cRoomFor (Nat.lt_of_succ_lt hu) (wpAny_bind (ia.type.here (wpAny_bind (hb.here ?_))))))
  split
  · rename_i d
    have e : subIn K tb (.ref C) = some false := by
      rcases Bool.or_eq_true_iff.mp hn with z | z
      · rw [beq_iff_eq.mp z] at d; simp at d
      · exact beq_iff_eq.mp z
    refine wpAny_bind ((looks_subIn kin e).here ?_)
    simp only [Bool.false_eq_true, if_false]
    refine wpAny_bind (wpAny_mono one (fun r s1 z => ?_) fun _ _ z => z)
    obtain ⟨v, e1, z⟩ := z
    subst e1
    exact wpAny_pure z
  · refine wpAny_bind (wpAny_pure ?_)
    simp only [Bool.false_eq_true, if_false]
    refine wpAny_bind (wpAny_mono one (fun r s1 z => ?_) fun _ _ z => z)
    obtain ⟨v, e1, z⟩ := z
    subst e1
    exact wpAny_pure z
/-- a == x, a of a built-in kind, whose own == declines -/
theorem cmp_back {a : Value} {T : String} {Q : Value → Shared → Prop} (hu : A.units < cLine) (ha : s.TypeIs a T) (kin : K.In s.heap) (ia : InstAt s.heap x ox C od) (hm : mroIn K C (.type T) = some false)
    (two : ∀ {R : Option Value → Shared → Prop}, R none s → wpAny (model prog w) A (tryCompare a "__eq__" (.ref x)) R E s) (he : findIn K (.ref C) "__eq__" = some (some (.ref f))) (hf : isFn K (.ref f) = true)
    (q : wpAny (model prog w) A (call (.ref f) [.ref x, a]) (W.CmpBack Q) E s) : wpAny (model prog w) A (richCompare .Eq a (.ref x)) Q E s := by
  have one : wpAny (model prog w) A (tryCompare (.ref x) "__eq__" a) (fun r s1 => ∃ v, r = some v ∧ Q v s1) E s := by
    unfold tryCompare
    refine wpAny_bind (ifBound_K kin ia he hf (wpAny_mono q (fun v s1 z => ?_) fun _ _ z => z))
    cases v <;> first | exact z.elim | exact wpAny_pure ⟨_, rfl, z⟩
  simp only [richCompare, cmpInfo_Eq, ha.oneThing_none]
  refine wpAny_holding (wpAny_bind (wpAny_cRoomFor hu (wpAny_bind (wpAny_typeOf ha (wpAny_bind (ia.type.here ?_))))))
  split
  · refine wpAny_bind ((looks_subIn (t := .ref C) kin hm).here ?_)
    simp only [Bool.false_eq_true, if_false, Bool.not_false, if_true]
    refine wpAny_bind (m := tryCompare a _ (.ref x)) (two ?_)
    refine wpAny_bind (m := tryCompare (.ref x) _ a) (wpAny_mono one (fun r s1 z => ?_) fun _ _ z => z)
    obtain ⟨v, e1, z⟩ := z
    subst e1
    exact wpAny_pure z
  · rename_i z
    exact absurd (by simp) z
theorem inst_not {T : String} (kin : K.In s.heap) (ia : InstAt s.heap x ox C od) (hm : mroIn K C (.type T) = some false) : Looks (model prog w) s.heap (isInstance (.ref x) (.type T)) false := ia.type.andThen (looks_mroIn kin hm)
theorem back_none {R : Option Value → Shared → Prop} (q : R none s) : wpAny (model prog w) A (tryCompare .none "__eq__" (.ref x)) R E s :=
  wpAny_tryCompare_declines (show s.TypeIs .none "NoneType" from rfl) F.slot_NoneType_eq (call_gives F.slot_NoneType_eq rfl F.entry_NoneType_eq (F.args_NoneType_eq_2 _ _) (NoneType___eq___none_ref_0 x) ⟨rfl, q⟩)
theorem ent_tuple {l : Addr} {Q : Fin → Shared → Prop} (kin : K.In s.heap) (ia : InstAt s.heap x ox C od) (hm : mroIn K C (.type "tuple") = some false) (q : Q (.done (.ret .notImplemented)) s) : wpAny (model prog w) A (Builtin.«tuple.__eq__» ⟨[.ref l, .ref x], []⟩) Q E s := by
  unfold Builtin.«tuple.__eq__»
  repeat (first
    | (refine wpAny_bind (m := isInstance (.ref x) (.type "tuple")) ((inst_not kin ia hm).here ?_))
    | wp_step)
  exact q
theorem ent_list {l : Addr} {Q : Fin → Shared → Prop} (kin : K.In s.heap) (ia : InstAt s.heap x ox C od) (hm : mroIn K C (.type "list") = some false) (q : Q (.done (.ret .notImplemented)) s) : wpAny (model prog w) A (Builtin.«list.__eq__» ⟨[.ref l, .ref x], []⟩) Q E s := by
  unfold Builtin.«list.__eq__»
  repeat (first
    | (refine wpAny_bind (m := isInstance (.ref x) (.type "list")) ((inst_not kin ia hm).here ?_))
    | wp_step)
  exact q
theorem ent_dict {l : Addr} {Q : Fin → Shared → Prop} (kin : K.In s.heap) (ia : InstAt s.heap x ox C od) (hm : mroIn K C (.type "dict") = some false) (q : Q (.done (.ret .notImplemented)) s) : wpAny (model prog w) A (Builtin.«dict.__eq__» ⟨[.ref l, .ref x], []⟩) Q E s := by
  unfold Builtin.«dict.__eq__»
  repeat (first
    | (refine wpAny_bind (m := isInstance (.ref x) (.type "dict")) ((inst_not kin ia hm).here ?_))
    | wp_step)
  exact q
theorem ent_str {y : Str} {t : Tok} {dx : Addr} {sl : Array (Option Value)} {Q : Fin → Shared → Prop} (hx : s.heap.get? x = some { instObj C dx with slots := sl }) (q : Q (.done (.ret .notImplemented)) s) : wpAny (model prog w) A (Builtin.«str.__eq__» ⟨[.str y t, .ref x], []⟩) Q E s := by
  obtain ⟨hp, g, d, tk, os⟩ := s
  unfold instObj at hx
  wp_walk using wpAny_loadPart' hx, wpAny_load hx
  exact q
theorem ent_int {i : Int} {t : Tok} {dx : Addr} {sl : Array (Option Value)} {Q : Fin → Shared → Prop} (hx : s.heap.get? x = some { instObj C dx with slots := sl }) (q : Q (.done (.ret .notImplemented)) s) : wpAny (model prog w) A (Builtin.«int.__eq__» ⟨[.int i t, .ref x], []⟩) Q E s := by
  obtain ⟨hp, g, d, tk, os⟩ := s
  unfold instObj at hx
  wp_walk using wpAny_loadPart' hx, wpAny_load hx
  exact q
theorem ent_bool {i : Bool} {dx : Addr} {sl : Array (Option Value)} {Q : Fin → Shared → Prop} (hx : s.heap.get? x = some { instObj C dx with slots := sl }) (q : Q (.done (.ret .notImplemented)) s) : wpAny (model prog w) A (Builtin.«int.__eq__» ⟨[.bool i, .ref x], []⟩) Q E s := by
  obtain ⟨hp, g, d, tk, os⟩ := s
  unfold instObj at hx
  wp_walk using wpAny_loadPart' hx, wpAny_load hx
  exact q
end
end OwE
namespace L3
open PySem PySem.Spec PyProof.Rows L2 PySem.Calls
/-- the type of a datum -/
def tyD : D → Option Value
  | .non => some (.type "NoneType")
  | .bl _ => some (.type "bool")
  | .int _ => some (.type "int")
  | .str _ => some (.type "str")
  | .tup _ => some (.type "tuple")
  | .lst _ => some (.type "list")
  | .scr _ => some (.type "list")
  | .dic _ => some (.type "dict")
  | .ins C _ => some (.ref C)
  | _ => none
structure EqC (K : PySem.W.Frag) (C : Addr) : Prop where
  c : SlX.SCls K C
  i : SlX.SIsi K C
  ne : PySem.W.findIn K (.ref C) "__ne__" = some (some (.builtin "object.__ne__"))
  nb : ∀ n : String, n ∈ ["NoneType", "bool", "int", "str", "tuple", "list", "dict"] → PySem.W.mroIn K C (.type n) = some false ∧ PySem.W.notFirst K C (.type n) = true
section
variable {X : Cx} {pins : List (Addr × Obj)} {σ : L2.St} {H F : Hp} {G : Gp} {s : Shared} {d : D} {v : V} {u t : Value} {C : Addr}
theorem look_obj {M : Model} {h : Heap} {a : Addr} {o : Obj} (e : h.get? a = some o) : PySem.W.Looks M h (typeOf (.ref a)) o.cls := (PySem.W.Looks.ld e).andThen .now
theorem ins_slt {a : Addr} {ds : List D} (c : Cp X.K F G H) (r : Rep X.K F (.ins C ds) (.ref a)) : ∃ dx vs, SlX.Slt H a C dx vs := by
  cases r with
  | ins h h2 r => exact ⟨_, _, .inr ⟨c.frz _ _ h, c.frz _ _ h2⟩⟩
theorem look_ty (I : Inv X pins σ H s) (c : Cp X.K F G H) (r : Rep X.K F d v) (rv : RelV v u) (e : tyD d = some t) : PySem.W.Looks (model X.prog X.w) s.heap (typeOf u) t := by
  cases d with
  | non =>
    cases r; cases rv; cases e
    exact fun A Q E s1 k q => wpAny_typeOf (show s1.TypeIs .none "NoneType" from rfl) q
  | bl b =>
    cases r; cases rv; cases e
    exact fun A Q E s1 k q => wpAny_typeOf (show s1.TypeIs (.bool b) "bool" from rfl) q
  | int i =>
    cases r; cases e
    obtain ⟨tk, rfl⟩ := rv
    exact fun A Q E s1 k q => wpAny_typeOf (typeIs_int s1 i tk) q
  | str x =>
    cases r; cases e
    obtain ⟨tk, rfl⟩ := rv
    exact fun A Q E s1 k q => wpAny_typeOf (typeIs_str s1 x tk) q
  | tup ds =>
    cases e
    cases r with
    | tup h r =>
      cases rv
      obtain ⟨its, _, ⟨o, ho, hc, n, hd⟩, _⟩ := I.tuple (sqT_mono c.frz h)
      exact hc ▸ look_obj ho
  | lst ds =>
    cases e
    cases r with
    | lst h r =>
      cases rv
      obtain ⟨its, _, ⟨o, n, ho, hc, _, hd⟩, _⟩ := I.list (.inl (.inl (c.frz _ _ h)))
      exact hc ▸ look_obj ho
  | scr ds =>
    cases e
    cases r with
    | scr h r =>
      cases rv
      obtain ⟨its, _, ⟨o, n, ho, hc, _, hd⟩, _⟩ := I.list (sqL_mono c.frz h)
      exact hc ▸ look_obj ho
  | dic ks =>
    cases e
    cases r with
    | dic h r =>
      cases rv
      obtain ⟨_, _, vs, kv, o, es, ep, ho, hx, hd, _⟩ := I.hok _ _ (c.frz _ _ h)
      exact hx.1 ▸ look_obj ho
  | ins C ds =>
    cases e
    cases r with
    | ins h h2 r =>
      cases rv
      obtain ⟨sl, od, _, J, _⟩ := SlX.slt_inst I (.inr ⟨c.frz _ _ h, c.frz _ _ h2⟩)
      exact J.type
  | _ => cases e
end
def lowRel (K : PySem.W.Frag) (r3 : R3) : R2 := fun x y H Q => ∃ dx dy F G Q3, Cp K F G H ∧ Rep K F dx x ∧ Rep K F dy y ∧ r3 dx dy G Q3 ∧ QR K F G H Q3 Q
theorem od_low {K : PySem.W.Frag} {r3 : R3} : OpD K (lowRel K r3) r3 := fun F G H x y dx dy Q Q3 c rx ry h k => ⟨dx, dy, F, G, Q3, c, rx, ry, h, k⟩
theorem od_or {K : PySem.W.Frag} {r r' : R2} {r3 r3' : R3} (h : OpD K r r3) (h' : OpD K r' r3') : OpD K (fun x y H Q => r x y H Q ∨ r' x y H Q) (fun x y G Q => r3 x y G Q ∨ r3' x y G Q) := fun F G H x y dx dy Q Q3 c rx ry q k => q.imp (fun q => h F G H x y dx dy Q Q3 c rx ry q k) fun q => h' F G H x y dx dy Q Q3 c rx ry q k
/-- x == y, one of them of the class at C -/
def rEqO (K : PySem.W.Frag) (C : Addr) (sp : Sp3) : R3 := fun x y G Q => match x with
  | .ins C' ds => C' = C ∧ (∃ t, tyD y = some t ∧ PySem.W.notFirst K C t = true) ∧ sp [.ins C' ds, y] G Q NoE
  | .non => (match y with | .ins C' ds => C' = C ∧ sp [.ins C' ds, x] G Q NoE | _ => False)
  | .bl _ => (match y with | .ins C' ds => C' = C ∧ sp [.ins C' ds, x] G Q NoE | _ => False)
  | .int _ => (match y with | .ins C' ds => C' = C ∧ sp [.ins C' ds, x] G Q NoE | _ => False)
  | .str _ => (match y with | .ins C' ds => C' = C ∧ sp [.ins C' ds, x] G Q NoE | _ => False)
  | .tup _ => (match y with | .ins C' ds => C' = C ∧ sp [.ins C' ds, x] G Q NoE | _ => False)
  | .lst _ => (match y with | .ins C' ds => C' = C ∧ sp [.ins C' ds, x] G Q NoE | _ => False)
  | .dic _ => (match y with | .ins C' ds => C' = C ∧ sp [.ins C' ds, x] G Q NoE | _ => False)
  | _ => False
/-- x != y, the first of the class at C -/
def rNeO (K : PySem.W.Frag) (C : Addr) (sp : Sp3) : R3 := fun x y G Q => match x with
  | .ins C' ds => C' = C ∧ (∃ t, tyD y = some t ∧ PySem.W.notFirst K C t = true) ∧ sp [.ins C' ds, y] G (fun d G1 => match d with | .bl b => Q (.bl (!b)) G1 | _ => False) NoE
  | _ => False
section
variable {X : Cx} {C : Addr} {sp : Sp3} {k j : Nat}
theorem call_own {pins : List (Addr × Obj)} {σ : L2.St} {H F : Hp} {G : Gp} {s : Shared} {A : Around} {g : Addr} {dx dy : D} {x y : V} {v u : Value} {Q : VK} {Q3 : DK} (I : Inv X pins σ H s) (FR : FnR X.prog X.w X.K X.mg X.base (L2.CX X.prog X.w) k g (dn X.K sp)) (hr : Room k A) (e0 : Env0 X.prog X.w X.K X.mg X.base A X.stack s H)
    (c : Cp X.K F G H) (r1 : Rep X.K F dx x) (r2 : Rep X.K F dy y) (rx : RelV x v) (ry : RelV y u) (h : sp [dx, dy] G Q3 NoE) (q : QR X.K F G H Q3 Q) :
    wpAny (model X.prog X.w) A (call (.ref g) [v, u]) (EP X pins σ Q) X.xe s := by
  refine wpAny_call (codeAny_mono (FR A X.stack s H [v, u] [x, y] Q (fun _ _ _ => False) hr e0 (.cons rx (.cons ry .nil)) ⟨[dx, dy], F, G, Q3, NoE, c, .cons r1 (.cons r2 .nil), h, q, qx_none⟩) fun r s1 z => ?_)
  cases r with
  | error e => exact (cx_none z).elim
  | ok fl =>
    cases fl with
    | ret z1 => exact I.after z
    | next => exact False.elim z
    | brk => exact False.elim z
    | cont => exact False.elim z
theorem met_raw (c : Met3 X.prog X.w X.K X.mg X.base k C "__eq__" sp []) : ∃ g, PySem.W.findIn X.K (.ref C) "__eq__" = some (some (.ref g)) ∧ PySem.W.isFn X.K (.ref g) = true ∧ FnR X.prog X.w X.K X.mg X.base (L2.CX X.prog X.w) k g (dn X.K sp) := by
  obtain ⟨g, fd, ps, ds, dvs, hm, FO, hb, hd, rd⟩ := c.ex
  have e1 : dvs = [] := by
    have := rd (fun _ => none)
    cases this
    rfl
  subst e1
  cases hd
  exact ⟨g, hm.at_, hm.fn, FnOk.raw0 FO hb⟩
theorem op_eqO (q : EqC X.K C) (c : Met3 X.prog X.w X.K X.mg X.base k C "__eq__" sp []) (hr : Room j X.A) (hk : k + 1 ≤ j := by decide) : OpR X (compareOp .Eq) (lowRel X.K (rEqO X.K C sp)) := by
  obtain ⟨g, he, hf, FR⟩ := met_raw c
  intro pins s σ H x y v u Q I rx ry ⟨dx, dy, F, G, Q3, cp, r1, r2, h, kq⟩
  show wpAny _ _ (richCompare .Eq v u) _ _ s
  have rk : Room k X.A := hr.mono (by omega)
  have back : ∀ {n : String} {a : Value} {ds : List D}, s.TypeIs a n → n ∈ ["NoneType", "bool", "int", "str", "tuple", "list", "dict"] → RelV x a → dy = .ins C ds → sp [.ins C ds, dx] G Q3 NoE →
      (∀ (b : Addr) (dd : Addr) (sl : Array (Option Value)) (od : Obj) (R : Option Value → Shared → Prop), u = .ref b → s.heap.get? b = some { PySem.W.instObj C dd with slots := sl } → PySem.W.InstAt s.heap b { PySem.W.instObj C dd with slots := sl } C (some od) → R none s → wpAny (model X.prog X.w) X.A (tryCompare a "__eq__" (.ref b)) R X.xe s) →
      wpAny (model X.prog X.w) X.A (richCompare .Eq a u) (EP X pins σ Q) X.xe s := fun {n a ds} ht hn ra ed hs two => by
    subst ed
    cases r2 with
    | ins h1 h2 r2' =>
      cases (show u = Value.ref _ from ry)
      obtain ⟨sl, od, _, J, _⟩ := SlX.slt_inst I (.inr ⟨cp.frz _ _ h1, cp.frz _ _ h2⟩)
      refine OwE.cmp_back hr.units0 ht I.kIn J (q.nb n hn).1 (fun {R} z => two _ _ sl od R rfl J.at_ J z) he hf ?_
      refine wpAny_mono (call_own I FR rk I.env0 cp (.ins h1 h2 r2') r1 rfl ra hs kq) (fun w1 s1 z => ?_) fun _ _ z => z
      obtain ⟨z', H', I', rz, qz⟩ := z
      exact SlX.cmpback rz ⟨z', H', I', rz, qz⟩
  cases dx with
  | ins C' ds =>
    obtain ⟨e, ⟨t, ht, hn⟩, hs⟩ := h
    subst e
    have r1' := r1
    cases r1 with
    | ins h1 h2 r1 =>
      cases (show v = Value.ref _ from rx)
      obtain ⟨sl, od, _, J, _⟩ := SlX.slt_inst I (.inr ⟨cp.frz _ _ h1, cp.frz _ _ h2⟩)
      obtain ⟨m, hF⟩ := I.fr
      refine PySem.W.cmp_K (op := .Eq) hr.units0 hF I.ok.mod.kin J (look_ty I cp r2 ry ht) hn he hf ?_
      refine wpAny_mono (call_own I FR rk I.env0 cp r1' r2 rfl ry hs kq) (fun w1 s1 z => ?_) fun _ _ z => z
      obtain ⟨z', H', I', rz, qz⟩ := z
      exact SlX.cmpback rz ⟨z', H', I', rz, qz⟩
  | non =>
    cases r1
    cases (show v = Value.none from rx)
    unfold rEqO at h
    dsimp only at h
    split at h
    · rename_i C' ds
      obtain ⟨e, hs⟩ := h
      subst e
      exact back (n := "NoneType") (ds := ds) rfl (by simp) rfl rfl hs fun b dd sl od R e hb J z => OwE.back_none z
    · exact h.elim
  | bl b0 =>
    cases r1
    cases (show v = Value.bool b0 from rx)
    unfold rEqO at h
    dsimp only at h
    split at h
    · rename_i C' ds
      obtain ⟨e, hs⟩ := h
      subst e
      exact back (n := "bool") (ds := ds) rfl (by simp) rfl rfl hs fun b dd sl od R e hb J z =>
        wpAny_tryCompare_declines (show s.TypeIs (.bool b0) "bool" from rfl) PySem.F.slot_bool_eq (wpAny_call (codeAny_call_builtin PySem.F.slot_bool_eq.plain PySem.F.entry_int_eq (PySem.F.slot_bool_eq.check _ _ _ _ _ _ _ _ rfl (PySem.F.args_int_eq_2 _ _) (OwE.ent_bool hb ⟨rfl, z⟩))))
    · exact h.elim
  | int i =>
    cases r1
    obtain ⟨tk, ev⟩ := (show ∃ tk, v = Value.int i tk from rx)
    subst ev
    unfold rEqO at h
    dsimp only at h
    split at h
    · rename_i C' ds
      obtain ⟨e, hs⟩ := h
      subst e
      exact back (n := "int") (ds := ds) (typeIs_int s i tk) (by simp) rx rfl hs fun b dd sl od R e hb J z =>
        wpAny_tryCompare_declines (typeIs_int s i tk) PySem.F.slot_int_eq (wpAny_call (codeAny_call_builtin PySem.F.slot_int_eq.plain PySem.F.entry_int_eq (PySem.F.slot_int_eq.check _ _ _ _ _ _ _ _ (typeIs_int s i tk) (PySem.F.args_int_eq_2 _ _) (OwE.ent_int hb ⟨rfl, z⟩))))
    · exact h.elim
  | str y0 =>
    cases r1
    obtain ⟨tk, ev⟩ := (show ∃ tk, v = Value.str y0 tk from rx)
    subst ev
    unfold rEqO at h
    dsimp only at h
    split at h
    · rename_i C' ds
      obtain ⟨e, hs⟩ := h
      subst e
      exact back (n := "str") (ds := ds) (typeIs_str s y0 tk) (by simp) rx rfl hs fun b dd sl od R e hb J z =>
        wpAny_tryCompare_declines (typeIs_str s y0 tk) PySem.F.slot_str_eq (wpAny_call (codeAny_call_builtin PySem.F.slot_str_eq.plain PySem.F.entry_str_eq (PySem.F.slot_str_eq.check _ _ _ _ _ _ _ _ (typeIs_str s y0 tk) (PySem.F.args_str_eq_2 _ _) (OwE.ent_str hb ⟨rfl, z⟩))))
    · exact h.elim
  | tup es =>
    have r1' := r1
    cases r1 with
    | tup h0 r1 =>
    cases (show v = Value.ref _ from rx)
    unfold rEqO at h
    dsimp only at h
    split at h
    · rename_i C' ds
      obtain ⟨e, hs⟩ := h
      subst e
      obtain ⟨its, _, ⟨o, ho, hc, n, hd⟩, _⟩ := I.tuple (sqT_mono cp.frz h0)
      exact back (n := "tuple") (ds := ds) ⟨_, ho, hc⟩ (by simp) rfl rfl hs fun b dd sl od R e hb J z =>
        wpAny_tryCompare_declines ⟨_, ho, hc⟩ PySem.F.slot_tuple_eq (wpAny_call (codeAny_call_builtin PySem.F.slot_tuple_eq.plain PySem.F.entry_tuple_eq (PySem.F.slot_tuple_eq.check _ _ _ _ _ _ _ _ ⟨_, ho, hc⟩ (PySem.F.args_tuple_eq_2 _ _) (OwE.ent_tuple I.kIn J (q.nb "tuple" (by simp)).1 ⟨rfl, z⟩))))
    · exact h.elim
  | lst es =>
    have r1' := r1
    cases r1 with
    | lst h0 r1 =>
    cases (show v = Value.ref _ from rx)
    unfold rEqO at h
    dsimp only at h
    split at h
    · rename_i C' ds
      obtain ⟨e, hs⟩ := h
      subst e
      obtain ⟨its, _, ⟨o, n, ho, hc, _, hd⟩, _⟩ := I.list (.inl (.inl (cp.frz _ _ h0)))
      exact back (n := "list") (ds := ds) ⟨_, ho, hc⟩ (by simp) rfl rfl hs fun b dd sl od R e hb J z =>
        wpAny_tryCompare_declines ⟨_, ho, hc⟩ PySem.F.slot_list_eq (wpAny_call (codeAny_call_builtin PySem.F.slot_list_eq.plain PySem.F.entry_list_eq (PySem.F.slot_list_eq.check _ _ _ _ _ _ _ _ ⟨_, ho, hc⟩ (PySem.F.args_list_eq_2 _ _) (OwE.ent_list I.kIn J (q.nb "list" (by simp)).1 ⟨rfl, z⟩))))
    · exact h.elim
  | dic ks =>
    have r1' := r1
    cases r1 with
    | dic h0 r1 =>
    cases (show v = Value.ref _ from rx)
    unfold rEqO at h
    dsimp only at h
    split at h
    · rename_i C' ds
      obtain ⟨e, hs⟩ := h
      subst e
      obtain ⟨_, _, vs, kv, o, es, ep, ho, hx, hd, _⟩ := I.hok _ _ (cp.frz _ _ h0)
      exact back (n := "dict") (ds := ds) ⟨_, ho, hx.1⟩ (by simp) rfl rfl hs fun b dd sl od R e hb J z =>
        wpAny_tryCompare_declines ⟨_, ho, hx.1⟩ PySem.F.slot_dict_eq (wpAny_call (codeAny_call_builtin PySem.F.slot_dict_eq.plain PySem.F.entry_dict_eq (PySem.F.slot_dict_eq.check _ _ _ _ _ _ _ _ ⟨_, ho, hx.1⟩ (PySem.F.args_dict_eq_2 _ _) (OwE.ent_dict I.kIn J (q.nb "dict" (by simp)).1 ⟨rfl, z⟩))))
    · exact h.elim
  | _ => exact h.elim
theorem op_neO (q : EqC X.K C) (c : Met3 X.prog X.w X.K X.mg X.base k C "__eq__" sp []) (hr : Room j X.A) (hk : k + 1 ≤ j := by decide) : OpR X (compareOp .NotEq) (lowRel X.K (rNeO X.K C sp)) := by
  obtain ⟨g, he, hf, FR⟩ := met_raw c
  intro pins s σ H x y v u Q I rx ry ⟨dx, dy, F, G, Q3, cp, r1, r2, h, kq⟩
  show wpAny _ _ (richCompare .NotEq v u) _ _ s
  have rk : Room (k + 1) X.A := hr.mono hk
  cases dx with
  | ins C' ds =>
    obtain ⟨e, ⟨t, ht, hn⟩, hs⟩ := h
    subst e
    have r1' := r1
    cases r1 with
    | ins h1 h2 r1 =>
      cases (show v = Value.ref _ from rx)
      obtain ⟨sl, od, _, J, _⟩ := SlX.slt_inst I (.inr ⟨cp.frz _ _ h1, cp.frz _ _ h2⟩)
      refine OwE.cmp_ne (by have := hr.units; omega) I.kIn J (look_ty I cp r2 ry ht) hn q.ne q.i.cm he hf ?_
      refine wpAny_mono (call_own (Q := fun z H' => ∃ b, z = .bl b ∧ Q (.bl (!b)) H') I FR rk.in1 I.env0.in1 cp r1' r2 rfl ry hs (fun d v1 F' G' H' l r z => ?_)) (fun w1 s1 z => ?_) fun _ _ z => z
      · cases d with
        | bl b =>
          cases r
          exact ⟨b, rfl, kq _ _ _ _ _ l (.bl _) z⟩
        | _ => exact z.elim
      · obtain ⟨z', H', I', rz, b, ez, qz⟩ := z
        subst ez
        cases (show w1 = Value.bool b from rz)
        exact ⟨b, rfl, .bl _, H', I', rfl, qz⟩
  | _ => exact h.elim
end
end L3
namespace OwE
open PySem PySem.Spec PyProof.Rows PySem.W
theorem meets_bool_inst (K : Frag) (x C : Addr) (ox : Obj) (od : Option Obj) (hb : findIn K (.ref C) "__bool__" = some none) (hl : findIn K (.ref C) "__len__" = some none) :
    Meets (Builtin.«bool.__new__» ⟨[.type "bool", .ref x], []⟩) (fun _ R s => (K.In s.heap ∧ InstAt s.heap x ox C od) ∧ R (.ok (.ret (.bool true))) s) :=
  Meets.of_wp fun prog w A R s hs => by
    obtain ⟨⟨kin, ia⟩, hs⟩ := hs
    have tr : ∀ {A : Around} {E : Value → Shared → Prop} {Q : Bool → Shared → Prop}, Q true s → wpAny (model prog w) A (truthy (.ref x)) Q E s := fun {A E Q} q => by
      unfold truthy
      refine wpAny_bind (m := callSpecial? (.ref x) (Str.ofString "__bool__")) (wpAny_bind (wpAny_bind (ia.type.here ((looks_findIn kin hb).here (wpAny_pure ?_)))))
      exact wpAny_bind (wpAny_bind (ia.type.here ((looks_findIn kin hl).here (wpAny_pure q))))
    have f1 := F.conv_sub_bool
    repeat (any_goals (first | assumption | (with_reducible refine tr ?_) | wp_step))
    all_goals first | exact ⟨_, rfl, hs⟩ | exact hs | skip
end OwE
namespace L3
open PySem PySem.Spec PyProof.Rows L2 PySem.Calls
/-- the class at C has no truth of its own -/
structure TrC (K : PySem.W.Frag) (C : Addr) : Prop where
  bo : PySem.W.findIn K (.ref C) "__bool__" = some none
  ln : PySem.W.findIn K (.ref C) "__len__" = some none
def lowCall (K : PySem.W.Frag) (r3 : List D → Gp → DK → Prop) : List V → Hp → VK → Prop := fun xs H Q => ∃ ds F G Q3, Cp K F G H ∧ RepL K F ds xs ∧ r3 ds G Q3 ∧ QR K F G H Q3 Q
theorem cd_low {K : PySem.W.Frag} {r3 : List D → Gp → DK → Prop} : CallD K (lowCall K r3) r3 := fun F G H xs ds Q Q3 c r h k => ⟨ds, F, G, Q3, c, r, h, k⟩
def rBool3 (K : PySem.W.Frag) : List D → Gp → DK → Prop := fun ds G Q => match ds with
  | [.ins C _] => TrC K C ∧ Q (.bl true) G
  | [.bl b] => Q (.bl b) G
  | [.int i] => Q (.bl (i != 0)) G
  | _ => False
theorem call_boolX {X : Cx} : CallR X (.type "bool") (lowCall X.K (rBool3 X.K)) := by
  intro pins s σ H xs us Q I r ⟨ds, F, G, Q3, c, rl, h, k⟩
  unfold rBool3 at h
  split at h
  · obtain ⟨v, rfl, rv⟩ := rl.inv1
    obtain ⟨u, rfl, ru⟩ := vals1 r
    obtain ⟨tr, q⟩ := h
    cases rv with
    | ins h1 h2 r2 =>
      cases (show u = Value.ref _ from ru)
      obtain ⟨sl, od, _, J, _⟩ := SlX.slt_inst I (.inr ⟨c.frz _ _ h1, c.frz _ _ h2⟩)
      exact call_bool_1 (OwE.meets_bool_inst X.K _ _ _ _ tr.bo tr.ln) ⟨⟨I.kIn, J⟩, rfl, .bl true, H, I, rfl, k _ _ _ _ _ (Ext.refl c) (.bl _) q⟩
  · obtain ⟨v, rfl, rv⟩ := rl.inv1
    obtain ⟨u, rfl, ru⟩ := vals1 r
    cases rv
    cases (show u = Value.bool _ from ru)
    exact call_bool_bool ⟨.bl _, H, I, rfl, k _ _ _ _ _ (Ext.refl c) (.bl _) h⟩
  · obtain ⟨v, rfl, rv⟩ := rl.inv1
    obtain ⟨u, rfl, ru⟩ := vals1 r
    cases rv
    obtain ⟨t, rfl⟩ := (show ∃ t, u = Value.int _ t from ru)
    exact call_bool_int ⟨.bl _, H, I, rfl, k _ _ _ _ _ (Ext.refl c) (.bl _) h⟩
  · exact h.elim
open He He5
theorem eq_of {K : PySem.W.Frag} {C : Addr} (i : IsC K C) (h : eqcB K C = true) : EqC K C := by
  unfold eqcB at h
  obtain ⟨h1, h2⟩ := Bool.and_eq_true_iff.mp h
  refine ⟨i.c, i.i, eqO_ok h1, fun n hn => ?_⟩
  have := List.all_eq_true.mp h2 n hn
  obtain ⟨a, b⟩ := Bool.and_eq_true_iff.mp this
  exact ⟨of_decide_eq_true a, b⟩
theorem tr_of {K : PySem.W.Frag} {C : Addr} (h : trcB K C = true) : TrC K C := by
  unfold trcB at h
  obtain ⟨h1, h2⟩ := Bool.and_eq_true_iff.mp h
  exact ⟨of_decide_eq_true h1, of_decide_eq_true h2⟩
end L3
set_option Elab.async false
set_option linter.all false
set_option maxRecDepth 100000
set_option maxHeartbeats 4000000
namespace L3
open PySem PySem.Spec PyProof.Rows L2 PySem.Calls
/-! ### o.m(e, .., k = v, ..) -/
structure MetF (P : Program) (w : World) (K : PySem.W.Frag) (mg : Str → Option Value) (base : Heap) (k : Nat) (C : Addr) (m qual : Str) (st : Stmt) (ps : List Str) (sp : Sp3) : Prop where
  c : SlX.SCls K C
  ex : ∃ g fd, Meth K C m g ∧ Fun K m qual st g fd ∧ Binds K fd ps [] ∧ FnOk P w K mg base (L2.CX P w) k g fd ps (dn K sp)
section
variable {P : Program} {w : World} {K : PySem.W.Frag} {mg : Str → Option Value} {base : Heap} {C : Addr} {m qual : Str} {st : Stmt} {N ps : List Str} {sp : Sp3} {k : Nat}
theorem metF (c : SlX.SCls K C) (A : MethAt K C m qual st ps) (S : FnScope N ps (defScope st)) (hlen : ps.length ≤ N.length) (len : ∀ ds G Q E, sp ds G Q E → ds.length = ps.length) (h : Body P w K mg base k qual st N sp) : MetF P w K mg base (k + 1) C m qual st ps sp := by
  obtain ⟨g, fd, hm, F, b⟩ := A.ex
  exact ⟨c, g, fd, hm, F, b, fn3 F S hlen len h⟩
theorem MetF.met (c : MetF P w K mg base k C m qual st ps sp) : Met3 P w K mg base k C m sp [] := by
  obtain ⟨g, fd, hm, F, b, h⟩ := c.ex
  exact ⟨c.c, g, fd, ps, [], [], hm, h, b, .nil, fun _ => .nil⟩
end
section
variable {X : Cx} {CX : CXT} {F0 : Pt} {o e : Expr} {es : List Expr} {kws : List Keyword} {pos apos : Pos} {m qual : Str} {C g : Addr} {fd : FuncData} {ps ks : List Str} {sp : Sp} {E : L2.St → XK} {k n j : Nat} {gg : List Value → List Value → List Value} {gV : List V → List V → List V} {ta : TE} {t tk : TA}
def tMethK (C : Addr) (n m : Nat) (sp : Sp) (gV : List V → List V → List V) (E : L2.St → XK) (ta : TE) (t tk : TA) : TE := fun σ H Q => ta σ H fun x H1 => ∃ a dx vs, x = .ref a ∧ SlX.Slt H1 a C dx vs ∧ t σ H1 fun ws H2 => tk σ H2 fun zs H3 => (V.ref a :: ws).length = n ∧ zs.length = m ∧ sp (gV (.ref a :: ws) zs) H3 Q (E σ)
theorem pe_methK {pl : Sem Bool} (he : PE X o ta) (c : SlX.SCls X.K C) (hm : Meth X.K C m g) (F : FnOk X.prog X.w X.K X.mg X.base CX k g fd ps sp) (hr : Room k X.A) (hb : KBn X.K fd ps n ks gg gV) (hx : ∀ σ, PassesAt CX X σ (E σ)) (ha : PA X (e :: es) t) (hkw : PK X kws tk)
    (hall : (backToKw pos (keywordEach kws X.env)).all (·.1.isSome) = true := by rfl) (hks : (backToKw pos (keywordEach kws X.env)).filterMap (·.1) = ks := by rfl)
    (hst : starEach (e :: es) X.env = (false, eval e X.env) :: starEach es X.env := by rfl) (hpl : ((backTo pos (starEach (e :: es) X.env)).any (·.1) || (backToKw pos (keywordEach kws X.env)).any (·.1.isNone)) = false := by rfl)
    (ht : eval (.Call (.Attribute o m apos) (e :: es) kws pos) X.env = (do
      let ov ← eval o X.env
      standAt apos.atName
      let (f, first) ← holding [ov] (getMethod ov m pl)
      callWith pos f first (backTo pos (starEach (e :: es) X.env)) (backToKw pos (keywordEach kws X.env))) := by rfl) :
    PE X (.Call (.Attribute o m apos) (e :: es) kws pos) (tMethK C n ks.length sp gV E ta t tk) := by
  refine ⟨fun pins s σ H Q I h => ?_⟩
  refine PySem.W.methodCall_KW (pl := pl) (thn (he.run pins s σ H _ I h) fun u s1 ⟨x, H1, I1, rx, a, dx, vs, ex, hsl, q⟩ => ?_) ht
  subst ex
  obtain rfl : u = Value.ref a := rx
  refine SlX.getmethsl_ok I1 hsl c hm ?_
  refine PySem.W.callWith_KW (first := [.ref a]) (h₀ := X.base) I1.ok.mod.kin hm.kp hall (thn (ha.run pos pins s1 σ H1 _ I1 q) fun us s2 ⟨ws, H2, I2, r, q2⟩ => ?_) hpl hst
  refine thn (hkw.run pos pins s2 σ H2 _ I2 q2) fun vz s3 ⟨zs, H3, I3, rz, l1, l2, q3⟩ => ⟨I3.kIn, ?_⟩
  rw [hks]
  exact run_fnKE (us := .ref a :: us) (vs := .ref a :: ws) F hr hb (hx σ) I3 (.cons rfl r) rz l1 l2 q3
theorem pe_methK0 {pl : Sem Bool} (he : PE X o ta) (c : SlX.SCls X.K C) (hm : Meth X.K C m g) (F : FnOk X.prog X.w X.K X.mg X.base CX k g fd ps sp) (hr : Room k X.A) (hb : KBn X.K fd ps 1 ks gg gV) (hx : ∀ σ, PassesAt CX X σ (E σ)) (hkw : PK X kws tk)
    (hall : (backToKw pos (keywordEach kws X.env)).all (·.1.isSome) = true := by rfl) (hks : (backToKw pos (keywordEach kws X.env)).filterMap (·.1) = ks := by rfl)
    (hpl : ((backTo pos (starEach [] X.env)).any (·.1) || (backToKw pos (keywordEach kws X.env)).any (·.1.isNone)) = false := by rfl)
    (ht : eval (.Call (.Attribute o m apos) [] kws pos) X.env = (do
      let ov ← eval o X.env
      standAt apos.atName
      let (f, first) ← holding [ov] (getMethod ov m pl)
      callWith pos f first (backTo pos (starEach [] X.env)) (backToKw pos (keywordEach kws X.env))) := by rfl) :
    PE X (.Call (.Attribute o m apos) [] kws pos) (tMethK C 1 ks.length sp gV E ta tNil tk) := by
  refine ⟨fun pins s σ H Q I h => ?_⟩
  refine PySem.W.methodCall_KW (pl := pl) (thn (he.run pins s σ H _ I h) fun u s1 ⟨x, H1, I1, rx, a, dx, vs, ex, hsl, q⟩ => ?_) ht
  subst ex
  obtain rfl : u = Value.ref a := rx
  refine SlX.getmethsl_ok I1 hsl c hm ?_
  refine PySem.W.callWith_KW0 (first := [.ref a]) (h₀ := X.base) I1.ok.mod.kin hm.kp hall ?_ hpl
  refine thn (hkw.run pos pins s1 σ H1 _ I1 q) fun vz s3 ⟨zs, H3, I3, rz, l1, l2, q3⟩ => ⟨I3.kIn, ?_⟩
  rw [hks]
  exact run_fnKE (us := [.ref a]) (vs := [.ref a]) F hr hb (hx σ) I3 (.cons rfl .nil) rz l1 l2 q3
end
section
variable {X : Cx} {F0 : Pt} {o e : Expr} {es : List Expr} {kws : List Keyword} {pos apos : Pos} {m qual : Str} {C : Addr} {st : Stmt} {ps : List Str} {sp : Sp3} {W : WK} {te : TE3} {t tk : TA3} {k j : Nat}
def dMethK (C : Addr) (n m : Nat) (perm : List Nat) (sp : Sp3) (W : WK) (te : TE3) (t tk : TA3) : TE3 := fun sd G Q => te sd G fun d G1 => match d with
  | .ins C' ds => C' = C ∧ t sd G1 fun xs G2 => tk sd G2 fun zs G3 => match lenIs n (D.ins C' ds :: xs), lenIs m zs with
    | true, true => sp (pk perm ((.ins C' ds :: xs) ++ zs)) G3 Q fun C fs G4 => W C fs sd G4
    | _, _ => False
  | .ref p => (∃ dx ds, G1 p = some (.sl C dx ds)) ∧ t sd G1 fun xs G2 => tk sd G2 fun zs G3 => match lenIs n (D.ref p :: xs), lenIs m zs with
    | true, true => sp (pk perm ((.ref p :: xs) ++ zs)) G3 Q fun C fs G4 => W C fs sd G4
    | _, _ => False
  | _ => False
theorem low_methK {n mm : Nat} {perm : List Nat} {σ : L2.St} {H : Hp} {Q : VK} (h : low X.K F0 (dMethK C n mm perm sp W te t tk) σ H Q) : tMethK C n mm (dn X.K sp) (fun vs zs => pk perm (vs ++ zs)) (fun σ cls d H => lowW X.K F0 W cls d σ H) (low X.K F0 te) (lowA X.K F0 t) (lowA X.K F0 tk) σ H Q := by
  obtain ⟨sd, F, G, Q3, at_, h, kq⟩ := h
  refine ⟨sd, F, G, _, at_, h, fun d v F1 G1 H1 l1 r1 q1 => ?_⟩
  cases d <;> first | exact q1.elim | skip
  · cases r1
    obtain ⟨⟨dx, ds, eg⟩, q1⟩ := q1
    obtain ⟨vs, sl, rl⟩ := own_sl l1.cp eg
    refine ⟨_, dx, _, rfl, sl, sd, F1, G1, _, at_.step l1, q1, fun xs us F2 G2 H2 l2 r2 q2 => ⟨sd, F2, G2, _, (at_.step l1).step l2, q2, fun zs ws F3 G3 H3 l3 r3 q3 => ?_⟩⟩
    split at q3
    · rename_i e1 e2
      have e1 := lenIs_ok e1
      have e2 := lenIs_ok e2
      refine ⟨?_, ?_, _, F3, G3, Q3, _, l3.cp, pk_repL ((RepL.cons (.ref _) (r2.mono l3.le)).append r3) perm, q3, kq.mono ((l1.trans l2).trans l3), low_w (((at_.step l1).step l2).step l3)⟩
      · rw [List.length_cons, ← r2.length, ← e1, List.length_cons]
      · rw [← r3.length]; exact e2
    · exact q3.elim
  · obtain ⟨rfl, q1⟩ := q1
    cases r1 with
    | @ins a _ dx _ vs h1 h2 rl =>
      refine ⟨_, dx, _, rfl, .inr ⟨l1.cp.frz _ _ h1, l1.cp.frz _ _ h2⟩, sd, F1, G1, _, at_.step l1, q1, fun xs us F2 G2 H2 l2 r2 q2 => ⟨sd, F2, G2, _, (at_.step l1).step l2, q2, fun zs ws F3 G3 H3 l3 r3 q3 => ?_⟩⟩
      split at q3
      · rename_i e1 e2
        have e1 := lenIs_ok e1
        have e2 := lenIs_ok e2
        refine ⟨?_, ?_, _, F3, G3, Q3, _, l3.cp, pk_repL ((RepL.cons ((Rep.ins h1 h2 rl).mono (l2.le.trans l3.le)) (r2.mono l3.le)).append r3) perm, q3, kq.mono ((l1.trans l2).trans l3), low_w (((at_.step l1).step l2).step l3)⟩
        · rw [List.length_cons, ← r2.length, ← e1, List.length_cons]
        · rw [← r3.length]; exact e2
      · exact q3.elim
theorem de_methK {ks : List Str} (perm : List Nat) {pl : Sem Bool} (c : MetF X.prog X.w X.K X.mg X.base k C m qual st ps sp) (hr : Room j X.A) (tkx : Takes X (lowW X.K F0 W)) (ho : DE X F0 o te) (ha : DA X F0 (e :: es) t) (hkw : DK3 X F0 kws tk)
    (hb : ∀ (kV doc pm : Value) (an : Option Addr) (cdv ct : Value) (us ws : List Value), us.length = (e :: es).length + 1 → ws.length = ks.length → bindArgs (PySem.W.fnOf m qual (defArgs st) (defBody st) (defScope st) .none kV doc pm an cdv ct) ⟨us, ks.zip ws⟩ = pure (ps.zip (pk perm (us ++ ws))))
    (hk : k ≤ j := by decide) (hall : (backToKw pos (keywordEach kws X.env)).all (·.1.isSome) = true := by rfl) (hks : (backToKw pos (keywordEach kws X.env)).filterMap (·.1) = ks := by rfl)
    (hst : starEach (e :: es) X.env = (false, eval e X.env) :: starEach es X.env := by rfl) (hpl : ((backTo pos (starEach (e :: es) X.env)).any (·.1) || (backToKw pos (keywordEach kws X.env)).any (·.1.isNone)) = false := by rfl)
    (ht : eval (.Call (.Attribute o m apos) (e :: es) kws pos) X.env = (do
      let ov ← eval o X.env
      standAt apos.atName
      let (f, first) ← holding [ov] (getMethod ov m pl)
      callWith pos f first (backTo pos (starEach (e :: es) X.env)) (backToKw pos (keywordEach kws X.env))) := by rfl) :
    DE X F0 (.Call (.Attribute o m apos) (e :: es) kws pos) (dMethK C ((e :: es).length + 1) ks.length perm sp W te t tk) := by
  obtain ⟨g, fd, hm, F, b, h⟩ := c.ex
  exact PE.imp (pe_methK (E := fun σ cls d H => lowW X.K F0 W cls d σ H) ho c.c hm h (hr.mono hk) (kbn F hb) (fun σ => passAt tkx σ) ha hkw hall hks hst hpl ht) fun _ _ _ h => low_methK h
theorem de_methK0 {ks : List Str} (perm : List Nat) {pl : Sem Bool} (c : MetF X.prog X.w X.K X.mg X.base k C m qual st ps sp) (hr : Room j X.A) (tkx : Takes X (lowW X.K F0 W)) (ho : DE X F0 o te) (hkw : DK3 X F0 kws tk)
    (hb : ∀ (kV doc pm : Value) (an : Option Addr) (cdv ct : Value) (us ws : List Value), us.length = 1 → ws.length = ks.length → bindArgs (PySem.W.fnOf m qual (defArgs st) (defBody st) (defScope st) .none kV doc pm an cdv ct) ⟨us, ks.zip ws⟩ = pure (ps.zip (pk perm (us ++ ws))))
    (hk : k ≤ j := by decide) (hall : (backToKw pos (keywordEach kws X.env)).all (·.1.isSome) = true := by rfl) (hks : (backToKw pos (keywordEach kws X.env)).filterMap (·.1) = ks := by rfl)
    (hpl : ((backTo pos (starEach [] X.env)).any (·.1) || (backToKw pos (keywordEach kws X.env)).any (·.1.isNone)) = false := by rfl)
    (ht : eval (.Call (.Attribute o m apos) [] kws pos) X.env = (do
      let ov ← eval o X.env
      standAt apos.atName
      let (f, first) ← holding [ov] (getMethod ov m pl)
      callWith pos f first (backTo pos (starEach [] X.env)) (backToKw pos (keywordEach kws X.env))) := by rfl) :
    DE X F0 (.Call (.Attribute o m apos) [] kws pos) (dMethK C 1 ks.length perm sp W te dNil tk) := by
  obtain ⟨g, fd, hm, F, b, h⟩ := c.ex
  exact PE.imp (pe_methK0 (E := fun σ cls d H => lowW X.K F0 W cls d σ H) ho c.c hm h (hr.mono hk) (kbn F hb) (fun σ => passAt tkx σ) hkw hall hks hpl ht) fun σ H Q h => by
    obtain ⟨sd, F', G, Q3, at_, h1, k1⟩ := low_methK h
    refine ⟨sd, F', G, Q3, at_, h1, fun d v F1 G1 H1 l r q => ?_⟩
    obtain ⟨a, dx, vs, e, sl, z⟩ := k1 d v F1 G1 H1 l r q
    obtain ⟨sd2, F2, G2, Q2, at2, h2, k2⟩ := z
    exact ⟨a, dx, vs, e, sl, k2 [] [] F2 G2 H1 (Ext.refl at2.cp) .nil h2⟩
end
/-! ### C.m(k = v), m a class method -/
structure CMtF (P : Program) (w : World) (K : PySem.W.Frag) (mg : Str → Option Value) (base : Heap) (k : Nat) (C : Addr) (m qual : Str) (st : Stmt) (ps : List Str) (sp : Sp3) : Prop where
  ex : ∃ mc p g fd, ClX.CRead K C mc ∧ ClX.CMet K C mc m p g ∧ Fun K m qual st g fd ∧ Binds K fd ps [] ∧ FnOk P w K mg base (L2.CX P w) k g fd ps (dn K sp)
section
variable {P : Program} {w : World} {K : PySem.W.Frag} {mg : Str → Option Value} {base : Heap} {C : Addr} {m qual : Str} {st : Stmt} {N ps : List Str} {sp : Sp3} {k : Nat}
theorem cmtF (A : ClsMAt K C m qual st ps) (S : FnScope N ps (defScope st)) (hlen : ps.length ≤ N.length) (len : ∀ ds G Q E, sp ds G Q E → ds.length = ps.length) (h : Body P w K mg base k qual st N sp) : CMtF P w K mg base (k + 1) C m qual st ps sp := by
  obtain ⟨mc, p, g, fd, r, c, F, b⟩ := A.ex
  exact ⟨mc, p, g, fd, r, c, F, b, fn3 F S hlen len h⟩
theorem CMtF.met (c : CMtF P w K mg base k C m qual st ps sp) : CMt3 P w K mg base k C m sp := by
  obtain ⟨mc, p, g, fd, r, cm, F, b, h⟩ := c.ex
  exact ⟨mc, p, g, r, cm, FnOk.raw0 h b⟩
end
section
variable {X : Cx} {CX : CXT} {F0 : Pt} {o : Expr} {kws : List Keyword} {pos apos : Pos} {m qual : Str} {C g p : Addr} {mc : Value} {fd : FuncData} {ps ks : List Str} {sp : Sp} {E : L2.St → XK} {k j : Nat} {gg : List Value → List Value → List Value} {gV : List V → List V → List V} {ta : TE} {tk : TA}
def tCMethK (C : Addr) (m : Nat) (sp : Sp) (gV : List V → List V → List V) (E : L2.St → XK) (ta : TE) (tk : TA) : TE := fun σ H Q => ta σ H fun x H1 => x = .ref C ∧ tk σ H1 fun zs H3 => zs.length = m ∧ sp (gV [.ref C] zs) H3 Q (E σ)
theorem pe_cmethK {pl : Sem Bool} (he : PE X o ta) (r : ClX.CRead X.K C mc) (c : ClX.CMet X.K C mc m p g) (F : FnOk X.prog X.w X.K X.mg X.base CX k g fd ps sp) (hr : Room k X.A) (hb : KBn X.K fd ps 1 ks gg gV) (hx : ∀ σ, PassesAt CX X σ (E σ)) (hkw : PK X kws tk)
    (hall : (backToKw pos (keywordEach kws X.env)).all (·.1.isSome) = true := by rfl) (hks : (backToKw pos (keywordEach kws X.env)).filterMap (·.1) = ks := by rfl)
    (hpl : ((backTo pos (starEach [] X.env)).any (·.1) || (backToKw pos (keywordEach kws X.env)).any (·.1.isNone)) = false := by rfl)
    (ht : eval (.Call (.Attribute o m apos) [] kws pos) X.env = (do
      let ov ← eval o X.env
      standAt apos.atName
      let (f, first) ← holding [ov] (getMethod ov m pl)
      callWith pos f first (backTo pos (starEach [] X.env)) (backToKw pos (keywordEach kws X.env))) := by rfl) :
    PE X (.Call (.Attribute o m apos) [] kws pos) (tCMethK C ks.length sp gV E ta tk) := by
  refine ⟨fun pins s σ H Q I h => ?_⟩
  refine PySem.W.methodCall_KW (pl := pl) (thn (he.run pins s σ H _ I h) fun u s1 ⟨x, H1, I1, rx, ex, q⟩ => ?_) ht
  subst ex
  obtain rfl : u = Value.ref C := rx
  refine ClX.getmethcm_ok I1 r c fun s2 I2 => ?_
  refine PySem.W.callWith_of hpl (PySem.W.keeps_M (self := .ref C) c.fi) (PyProof.Rows.evalArgs_kw2_nil hall ?_)
  refine thn (hkw.run pos _ s2 σ H1 _ I2 q) fun vz s3 ⟨zs, H3, I3, rz, l2, q3⟩ => ⟨⟨ClX.pin_at I3, I3.kIn⟩, ?_⟩
  rw [hks]
  refine wpAny_call (PySem.W.method_call (ClX.pin_at I3) (codeAny_mono (F.run X.A X.stack s3 H3 ⟨[.ref C], ks.zip vz⟩ (gg [.ref C] vz) (gV [.ref C] zs) Q (E σ) hr I3.env0 (hb.to s3 [.ref C] vz I3.kIn rfl (rz.length.symm.trans l2)) (hb.rel (.cons rfl .nil) rz) q3) fun r s' hq => ?_))
  cases r with
  | error e => exact hx σ _ H3 s3 e s' I3 hq
  | ok fl =>
    cases fl with
    | ret u => exact ClX.unpinE (I3.after hq)
    | next => exact hq.elim
    | brk => exact hq.elim
    | cont => exact hq.elim
end
section
variable {X : Cx} {F0 : Pt} {o e : Expr} {es : List Expr} {kws : List Keyword} {pos apos p : Pos} {m qual : Str} {C : Addr} {st : Stmt} {ps : List Str} {sp : Sp3} {W : WK} {te : TE3} {t tk : TA3} {k j : Nat}
def dCMethK (C : Addr) (m : Nat) (perm : List Nat) (sp : Sp3) (W : WK) (te : TE3) (tk : TA3) : TE3 := fun sd G Q => te sd G fun d G1 => match d with
  | .ref c => c = C ∧ tk sd G1 fun zs G3 => match lenIs m zs with
    | true => sp (pk perm ([.ref C] ++ zs)) G3 Q fun C fs G4 => W C fs sd G4
    | _ => False
  | _ => False
theorem de_cmethK {ks : List Str} (perm : List Nat) {pl : Sem Bool} (c : CMtF X.prog X.w X.K X.mg X.base k C m qual st ps sp) (hr : Room j X.A) (tkx : Takes X (lowW X.K F0 W)) (ho : DE X F0 o te) (hkw : DK3 X F0 kws tk)
    (hb : ∀ (kV doc pm : Value) (an : Option Addr) (cdv ct : Value) (us ws : List Value), us.length = 1 → ws.length = ks.length → bindArgs (PySem.W.fnOf m qual (defArgs st) (defBody st) (defScope st) .none kV doc pm an cdv ct) ⟨us, ks.zip ws⟩ = pure (ps.zip (pk perm (us ++ ws))))
    (hk : k ≤ j := by decide) (hall : (backToKw pos (keywordEach kws X.env)).all (·.1.isSome) = true := by rfl) (hks : (backToKw pos (keywordEach kws X.env)).filterMap (·.1) = ks := by rfl)
    (hpl : ((backTo pos (starEach [] X.env)).any (·.1) || (backToKw pos (keywordEach kws X.env)).any (·.1.isNone)) = false := by rfl)
    (ht : eval (.Call (.Attribute o m apos) [] kws pos) X.env = (do
      let ov ← eval o X.env
      standAt apos.atName
      let (f, first) ← holding [ov] (getMethod ov m pl)
      callWith pos f first (backTo pos (starEach [] X.env)) (backToKw pos (keywordEach kws X.env))) := by rfl) :
    DE X F0 (.Call (.Attribute o m apos) [] kws pos) (dCMethK C ks.length perm sp W te tk) := by
  obtain ⟨mc, pp, g, fd, r, cm, F, b, h⟩ := c.ex
  refine PE.imp (pe_cmethK (E := fun σ cls d H => lowW X.K F0 W cls d σ H) ho r cm h (hr.mono hk) (kbn F hb) (fun σ => passAt tkx σ) hkw hall hks hpl ht) fun σ H Q ⟨sd, F, G, Q3, at_, h, kq⟩ => ⟨sd, F, G, _, at_, h, fun d v F1 G1 H1 l1 r1 q1 => ?_⟩
  cases d <;> first | exact q1.elim | skip
  cases r1
  obtain ⟨rfl, q1⟩ := q1
  refine ⟨rfl, sd, F1, G1, _, at_.step l1, q1, fun zs us F3 G3 H3 l3 r3 q3 => ?_⟩
  split at q3
  · rename_i e2
    exact ⟨by rw [← r3.length]; exact lenIs_ok e2, _, F3, G3, Q3, _, l3.cp, pk_repL ((RepL.cons (.ref _) .nil).append r3) perm, q3, kq.mono (l1.trans l3), low_w ((at_.step l1).step l3)⟩
  · exact q3.elim
/-! ### repr(x), x an instance with an own __repr__ -/
def rReprO (C : Addr) (sp : Sp3) : List D → Gp → DK → Prop := fun ds G Q => match ds with
  | [.ins C' fs] => C' = C ∧ sp [.ins C' fs] G (fun z G2 => ∃ y, z = .str y ∧ Q z G2) NoE
  | _ => False
theorem call_reprO (c : Met3 X.prog X.w X.K X.mg X.base k C "__repr__" sp []) (hr : Room j X.A) (hk : k + 1 ≤ j := by decide) : CallR X (.builtin "repr") (lowCall X.K (rReprO C sp)) := by
  obtain ⟨g, fd, qs, ds0, dvs, hm3, FO, hb, hd, rd⟩ := c.ex
  have hz : dvs = [] := (rd (fun _ => none)).inv0
  subst hz
  cases hd
  have FR := FnOk.raw0 FO hb
  intro pins s σ H xs us Q I r ⟨ds, F, G, Q3, cp, rl, h, kq⟩
  unfold rReprO at h
  split at h
  · obtain ⟨v, rfl, rv⟩ := rl.inv1
    obtain ⟨u, rfl, ru⟩ := vals1 r
    obtain ⟨ec, h⟩ := h
    subst ec
    have rv' := rv
    cases rv with
    | ins h1 h2 r2 =>
      cases (show u = Value.ref _ from ru)
      obtain ⟨sl, od, _, J, _⟩ := SlX.slt_inst I (.inr ⟨cp.frz _ _ h1, cp.frz _ _ h2⟩)
      obtain ⟨mm, hF⟩ := I.fr
      have rk : Room (k + 1) X.A := hr.mono hk
      refine PySem.W.repr_K rk.in1.units0 hF I.ok.mod.kin J hm3.at_ hm3.fn ?_
      refine wpAny_call (codeAny_mono (FR X.A.in1 X.stack s H [.ref _] [.ref _] (fun z H' => ∃ y, z = .str y ∧ Q z H') (fun _ _ _ => False) rk.in1 I.env0.in1 (.cons rfl .nil) ⟨[_], F, G, _, NoE, cp, .one rv', h, fun d v F' G' H' l r ⟨y, ey, q⟩ => ?_, qx_none⟩) fun r s1 z => ?_)
      · subst ey
        cases r
        exact ⟨y, rfl, kq _ _ _ _ _ l (.str y) q⟩
      · cases r with
        | error e => exact (cx_none z).elim
        | ok fl =>
          cases fl with
          | ret z1 =>
            obtain ⟨z', H', I', rz, y, ey, qz⟩ := I.after z
            subst ey
            obtain ⟨t, e⟩ := (show ∃ t, z1 = Value.str y t from rz)
            cases e
            exact ⟨.str y, H', I', ⟨t, rfl⟩, qz⟩
          | next => exact False.elim z
          | brk => exact False.elim z
          | cont => exact False.elim z
  · exact h.elim
end
end L3
set_option Elab.async false
set_option linter.all false
set_option maxRecDepth 100000
set_option maxHeartbeats 4000000
namespace L3
open PySem PySem.Spec PyProof.Rows L2 PySem.Calls
/-! ### what repr prints of small signs is of small signs -/
def ascB (x : Str) : Bool := x.cps.toList.all fun c => decide (c < 1000)
theorem ascB_app {x y : Str} (hx : ascB x = true) (hy : ascB y = true) : ascB (x ++ y) = true := by
  unfold ascB at *
  show List.all ((x ++ y).cps.toList) _ = true
  have e : (x ++ y).cps.toList = x.cps.toList ++ y.cps.toList := by
    show (x.cps ++ y.cps).toList = _
    simp
  rw [e, List.all_append, hx, hy]
  rfl
theorem hex_asc : ∀ c ∈ List.range 1000, ((Nat.toDigits 16 c).map Char.toNat).all (fun d => decide (d < 1000)) = true := by decide +kernel
theorem reprChar_asc {q c : Nat} (hc : c < 1000) : (Builtin.Str.reprChar q c).all (fun d => decide (d < 1000)) = true := by
  have hx := hex_asc c (List.mem_range.mpr hc)
  have pad : ∀ n, (List.replicate n 48 ++ (Nat.toDigits 16 c).map Char.toNat).all (fun d => decide (d < 1000)) = true := fun n => by
    rw [List.all_append, hx, Bool.and_true]
    exact List.all_eq_true.mpr fun d hd => by rw [(List.mem_replicate.mp hd).2]; rfl
  have e92 : ∀ d, d < 1000 → ([92, d] : List Nat).all (fun d => decide (d < 1000)) = true := fun d hd => by
    simp
    omega
  unfold Builtin.Str.reprChar
  dsimp only
  split
  · exact e92 c hc
  · split
    · exact e92 _ (by decide)
    · split
      · exact e92 _ (by decide)
      · split
        · exact e92 _ (by decide)
        · split
          · simp
            omega
          · split
            · rw [List.all_append, pad]
              rfl
            · split
              · rw [List.all_append, pad]
                rfl
              · rw [List.all_append, pad]
                rfl
theorem fold_asc (q : Nat) : ∀ (l : List Nat) (acc : Array Nat), (l.all fun c => decide (c < 1000)) = true → (acc.toList.all fun c => decide (c < 1000)) = true → ((l.foldl (fun out c => out ++ (Builtin.Str.reprChar q c).toArray) acc).toList.all fun c => decide (c < 1000)) = true
  | [], acc, _, h => h
  | c :: r, acc, hl, h => by
    rw [List.all_cons, Bool.and_eq_true] at hl
    refine fold_asc q r _ hl.2 ?_
    rw [Array.toList_append, List.all_append, h, reprChar_asc (of_decide_eq_true hl.1)]
    rfl
theorem repr_asc {x : Str} (h : ascB x = true) : ascB (reprText x) = true := by
  have hq : reprQuote x < 1000 := by
    unfold reprQuote
    split <;> decide
  unfold ascB reprText
  rw [Array.toList_push, List.all_append, ← Array.foldl_toList, fold_asc _ _ _ h (by simp; exact hq)]
  simp
  exact hq
theorem int_asc (z : Int) : ascB (Str.ofString (toString z)) = true := by
  unfold ascB
  refine List.all_eq_true.mpr fun c hc => decide_eq_true ?_
  rw [Str.ofString_eq_toList] at hc
  obtain ⟨ch, h1, rfl⟩ := List.mem_map.mp (show c ∈ (toString z).toList.map Char.toNat by simpa using hc)
  have := PySem.int_ascii z ch h1
  omega
theorem join_asc {s : Str} (hs : ascB s = true) : ∀ {ts : List Str}, ts.all ascB = true → ascB (Str.join s ts) = true
  | [], _ => rfl
  | [x], h => by
    rw [List.all_cons, Bool.and_eq_true] at h
    exact h.1
  | x :: y :: r, h => by
    rw [List.all_cons, Bool.and_eq_true] at h
    show ascB (x ++ s ++ Str.join s (y :: r)) = true
    exact ascB_app (ascB_app h.1 hs) (join_asc hs h.2)
theorem from_asc : ∀ {ts : List Str} {k : Nat} {acc : Str}, ts.all ascB = true → ascB acc = true → ascB (textFrom k acc ts) = true
  | [], _, _, _, h => h
  | t :: r, k, acc, ht, h => by
    rw [List.all_cons, Bool.and_eq_true] at ht
    show ascB (textFrom (k + 1) (acc ++ (if k > 0 then ", " else "" : String) ++ t) r) = true
    refine from_asc ht.2 (ascB_app (ascB_app h ?_) ht.1)
    split <;> decide +kernel
theorem asc_consts : ascB "[" = true ∧ ascB "]" = true ∧ ascB "(" = true ∧ ascB ")" = true ∧ ascB ",)" = true ∧ ascB ", " = true ∧ ascB "{" = true ∧ ascB "}" = true ∧ ascB ": " = true ∧ ascB "None" = true ∧ ascB "True" = true ∧ ascB "False" = true := by decide +kernel
theorem list_asc {ts : List Str} (h : ts.all ascB = true) : ascB (listText ts) = true := ascB_app (from_asc h asc_consts.1) asc_consts.2.1
theorem tuple_asc {ts : List Str} (h : ts.all ascB = true) : ascB (tupleText ts) = true := by
  obtain ⟨_, _, c3, c4, c5, c6, _⟩ := asc_consts
  refine ascB_app (ascB_app c3 (join_asc c6 h)) ?_
  split
  · exact c5
  · exact c4
theorem dict_asc {ts : List Str} (h : ts.all ascB = true) : ascB (dictText ts) = true := by
  obtain ⟨_, _, _, _, _, c6, c7, c8, _⟩ := asc_consts
  exact ascB_app (ascB_app c7 (join_asc c6 h)) c8
theorem key_asc {k : Key} (h : okKey k = true) : ascB (keyP k).shown = true := by
  cases k with
  | inl i => unfold keyP PyData.shown; exact int_asc i
  | inr x => unfold keyP PyData.shown; exact repr_asc h
mutual
theorem asc_of : ∀ (d : D) (p : PyData), okD d = true → toX d = some p → ascB p.shown = true
  | .non, _, _, e => by cases e; unfold PyData.shown; exact asc_consts.2.2.2.2.2.2.2.2.2.1
  | .bl b, _, _, e => by cases e; cases b <;> (unfold PyData.shown; decide +kernel)
  | .int i, _, _, e => by cases e; unfold PyData.shown; exact int_asc i
  | .str x, _, h, e => by cases e; unfold okD at h; unfold PyData.shown; exact repr_asc h
  | .tup ds, _, h, e => by
    unfold okD at h
    unfold toX at e
    obtain ⟨ps, e1, e2⟩ := Option.map_eq_some_iff.mp e
    subst e2
    unfold PyData.shown
    exact tuple_asc (asc_ofL ds ps h e1)
  | .lst ds, _, h, e => by
    unfold okD at h
    unfold toX at e
    obtain ⟨ps, e1, e2⟩ := Option.map_eq_some_iff.mp e
    subst e2
    unfold PyData.shown
    exact list_asc (asc_ofL ds ps h e1)
  | .dic ks, _, h, e => by
    unfold okD at h
    unfold toX at e
    obtain ⟨ps, e1, e2⟩ := Option.map_eq_some_iff.mp e
    subst e2
    unfold PyData.shown
    exact dict_asc (asc_ofK ks ps h e1)
  | .scr _, _, h, _ => by cases h
  | .ref _, _, h, _ => by cases h
  | .ty _, _, h, _ => by cases h
  | .ins _ _, _, h, _ => by cases h
  | .obj _ _, _, h, _ => by cases h
theorem asc_ofL : ∀ (ds : List D) (ps : List PyData), okL ds = true → toXL ds = some ps → (PyData.shownAll ps).all ascB = true
  | [], _, _, e => by cases e; rfl
  | d :: ds, _, h, e => by
    unfold okL at h
    rw [Bool.and_eq_true] at h
    unfold toXL at e
    split at e
    · rename_i q eq
      obtain ⟨ps, e1, e2⟩ := Option.map_eq_some_iff.mp e
      subst e2
      unfold PyData.shownAll
      rw [List.all_cons, asc_of d q h.1 eq, asc_ofL ds ps h.2 e1]
      rfl
    · cases e
theorem asc_ofK : ∀ (ks : List (Key × D)) (ps : List (PyData × PyData)), okK ks = true → toXK ks = some ps → (PyData.shownKv ps).all ascB = true
  | [], _, _, e => by cases e; rfl
  | (k, d) :: ds, _, h, e => by
    unfold okK at h
    rw [Bool.and_eq_true, Bool.and_eq_true] at h
    unfold toXK at e
    split at e
    · rename_i q eq
      obtain ⟨ps, e1, e2⟩ := Option.map_eq_some_iff.mp e
      subst e2
      unfold PyData.shownKv
      rw [List.all_cons, ascB_app (ascB_app (key_asc h.1) asc_consts.2.2.2.2.2.2.2.2.1) (asc_of d q h.2.1 eq), asc_ofK ds ps h.2.2 e1]
      rfl
    · cases e
end
/-- repr, with what its text is made of -/
theorem repr_ex {d : D} (h : okD d = true) (hw : wtD d ≤ 60000) (hd : dpD d ≤ 60) : ∃ p, toX d = some p ∧ p.showable = true ∧ p.depth ≤ 60 ∧ p.shown.length ≤ sizeLine ∧ ascB p.shown = true := by
  obtain ⟨p, a, b, c, e, _⟩ := (repr_ok (Q := fun _ _ => True) (G := fun _ => none) h hw hd trivial)
  exact ⟨p, a, b, c, e, asc_of d p h a⟩
theorem can_asc {x : Str} (h : ascB x = true) : (PyData.str x).canLay0 = true := by
  show PySem.PyData.strOk x = true
  unfold PySem.PyData.strOk
  rw [← Array.all_toList]
  refine List.all_eq_true.mpr fun d hd => decide_eq_true ?_
  have := of_decide_eq_true (List.all_eq_true.mp h d hd)
  omega
/-- lists of texts compared -/
theorem strs_data (xs : List Str) : toData (.lst (xs.map D.str)) = some (.list (xs.map PyData.str)) := toD_lst (toDataL_map D.str PyData.str (fun _ => rfl) xs)
theorem strs_shape {xs : List Str} (h : ∀ x ∈ xs, ascB x = true) : SeqAt.shaped (.list (xs.map PyData.str)) = true := sh_list fun p hp => by
  obtain ⟨x, hx, rfl⟩ := List.mem_map.mp hp
  exact ⟨can_asc (h x hx), Nat.zero_le _⟩
theorem strs_eqv (xs ys : List Str) : PyData.eqv (.list (xs.map PyData.str)) (.list (ys.map PyData.str)) = decide (xs = ys) := eqvAll_map PyData.str eqv_str xs ys
theorem strs_same {xs : List Str} (h : ∀ x ∈ xs, ascB x = true) : ∃ d e, toData (.lst (xs.map D.str)) = some d ∧ toData (.lst (xs.map D.str)) = some e ∧ SeqAt.shaped d = true ∧ SeqAt.shaped e = true ∧ PyData.eqv d e = true := ⟨_, _, strs_data xs, strs_data xs, strs_shape h, strs_shape h, by rw [strs_eqv]; exact decide_eq_true rfl⟩
theorem bls_data (l : List Bool) : toData (.lst (l.map D.bl)) = some (.list (l.map PyData.bool)) := toD_lst (toDataL_map D.bl PyData.bool (fun _ => rfl) l)
theorem bls_shape (l : List Bool) : SeqAt.shaped (.list (l.map PyData.bool)) = true := sh_list fun p hp => by
  obtain ⟨b, _, rfl⟩ := List.mem_map.mp hp
  exact ⟨rfl, Nat.zero_le _⟩
theorem bls_same (l m : List Bool) (h : l = m) : ∃ d e, toData (.lst (l.map D.bl)) = some d ∧ toData (.lst (m.map D.bl)) = some e ∧ SeqAt.shaped d = true ∧ SeqAt.shaped e = true ∧ PyData.eqv d e = true := ⟨_, _, bls_data l, bls_data m, bls_shape l, bls_shape m, by subst h; exact (eqvAll_map PyData.bool eqv_bool l l).trans (decide_eq_true rfl)⟩
end L3
set_option Elab.async false
set_option linter.all false
set_option maxRecDepth 100000
set_option maxHeartbeats 4000000
/-! an exception out of a list comprehension (no captured names) -/
namespace L2
open PySem PySem.Spec PyProof.Rows
/-! ### the block's exceptions are noted by the frame around -/
section
variable {M : Model} {A : Around} {E : Value → Shared → Prop} {s : Shared} {Z : Obj → Prop} {base : Heap} {env : Env} {outer l : List Env} {L e : Addr}
theorem note_as {ce : Env} (hc : ce.frame = env.frame) (v : Value) : noteFrame v ce = noteFrame v env := by
  unfold noteFrame PySem.frameOf
  rw [hc]
theorem looks_ofZ {C : Addr} {Q : Unit → Shared → Prop} (hZ : HandSPX.Steady Z) (hfr : A.frames = some (env :: outer)) (hf : env.frame = some L) (hne : C ≠ L) (hh : HandSPX.HeldZ base (env :: outer) e Z C s.heap)
    (hQ : ∀ h2, HandSPX.HeldZ base (env :: outer) e Z L h2 → s.heap.UpToSlots h2 → Q () { s with heap := h2 }) : wpAny M A (noteFrame (.ref e) env) Q E s := by
  obtain ⟨st, en, ff, oe, vs, T, oT, ts, he, hz, hd, e1, nT, tne, hT, dT, e3⟩ := hh
  unfold noteFrame
  simp only [hf]
  refine wpAny_bind (wpAny_field he hd e1 ?_)
  rw [if_pos (show (Value.ref T != .none) = true by simp)]
  refine wpAny_bind (wpAny_field hT dT e3 ?_)
  have nr : (rawInt C == rawInt L) = false := by
    cases q : (rawInt C == rawInt L) with
    | false => rfl
    | true =>
      refine absurd ?_ hne
      have z := beq_iff_eq.mp q
      simp only [rawInt] at z
      have y : (C : Int) = (L : Int) := by simpa using z
      exact Int.ofNat.inj y
  rw [nr, if_neg Bool.false_ne_true]
  refine wpAny_bind (wpAny_setField hT dT (Array.getElem?_eq_some_iff.mp e3).1 ?_)
  have oth : ∀ b, b ≠ T → (s.heap.update T (Obj.mapFields (·.setIfInBounds 3 .none))).get? b = s.heap.get? b := fun b nb =>
    Heap.get?_update_other _ _ fun z => nb z.symm
  have norec : ∀ b o, s.heap.get? b = some o → (∀ w, o.data ≠ .fields w) → b ≠ T := fun b o hb nf q => by
    subst q
    rw [hT] at hb
    cases hb
    exact nf ts dT
  have k1 : ∀ b o, base.get? b = some o → (s.heap.update T (Obj.mapFields (·.setIfInBounds 3 .none))).get? b = some o := fun b o q => by
    rw [oth b fun z => by subst z; rw [nT] at q; cases q]
    exact st b o q
  refine HandSPX.wpAny_entryZ hZ hfr (ff.of_keeps fun b o hb nf => ⟨o, (oth b (norec b o hb nf)).trans hb, rfl⟩) hf ((oth e fun z => tne z.symm).trans he) k1 en hd (Array.getElem?_eq_some_iff.mp e1).1 hz ?_
  rintro h2 ⟨y1, y2, y3, y4⟩
  exact hQ h2 ⟨y1, en, y2, y3⟩ fun b o hb nf => y4 b o ((oth b (norec b o hb nf)).trans hb) nf
theorem Sky.hold {C : Addr} {Q : Unit → Shared → Prop} (hZ : HandSPX.Steady Z) (hfr : A.frames = some (env :: outer)) (hf : env.frame = some L) (hne : C ≠ L) (x : Sky base (env :: outer) e Z C s.heap)
    (hQ : ∀ h2, HandSPX.HeldZ base (env :: outer) e Z L h2 → s.heap.UpToSlots h2 → Q () { s with heap := h2 }) : wpAny M A (noteFrame (.ref e) env) Q E s := by
  rcases x with ⟨hB, hn, hl, oe, vs, he, hz, hd, h1⟩ | fl | hh
  · exact HandSPX.look_newZ hZ hfr hl hf he hB hn hd h1 hz hQ
  · exact HandSPX.looks_onZ hZ hfr hf fl hQ
  · exact looks_ofZ hZ hfr hf hne hh hQ
theorem frames_to {h h' B B' : Heap} : ∀ {l : List Env}, h.FunFrames B l → (∀ b ∈ frs l, h'.get? b = h.get? b) → (∀ b, B.get? b = none → B'.get? b = none) → h'.FunFrames B' l
  | [], _, _, _ => trivial
  | env :: l, ⟨hk, ⟨L, o, hf, hn, ho, hd⟩, hr⟩, k, n => by
    have hm : L ∈ frs (env :: l) := List.mem_filterMap.mpr ⟨env, List.mem_cons_self, hf⟩
    refine ⟨hk, ⟨L, o, hf, n L hn, (k L hm).trans ho, hd⟩, frames_to hr (fun b hb => k b ?_) n⟩
    obtain ⟨e, he, q⟩ := List.mem_filterMap.mp hb
    exact List.mem_filterMap.mpr ⟨e, List.mem_cons_of_mem _ he, q⟩
end
/-- a block's context with a wish about exceptions -/
abbrev Cx.blkX (X : Cx) (s : Shared) (H : Hp) (scope : Scope) (ce : Env) (fp : List Addr) (xe : Value → Shared → Prop) : Cx := { X.blk s H scope ce fp with xe := xe }
/-- behind the block's loop: the block lets its names go, the exception is passed on -/
def afterX (X : Cx) (ce : Env) (Qf : Value → Shared → Prop) (acc : Value) (r : Result) (s' : Shared) : Prop :=
  ∃ m, s'.heap.Ns ce.locals m ∧ ∀ h2, Heap.SameBut ce.locals s'.heap h2 → match r with
    | .ok _ => Qf acc { s' with heap := h2 }
    | .error x => wpAny (model X.prog X.w) X.A (PySem.passOn "comprehension.variables-let-go" x ce) Qf X.xe { s' with heap := h2 }
section
variable {X : Cx} {pins : List (Addr × Obj)} {σ : St} {H H3 : Hp} {s s3 : Shared}
theorem Inv.blkX {scope : Scope} {ce : Env} {fp : List Addr} {xe : Value → Shared → Prop} (I : Inv (X.blk s3 H3 scope ce fp) pins σ H s) : Inv (X.blkX s3 H3 scope ce fp xe) pins σ H s :=
  ⟨⟨I.ok.mod, I.ok.kind, I.ok.glob, I.ok.blt, I.ok.above, I.ok.inj, I.ok.has, I.ok.cab, I.ok.hd, I.ok.frames, I.ok.stk, I.ok.exf, I.ok.bs, I.ok.bsz, I.ok.noex, I.ok.exfs, I.ok.funs, I.ok.frf⟩,
    I.os, I.bare, I.base, I.loc, I.cell, I.free, I.freeC, I.pin, I.hok, I.len⟩
theorem takes_blk {W : WX} {scope : Scope} {ce : Env} {fp : List Addr} {Qf : Value → Shared → Prop} {acc : Value} {R : Value → Shared → Prop} (hs : X.stack = X.env :: X.outer) (hf : X.env.frame = some X.env.locals) (tk : Takes X W) (I3 : Inv X pins σ H3 s3)
    (f3 : ∀ b ∈ fp, FpOk X pins H3 b ∧ b < s3.heap.objs.size) (hce : ce.frame = X.env.frame) (cL : ce.locals = s3.heap.objs.size) (hR : ∀ x s', afterX X ce Qf acc (.error x) s' → R x s') :
    Takes (X.blkX s3 H3 scope ce fp (notedBy (model X.prog X.w) X.A ce R)) (fun cls d _ H => W cls d σ H) := by
  rintro u s' ⟨a, B, sI, pn', σ', H', cls, d, rfl, I6, nb, up, sky, na, os, ag, w⟩
  show wpAny _ X.A (noteFrame (.ref a) ce) _ _ s'
  rw [note_as hce]
  have hfr : X.A.frames = some (X.env :: X.outer) := by rw [I3.ok.frames, hs]
  have nb : ∀ b o, sI.heap.get? b = some o → b ∉ frs X.stack → B.get? b = some o := nb
  have sky : Sky B X.stack a (Zc cls d) ce.locals s'.heap := sky
  have hne : ce.locals ≠ X.env.locals := by rw [cL]; exact fun z => absurd I3.lt (by rw [← z]; exact Nat.lt_irrefl _)
  rw [hs] at sky
  refine Sky.hold Zc.steady hfr hf hne sky fun h1 hh1 up1 => hR _ _ ?_
  rw [← hs] at hh1
  obtain ⟨st1, an1, ff1, oe, vs, T, oT, ts, he, hz, hd, e1, nT, tne, hT, dT, e3⟩ := hh1
  generalize hC : ce.locals = C at *
  have Cfr : C ∉ frs X.stack := fun hm => by
    obtain ⟨_, o, ho, _⟩ := I3.stack.mem hm
    have z := Heap.lt_size ho
    rw [cL] at z
    exact absurd z (Nat.lt_irrefl _)
  obtain ⟨m, ⟨oC, es, ep, hoC, rC⟩, _⟩ := I6.loc
  have hoC : sI.heap.get? C = some oC := by rw [← hC]; exact hoC
  have BC := nb C oC hoC Cfr
  have HC : H' C = none := by rw [← hC]; exact I6.free
  unfold afterX
  rw [hC]
  refine ⟨m, ⟨oC, es, ep, st1 C oC BC, rC⟩, fun h2 sb => ?_⟩
  show wpAny _ X.A (PySem.passOn "comprehension.variables-let-go" (.ref a) ce) Qf X.xe { s' with heap := h2 }
  obtain ⟨B2, g1, g2⟩ := restrict B fun b => decide (b ≠ C)
  have g1 : ∀ b, b ≠ C → B2.get? b = B.get? b := fun b hb => g1 b (by simp [hb])
  have g2 : B2.get? C = none := g2 C (by simp)
  have toB : ∀ b o, B2.get? b = some o → B.get? b = some o ∧ b ≠ C := fun b o q => by
    by_cases hb : b = C
    · rw [hb, g2] at q; cases q
    · exact ⟨(g1 b hb).symm.trans q, hb⟩
  have toN : ∀ b, B.get? b = none → B2.get? b = none := fun b q => by
    cases z : B2.get? b with
    | none => rfl
    | some o => rw [(toB b o z).1] at q; cases q
  have aC : a ≠ C := fun z => by rw [z, BC] at an1; cases an1
  have TC : T ≠ C := fun z => by rw [z, BC] at nT; cases nT
  have hh2 : HandSPX.HeldZ B2 (X.env :: X.outer) a (Zc cls d) X.env.locals h2 := by
    rw [← hs]
    refine ⟨fun b o q => ?_, toN a an1, frames_to ff1 (fun b hb => sb.2 b fun z => Cfr (z ▸ hb)) toN, oe, vs, T, oT, ts, (sb.2 a aC).trans he, hz, hd, e1, toN T nT, tne, (sb.2 T TC).trans hT, dT, e3⟩
    obtain ⟨q1, q2⟩ := toB b o q
    exact (sb.2 b q2).trans (st1 b o q1)
  have fin : wpAny (model X.prog X.w) X.A (setFlight (.ref a) ce.frame) (fun _ s4 => wpAny (model X.prog X.w) X.A (throw (.ref a) : Sem Value) Qf X.xe s4) X.xe { s' with heap := h2 } := by
    rw [hce, hf]
    refine HandSPX.setFlight_onZ hh2 fun h4 hh4 up4 => wpAny_throw (tk _ _ ?_)
    rw [← hs] at hh4
    have st4 : B2.StaysIn h4 := hh4.1
    obtain ⟨G, p1, p2⟩ := restrict h4 fun b => (B2.get? b).isSome || decide (b ∈ frs X.stack)
    have gB : ∀ b o, B2.get? b = some o → G.get? b = some o := fun b o q => by
      rw [p1 b (by simp [q])]
      exact st4 b o q
    have gF : ∀ b, b ∈ frs X.stack → G.get? b = h4.get? b := fun b hb => p1 b (by simp [hb])
    have og : ∀ b o, G.get? b = some o → h4.get? b = some o ∧ ((B2.get? b).isSome = true ∨ b ∈ frs X.stack) := fun b o q => by
      cases z : ((B2.get? b).isSome || decide (b ∈ frs X.stack)) with
      | false => rw [p2 b z] at q; cases q
      | true =>
        rw [p1 b z] at q
        exact ⟨q, by simpa [Bool.or_eq_true] using z⟩
    have bs6 : Un (frs X.stack) fp H3 H' s3.heap sI.heap := I6.base
    have ltC : ∀ b o, s3.heap.get? b = some o → b ≠ C := fun b o q z => by
      have y := Heap.lt_size q
      rw [z, cL] at y
      exact absurd y (Nat.lt_irrefl _)
    have fr4 : ∀ b o, s3.heap.get? b = some o → b ∈ frs X.stack → b ∉ fp → ∃ sl, G.get? b = some { o with slots := sl } := fun b o q hb hc => by
      obtain ⟨_, o', q', nf⟩ := I3.stack.mem hb
      rw [q] at q'
      cases q'
      obtain ⟨l1, z1⟩ := bs6.slot b o q (I3.stkFree b hb) hb hc
      obtain ⟨l2, z2⟩ := up b _ z1 nf
      obtain ⟨l3, z3⟩ := up1 b _ z2 nf
      obtain ⟨l4, z4⟩ := up4 b _ ((sb.2 b (ltC b o q)).trans z3) nf
      exact ⟨l4, (gF b hb).trans z4⟩
    have hokB : HOk X.prog X.w H' B := I6.inGround nb
    have hok2 : HOk X.prog X.w H' B2 := fun b o q => (hokB b o q).stay (fun c v hc r => by
      rw [g1 c fun z => ?_]
      · exact r
      · rcases hc with hc | hc
        · rw [← hc, z, HC] at q; cases q
        · rw [z, HC] at hc; cases hc) (fun _ r => r) fun _ _ r => r
    refine ⟨a, B2, { s3 with heap := G, gens := s'.gens, drawn := s'.drawn, toks := s'.toks }, pins, σ, H', cls, d, rfl, ?_, fun b o q hb => ?_, Heap.UpToSlots.of_keeps fun b o q => (og b o q).1, .inr (.inr hh4), na, ?_, ag, w⟩
    · refine I3.call (ch := fp) ⟨fun b o q n hb hc => gB b o ?_, fun b o q n hb hc => fr4 b o q hb hc, bs6.free, fun b o q hc => ?_, bs6.tups, bs6.frzs, bs6.tbls⟩ (hok2.kept gB) ag fun b hb => ⟨(f3 b hb).1.2.2.2.1, (f3 b hb).1.2.1, (f3 b hb).1.2.2.2.2.1, (f3 b hb).1.2.2.2.2.2⟩
      · rw [g1 b (ltC b o q)]
        exact nb b o (bs6.keep b o q n hb hc) hb
      · by_cases hb : b ∈ frs X.stack
        · obtain ⟨sl, z⟩ := fr4 b o q hb hc
          exact ⟨_, z⟩
        · obtain ⟨o', z⟩ := bs6.there b o q hc
          exact ⟨o', gB b o' ((g1 b (ltC b o q)).trans (nb b o' z hb))⟩
    · obtain ⟨q1, q2⟩ := og b o q
      rcases q2 with q2 | q2
      · obtain ⟨o', z⟩ := Option.isSome_iff_exists.mp q2
        have y := st4 b o' z
        rw [q1] at y
        cases y
        exact z
      · exact absurd q2 hb
    · exact os.trans I6.os
  obtain ⟨_, _, _, oe2, vs2, T2, _, _, he2, _, hd2, e2, _⟩ := id hh2
  unfold PySem.passOn
  refine wpAny_bind (wpAny_field he2 hd2 e2 ?_)
  rw [if_neg (show ¬ ((Value.ref T2 == Value.none) = true) by simp)]
  first
    | exact wpAny_bind (wpAny_pure (wpAny_bind fin))
    | exact wpAny_bind fin
theorem Inv.unX {scope : Scope} {ce : Env} {fp : List Addr} {xe : Value → Shared → Prop} (I : Inv (X.blkX s3 H3 scope ce fp xe) pins σ H s) : Inv (X.blk s3 H3 scope ce fp) pins σ H s :=
  ⟨⟨I.ok.mod, I.ok.kind, I.ok.glob, I.ok.blt, I.ok.above, I.ok.inj, I.ok.has, I.ok.cab, I.ok.hd, I.ok.frames, I.ok.stk, I.ok.exf, I.ok.bs, I.ok.bsz, I.ok.noex, I.ok.exfs, I.ok.funs, I.ok.frf⟩,
    I.os, I.bare, I.base, I.loc, I.cell, I.free, I.freeC, I.pin, I.hok, I.len⟩
theorem cloNone {cells : List (Str × Addr)} : ∀ {names : List (Str × NameKind)} {acc : List (Str × Addr)}, (∀ x ∈ names, x.2 ≠ .free) → cloFrom cells names acc = acc
  | [], _, _ => rfl
  | (n, k) :: r, acc, h => by
    have e : (k == NameKind.free) = false := by simpa using h (n, k) List.mem_cons_self
    unfold cloFrom
    rw [e, if_neg Bool.false_ne_true]
    exact cloNone fun x hx => h x (List.mem_cons_of_mem _ hx)
theorem relNone {scope : Scope} {env : Env} (h : ∀ x ∈ scope.names, x.2 ≠ .free) : relabel scope env = scope := by
  unfold relabel
  rw [map_eq_self (l := scope.names) fun x hx => ?_]
  obtain ⟨n, k⟩ := x
  have e : (k == NameKind.free) = false := by simpa using h (n, k) hx
  simp [e]
def tLcX (W : WX) (wi : TI) (g : TG) (tt : TT) (te : WX → TE) (vs : List Nat) : TE := fun σ H Q => tLc wi g tt (te fun cls d _ H' => W cls d σ H') vs σ H Q
theorem pe_lcX {W : WX} {elt tg iter : Expr} {ifs : List Expr} {scope : Scope} {own : List (Str × Nat)} {pos : Pos} {wi : TI} {g : TG} {tt : TT} {te : WX → TE} (hst : X.stack = X.env :: X.outer) (hf : X.env.frame = some X.env.locals) (tk : Takes X W) (hc : X.calm = true) (hN : X.N.Nodup)
    (hi : PI X tg iter wi) (ok : BlkOk X.N X.env.scope scope own) (nf : ∀ x ∈ scope.names, x.2 ≠ .free)
    (hg : ∀ (s0 : Shared) (H0 : Hp) (C : Addr) (cl : List (Str × Addr)) (fp : List Addr), PG (X.blk s0 H0 scope (compEnvC scope cl C X.env) fp) tg g) (ht : ∀ (s0 : Shared) (H0 : Hp) (C : Addr) (cl : List (Str × Addr)) (fp : List Addr), PTs (X.blk s0 H0 scope (compEnvC scope cl C X.env) fp) ifs tt)
    (he : ∀ (W' : WX) (xe : Value → Shared → Prop) (s0 : Shared) (H0 : Hp) (C : Addr) (cl : List (Str × Addr)) (fp : List Addr), Takes (X.blkX s0 H0 scope (compEnvC scope cl C X.env) fp xe) W' → PE (X.blkX s0 H0 scope (compEnvC scope cl C X.env) fp xe) elt (te W'))
    (hfs : ∀ x, foldedSetIterable iter X.env x = pure x := by intro _; rfl) :
    PE X (.ListComp elt [⟨tg, iter, ifs, 0⟩] scope pos) (tLcX W wi g tt te (own.map (·.2))) := by
  refine ⟨fun pins s σ H Q I h => ?_⟩
  rw [eval_ListComp]
  refine wpAny_comprehension rfl hfs nf ok.kind (fun y hy e => (ok.uniq y hy).trans (congrArg some e)) (thn (hi.run pins s σ H _ I h) fun xv s1 hx => thn hx fun itv s2 h2 => ?_)
  obtain ⟨it, fp, tn, J, H2, rfl, I2, T, st2, f2, q⟩ := h2
  refine wpAny_newObj_type (newEnv_comp ?_) (by show 0 ≤ sizeLine; decide)
  generalize hD : s2.heap.objs.size = D
  obtain ⟨Wf, ⟨m0, w0⟩, turn⟩ := q D (I2.hok.fresh (Nat.le_of_eq hD))
  generalize hs3 : ({ s2 with heap := s2.heap.push { cls := .type "list", data := .seq ([] : List Value).toArray } } : Shared) = s3
  have hh3 : s3.heap = s2.heap.push { cls := .type "list", data := .seq ([] : List Value).toArray } := by subst hs3; rfl
  have J3 : Inv X pins σ (upd H2 D (.lst [])) s3 := by
    subst hs3
    refine I2.laid (t' := s2.toks) (fun b o => Heap.get?_push_of_some _) (Nat.le_of_eq hD) ⟨Nat.zero_le _, [], 0, .nil, ?_⟩
    subst hD
    exact Heap.get?_push_size _ rfl
  have sml : ∀ b ∈ fp, b < s2.heap.objs.size := fun b hb => (T.obj _ _ st2 b hb).elim fun o z => Heap.lt_size z.1
  have f3 : ∀ b ∈ fp, FpOk X pins (upd H2 D (.lst [])) b ∧ b < s3.heap.objs.size := fun b hb => by
    have lt := sml b hb
    refine ⟨⟨?_, (f2 b hb).2⟩, by rw [hh3, Heap.size_push]; exact Nat.lt_succ_of_lt lt⟩
    rw [upd_ne fun z => by rw [z, ← hD] at lt; exact Nat.lt_irrefl _ lt]
    exact (f2 b hb).1
  have kp3 : tn 0 s3.heap := T.keep _ _ _ st2 fun b _ o z => by rw [hh3]; exact Heap.get?_push_of_some _ z
  have J4 := block_start J3 ok hN f3
  rw [cloNone nf] at J4
  have pg := hg s3 (upd H2 D (.lst [])) s3.heap.objs.size (cellsFrom (s3.heap.objs.size + 1) scope.names []) fp
  have pt := ht s3 (upd H2 D (.lst [])) s3.heap.objs.size (cellsFrom (s3.heap.objs.size + 1) scope.names []) fp
  have pe := fun W' xe => he W' xe s3 (upd H2 D (.lst [])) s3.heap.objs.size (cellsFrom (s3.heap.objs.size + 1) scope.names []) fp
  have ece : ({ newEnv scope s3.heap.objs.size X.env.globals (cellsFrom (s3.heap.objs.size + 1) scope.names []) X.env.qual none .none (some X.env) builtinsNs with scope := scope } : Env) = compEnvC scope (cellsFrom (s3.heap.objs.size + 1) scope.names []) s3.heap.objs.size X.env := by
    unfold compEnvC
    rw [relNone nf]
    rfl
  have none3 : ∀ b ∈ fp, (upd H2 D (.lst [])) b = none := fun b hb => (f3 b hb).1.1
  show codeAny _ _ (.compStart (.ListComp elt [⟨tg, iter, ifs, 0⟩] scope pos) 0 (.ref it) (.ref D) { newEnv scope s3.heap.objs.size X.env.globals (cellsFrom (s3.heap.objs.size + 1) scope.names []) X.env.qual none .none (some X.env) builtinsNs with scope := scope }) (fun r s' => afterX X { newEnv scope s3.heap.objs.size X.env.globals (cellsFrom (s3.heap.objs.size + 1) scope.names []) X.env.qual none .none (some X.env) builtinsNs with scope := scope } (EP X pins σ Q) (.ref D) r s') { s3 with heap := pushCells (s3.heap.push { cls := .type "dict", data := .dict #[] }) scope.names }
  rw [ece]
  generalize hce : compEnvC scope (cellsFrom (s3.heap.objs.size + 1) scope.names []) s3.heap.objs.size X.env = ce at J4 pg pt pe ⊢
  have cL : ce.locals = s3.heap.objs.size := by subst hce; rfl
  have cF : ce.frame = X.env.frame := by subst hce; rfl
  generalize hH3 : upd H2 D (.lst []) = H3 at J3 J4 pg pt pe w0 none3 f3
  generalize hs4 : ({ s3 with heap := pushCells (s3.heap.push { cls := .type "dict", data := .dict #[] }) scope.names } : Shared) = s4 at J4 ⊢
  have kp4 : tn 0 s4.heap := T.keep _ _ _ kp3 fun b _ o z => by subst hs4; exact pushCells_keeps _ _ _ _ (Heap.get?_push_of_some _ z)
  have tkB := takes_blk (scope := scope) (Qf := EP X pins σ Q) (acc := .ref D) (R := fun x s' => afterX X ce (EP X pins σ Q) (.ref D) (.error x) s') hst hf tk J3 f3 cF cL fun _ _ z => z
  have fpo : ∀ {σ' : St} {H' : Hp} {s' : Shared}, Inv (X.blk s3 H3 scope ce fp) [] σ' H' s' → (∀ b ∈ fp, H' b = none) → ∀ b ∈ fp, FpOk (X.blk s3 H3 scope ce fp) [] H' b := fun I' hn b hb =>
    ⟨hn b hb, (I'.ok.exf b hb).1, I'.ok.exfs b hb, .inl hb, fun x c z => (I'.ok.exf b hb).2 x c z, fun p hp => absurd (show p ∈ ([] : List (Addr × Obj)) ++ [] from hp) (by simp)⟩
  have loop : codeAny (model X.prog X.w) X.A (.compLoop (.ListComp elt [⟨tg, iter, ifs, 0⟩] scope pos) 0 (.ref it) (.ref D) ce) (fun r s' => afterX X ce (EP X pins σ Q) (.ref D) r s') s4 := by
    refine compLoop_any (fun n s' => ∃ i H', Inv (X.blk s3 H3 scope ce fp) [] (wipe σ (own.map (·.2))) H' s' ∧ tn i s'.heap ∧ (∀ b ∈ fp, H' b = none) ∧ Wf i n H') ?_ m0 ⟨0, H3, J4, kp4, none3, w0⟩
    rintro n s5 ⟨i, H5, I5, st5, n5, w5⟩
    rcases turn i n H5 w5 with ⟨stop, qq⟩ | ⟨go, Nx, hNx, step⟩
    · refine thnF (T.done (X.blk s3 H3 scope ce fp) rfl rfl rfl hc i [] s5 _ H5 (fun _ _ => False) I5 (fpo I5 n5) st5 stop) ?_
      rintro r s6 ⟨rfl, I6⟩
      have J7 : Inv X pins σ H5 s6 := J3.call' (ch := fp) I6.os I6.base I6.hok I6.bare fun b hb =>
        let z := (f3 b hb).1
        ⟨z.2.2.2.1, z.2.1, z.2.2.2.2.1, z.2.2.2.2.2⟩
      have nC : H5 s3.heap.objs.size = none := cL ▸ I6.free
      obtain ⟨m, hn, _⟩ := I6.loc
      obtain ⟨g0, g1, g2, g3, g4, g5⟩ := J3.fpOk (Nat.le_refl _) nC
      refine ⟨m, hn, fun h2 sb => ?_⟩
      rw [cL] at sb
      exact ⟨.ref D, H5, J7.turned (t' := s6.toks) (fun b o hb z => (sb.2 b hb).trans z) g0 g1 g3 g4 g5, rfl, qq⟩
    · refine thnF (T.item (X.blk s3 H3 scope ce fp) rfl rfl rfl hc i [] s5 _ H5 (fun _ _ => False) I5 (fpo I5 n5) st5 go) ?_
      rintro r s6 ⟨u, rfl, h6⟩
      refine thnF h6 ?_
      rintro _ s7 ⟨x, H7, I7, r7, y7, st7, n7⟩
      have P7 := I7.pinned (fpo I7 n7) (T.obj _ _ st7)
      refine thnF (pg.run _ s7 _ H7 x u _ P7 r7 (step x H7 y7)) ?_
      rintro _ s8 ⟨σ8, H8, I8, hw8, q8⟩
      refine thnF (pt.run _ s8 σ8 H8 _ I8 q8) ?_
      rintro b s9 ⟨H9, I9, q9⟩
      have fin : ∀ {s' : Shared} {H' : Hp}, Inv (X.blk s3 H3 scope ce fp) ([] ++ pinsAt fp s7.heap) σ8 H' s' → Nx H' →
          ∃ m, m < n ∧ ∃ i H', Inv (X.blk s3 H3 scope ce fp) [] (wipe σ (own.map (·.2))) H' s' ∧ tn i s'.heap ∧ (∀ b ∈ fp, H' b = none) ∧ Wf i m H' := by
        intro s' H' I' nx
        obtain ⟨m', hm, w'⟩ := hNx H' nx
        have kpn : ∀ b ∈ fp, ∀ o, s7.heap.get? b = some o → s'.heap.get? b = some o ∧ H' b = none := fun b hb o z =>
          have y := I'.pin (b, o) (List.mem_append_right _ (List.mem_append_right _ (mem_pinsAt hb z)))
          ⟨y.1, y.2.1⟩
        refine ⟨m', hm, i + 1, H', (I'.unpinned (pins := [])).weak (by rw [← hw8, wipe_length]) (fun j v z => (wipe_some (hw8 ▸ z)).1), T.keep _ _ _ st7 fun b hb o z => (kpn b hb o z).1, fun b hb => ?_, w'⟩
        obtain ⟨o, z, _⟩ := T.obj _ _ st7 b hb
        exact (kpn b hb o z).2
      cases b with
      | false => exact fin I9 q9
      | true =>
        refine wpAny_mono ((pe _ _ tkB).run _ s9 σ8 H9 _ I9.blkX q9) ?_ fun _ _ z => z
        rintro z s10 ⟨yv, H10, I10, r10, acc, hD10, hz10, nx⟩
        exact app_ok (X := X.blk s3 H3 scope ce fp) I10.unX hD10 hz10 r10 fun s11 I11 => fin I11 nx
  exact codeAny_compStart_list loop (T.self X.A 0 _ _ _ kp4 loop)
end
end L2
namespace L3
open PySem PySem.Spec PyProof.Rows L2
def dLcX (W : WK) (w : TI3) (g : TG3) (tt : TT3) (te : WK → TE3) (vs : List Nat) : TE3 := fun sd G Q => w sd G fun ds G1 => ds.length < sizeLine ∧ swp (fun sw => lcL g tt (te fun C fs _ G' => W C fs sd G') sw ds G1 fun ys G2 => Q (.lst ys) G2) vs sd
/-- the element's reading, from any point, with a wish that the wish outside follows from -/
def lowX (K : PySem.W.Frag) (te : WK → TE3) : WX → TE := fun W2 σ H Q => ∃ o W3, (∀ cls d σ' H', lowW K o W3 cls d σ' H' → W2 cls d σ' H') ∧ low K o (te W3) σ H Q
theorem low_lcX {K : PySem.W.Frag} {F0 : Pt} {W : WK} {w : TI3} {g2 : TG} {g : TG3} {tt : TT3} {te : WK → TE3} {vs : List Nat} (tg : TgtOk K vs g2 g) {σ : L2.St} {H : Hp} {Q : VK} (h : low K F0 (dLcX W w g tt te vs) σ H Q) :
    tLcX (lowW K F0 W) (lowI K F0 w) g2 (lowT K F0 tt) (lowX K te) vs σ H Q := by
  obtain ⟨sd, F, G, Q3, at_, h, k⟩ := h
  refine ⟨sd, F, G, _, at_, h, fun ds J F1 G1 H1 l1 wk ⟨hz, q⟩ D hD => ?_⟩
  have rs1 := at_.rs.mono l1.le
  obtain ⟨sw, q, rsw⟩ := swp_rep rs1 q
  obtain ⟨fD, gD⟩ := l1.cp.free hD
  generalize hte : (te fun C fs _ G' => W C fs sd G') = te1 at q
  refine ⟨fun i m H' => m = ds.length - i ∧ ∃ F' G' acc ad, Ext K F1 G1 H1 F' G' H' ∧ H' D = some (.lst acc) ∧ F' D = none ∧ G' D = none ∧ RepL K F' ad acc ∧ acc.length ≤ i ∧ lcL g tt te1 sw (ds.drop i) G' fun ys G2 => Q3 (.lst (ad ++ ys)) G2,
    ⟨ds.length, rfl, F1, G1, [], [], (Ext.refl l1.cp).loose hD fD gD (fun x z => by rw [hD] at z; cases z) (fun z => by rw [hD] at z; cases z), upd_same, fD, gD, .nil, Nat.zero_le _, q⟩, ?_⟩
  rintro i m H' ⟨rfl, F', G', acc, ad, l, eD, fD', gD', ra, hle, q⟩
  by_cases hlt : i < ds.length
  · obtain ⟨hgo, hy⟩ := wk.go i F' G' H' l.le l.cp hlt
    have nD : ∀ x, (HO.lst acc) ≠ .own x := fun x z => by cases z
    refine .inr ⟨hgo, fun H2 => ∃ F2 G2 acc2 ad2, Ext K F1 G1 H1 F2 G2 H2 ∧ H2 D = some (.lst acc2) ∧ F2 D = none ∧ G2 D = none ∧ RepL K F2 ad2 acc2 ∧ acc2.length ≤ i + 1 ∧ lcL g tt te1 sw (ds.drop (i + 1)) G2 fun ys G2 => Q3 (.lst (ad2 ++ ys)) G2,
      fun H2 hh => ⟨ds.length - (i + 1), by omega, rfl, hh⟩, fun x H2 y => ?_⟩
    obtain ⟨F2, l2, d, ed, rd⟩ := hy x H2 y
    have q := lcL_drop ed q
    refine tg F2 sw G' (wipe σ vs) H2 d x _ _ l2.cp (rsw.mono (l.le.trans l2.le)) rd q fun sd3 σ3 rs3 ew q3 => ⟨by rw [ew, wipe_wipe], ?_⟩
    have lz2 := l.trans l2
    refine ⟨sd3, F2, G', _, ⟨at_.ext.trans (l1.trans lz2), rs3⟩, q3, fun b F3 G3 H3 l3 q4 => ?_⟩
    have lz3 := lz2.trans l3
    obtain ⟨hD3, gD3, fD3⟩ := (l2.trans l3).st D _ eD gD' fD' nD
    cases b with
    | true =>
      refine iteT ⟨⟨F1, G1, H1⟩, fun C fs _ G' => W C fs sd G', fun cls d σ' H' ⟨sd', Fx, Gx, C, fs, at', eC, xr, ww⟩ => ⟨sd, Fx, Gx, C, fs, ⟨(at_.ext.trans l1).trans at'.ext, rs1.mono at'.ext.le⟩, eC, xr, ww⟩,
        sd3, F3, G3, _, ⟨lz3, rs3.mono l3.le⟩, by rw [hte]; exact q4, fun yd yv F4 G4 H4 l4 r4 q5 => ?_⟩
      obtain ⟨hD4, gD4, fD4⟩ := l4.st D _ hD3 gD3 fD3 nD
      refine ⟨acc, hD4, by omega, F4, G4, acc ++ [yv], ad ++ [yd], (lz3.trans l4).loose hD fD4 gD4 (fun x z => by rw [hD4] at z; cases z) (fun z => by rw [hD4] at z; cases z), upd_same, fD4, gD4, ?_, ?_, ?_⟩
      · exact (ra.mono (l2.le.trans (l3.le.trans l4.le))).append (.one r4)
      · rw [List.length_append, List.length_singleton]; omega
      · have e : (fun ys G2 => Q3 (.lst (ad ++ [yd] ++ ys)) G2) = fun ys G2 => Q3 (.lst (ad ++ yd :: ys)) G2 := by
          funext ys G2
          rw [List.append_assoc]
          rfl
        rw [e]
        exact q5
    | false => exact iteF ⟨F3, G3, acc, ad, lz3, hD3, fD3, gD3, ra.mono (l2.le.trans l3.le), by omega, q4⟩
  · refine .inl ⟨wk.stop i F' G' H' l.le l.cp (by omega), ?_⟩
    rw [List.drop_eq_nil_of_le (by omega), lcL_nil] at q
    have q : Q3 (.lst (ad ++ [])) G' := q
    rw [List.append_nil] at q
    have x := (l.fix hD fD' gD' eD)
    exact k _ _ _ _ _ (l1.trans x) (.lst upd_same (ra.mono (Le.new fD'))) q
section
variable {X : Cx} {F0 : Pt}
theorem de_lcX {W : WK} {elt tg iter : Expr} {ifs : List Expr} {scope : Scope} {pos : Pos} {w : TI3} {g2 : TG} {g : TG3} {tt : TT3} {te : WK → TE3} (own : List (Str × Nat)) (hst : X.stack = X.env :: X.outer) (hf : X.env.frame = some X.env.locals) (tk : Takes X (lowW X.K F0 W)) (hc : X.calm = true) (hN : X.N.Nodup) (tgo : TgtOk X.K (own.map (·.2)) g2 g)
    (hi : DI X F0 tg iter w) (ok : BlkOk X.N X.env.scope scope own) (nf : ∀ x ∈ scope.names, x.2 ≠ .free)
    (hg : ∀ (s0 : Shared) (H0 : Hp) (C : Addr) (cl : List (Str × Addr)) (fp : List Addr), PG (X.blk s0 H0 scope (compEnvC scope cl C X.env) fp) tg g2) (ht : ∀ (s0 : Shared) (H0 : Hp) (C : Addr) (cl : List (Str × Addr)) (fp : List Addr), DTs (X.blk s0 H0 scope (compEnvC scope cl C X.env) fp) F0 ifs tt)
    (he : ∀ (o : Pt) (W' : WK) (xe : Value → Shared → Prop) (s0 : Shared) (H0 : Hp) (C : Addr) (cl : List (Str × Addr)) (fp : List Addr), Takes (X.blkX s0 H0 scope (compEnvC scope cl C X.env) fp xe) (lowW X.K o W') → DE (X.blkX s0 H0 scope (compEnvC scope cl C X.env) fp xe) o elt (te W'))
    (hfs : ∀ x, foldedSetIterable iter X.env x = pure x := by intro _; rfl) :
    DE X F0 (.ListComp elt [⟨tg, iter, ifs, 0⟩] scope pos) (dLcX W w g tt te (own.map (·.2))) :=
  PE.imp (pe_lcX (tt := lowT X.K F0 tt) (te := lowX X.K te) hst hf tk hc hN hi ok nf hg ht (fun W2 xe s0 H0 C cl fp tk2 => ⟨fun pins s σ H Q I ⟨o, W3, hi3, low⟩ => (he o W3 xe s0 H0 C cl fp (Takes.imp tk2 hi3)).run pins s σ H Q I low⟩) hfs) fun _ _ _ h => low_lcX tgo h
end
end L3
set_option Elab.async false
set_option linter.all false
set_option maxRecDepth 100000
set_option maxHeartbeats 4000000
/-! own exception classes over LookupError or ArithmeticError (after the hand layer's rules for those over ValueError) -/
namespace L2
open PySem PySem.Spec PyProof.Rows
end L2
namespace L3
open PySem PySem.Spec PyProof.Rows L2
structure ERoot.Ok (R : ERoot) : Prop where
  F : ExcBaseFacts R.B R.newId R.initId R.tail
  S : StoreFacts R.B R.tail "object.__setattr__" "object"
end L3
namespace L2
open PySem PySem.Spec PyProof.Rows
open L3 (ERoot rootLE rootAE refsR)
theorem rootLE_ok : rootLE.Ok := ⟨PySem.F.excBase_LookupError, PySem.F.store_LookupError⟩
theorem rootAE_ok : rootAE.Ok := ⟨PySem.F.excBase_ArithmeticError, PySem.F.store_ArithmeticError⟩
theorem refsR_cases (t : List Value) : ∀ l : List Value, refsR t l = true → (∃ c r, l = .ref c :: r ∧ refsR t r = true) ∨ l = t := by
  intro l e
  cases l with
  | nil => exact .inr (beq_iff_eq.mp e)
  | cons a r =>
    cases a with
    | ref c => exact .inl ⟨c, r, rfl, e⟩
    | _ => exact .inr (beq_iff_eq.mp e)
theorem refsR_pass {R : ERoot} (ok : R.Ok) (self : Value) : ∀ l : List Value, refsR R.tail l = true → PySem.refuseLoop self "__setattr__" l = pure ()
  | [], e => by
    rcases refsR_cases _ _ e with ⟨c, r, q, _⟩ | q
    · cases q
    · rw [q]; exact ok.S.passes self
  | a :: r, e => by
    rcases refsR_cases _ _ e with ⟨c, r', q, h⟩ | q
    · obtain ⟨rfl, rfl⟩ := List.cons.inj q
      rw [PySem.refuseLoop_ref]
      exact refsR_pass ok self r h
    · rw [q]; exact ok.S.passes self
theorem refsR_has {t : List Value} (X : String) : ∀ l : List Value, refsR t l = true → l.contains (.type X) = t.contains (.type X)
  | [], e => by
    rcases refsR_cases _ _ e with ⟨c, r, q, _⟩ | q
    · cases q
    · rw [q]
  | a :: r, e => by
    rcases refsR_cases _ _ e with ⟨c, r', q, h⟩ | q
    · obtain ⟨rfl, rfl⟩ := List.cons.inj q
      rw [List.contains_cons, refsR_has X r h]
      rfl
    · rw [q]
section
open Builtin Builtin.ObjectAttr PySem.W PySem.HandSPX
variable {prog : Program} {w : World} {A : Around} {R : Result → Shared → Prop} {hp : Heap} {g : Array GenState} {d : Drawn} {t : Nat} {os : OsState}
theorem exc_osaR {T : ERoot} (ok : T.Ok) {K : PySem.W.Frag} {name : Str} {tk : Tok} {v : Value} {x C : Addr} {fv : Array Value} {cd : ClassData}
    (X : K.In hp) (hx : hp.get? x = some { cls := .ref C, data := .fields fv }) (hcd : PySem.W.clsIn K C = some cd) (hm : refsR T.tail cd.mro = true) (hh : cd.hasDict = true) (ha : PySem.W.findIn K (.ref C) name = some none)
    (hq : ∀ h' tk' dx, (∀ b o, b ≠ x → hp.get? b = some o → h'.get? b = some o) → hp.objs.size ≤ dx → dx ≠ x → h'.get? x = some { cls := .ref C, dict := some dx, data := .fields fv } →
      h'.Ns1 dx (fun y => if y = name then some v else none) → R (.ok (.ret .none)) ⟨h', g, d, tk', os⟩) :
    codeAny (model prog w) A (.call (.builtin "object.__setattr__") ⟨[.ref x, .str name tk, v], []⟩) R ⟨hp, g, d, t, os⟩ := by
  have I : PySem.W.InstAt hp x { cls := .ref C, data := .fields fv } C none := ⟨hx, rfl, rfl, trivial⟩
  have SF := PySem.F.store_object
  have hob : cd.mro.contains (.type "object") = true := (refsR_has "object" _ hm).trans ok.S.hasOwner
  have ne : cd.mro.isEmpty = false := by
    cases e : cd.mro with
    | nil => rw [e] at hob; cases hob
    | cons a b => rfl
  have hxs : x ≠ hp.objs.size := Nat.ne_of_lt (Heap.lt_size hx)
  have sub : PySem.W.Looks (model prog w) hp (isInstance (.ref x) (.type "object")) true := I.type.andThen (PySem.W.looks_mroIn X (by unfold PySem.W.mroIn; rw [hcd, Option.bind_some, if_neg (by rw [ne]; decide), hob]))
  refine codeAny_call_builtin SF.slot.plain SF.entry (@PySem.W.check_slot (model prog w) _ _ ⟨hp, g, d, t, os⟩ "object.__setattr__" "object" "__setattr__" (.ref x) [.str name tk, v] [] _ SF.kind SF.split sub (SF.args (.ref x) (.str name tk) v) ?_)
  have hmr : PySem.W.Looks (model prog w) hp (mroOf (.ref C)) cd.mro := (PySem.W.looks_clsIn X hcd).andThen .now
  have L3 : PySem.W.Looks (model prog w) hp (storeTaker? none) none := .now
  have hcls : PySem.W.Looks (model prog w) hp (classData C) cd := PySem.W.looks_clsIn X hcd
  rw [PySem.W.osa_eq, refuse_eq]
  refine wpAny_bind (wpAny_bind (I.type.at (wpAny_bind (hmr.at ?_))))
  rw [refsR_pass ok _ _ hm]
  refine wpAny_pure (wpAny_bind (I.type.at (wpAny_bind ((PySem.W.looks_findIn X ha).at (wpAny_bind (L3.at ?_))))))
  show wpAny _ _ (storeInOwnDict (.ref x) (.ref C) (.str name tk) name v false) _ _ _
  obtain ⟨nm, bs, mro, ns, qn, hd, sn, sb, ab, col, del⟩ := cd
  dsimp only at hh
  subst hh
  unfold storeInOwnDict ownDictForStores
  repeat (first | with_reducible refine store_in_new ?_ ?_ | with_reducible refine wpAny_loadPart_at hx ?_ | with_reducible refine hcls.at ?_ | wp_step)
  · exact ⟨_, #[], _, (Heap.get?_update_ne _ _ _ _ hxs.symm).trans (Heap.get?_push_at rfl rfl), rfl, fun e he => absurd he (by simp), fun _ => rfl⟩
  · intro h' tk' hn' hs
    have hx₁ : (hp.push { cls := .type "dict", data := .dict #[] }).get? x = some { cls := .ref C, data := .fields fv } := Heap.get?_push_of_some _ hx
    refine hq h' tk' hp.objs.size (fun b o hb ho => ?_) (Nat.le_refl _) hxs.symm ?_ hn'
    · exact (hs.2 b (Nat.ne_of_lt (Heap.lt_size ho))).trans ((Heap.get?_update_ne _ _ _ _ hb).trans (Heap.get?_push_of_some _ ho))
    · exact (hs.2 x hxs).trans (Heap.get?_update_self _ hx₁ rfl)
end
structure OexR (R : ERoot) (K : PySem.W.Frag) (C : Addr) : Prop where
  root : R.Ok
  cls : ∃ nm q N bs bm sn sub ab col dd k0 k1 k2 k3 k5, K.lookup C = some (excClassObj nm q C N bs bm true sn sub ab col dd k0 k1 k2 k3 k5 R.newId) ∧ refsR R.tail bm = true
  sa : PySem.W.findIn K (.ref C) "__setattr__" = some (some (.builtin "object.__setattr__"))
  exC : PySem.W.subIn K (.ref C) (.type "BaseException") = some true
  tyC : PySem.W.typeIn K (.ref C) = some (.type "type")
  kC : PySem.W.keepIn K (.ref C) = true
section
variable {R : ERoot} {X : Cx} {pins : List (Addr × Obj)} {σ : St} {H : Hp} {s : Shared} {a C dx : Addr} {f : Str} {y : V} {u : Value} {Q : Unit → Shared → Prop} {E : Value → Shared → Prop} {A : Around}
theorem ost_newR (T : OexR R X.K C) (I : Inv X pins σ H s) (e : H a = some (exo a C none)) (hno : PySem.W.findIn X.K (.ref C) f = some none) (ry : RelV y u)
    (h : ∀ dx s', H dx = none → dx ≠ a → Inv X pins σ (upd (upd H dx (exd dx [(f, y)])) a (exo a C (some dx))) s' → Q () s') : wpAny (model X.prog X.w) A (setAttr (.ref a) f u) Q E s := by
  obtain ⟨nm, q, N, bs, bm, sn, sub, ab, col, dd, k0, k1, k2, k3, k5, hC, hbm⟩ := T.cls
  have hcl : PySem.W.clsIn X.K C = some { name := nm, bases := bs, mro := .ref C :: bm, ns := N, qualname := q, hasDict := true, slotNames := sn, subclasses := sub, abstract := ab, collection := col, hasDel := false } := by unfold PySem.W.clsIn; rw [hC] <;> rfl
  obtain ⟨t1, ho⟩ := exo_at I.hok e
  obtain ⟨hp, g, d, t, os⟩ := s
  refine PySem.W.set_plain I.kIn (ox := { cls := .ref C, dict := none, data := .fields #[.ref t1, .none, .none, .none, .bool false, .none] }) (od := none) ⟨ho, rfl, rfl, trivial⟩ T.sa ?_
  refine exc_osaR T.root I.kIn ho hcl (show refsR R.tail (.ref C :: bm) = true from hbm) rfl hno (fun h' tk' dx k dn dne hx hn => ?_)
  have hnd : H dx = none := I.hok.fresh dn
  have nd : ∀ {b : Addr} {o : Obj}, hp.get? b = some o → b ≠ dx := fun {b o} q => Nat.ne_of_lt (Nat.lt_of_lt_of_le (Heap.lt_size q) dn)
  have na : ∀ {b : Addr}, H b = none → b ≠ a := fun {b} n z => by
    rw [z, e] at n
    cases n
  have Un1 : Un X.fs [] H (upd (upd H dx (exd dx [(f, y)])) a (exo a C (some dx))) hp h' := {
    keep := fun b o q n _ _ => k b o (na n) q
    slot := fun b o q n _ _ => ⟨o.slots, k b o (na n) q⟩
    free := fun b o q n _ => by rw [upd_ne (na n), upd_ne (nd q)]; exact n
    there := fun b o q _ => by
      by_cases hb : b = a
      · exact ⟨_, by rw [hb]; exact hx⟩
      · exact ⟨o, k b o hb q⟩
    tups := fun b xs q => by rw [upd_ne (at_ne e q exo_tup), upd_ne (ne_of_none q hnd)]; exact q
    frzs := fun b o v q => by rw [upd_ne (at_ne e q exo_frz), upd_ne (ne_of_none q hnd)]; exact q
    tbls := fun b ps q => ⟨#[], by rw [upd_ne (at_ne e q exo_tbl), upd_ne (ne_of_none q hnd), q]; simp⟩ }
  refine h dx _ hnd dne (I.un (t' := tk') Un1 fun b o q => ?_)
  by_cases hb : b = a
  · subst hb
    rw [upd_same] at q
    cases q
    exact exo_ok hx
  · rw [upd_ne hb] at q
    by_cases hd : b = dx
    · subst hd
      rw [upd_same] at q
      cases q
      exact exd_ok hn (relO_put (fs := []) ry fun g => True.intro)
    · rw [upd_ne hd] at q
      exact (I.hok b o q).stay (fun c v hc z => k c v (by
          rcases hc with hc | hc
          · rw [hc]
            exact hb
          · exact at_ne e hc exo_own) z)
        (fun c hc => by rw [upd_ne (at_ne e hc exo_own), upd_ne (ne_of_none hc hnd)]; exact hc) (fun c xs hc => by rw [upd_ne (at_ne e hc exo_tup), upd_ne (ne_of_none hc hnd)]; exact hc)
end
def tOstR (R : ERoot) (K : PySem.W.Frag) (f : Str) (to te : TE) : TS := fun D σ H => te σ H fun y H1 => to σ H1 fun x H2 => ∃ a C : Addr, x = .ref a ∧ OexR R K C ∧ PySem.W.findIn K (.ref C) f = some none ∧
  H2 a = some (exo a C none) ∧ ∀ dx, H2 dx = none → dx ≠ a → D.nx σ (upd (upd H2 dx (exd dx [(f, y)])) a (exo a C (some dx)))
section
variable {R : ERoot} {X : Cx} {o e : Expr} {es : List Expr} {to te : TE} {ta : TA} {f : Str} {p p' p1 p2 pos : Pos}
theorem ps_ostR (ho : PE X o to) (he : PE X e te) (hs : swapsWith e (some (.Attribute o f p')) pos.line X.env = pure false := by rfl) : PS X (.Assign [.Attribute o f p'] e pos) (tOstR R X.K f to te) := by
  refine ⟨fun pins s σ H D I h => ?_⟩
  refine plainObj_wpAny_Assign_Attribute (thn (he.run pins s σ H _ I h) fun v s1 ⟨y, H1, I1, r1, q1⟩ => thn (ho.run pins s1 σ H1 _ I1 q1) fun u s2 ⟨x, H2, I2, r2, a, C, ex, T, hno, ea, q⟩ => ?_) hs
  subst ex
  obtain rfl : u = Value.ref a := r2
  exact ost_newR T I2 ea hno r1 fun dx s' n ne J => ⟨σ, _, J, q dx n ne⟩
theorem pmk_oexR {CX : CXT} {x : Str} {C fI : Addr} {k : Nat} {fd : FuncData} {ps : List Str} {sp : Sp} {ds : List Value} {dvs : List V} (T : OexR R X.K C) (iC : PySem.W.findIn X.K (.ref C) "__init__" = some (some (.ref fI))) (tI : PySem.W.typeIn X.K (.ref fI) = some (.type "function"))
    (F1 : FnOk X.prog X.w X.K X.mg X.base CX k fI fd ps sp) (hr : Room (k + 1) X.A) (hb : Binds X.K fd ps ds) (hd : Vals dvs ds) (hx : Passes CX X (fun _ _ _ => False)) (hg : Gl X x) (hm : X.mg x = some (.ref C)) (ha : PA X (e :: es) ta)
    (hdb : (x == ("__debug__" : Str)) = false := by decide) (he : starEach (e :: es) X.env = (false, eval e X.env) :: starEach es X.env := by rfl) (hpl : (backTo pos (starEach es X.env)).any (·.1) = false := by rfl) :
    PMk X (.Call (.Name x p) (e :: es) [] pos) (tMkO C sp dvs ta) := by
  intro pins s σ H Q I h
  obtain ⟨nm, q, N, bs, bm, sn, sub, ab, col, dd, k0, k1, k2, k3, k5, hC, hbm⟩ := T.cls
  refine wpAny_Call_Name_kw (ld_glob I hg hm ?_ hdb)
  refine PySem.W.callWith_K (h₀ := X.base) I.ok.mod.kin T.kC (thn (ha.run pos pins s σ H _ I h) fun us s1 ⟨vs, H1, I1, r1, hz, q1⟩ => ⟨I1.kIn, ?_⟩) he hpl
  show wpAny _ _ (call (.ref C) us) _ _ _
  obtain ⟨hp, g, dr, tk, os⟩ := s1
  have hsz : hp.objs.size ≤ hp.objs.size + 1 := Nat.le_succ _
  have hn : H1 (hp.objs.size + 1) = none := I1.hok.fresh hsz
  have hq := q1 (hp.objs.size + 1) hn
  have kk : ∀ b o, hp.get? b = some o → ((hp.push (PySem.W.kdv_tup us)).push (PySem.HandSPX.excO C hp.objs.size)).get? b = some o := fun b o e => Heap.get?_push_of_some _ (Heap.get?_push_of_some _ e)
  have hget : ((hp.push (PySem.W.kdv_tup us)).push (PySem.HandSPX.excO C hp.objs.size)).get? (hp.objs.size + 1) = some (PySem.HandSPX.excO C hp.objs.size) := by heap_get
  have I2 : Inv X pins σ (upd H1 (hp.objs.size + 1) (exo (hp.objs.size + 1) C none)) ⟨(hp.push (PySem.W.kdv_tup us)).push (PySem.HandSPX.excO C hp.objs.size), g, dr, tk, os⟩ :=
    I1.laid (t' := tk) (a := hp.objs.size + 1) (o := exo (hp.objs.size + 1) C none) (h' := (hp.push (PySem.W.kdv_tup us)).push (PySem.HandSPX.excO C hp.objs.size)) kk hsz (exo_ok hget)
  have r2 : Vals (V.ref (hp.objs.size + 1) :: (vs ++ dvs)) (Value.ref (hp.objs.size + 1) :: (us ++ ds)) := .cons rfl (r1.append hd)
  have hl : (Value.ref (hp.objs.size + 1) :: us ++ ds).length = ps.length := by
    have e := r2.length
    rw [F1.len _ _ _ _ hq] at e
    exact e.symm
  have hus : us.length ≤ sizeLine := by
    rw [← Paired.length r1, sizeLine_eq]
    omega
  refine wpAny_call (PySem.HandSPX.call_own T.root.F (fun Y => refsR_has Y bm hbm) (I1.kIn _ _ hC) (PySem.W.looks_findIn I1.kIn iC) (fun self => PySem.W.bind_fn I1.kIn self tI) hus
    (codeAny_mono (F1.run _ X.stack _ _ ⟨Value.ref (hp.objs.size + 1) :: us, []⟩ (Value.ref (hp.objs.size + 1) :: (us ++ ds)) _ _ (fun _ _ _ => False) (hr.make C us []) (I2.env0.make C us []) (hb _ (Value.ref (hp.objs.size + 1) :: us) I2.kIn hl) r2 hq) fun r s' hq' => ?_))
  cases r with
  | error er => exact hx pins σ _ _ er s' I2 hq'
  | ok fl =>
    cases fl with
    | ret u =>
      obtain ⟨v, H2, os2, bare2, un2, hok2, rv, ev, d, fs, ea, ed, hd1, q2⟩ := hq'
      subst ev
      obtain ⟨h2, g2, d2, t2, os'⟩ := s'
      exact ⟨rv, mk_end (raises_own T.exC T.tyC) I1 hsz kk un2 hok2 os2 bare2 ea ed hd1 q2⟩
    | next => exact False.elim hq'
    | brk => exact False.elim hq'
    | cont => exact False.elim hq'
end
end L2
namespace L3
open PySem PySem.Spec PyProof.Rows L2
structure ExcAtR (R : ERoot) (K : PySem.W.Frag) (mg : Str → Option Value) (x : Str) (C : Addr) (f qual : Str) (st : Stmt) : Prop where
  oex : OexR R K C
  xf : XfC K C
  g : mg x = some (.ref C)
  no : PySem.W.findIn K (.ref C) f = some none
  fn : ∃ fI fd, PySem.W.findIn K (.ref C) "__init__" = some (some (.ref fI)) ∧ PySem.W.typeIn K (.ref fI) = some (.type "function") ∧ Fun K "__init__" qual st fI fd ∧ Binds K fd ["self", f] []
def spIR (R : ERoot) (K : PySem.W.Frag) (f : Str) : Sp := fun vs H Q _ => ∃ (a C : Addr) (y : V), vs = [.ref a, y] ∧ OexR R K C ∧ PySem.W.findIn K (.ref C) f = some none ∧ H a = some (exo a C none) ∧ ∀ dx, H dx = none → dx ≠ a → Q .non (upd (upd H dx (exd dx [(f, y)])) a (exo a C (some dx)))
section
variable {R : ERoot} {P : Program} {w : World} {K : PySem.W.Frag} {mg : Str → Option Value} {base : Heap}
theorem spIR_ok {f qual : Str} {st : Stmt} {fI : Addr} {fd : FuncData} (F : Fun K "__init__" qual st fI fd) (S : FnScope ["self", f] ["self", f] (defScope st)) (B : InitIs st f) (hdf : (f == ("__debug__" : Str)) = false) (hcf : (f == ("__classdict__" : Str)) = false)
    (hv : Vis (defScope st) "self") (hvf : Vis (defScope st) f) (hsw : ∀ (env : Env) p1 p2 p3 (p4 : Pos), swapsWith (.Name f p3) (some (.Attribute (.Name "self" p1) f p2)) p4.line env = pure false) : FnOk P w K mg base CX0 1 fI fd ["self", f] (spIR R K f) := by
  refine Fun.ok F S (fun vs H Q E ⟨_, _, _, e, _⟩ => by rw [e]; rfl) fun cdv A outer s H vs Q E hr ⟨a, C, y, ev, T, no, ea, q⟩ => ?_
  obtain ⟨p1, p2, p3, p4, eb⟩ := B
  subst ev
  rw [eb]
  refine ⟨_, pss_one (ps_ostR (R := R) (pe_var (i := 0) rfl hv (by decide) (by decide)) (pe_var (i := 1) rfl hvf hdf hcf) (hsw _ _ _ _ _)), ?_⟩
  refine ⟨y, rfl, .ref a, rfl, a, C, rfl, T, no, ea, fun dx n ne => q dx n ne⟩
end
section
variable {R : ERoot} {X : Cx} {F0 : Pt} {e : Expr} {te : TE3} {W : WK} {x f qual : Str} {C : Addr} {st : Stmt} {p pos pos2 : Pos} {j : Nat}
theorem ds_raise3R (A : ExcAtR R X.K X.mg x C f qual st) (hc : X.calm = true) (hr : Room j X.A) (tk : Takes X (lowW X.K F0 W)) (he : DE X F0 e te) (S : FnScope ["self", f] ["self", f] (defScope st)) (B : InitIs st f) (hj : 2 ≤ j := by decide)
    (hdf : (f == ("__debug__" : Str)) = false := by decide) (hcf : (f == ("__classdict__" : Str)) = false := by decide) (hv : Vis (defScope st) "self" := by first | exact Or.inl rfl | exact Or.inr (Or.inl rfl) | exact Or.inr (Or.inr rfl)) (hvf : Vis (defScope st) f := by first | exact Or.inl rfl | exact Or.inr (Or.inl rfl) | exact Or.inr (Or.inr rfl))
    (hsw : ∀ (env : Env) p1 p2 p3 (p4 : Pos), swapsWith (.Name f p3) (some (.Attribute (.Name "self" p1) f p2)) p4.line env = pure false := by intros; rfl) (hg : Gl X x := by rfl) (hdb : (x == ("__debug__" : Str)) = false := by decide)
    (hs : starEach (e :: []) X.env = (false, eval e X.env) :: starEach [] X.env := by rfl) (hpl : (backTo pos (starEach [] X.env)).any (·.1) = false := by rfl) :
    DS X F0 (.Raise (some (.Call (.Name x p) [e] [] pos)) none pos2) (dRaise C f W te) := by
  obtain ⟨fI, fd, iC, tI, F, b⟩ := A.fn
  have F1 := spIR_ok (R := R) (P := X.prog) (w := X.w) (mg := X.mg) (base := X.base) F S B hdf hcf hv hvf hsw
  refine PS.imp (ps_raise hc tk (pmk_oexR A.oex iC tI F1 (hr.mono hj) b .nil pass0 hg A.g (pa_cons he pa_nil hs) hdb hs hpl)) fun D σ H ⟨sd, F, G, D3, at_, h, k⟩ => ?_
  refine ⟨sd, F, G, _, at_, h, fun d v F1 G1 H1 l r q => ⟨(by decide : 1 ≤ 1000), fun a ha => ?_⟩⟩
  refine ⟨a, C, v, rfl, A.oex, A.no, upd_same, fun dx n ne => ?_⟩
  have n1 : H1 dx = none := by rwa [upd_ne ne] at n
  refine ⟨rfl, dx, [(f, v)], upd_same, ?_, n1, ?_⟩
  · rw [upd_ne ne]
    exact upd_same
  have eh : upd (del (upd (upd (upd H1 a (exo a C none)) dx (exd dx [(f, v)])) a (exo a C (some dx))) a) dx (.xd [(f, v)]) = upd H1 dx (.xd [(f, v)]) := by
    funext b
    by_cases hb : b = dx
    · rw [hb, upd_same, upd_same]
    · rw [upd_ne hb, upd_ne hb]
      by_cases hba : b = a
      · rw [hba, del_same, ha]
      · rw [del_ne hba, upd_ne hba, upd_ne hb, upd_ne hba]
  rw [eh]
  obtain ⟨nF, nG⟩ := l.cp.free n1
  have y := Ext.newF l.cp (.xd [(f, v)]) n1
  exact ⟨sd, _, G1, C, [(f, d)], at_.step (l.trans y), rfl, .inr ⟨dx, [(f, v)], rfl, upd_same, .cons (r.mono y.le) .nil⟩, q⟩
end
/-! ### e.f of the caught exception, its class's facts alone -/
theorem de_xfR {R : ERoot} {X : Cx} {o : Pt} {x f qual : Str} {st : Stmt} {C : Addr} {a : Addr} {oe : Obj} {cls : Value} {d : Option Addr} {pn : List (Addr × Obj)} {C' : Addr} {fs : List (Str × D)} {e : Expr} {te : TE3} {pos : Pos} (A : ExcAtR R X.K X.mg x C f qual st)
    (hz : Zc cls d oe) (hf : ∃ vs, oe.data = .fields vs) (hC : cls = .ref C') (hx : XL X.K o d fs) (he : DE (X.suite a ((a, oe) :: pn)) o e te) (hb : attributeBase e f X.env (eval e X.env) = eval e X.env := by rfl) :
    DE (X.suite a ((a, oe) :: pn)) o (.Attribute e f pos) (dXf C f a C' fs te) :=
  PE.imp (pe_xf A.xf A.no hz hf he hb) fun σ H Q ⟨sd, F, G, Q3, at_, h, k⟩ => ⟨sd, F, G, _, at_, h, fun x v F1 G1 H1 l r ⟨ex, ec, v3, el, q⟩ => by
    subst ex ec hC
    cases r
    refine ⟨rfl, rfl, ?_⟩
    rcases hx with e0 | ⟨dd, ws, ed, eF, rf⟩
    · subst e0
      cases el
    · obtain ⟨u, eu, ru⟩ := rf.look el
      have le : Le o.F F1 := at_.ext.le.trans l.le
      exact ⟨dd, ws, u, ed, l.cp.frz _ _ (le _ _ eF), eu, k _ _ _ _ _ l (ru.mono le) q⟩⟩
open He He5
theorem exc_ofR {R : ERoot} (ok : R.Ok) {K : PySem.W.Frag} {mg : Str → Option Value} {x : Str} {C : Addr} {f qual : Str} {st : Stmt} {fd : FuncData} (h : xcRB R K C f = true) (g : mg x = some (.ref C)) (F : Fun K "__init__" qual st (ma K C "__init__") fd) (b : Binds K fd ["self", f] []) : ExcAtR R K mg x C f qual st := by
  obtain ⟨h1, h⟩ := ba h
  obtain ⟨h2, h⟩ := ba h
  obtain ⟨h3, h⟩ := ba h
  obtain ⟨h4, h⟩ := ba h
  obtain ⟨h5, h⟩ := ba h
  obtain ⟨h6, h⟩ := ba h
  obtain ⟨h7, h⟩ := ba h
  obtain ⟨h8, h9⟩ := ba h
  exact ⟨⟨ok, xsh_of h1, eqO_ok h2, of_decide_eq_true h3, of_decide_eq_true h4, h5⟩, xfB_ok h6, g, of_decide_eq_true h7, _, fd, eqO_ok h8, of_decide_eq_true h9, F, b⟩
end L3
set_option Elab.async false
set_option linter.all false
set_option maxRecDepth 100000
set_option maxHeartbeats 4000000
/-! a sum of two lists as an own list; upper -/
namespace L3
open PySem PySem.Spec PyProof.Rows L2
section
variable {X : Cx} {K : PySem.W.Frag} {F0 : Pt} {a b o : Expr} {ta tb : TE3} {pos apos : Pos}
def rAddO : R3 := fun x y G Q => match x, y with
  | .lst a, .lst b => a.length + b.length ≤ sizeLine ∧ ∀ p, G p = none → Q (.ref p) (gupd G p (.lst (a ++ b)))
  | _, _ => False
theorem de_addO (ha : DE X F0 a ta) (hb : DE X F0 b tb) : DE X F0 (.BinOp a .Add b pos) (dOp rAddO ta tb) := by
  refine de_op op_cat (fun F G H x y dx dy Q Q3 c rx ry h k => ?_) ha hb
  cases dx <;> cases dy <;> first | exact h.elim | skip
  cases rx with
  | @lst aa _ va sa ra =>
    cases ry with
    | @lst ab _ vb sb rb =>
      exact ⟨aa, ab, va, vb, rfl, rfl, c.frz _ _ sa, c.frz _ _ sb, by rw [← ra.length, ← rb.length]; exact h.1, fun p hp => k _ _ _ _ _ (Ext.newG c hp (ra.append rb)) (.ref p) (h.2 p (c.free hp).2)⟩
def dUp (t : TE3) : TE3 := fun sd G Q => t sd G fun d G1 => match d with
  | .str x => x.length ≤ 100000 ∧ Q (.str (Txt.upper x)) G1
  | _ => False
theorem de_upper (ho : DE X F0 o ta) (hbase : attributeBase o "upper" X.env (eval o X.env) = eval o X.env := by rfl) (hline : (apos.endLine == pos.line) = true := by rfl) :
    DE X F0 (.Call (.Attribute o "upper" apos) [] [] pos) (dUp ta) := by
  refine PE.imp (pe_upper ho hbase hline) fun σ H Q ⟨sd, F, G, Q3, at_, h, k⟩ => ?_
  refine ⟨sd, F, G, _, at_, h, fun d v F1 G1 H1 l1 r1 q1 => ?_⟩
  cases d <;> first | exact q1.elim | skip
  cases r1
  exact ⟨⟨_, rfl⟩, _, rfl, rfl, Nat.le_trans q1.1 (by decide), k _ _ _ _ _ l1 (.str _) q1.2⟩
end
end L3
set_option Elab.async false
set_option linter.all false
set_option maxRecDepth 100000
set_option maxHeartbeats 4000000
/-! a dict comprehension into an own dict -/
namespace L3
open PySem PySem.Spec PyProof.Rows L2
def dcL0 (g : TG3) (tk tv : TE3) (sw : St3) : List D → List (Key × D) → Gp → (List (Key × D) → Gp → Prop) → Prop
  | [], acc, G, K => K acc G
  | x :: xs, acc, G, K => g x sw G fun sd2 G2 => tk sd2 G2 fun y G3 => tv sd2 G3 fun z G4 => ∃ k, keyD y = some k ∧ dcL0 g tk tv sw xs (putD acc k z) G4 K
@[irreducible] def dcL (g : TG3) (tk tv : TE3) (sw : St3) (ds : List D) (acc : List (Key × D)) (G : Gp) (K : List (Key × D) → Gp → Prop) : Prop := dcL0 g tk tv sw ds acc G K
section
variable {g : TG3} {tk tv : TE3} {sw : St3} {G : Gp} {K : List (Key × D) → Gp → Prop} {acc : List (Key × D)}
theorem dcL_nil : dcL g tk tv sw [] acc G K = K acc G := by unfold dcL; rfl
theorem dcL_cons {x : D} {xs : List D} : dcL g tk tv sw (x :: xs) acc G K = g x sw G fun sd2 G2 => tk sd2 G2 fun y G3 => tv sd2 G3 fun z G4 => ∃ k, keyD y = some k ∧ dcL g tk tv sw xs (putD acc k z) G4 K := by
  have e : dcL g tk tv sw xs = dcL0 g tk tv sw xs := by funext a G K; unfold dcL; rfl
  rw [e]
  unfold dcL
  rfl
theorem dcL_drop {ds : List D} {i : Nat} {d : D} (e : ds[i]? = some d) (h : dcL g tk tv sw (ds.drop i) acc G K) :
    g d sw G fun sd2 G2 => tk sd2 G2 fun y G3 => tv sd2 G3 fun z G4 => ∃ k, keyD y = some k ∧ dcL g tk tv sw (ds.drop (i + 1)) (putD acc k z) G4 K := by
  obtain ⟨hi, ed⟩ := List.getElem?_eq_some_iff.mp e
  rw [List.drop_eq_getElem_cons hi, ed, dcL_cons] at h
  exact h
end
def dDcO (w : TI3) (g : TG3) (tk tv : TE3) (vs : List Nat) : TE3 := fun sd G Q => w sd G fun ds G1 => ds.length < sizeLine ∧ swp (fun sw => dcL g tk tv sw ds [] G1 fun ks G2 => ∀ p, G2 p = none → Q (.ref p) (gupd G2 p (.dic ks))) vs sd
theorem low_dcO {K : PySem.W.Frag} {F0 : Pt} {w : TI3} {g2 : TG} {g : TG3} {tk tv : TE3} {vs : List Nat} (tg : TgtOk K vs g2 g) {σ : L2.St} {H : Hp} {Q : VK} (h : low K F0 (dDcO w g tk tv vs) σ H Q) :
    tDc (lowI K F0 w) g2 (lowT K F0 dYes) (low K F0 tk) (low K F0 tv) vs σ H Q := by
  obtain ⟨sd, F, G, Q3, at_, h, k⟩ := h
  refine ⟨sd, F, G, _, at_, h, fun ds J F1 G1 H1 l1 wk ⟨hz, q⟩ D hD => ?_⟩
  obtain ⟨sw, q, rsw⟩ := swp_rep (at_.rs.mono l1.le) q
  obtain ⟨fD, gD⟩ := l1.cp.free hD
  refine ⟨fun i m H' => m = ds.length - i ∧ ∃ F' G' acc ad, Ext K F1 G1 H1 F' G' H' ∧ H' D = some (.dK acc) ∧ F' D = none ∧ G' D = none ∧ RepK K F' ad acc ∧ Uq ad ∧ acc.length ≤ i ∧ dcL g tk tv sw (ds.drop i) ad G' fun ks G2 => ∀ p, G2 p = none → Q3 (.ref p) (gupd G2 p (.dic ks)),
    ⟨ds.length, rfl, F1, G1, [], [], (Ext.refl l1.cp).loose hD fD gD (fun x z => by rw [hD] at z; cases z) (fun z => by rw [hD] at z; cases z), upd_same, fD, gD, .nil, trivial, Nat.zero_le _, q⟩, ?_⟩
  rintro i m H' ⟨rfl, F', G', acc, ad, l, eD, fD', gD', ra, uq, hle, q⟩
  by_cases hlt : i < ds.length
  · obtain ⟨hgo, hy⟩ := wk.go i F' G' H' l.le l.cp hlt
    have nD : ∀ x, (HO.dK acc) ≠ .own x := fun x z => by cases z
    refine .inr ⟨hgo, fun H2 => ∃ F2 G2 acc2 ad2, Ext K F1 G1 H1 F2 G2 H2 ∧ H2 D = some (.dK acc2) ∧ F2 D = none ∧ G2 D = none ∧ RepK K F2 ad2 acc2 ∧ Uq ad2 ∧ acc2.length ≤ i + 1 ∧ dcL g tk tv sw (ds.drop (i + 1)) ad2 G2 fun ks G2 => ∀ p, G2 p = none → Q3 (.ref p) (gupd G2 p (.dic ks)),
      fun H2 hh => ⟨ds.length - (i + 1), by omega, rfl, hh⟩, fun x H2 y => ?_⟩
    obtain ⟨F2, l2, d, ed, rd⟩ := hy x H2 y
    have q := dcL_drop ed q
    refine tg F2 sw G' (wipe σ vs) H2 d x _ _ l2.cp (rsw.mono (l.le.trans l2.le)) rd q fun sd3 σ3 rs3 ew q3 => ⟨by rw [ew, wipe_wipe], ?_⟩
    have lz2 := l.trans l2
    refine ⟨sd3, F2, G', _, ⟨at_.ext.trans (l1.trans lz2), rs3⟩, show dYes sd3 G' (fun b G3 => b = true ∧ G3 = G') from ⟨rfl, rfl⟩, fun b F3 G3 H3 l3 hb => ?_⟩
    obtain ⟨rfl, rfl⟩ := hb
    have lz3 := lz2.trans l3
    obtain ⟨hD3, gD3, fD3⟩ := (l2.trans l3).st D _ eD gD' fD' nD
    refine iteT ⟨sd3, F3, G3, _, ⟨at_.ext.trans (l1.trans lz3), rs3.mono l3.le⟩, q3, fun yd yv F4 G4 H4 l4 r4 q4 => ?_⟩
    have lz4 := lz3.trans l4
    obtain ⟨hD4, gD4, fD4⟩ := l4.st D _ hD3 gD3 fD3 nD
    refine ⟨sd3, F4, G4, _, ⟨at_.ext.trans (l1.trans lz4), rs3.mono (l3.le.trans l4.le)⟩, q4, fun zd zv F5 G5 H5 l5 r5 ⟨kk, ek, q5⟩ => ?_⟩
    obtain ⟨hD5, gD5, fD5⟩ := l5.st D _ hD4 gD4 fD4 nD
    have hlp := length_putK acc kk zv
    refine ⟨acc, kk, rep_key r4 ek, hD5, by omega, F5, G5, putK acc kk zv, putD ad kk zd, (lz4.trans l5).looseD hD fD5 gD5 ⟨_, hD5⟩, upd_same, fD5, gD5, ?_, Uq.put uq, by omega, q5⟩
    exact RepK.put r5 uq (ra.mono (l2.le.trans (l3.le.trans (l4.le.trans l5.le))))
  · refine .inl ⟨wk.stop i F' G' H' l.le l.cp (by omega), ?_⟩
    rw [List.drop_eq_nil_of_le (by omega), dcL_nil] at q
    exact k _ _ _ _ _ (l1.trans (l.fixGD hD fD' gD' eD ra)) (.ref _) (q D gD')
section
variable {X : Cx} {F0 : Pt}
theorem de_dcO {kx vx tg iter : Expr} {scope : Scope} {pos : Pos} {w : TI3} {g2 : TG} {g : TG3} {tk tv : TE3} (own : List (Str × Nat)) (hc : X.calm = true) (hN : X.N.Nodup) (tgo : TgtOk X.K (own.map (·.2)) g2 g) (hi : DI X F0 tg iter w) (ok : BlkOk X.N X.env.scope scope own)
    (hg : ∀ (s : Shared) (H : Hp) (C : Addr) (cl : List (Str × Addr)) (fp : List Addr), PG (X.blk s H scope (compEnvC scope cl C X.env) fp) tg g2)
    (hk : ∀ (s : Shared) (H : Hp) (C : Addr) (cl : List (Str × Addr)) (fp : List Addr), DE (X.blk s H scope (compEnvC scope cl C X.env) fp) F0 kx tk)
    (he : ∀ (s : Shared) (H : Hp) (C : Addr) (cl : List (Str × Addr)) (fp : List Addr), DE (X.blk s H scope (compEnvC scope cl C X.env) fp) F0 vx tv) (hs : ∀ x, foldedSetIterable iter X.env x = pure x := by intro _; rfl) :
    DE X F0 (.DictComp kx vx [⟨tg, iter, [], 0⟩] scope pos) (dDcO w g tk tv (own.map (·.2))) :=
  PE.imp (pe_dc (tt := lowT X.K F0 dYes) (tk := low X.K F0 tk) (tv := low X.K F0 tv) hc hN hi ok hg (fun _ _ _ _ _ => dts_nil) hk he hs) fun _ _ _ h => low_dcO tgo h
end
end L3
set_option Elab.async false
set_option linter.all false
set_option maxRecDepth 100000
set_option maxHeartbeats 4000000
namespace L3
open PySem PySem.Spec PyProof.Rows L2

/-! ### an own list is compared with data -/
section
variable {K : PySem.W.Frag}
def rEqR : R3 := fun x y G Q => match x with
  | .ref p => ∃ ds d e, G p = some (.lst ds) ∧ toData (.lst ds) = some d ∧ toData y = some e ∧ SeqAt.shaped d = true ∧ SeqAt.shaped e = true ∧ Q (.bl (PyData.eqv d e)) G
  | _ => False
theorem dc_eqR : OpD K (rEqD K) rEqR := by
  intro F G H x y dx dy Q Q3 c rx ry h k
  unfold rEqR at h
  split at h
  · obtain ⟨ds, d, e, hg, h1, h2, h3, h4, q⟩ := h
    cases rx
    obtain ⟨_, vs, hp, rl⟩ := own_lst c hg
    unfold toData at h1
    obtain ⟨ps, e1, e2⟩ := Option.map_eq_some_iff.mp h1
    subst e2
    exact ⟨_, e, .lst (.inl (.inl hp)) (rep_dpl c.frz rl e1), rep_dp c.frz ry h2, h3, h4, k _ _ _ _ _ (Ext.refl c) (.bl _) q⟩
  · exact h.elim
theorem op_eqR {X : Cx} {j : Nat} (hr : Room j X.A) : OpR X (compareOp .Eq) (rEqD X.K) := op_eqD hr.units
end

/-! ### a comprehension over an own list that stays as it is -/
def lcO0 (p : Addr) (all : List D) (g : TG3) (tt : TT3) (te : TE3) (sw : St3) : List D → Gp → (List D → Gp → Prop) → Prop
  | [], G, K => G p = some (.lst all) ∧ K [] G
  | x :: xs, G, K => G p = some (.lst all) ∧ g x sw G fun sd2 G2 => tt sd2 G2 fun b G3 => br b (te sd2 G3 fun y G4 => lcO0 p all g tt te sw xs G4 fun ys G5 => K (y :: ys) G5) (lcO0 p all g tt te sw xs G3 K)
@[irreducible] def lcO (p : Addr) (all : List D) (g : TG3) (tt : TT3) (te : TE3) (sw : St3) (ds : List D) (G : Gp) (K : List D → Gp → Prop) : Prop := lcO0 p all g tt te sw ds G K
section
variable {p : Addr} {all : List D} {g : TG3} {tt : TT3} {te : TE3} {sw : St3} {G : Gp} {K : List D → Gp → Prop}
theorem lcO_nil : lcO p all g tt te sw [] G K = (G p = some (.lst all) ∧ K [] G) := by unfold lcO; rfl
theorem lcO_cons {x : D} {xs : List D} : lcO p all g tt te sw (x :: xs) G K = (G p = some (.lst all) ∧ g x sw G fun sd2 G2 => tt sd2 G2 fun b G3 => br b (te sd2 G3 fun y G4 => lcO p all g tt te sw xs G4 fun ys G5 => K (y :: ys) G5) (lcO p all g tt te sw xs G3 K)) := by
  have e : lcO p all g tt te sw xs = lcO0 p all g tt te sw xs := by funext G K; unfold lcO; rfl
  rw [e]
  unfold lcO
  rfl
theorem lcO_own {xs : List D} (h : lcO p all g tt te sw xs G K) : G p = some (.lst all) := by
  cases xs with
  | nil => rw [lcO_nil] at h; exact h.1
  | cons a b => rw [lcO_cons] at h; exact h.1
theorem lcO_drop {ds : List D} {i : Nat} {d : D} (e : ds[i]? = some d) (h : lcO p all g tt te sw (ds.drop i) G K) :
    g d sw G fun sd2 G2 => tt sd2 G2 fun b G3 => br b (te sd2 G3 fun y G4 => lcO p all g tt te sw (ds.drop (i + 1)) G4 fun ys G5 => K (y :: ys) G5) (lcO p all g tt te sw (ds.drop (i + 1)) G3 K) := by
  obtain ⟨hi, ed⟩ := List.getElem?_eq_some_iff.mp e
  rw [List.drop_eq_getElem_cons hi, ed, lcO_cons] at h
  exact h.2
/-- every element is told by a function, the places stay -/
theorem lcO_map {α : Type} {e : α → D} (f : α → D) (hp : G p = some (.lst all)) : ∀ (xs : List α) {K : List D → Gp → Prop}, (∀ a ∈ xs, ∀ K' : DK, K' (f a) G → g (e a) sw G fun sd2 G2 => te sd2 G2 K') → K (xs.map f) G → lcO p all g dYes te sw (xs.map e) G K
  | [], K, _, k => by
    rw [List.map_nil, lcO_nil]
    exact ⟨hp, k⟩
  | a :: xs, K, h, k => by
    rw [List.map_cons, lcO_cons]
    exact ⟨hp, h a List.mem_cons_self _ (lcO_map f hp xs (fun b hb => h b (List.mem_cons_of_mem _ hb)) k)⟩
end
def dLcR (ti : TE3) (g : TG3) (tt : TT3) (te : TE3) (vs : List Nat) : TE3 := fun sd G Q => ti sd G fun d G1 => match d with
  | .ref p => ∃ ds, G1 p = some (.lst ds) ∧ ds.length < sizeLine ∧ swp (fun sw => lcO p ds g tt te sw ds G1 fun ys G2 => Q (.lst ys) G2) vs sd
  | _ => False
theorem low_lcR {K : PySem.W.Frag} {F0 : Pt} {ti : TE3} {g2 : TG} {g : TG3} {tt : TT3} {te : TE3} {vs : List Nat} (tg : TgtOk K vs g2 g) {σ : L2.St} {H : Hp} {Q : VK} (h : low K F0 (dLcR ti g tt te vs) σ H Q) :
    tLc (iAny K (low K F0 ti)) g2 (lowT K F0 tt) (low K F0 te) vs σ H Q := by
  obtain ⟨sd, F, G, Q3, at_, h, k⟩ := h
  refine ⟨sd, F, G, _, at_, h, fun d v F1 G1 H1 l1 r1 q1 => ?_⟩
  cases d <;> first | exact q1.elim | skip
  rename_i p
  cases r1
  obtain ⟨ds, eg, hz, q⟩ := q1
  obtain ⟨_, vs0, hp0, rl0⟩ := own_lst l1.cp eg
  refine .inl ⟨p, rfl, ⟨_, SqL.of hp0⟩, fun D hD => ?_⟩
  obtain ⟨sw, q, rsw⟩ := swp_rep (at_.rs.mono l1.le) q
  have fD := (l1.cp.free hD).1
  have gD := (l1.cp.free hD).2
  refine ⟨fun i m H' => m = ds.length - i ∧ ∃ F' G' acc ad, Ext K F1 G1 H1 F' G' H' ∧ H' D = some (.lst acc) ∧ F' D = none ∧ G' D = none ∧ RepL K F' ad acc ∧ acc.length ≤ i ∧ lcO p ds g tt te sw (ds.drop i) G' fun ys G2 => Q3 (.lst (ad ++ ys)) G2,
    ⟨ds.length, rfl, F1, G1, [], [], (Ext.refl l1.cp).loose hD fD gD (fun x z => by rw [hD] at z; cases z) (fun z => by rw [hD] at z; cases z), upd_same, fD, gD, .nil, Nat.zero_le _, by rw [List.drop_zero]; exact q⟩, ?_⟩
  rintro i m H' ⟨rfl, F', G', acc, ad, l, eD, fD', gD', ra, hle, q⟩
  obtain ⟨_, vs1, hp1, rl1⟩ := own_lst l.cp (lcO_own q)
  by_cases hlt : i < ds.length
  · have ed : ds[i]? = some ds[i] := by simp [hlt]
    obtain ⟨x1, ex1, rx1⟩ := rl1.get ed
    have nD : ∀ x, (HO.lst acc) ≠ .own x := fun x z => by cases z
    refine .inr ⟨⟨vs1, x1, SqL.of hp1, ex1⟩, fun H2 => ∃ F2 G2 acc2 ad2, Ext K F1 G1 H1 F2 G2 H2 ∧ H2 D = some (.lst acc2) ∧ F2 D = none ∧ G2 D = none ∧ RepL K F2 ad2 acc2 ∧ acc2.length ≤ i + 1 ∧ lcO p ds g tt te sw (ds.drop (i + 1)) G2 fun ys G2 => Q3 (.lst (ad2 ++ ys)) G2,
      fun H2 hh => ⟨ds.length - (i + 1), by omega, rfl, hh⟩, fun x H2 y => ?_⟩
    obtain ⟨eh, y⟩ := y
    subst eh
    have ey := y vs1 (SqL.of hp1)
    rw [ex1] at ey
    cases ey
    have q := lcO_drop ed q
    refine tg F' sw G' (wipe σ vs) H2 _ _ _ _ l.cp (rsw.mono l.le) rx1 q fun sd3 σ3 rs3 ew q3 => ⟨by rw [ew, wipe_wipe], ?_⟩
    refine ⟨sd3, F', G', _, ⟨at_.ext.trans (l1.trans l), rs3⟩, q3, fun b F3 G3 H3 l3 q4 => ?_⟩
    have lz3 := l.trans l3
    obtain ⟨hD3, gD3, fD3⟩ := l3.st D _ eD gD' fD' nD
    cases b with
    | true =>
      refine iteT ⟨sd3, F3, G3, _, ⟨at_.ext.trans (l1.trans lz3), rs3.mono l3.le⟩, q4, fun yd yv F4 G4 H4 l4 r4 q5 => ?_⟩
      obtain ⟨hD4, gD4, fD4⟩ := l4.st D _ hD3 gD3 fD3 nD
      refine ⟨acc, hD4, by omega, F4, G4, acc ++ [yv], ad ++ [yd], (lz3.trans l4).loose hD fD4 gD4 (fun x z => by rw [hD4] at z; cases z) (fun z => by rw [hD4] at z; cases z), upd_same, fD4, gD4, ?_, ?_, ?_⟩
      · exact (ra.mono (l3.le.trans l4.le)).append (.one r4)
      · rw [List.length_append, List.length_singleton]; omega
      · have e : (fun ys G2 => Q3 (.lst (ad ++ [yd] ++ ys)) G2) = fun ys G2 => Q3 (.lst (ad ++ yd :: ys)) G2 := by
          funext ys G2
          rw [List.append_assoc]
          rfl
        rw [e]
        exact q5
    | false => exact iteF ⟨F3, G3, acc, ad, lz3, hD3, fD3, gD3, ra.mono l3.le, by omega, q4⟩
  · refine .inl ⟨⟨vs1, SqL.of hp1, by rw [← rl1.length]; omega⟩, ?_⟩
    rw [List.drop_eq_nil_of_le (by omega), lcO_nil] at q
    have q : Q3 (.lst (ad ++ [])) G' := q.2
    rw [List.append_nil] at q
    have x := (l.fix hD fD' gD' eD)
    exact k _ _ _ _ _ (l1.trans x) (.lst upd_same (ra.mono (Le.new fD'))) q
section
variable {X : Cx} {F0 : Pt}
theorem de_lcR {elt tg iter : Expr} {ifs : List Expr} {scope : Scope} {pos : Pos} {ti : TE3} {g2 : TG} {g : TG3} {tt : TT3} {te : TE3} (own : List (Str × Nat)) (hc : X.calm = true) (hN : X.N.Nodup) (tgo : TgtOk X.K (own.map (·.2)) g2 g) (hi : DE X F0 iter ti) (ok : BlkOk X.N X.env.scope scope own)
    (hg : ∀ (s : Shared) (H : Hp) (C : Addr) (cl : List (Str × Addr)) (fp : List Addr), PG (X.blk s H scope (compEnvC scope cl C X.env) fp) tg g2) (ht : ∀ (s : Shared) (H : Hp) (C : Addr) (cl : List (Str × Addr)) (fp : List Addr), DTs (X.blk s H scope (compEnvC scope cl C X.env) fp) F0 ifs tt)
    (he : ∀ (s : Shared) (H : Hp) (C : Addr) (cl : List (Str × Addr)) (fp : List Addr), DE (X.blk s H scope (compEnvC scope cl C X.env) fp) F0 elt te) (hs : ∀ x, foldedSetIterable iter X.env x = pure x := by intro _; rfl) :
    DE X F0 (.ListComp elt [⟨tg, iter, ifs, 0⟩] scope pos) (dLcR ti g tt te (own.map (·.2))) := PE.imp (pe_lc (tt := lowT X.K F0 tt) (te := low X.K F0 te) hc hN (pi_any hi) ok hg ht he hs) fun _ _ _ h => low_lcR tgo h
/-- name = [..] -/
theorem ds_setLcR (i : Nat) {y : Str} {py : Pos} {elt tg iter : Expr} {ifs : List Expr} {scope : Scope} {pos spos : Pos} {ti : TE3} {g2 : TG} {g : TG3} {tt : TT3} {te : TE3} (own : List (Str × Nat)) (hc : X.calm = true) (hN : X.N.Nodup) (tgo : TgtOk X.K (own.map (·.2)) g2 g) (hi : DE X F0 iter ti) (ok : BlkOk X.N X.env.scope scope own)
    (hg : ∀ (s : Shared) (H : Hp) (C : Addr) (cl : List (Str × Addr)) (fp : List Addr), PG (X.blk s H scope (compEnvC scope cl C X.env) fp) tg g2) (ht : ∀ (s : Shared) (H : Hp) (C : Addr) (cl : List (Str × Addr)) (fp : List Addr), DTs (X.blk s H scope (compEnvC scope cl C X.env) fp) F0 ifs tt)
    (he : ∀ (s : Shared) (H : Hp) (C : Addr) (cl : List (Str × Addr)) (fp : List Addr), DE (X.blk s H scope (compEnvC scope cl C X.env) fp) F0 elt te)
    (hy : X.N[i]? = some y := by rfl) (hyl : X.env.scope.names.lookup y = some .local := by rfl) (hk : X.env.scope.kind = .function := by rfl) (hl : (py.line == pos.line) = true := by rfl)
    (ha : (scope.names.any fun (n, k) => n == y && (k == .local || k == .cell)) = false := by decide +kernel) (hs : ∀ x, foldedSetIterable iter X.env x = pure x := by intro _; rfl) :
    DS X F0 (.Assign [.Name y py] (.ListComp elt [⟨tg, iter, ifs, 0⟩] scope pos) spos) (dSet i (dLcR ti g tt te (own.map (·.2)))) :=
  PS.imp (ps_setLc (tt := lowT X.K F0 tt) (te := low X.K F0 te) hc hN hy hyl (sw_true hk hyl hl ha) (pi_any hi) ok hg ht he hs) fun D σ H ⟨sd, F, G, D3, at_, h, k⟩ =>
    low_lcR tgo ⟨sd, F, G, _, at_, h, fun d v F1 G1 H1 l r q => k.nx _ _ _ _ _ l ((at_.rs.mono l.le).set i r) (sput_set q)⟩
end

/-! ### xs[::2] -/
section
variable {X : Cx}
def ev2 {α : Type} : List α → List α
  | [] => []
  | [a] => [a]
  | a :: _ :: r => a :: ev2 r
def tEv2 (K : PySem.W.Frag) (te : TE) : TE := fun σ H Q => te σ H fun x H1 => ∃ a xs, x = .ref a ∧ SqL K H1 a xs ∧ xs.length = 8 ∧ ∀ p, H1 p = none → Q (.ref p) (upd H1 p (.lst (ev2 xs)))
theorem pick2 (its : Array Value) (h : its.size = 8) : slicePick its none none (some 2) = (ev2 its.toList).toArray := by
  obtain ⟨l⟩ := its
  match l, h with
  | [a, b, c, d, e, f, g, i], _ => with_unfolding_all rfl
theorem ev2_len {α : Type} : ∀ xs : List α, (ev2 xs).length ≤ xs.length
  | [] => Nat.le_refl _
  | [a] => Nat.le_refl _
  | a :: b :: r => by
    show (ev2 r).length + 1 ≤ r.length + 1 + 1
    have := ev2_len r
    omega
theorem vals_ev2 : ∀ {xs : List V} {us : List Value}, Vals xs us → Vals (ev2 xs) (ev2 us)
  | _, _, .nil => .nil
  | _, _, .cons a .nil => .cons a .nil
  | _, _, .cons a (.cons _ r) => .cons a (vals_ev2 r)
theorem repl_ev2 {K : PySem.W.Frag} {F : Hp} : ∀ {ds : List D} {vs : List V}, RepL K F ds vs → RepL K F (ev2 ds) (ev2 vs)
  | _, _, .nil => .nil
  | _, _, .cons a .nil => .cons a .nil
  | _, _, .cons a (.cons _ r) => .cons a (repl_ev2 r)
theorem pe_ev2 {e : Expr} {te : TE} {k : Nat} {p1 p3 pos : Pos} (he : PE X e te) : PE X (.Subscript e (.Slice none none (some (.Constant (.int 2) k p1)) p3) pos) (tEv2 X.K te) := by
  refine ⟨fun pins s σ H Q I h => ?_⟩
  refine Subscript_ (thn (he.run pins s σ H _ I h) fun v s1 ⟨x, H1, I1, r1, q1⟩ => ?_)
  obtain ⟨a, xs, ex, hx, h8, q⟩ := q1
  subst ex
  cases r1
  have hst : PO X (some (.Constant (.int 2) k p1)) (tPart (tC (.int 2))) := po_some pe_int
  refine wpAny_Slice (thn (po_none.run pins s1 σ H1 (fun o H2 => o = none ∧ H2 = H1) I1 ⟨rfl, rfl⟩) fun vl s2 ⟨l, H2, I2, pl, el, e2⟩ => ?_)
  subst el e2
  refine thn (po_none.run pins s2 σ H2 (fun o H3 => o = none ∧ H3 = H2) I2 ⟨rfl, rfl⟩) fun vu s3 ⟨u, H3, I3, pu, eu, e3⟩ => ?_
  subst eu e3
  refine thn (hst.run pins s3 σ H3 (fun o H4 => o = some 2 ∧ H4 = H3) I3 ⟨2, rfl, rfl, rfl⟩) fun vs s4 ⟨o, H4, I4, ps, eo, e4⟩ => ?_
  subst eo e4
  have I5 : Inv X pins σ H4 { s4 with heap := s4.heap.push { cls := .type "slice", data := .fields #[vl, vu, vs] } } := I4.kept (t' := s4.toks) fun b ob q => Heap.get?_push_of_some _ q
  show wpAny (model X.prog X.w) X.A (subscriptTail e (.Slice none none (some (.Constant (.int 2) k p1)) p3) (.ref a) (.ref s4.heap.objs.size)) (EP X pins σ Q) X.xe { s4 with heap := s4.heap.push { cls := .type "slice", data := .fields #[vl, vu, vs] } }
  obtain ⟨its, r, ht, hz⟩ := I5.list hx
  have hlen := r.length
  refine tail_any (ops := [.ref a, .ref s4.heap.objs.size]) ht.isList.typeIs (PySem.slot_list_getitem.lookup) ?_ (by with_unfolding_all rfl)
  refine wpAny_getItem_list_slice ht.isList (Heap.IsSliceOf.new _ vl vu vs) pl pu ps (by decide) ?_ (by rw [List.size_toArray]; omega)
  rw [pick2 _ (by rw [List.size_toArray]; omega)]
  refine ⟨.ref _, _, I5.laid (t' := s4.toks) (o := .lst (ev2 xs)) (fun b ob q => Heap.get?_push_of_some _ q) (Nat.le_refl _) ?_, rfl, q _ (I5.hok.fresh (Nat.le_refl _))⟩
  exact ⟨Nat.le_trans (ev2_len xs) hz, _, 0, vals_ev2 r, Heap.get?_push_size _ rfl⟩
end
section
variable {X : Cx} {F0 : Pt} {e : Expr} {te : TE3}
def dEv2 (te : TE3) : TE3 := fun sd G Q => te sd G fun d G1 => match d with
  | .lst ds => ds.length = 8 ∧ Q (.lst (ev2 ds)) G1
  | _ => False
theorem de_ev2 {k : Nat} {p1 p3 pos : Pos} (he : DE X F0 e te) : DE X F0 (.Subscript e (.Slice none none (some (.Constant (.int 2) k p1)) p3) pos) (dEv2 te) :=
  PE.imp (pe_ev2 he) fun σ H Q ⟨sd, F, G, Q3, at_, h, k⟩ => ⟨sd, F, G, _, at_, h, fun d v F1 G1 H1 l1 r1 q1 => by
    cases d <;> first | exact q1.elim | skip
    cases r1 with
    | @lst _ _ vs s rl =>
      refine ⟨_, vs, rfl, SqL.of (l1.cp.frz _ _ s), by rw [← rl.length]; exact q1.1, fun p hp => ?_⟩
      have x := Ext.newF l1.cp (.lst (ev2 vs)) hp
      exact k _ _ _ _ _ (l1.trans x) (.lst upd_same ((repl_ev2 rl).mono x.le)) q1.2⟩
end
end L3
set_option Elab.async false
set_option linter.all false
set_option maxRecDepth 100000
set_option maxHeartbeats 4000000
namespace L3
open PySem PySem.Spec PyProof.Rows L2

/-! ### new own lists: split, list(x); the place of a text in a list -/
section
variable {X : Cx} {K : PySem.W.Frag} {F0 : Pt} {e o : Expr} {ta te : TE3} {pos apos : Pos}
theorem de_splitO (ho : DE X F0 o ta) (he : DE X F0 e te) (hs : starEach [e] X.env = [(false, eval e X.env)] := by rfl) (hbase : attributeBase o "split" X.env (eval o X.env) = eval o X.env := by rfl) (hline : (apos.endLine == pos.line) = true := by rfl) :
    DE X F0 (.Call (.Attribute o "split" apos) [e] [] pos) (dM1 (fun s z Q G => (z.length == 0) = false ∧ s.length + 2 ≤ sizeLine ∧ ∀ p, G p = none → Q (.ref p) (gupd G p (.lst ((Txt.split s z).map D.str)))) ta te) :=
  PE.imp (pe_split ho he hs hbase hline) fun _ _ _ h => low_m1 (fun F G H s z Q Q3 c q k => ⟨s, z, rfl, rfl, q.1, q.2.1, fun p hp =>
    k _ _ _ _ _ (Ext.newG c hp (repL_strs _)) (.ref p) (q.2.2 p (c.free hp).2)⟩) h
def rListO3 : List D → Gp → DK → Prop := fun ds G Q => match ds with
  | [.tup ds] => ∀ p, G p = none → Q (.ref p) (gupd G p (.lst ds))
  | [.lst ds] => ∀ p, G p = none → Q (.ref p) (gupd G p (.lst ds))
  | _ => False
theorem cd_listO : CallD K (fun xs H Q => ∃ p ys, xs = [.ref p] ∧ (SqL K H p ys ∨ SqT K H p ys) ∧ ∀ l, H l = none → Q (.ref l) (upd H l (.lst ys))) rListO3 := by
  intro F G H xs ds Q Q3 c r h k
  unfold rListO3 at h
  split at h
  · obtain ⟨v, rfl, rv⟩ := r.inv1
    cases rv with
    | @tup a _ vs s rl =>
      exact ⟨_, _, rfl, .inr (sqT_mono c.frz s), fun p hp => k _ _ _ _ _ (Ext.newG c hp rl) (.ref p) (h p (c.free hp).2)⟩
  · obtain ⟨v, rfl, rv⟩ := r.inv1
    cases rv with
    | @lst a _ vs s rl =>
      exact ⟨_, _, rfl, .inl (SqL.of (c.frz _ _ s)), fun p hp => k _ _ _ _ _ (Ext.newG c hp rl) (.ref p) (h p (c.free hp).2)⟩
  · exact h.elim
theorem repL_strs_inv {F : Hp} : ∀ {xs : List Str} {vs : List V}, RepL K F (xs.map D.str) vs → vs = xs.map V.str
  | [], _, .nil => rfl
  | _ :: _, _, .cons r t => by
    cases r
    rw [repL_strs_inv t]
    rfl
def dIdx (to te : TE3) : TE3 := fun sd G Q => to sd G fun x G1 => match x with
  | .lst ds => te sd G1 fun y G2 => ∃ (xs : List Str) (z : Str) (j : Nat), ds = xs.map D.str ∧ y = .str z ∧ xs[j]? = some z ∧ (∀ (m : Nat) (w : Str), m < j → xs[m]? = some w → w ≠ z) ∧ Q (.int (j : Nat)) G2
  | _ => False
theorem de_index (ho : DE X F0 o ta) (he : DE X F0 e te) (hbase : attributeBase o "index" X.env (eval o X.env) = eval o X.env := by rfl)
    (hfew : ((backTo pos (starEach [e] X.env)).all (fun x => !x.1) && (backToKw pos (keywordEach [] X.env)).all (fun x => x.1.isSome) && decide ([e].length + ([] : List Keyword).length + (if ([] : List Keyword).isEmpty then 0 else 1) < 30)) = true := by rfl)
    (hline : (apos.endLine == pos.line) = true := by rfl) (hs : starEach [e] X.env = (false, eval e X.env) :: starEach [] X.env := by rfl) (hplain : (backTo pos (starEach [] X.env)).any (·.1) = false := by rfl) :
    DE X F0 (.Call (.Attribute o "index" apos) [e] [] pos) (dIdx ta te) :=
  PE.imp (pe_bm PySem.F.plainAttrs_list PySem.F.slot_list_index PySem.F.type_list_index mt_index ho (pa_cons he pa_nil hs) hbase hfew hline hs hplain) fun σ H Q ⟨sd, F, G, Q3, at_, h, k⟩ => ⟨sd, F, G, _, at_, h, fun d v F1 G1 H1 l1 r1 q1 => by
    cases d <;> first | exact q1.elim | skip
    cases r1 with
    | @lst a _ vs s rl =>
    refine ⟨.inl ⟨rfl, _, SqL.of (l1.cp.frz _ _ s)⟩, sd, F1, G1, _, at_.step l1, q1, fun d2 v2 F2 G2 H2 l2 r2 ⟨xs, z, j, e1, e2, e3, e4, q⟩ => ?_⟩
    subst e1 e2
    cases r2
    have ev := repL_strs_inv rl
    subst ev
    refine ⟨a, xs.map V.str, .str z, j, .str z, rfl, rfl, SqL.of (l2.cp.frz _ _ (l2.le _ _ s)), rfl, List.all_eq_true.mpr fun v hv => ?_, by rw [List.getElem?_map, e3]; rfl, ?_, fun m w hm hw => ?_, k _ _ _ _ _ (l1.trans l2) (.int _) q⟩
    · obtain ⟨y, _, rfl⟩ := List.mem_map.mp hv
      rfl
    · show (z == z) = true
      exact beq_self_eq_true z
    · rw [List.getElem?_map] at hw
      obtain ⟨y, hy, rfl⟩ := Option.map_eq_some_iff.mp hw
      have := e4 m y hm hy
      show (y == z) = false
      exact beq_eq_false_iff_ne.mpr this⟩
end
end L3
set_option Elab.async false
set_option linter.all false
set_option maxRecDepth 100000
set_option maxHeartbeats 4000000
namespace L3
open PySem PySem.Spec PyProof.Rows L2

/-! ### statements behind which a token is out, and those that want one (str.replace of written texts) -/
section
variable {X : Cx} {e o : Expr} {es : List Expr} {te : TE} {ta : TA} {st : Stmt} {rest : List Stmt} {t u : TS} {pos : Pos}
def PEO (X : Cx) (e : Expr) (t : TE) : Prop :=
  ∀ (pins : List (Addr × Obj)) (s : Shared) (σ : L2.St) (H : Hp) (Q : VK), Inv X pins σ H s → t σ H Q → wpAny (model X.prog X.w) X.A (eval e X.env) (fun v s1 => 1 ≤ s1.toks ∧ EP X pins σ Q v s1) X.xe s
def PAO (X : Cx) (es : List Expr) (t : TA) : Prop :=
  ∀ (pos : Pos) (pins : List (Addr × Obj)) (s : Shared) (σ : L2.St) (H : Hp) (Q : List V → Hp → Prop), Inv X pins σ H s → t σ H Q → wpAny (model X.prog X.w) X.A (spliced (backTo pos (starEach es X.env))) (fun us s1 => 1 ≤ s1.toks ∧ AP X pins σ Q us s1) X.xe s
def PSO (X : Cx) (st : Stmt) (t : TS) : Prop :=
  ∀ (pins : List (Addr × Obj)) (s : Shared) (σ : L2.St) (H : Hp) (D : Ends), Inv X pins σ H s → t D σ H → wpAny (model X.prog X.w) X.A (exec st X.env) (fun f s1 => 1 ≤ s1.toks ∧ SP X pins D f s1) X.xe s
theorem peo_int {i : Int} {j : Nat} {p : Pos} : PEO X (.Constant (.int i) j p) (tC (.int i)) := by
  intro pins s σ H Q I h
  refine wpAny_Constant_int ?_
  exact ⟨by show 1 ≤ s.toks + 1; omega, .int i, H, I.tok _, ⟨_, rfl⟩, h⟩
theorem pao_hit (ha : PEO X e te) (hr : PA X es ta) (hs : starEach (e :: es) X.env = (false, eval e X.env) :: starEach es X.env := by rfl) : PAO X (e :: es) (tCons te ta) := by
  intro pos pins s σ H Q I h
  rw [hs]
  show wpAny _ _ (spliced ((false, eval e X.env) :: backTo pos (starEach es X.env))) _ _ s
  refine Calls.spliced_cons (thn (ha pins s σ H _ I h) fun v s1 q => ?_)
  obtain ⟨hk, x, H1, I1, r1, q1⟩ := q
  refine wpAny_mono (PySem.wpAny_toks (hr.run pos pins s1 σ H1 _ I1 q1)) (fun us s2 q => ?_) fun _ _ z => z.2
  obtain ⟨hk2, xs, H2, I2, r2, q2⟩ := q
  exact ⟨Nat.le_trans hk hk2, x :: xs, H2, I2, .cons r1 r2, q2⟩
theorem pao_skip (ha : PE X e te) (hr : PAO X es ta) (hs : starEach (e :: es) X.env = (false, eval e X.env) :: starEach es X.env := by rfl) : PAO X (e :: es) (tCons te ta) := by
  intro pos pins s σ H Q I h
  rw [hs]
  show wpAny _ _ (spliced ((false, eval e X.env) :: backTo pos (starEach es X.env))) _ _ s
  refine Calls.spliced_cons (thn (ha.run pins s σ H _ I h) fun v s1 q => ?_)
  obtain ⟨x, H1, I1, r1, q1⟩ := q
  refine thn (hr pos pins s1 σ H1 _ I1 q1) fun us s2 q => ?_
  obtain ⟨hk2, xs, H2, I2, r2, q2⟩ := q
  exact ⟨hk2, x :: xs, H2, I2, .cons r1 r2, q2⟩
theorem peo_lst (h : PAO X es ta) : PEO X (.List es pos) (tLst ta) := by
  intro pins s σ H Q I hq
  refine wpAny_List_spliced (thn (h pos pins s σ H _ I hq) fun us s1 ⟨hk, xs, H1, I1, r, z, q⟩ => ⟨by rw [← r.length]; exact z, ?_⟩)
  have hf : H1 s1.heap.objs.size = none := I1.hok.fresh (Nat.le_refl _)
  refine ⟨hk, .ref s1.heap.objs.size, upd H1 s1.heap.objs.size (.lst xs), I1.laid (t' := s1.toks) (fun b u e => Heap.get?_push_of_some _ e) (Nat.le_refl _) ?_, rfl, q _ hf⟩
  exact ⟨z, us, 0, r, Heap.get?_push_size _ rfl⟩
theorem pso_set {i : Nat} {x : Str} {pos' : Pos} (hN : X.N.Nodup) (hi : X.N[i]? = some x) (hx : Loc X.env.scope x) (he : PEO X e te) (hs : swapsWith e (some (.Name x pos')) pos.line X.env = pure false)
    (hf : X.fn x = true ∨ X.env.scope.names.lookup x = some .local) : PSO X (.Assign [.Name x pos'] e pos) (tAsg te (gName i)) := by
  intro pins s σ H D I h
  refine wpAny_Assign_Name (thn (he pins s σ H _ I h) fun v s1 ⟨hk, y, H1, I1, r1, q1⟩ => ?_) hs
  refine wpAny_mono (PySem.wpAny_toks (store_ok (v := y) (u := v) (Q := fun _ s2 => Inv X pins (σ.set i (some y)) H1 s2) I1 hN hi hx r1 (fun _ I2 => I2) hf)) (fun _ s2 q => ?_) fun _ _ z => z.2
  exact ⟨Nat.le_trans hk q.1, _, H1, q.2, q1⟩
theorem pst_set {i : Nat} {x : Str} {pos' : Pos} (hN : X.N.Nodup) (hi : X.N[i]? = some x) (hx : Loc X.env.scope x) (he : PET X e te) (hs : swapsWith e (some (.Name x pos')) pos.line X.env = pure false)
    (hf : X.fn x = true ∨ X.env.scope.names.lookup x = some .local) : PST X (.Assign [.Name x pos'] e pos) (tAsg te (gName i)) := by
  intro pins s σ H D h0 I h
  refine wpAny_Assign_Name (thn (he pins s σ H _ h0 I h) fun v s1 ⟨y, H1, I1, r1, q1⟩ => ?_) hs
  exact store_ok I1 hN hi hx r1 (fun s2 I2 => ⟨_, H1, I2, q1⟩) hf
theorem pss_tok (h1 : PSO X st t) (h2 : PSsT X rest u) : PSs X (st :: rest) (tSeq t u) := by
  refine ⟨fun pins s σ H D I h => ?_⟩
  refine wpAny_execs_cons (thn (h1 pins s σ H { D with nx := u D } I h) fun f s1 q => ?_)
  obtain ⟨hk, q⟩ := q
  cases f with
  | next =>
    obtain ⟨σ', H', I', q⟩ := q
    exact h2 pins s1 σ' H' D hk I' q
  | ret v => exact q
  | brk => exact q
  | cont => exact q
theorem PET.imp {te t : TE} (h : PET X e te) (i : ∀ σ H Q, t σ H Q → te σ H Q) : PET X e t := fun pins s σ H Q h0 I q => h pins s σ H Q h0 I (i σ H Q q)
theorem PAT.imp {te t : TA} (h : PAT X es te) (i : ∀ σ H Q, t σ H Q → te σ H Q) : PAT X es t := fun pos pins s σ H Q h0 I q => h pos pins s σ H Q h0 I (i σ H Q q)
theorem PEO.imp {te t : TE} (h : PEO X e te) (i : ∀ σ H Q, t σ H Q → te σ H Q) : PEO X e t := fun pins s σ H Q I q => h pins s σ H Q I (i σ H Q q)
theorem PAO.imp {te t : TA} (h : PAO X es te) (i : ∀ σ H Q, t σ H Q → te σ H Q) : PAO X es t := fun pos pins s σ H Q I q => h pos pins s σ H Q I (i σ H Q q)
theorem PST.imp {ts t : TS} (h : PST X st ts) (i : ∀ D σ H, t D σ H → ts D σ H) : PST X st t := fun pins s σ H D h0 I q => h pins s σ H D h0 I (i D σ H q)
theorem PSO.imp {ts t : TS} (h : PSO X st ts) (i : ∀ D σ H, t D σ H → ts D σ H) : PSO X st t := fun pins s σ H D I q => h pins s σ H D I (i D σ H q)
theorem PSsT.imp {sts : List Stmt} {ts t : TS} (h : PSsT X sts ts) (i : ∀ D σ H, t D σ H → ts D σ H) : PSsT X sts t := fun pins s σ H D h0 I q => h pins s σ H D h0 I (i D σ H q)
theorem PIT.imp {tg e : Expr} {te t : TI} (h : PIT X tg e te) (i : ∀ σ H R, t σ H R → te σ H R) : PIT X tg e t := fun pins s σ H R h0 I q => h pins s σ H R h0 I (i σ H R q)
end
def DEO (X : Cx) (F0 : Pt) (e : Expr) (t : TE3) : Prop := PEO X e (low X.K F0 t)
def DAO (X : Cx) (F0 : Pt) (es : List Expr) (t : TA3) : Prop := PAO X es (lowA X.K F0 t)
def DSO (X : Cx) (F0 : Pt) (st : Stmt) (t : TS3) : Prop := PSO X st (lowS X.K F0 t)
def DET (X : Cx) (F0 : Pt) (e : Expr) (t : TE3) : Prop := PET X e (low X.K F0 t)
def DAT (X : Cx) (F0 : Pt) (es : List Expr) (t : TA3) : Prop := PAT X es (lowA X.K F0 t)
def DST (X : Cx) (F0 : Pt) (st : Stmt) (t : TS3) : Prop := PST X st (lowS X.K F0 t)
def DSsT (X : Cx) (F0 : Pt) (st : List Stmt) (t : TS3) : Prop := PSsT X st (lowS X.K F0 t)
section
variable {X : Cx} {F0 : Pt} {e o a b : Expr} {es : List Expr} {te ta tb : TE3} {t : TA3} {st : Stmt} {sts : List Stmt} {ts us : TS3} {pos : Pos} {tg : Expr}
theorem deo_int {i : Int} {j : Nat} {p : Pos} : DEO X F0 (.Constant (.int i) j p) (dC (.int i)) := PEO.imp peo_int fun σ H Q ⟨sd, F, G, Q3, at_, h, k⟩ => k _ _ _ _ _ (Ext.refl at_.cp) (.int i) h
theorem dao_hit (ha : DEO X F0 e te) (hr : DA X F0 es t) (hs : starEach (e :: es) X.env = (false, eval e X.env) :: starEach es X.env := by rfl) : DAO X F0 (e :: es) (dCons te t) :=
  PAO.imp (pao_hit ha hr hs) fun σ H Q ⟨sd, F, G, Q3, at_, h, k⟩ => ⟨sd, F, G, _, at_, h, fun d v F1 G1 H1 l1 r1 q1 => ⟨sd, F1, G1, _, at_.step l1, q1, fun ds vs F2 G2 H2 l2 r2 q2 => k _ _ _ _ _ (l1.trans l2) (.cons (r1.mono l2.le) r2) q2⟩⟩
theorem dao_skip (ha : DE X F0 e te) (hr : DAO X F0 es t) (hs : starEach (e :: es) X.env = (false, eval e X.env) :: starEach es X.env := by rfl) : DAO X F0 (e :: es) (dCons te t) :=
  PAO.imp (pao_skip ha hr hs) fun σ H Q ⟨sd, F, G, Q3, at_, h, k⟩ => ⟨sd, F, G, _, at_, h, fun d v F1 G1 H1 l1 r1 q1 => ⟨sd, F1, G1, _, at_.step l1, q1, fun ds vs F2 G2 H2 l2 r2 q2 => k _ _ _ _ _ (l1.trans l2) (.cons (r1.mono l2.le) r2) q2⟩⟩
theorem deo_lstS (h : DAO X F0 es t) : DEO X F0 (.List es pos) (dLstS t) :=
  PEO.imp (peo_lst h) fun σ H Q ⟨sd, F, G, Q3, at_, h, k⟩ => ⟨sd, F, G, _, at_, h, fun ds vs F1 G1 H1 l1 r1 q1 => ⟨by rw [← r1.length]; exact q1.1, fun p hp => by
    have x := Ext.newF l1.cp (.lst vs) hp
    exact k _ _ _ _ _ (l1.trans x) (.lst upd_same (r1.mono x.le)) q1.2⟩⟩
theorem dso_set (i : Nat) {x : Str} {pos' : Pos} (hN : X.N.Nodup) (he : DEO X F0 e te) (hi : X.N[i]? = some x := by rfl) (hx : Loc X.env.scope x := by first | exact Or.inl rfl | exact Or.inr rfl) (hs : swapsWith e (some (.Name x pos')) pos.line X.env = pure false := by rfl)
    (hf : X.fn x = true ∨ X.env.scope.names.lookup x = some .local := by first | exact .inl rfl | exact .inr rfl) : DSO X F0 (.Assign [.Name x pos'] e pos) (dSet i te) :=
  PSO.imp (pso_set hN hi hx he hs hf) fun D σ H ⟨sd, F, G, D3, at_, h, k⟩ => ⟨sd, F, G, _, at_, h, fun d v F1 G1 H1 l r q => k.nx _ _ _ _ _ l ((at_.rs.mono l.le).set i r) (sput_set q)⟩
theorem det_of (h : DE X F0 e te) : DET X F0 e te := CwR.PET.of h
theorem det_op {op : Operator} {r : R2} {r3 : R3} (ho : OpR X (binaryOp op) r) (h3 : OpD X.K r r3) (ha : DET X F0 a ta) (hb : DET X F0 b tb) : DET X F0 (.BinOp a op b pos) (dOp r3 ta tb) := PET.imp (CwR.pet_op ho ha hb) fun _ _ _ h => low_op h3 h
def rCatL : R3 := fun x y G Q => match x, y with
  | .lst a, .lst b => a.length + b.length ≤ sizeLine ∧ Q (.lst (a ++ b)) G
  | _, _ => False
theorem det_addL (ha : DET X F0 a ta) (hb : DET X F0 b tb) : DET X F0 (.BinOp a .Add b pos) (dOp rCatL ta tb) := by
  refine det_op op_cat (fun F G H x y dx dy Q Q3 c rx ry h k => ?_) ha hb
  cases dx <;> cases dy <;> first | exact h.elim | skip
  cases rx with
  | @lst aa _ va sa ra =>
    cases ry with
    | @lst ab _ vb sb rb =>
      refine ⟨aa, ab, va, vb, rfl, rfl, c.frz _ _ sa, c.frz _ _ sb, by rw [← ra.length, ← rb.length]; exact h.1, fun p hp => ?_⟩
      have x := Ext.newF c (.lst (va ++ vb)) hp
      have l := x.le
      exact k _ _ _ _ _ x (.lst upd_same ((ra.mono l).append (rb.mono l))) h.2
def dRepl (to : TE3) (y z : Str) : TE3 := fun sd G Q => to sd G fun d G1 => match d with
  | .str x => x.length + (x.length + 1) * z.length ≤ 16777216 ∧ Q (.str (Txt.replace x y z)) G1
  | _ => False
theorem det_repl {y z : Str} {j k : Nat} {c0 c1 apos : Pos} (ho : DE X F0 o te) (hyz : (y == z) = false := by decide)
    (hst : starEach [.Constant (.str y) j c0, .Constant (.str z) k c1] X.env = [(false, eval (.Constant (.str y) j c0) X.env), (false, eval (.Constant (.str z) k c1) X.env)] := by rfl)
    (hbase : attributeBase o "replace" X.env (eval o X.env) = eval o X.env := by rfl) (hline : (apos.endLine == pos.line) = true := by rfl) :
    DET X F0 (.Call (.Attribute o "replace" apos) [.Constant (.str y) j c0, .Constant (.str z) k c1] [] pos) (dRepl te y z) :=
  PET.imp (CwR.pet_replC ho hyz hst hbase hline) fun σ H Q ⟨sd, F, G, Q3, at_, h, k⟩ => ⟨sd, F, G, _, at_, h, fun d v F1 G1 H1 l1 r1 q1 => by
    cases d <;> first | exact q1.elim | skip
    cases r1
    exact ⟨_, rfl, q1.1, k _ _ _ _ _ l1 (.str _) q1.2⟩⟩
theorem dat_nil : DAT X F0 [] dNil := PAT.imp pat_nil fun σ H Q ⟨sd, F, G, Q3, at_, h, k⟩ => k [] [] F G H (Ext.refl at_.cp) .nil h
theorem dat_cons (ha : DET X F0 e te) (hr : DAT X F0 es t) (hs : starEach (e :: es) X.env = (false, eval e X.env) :: starEach es X.env := by rfl) : DAT X F0 (e :: es) (dCons te t) :=
  PAT.imp (pat_cons ha hr hs) fun σ H Q ⟨sd, F, G, Q3, at_, h, k⟩ => ⟨sd, F, G, _, at_, h, fun d v F1 G1 H1 l1 r1 q1 => ⟨sd, F1, G1, _, at_.step l1, q1, fun ds vs F2 G2 H2 l2 r2 q2 => k _ _ _ _ _ (l1.trans l2) (.cons (r1.mono l2.le) r2) q2⟩⟩
theorem det_lstS (h : DAT X F0 es t) : DET X F0 (.List es pos) (dLstS t) :=
  PET.imp (pet_lst h) fun σ H Q ⟨sd, F, G, Q3, at_, h, k⟩ => ⟨sd, F, G, _, at_, h, fun ds vs F1 G1 H1 l1 r1 q1 => ⟨by rw [← r1.length]; exact q1.1, fun p hp => by
    have x := Ext.newF l1.cp (.lst vs) hp
    exact k _ _ _ _ _ (l1.trans x) (.lst upd_same (r1.mono x.le)) q1.2⟩⟩
theorem dst_set (i : Nat) {x : Str} {pos' : Pos} (hN : X.N.Nodup) (he : DET X F0 e te) (hi : X.N[i]? = some x := by rfl) (hx : Loc X.env.scope x := by first | exact Or.inl rfl | exact Or.inr rfl) (hs : swapsWith e (some (.Name x pos')) pos.line X.env = pure false := by rfl)
    (hf : X.fn x = true ∨ X.env.scope.names.lookup x = some .local := by first | exact .inl rfl | exact .inr rfl) : DST X F0 (.Assign [.Name x pos'] e pos) (dSet i te) :=
  PST.imp (pst_set hN hi hx he hs hf) fun D σ H ⟨sd, F, G, D3, at_, h, k⟩ => ⟨sd, F, G, _, at_, h, fun d v F1 G1 H1 l r q => k.nx _ _ _ _ _ l ((at_.rs.mono l.le).set i r) (sput_set q)⟩
theorem dsst_of (h : DSs X F0 sts ts) : DSsT X F0 sts ts := PSsT.of h
theorem dsst_cons (h1 : DST X F0 st ts) (h2 : DSsT X F0 sts us) : DSsT X F0 (st :: sts) (dSeq ts us) :=
  PSsT.imp (psst_cons h1 h2) fun D σ H ⟨sd, F, G, D3, at_, h, k⟩ => ⟨sd, F, G, _, at_, h, ⟨fun sd' σ' F' G' H' l rs q => ⟨sd', F', G', D3, ⟨at_.ext.trans l, rs⟩, q, k.mono l⟩, k.rt, k.bk, k.ct⟩⟩
/-- behind this statement a token is out -/
theorem dss_tok (h1 : DSO X F0 st ts) (h2 : DSsT X F0 sts us) : DSs X F0 (st :: sts) (dSeq ts us) :=
  PSs.imp (pss_tok h1 h2) fun D σ H ⟨sd, F, G, D3, at_, h, k⟩ => ⟨sd, F, G, _, at_, h, ⟨fun sd' σ' F' G' H' l rs q => ⟨sd', F', G', D3, ⟨at_.ext.trans l, rs⟩, q, k.mono l⟩, k.rt, k.bk, k.ct⟩⟩
theorem dit_list (he : DET X F0 e te) : PIT X tg e (lowI X.K F0 (wL te)) := PIT.imp (pit_list he) fun σ H R ⟨sd, F, G, R3, at_, h, k⟩ => ⟨sd, F, G, _, at_, h, fun d v F1 G1 H1 l1 r1 q1 => by
  cases d <;> first | exact q1.elim | skip
  · cases r1 with
    | lst s rl => exact ⟨_, rfl, ⟨_, SqL.of (l1.cp.frz _ _ s)⟩, k _ _ _ _ _ l1 (walks_lst (SqL.of s) rl) q1⟩
  · cases r1 with
    | scr s rl => exact ⟨_, rfl, ⟨_, sqL_mono l1.cp.frz s⟩, k _ _ _ _ _ l1 (walks_lst s rl) q1⟩⟩
theorem dst_for {iter : Expr} {body : List Stmt} {wi : TI3} {g : TG3} {tb : TS3} (hc : X.calm = true) (hp : PassesOwn (model X.prog X.w) X.A X.env X.xe) (hi : PIT X tg iter (lowI X.K F0 wi)) (hg : DG X F0 tg g) (hb : DSs X F0 body tb)
    (hs : ∀ x, foldedSetIterable iter X.env x = pure x := by intro _; rfl) : DST X F0 (.For tg iter body [] pos) (dFor wi g tb) := by
  refine PST.imp (pst_for hp hc hi hg hb hs) fun D σ H ⟨sd, F, G, D3, at_, h, k⟩ => ?_
  refine ⟨sd, F, G, _, at_, h, fun ds J F1 G1 H1 l1 wk q => ?_⟩
  refine ⟨fun i m σ' H' => m = ds.length - i ∧ ∃ sd' F' G', Ext X.K F1 G1 H1 F' G' H' ∧ RepS X.K F' sd' σ' ∧ forL g tb D3 (ds.drop i) sd' G', ⟨ds.length, rfl, sd, F1, G1, Ext.refl l1.cp, at_.rs.mono l1.le, by rw [List.drop_zero]; exact q⟩, ?_⟩
  rintro i m σ' H' ⟨rfl, sd', F', G', l, rs, q⟩
  by_cases hlt : i < ds.length
  · obtain ⟨hgo, hy⟩ := wk.go i F' G' H' l.le l.cp hlt
    refine .inr ⟨hgo, fun σ2 H2 => ∃ sd2 F2 G2, Ext X.K F1 G1 H1 F2 G2 H2 ∧ RepS X.K F2 sd2 σ2 ∧ forL g tb D3 (ds.drop (i + 1)) sd2 G2, fun σ2 H2 hh => ⟨ds.length - (i + 1), by omega, rfl, hh⟩, fun x H2 y => ?_⟩
    obtain ⟨F2, l2, d, ed, rd⟩ := hy x H2 y
    have a2 : At X.K F0 F2 sd' G' σ' H2 := ⟨at_.ext.trans ((l1.trans l).trans l2), rs.mono l2.le⟩
    refine ⟨d, sd', F2, G', _, a2, rd, forL_drop ed q, fun sd3 σ3 F3 G3 H3 l3 rs3 q3 => ?_⟩
    have lz := (l.trans l2).trans l3
    refine ⟨sd3, F3, G3, _, ⟨at_.ext.trans (l1.trans lz), rs3⟩, q3, ?_⟩
    have nx : QS X.K F3 G3 H3 (forL g tb D3 (ds.drop (i + 1))) fun σ2 H2 => ∃ sd2 F2 G2, Ext X.K F1 G1 H1 F2 G2 H2 ∧ RepS X.K F2 sd2 σ2 ∧ forL g tb D3 (ds.drop (i + 1)) sd2 G2 := fun sd4 σ4 F4 G4 H4 l4 rs4 q4 => ⟨sd4, F4, G4, lz.trans l4, rs4, q4⟩
    exact ⟨nx, k.rt.mono (l1.trans lz), k.nx.mono (l1.trans lz), nx⟩
  · refine .inl ⟨wk.stop i F' G' H' l.le l.cp (by omega), ?_⟩
    rw [List.drop_eq_nil_of_le (by omega), forL_nil] at q
    exact k.nx _ _ _ _ _ (l1.trans l) rs q
end
end L3
set_option Elab.async false
set_option linter.all false
set_option maxRecDepth 100000
set_option maxHeartbeats 4000000
namespace L3
open PySem PySem.Spec PyProof.Rows L2

/-! ### instances without slots -/
theorem ocl_of {K : PySem.W.Frag} {C : Addr} (h : oclB K C = true) : Cls K C := by
  obtain ⟨h1, h⟩ := He.ba h
  obtain ⟨h2, h⟩ := He.ba h
  obtain ⟨h3, h4⟩ := He.ba h
  exact ⟨h1, h2, h3, He.eqO_ok h4⟩
theorem noa_of {K : PySem.W.Frag} {C : Addr} {f : Str} (h : noaB K C f = true) : NoAttr K C f := He.eqO_ok h
/-- a field is stored -/
def putD3 (f : Str) (d : D) : List (Str × D) → List (Str × D)
  | [] => [(f, d)]
  | (g, x) :: r => if g = f then (g, d) :: r else (g, x) :: putD3 f d r
section
variable {K : PySem.W.Frag} {F H : Hp} {G : Gp} {p dx C : Addr} {fs : List (Str × D)}
theorem own_obj (c : Cp K F G H) (h : G p = some (.obj C dx fs)) : F p = none ∧ ∃ ws, H p = some (.ins C dx ws) ∧ RepF K F fs ws := c.own p _ h
theorem RepF.len : ∀ {fs : List (Str × D)} {ws : List (Str × V)}, RepF K F fs ws → fs.length = ws.length
  | _, _, .nil => rfl
  | _, _, .cons _ r => congrArg Nat.succ r.len
theorem RepF.get : ∀ {fs : List (Str × D)} {ws : List (Str × V)} {f : Str} {d : D}, RepF K F fs ws → fs.lookup f = some d → ∃ v, ws.lookup f = some v ∧ Rep K F d v
  | _, _, _, _, .nil, e => by cases e
  | (g, x) :: fs, _, f, d, .cons (v := v) (vs := vs) r t, e => by
    by_cases h : f = g
    · subst h
      have e1 : List.lookup f ((f, x) :: fs) = some x := by simp [List.lookup]
      rw [e1] at e
      cases e
      exact ⟨v, by simp [List.lookup], r⟩
    · have hb : (f == g) = false := beq_eq_false_iff_ne.mpr h
      have e1 : List.lookup f ((g, x) :: fs) = List.lookup f fs := by simp only [List.lookup, hb]
      rw [e1] at e
      obtain ⟨v2, h1, h2⟩ := t.get e
      exact ⟨v2, by simp only [List.lookup, hb]; exact h1, h2⟩
theorem RepF.none : ∀ {fs : List (Str × D)} {ws : List (Str × V)} {f : Str}, RepF K F fs ws → fs.lookup f = Option.none → ws.lookup f = Option.none
  | _, _, _, .nil, _ => rfl
  | (g, x) :: fs, _, f, .cons (v := v) (vs := vs) r t, e => by
    by_cases h : f = g
    · subst h
      have e1 : List.lookup f ((f, x) :: fs) = some x := by simp [List.lookup]
      rw [e1] at e
      cases e
    · have hb : (f == g) = false := beq_eq_false_iff_ne.mpr h
      have e1 : List.lookup f ((g, x) :: fs) = List.lookup f fs := by simp only [List.lookup, hb]
      rw [e1] at e
      simp only [List.lookup, hb]
      exact t.none e
theorem RepF.put : ∀ {fs : List (Str × D)} {ws : List (Str × V)} {f : Str} {d : D} {v : V}, RepF K F fs ws → Rep K F d v → RepF K F (putD3 f d fs) (putF f v ws)
  | _, _, _, _, _, .nil, h => .cons h .nil
  | (g, x) :: fs, _, f, d, v, .cons (v := u) (vs := vs) r t, h => by
    show RepF K F (if g = f then (g, d) :: fs else (g, x) :: putD3 f d fs) (if g = f then (g, v) :: vs else (g, u) :: putF f v vs)
    by_cases e : g = f
    · rw [if_pos e, if_pos e]
      exact .cons h t
    · rw [if_neg e, if_neg e]
      exact .cons r (t.put h)
theorem Ext.madeO (c : Cp K F G H) (hp : H p = none) (hd : H dx = none) (hne : dx ≠ p) : Ext K F G H F (gupd G p (.obj C dx [])) (upd (upd H dx (.own p)) p (.ins C dx [])) := by
  obtain ⟨fp, gp⟩ := c.free hp
  obtain ⟨fd, gd⟩ := c.free hd
  have x := Ext.made (C := C) c hp hd hne
  refine ⟨Le.refl _, fun a o e g f n => ?_, ⟨x.cp.frz, fun q o e => ?_⟩⟩
  · obtain ⟨h1, h2, h3⟩ := x.st a o e g f n
    refine ⟨h1, ?_, h3⟩
    have ha : a ≠ p := ne_of_none e hp
    rw [gupd_ne ha]
    exact g
  · by_cases hq : q = p
    · subst hq
      rw [gupd_same] at e
      cases e
      exact ⟨fp, [], upd_same, .nil⟩
    · rw [gupd_ne hq] at e
      exact x.cp.own q o (by rw [gupd_ne hq]; exact e)
/-- an own instance is looked at as a datum -/
theorem Cp.frzO (c : Cp K F G H) (hG : G p = some (.obj C dx fs)) : ∃ F', Le F F' ∧ (∀ a, a ≠ p → F' a = F a) ∧ Cp K F' (gdel G p) H ∧ Rep K F' (.obj C fs) (.ref p) := by
  obtain ⟨hF, ws, hp, rf⟩ := c.own p _ hG
  have l1 : Le F (upd F p (.ins C dx ws)) := Le.new hF
  refine ⟨upd F p (.ins C dx ws), l1, fun a ha => upd_ne ha, ⟨fun a o e => ?_, fun q o e => ?_⟩, .obj upd_same (rf.mono l1)⟩
  · by_cases ha : a = p
    · subst ha
      rw [upd_same] at e
      cases e
      exact hp
    · rw [upd_ne ha] at e
      exact c.frz a o e
  · have hq : q ≠ p := fun z => by rw [z] at e; unfold gdel at e; rw [if_pos rfl] at e; cases e
    have e2 : G q = some o := by unfold gdel at e; rwa [if_neg hq] at e
    obtain ⟨f1, r1⟩ := c.own q o e2
    refine ⟨by rw [upd_ne hq]; exact f1, r1.keep l1 rfl fun C' dx' ds' eo => ?_⟩
    subst eo
    obtain ⟨h1, h2, vs', _, zz⟩ := r1
    have np : dx' ≠ p := fun z => by
      subst z
      rcases zz with ⟨_, _, z⟩ | ⟨_, z⟩
      · rw [hp] at z; cases z
      · rw [hp] at z; cases z
    exact ⟨rfl, fun o e => h1 o (by rwa [upd_ne np] at e)⟩
/-- .. filled and looked at as a datum -/
theorem Ext.madeOF {F1 : Hp} {G1 : Gp} {H1 : Hp} (hp : H p = none) (x : Ext K F (gupd G p (.obj C dx [])) (upd (upd H dx (.own p)) p (.ins C dx [])) F1 G1 H1) (x0 : Ext K F G H F (gupd G p (.obj C dx [])) (upd (upd H dx (.own p)) p (.ins C dx [])))
    (hG : G1 p = some (.obj C dx fs)) : ∃ F2, Ext K F G H F2 (gdel G1 p) H1 ∧ Rep K F2 (.obj C fs) (.ref p) := by
  obtain ⟨F2, l, same, c2, r⟩ := x.cp.frzO hG
  refine ⟨F2, ⟨x.le.trans l, fun a o e g f n => ?_, c2⟩, r⟩
  have n1 : a ≠ p := ne_of_none e hp
  obtain ⟨e1, g1, f1⟩ := x0.st a o e g f n
  obtain ⟨e2, g2, f2⟩ := x.st a o e1 g1 f1 n
  exact ⟨e2, by unfold gdel; split <;> first | rfl | exact g2, by rw [same a n1]; exact f2⟩
end

/-! ### fields read and stored -/
structure Fl1 (K : PySem.W.Frag) (C : Addr) (f : Str) : Prop where
  c : Cls K C
  n : NoAttr K C f
section
variable {X : Cx} {K : PySem.W.Frag} {F0 : Pt} {a b e o value : Expr} {es rest : List Expr} {ta tb te tv : TE3} {t : TA3} {pos pos' p apos : Pos} {x f m : Str} {C : Addr} {i : Nat}
def getL (fs : List (Str × D)) (f : Str) (k : D → Prop) : Prop := match fs.lookup f with
  | some x => k x
  | _ => False
theorem getL_of {fs : List (Str × D)} {f : Str} {k : D → Prop} (h : getL fs f k) : ∃ x, fs.lookup f = some x ∧ k x := by
  unfold getL at h
  split at h
  · exact ⟨_, by assumption, h⟩
  · exact h.elim
def dFld (C : Addr) (f : Str) (te : TE3) : TE3 := fun sd G Q => te sd G fun d G1 => match d with
  | .obj C' fs => C' = C ∧ getL fs f fun x => Q x G1
  | .ref p => ∃ dx fs, G1 p = some (.obj C dx fs) ∧ getL fs f fun x => Q x G1
  | _ => False
theorem de_fld (k : Fl1 X.K C f) (he : DE X F0 e te) (hb : attributeBase e f X.env (eval e X.env) = eval e X.env := by rfl) : DE X F0 (.Attribute e f pos) (dFld C f te) := by
  refine PE.imp (pe_fld he hb) fun σ H Q ⟨sd, F, G, Q3, at_, h, kq⟩ => ⟨sd, F, G, _, at_, h, fun d v F1 G1 H1 l1 r1 q1 => ?_⟩
  cases d <;> first | exact q1.elim | skip
  · cases r1
    obtain ⟨dx, fs, eg, q1⟩ := q1
    obtain ⟨_, ws, hp, rf⟩ := own_obj l1.cp eg
    obtain ⟨d, ed, q⟩ := getL_of q1
    obtain ⟨v, ev, rv⟩ := rf.get ed
    exact ⟨_, C, dx, ws, v, rfl, hp, k.c, k.n, ev, kq _ _ _ _ _ l1 rv q⟩
  · obtain ⟨rfl, q1⟩ := q1
    cases r1 with
    | @obj a _ dx _ ws h1 rf =>
      obtain ⟨d, ed, q⟩ := getL_of q1
      obtain ⟨v, ev, rv⟩ := rf.get ed
      exact ⟨_, _, dx, ws, v, rfl, l1.cp.frz _ _ h1, k.c, k.n, ev, kq _ _ _ _ _ l1 rv q⟩
/-- self.f = value -/
def dFldS (C : Addr) (f : Str) (te tv : TE3) : TS3 := fun D sd G => tv sd G fun y G1 => te sd G1 fun x G2 => match x with
  | .ref p => ∃ dx fs, G2 p = some (.obj C dx fs) ∧ fs.length < 1000 ∧ D.nx sd (gupd G2 p (.obj C dx (putD3 f y fs)))
  | _ => False
theorem ds_fld (k : Fl1 X.K C f) (ho : DE X F0 o te) (hv : DE X F0 value tv) (hs : swapsWith value (some (.Attribute o f pos')) pos.line X.env = pure false := by rfl) : DS X F0 (.Assign [.Attribute o f pos'] value pos) (dFldS C f te tv) := by
  refine PS.imp (ps_fld ho hv hs) fun D σ H ⟨sd, F, G, D3, at_, h, kq⟩ => ⟨sd, F, G, _, at_, h, fun y v F1 G1 H1 l1 r1 q1 => ⟨sd, F1, G1, _, at_.step l1, q1, fun x u F2 G2 H2 l2 r2 q2 => ?_⟩⟩
  cases x <;> first | exact q2.elim | skip
  cases r2
  obtain ⟨dx, fs, eg, hl, q⟩ := q2
  obtain ⟨hF, ws, hp, rf⟩ := own_obj l2.cp eg
  have x := Ext.put (o := .ins C dx (putF f v ws)) (u := .obj C dx (putD3 f y fs)) l2.cp eg (fun x e => by rw [hp] at e; cases e) (fun e => by rw [hp] at e; cases e) (fun _ _ _ z => by cases z) ⟨_, upd_same, rf.put (r1.mono l2.le)⟩
  exact ⟨_, C, dx, ws, rfl, hp, k.c, k.n, by rw [← rf.len]; exact hl, kq.nx _ _ _ _ _ ((l1.trans l2).trans x) (((at_.step l1).step l2).step x).rs q⟩
end

/-! ### methods -/
structure MetO (P : Program) (w : World) (K : PySem.W.Frag) (mg : Str → Option Value) (base : Heap) (k : Nat) (C : Addr) (m : Str) (sp : Sp3) (dds : List D) : Prop where
  c : Cls K C
  ex : ∃ (g : Addr) (fd : FuncData) (ps : List Str) (ds : List Value) (dvs : List V), Meth K C m g ∧ FnOk P w K mg base (L2.CX P w) k g fd ps (dn K sp) ∧ Binds K fd ps ds ∧ Vals dvs ds ∧ ∀ F, RepL K F dds dvs
theorem metO {P : Program} {w : World} {K : PySem.W.Frag} {mg : Str → Option Value} {base : Heap} {qual : Str} {st : Stmt} {N ps : List Str} {k : Nat} {sp : Sp3} {C : Addr} {m : Str} (c : Cls K C) (A : MethAt K C m qual st ps) (S : FnScope N ps (defScope st)) (hlen : ps.length ≤ N.length) (len : ∀ ds G Q E, sp ds G Q E → ds.length = ps.length) (h : Body P w K mg base k qual st N sp) : MetO P w K mg base (k + 1) C m sp [] := by
  obtain ⟨g, fd, m, F, b⟩ := A.ex
  exact ⟨c, g, fd, ps, [], [], m, fn3 F S hlen len h, b, .nil, fun _ => .nil⟩
section
variable {X : Cx} {K : PySem.W.Frag} {F0 : Pt} {a b e o value : Expr} {es rest : List Expr} {te tv : TE3} {t : TA3} {pos pos' p apos : Pos} {x f m : Str} {C : Addr} {i : Nat}
def tMethO (C : Addr) (m : Str) (sp : Sp) (dvs : List V) (E : L2.St → XK) (ta : TE) (t : TA) : TE := fun σ H Q => ta σ H fun x H1 => ∃ a dx fs, x = .ref a ∧ H1 a = some (.ins C dx fs) ∧ fs.lookup m = none ∧ t σ H1 fun ws H2 => sp (x :: (ws ++ dvs)) H2 Q (E σ)
theorem pe_methO {CX : CXT} {k : Nat} {g : Addr} {sp : Sp} {E : L2.St → XK} {pl : Sem Bool} {fd : FuncData} {ps : List Str} {ds : List Value} {dvs : List V} {ta : TE} {t : TA} (he : PE X o ta) (c : Cls X.K C) (hm : Meth X.K C m g) (F : FnOk X.prog X.w X.K X.mg X.base CX k g fd ps sp) (hr : Room k X.A) (hb : Binds X.K fd ps ds) (hd : Vals dvs ds) (hx : ∀ σ, PassesAt CX X σ (E σ)) (ha : PA X (e :: es) t)
    (hst : starEach (e :: es) X.env = (false, eval e X.env) :: starEach es X.env := by rfl) (hpl : (backTo pos (starEach es X.env)).any (·.1) = false := by rfl)
    (ht : eval (.Call (.Attribute o m apos) (e :: es) [] pos) X.env = (do
      let ov ← eval o X.env
      standAt apos.atName
      let (f, first) ← holding [ov] (getMethod ov m pl)
      callWith pos f first (backTo pos (starEach (e :: es) X.env)) (backToKw pos (keywordEach [] X.env))) := by rfl) :
    PE X (.Call (.Attribute o m apos) (e :: es) [] pos) (tMethO C m sp dvs E ta t) := by
  refine ⟨fun pins s σ H Q I h => ?_⟩
  refine PySem.W.methodCall_KW (pl := pl) (thn (he.run pins s σ H _ I h) fun u s1 ⟨x, H1, I1, rx, a, dx, vs, ex, hsl, hl, q⟩ => ?_) ht
  subst ex
  obtain rfl : u = Value.ref a := rx
  refine getmeth_ok I1 hsl c hm hl ?_
  refine PySem.W.callWith_K (first := [.ref a]) (h₀ := X.base) I1.ok.mod.kin hm.kp (thn (ha.run pos pins s1 σ H1 _ I1 q) fun us s2 ⟨ws, H2, I2, r, q2⟩ => ⟨I2.kIn, ?_⟩) hst hpl
  exact run_fnSD (us := .ref a :: us) (vs := .ref a :: ws) F hr hb hd (hx σ) I2 (.cons rfl r) q2
theorem pe_methO0 {CX : CXT} {k : Nat} {g : Addr} {sp : Sp} {E : L2.St → XK} {pl : Sem Bool} {fd : FuncData} {ps : List Str} {ds : List Value} {dvs : List V} {ta : TE} (he : PE X o ta) (c : Cls X.K C) (hm : Meth X.K C m g) (F : FnOk X.prog X.w X.K X.mg X.base CX k g fd ps sp) (hr : Room k X.A) (hb : Binds X.K fd ps ds) (hd : Vals dvs ds) (hx : ∀ σ, PassesAt CX X σ (E σ))
    (ht : eval (.Call (.Attribute o m apos) [] [] pos) X.env = (do
      let ov ← eval o X.env
      standAt apos.atName
      let (f, first) ← holding [ov] (getMethod ov m pl)
      callWith pos f first (backTo pos (starEach [] X.env)) (backToKw pos (keywordEach [] X.env))) := by rfl) :
    PE X (.Call (.Attribute o m apos) [] [] pos) (tMethO C m sp dvs E ta tNil) := by
  refine ⟨fun pins s σ H Q I h => ?_⟩
  refine PySem.W.methodCall_KW (pl := pl) (thn (he.run pins s σ H _ I h) fun u s1 ⟨x, H1, I1, rx, a, dx, vs, ex, hsl, hl, q⟩ => ?_) ht
  subst ex
  obtain rfl : u = Value.ref a := rx
  refine getmeth_ok I1 hsl c hm hl ?_
  exact PySem.W.callWith_K0 (first := [.ref a]) I1.kIn hm.kp (run_fnSD (us := [.ref a]) (vs := [.ref a]) F hr hb hd (hx σ) I1 (.cons rfl .nil) q)
/-- o.m(e, ..); m is no field of its own -/
def dMethO (C : Addr) (m : Str) (sp : Sp3) (dds : List D) (W : WK) (te : TE3) (t : TA3) : TE3 := fun sd G Q => te sd G fun d G1 => match d with
  | .obj C' fs => C' = C ∧ fs.lookup m = none ∧ t sd G1 fun xs G2 => sp (.obj C' fs :: (xs ++ dds)) G2 Q fun C fs G3 => W C fs sd G3
  | .ref p => (∃ dx fs, G1 p = some (.obj C dx fs) ∧ fs.lookup m = none) ∧ t sd G1 fun xs G2 => sp (.ref p :: (xs ++ dds)) G2 Q fun C fs G3 => W C fs sd G3
  | _ => False
theorem low_methO {sp : Sp3} {dds : List D} {dvs : List V} {W : WK} (rd : ∀ F, RepL K F dds dvs) {σ : L2.St} {H : Hp} {Q : VK} (h : low K F0 (dMethO C m sp dds W te t) σ H Q) : tMethO C m (dn K sp) dvs (fun σ cls d H => lowW K F0 W cls d σ H) (low K F0 te) (lowA K F0 t) σ H Q := by
  obtain ⟨sd, F, G, Q3, at_, h, k⟩ := h
  refine ⟨sd, F, G, _, at_, h, fun d v F1 G1 H1 l1 r1 q1 => ?_⟩
  cases d <;> first | exact q1.elim | skip
  · cases r1
    obtain ⟨⟨dx, fs, eg, el⟩, q1⟩ := q1
    obtain ⟨_, ws, hp, rf⟩ := own_obj l1.cp eg
    exact ⟨_, dx, ws, rfl, hp, rf.none el, sd, F1, G1, _, at_.step l1, q1, fun xs us F2 G2 H2 l2 r2 q2 => ⟨_, F2, G2, Q3, _, l2.cp, .cons (.ref _) (r2.append (rd F2)), q2, k.mono (l1.trans l2), low_w ((at_.step l1).step l2)⟩⟩
  · obtain ⟨rfl, el, q1⟩ := q1
    cases r1 with
    | @obj a _ dx _ ws h1 rf => exact ⟨_, dx, ws, rfl, l1.cp.frz _ _ h1, rf.none el, sd, F1, G1, _, at_.step l1, q1, fun xs us F2 G2 H2 l2 r2 q2 => ⟨_, F2, G2, Q3, _, l2.cp, .cons ((Rep.obj h1 rf).mono l2.le) (r2.append (rd F2)), q2, k.mono (l1.trans l2), low_w ((at_.step l1).step l2)⟩⟩
theorem de_methO {k j : Nat} {sp : Sp3} {dds : List D} {W : WK} {pl : Sem Bool} (c : MetO X.prog X.w X.K X.mg X.base k C m sp dds) (hr : Room j X.A) (tk : Takes X (lowW X.K F0 W)) (ho : DE X F0 o te) (ha : DA X F0 (e :: es) t) (hk : k ≤ j := by decide)
    (hst : starEach (e :: es) X.env = (false, eval e X.env) :: starEach es X.env := by rfl) (hpl : (backTo pos (starEach es X.env)).any (·.1) = false := by rfl)
    (ht : eval (.Call (.Attribute o m apos) (e :: es) [] pos) X.env = (do
      let ov ← eval o X.env
      standAt apos.atName
      let (f, first) ← holding [ov] (getMethod ov m pl)
      callWith pos f first (backTo pos (starEach (e :: es) X.env)) (backToKw pos (keywordEach [] X.env))) := by rfl) :
    DE X F0 (.Call (.Attribute o m apos) (e :: es) [] pos) (dMethO C m sp dds W te t) := by
  obtain ⟨g, fd, ps, ds, dvs, hm, F, hb, hd, rd⟩ := c.ex
  exact PE.imp (pe_methO (E := fun σ cls d H => lowW X.K F0 W cls d σ H) ho c.c hm F (hr.mono hk) hb hd (fun σ => passAt tk σ) ha hst hpl ht) fun _ _ _ h => low_methO rd h
theorem de_methO0 {k j : Nat} {sp : Sp3} {dds : List D} {W : WK} {pl : Sem Bool} (c : MetO X.prog X.w X.K X.mg X.base k C m sp dds) (hr : Room j X.A) (tk : Takes X (lowW X.K F0 W)) (ho : DE X F0 o te) (hk : k ≤ j := by decide)
    (ht : eval (.Call (.Attribute o m apos) [] [] pos) X.env = (do
      let ov ← eval o X.env
      standAt apos.atName
      let (f, first) ← holding [ov] (getMethod ov m pl)
      callWith pos f first (backTo pos (starEach [] X.env)) (backToKw pos (keywordEach [] X.env))) := by rfl) :
    DE X F0 (.Call (.Attribute o m apos) [] [] pos) (dMethO C m sp dds W te dNil) := by
  obtain ⟨g, fd, ps, ds, dvs, hm, F, hb, hd, rd⟩ := c.ex
  refine PE.imp (pe_methO0 (E := fun σ cls d H => lowW X.K F0 W cls d σ H) ho c.c hm F (hr.mono hk) hb hd (fun σ => passAt tk σ) ht) fun σ H Q h => ?_
  obtain ⟨sd, F, G, Q3, at_, h, kq⟩ := low_methO (t := dNil) rd h
  exact ⟨sd, F, G, Q3, at_, h, fun d v F1 G1 H1 l1 r1 q1 => let ⟨a, dx, vs, ea, sl, hl, q⟩ := kq d v F1 G1 H1 l1 r1 q1; ⟨a, dx, vs, ea, sl, hl, by
    obtain ⟨sd, F, G, R3, at_, h, kr⟩ := q
    exact kr _ _ _ _ _ (Ext.refl at_.cp) .nil h⟩⟩
end

/-! ### properties -/
structure ProO (P : Program) (w : World) (K : PySem.W.Frag) (mg : Str → Option Value) (base : Heap) (k : Nat) (C : Addr) (f : Str) (sp : Sp3) : Prop where
  c : Cls K C
  ex : ∃ p g fd, PropOf K C f p g ∧ FnOk P w K mg base (L2.CX P w) k g fd ["self"] (dn K sp) ∧ Binds K fd ["self"] []
theorem proO {P : Program} {w : World} {K : PySem.W.Frag} {mg : Str → Option Value} {base : Heap} {qual f : Str} {st : Stmt} {N : List Str} {k : Nat} {sp : Sp3} {C : Addr} (c : Cls K C) (A : PropAt K C f qual st) (S : FnScope N ["self"] (defScope st)) (hlen : 1 ≤ N.length) (len : ∀ ds G Q E, sp ds G Q E → ds.length = 1) (h : Body P w K mg base k qual st N sp) : ProO P w K mg base (k + 1) C f sp := by
  obtain ⟨p, g, fd, e1, e2, e3, e4, F, b⟩ := A.ex
  exact ⟨c, p, g, fd, ⟨e1, e2, e3, e4⟩, fn3 F S hlen len h, b⟩
section
variable {X : Cx} {F0 : Pt} {e : Expr} {te : TE3} {pos : Pos} {f : Str} {C : Addr}
def dPropO (C : Addr) (sp : Sp3) (te : TE3) : TE3 := fun sd G Q => te sd G fun d G1 => match d with
  | .obj C' fs => C' = C ∧ sp [.obj C' fs] G1 Q NoE
  | .ref p => (∃ dx fs, G1 p = some (.obj C dx fs)) ∧ sp [.ref p] G1 Q NoE
  | _ => False
theorem de_propO {k j : Nat} {sp : Sp3} (c : ProO X.prog X.w X.K X.mg X.base k C f sp) (hr : Room j X.A) (he : DE X F0 e te) (hk : k + 1 ≤ j := by decide) (hb : attributeBase e f X.env (eval e X.env) = eval e X.env := by rfl) : DE X F0 (.Attribute e f pos) (dPropO C sp te) := by
  obtain ⟨pp, g, fd, P, F, bd⟩ := c.ex
  refine PE.imp (pe_prop (E := fun _ _ _ => False) he c.c P F (hr.mono hk) bd .nil (fun pins σ H s e s' I h => cx_none h) hb) fun σ H Q ⟨sd, F, G, Q3, at_, h, kq⟩ => ⟨sd, F, G, _, at_, h, fun d v F1 G1 H1 l1 r1 q1 => ?_⟩
  cases d <;> first | exact q1.elim | skip
  · cases r1
    obtain ⟨⟨dx, fs, eg⟩, q1⟩ := q1
    obtain ⟨_, ws, hp, rf⟩ := own_obj l1.cp eg
    exact ⟨_, dx, _, rfl, hp, _, F1, G1, Q3, NoE, l1.cp, .one (.ref _), q1, kq.mono l1, qx_none⟩
  · obtain ⟨rfl, q1⟩ := q1
    cases r1 with
    | @obj a _ dx _ ws h1 rf => exact ⟨_, dx, _, rfl, l1.cp.frz _ _ h1, _, F1, G1, Q3, NoE, l1.cp, .one (.obj h1 rf), q1, kq.mono l1, qx_none⟩
end

/-! ### making -/
section
variable {X : Cx} {K : PySem.W.Frag} {F0 : Pt} {a b e o value : Expr} {es rest : List Expr} {ta tb te tv : TE3} {t tw : TA3} {pos pos' p apos kpos : Pos} {x f m : Str} {C : Addr} {i k j n : Nat} {kws : List Keyword} {nm : Option Str} {qual : Str} {st : Stmt} {ps : List Str} {sp : Sp3} {W : WK}
/-- C(e, .., k = v, ..), filled and looked at as a datum -/
def dMakeO (C : Addr) (n m : Nat) (perm : List Nat) (sp : Sp3) (W : WK) (t tk : TA3) : TE3 := fun sd G Q => t sd G fun xs G1 => tk sd G1 fun zs G2 => match lenIs n xs, lenIs m zs with
  | true, true => ∀ p dx, G2 p = none → sp (pk perm ((.ref p :: xs) ++ zs)) (gupd G2 p (.obj C dx [])) (fun d G3 => d = .non ∧ ∃ fs, G3 p = some (.obj C dx fs) ∧ Q (.obj C fs) (gdel G3 p)) fun C fs G3 => W C fs sd G3
  | _, _ => False
theorem low_makeO {F : Hp} {G : Gp} {σ : L2.St} {H : Hp} {Q : VK} {Q3 : DK} {sd : St3} {xs zs : List D} {vs us : List V} {perm : List Nat} (at_ : At K F0 F sd G σ H) (r1 : RepL K F xs vs) (r2 : RepL K F zs us) (kq : QR K F G H Q3 Q)
    (q : ∀ p dx, G p = none → sp (pk perm ((.ref p :: xs) ++ zs)) (gupd G p (.obj C dx [])) (fun d G3 => d = .non ∧ ∃ fs, G3 p = some (.obj C dx fs) ∧ Q3 (.obj C fs) (gdel G3 p)) fun C fs G3 => W C fs sd G3)
    (x dx : Addr) (hx : H x = none) (hd : H dx = none) (hne : dx ≠ x) : dn K sp (pk perm ((.ref x :: vs) ++ us)) (upd (upd H dx (.own x)) x (.ins C dx [])) (fun v H3 => v = .non ∧ Q (.ref x) H3) (fun cls d H => lowW K F0 W cls d σ H) := by
  have x0 := Ext.madeO (C := C) at_.cp hx hd hne
  refine ⟨_, F, _, _, _, x0.cp, pk_repL ((RepL.cons (.ref x) r1).append r2) perm, q x dx (at_.cp.free hx).2, fun d v F' G' H' l r ⟨ed, fs, eg, q3⟩ => ?_, low_w (at_.step x0)⟩
  subst ed
  cases r
  obtain ⟨F2, x2, r⟩ := Ext.madeOF hx l x0 eg
  exact ⟨rfl, kq _ _ _ _ _ x2 r q3⟩
theorem de_makeO {ks : List Str} (perm : List Nat) (c : Mak3 X.prog X.w X.K X.mg X.base k x C qual st ps sp) (hr : Room j X.A) (tk : Takes X (lowW X.K F0 W)) (ha : DA X F0 (e :: es) t) (hkw : DK3 X F0 kws tw)
    (hb : ∀ (kV doc pm : Value) (an : Option Addr) (cdv ct : Value) (us ws : List Value), us.length = (e :: es).length + 1 → ws.length = ks.length → bindArgs (PySem.W.fnOf "__init__" qual (defArgs st) (defBody st) (defScope st) .none kV doc pm an cdv ct) ⟨us, ks.zip ws⟩ = pure (ps.zip (pk perm (us ++ ws))))
    (hk : k + 1 ≤ j := by decide) (hg : Gl X x := by rfl) (hall : (backToKw pos (keywordEach kws X.env)).all (·.1.isSome) = true := by rfl) (hks : (backToKw pos (keywordEach kws X.env)).filterMap (·.1) = ks := by rfl)
    (hdb : (x == ("__debug__" : Str)) = false := by decide) (he : starEach (e :: es) X.env = (false, eval e X.env) :: starEach es X.env := by rfl) (hpl : ((backTo pos (starEach (e :: es) X.env)).any (·.1) || (backToKw pos (keywordEach kws X.env)).any (·.1.isNone)) = false := by rfl) :
    DE X F0 (.Call (.Name x p) (e :: es) kws pos) (dMakeO C (e :: es).length ks.length perm sp W t tw) := by
  obtain ⟨f, fd, M, F, m, h⟩ := c.ex
  refine PE.imp (pe_makeE (E := fun σ cls d H => lowW X.K F0 W cls d σ H) M h (hr.mono hk) hg m (kbn F hb) (fun σ => passAt tk σ) ha hkw hall hks hdb he hpl) fun σ H Q ⟨sd, F, G, Q3, at_, h, kq⟩ => ?_
  refine ⟨sd, F, G, _, at_, h, fun xs vs F1 G1 H1 l1 r1 q1 => ⟨sd, F1, G1, _, at_.step l1, q1, fun zs us F2 G2 H2 l2 r2 q2 => ?_⟩⟩
  split at q2
  · rename_i e1 e2
    exact ⟨by rw [← r1.length]; exact lenIs_ok e1, by rw [← r2.length]; exact lenIs_ok e2, low_makeO ((at_.step l1).step l2) (r1.mono l2.le) r2 (kq.mono (l1.trans l2)) q2⟩
  · exact q2.elim
theorem de_makeO0 {ks : List Str} (perm : List Nat) (c : Mak3 X.prog X.w X.K X.mg X.base k x C qual st ps sp) (hr : Room j X.A) (tk : Takes X (lowW X.K F0 W)) (hkw : DK3 X F0 kws tw)
    (hb : ∀ (kV doc pm : Value) (an : Option Addr) (cdv ct : Value) (us ws : List Value), us.length = 1 → ws.length = ks.length → bindArgs (PySem.W.fnOf "__init__" qual (defArgs st) (defBody st) (defScope st) .none kV doc pm an cdv ct) ⟨us, ks.zip ws⟩ = pure (ps.zip (pk perm (us ++ ws))))
    (hk : k + 1 ≤ j := by decide) (hg : Gl X x := by rfl) (hall : (backToKw pos (keywordEach kws X.env)).all (·.1.isSome) = true := by rfl) (hks : (backToKw pos (keywordEach kws X.env)).filterMap (·.1) = ks := by rfl)
    (hdb : (x == ("__debug__" : Str)) = false := by decide) (hpl : ((backTo pos (starEach [] X.env)).any (·.1) || (backToKw pos (keywordEach kws X.env)).any (·.1.isNone)) = false := by rfl) :
    DE X F0 (.Call (.Name x p) [] kws pos) (dMakeO C 0 ks.length perm sp W dNil tw) := by
  obtain ⟨f, fd, M, F, m, h⟩ := c.ex
  refine PE.imp (pe_makeE0 (E := fun σ cls d H => lowW X.K F0 W cls d σ H) M h (hr.mono hk) hg m (kbn F hb) (fun σ => passAt tk σ) hkw hall hks hdb hpl) fun σ H Q ⟨sd, F, G, Q3, at_, h, kq⟩ => ?_
  refine ⟨sd, F, G, _, at_, h, fun zs us F2 G2 H2 l2 r2 q2 => ?_⟩
  split at q2
  · rename_i e1 e2
    exact ⟨rfl, by rw [← r2.length]; exact lenIs_ok e2, low_makeO (at_.step l2) .nil r2 (kq.mono l2) q2⟩
  · exact q2.elim
/-- C(e, .., k = v, ..), that stays mutable -/
def dMakeW (C : Addr) (n m : Nat) (perm : List Nat) (sp : Sp3) (W : WK) (t tk : TA3) : TE3 := fun sd G Q => t sd G fun xs G1 => tk sd G1 fun zs G2 => match lenIs n xs, lenIs m zs with
  | true, true => ∀ p dx, G2 p = none → sp (pk perm ((.ref p :: xs) ++ zs)) (gupd G2 p (.obj C dx [])) (fun d G3 => d = .non ∧ Q (.ref p) G3) fun C fs G3 => W C fs sd G3
  | _, _ => False
theorem low_makeW {F : Hp} {G : Gp} {σ : L2.St} {H : Hp} {Q : VK} {Q3 : DK} {sd : St3} {xs zs : List D} {vs us : List V} {perm : List Nat} (at_ : At K F0 F sd G σ H) (r1 : RepL K F xs vs) (r2 : RepL K F zs us) (kq : QR K F G H Q3 Q)
    (q : ∀ p dx, G p = none → sp (pk perm ((.ref p :: xs) ++ zs)) (gupd G p (.obj C dx [])) (fun d G3 => d = .non ∧ Q3 (.ref p) G3) fun C fs G3 => W C fs sd G3)
    (x dx : Addr) (hx : H x = none) (hd : H dx = none) (hne : dx ≠ x) : dn K sp (pk perm ((.ref x :: vs) ++ us)) (upd (upd H dx (.own x)) x (.ins C dx [])) (fun v H3 => v = .non ∧ Q (.ref x) H3) (fun cls d H => lowW K F0 W cls d σ H) := by
  have x0 := Ext.madeO (C := C) at_.cp hx hd hne
  refine ⟨_, F, _, _, _, x0.cp, pk_repL ((RepL.cons (.ref x) r1).append r2) perm, q x dx (at_.cp.free hx).2, fun d v F' G' H' l r ⟨ed, q3⟩ => ?_, low_w (at_.step x0)⟩
  subst ed
  cases r
  exact ⟨rfl, kq _ _ _ _ _ (x0.trans l) (.ref _) q3⟩
theorem de_makeW {ks : List Str} (perm : List Nat) (c : Mak3 X.prog X.w X.K X.mg X.base k x C qual st ps sp) (hr : Room j X.A) (tk : Takes X (lowW X.K F0 W)) (ha : DA X F0 (e :: es) t) (hkw : DK3 X F0 kws tw)
    (hb : ∀ (kV doc pm : Value) (an : Option Addr) (cdv ct : Value) (us ws : List Value), us.length = (e :: es).length + 1 → ws.length = ks.length → bindArgs (PySem.W.fnOf "__init__" qual (defArgs st) (defBody st) (defScope st) .none kV doc pm an cdv ct) ⟨us, ks.zip ws⟩ = pure (ps.zip (pk perm (us ++ ws))))
    (hk : k + 1 ≤ j := by decide) (hg : Gl X x := by rfl) (hall : (backToKw pos (keywordEach kws X.env)).all (·.1.isSome) = true := by rfl) (hks : (backToKw pos (keywordEach kws X.env)).filterMap (·.1) = ks := by rfl)
    (hdb : (x == ("__debug__" : Str)) = false := by decide) (he : starEach (e :: es) X.env = (false, eval e X.env) :: starEach es X.env := by rfl) (hpl : ((backTo pos (starEach (e :: es) X.env)).any (·.1) || (backToKw pos (keywordEach kws X.env)).any (·.1.isNone)) = false := by rfl) :
    DE X F0 (.Call (.Name x p) (e :: es) kws pos) (dMakeW C (e :: es).length ks.length perm sp W t tw) := by
  obtain ⟨f, fd, M, F, m, h⟩ := c.ex
  refine PE.imp (pe_makeE (E := fun σ cls d H => lowW X.K F0 W cls d σ H) M h (hr.mono hk) hg m (kbn F hb) (fun σ => passAt tk σ) ha hkw hall hks hdb he hpl) fun σ H Q ⟨sd, F, G, Q3, at_, h, kq⟩ => ?_
  refine ⟨sd, F, G, _, at_, h, fun xs vs F1 G1 H1 l1 r1 q1 => ⟨sd, F1, G1, _, at_.step l1, q1, fun zs us F2 G2 H2 l2 r2 q2 => ?_⟩⟩
  split at q2
  · rename_i e1 e2
    exact ⟨by rw [← r1.length]; exact lenIs_ok e1, by rw [← r2.length]; exact lenIs_ok e2, low_makeW ((at_.step l1).step l2) (r1.mono l2.le) r2 (kq.mono (l1.trans l2)) q2⟩
  · exact q2.elim
theorem de_makeW0 {ks : List Str} (perm : List Nat) (c : Mak3 X.prog X.w X.K X.mg X.base k x C qual st ps sp) (hr : Room j X.A) (tk : Takes X (lowW X.K F0 W)) (hkw : DK3 X F0 kws tw)
    (hb : ∀ (kV doc pm : Value) (an : Option Addr) (cdv ct : Value) (us ws : List Value), us.length = 1 → ws.length = ks.length → bindArgs (PySem.W.fnOf "__init__" qual (defArgs st) (defBody st) (defScope st) .none kV doc pm an cdv ct) ⟨us, ks.zip ws⟩ = pure (ps.zip (pk perm (us ++ ws))))
    (hk : k + 1 ≤ j := by decide) (hg : Gl X x := by rfl) (hall : (backToKw pos (keywordEach kws X.env)).all (·.1.isSome) = true := by rfl) (hks : (backToKw pos (keywordEach kws X.env)).filterMap (·.1) = ks := by rfl)
    (hdb : (x == ("__debug__" : Str)) = false := by decide) (hpl : ((backTo pos (starEach [] X.env)).any (·.1) || (backToKw pos (keywordEach kws X.env)).any (·.1.isNone)) = false := by rfl) :
    DE X F0 (.Call (.Name x p) [] kws pos) (dMakeW C 0 ks.length perm sp W dNil tw) := by
  obtain ⟨f, fd, M, F, m, h⟩ := c.ex
  refine PE.imp (pe_makeE0 (E := fun σ cls d H => lowW X.K F0 W cls d σ H) M h (hr.mono hk) hg m (kbn F hb) (fun σ => passAt tk σ) hkw hall hks hdb hpl) fun σ H Q ⟨sd, F, G, Q3, at_, h, kq⟩ => ?_
  refine ⟨sd, F, G, _, at_, h, fun zs us F2 G2 H2 l2 r2 q2 => ?_⟩
  split at q2
  · rename_i e1 e2
    exact ⟨rfl, by rw [← r2.length]; exact lenIs_ok e2, low_makeW (at_.step l2) .nil r2 (kq.mono l2) q2⟩
  · exact q2.elim
end
end L3
set_option Elab.async false
set_option linter.all false
set_option maxRecDepth 100000
set_option maxHeartbeats 4000000
/-! ranges of any bounds -/
namespace L3
open PySem PySem.Spec PyProof.Rows L2 PySem.Calls
section
variable {prog : Program} {w : World} {A : Around} {E : Value → Shared → Prop} {s : Shared} {r : Addr} {a b c : Int} {t u v : Tok} {n : Nat}
theorem extend_long {R : Result → Shared → Prop} (hh : A.handled = none) (hr : IsRange s.heap r a b c t u v) (hbig : Builtin.Range.small a b c = false)
    (hn : Builtin.Range.rangeSize a b c = n) (hlen : n ≤ 2 ^ 24) (S : Addr) (res : Value) (c₀ : Nat) (hS : s.heap.get? S = some { cls := .type "list", data := .seq #[] c₀ })
    (hR : ∀ h' tk acc' c', (∀ b o, b ≠ S → s.heap.get? b = some o → h'.get? b = some o) → h'.get? S = some { cls := .type "list", dict := none, data := .seq acc' c', slots := #[] } →
      ItemsOf (fun i v => ∃ t, v = .int (a + i * c) t) acc' n → R (.ok (.ret res)) { s with heap := h', toks := tk }) :
    wpAny (model prog w) A.in1 (Builtin.List.listExtendWith (.ref S) (.ref r) res)
      (fun fin s' => match fin with | .done f => R (.ok f) s' | .again c' => c'.quiet = true ∧ codeAny (model prog w) A c' R s') (fun e s' => R (.error e) s') s := by
  have hSr : S ≠ r := fun e => by rw [e, hr] at hS; simp at hS
  have hSI : S ≠ s.heap.objs.size := Nat.ne_of_lt (Heap.lt_size hS)
  have hSf : S ∉ [s.heap.objs.size] := fun hm => hSI (List.mem_singleton.mp hm)
  have W := (Walks.longrange (prog := prog) (w := w) (A := A.in1) hh s.heap.objs.size a c n).toS
  have key : ∀ (h : Heap) (c₁ tk : Nat), IsLongIter h s.heap.objs.size (a + ((0 : Nat) : Int) * c) ((n : Int) - ((0 : Nat) : Int)) c → (∀ b o, b ≠ S → s.heap.get? b = some o → h.get? b = some o) →
      h.get? S = some { cls := .type "list", data := .seq #[] c₁ } → codeAny (model prog w) A (.builtin "list.extend.loop" ⟨[.ref S, .ref s.heap.objs.size, res], []⟩) R { s with heap := h, toks := tk } := by
    intro h c₁ tk hit hk hS₁
    refine codeAny_extend_loopS W (by rw [sizeLine_eq]; omega) S hSf res n 0 _ #[] c₁ rfl (Nat.zero_le _) hit hS₁ (ItemsOf.nil _) fun s' acc' c' hm hS' hacc => ?_
    rw [Moved.eq_with hm]
    refine hR s'.heap s'.toks acc' c' (fun b o hb e => hm.heap b o (fun hmem => ?_) (hk b o hb e)) hS' hacc
    rcases List.mem_cons.mp hmem with e' | hmem
    · exact hb e'
    · exact absurd (Heap.lt_size e) (by rw [List.mem_singleton.mp hmem]; exact Nat.lt_irrefl _)
  unfold Builtin.List.listExtendWith
  refine wpAny_bind (wpAny_typeOf (T := "range") ⟨_, hr, rfl⟩ ?_)
  have h1 : Builtin.List.listSameRef (.ref S) (.ref r) = false := by simp [Builtin.List.listSameRef, hSr]
  have h2 : (Value.type "range" == Value.type "list") = false := by decide
  have h3 : (Value.type "range" == Value.type "tuple") = false := by decide
  simp only [h1, h2, h3, Bool.or_false, Bool.false_eq_true, if_false]
  refine wpAny_bind (wpAny_pyIter_longrange hr hbig ?_)
  refine wpAny_bind (wpAny_holding (wpAny_hint_range (n := n) (Heap.get?_push_of_some _ hr) hn hlen ?_))
  have hit₁ : IsLongIter (s.heap.push { cls := .type "longrange_iterator", data := .fields #[rawInt a, rawInt (Builtin.Range.rangeSize a b c), rawInt c] }) s.heap.objs.size (a + ((0 : Nat) : Int) * c) ((n : Int) - ((0 : Nat) : Int)) c := by
    show IsLongIter _ _ _ _ _; rw [hn]; simpa using Heap.get?_push_size _ rfl
  have hS₁ := Heap.get?_push_of_some { cls := .type "longrange_iterator", data := .fields #[rawInt a, rawInt (Builtin.Range.rangeSize a b c), rawInt c] } hS
  refine wpAny_ite_split (fun _ => ?_) (fun _ => wpAny_pure ⟨plainId_quiet F.plain_extend_loop _, key _ c₀ _ hit₁ (fun b o _ e => Heap.get?_push_of_some _ e) hS₁⟩)
  refine wpAny_bind (wpAny_rule ?_)
  refine wpAny_bind ?_
  show wpAny _ _ (updateSeq S (·.push .none) >>= fun _ => updateSeq S (·.pop)) _ _ _
  refine wpAny_bind (wpAny_updateSeq hS₁ rfl ?_)
  have hS₂ := Heap.get?_update_self (Obj.mapSeq (·.push Value.none)) hS₁ rfl
  refine wpAny_updateSeq (hz := by seq_fits) hS₂ rfl ?_
  have hS₃ := Heap.get?_update_self (Obj.mapSeq (·.pop)) hS₂ rfl
  refine wpAny_pure ⟨plainId_quiet F.plain_extend_loop _, key _ _ _ ?_ (fun b o hb e => ?_) hS₃⟩
  · exact (Heap.get?_update_other _ _ hSI).trans ((Heap.get?_update_other _ _ hSI).trans hit₁)
  · exact (Heap.get?_update_other _ _ (Ne.symm hb)).trans ((Heap.get?_update_other _ _ (Ne.symm hb)).trans (Heap.get?_push_of_some _ e))
theorem extend_rg {R : Result → Shared → Prop} (hh : A.handled = none) (hr : IsRange s.heap r a b c t u v)
    (hn : Builtin.Range.rangeSize a b c = n) (hlen : n ≤ 2 ^ 24) (S : Addr) (res : Value) (c₀ : Nat) (hS : s.heap.get? S = some { cls := .type "list", data := .seq #[] c₀ })
    (hR : ∀ h' tk acc' c', (∀ b o, b ≠ S → s.heap.get? b = some o → h'.get? b = some o) → h'.get? S = some { cls := .type "list", dict := none, data := .seq acc' c', slots := #[] } →
      ItemsOf (fun i v => ∃ t, v = .int (a + i * c) t) acc' n → R (.ok (.ret res)) { s with heap := h', toks := tk }) :
    wpAny (model prog w) A.in1 (Builtin.List.listExtendWith (.ref S) (.ref r) res)
      (fun fin s' => match fin with | .done f => R (.ok f) s' | .again c' => c'.quiet = true ∧ codeAny (model prog w) A c' R s') (fun e s' => R (.error e) s') s := by
  cases h : Builtin.Range.small a b c with
  | true => exact wpAny_extend_range hh hr h hn hlen S res c₀ hS hR
  | false => exact extend_long hh hr h hn hlen S res c₀ hS hR
theorem collect_rg {Q : List Value → Shared → Prop} (hh : A.handled = none) (hr : IsRange s.heap r a b c t u v) (hn : Builtin.Range.rangeSize a b c = n) (hlen : n ≤ 2 ^ 24)
    (hQ : ∀ (h' : Heap) (tk : Nat) (acc : Array Value), (∀ b o, s.heap.get? b = some o → h'.get? b = some o) → ItemsOf (fun i v => ∃ t, v = .int (a + i * c) t) acc n → Q acc.toList { s with heap := h', toks := tk }) :
    wpAny (model prog w) A (collect (.ref r)) Q E s := by
  unfold collect
  refine wpAny_bind (wpAny_runValue (codeAny_builtin F.entry_proto_collect ?_))
  rw [Around.under_plainId F.plain_proto_collect _]
  show wpAny _ A.in1 (newList [] >>= fun l => again (.builtin "list.__iadd__" ⟨[l, .ref r], []⟩)) _ _ s
  refine wpAny_bind (wpAny_newObj_type ?_)
  refine wpAny_pure ⟨plainId_quiet F.plain_list_iadd _, codeAny_builtin F.entry_list_iadd ?_⟩
  rw [Around.under_plainId F.plain_list_iadd _]
  show wpAny _ A.in1 (Builtin.List.listExtendWith (.ref s.heap.objs.size) (.ref r) (.ref s.heap.objs.size)) _ _ _
  have hS : (s.heap.push { cls := .type "list", data := .seq ([] : List Value).toArray }).get? s.heap.objs.size = some { cls := .type "list", data := .seq #[] 0 } := Heap.get?_push_size _ rfl
  refine wpAny_mono (extend_rg (A := A) (R := fun rr s' => rr = .ok (.ret (.ref s.heap.objs.size)) ∧ ∃ (h' : Heap) (tk : Nat) (acc : Array Value) (c' : Nat), s' = { s with heap := h', toks := tk } ∧
      (∀ b o, s.heap.get? b = some o → h'.get? b = some o) ∧ h'.get? s.heap.objs.size = some { cls := .type "list", dict := none, data := .seq acc c', slots := #[] } ∧ ItemsOf (fun i v => ∃ t, v = .int (a + i * c) t) acc n)
    (s := { s with heap := s.heap.push { cls := .type "list", data := .seq ([] : List Value).toArray } }) hh (Heap.get?_push_of_some _ hr) hn hlen _ _ 0 hS
    (fun h' tk acc c' hk e hi => ⟨rfl, h', tk, acc, c', rfl, fun b o q => hk b o (Nat.ne_of_lt (Heap.lt_size q)) (Heap.get?_push_of_some _ q), e, hi⟩)) (fun fin s' h => ?_) (fun e s' h => ?_)
  · cases fin with
    | done f =>
      obtain ⟨e, h', tk, acc, c', rfl, hk, hS', hi⟩ := h
      cases e
      show wpAny _ A (load s.heap.objs.size >>= _) _ _ _
      exact wpAny_bind (wpAny_load hS' (wpAny_pure (hQ h' tk acc hk hi)))
    | again c' =>
      refine ⟨h.1, codeAny_mono h.2 fun rr s'' hr' => ?_⟩
      obtain ⟨rfl, h', tk, acc, c', rfl, hk, hS', hi⟩ := hr'
      show wpAny _ A (load s.heap.objs.size >>= _) _ _ _
      exact wpAny_bind (wpAny_load hS' (wpAny_pure (hQ h' tk acc hk hi)))
  · exact absurd h.1 (by simp)
theorem init_rg {R : Result → Shared → Prop} (hh : A.handled = none) (hr : IsRange s.heap r a b c t u v)
    (hn : Builtin.Range.rangeSize a b c = n) (hlen : n ≤ 2 ^ 24) (S : Addr) (hS : s.heap.get? S = some { cls := .type "list", data := .seq #[] })
    (hR : ∀ h' tk acc' c', (∀ b o, b ≠ S → s.heap.get? b = some o → h'.get? b = some o) → h'.get? S = some { cls := .type "list", dict := none, data := .seq acc' c', slots := #[] } →
      ItemsOf (fun i v => ∃ t, v = .int (a + i * c) t) acc' n → R (.ok (.ret .none)) { s with heap := h', toks := tk }) :
    wpAny (model prog w) A.in1 (Builtin.«list.__init__» ⟨[.ref S, .ref r], []⟩)
      (fun fin s' => match fin with | .done f => R (.ok f) s' | .again c' => c'.quiet = true ∧ codeAny (model prog w) A c' R s') (fun e s' => R (.error e) s') s := by
  have hSr : S ≠ r := fun e => by rw [e, hr] at hS; simp at hS
  show wpAny _ _ (do let old ← Builtin.List.listItems (.ref S); Builtin.List.listUpdate (.ref S) (fun _ => #[]); letGo old.toList.reverse; Builtin.List.listExtendWith (.ref S) (.ref r) .none) _ _ s
  refine wpAny_bind ?_
  unfold Builtin.List.listItems
  refine wpAny_bind (wpAny_seqItems hS rfl (wpAny_pure ?_))
  show wpAny _ _ (updateSeq S (fun _ => #[]) >>= fun _ => letGo (#[] : Array Value).toList.reverse >>= fun _ => Builtin.List.listExtendWith (.ref S) (.ref r) .none) _ _ s
  refine wpAny_bind (wpAny_updateSeq hS rfl ?_)
  have hS₂ := Heap.get?_update_self (Obj.mapSeq (fun _ => (#[] : Array Value))) hS rfl
  have oth : ∀ b o, b ≠ S → s.heap.get? b = some o → (s.heap.update S (Obj.mapSeq (fun _ => (#[] : Array Value)))).get? b = some o :=
    fun b o hb e => (Heap.get?_update_other _ _ (Ne.symm hb)).trans e
  refine wpAny_bind (wpAny_letGo ?_)
  refine extend_rg hh (oth r _ (Ne.symm hSr) hr) hn hlen S .none _ hS₂ fun h' tk acc' c' hk hS' hacc => ?_
  exact hR h' tk acc' c' (fun b o hb e => hk b o hb (oth b o hb e)) hS' hacc
theorem list_rg {Q : Value → Shared → Prop} (hh : A.handled = none) (hr : IsRange s.heap r a b c t u v)
    (hn : Builtin.Range.rangeSize a b c = n) (hlen : n ≤ 2 ^ 24)
    (hQ : ∀ h' tk acc' c', (∀ b o, s.heap.get? b = some o → h'.get? b = some o) →
      h'.get? s.heap.objs.size = some { cls := .type "list", dict := none, data := .seq acc' c', slots := #[] } → ItemsOf (fun i v => ∃ t, v = .int (a + i * c) t) acc' n → Q (.ref s.heap.objs.size) { s with heap := h', toks := tk }) :
    wpAny (model prog w) A (call (.type "list") [.ref r]) Q E s := by
  refine callType_codes (Q₁ := fun obj s₁ => obj = .ref s.heap.objs.size ∧ s₁ = { s with heap := s.heap.push { cls := .type "list", data := .seq #[] } }) F.called_list (F.typeCall_list_1 _) F.entry_list_init
    (code_list_new _ ⟨rfl, rfl⟩) fun obj s₁ h₁ => ?_
  obtain ⟨rfl, rfl⟩ := h₁
  have hS : (s.heap.push { cls := .type "list", data := .seq #[] }).get? s.heap.objs.size = some { cls := .type "list", data := .seq #[] } := Heap.get?_push_size _ rfl
  refine ⟨⟨_, hS, rfl⟩, F.args_list_init_2 _ _, init_rg (A := A.in1) hh (Heap.get?_push_of_some _ hr) hn hlen _ hS fun h' tk acc' c' hk hS' hacc => ?_⟩
  exact ⟨rfl, hQ h' tk acc' c' (fun b o e => hk b o (Nat.ne_of_lt (Heap.lt_size e)) (Heap.get?_push_of_some _ e)) hS' hacc⟩
end
theorem turn_long {P : Program} {w : World} {K : PySem.W.Frag} {tg : Expr} (it : Addr) (lo : Int) (n : Nat) : Turn P w K tg (Itr lo n) [it] it (fun i h => IsLongIter h it (lo + (i : Nat) * 1) ((n : Int) - (i : Nat)) 1) where
  mem := by simp
  obj := fun i h st b hb => by
    have e : b = it := by simpa using hb
    subst e
    exact ⟨_, st, fun v z => by
      have z' : Data.fields _ = Data.cell v := z
      cases z'⟩
  keep := fun i h h' st k => k it (by simp) _ st
  item := by
    intro X hP hw hK hc i pins s σ H E I hf st hg
    subst hP hw hK
    obtain ⟨f0, f1, f2, f3, f4, f5⟩ := hf it (by simp)
    have W := Walks.longrange (prog := X.prog) (w := X.w) (I.ok.hd hc) it lo 1 n
    refine W.item i s _ _ hg st fun v h' tk hv st' kk => ?_
    obtain ⟨t, rfl⟩ := hv
    have I1 : Inv X pins σ H { s with heap := h', toks := tk } := I.turned (fun b o hb e => kk b o (by simpa using hb) e) f0 f1 f3 f4 f5
    refine ⟨_, rfl, go_of (s := { s with heap := h', toks := tk }) (n := "longrange_iterator") st' rfl rfl (by decide) ⟨.int (lo + i), H, I1, ⟨t, ?_⟩, ⟨rfl, rfl⟩, st', fun b hb => (hf b hb).1⟩⟩
    rw [Int.mul_one]
  done := by
    intro X hP hw hK hc i pins s σ H E I hf st hg
    subst hP hw hK
    obtain ⟨f0, f1, f2, f3, f4, f5⟩ := hf it (by simp)
    exact wpAny_pyNext_long_end (I.ok.hd hc) st (by have : n ≤ i := hg; omega) fun h' eb => ⟨rfl, I.turned (t' := s.toks) (fun b o hb e => eb b o hb e) f0 f1 f3 f4 f5⟩
  self := fun _ _ _ _ _ st h => wpAny_pyIter_longiter st h
section
variable {X : Cx} {tg : Expr}
theorem range_itL {pins : List (Addr × Obj)} {σ : L2.St} {H : Hp} {s : Shared} {R : It → Hp → Prop} {E : Value → Shared → Prop} {lo hi : Int} {t u v : Tok} {tk : Nat} (I : Inv X pins σ H s) (hbig : Builtin.Range.small lo hi 1 = false)
    (q : R (Itr lo (hi - lo).toNat) H) : wpAny (model X.prog X.w) X.A (pyIter (.ref s.heap.objs.size)) (PIE X pins σ tg R) E { s with heap := s.heap.push { cls := .type "range", data := .fields #[.int lo t, .int hi u, .int 1 v] }, toks := tk } := by
  refine wpAny_pyIter_longrange (IsRange.new ..) hbig ?_
  have I1 : Inv X pins σ H { s with heap := s.heap.push { cls := .type "range", data := .fields #[.int lo t, .int hi u, .int 1 v] }, toks := tk } := I.kept fun b o e => Heap.get?_push_of_some _ e
  refine ⟨(s.heap.push { cls := .type "range", data := .fields #[.int lo t, .int hi u, .int 1 v] }).objs.size, [(s.heap.push { cls := .type "range", data := .fields #[.int lo t, .int hi u, .int 1 v] }).objs.size], _, _, H, rfl,
    I1.kept (t' := tk) fun b o e => Heap.get?_push_of_some _ e, turn_long _ lo (hi - lo).toNat, ?_, fun b hb => ?_, q⟩
  · have e1 : lo + ((0 : Nat) : Int) * 1 = lo := by simp
    have e2 : (((hi - lo).toNat : Nat) : Int) - ((0 : Nat) : Int) = Builtin.Range.rangeSize lo hi 1 := by rw [rangeSize_one]; split <;> omega
    show IsLongIter _ _ (lo + ((0 : Nat) : Int) * 1) ((((hi - lo).toNat : Nat) : Int) - ((0 : Nat) : Int)) 1
    rw [e1, e2]
    exact Heap.get?_push_size _ rfl
  · have e : b = (s.heap.push { cls := .type "range", data := .fields #[.int lo t, .int hi u, .int 1 v] }).objs.size := by simpa using hb
    subst e
    exact I1.fpOk (Nat.le_refl _) (I1.hok.fresh (Nat.le_refl _))
theorem range_itS {pins : List (Addr × Obj)} {σ : L2.St} {H : Hp} {s : Shared} {R : It → Hp → Prop} {E : Value → Shared → Prop} {lo hi : Int} {t u v : Tok} {tk : Nat} (I : Inv X pins σ H s) (hs : Builtin.Range.small lo hi 1 = true)
    (q : R (Itr lo (hi - lo).toNat) H) : wpAny (model X.prog X.w) X.A (pyIter (.ref s.heap.objs.size)) (PIE X pins σ tg R) E { s with heap := s.heap.push { cls := .type "range", data := .fields #[.int lo t, .int hi u, .int 1 v] }, toks := tk } := by
  refine wpAny_pyIter_range (IsRange.new ..) hs ?_
  have I1 : Inv X pins σ H { s with heap := s.heap.push { cls := .type "range", data := .fields #[.int lo t, .int hi u, .int 1 v] }, toks := tk } := I.kept fun b o e => Heap.get?_push_of_some _ e
  refine ⟨(s.heap.push { cls := .type "range", data := .fields #[.int lo t, .int hi u, .int 1 v] }).objs.size, [(s.heap.push { cls := .type "range", data := .fields #[.int lo t, .int hi u, .int 1 v] }).objs.size], _, _, H, rfl,
    I1.kept (t' := tk) fun b o e => Heap.get?_push_of_some _ e, turn_range _ lo (hi - lo).toNat, ?_, fun b hb => ?_, q⟩
  · have e1 : lo + ((0 : Nat) : Int) * 1 = lo := by simp
    have e2 : (((hi - lo).toNat : Nat) : Int) - ((0 : Nat) : Int) = Builtin.Range.rangeSize lo hi 1 := by rw [rangeSize_one]; split <;> omega
    show IsRangeIter _ _ (lo + ((0 : Nat) : Int) * 1) ((((hi - lo).toNat : Nat) : Int) - ((0 : Nat) : Int)) 1
    rw [e1, e2]
    exact Heap.get?_push_size _ rfl
  · have e : b = (s.heap.push { cls := .type "range", data := .fields #[.int lo t, .int hi u, .int 1 v] }).objs.size := by simpa using hb
    subst e
    exact I1.fpOk (Nat.le_refl _) (I1.hok.fresh (Nat.le_refl _))
def iRngA (ta : TA) : TI := fun σ H R => ta σ H fun vs H1 => ∃ i j : Int, vs = [.int i, .int j] ∧ R (Itr i (j - i).toNat) H1
theorem pi_rangeA {a b : Expr} {ta : TA} {p pos : Pos} (hg : Gl X "range") (hm : X.mg "range" = none) (ha : PA X [a, b] ta) (hs : starEach [a, b] X.env = [(false, eval a X.env), (false, eval b X.env)] := by rfl) (hs2 : starEach [b] X.env = [(false, eval b X.env)] := by rfl) :
    PI X tg (.Call (.Name "range" p) [a, b] [] pos) (iRngA ta) := by
  refine ⟨fun pins s σ H R I h => ?_⟩
  refine Call_ (ld_blt I hg hm boot_range (PyProof.Rows.callWith_type1 (thn (ha.run pos pins s σ H _ I h) fun us s1 ⟨vs, H1, I1, r1, q1⟩ => ?_) (by rw [hs, hs2]) (by rw [hs2]; rfl)))
  obtain ⟨i, j, e, q⟩ := q1
  subst e
  cases r1 with
  | cons r rr =>
    cases rr with
    | cons r' rr =>
      cases rr
      obtain ⟨t, rfl⟩ := r
      obtain ⟨t', rfl⟩ := r'
      cases h : Builtin.Range.small i j 1 with
      | true => exact call_range_2 (range_itS I1 h q)
      | false => exact call_range_2 (range_itL I1 h q)
def RgN (a b : Int) : Prop := (b - a).toNat ≤ 2 ^ 24
variable {e : Expr} {te : L2.St → Hp → (Int → Int → Hp → Prop) → Prop}
def tLstRgA (te : L2.St → Hp → (Int → Int → Hp → Prop) → Prop) : TE := fun σ H Q => te σ H fun a b H1 => RgN a b ∧ ∀ q, H1 q = none → Q (.ref q) (upd H1 q (.lst (rgV a b)))
theorem pe_listRgA {p pos : Pos} (hc : X.calm = true) (hg : Gl X "list") (hm : X.mg "list" = none) (he : PRg X e te) (na : starEach [e] X.env = (false, eval e X.env) :: starEach [] X.env := by rfl) : PE X (.Call (.Name "list" p) [e] [] pos) (tLstRgA te) := by
  refine ⟨fun pins s σ H Q I h => ?_⟩
  refine Call_ (ld_blt I hg hm boot_list (PyProof.Rows.callWith_type1 (args_cons (thn (he pins s σ H _ I h) fun x s1 ⟨r, a, b, t, u, v, H1, ex, hr, I1, ok, q⟩ => args_nil ?_) na) na))
  subst ex
  refine list_rg (n := (b - a).toNat) (I1.ok.hd hc) hr (rangeSize_nat a b) ok fun h' tk acc c' hk e' hi => ?_
  refine ⟨.ref s1.heap.objs.size, upd H1 s1.heap.objs.size (.lst (rgV a b)), I1.laid hk (Nat.le_refl _) (show ObjOk X.prog X.w _ _ _ (.lst (rgV a b)) from ⟨?_, acc.toList, c', vals_rg hi, ?_⟩), rfl, q _ (I1.hok.fresh (Nat.le_refl _))⟩
  · have ok' : (b - a).toNat ≤ 2 ^ 24 := ok
    rw [rgV_length, sizeLine_eq]; omega
  · rw [Array.toArray_toList]; exact e'
def tStarRgA (te : L2.St → Hp → (Int → Int → Hp → Prop) → Prop) (t : TA) : TA := fun σ H Q => te σ H fun a b H1 => RgN a b ∧ t σ H1 fun ys H2 => Q (rgV a b ++ ys) H2
theorem pa_starRgA {es : List Expr} {t : TA} {sp : Pos} (hc : X.calm = true) (he : PRg X e te) (hr : PA X es t) (hs : starEach (.Starred e sp :: es) X.env = (true, eval e X.env) :: starEach es X.env := by rfl) : PA X (.Starred e sp :: es) (tStarRgA te t) := by
  refine ⟨fun pos pins s σ H Q I h => ?_⟩
  refine PySem.W.items_star (thn (he pins s σ H _ I h) fun x s1 ⟨r, a, b, t, u, v, H1, ex, hrg, I1, ok, q⟩ => ?_) hs
  subst ex
  have hT : s1.TypeIs (.ref r) "range" := ⟨_, hrg, rfl⟩
  unfold PySem.W.StarOf notIterableAtAll
  refine wpAny_bind (wpAny_specialOf hT PySem.F.slot_range_iter.lookup (wpAny_pure ⟨rfl, ?_⟩))
  refine collect_rg (n := (b - a).toNat) (I1.ok.hd hc) hrg (rangeSize_nat a b) ok fun h' tk acc hk hi => ?_
  have I2 : Inv X pins σ H1 { s1 with heap := h', toks := tk } := I1.kept hk
  exact thn (hr.run pos pins _ σ H1 _ I2 q) fun ws s3 ⟨vs, H3, I3, r3, q3⟩ => ⟨rgV a b ++ vs, H3, I3, (vals_rg hi).append r3, q3⟩
end
/-! .. over data -/
section
variable {X : Cx} {F0 : Pt} {tg a b e : Expr} {es : List Expr} {ta tb : TE3} {t : TA3} {p pos p2 : Pos}
def wRA (ta tb : TE3) : TI3 := fun sd G R => ta sd G fun d G1 => tb sd G1 fun d2 G2 => match d, d2 with
  | .int i, .int j => R (intsD i (j - i).toNat) G2
  | _, _ => False
theorem di_rangeA (ha : DE X F0 a ta) (hb : DE X F0 b tb) (hm : X.mg "range" = none) (hg : Gl X "range" := by rfl) (hs : starEach [a, b] X.env = [(false, eval a X.env), (false, eval b X.env)] := by rfl) (hs2 : starEach [b] X.env = [(false, eval b X.env)] := by rfl)
    (hs' : starEach [a, b] X.env = (false, eval a X.env) :: starEach [b] X.env := by rfl) (hs2' : starEach [b] X.env = (false, eval b X.env) :: starEach [] X.env := by rfl) : DI X F0 tg (.Call (.Name "range" p) [a, b] [] pos) (wRA ta tb) :=
  PI.imp (pi_rangeA hg hm (pa_cons ha (pa_cons hb pa_nil hs2') hs') hs hs2) fun σ H R ⟨sd, F, G, R3, at_, h, k⟩ => ⟨sd, F, G, _, at_, h, fun d v F1 G1 H1 l1 r1 q1 => ⟨sd, F1, G1, _, at_.step l1, q1, fun d2 v2 F2 G2 H2 l2 r2 q2 => by
    cases d <;> cases d2 <;> first | exact q2.elim | skip
    cases r1; cases r2
    exact ⟨_, _, rfl, k _ _ _ _ _ (l1.trans l2) (walks_range _ _) q2⟩⟩⟩
def dLstRgA (tr : TR3) : TE3 := fun sd G Q => tr sd G fun a b G1 => RgN a b ∧ Q (.lst (intsD a (b - a).toNat)) G1
theorem de_listRgA {tr : TR3} (hc : X.calm = true) (he : DRg X F0 e tr) (hm : X.mg "list" = none) (hg : Gl X "list" := by rfl) (na : starEach [e] X.env = (false, eval e X.env) :: starEach [] X.env := by rfl) : DE X F0 (.Call (.Name "list" p) [e] [] pos) (dLstRgA tr) :=
  PE.imp (pe_listRgA hc hg hm he na) fun σ H Q ⟨sd, F, G, Q3, at_, h, k⟩ => ⟨sd, F, G, _, at_, h, fun a b F1 G1 H1 l1 ⟨ok, q1⟩ => ⟨ok, fun q hq => by
    have x := Ext.newF l1.cp (.lst (rgV a b)) hq
    exact k _ _ _ _ _ (l1.trans x) (.lst upd_same (rg_rep a b)) q1⟩⟩
def dStarRgA (tr : TR3) (t : TA3) : TA3 := fun sd G Q => tr sd G fun a b G1 => RgN a b ∧ t sd G1 fun ys G2 => Q (intsD a (b - a).toNat ++ ys) G2
theorem da_starRgA {tr : TR3} {sp : Pos} (hc : X.calm = true) (he : DRg X F0 e tr) (hr : DA X F0 es t) (hs : starEach (.Starred e sp :: es) X.env = (true, eval e X.env) :: starEach es X.env := by rfl) : DA X F0 (.Starred e sp :: es) (dStarRgA tr t) :=
  PA.imp (pa_starRgA hc he hr hs) fun σ H Q ⟨sd, F, G, Q3, at_, h, k⟩ => ⟨sd, F, G, _, at_, h, fun a b F1 G1 H1 l1 ⟨ok, q1⟩ => ⟨ok, sd, F1, G1, _, at_.step l1, q1, fun ys us F2 G2 H2 l2 r2 q2 => k _ _ _ _ _ (l1.trans l2) ((rg_rep a b).append r2) q2⟩⟩
end
end L3
set_option Elab.async false
set_option linter.all false
set_option maxRecDepth 100000
set_option maxHeartbeats 4000000
/-! len, bool, == of instances without slots -/
namespace OwO
open PySem PySem.Spec PyProof.Rows PySem.W PySem.SeqAt
section
variable {prog : Program} {w : World} {A : Around} {E : Value → Shared → Prop} {s : Shared} {K : Frag} {x y C f : Addr} {ox oy : Obj} {od od' : Option Obj}
theorem plain_bool_new : plainId "bool.__new__" = true := by decide +kernel
theorem code_bool_new {Q₁ : Value → Shared → Prop} {v : Value} (h : ∀ {R : Bool → Shared → Prop} {E' : Value → Shared → Prop}, (∀ b s', Q₁ (.bool b) s' → R b s') → (∀ e s', E e s' → E' e s') → wpAny (model prog w) A.in1 (truthy v) R E' s) :
    codeAny (model prog w) A (.call (.builtin "bool.__new__") ⟨[.type "bool", v], []⟩) (wants Q₁ E) s := by
  refine codeAny_of_tree ?_
  show wpAny _ A.in1 (do checkBuiltinCall "bool.__new__" ⟨[.type "bool", v], []⟩; again (.builtin "bool.__new__" ⟨[.type "bool", v], []⟩)) _ _ s
  refine wpAny_bind (wpAny_of_eq (F.newCall_bool_1 _) (wpAny_pure ⟨plainId_quiet plain_bool_new _, codeAny_builtin F.entry_bool_new ?_⟩))
  rw [Around.under_plainId plain_bool_new _]
  have f1 := F.conv_sub_bool
  unfold Builtin.«bool.__new__»
  repeat (any_goals (first | assumption | (with_reducible refine h ?_ ?_) | wp_step))
  · exact fun b s' q => wpAny_pure q
  · exact fun e s' q => q
theorem call_boolT {Q : Value → Shared → Prop} {v : Value} (h : ∀ {R : Bool → Shared → Prop} {E' : Value → Shared → Prop}, (∀ b s', Q (.bool b) s' → R b s') → (∀ e s', E e s' → E' e s') → wpAny (model prog w) A.in1.in1 (truthy v) R E' s) :
    wpAny (model prog w) A (call (.type "bool") [v]) Q E s := by
  refine callType_codes (Q₁ := fun obj s₁ => (∃ b, obj = .bool b) ∧ Q obj s₁) F.called_bool (F.typeCall_bool_1 _) F.entry_object_init (code_bool_new (A := A.in1) fun hk he => h (fun b s' q => hk b s' ⟨⟨b, rfl⟩, q⟩) he) fun obj s₁ h₁ => ?_
  obtain ⟨⟨b, rfl⟩, q⟩ := h₁
  exact ⟨rfl, F.args_object_init_2 _ _, object_init_meets F.called_bool.init.lookup F.called_bool.made (by decide) prog w A.in1 _ s₁ ⟨rfl, rfl, q⟩⟩
theorem isSame_other {R : Bool → Shared → Prop} {M : Model} (ia : InstAt s.heap x ox C od) (ib : InstAt s.heap y oy C od') (hxy : x ≠ y) (q : R false s) : wpAny M A (isSame (.ref x) (.ref y)) R E s := by
  obtain ⟨hx, hc, _⟩ := ia
  obtain ⟨hy, hc', _⟩ := ib
  have e : (x == y) = false := beq_eq_false_iff_ne.mpr hxy
  unfold isSame
  simp only [e, Bool.false_eq_true, if_false]
  refine wpAny_bind (wpAny_load hx (wpAny_bind (wpAny_load hy ?_)))
  rw [hc, hc']
  exact wpAny_pure q
theorem call_eqO {Q : Value → Shared → Prop} (kin : K.In s.heap) (ia : InstAt s.heap x ox C od) (ib : InstAt s.heap y oy C od') (hxy : x ≠ y) (hm : mroIn K C (.type "object") = some true) (q : Q .notImplemented s) :
    wpAny (model prog w) A (call (.builtin "object.__eq__") [.ref x, .ref y]) Q E s := by
  refine wpAny_call (codeAny_call_builtin F.cmp_object.eq.plain F.cmpEntry_eq (check_slot F.cmpKind_eq F.cmpSplit_eq (ia.type.andThen (looks_mroIn kin hm)) (F.cmpArgs_eq _ _) ?_))
  unfold Builtin.«object.__eq__»
  repeat (first | with_reducible refine isSame_other ia ib hxy ?_ | wp_step)
  all_goals first | exact q | exact ⟨_, rfl, q⟩ | skip
theorem try_eq (kin : K.In s.heap) (ia : InstAt s.heap x ox C od) (ib : InstAt s.heap y oy C od') (hxy : x ≠ y) (hm : mroIn K C (.type "object") = some true) (he : findIn K (.ref C) "__eq__" = some (some (.builtin "object.__eq__"))) {R : Option Value → Shared → Prop} (q : R none s) :
    wpAny (model prog w) A (tryCompare (.ref x) "__eq__" (.ref y)) R E s := by
  unfold tryCompare
  exact wpAny_bind (HN.ifBound_objEq kin ia he (call_eqO kin ia ib hxy hm (wpAny_pure q)))
theorem rc_eq {Q : Value → Shared → Prop} (hu : A.units < cLine) (kin : K.In s.heap) (ia : InstAt s.heap x ox C od) (ib : InstAt s.heap y oy C od') (hxy : x ≠ y) (hm : mroIn K C (.type "object") = some true) (he : findIn K (.ref C) "__eq__" = some (some (.builtin "object.__eq__")))
    (q : Q (.bool false) s) : wpAny (model prog w) A (richCompare .Eq (.ref x) (.ref y)) Q E s := by
  simp only [richCompare, cmpInfo_Eq, oneThing_ref]
  refine wpAny_holding (wpAny_bind (wpAny_cRoomFor hu (wpAny_bind (ia.type.here (wpAny_bind (ib.type.here ?_))))))
  split
  · rename_i z
    simp at z
  · refine wpAny_bind (wpAny_pure ?_)
    simp only [Bool.false_eq_true, if_false, Bool.not_false, if_true]
    refine wpAny_bind (m := tryCompare (.ref x) _ (.ref y)) (try_eq kin ia ib hxy hm he ?_)
    refine wpAny_bind (m := tryCompare (.ref y) _ (.ref x)) (try_eq kin ib ia (Ne.symm hxy) hm he ?_)
    exact wpAny_bind (wpAny_rule (wpAny_bind (isSame_other ia ib hxy (wpAny_pure q))))
theorem call_neO {Q : Value → Shared → Prop} (hu : A.units + 1 < cLine) (kin : K.In s.heap) (ia : InstAt s.heap x ox C od) (ib : InstAt s.heap y oy C od') (hxy : x ≠ y) (hm : mroIn K C (.type "object") = some true) (he : findIn K (.ref C) "__eq__" = some (some (.builtin "object.__eq__"))) (q : Q .notImplemented s) :
    wpAny (model prog w) A (call (.builtin "object.__ne__") [.ref x, .ref y]) Q E s := by
  refine wpAny_call (codeAny_call_builtin F.cmp_object.ne.plain F.cmpEntry_ne (check_slot F.cmpKind_ne F.cmpSplit_ne (ia.type.andThen (looks_mroIn kin hm)) (F.cmpArgs_ne _ _) ?_))
  unfold Builtin.«object.__ne__»
  have go : ∀ {A' : Around} {R : Option Value → Shared → Prop} {E' : Value → Shared → Prop}, R (some .notImplemented) s → wpAny (model prog w) A' (callSpecialIfBound? (.ref x) "__eq__" [.ref y]) R E' s := fun k =>
    HN.ifBound_objEq kin ia he (call_eqO kin ia ib hxy hm k)
  repeat (first
    | with_reducible refine wpAny_cRoomFor hu ?_
    | (refine wpAny_bind (m := callSpecialIfBound? (.ref x) (Str.ofString "__eq__") [.ref y]) (go ?_))
    | wp_step)
  all_goals first | exact q | exact ⟨_, rfl, q⟩ | skip
theorem try_ne (hu : A.units + 1 < cLine) (kin : K.In s.heap) (ia : InstAt s.heap x ox C od) (ib : InstAt s.heap y oy C od') (hxy : x ≠ y) (hm : mroIn K C (.type "object") = some true) (he : findIn K (.ref C) "__eq__" = some (some (.builtin "object.__eq__")))
    (en : findIn K (.ref C) "__ne__" = some (some (.builtin "object.__ne__"))) {R : Option Value → Shared → Prop} (q : R none s) : wpAny (model prog w) A (tryCompare (.ref x) "__ne__" (.ref y)) R E s := by
  unfold tryCompare
  exact wpAny_bind (OwE.bound_ne kin ia en (call_neO hu kin ia ib hxy hm he (wpAny_pure q)))
theorem rc_ne {Q : Value → Shared → Prop} (hu : A.units + 1 < cLine) (kin : K.In s.heap) (ia : InstAt s.heap x ox C od) (ib : InstAt s.heap y oy C od') (hxy : x ≠ y) (hm : mroIn K C (.type "object") = some true) (he : findIn K (.ref C) "__eq__" = some (some (.builtin "object.__eq__")))
    (en : findIn K (.ref C) "__ne__" = some (some (.builtin "object.__ne__"))) (q : Q (.bool true) s) : wpAny (model prog w) A (richCompare .NotEq (.ref x) (.ref y)) Q E s := by
  unfold richCompare
  simp only [oneThing_ref, cmpInfo_NotEq]
  refine wpAny_holding (wpAny_bind (wpAny_cRoomFor (Nat.lt_of_succ_lt hu) (wpAny_bind (ia.type.here (wpAny_bind (ib.type.here ?_))))))
  split
  · rename_i z
    simp at z
  · refine wpAny_bind (wpAny_pure ?_)
    simp only [Bool.false_eq_true, if_false, Bool.not_false, if_true]
    refine wpAny_bind (m := tryCompare (.ref x) _ (.ref y)) (try_ne hu kin ia ib hxy hm he en ?_)
    refine wpAny_bind (m := tryCompare (.ref y) _ (.ref x)) (try_ne hu kin ib ia (Ne.symm hxy) hm he en ?_)
    exact wpAny_bind (wpAny_rule (wpAny_bind (isSame_other ia ib hxy (wpAny_pure q))))
end
end OwO

namespace L3
open PySem PySem.Spec PyProof.Rows L2 PySem.Calls
/-- the class at C has no == of its own -/
structure EqOb (K : PySem.W.Frag) (C : Addr) : Prop where
  eq : PySem.W.findIn K (.ref C) "__eq__" = some (some (.builtin "object.__eq__"))
  ne : PySem.W.findIn K (.ref C) "__ne__" = some (some (.builtin "object.__ne__"))
  ob : PySem.W.mroIn K C (.type "object") = some true
theorem eqOb_of {K : PySem.W.Frag} {C : Addr} (h : eqOB K C = true) : EqOb K C := by
  obtain ⟨h1, h⟩ := He.ba h
  obtain ⟨h2, h3⟩ := He.ba h
  exact ⟨He.eqO_ok h1, He.eqO_ok h2, of_decide_eq_true h3⟩
section
variable {X : Cx} {K : PySem.W.Frag} {j k : Nat} {C : Addr} {sp : Sp3}
def lowCmp (K : PySem.W.Frag) (r3 : R3) : R2 := fun x y H Q => ∃ dx dy F G Q3, Cp K F G H ∧ Rep K F dx x ∧ Rep K F dy y ∧ r3 dx dy G Q3 ∧ QR K F G H Q3 Q
theorem dc_cmp {r3 : R3} : OpD K (lowCmp K r3) r3 := fun F G H x y dx dy Q Q3 c rx ry h k => ⟨dx, dy, F, G, Q3, c, rx, ry, h, k⟩
def rEqOb (K : PySem.W.Frag) (neg : Bool) : R3 := fun x y G Q => match x, y with
  | .ref p, .ref q => p ≠ q ∧ ∃ C dx fs dx' fs', EqOb K C ∧ G p = some (.obj C dx fs) ∧ G q = some (.obj C dx' fs') ∧ Q (.bl neg) G
  | _, _ => False
theorem inst_obj {pins : List (Addr × Obj)} {σ : L2.St} {H F : Hp} {G : Gp} {s : Shared} {p dx : Addr} {fs : List (Str × D)} (I : Inv X pins σ H s) (c : Cp X.K F G H) (h : G p = some (.obj C dx fs)) : ∃ ox od, PySem.W.InstAt s.heap p ox C (some od) := by
  obtain ⟨_, ws, hp, _⟩ := own_obj c h
  obtain ⟨mA, O, _⟩ := ins_get I.hok hp
  obtain ⟨od, J, _⟩ := O.look
  exact ⟨_, od, J⟩
theorem op_eqOb (hr : Room j X.A) : OpR X (compareOp .Eq) (lowCmp X.K (rEqOb X.K false)) := by
  intro pins s σ H x y v u Q I rx ry ⟨dx, dy, F, G, Q3, c, r1, r2, h, kq⟩
  unfold rEqOb at h
  split at h
  · obtain ⟨hne, C, _, _, _, _, e, g1, g2, q⟩ := h
    cases r1
    cases r2
    cases (show v = Value.ref _ from rx)
    cases (show u = Value.ref _ from ry)
    obtain ⟨_, _, J1⟩ := inst_obj I c g1
    obtain ⟨_, _, J2⟩ := inst_obj I c g2
    have := hr.units
    exact OwO.rc_eq (by omega) I.kIn J1 J2 hne e.ob e.eq ⟨.bl false, H, I, rfl, kq _ _ _ _ _ (Ext.refl c) (.bl _) q⟩
  · exact h.elim
theorem op_neOb (hr : Room j X.A) : OpR X (compareOp .NotEq) (lowCmp X.K (rEqOb X.K true)) := by
  intro pins s σ H x y v u Q I rx ry ⟨dx, dy, F, G, Q3, c, r1, r2, h, kq⟩
  unfold rEqOb at h
  split at h
  · obtain ⟨hne, C, _, _, _, _, e, g1, g2, q⟩ := h
    cases r1
    cases r2
    cases (show v = Value.ref _ from rx)
    cases (show u = Value.ref _ from ry)
    obtain ⟨_, _, J1⟩ := inst_obj I c g1
    obtain ⟨_, _, J2⟩ := inst_obj I c g2
    have := hr.units
    exact OwO.rc_ne (by omega) I.kIn J1 J2 hne e.ob e.eq e.ne ⟨.bl true, H, I, rfl, kq _ _ _ _ _ (Ext.refl c) (.bl _) q⟩
  · exact h.elim
/-! len(x), bool(x) by own methods -/
def rLenO (C : Addr) (sp : Sp3) : List D → Gp → DK → Prop := fun ds G Q => match ds with
  | [.ref p] => (∃ dx fs, G p = some (.obj C dx fs)) ∧ sp [.ref p] G (fun z G2 => ∃ n : Int, z = .int n ∧ 0 ≤ n ∧ n < 2 ^ 63 ∧ Q z G2) NoE
  | _ => False
theorem call_lenO (c : MetO X.prog X.w X.K X.mg X.base k C "__len__" sp []) (hr : Room j X.A) (hk : k + 1 ≤ j := by decide) : CallR X (.builtin "len") (lowCall X.K (rLenO C sp)) := by
  obtain ⟨g, fd, qs, ds0, dvs, hm3, FO, hb, hd, rd⟩ := c.ex
  have hz : dvs = [] := (rd (fun _ => none)).inv0
  subst hz
  cases hd
  have FR := FnOk.raw0 FO hb
  intro pins s σ H xs us Q I r ⟨ds, F, G, Q3, cp, rl, h, kq⟩
  unfold rLenO at h
  split at h
  · obtain ⟨v, rfl, rv⟩ := rl.inv1
    obtain ⟨u, rfl, ru⟩ := vals1 r
    obtain ⟨⟨dx, fs, eg⟩, h⟩ := h
    cases rv
    cases (show u = Value.ref _ from ru)
    obtain ⟨_, _, J⟩ := inst_obj I cp eg
    obtain ⟨mm, hF⟩ := I.fr
    have rk : Room (k + 1) X.A := hr.mono hk
    refine PySem.W.len_K hF I.ok.mod.kin J hm3.at_ hm3.fn ?_
    refine wpAny_call (codeAny_mono (FR X.A.in1 X.stack s H [.ref _] [.ref _] (fun z H' => ∃ n : Int, z = .int n ∧ 0 ≤ n ∧ n < 2 ^ 63 ∧ Q z H') (fun _ _ _ => False) rk.in1 I.env0.in1 (.cons rfl .nil) ⟨[_], F, G, _, NoE, cp, .one (.ref _), h, fun d v F' G' H' l r ⟨n, ey, n0, n1, q⟩ => ?_, qx_none⟩) fun r s1 z => ?_)
    · subst ey
      cases r
      exact ⟨n, rfl, n0, n1, kq _ _ _ _ _ l (.int n) q⟩
    · cases r with
      | error e => exact (cx_none z).elim
      | ok fl =>
        cases fl with
        | ret z1 =>
          obtain ⟨z', H', I', rz, n, ey, n0, n1, qz⟩ := I.after z
          subst ey
          obtain ⟨t, e⟩ := (show ∃ t, z1 = Value.int n t from rz)
          cases e
          exact ⟨⟨n0, n1⟩, .int n, H', I'.tok _, ⟨_, rfl⟩, qz⟩
        | next => exact False.elim z
        | brk => exact False.elim z
        | cont => exact False.elim z
  · exact h.elim
def rBoolO (C : Addr) (sp : Sp3) : List D → Gp → DK → Prop := fun ds G Q => match ds with
  | [.ref p] => (∃ dx fs, G p = some (.obj C dx fs)) ∧ sp [.ref p] G (fun z G2 => ∃ b : Bool, z = .bl b ∧ Q z G2) NoE
  | _ => False
theorem call_boolO (c : MetO X.prog X.w X.K X.mg X.base k C "__bool__" sp []) (hr : Room j X.A) (hk : k + 2 ≤ j := by decide) : CallR X (.type "bool") (lowCall X.K (rBoolO C sp)) := by
  obtain ⟨g, fd, qs, ds0, dvs, hm3, FO, hb, hd, rd⟩ := c.ex
  have hz : dvs = [] := (rd (fun _ => none)).inv0
  subst hz
  cases hd
  have FR := FnOk.raw0 FO hb
  intro pins s σ H xs us Q I r ⟨ds, F, G, Q3, cp, rl, h, kq⟩
  unfold rBoolO at h
  split at h
  · obtain ⟨v, rfl, rv⟩ := rl.inv1
    obtain ⟨u, rfl, ru⟩ := vals1 r
    obtain ⟨⟨dx, fs, eg⟩, h⟩ := h
    cases rv
    cases (show u = Value.ref _ from ru)
    obtain ⟨_, _, J⟩ := inst_obj I cp eg
    obtain ⟨mm, hF⟩ := I.fr
    have rk : Room (k + 2) X.A := hr.mono hk
    refine OwO.call_boolT fun {R E'} hR hE => PySem.W.truthy_K hF I.ok.mod.kin J hm3.at_ hm3.fn ?_
    refine wpAny_call (codeAny_mono (FR X.A.in1.in1 X.stack s H [.ref _] [.ref _] (fun z H' => ∃ b : Bool, z = .bl b ∧ Q z H') (fun _ _ _ => False) rk.in1.in1 I.env0.in1.in1 (.cons rfl .nil) ⟨[_], F, G, _, NoE, cp, .one (.ref _), h, fun d v F' G' H' l r ⟨b, ey, q⟩ => ?_, qx_none⟩) fun r s1 z => ?_)
    · subst ey
      cases r
      exact ⟨b, rfl, kq _ _ _ _ _ l (.bl b) q⟩
    · cases r with
      | error e => exact (cx_none z).elim
      | ok fl =>
        cases fl with
        | ret z1 =>
          obtain ⟨z', H', I', rz, b, ey, qz⟩ := I.after z
          subst ey
          cases (show z1 = Value.bool b from rz)
          exact hR _ _ ⟨.bl b, H', I', rfl, qz⟩
        | next => exact False.elim z
        | brk => exact False.elim z
        | cont => exact False.elim z
  · exact h.elim
end
end L3
set_option Elab.async false
set_option linter.all false
set_option maxRecDepth 100000
set_option maxHeartbeats 4000000
/-! instances without slots: targets, methods with keywords -/
namespace L3
open PySem PySem.Spec PyProof.Rows L2 PySem.Calls
section
variable {X : Cx} {F0 : Pt} {o : Expr} {to : TE3} {pos : Pos} {f : Str} {C : Addr}
/-- o.f = .. as one of several targets -/
def gFld (C : Addr) (f : Str) (to : TE3) : TG3 := fun d sd G Q => to sd G fun x G1 => match x with
  | .ref p => ∃ dx fs, G1 p = some (.obj C dx fs) ∧ fs.length < 1000 ∧ Q sd (gupd G1 p (.obj C dx (putD3 f d fs)))
  | _ => False
def gFld2 (K : PySem.W.Frag) (f : Str) (ta : TE) : TG := fun v σ H Q => ta σ H fun x H1 => ∃ a C dx fs, x = .ref a ∧ H1 a = some (.ins C dx fs) ∧ Cls K C ∧ NoAttr K C f ∧ fs.length < 1000 ∧ Q σ (upd H1 a (.ins C dx (putF f v fs)))
theorem pg_fld2 {ta : TE} (ho : PE X o ta) : PG X (.Attribute o f pos) (gFld2 X.K f ta) := by
  refine ⟨fun pins s σ H v u Q I r h => ?_⟩
  rw [arm_assign_Attribute]
  refine wpAny_bind (wpAny_holding (thn (ho.run pins s σ H _ I h) fun ov s1 ⟨x, H1, I1, rx, a, C, dx, fs, ex, ea, c, n, l, q⟩ => ?_))
  subst ex
  obtain rfl : ov = Value.ref a := rx
  refine wpAny_bind (wpAny_standAt (wpAny_bind (wpAny_holding (setattr_ok I1 ea c n l r fun s3 I3 => ?_))))
  exact wpAny_release ⟨σ, _, I3, q⟩
theorem dg_fld (k : Fl1 X.K C f) (ho : DE X F0 o to) : DG X F0 (.Attribute o f pos) (gFld C f to) :=
  PG.imp (pg_fld2 ho) fun v σ H Q ⟨d, sd, F, G, Q3, at_, r, h, kq⟩ => ⟨sd, F, G, _, at_, h, fun x u F1 G1 H1 l1 r1 q1 => by
    cases x <;> first | exact q1.elim | skip
    cases r1
    obtain ⟨dx, fs, eg, hl, q⟩ := q1
    obtain ⟨hF, ws, hp, rf⟩ := own_obj l1.cp eg
    have y := Ext.put (o := .ins C dx (putF f v ws)) (u := .obj C dx (putD3 f d fs)) l1.cp eg (fun x e => by rw [hp] at e; cases e) (fun e => by rw [hp] at e; cases e) (fun _ _ _ z => by cases z) ⟨_, upd_same, rf.put (r.mono l1.le)⟩
    exact ⟨_, C, dx, ws, rfl, hp, k.c, k.n, by rw [← rf.len]; exact hl, kq _ _ _ _ _ (l1.trans y) ((at_.rs.mono l1.le).mono y.le) q⟩⟩
end
structure MetOF (P : Program) (w : World) (K : PySem.W.Frag) (mg : Str → Option Value) (base : Heap) (k : Nat) (C : Addr) (m qual : Str) (st : Stmt) (ps : List Str) (sp : Sp3) : Prop where
  c : Cls K C
  ex : ∃ g fd, Meth K C m g ∧ Fun K m qual st g fd ∧ Binds K fd ps [] ∧ FnOk P w K mg base (L2.CX P w) k g fd ps (dn K sp)
section
variable {P : Program} {w : World} {K : PySem.W.Frag} {mg : Str → Option Value} {base : Heap} {C : Addr} {m qual : Str} {st : Stmt} {N ps : List Str} {sp : Sp3} {k : Nat}
theorem metOF (c : Cls K C) (A : MethAt K C m qual st ps) (S : FnScope N ps (defScope st)) (hlen : ps.length ≤ N.length) (len : ∀ ds G Q E, sp ds G Q E → ds.length = ps.length) (h : Body P w K mg base k qual st N sp) : MetOF P w K mg base (k + 1) C m qual st ps sp := by
  obtain ⟨g, fd, hm, F, b⟩ := A.ex
  exact ⟨c, g, fd, hm, F, b, fn3 F S hlen len h⟩
theorem MetOF.met (c : MetOF P w K mg base k C m qual st ps sp) : MetO P w K mg base k C m sp [] := by
  obtain ⟨g, fd, hm, F, b, h⟩ := c.ex
  exact ⟨c.c, g, fd, ps, [], [], hm, h, b, .nil, fun _ => .nil⟩
end
section
variable {X : Cx} {CX : CXT} {F0 : Pt} {o e : Expr} {es : List Expr} {kws : List Keyword} {pos apos : Pos} {m qual : Str} {C g : Addr} {fd : FuncData} {ps ks : List Str} {sp : Sp} {E : L2.St → XK} {k n j : Nat} {gg : List Value → List Value → List Value} {gV : List V → List V → List V} {ta : TE} {t tk : TA}
def tMethOK (C : Addr) (mt : Str) (n m : Nat) (sp : Sp) (gV : List V → List V → List V) (E : L2.St → XK) (ta : TE) (t tk : TA) : TE := fun σ H Q => ta σ H fun x H1 => ∃ a dx vs, x = .ref a ∧ H1 a = some (.ins C dx vs) ∧ vs.lookup mt = none ∧ t σ H1 fun ws H2 => tk σ H2 fun zs H3 => (V.ref a :: ws).length = n ∧ zs.length = m ∧ sp (gV (.ref a :: ws) zs) H3 Q (E σ)
theorem pe_methOK {pl : Sem Bool} (he : PE X o ta) (c : Cls X.K C) (hm : Meth X.K C m g) (F : FnOk X.prog X.w X.K X.mg X.base CX k g fd ps sp) (hr : Room k X.A) (hb : KBn X.K fd ps n ks gg gV) (hx : ∀ σ, PassesAt CX X σ (E σ)) (ha : PA X (e :: es) t) (hkw : PK X kws tk)
    (hall : (backToKw pos (keywordEach kws X.env)).all (·.1.isSome) = true := by rfl) (hks : (backToKw pos (keywordEach kws X.env)).filterMap (·.1) = ks := by rfl)
    (hst : starEach (e :: es) X.env = (false, eval e X.env) :: starEach es X.env := by rfl) (hpl : ((backTo pos (starEach (e :: es) X.env)).any (·.1) || (backToKw pos (keywordEach kws X.env)).any (·.1.isNone)) = false := by rfl)
    (ht : eval (.Call (.Attribute o m apos) (e :: es) kws pos) X.env = (do
      let ov ← eval o X.env
      standAt apos.atName
      let (f, first) ← holding [ov] (getMethod ov m pl)
      callWith pos f first (backTo pos (starEach (e :: es) X.env)) (backToKw pos (keywordEach kws X.env))) := by rfl) :
    PE X (.Call (.Attribute o m apos) (e :: es) kws pos) (tMethOK C m n ks.length sp gV E ta t tk) := by
  refine ⟨fun pins s σ H Q I h => ?_⟩
  refine PySem.W.methodCall_KW (pl := pl) (thn (he.run pins s σ H _ I h) fun u s1 ⟨x, H1, I1, rx, a, dx, vs, ex, hsl, hl, q⟩ => ?_) ht
  subst ex
  obtain rfl : u = Value.ref a := rx
  refine getmeth_ok I1 hsl c hm hl ?_
  refine PySem.W.callWith_KW (first := [.ref a]) (h₀ := X.base) I1.ok.mod.kin hm.kp hall (thn (ha.run pos pins s1 σ H1 _ I1 q) fun us s2 ⟨ws, H2, I2, r, q2⟩ => ?_) hpl hst
  refine thn (hkw.run pos pins s2 σ H2 _ I2 q2) fun vz s3 ⟨zs, H3, I3, rz, l1, l2, q3⟩ => ⟨I3.kIn, ?_⟩
  rw [hks]
  exact run_fnKE (us := .ref a :: us) (vs := .ref a :: ws) F hr hb (hx σ) I3 (.cons rfl r) rz l1 l2 q3
theorem pe_methOK0 {pl : Sem Bool} (he : PE X o ta) (c : Cls X.K C) (hm : Meth X.K C m g) (F : FnOk X.prog X.w X.K X.mg X.base CX k g fd ps sp) (hr : Room k X.A) (hb : KBn X.K fd ps 1 ks gg gV) (hx : ∀ σ, PassesAt CX X σ (E σ)) (hkw : PK X kws tk)
    (hall : (backToKw pos (keywordEach kws X.env)).all (·.1.isSome) = true := by rfl) (hks : (backToKw pos (keywordEach kws X.env)).filterMap (·.1) = ks := by rfl)
    (hpl : ((backTo pos (starEach [] X.env)).any (·.1) || (backToKw pos (keywordEach kws X.env)).any (·.1.isNone)) = false := by rfl)
    (ht : eval (.Call (.Attribute o m apos) [] kws pos) X.env = (do
      let ov ← eval o X.env
      standAt apos.atName
      let (f, first) ← holding [ov] (getMethod ov m pl)
      callWith pos f first (backTo pos (starEach [] X.env)) (backToKw pos (keywordEach kws X.env))) := by rfl) :
    PE X (.Call (.Attribute o m apos) [] kws pos) (tMethOK C m 1 ks.length sp gV E ta tNil tk) := by
  refine ⟨fun pins s σ H Q I h => ?_⟩
  refine PySem.W.methodCall_KW (pl := pl) (thn (he.run pins s σ H _ I h) fun u s1 ⟨x, H1, I1, rx, a, dx, vs, ex, hsl, hl, q⟩ => ?_) ht
  subst ex
  obtain rfl : u = Value.ref a := rx
  refine getmeth_ok I1 hsl c hm hl ?_
  refine PySem.W.callWith_KW0 (first := [.ref a]) (h₀ := X.base) I1.ok.mod.kin hm.kp hall ?_ hpl
  refine thn (hkw.run pos pins s1 σ H1 _ I1 q) fun vz s3 ⟨zs, H3, I3, rz, l1, l2, q3⟩ => ⟨I3.kIn, ?_⟩
  rw [hks]
  exact run_fnKE (us := [.ref a]) (vs := [.ref a]) F hr hb (hx σ) I3 (.cons rfl .nil) rz l1 l2 q3
end
section
variable {X : Cx} {F0 : Pt} {o e : Expr} {es : List Expr} {kws : List Keyword} {pos apos : Pos} {m qual : Str} {C : Addr} {st : Stmt} {ps : List Str} {sp : Sp3} {W : WK} {te : TE3} {t tk : TA3} {k j : Nat}
def dMethOK (C : Addr) (mt : Str) (n m : Nat) (perm : List Nat) (sp : Sp3) (W : WK) (te : TE3) (t tk : TA3) : TE3 := fun sd G Q => te sd G fun d G1 => match d with
  | .ref p => (∃ dx fs, G1 p = some (.obj C dx fs) ∧ fs.lookup mt = none) ∧ t sd G1 fun xs G2 => tk sd G2 fun zs G3 => match lenIs n (D.ref p :: xs), lenIs m zs with
    | true, true => sp (pk perm ((.ref p :: xs) ++ zs)) G3 Q fun C fs G4 => W C fs sd G4
    | _, _ => False
  | _ => False
theorem low_methOK {mt : Str} {n mm : Nat} {perm : List Nat} {σ : L2.St} {H : Hp} {Q : VK} (h : low X.K F0 (dMethOK C mt n mm perm sp W te t tk) σ H Q) : tMethOK C mt n mm (dn X.K sp) (fun vs zs => pk perm (vs ++ zs)) (fun σ cls d H => lowW X.K F0 W cls d σ H) (low X.K F0 te) (lowA X.K F0 t) (lowA X.K F0 tk) σ H Q := by
  obtain ⟨sd, F, G, Q3, at_, h, kq⟩ := h
  refine ⟨sd, F, G, _, at_, h, fun d v F1 G1 H1 l1 r1 q1 => ?_⟩
  cases d <;> first | exact q1.elim | skip
  · cases r1
    obtain ⟨⟨dx, fs, eg, el⟩, q1⟩ := q1
    obtain ⟨_, ws0, hp, rf⟩ := own_obj l1.cp eg
    refine ⟨_, dx, _, rfl, hp, rf.none el, sd, F1, G1, _, at_.step l1, q1, fun xs us F2 G2 H2 l2 r2 q2 => ⟨sd, F2, G2, _, (at_.step l1).step l2, q2, fun zs ws F3 G3 H3 l3 r3 q3 => ?_⟩⟩
    split at q3
    · rename_i e1 e2
      have e1 := lenIs_ok e1
      have e2 := lenIs_ok e2
      refine ⟨?_, ?_, _, F3, G3, Q3, _, l3.cp, pk_repL ((RepL.cons (.ref _) (r2.mono l3.le)).append r3) perm, q3, kq.mono ((l1.trans l2).trans l3), low_w (((at_.step l1).step l2).step l3)⟩
      · rw [List.length_cons, ← r2.length, ← e1, List.length_cons]
      · rw [← r3.length]; exact e2
    · exact q3.elim
theorem de_methOK {ks : List Str} (perm : List Nat) {pl : Sem Bool} (c : MetOF X.prog X.w X.K X.mg X.base k C m qual st ps sp) (hr : Room j X.A) (tkx : Takes X (lowW X.K F0 W)) (ho : DE X F0 o te) (ha : DA X F0 (e :: es) t) (hkw : DK3 X F0 kws tk)
    (hb : ∀ (kV doc pm : Value) (an : Option Addr) (cdv ct : Value) (us ws : List Value), us.length = (e :: es).length + 1 → ws.length = ks.length → bindArgs (PySem.W.fnOf m qual (defArgs st) (defBody st) (defScope st) .none kV doc pm an cdv ct) ⟨us, ks.zip ws⟩ = pure (ps.zip (pk perm (us ++ ws))))
    (hk : k ≤ j := by decide) (hall : (backToKw pos (keywordEach kws X.env)).all (·.1.isSome) = true := by rfl) (hks : (backToKw pos (keywordEach kws X.env)).filterMap (·.1) = ks := by rfl)
    (hst : starEach (e :: es) X.env = (false, eval e X.env) :: starEach es X.env := by rfl) (hpl : ((backTo pos (starEach (e :: es) X.env)).any (·.1) || (backToKw pos (keywordEach kws X.env)).any (·.1.isNone)) = false := by rfl)
    (ht : eval (.Call (.Attribute o m apos) (e :: es) kws pos) X.env = (do
      let ov ← eval o X.env
      standAt apos.atName
      let (f, first) ← holding [ov] (getMethod ov m pl)
      callWith pos f first (backTo pos (starEach (e :: es) X.env)) (backToKw pos (keywordEach kws X.env))) := by rfl) :
    DE X F0 (.Call (.Attribute o m apos) (e :: es) kws pos) (dMethOK C m ((e :: es).length + 1) ks.length perm sp W te t tk) := by
  obtain ⟨g, fd, hm, F, b, h⟩ := c.ex
  exact PE.imp (pe_methOK (E := fun σ cls d H => lowW X.K F0 W cls d σ H) ho c.c hm h (hr.mono hk) (kbn F hb) (fun σ => passAt tkx σ) ha hkw hall hks hst hpl ht) fun _ _ _ h => low_methOK h
theorem de_methOK0 {ks : List Str} (perm : List Nat) {pl : Sem Bool} (c : MetOF X.prog X.w X.K X.mg X.base k C m qual st ps sp) (hr : Room j X.A) (tkx : Takes X (lowW X.K F0 W)) (ho : DE X F0 o te) (hkw : DK3 X F0 kws tk)
    (hb : ∀ (kV doc pm : Value) (an : Option Addr) (cdv ct : Value) (us ws : List Value), us.length = 1 → ws.length = ks.length → bindArgs (PySem.W.fnOf m qual (defArgs st) (defBody st) (defScope st) .none kV doc pm an cdv ct) ⟨us, ks.zip ws⟩ = pure (ps.zip (pk perm (us ++ ws))))
    (hk : k ≤ j := by decide) (hall : (backToKw pos (keywordEach kws X.env)).all (·.1.isSome) = true := by rfl) (hks : (backToKw pos (keywordEach kws X.env)).filterMap (·.1) = ks := by rfl)
    (hpl : ((backTo pos (starEach [] X.env)).any (·.1) || (backToKw pos (keywordEach kws X.env)).any (·.1.isNone)) = false := by rfl)
    (ht : eval (.Call (.Attribute o m apos) [] kws pos) X.env = (do
      let ov ← eval o X.env
      standAt apos.atName
      let (f, first) ← holding [ov] (getMethod ov m pl)
      callWith pos f first (backTo pos (starEach [] X.env)) (backToKw pos (keywordEach kws X.env))) := by rfl) :
    DE X F0 (.Call (.Attribute o m apos) [] kws pos) (dMethOK C m 1 ks.length perm sp W te dNil tk) := by
  obtain ⟨g, fd, hm, F, b, h⟩ := c.ex
  exact PE.imp (pe_methOK0 (E := fun σ cls d H => lowW X.K F0 W cls d σ H) ho c.c hm h (hr.mono hk) (kbn F hb) (fun σ => passAt tkx σ) hkw hall hks hpl ht) fun σ H Q h => by
    obtain ⟨sd, F', G, Q3, at_, h1, k1⟩ := low_methOK h
    refine ⟨sd, F', G, Q3, at_, h1, fun d v F1 G1 H1 l r q => ?_⟩
    obtain ⟨a, dx, vs, e, sl, hl, z⟩ := k1 d v F1 G1 H1 l r q
    obtain ⟨sd2, F2, G2, Q2, at2, h2, k2⟩ := z
    exact ⟨a, dx, vs, e, sl, hl, k2 [] [] F2 G2 H1 (Ext.refl at2.cp) .nil h2⟩
end
/-! an own list is compared with data by != -/
section
variable {K : PySem.W.Frag}
def rNeR : R3 := fun x y G Q => match x with
  | .ref p => ∃ ds d e, G p = some (.lst ds) ∧ toData (.lst ds) = some d ∧ toData y = some e ∧ SeqAt.shaped d = true ∧ SeqAt.shaped e = true ∧ Q (.bl (!PyData.eqv d e)) G
  | _ => False
theorem dc_neR : OpD K (rNeD K) rNeR := by
  intro F G H x y dx dy Q Q3 c rx ry h k
  unfold rNeR at h
  split at h
  · obtain ⟨ds, d, e, hg, h1, h2, h3, h4, q⟩ := h
    cases rx
    obtain ⟨_, vs, hp, rl⟩ := own_lst c hg
    unfold toData at h1
    obtain ⟨ps, e1, e2⟩ := Option.map_eq_some_iff.mp h1
    subst e2
    exact ⟨_, e, .lst (.inl (.inl hp)) (rep_dpl c.frz rl e1), rep_dp c.frz ry h2, h3, h4, k _ _ _ _ _ (Ext.refl c) (.bl _) q⟩
  · exact h.elim
theorem op_neR {X : Cx} {j : Nat} (hr : Room j X.A) : OpR X (compareOp .NotEq) (rNeD X.K) := op_neD hr.units
end
end L3
set_option Elab.async false
set_option linter.all false
set_option maxRecDepth 100000
set_option maxHeartbeats 4000000
/-! sum of a list of ints and bools -/
namespace OwO
open PySem PySem.Spec PyProof.Rows PySem.W
theorem sum_numsB {prog : Program} {w : World} {A : Around} {E : Value → Shared → Prop} {s : Shared} {l : Addr} {items : Array Value} {Q : Value → Shared → Prop} (hh : A.handled = none) (hl : s.heap.IsList l items) (val : Nat → Int)
    (hv : ∀ i v, items[i]? = some v → NumOf (val i) v) (h : ∀ h' tk t', (∀ b o, s.heap.get? b = some o → h'.get? b = some o) → Q (.int (preSum val items.size) t') { s with heap := h', toks := tk }) :
    wpAny (model prog w) A (call (.builtin "sum") [.ref l]) Q E s := by
  obtain ⟨o, ho, _⟩ := id hl
  have hne : l ≠ s.heap.objs.size := Nat.ne_of_lt (Heap.lt_size ho)
  have W := (Walks.list (prog := prog) (w := w) (A := A.in1) hh s.heap.objs.size l hne items).toS
  refine call_sum_walkAnyB (wpAny_pyIter_list hl ?_)
  refine ⟨s.heap.objs.size, _, _, _, _, _, _, val, rfl, W, ⟨⟨_, Heap.get?_push_size _ rfl, rfl, rfl⟩, hl.push _⟩, fun b hb => ?_, fun i v hP => hv i v hP, fun s' t' hm => ?_⟩
  · rcases List.mem_cons.mp hb with rfl | hb
    · exact Heap.lt_size (Heap.get?_push_size _ rfl)
    · obtain rfl := List.mem_singleton.mp hb
      exact Heap.lt_size (Heap.get?_push_of_some _ ho)
  · obtain ⟨h', g', d', tk', os'⟩ := s'
    have e1 : g' = s.gens := hm.gens
    have e2 : d' = s.drawn := hm.drawn
    have e3 : os' = s.os := hm.os
    subst e1 e2 e3
    exact h h' tk' t' fun b o e => hm.heap b o (fun hb => absurd (Heap.lt_size e) ((List.mem_singleton.mp hb) ▸ Nat.lt_irrefl _)) (Heap.get?_push_of_some _ e)
theorem preSum_get (ns : List Int) : ∀ k, preSum (fun i => ns.getD i 0) k = (ns.take k).sum
  | 0 => rfl
  | k + 1 => by
    show preSum (fun i => ns.getD i 0) k + ns.getD k 0 = _
    rw [preSum_get ns k, List.take_add_one, List.sum_append]
    cases h : ns[k]? with
    | none => simp [List.getD, h]
    | some x => simp [List.getD, h]
end OwO
namespace L3
open PySem PySem.Spec PyProof.Rows L2 PySem.Calls
def numD : D → Option Int
  | .int i => some i
  | .bl b => some (if b then 1 else 0)
  | _ => none
def numsD : List D → Option (List Int)
  | [] => some []
  | d :: ds => match numD d, numsD ds with
    | some n, some ns => some (n :: ns)
    | _, _ => none
theorem numsD_map (f : Nat → Int) : True := trivial
theorem numsD_ints {α : Type} (f : α → Int) : ∀ l : List α, numsD (l.map fun x => D.int (f x)) = some (l.map f)
  | [] => rfl
  | a :: l => by
    show (match numD (.int (f a)), numsD (l.map fun x => D.int (f x)) with | some n, some ns => some (n :: ns) | _, _ => none) = _
    rw [numsD_ints f l]
    rfl
theorem numsD_bls {α : Type} (f : α → Bool) : ∀ l : List α, numsD (l.map fun x => D.bl (f x)) = some (l.map fun x => if f x then 1 else 0)
  | [] => rfl
  | a :: l => by
    show (match numD (.bl (f a)), numsD (l.map fun x => D.bl (f x)) with | some n, some ns => some (n :: ns) | _, _ => none) = _
    rw [numsD_bls f l]
    rfl
theorem nums_at {K : PySem.W.Frag} {F : Hp} : ∀ {ds : List D} {ns : List Int} {vs : List V} {us : List Value}, numsD ds = some ns → RepL K F ds vs → Vals vs us → us.length = ns.length ∧ ∀ i v, us[i]? = some v → NumOf (ns.getD i 0) v
  | [], _, _, _, e, r, rv => by
    cases e
    cases r
    cases rv
    exact ⟨rfl, fun i v h => by simp at h⟩
  | d :: ds, ns, _, _, e, .cons r rl, .cons rv rs => by
    unfold numsD at e
    split at e
    · rename_i n ns' e1 e2
      cases e
      obtain ⟨h1, h2⟩ := nums_at e2 rl rs
      refine ⟨congrArg Nat.succ h1, fun i v h => ?_⟩
      cases i with
      | zero =>
        have hv : _ = v := Option.some.inj h
        subst hv
        cases d <;> first | (cases e1; done) | skip
        · cases r
          cases e1
          exact .inr ⟨_, rv, rfl⟩
        · cases r
          cases e1
          obtain ⟨t, rfl⟩ := rv
          exact .inl ⟨t, rfl⟩
      | succ i => exact h2 i v h
    · cases e
def rSumB : List D → Gp → DK → Prop := fun ds G Q => match ds with
  | [.lst xs] => ∃ ns, numsD xs = some ns ∧ Q (.int ns.sum) G
  | _ => False
theorem call_sumB {X : Cx} (hc : X.calm = true) : CallR X (.builtin "sum") (lowCall X.K rSumB) := by
  intro pins s σ H xs us Q I r ⟨ds, F, G, Q3, c, rl, h, kq⟩
  unfold rSumB at h
  split at h
  · obtain ⟨ns, en, q⟩ := h
    obtain ⟨v, rfl, rv⟩ := rl.inv1
    obtain ⟨u, rfl, ru⟩ := vals1 r
    cases rv with
    | lst hF rl2 =>
      cases (show u = Value.ref _ from ru)
      obtain ⟨its, rvs, hl, _⟩ := I.list (SqL.of (c.frz _ _ hF))
      obtain ⟨e1, e2⟩ := nums_at en rl2 rvs
      refine OwO.sum_numsB (I.ok.hd hc) hl.isList (fun i => ns.getD i 0) (fun i v e => e2 i v (by simpa using e)) fun h' tk t' hk => ?_
      have e3 : preSum (fun i => ns.getD i 0) its.toArray.size = ns.sum := by
        rw [OwO.preSum_get, List.size_toArray, e1, List.take_length]
      rw [e3]
      exact ⟨.int _, H, I.kept hk, ⟨_, rfl⟩, kq _ _ _ _ _ (Ext.refl c) (.int _) q⟩
  · exact h.elim
/-! x += e, ints -/
section
variable {X : Cx} {F0 : Pt} {e : Expr} {te : TE3} {pos : Pos}
def dAugI (i : Nat) (te : TE3) : TS3 := fun D sd G => match sget sd i with
  | some (.int a) => te sd G fun y G1 => match y with
    | .int b => sput (fun sd' => D.nx sd' G1) (some (.int (a + b))) sd i
    | _ => False
  | _ => False
theorem ds_augI (i : Nat) {x : Str} {pos' : Pos} (hN : X.N.Nodup) (he : DE X F0 e te) (hi : X.N[i]? = some x := by rfl) (hx : Loc X.env.scope x := by first | exact Or.inl rfl | exact Or.inr rfl) (hf : X.fn x = true ∨ X.env.scope.names.lookup x = some .local := by first | exact .inl rfl | exact .inr rfl) :
    DS X F0 (.AugAssign (.Name x pos') .Add e pos) (dAugI i te) := by
  refine PS.imp (ps_aug (ti := L2.rAdd) hN hi hx he (fun pins s σ H x y v u Q I rx ry h => in_add pins s σ H x y v u Q I rx ry h) hf) fun D σ H ⟨sd, F, G, D3, at_, h, k⟩ => ?_
  unfold dAugI at h
  split at h
  · rename_i a ea
    obtain ⟨v, ev, rv⟩ := at_.rs.at_ i _ (sget_at ea)
    cases rv
    refine ⟨_, ev, sd, F, G, _, at_, h, fun d v F1 G1 H1 l r q => ?_⟩
    cases d <;> first | exact q.elim | skip
    cases r
    exact ⟨_, _, rfl, rfl, k.nx _ _ _ _ _ l ((at_.rs.mono l.le).set i (.int _)) (sput_set q)⟩
  · exact h.elim
end
/-! for a, b in (lists) of a comprehension -/
theorem tgt_tl {K : PySem.W.Frag} {vs : List Nat} {n : Nat} {u : TGs} {u3 : TGs3} (h : TgtsOk K vs u u3) : TgtOk K vs (fun v σ H Q => gTup K n u v σ H Q ∨ gLst K n u v σ H Q) (gTL n u3) := fun F sd G σ H d v Q3 Q c rs r q k => by
  unfold gTL at q
  split at q
  · rename_i ds
    cases el : lenIs n ds with
    | false => rw [el] at q; exact q.elim
    | true =>
      rw [el] at q
      cases r with
      | tup s rl => exact .inl ⟨_, _, rfl, sqT_mono c.frz s, by rw [← rl.length]; exact lenIs_ok el, h F sd G σ H ds _ Q3 Q c rs rl q k⟩
  · rename_i ds
    cases el : lenIs n ds with
    | false => rw [el] at q; exact q.elim
    | true =>
      rw [el] at q
      cases r with
      | lst s rl => exact .inr ⟨_, _, rfl, SqL.of (c.frz _ _ s), by rw [← rl.length]; exact lenIs_ok el, h F sd G σ H ds _ Q3 Q c rs rl q k⟩
  · rename_i ds
    cases el : lenIs n ds with
    | false => rw [el] at q; exact q.elim
    | true =>
      rw [el] at q
      cases r with
      | scr s rl => exact .inr ⟨_, _, rfl, sqL_mono c.frz s, by rw [← rl.length]; exact lenIs_ok el, h F sd G σ H ds _ Q3 Q c rs rl q k⟩
  · exact q.elim
theorem pg_tl {X : Cx} {es : List Expr} {k : Nat} {pos : Pos} {t : TGs} {n : Nat} (hc : X.calm = true) (h : PGs X es t) (hn : (assignEach es X.env).length = n := by rfl) (hst : (assignEach es X.env).findIdx? (·.1) = none := by rfl) :
    PG X (.Tuple es k pos) (fun v σ H Q => gTup X.K n t v σ H Q ∨ gLst X.K n t v σ H Q) := PG.or (pg_tup hc h hn hst) (pg_lst hc h hn hst)
end L3

set_option Elab.async false
set_option linter.all false
set_option maxRecDepth 100000
set_option maxHeartbeats 4000000
namespace TS
open PySem PySem.Spec PyProof.Rows L2 L3
/-- what the text leaves behind its top -/
structure Txt (K : PySem.W.Frag) (mg : Str → Option Value) (aKind : Addr) (aBook : Addr) (aJourney : Addr) : Prop where
  B : Blt mg
  sys : SysM K
  g_MOST_KINDS : ∃ t, mg "MOST_KINDS" = some (.int 4 t)
  g_MOST_ROWS : ∃ t, mg "MOST_ROWS" = some (.int 6 t)
  g_MOST_PERIOD : ∃ t, mg "MOST_PERIOD" = some (.int 6 t)
  g_DIGITS : ∃ t, mg "DIGITS" = some (.str "0123456789" t)
  g_LETTERS : ∃ t, mg "LETTERS" = some (.str "abcdefghijklmnopqrstuvwxyz" t)
  g_Kind : mg "Kind" = some (.ref aKind)
  is_Kind : IsC K aKind
  sl_Kind_shape : Sl1 K aKind "shape" 0
  ap_Kind_Book : Apart K aKind aBook
  nf_Kind_Book : PySem.W.notFirst K aKind (.ref aBook) = true
  eq_Kind : EqC K aKind
  tr_Kind : TrC K aKind
  nf_Kind : PySem.W.notFirst K aKind (.ref aKind) = true
  g_Book : mg "Book" = some (.ref aBook)
  is_Book : IsC K aBook
  sl_Book_lines : Sl1 K aBook "lines" 0
  sl_Book_shape : Sl1 K aBook "shape" 1
  ap_Book_Kind : Apart K aBook aKind
  nf_Book_Kind : PySem.W.notFirst K aBook (.ref aKind) = true
  eq_Book : EqC K aBook
  tr_Book : TrC K aBook
  nf_Book : PySem.W.notFirst K aBook (.ref aBook) = true
  g_Journey : mg "Journey" = some (.ref aJourney)
  oc_Journey : Cls K aJourney
  eo_Journey : EqOb K aJourney
  fl_Journey_past : Fl1 K aJourney "past"
  fl_Journey_book : Fl1 K aJourney "book"
  fl_Journey_length : Fl1 K aJourney "length"
  fl_Journey_start : Fl1 K aJourney "start"
  d_is_integer : DefAt K mg "is_integer" s_is_integer ["value"]
  d_is_name : DefAt K mg "is_name" s_is_name ["value"]
  d_written_integer : DefAt K mg "written_integer" s_written_integer ["word"]
  d_is_within : DefAt K mg "is_within" s_is_within ["word", "low", "high"]
  d_is_where : DefAt K mg "is_where" s_is_where ["words"]
  d_is_row : DefAt K mg "is_row" s_is_row ["value"]
  d_common_multiple : DefAt K mg "common_multiple" s_common_multiple ["one", "other"]
  d_Kind_init : MakeAt K mg "Kind" aKind "Kind.__init__" s_Kind_init
  d_Kind_name : PropAt K aKind "name" "Kind.name" s_Kind_name
  d_Kind_pace : PropAt K aKind "pace" "Kind.pace" s_Kind_pace
  d_Kind_halt : PropAt K aKind "halt" "Kind.halt" s_Kind_halt
  d_Kind_wait : PropAt K aKind "wait" "Kind.wait" s_Kind_wait
  d_Kind_rows : PropAt K aKind "rows" "Kind.rows" s_Kind_rows
  d_Kind_eq : MethAt K aKind "__eq__" "Kind.__eq__" s_Kind_eq ["self", "other"]
  d_numbers_of : DefAt K mg "numbers_of" s_numbers_of ["kinds", "word"]
  d_period_of : DefAt K mg "period_of" s_period_of ["kinds"]
  d_check_kinds : DefAt K mg "check_kinds" s_check_kinds ["kinds"]
  d_kind_lines : DefAt K mg "kind_lines" s_kind_lines ["kind"]
  d_Book_init : MakeAt K mg "Book" aBook "Book.__init__" s_Book_init
  d_Book_str : MethAt K aBook "__str__" "Book.__str__" s_Book_str ["self"]
  d_read_kind : DefAt K mg "read_kind" s_read_kind ["lines"]
  d_read_lines : DefAt K mg "read_lines" s_read_lines ["lines"]
  d_text_book : DefAt K mg "text_book" s_text_book ["value"]
  d_Book_read : ClsMAt K aBook "read" "Book.read" s_Book_read ["cls", "text"]
  d_Book_kinds : PropAt K aBook "kinds" "Book.kinds" s_Book_kinds
  d_Book_kind_of : MethAt K aBook "kind_of" "Book.kind_of" s_Book_kind_of ["self", "kind"]
  d_Book_changed : MethAt K aBook "changed" "Book.changed" s_Book_changed ["self", "changes"]
  d_Book_eq : MethAt K aBook "__eq__" "Book.__eq__" s_Book_eq ["self", "other"]
  d_Book_repr : MethAt K aBook "__repr__" "Book.__repr__" s_Book_repr ["self"]
  d_check_book : DefAt K mg "check_book" s_check_book ["value"]
  d_does_fit : DefAt K mg "does_fit" s_does_fit ["row", "front", "back"]
  d_stands : DefAt K mg "stands" s_stands ["kind", "front", "back"]
  d_check_length : DefAtD K mg "check_length" s_check_length [.non]
  d_check_station : DefAt K mg "check_station" s_check_station ["value", "low", "high"]
  d_stops_there : DefAt K mg "stops_there" s_stops_there ["kind", "length", "station"]
  d_count_stops : DefAt K mg "count_stops" s_count_stops ["kind", "length", "low", "high"]
  d_ride_time : DefAt K mg "ride_time" s_ride_time ["kind", "length", "start", "goal"]
  d_Journey_init : MakeAt K mg "Journey" aJourney "Journey.__init__" s_Journey_init
  d_Journey_station : PropAt K aJourney "station" "Journey.station" s_Journey_station
  d_Journey_rides : PropAt K aJourney "rides" "Journey.rides" s_Journey_rides
  d_Journey_time : PropAt K aJourney "time" "Journey.time" s_Journey_time
  d_Journey_len : MethAt K aJourney "__len__" "Journey.__len__" s_Journey_len ["self"]
  d_Journey_bool : MethAt K aJourney "__bool__" "Journey.__bool__" s_Journey_bool ["self"]
  d_Journey_take : MethAt K aJourney "take" "Journey.take" s_Journey_take ["self", "kind", "goal"]
  d_Journey_undo : MethAt K aJourney "undo" "Journey.undo" s_Journey_undo ["self"]
  d_Journey_trial : MethAt K aJourney "trial" "Journey.trial" s_Journey_trial ["self"]
  d_Journey_tried : MethAt K aJourney "tried" "Journey.tried" s_Journey_tried ["self", "action"]
  d_law_cell : DefAt K mg "_law_cell" s_law_cell ["_law_script", "_law_spot"]
  d_law_pool : DefAt K mg "_law_pool" s_law_pool ["_law_cell_here"]
  d_law_draw : DefAt K mg "_law_draw" s_law_draw ["_law_pool_here", "_law_many"]
  d_law_pick : DefAt K mg "_law_pick" s_law_pick ["_law_pool_here", "_law_things_here"]
  d_law_great : DefAt K mg "_law_great" s_law_great ["_law_pool_here"]
  d_law_words : DefAt K mg "_law_words" s_law_words []
  d_law_tag : DefAt K mg "_law_tag" s_law_tag ["_law_pool_here"]
  d_law_tags : DefAt K mg "_law_tags" s_law_tags ["_law_pool_here", "_law_many"]
  d_law_mark : DefAt K mg "_law_mark" s_law_mark ["_law_pool_here", "_law_span"]
  d_law_minutes : DefAt K mg "_law_minutes" s_law_minutes ["_law_pool_here", "_law_limit"]
  d_law_kind : DefAt K mg "_law_kind" s_law_kind ["_law_pool_here", "_law_tag_here", "_law_span"]
  d_law_scheme : DefAt K mg "_law_scheme" s_law_scheme ["_law_pool_here", "_law_limit"]
  d_law_text : DefAt K mg "_law_text" s_law_text ["_law_scheme_here"]
  d_law_things : DefAt K mg "_law_things" s_law_things ["_law_scheme_here"]
  d_law_made : DefAt K mg "_law_made" s_law_made ["_law_pool_here", "_law_scheme_here"]
  d_law_spans : DefAt K mg "_law_spans" s_law_spans ["_law_marks"]
  d_law_common : DefAt K mg "_law_common" s_law_common ["_law_spans_here"]
  d_law_fits : DefAt K mg "_law_fits" s_law_fits ["_law_mark_here", "_law_size", "_law_place"]
  d_law_calls : DefAt K mg "_law_calls" s_law_calls ["_law_marks", "_law_size", "_law_place"]
  d_law_count : DefAt K mg "_law_count" s_law_count ["_law_marks", "_law_size", "_law_low", "_law_high"]
  d_law_ride_time : DefAt K mg "_law_ride_time" s_law_ride_time ["_law_row", "_law_size", "_law_begin", "_law_end"]
  d_law_near : DefAt K mg "_law_near" s_law_near ["_law_pool_here", "_law_size"]
  d_law_stage : DefAt K mg "_law_stage" s_law_stage ["_law_pool_here", "_law_limit"]
  d_law_some_ride : DefAt K mg "_law_some_ride" s_law_some_ride ["_law_pool_here", "_law_scheme_here", "_law_size", "_law_here_here"]
  d_law_journey_seen : DefAt K mg "_law_journey_seen" s_law_journey_seen ["_law_thing"]
  d_law_journey_due : DefAt K mg "_law_journey_due" s_law_journey_due ["_law_begin", "_law_model"]
  d_law_rode : DefAt K mg "_law_rode" s_law_rode ["_law_size", "_law_model", "_law_here_here", "_law_row", "_law_goal_here"]
  d_law_here : DefAt K mg "_law_here" s_law_here ["_law_begin", "_law_model"]
  d_law_right : DefAt K mg "_law_right" s_law_right ["_law_pool_here"]
  d_law : DefAt K mg "law" s_law ["_law_script"]
variable {P : Program} {w : World} {K : PySem.W.Frag} {mg : Str → Option Value} {base : Heap} {aKind aBook aJourney : Addr}
/-- an int other than True, False -/
def isI : D → Option Bool
  | .int _ => some true
  | .non | .bl _ | .str _ | .tup _ | .lst _ | .scr _ | .dic _ => some false
  | _ => none
def sp_is_integer : Sp3 := sp1 fun v G Q _ => ∃ b, isI v = some b ∧ Q (.bl b) G

theorem c_is_integer (T : Txt K mg aKind aBook aJourney) : Cal3 P w K mg base 1 "is_integer" sp_is_integer [] := cal3 (T.d_is_integer) sc_is_integer (by decide) len1 fun f cdv A outer s H E o E3 hr tk hp => ⟨_,
    have hN := sc_is_integer.nd
    (dss_one (ds_ret (de_and (de_isi .int (de_var 0) T.B.isinstance T.B.int (by decide +kernel)) (de_one (de_not (de_isi .bool (de_var 0) T.B.isinstance T.B.bool (by decide +kernel))))))), by
    intro ds G Q h
    obtain ⟨v, rfl, b, e, q⟩ := in1 h
    conv => whnf
    cases v <;> simp only [isI] at e <;> first | (cases e) | skip
    all_goals conv => whnf
    all_goals exact ret_id q⟩
def LETS : Str := "abcdefghijklmnopqrstuvwxyz"
def DIGS : Str := "0123456789"
def isName (x : Str) : Bool := match x.cps.toList with
  | [] => false
  | c :: cs => decide (cs.length < 8) && (decide (c ∈ LETS.cps.toList) && (c :: cs).all fun d => decide (d ∈ LETS.cps.toList) || decide (d ∈ DIGS.cps.toList))
def sp_is_name : Sp3 := sp1 fun v G Q _ => ∃ x : Str, v = .str x ∧ x.length < sizeLine ∧ Q (.bl (isName x)) G
theorem bls_all {α : Type} (p : α → Bool) : ∀ l : List α, blsOf (l.map fun a => D.bl (p a)) = some (l.map p)
  | [] => rfl
  | a :: l => by
    show (blsOf (l.map fun a => D.bl (p a))).map (p a :: ·) = _
    rw [bls_all p l]
    rfl
theorem all_map_id {α : Type} (p : α → Bool) (l : List α) : (l.map p).all id = l.all p := by rw [List.all_map]; rfl
theorem in_lets {c : Nat} : (!(Builtin.Str.occurrences LETS ⟨#[c]⟩ 0 LETS.length 1).isEmpty) = decide (c ∈ LETS.cps.toList) := in_one
theorem in_digs {c : Nat} : (!(Builtin.Str.occurrences DIGS ⟨#[c]⟩ 0 DIGS.length 1).isEmpty) = decide (c ∈ DIGS.cps.toList) := in_one

theorem c_is_name (T : Txt K mg aKind aBook aJourney) : Cal3 P w K mg base 1 "is_name" sp_is_name [] := cal3 (T.d_is_name) sc_is_name (by decide) len1 fun f cdv A outer s H E o E3 hr tk hp => ⟨_,
    have hN := sc_is_name.nd
    (dss_cons (ds_if (dt_bool (dw_or (dt_not (dt_val (de_isi .str (de_var 0) T.B.isinstance T.B.str (by decide +kernel)))) (dw_or (dt_not (dt_chain op_le op_le dc_le dc_le de_int (de_callB call_len cd_len rfl T.B.len (by decide +kernel) (da_cons (de_var 0) da_nil)) de_int)) (dw_or1 (dt_cmp op_notinA dc_notin (de_ix (de_var 0) de_int) (de_gstr rfl T.g_LETTERS) rfl))))) (dss_one (ds_ret de_bl)) dss_nil)
      (dss_one (ds_ret (de_callB (cr_all rfl) cd_all rfl T.B.all (by decide +kernel) (da_cons (de_lc [("sign", 1)] rfl hN (tgt_name (i := 1) (by decide)) (di_any (de_var 0)) (blkOk_by (N := N_is_name) (sc := (defScope s_is_name)) (own := [("sign", 1)]) (by decide +kernel)) (fun _ _ _ _ _ => (pg_name (i := 1) hN rfl (by first | exact Or.inl rfl | exact Or.inr rfl))) (fun _ _ _ _ _ => dts_nil) (fun _ _ _ _ _ => (de_or (de_cmp op_inA dc_in (de_var 1) (de_gstr rfl T.g_LETTERS) rfl) (de_one (de_cmp op_inA dc_in (de_var 1) (de_gstr rfl T.g_DIGITS) rfl))))) da_nil))))), by
    intro ds G Q h
    obtain ⟨v, rfl, x, rfl, hz, q⟩ := in1 h
    obtain ⟨⟨l⟩⟩ := x
    have hz' : l.length < sizeLine := hz
    conv => whnf
    refine ⟨Nat.le_of_lt hz, ?_⟩
    conv => whnf
    refine br_cases (fun h1 => ?_) (fun h1 => ?_)
    · conv => whnf
      have h1 := of_decide_eq_true h1
      refine br_cases (fun h2 => ?_) (fun h2 => ?_)
      · conv => whnf
        have h2 := of_decide_eq_true h2
        refine ⟨Nat.le_of_lt hz, ?_⟩
        cases l with
        | nil => exact absurd h1 (by decide)
        | cons c cs =>
          have hl : cs.length < 8 := by
            have h2 : ((cs.length + 1 : Nat) : Int) ≤ 8 := h2
            omega
          conv => whnf
          refine br_cases (fun h3 => ?_) (fun h3 => ?_)
          · conv => whnf
            have h3 : (!(!(Builtin.Str.occurrences LETS ⟨#[c]⟩ 0 LETS.length 1).isEmpty)) = true := h3
            rw [in_lets] at h3
            refine ret_id ?_
            have e : isName ⟨⟨c :: cs⟩⟩ = false := by
              show (_ && (decide (c ∈ LETS.cps.toList) && _)) = false
              rw [show decide (c ∈ LETS.cps.toList) = false by simpa using h3]
              simp
            rw [e] at q
            exact q
          · conv => whnf
            have h3 : (!(!(Builtin.Str.occurrences LETS ⟨#[c]⟩ 0 LETS.length 1).isEmpty)) = false := h3
            rw [in_lets] at h3
            refine ⟨by rw [signs_len]; exact hz, ?_⟩
            conv => whnf
            refine lc_map (fun d : Nat => D.bl (decide (d ∈ LETS.cps.toList) || decide (d ∈ DIGS.cps.toList))) (e := fun d : Nat => D.str ⟨#[d]⟩) (c :: cs) (fun d _ K' k => ?_) ?_
            · conv => whnf
              refine br_cases (fun h4 => ?_) (fun h4 => ?_)
              · have h4 : (!(Builtin.Str.occurrences LETS ⟨#[d]⟩ 0 LETS.length 1).isEmpty) = true := h4
                rw [in_lets] at h4
                rw [h4] at k
                exact k
              · have h4 : (!(Builtin.Str.occurrences LETS ⟨#[d]⟩ 0 LETS.length 1).isEmpty) = false := h4
                rw [in_lets] at h4
                conv => whnf
                show K' (.bl (!(Builtin.Str.occurrences DIGS ⟨#[d]⟩ 0 DIGS.length 1).isEmpty)) G
                rw [in_digs]
                rw [h4] at k
                exact k
            · show (match blsOf _ with | some bs => _ | none => False)
              rw [bls_all]
              refine ret_id ?_
              rw [all_map_id]
              have e : isName ⟨⟨c :: cs⟩⟩ = ((c :: cs).all fun d => decide (d ∈ LETS.cps.toList) || decide (d ∈ DIGS.cps.toList)) := by
                show (decide (cs.length < 8) && (decide (c ∈ LETS.cps.toList) && _)) = _
                rw [show decide (c ∈ LETS.cps.toList) = true by simpa using h3, decide_eq_true hl]
                rfl
              rw [e] at q
              exact q
      · conv => whnf
        have h2 := of_decide_eq_false h2
        refine ret_id ?_
        have e : isName ⟨⟨l⟩⟩ = false := by
          cases l with
          | nil => rfl
          | cons c cs =>
            have h2 : ¬ ((cs.length + 1 : Nat) : Int) ≤ 8 := h2
            show (decide (cs.length < 8) && _) = false
            rw [decide_eq_false (by omega)]
            rfl
        rw [e] at q
        exact q
    · conv => whnf
      have h1 := of_decide_eq_false h1
      refine ret_id ?_
      have e : isName ⟨⟨l⟩⟩ = false := by
        cases l with
        | nil => rfl
        | cons c cs =>
          have h1 : ¬ (1 : Int) ≤ ((cs.length + 1 : Nat) : Int) := h1
          omega
      rw [e] at q
      exact q⟩
/-! ### rows, kinds -/
def num (n : Nat) : Str := toString (n : Int)
inductive Wh where
  | all
  | first (n : Nat)
  | last (n : Nat)
  | every (m : Nat) (back : Bool) (n : Nat)
  deriving DecidableEq
structure Row where
  stop : Bool
  w : Wh
  deriving DecidableEq
def wordOf (b : Bool) : Str := if b then "stop " else "pass "
def rowText (r : Row) : Str := match r.w with
  | .all => wordOf r.stop ++ "all"
  | .first n => (wordOf r.stop ++ "first ") ++ num n
  | .last n => (wordOf r.stop ++ "last ") ++ num n
  | .every m b n => (((wordOf r.stop ++ "every ") ++ num m) ++ (if b then " back " else " from ")) ++ num n
def whWords : Wh → List Str
  | .all => ["all"]
  | .first n => ["first", num n]
  | .last n => ["last", num n]
  | .every m b n => ["every", num m, if b then "back" else "from", num n]
def rowWords (r : Row) : List Str := (if r.stop then "stop" else "pass") :: whWords r.w
def whOk : Wh → Bool
  | .all => true
  | .first n => decide (1 ≤ n) && decide (n ≤ 3)
  | .last n => decide (1 ≤ n) && decide (n ≤ 3)
  | .every m _ n => decide (1 ≤ n) && (decide (n ≤ m) && decide (m ≤ 6))
def allWh : List Wh := [.all, .first 1, .first 2, .first 3, .last 1, .last 2, .last 3] ++ ((List.range 6).map fun m => (List.range (m + 1)).map fun n => [Wh.every (m + 1) false (n + 1), Wh.every (m + 1) true (n + 1)]).flatten.flatten
def allRows : List Row := allWh.map (Row.mk true) ++ allWh.map (Row.mk false)
theorem split_rows : ∀ r ∈ allRows, Txt.split (rowText r) " " = rowWords r := by decide +kernel
theorem len_rows : ∀ r ∈ allRows, (rowText r).length ≤ 30 := by decide +kernel
theorem stop_rows : ∀ r ∈ allRows, Txt.startswith (rowText r) "stop" = r.stop := by decide +kernel
theorem kind_rows : ∀ r ∈ allRows, Txt.startswith (rowText r) "kind " = false := by decide +kernel
theorem num_facts : ∀ n ∈ List.range 61, Txt.startswith (num n) "-" = false ∧ num n ≠ "" ∧ (num n).length ≤ 2 ∧ ((num n).cps.toList.all fun c => decide (c ∈ ("0123456789" : Str).cps.toList)) = true ∧ PySem.intText? (num n) = some (n : Int) := by decide +kernel

def sp_written_integer : Sp3 := sp1 fun v G Q _ => ∃ n, n < 61 ∧ v = .str (num n) ∧ Q (.int (n : Nat)) G
theorem log2_lt {a k : Nat} (h : a < 2 ^ k) (hk : 0 < k) : a.log2 < k := by
  by_cases h0 : a = 0
  · subst h0
    simpa using hk
  · exact (Nat.log2_lt h0).mpr h

theorem c_written_integer (T : Txt K mg aKind aBook aJourney) : Cal3 P w K mg base 1 "written_integer" sp_written_integer [] := cal3 (T.d_written_integer) sc_written_integer (by decide) len1 fun f cdv A outer s H E o E3 hr tk hp => ⟨_,
    have hN := sc_written_integer.nd
    (dss_cons (ds_set 1 hN (de_if (dt_val (de_startswith (de_var 0) de_str)) (de_slice (de_var 0) (do_some de_int) do_none) (de_var 0)))
      (dss_cons (ds_if (dt_bool (dw_or (dt_cmp (op_eqA hr) dc_eq (de_var 1) de_str (nomark _)) (dw_or (dt_cmp op_gt dc_gt (de_callB call_len cd_len rfl T.B.len (by decide +kernel) (da_cons (de_var 1) da_nil)) de_int (nomark _)) (dw_or1 (dt_not (dt_val (de_callB (cr_all rfl) cd_all rfl T.B.all (by decide +kernel) (da_cons (de_lc [("sign", 2)] rfl hN (tgt_name (i := 2) (by decide)) (di_any (de_var 1)) (blkOk_by (N := N_written_integer) (sc := (defScope s_written_integer)) (own := [("sign", 2)]) (by decide +kernel)) (fun _ _ _ _ _ => (pg_name (i := 2) hN rfl (by first | exact Or.inl rfl | exact Or.inr rfl))) (fun _ _ _ _ _ => dts_nil) (fun _ _ _ _ _ => (de_cmp op_inA dc_in (de_var 2) (de_gstr rfl T.g_DIGITS) rfl))) da_nil)))))))) (dss_one (ds_ret de_non)) dss_nil)
      (dss_one (ds_ret (de_if (dt_cmp (op_eqA hr) dc_eq (de_callTy call_strA cd_str rfl T.B.str (by decide +kernel) (da_cons (de_callTy call_intA cd_int rfl T.B.int (by decide +kernel) (da_cons (de_var 0) da_nil)) da_nil)) (de_var 0) (nomark _)) (de_callTy call_intA cd_int rfl T.B.int (by decide +kernel) (da_cons (de_var 0) da_nil)) de_non))))), by
    intro ds G Q h
    obtain ⟨v, rfl, n, hn, rfl, q⟩ := in1 h
    obtain ⟨f1, f2, f3, f4, f5⟩ := num_facts n (List.mem_range.mpr hn)
    have small : (2 : Nat) < sizeLine := by decide
    conv => whnf
    rw [f1]
    conv => whnf
    refine br_cases (fun h1 => ?_) (fun h1 => ?_)
    · exact absurd (of_decide_eq_true h1) f2
    · conv => whnf
      refine ⟨by omega, ?_⟩
      conv => whnf
      refine br_cases (fun h2 => ?_) (fun h2 => ?_)
      · have h2 : (4000 : Int) < ((num n).length : Int) := of_decide_eq_true h2
        omega
      · conv => whnf
        refine ⟨by rw [signs_len]; omega, ?_⟩
        conv => whnf
        refine lc_map (fun d : Nat => D.bl (decide (d ∈ DIGS.cps.toList))) (e := fun d : Nat => D.str ⟨#[d]⟩) _ (fun d _ K' k => ?_) ?_
        · conv => whnf
          show K' (.bl (!(Builtin.Str.occurrences DIGS ⟨#[d]⟩ 0 DIGS.length 1).isEmpty)) G
          rw [in_digs]
          exact k
        · show (match blsOf _ with | some bs => _ | none => False)
          rw [bls_all]
          show asB _ (.bl (List.all _ id)) _
          rw [all_map_id, show ((num n).cps.toList.all fun c => decide (c ∈ DIGS.cps.toList)) = true from f4]
          conv => whnf
          have ab : ((n : Nat) : Int).natAbs.log2 < 1920 := log2_lt (Nat.lt_of_lt_of_le (show n < 2 ^ 6 by omega) (Nat.pow_le_pow_right (by decide) (by decide))) (by decide)
          refine ⟨n, f5, by omega, ab, ?_⟩
          conv => whnf
          refine br_cases (fun h4 => ?_) (fun h4 => ?_)
          · conv => whnf
            exact ⟨n, f5, by omega, ret_id q⟩
          · exact absurd rfl (of_decide_eq_false h4)⟩
def sp_is_within : Sp3 := sp3 fun v lo hi G Q _ => ∃ n a b, n < 61 ∧ v = .str (num n) ∧ lo = .int a ∧ hi = .int b ∧ Q (.bl (decide (a ≤ (n : Nat)) && decide (((n : Nat) : Int) ≤ b))) G

theorem c_is_within (T : Txt K mg aKind aBook aJourney) : Cal3 P w K mg base 2 "is_within" sp_is_within [] := cal3 (T.d_is_within) sc_is_within (by decide) len3 fun f cdv A outer s H E o E3 hr tk hp => ⟨_,
    have hN := sc_is_within.nd
    (dss_cons (ds_set 3 hN (de_call (c_written_integer T) hr tk (da_cons (de_var 0) da_nil)))
      (dss_one (ds_ret (de_and (de_cmp op_notN dc_notN (de_var 3) de_non (nomark _)) (de_one (de_chain op_le op_le dc_le dc_le (de_var 1) (de_var 3) (de_var 2))))))), by
    intro ds G Q h
    obtain ⟨v, lo, hi, rfl, n, a, b, hn, rfl, rfl, rfl, q⟩ := in3 h
    conv => whnf
    refine ⟨n, hn, rfl, ?_⟩
    conv => whnf
    refine br_cases (fun h1 => ?_) (fun h1 => ?_)
    · conv => whnf
      have h1 : decide (a ≤ ((n : Nat) : Int)) = true := h1
      rw [h1] at q
      exact ret_id q
    · conv => whnf
      have h1 : decide (a ≤ ((n : Nat) : Int)) = false := h1
      rw [h1] at q
      exact ret_id q⟩
def sp_is_where : Sp3 := sp1 fun v G Q _ => ∃ x, whOk x = true ∧ v = .lst ((whWords x).map D.str) ∧ Q (.bl true) G

theorem c_is_where (T : Txt K mg aKind aBook aJourney) : Cal3 P w K mg base 3 "is_where" sp_is_where [] := cal3 (T.d_is_where) sc_is_where (by decide) len1 fun f cdv A outer s H E o E3 hr tk hp => ⟨_,
    have hN := sc_is_where.nd
    (dss_cons (ds_if (dt_cmp (op_eqA hr) dc_eq (de_callB call_len cd_len rfl T.B.len (by decide +kernel) (da_cons (de_var 0) da_nil)) de_int (nomark _)) (dss_one (ds_ret (de_cmp (op_eqA hr) dc_eq (de_ix (de_var 0) de_int) de_str (nomark _)))) dss_nil)
      (dss_cons (ds_if (dt_cmp (op_eqA hr) dc_eq (de_callB call_len cd_len rfl T.B.len (by decide +kernel) (da_cons (de_var 0) da_nil)) de_int (nomark _)) (dss_one (ds_ret (de_and (de_cmp op_inA dc_in (de_ix (de_var 0) de_int) (de_tupS (da_cons de_str (da_cons de_str da_nil))) rfl) (de_one (de_call (c_is_within T) hr tk (da_cons (de_ix (de_var 0) de_int) (da_cons de_int (da_cons de_int da_nil)))))))) dss_nil)
      (dss_cons (ds_if (dt_bool (dw_or (dt_cmp (op_neA hr) dc_ne (de_callB call_len cd_len rfl T.B.len (by decide +kernel) (da_cons (de_var 0) da_nil)) de_int (nomark _)) (dw_or (dt_cmp (op_neA hr) dc_ne (de_ix (de_var 0) de_int) de_str (nomark _)) (dw_or (dt_cmp op_notinA dc_notin (de_ix (de_var 0) de_int) (de_tupS (da_cons de_str (da_cons de_str da_nil))) rfl) (dw_or1 (dt_not (dt_val (de_call (c_is_within T) hr tk (da_cons (de_ix (de_var 0) de_int) (da_cons de_int (da_cons de_int da_nil))))))))))) (dss_one (ds_ret de_bl)) dss_nil)
      (dss_one (ds_ret (de_call (c_is_within T) hr tk (da_cons (de_ix (de_var 0) de_int) (da_cons de_int (da_cons (de_callTy call_intA cd_int rfl T.B.int (by decide +kernel) (da_cons (de_ix (de_var 0) de_int) da_nil)) da_nil))))))))), by
    intro ds G Q h
    obtain ⟨v, rfl, x, hx, rfl, q⟩ := in1 h
    cases x with
    | all =>
      conv => whnf
      exact ret_id (by rw [decide_eq_true rfl]; exact q)
    | first n =>
      have hx : (decide (1 ≤ n) && decide (n ≤ 3)) = true := hx
      simp only [Bool.and_eq_true, decide_eq_true_eq] at hx
      conv => whnf
      refine ⟨by decide, _, _, rfl, rfl, ?_⟩
      conv => whnf
      refine ⟨n, 1, 3, by omega, rfl, rfl, rfl, ret_id ?_⟩
      rw [decide_eq_true (show (1 : Int) ≤ (n : Nat) by omega), decide_eq_true (show ((n : Nat) : Int) ≤ 3 by omega)]
      exact q
    | last n =>
      have hx : (decide (1 ≤ n) && decide (n ≤ 3)) = true := hx
      simp only [Bool.and_eq_true, decide_eq_true_eq] at hx
      conv => whnf
      refine ⟨by decide, _, _, rfl, rfl, ?_⟩
      conv => whnf
      refine ⟨n, 1, 3, by omega, rfl, rfl, rfl, ret_id ?_⟩
      rw [decide_eq_true (show (1 : Int) ≤ (n : Nat) by omega), decide_eq_true (show ((n : Nat) : Int) ≤ 3 by omega)]
      exact q
    | every m b n =>
      have hx : (decide (1 ≤ n) && (decide (n ≤ m) && decide (m ≤ 6))) = true := hx
      simp only [Bool.and_eq_true, decide_eq_true_eq] at hx
      obtain ⟨f1, f2, f3, f4, f5⟩ := num_facts m (List.mem_range.mpr (by omega))
      have small : (2 : Nat) < sizeLine := by decide
      cases b with
      | true =>
        conv => whnf
        refine ⟨by decide, _, _, rfl, rfl, ?_⟩
        conv => whnf
        refine ⟨m, 1, 6, by omega, rfl, rfl, rfl, ?_⟩
        rw [decide_eq_true (show (1 : Int) ≤ (m : Nat) by omega), decide_eq_true (show ((m : Nat) : Int) ≤ 6 by omega)]
        conv => whnf
        refine ⟨m, f5, by omega, ?_⟩
        refine ⟨n, 1, m, by omega, rfl, rfl, rfl, ret_id ?_⟩
        rw [decide_eq_true (show (1 : Int) ≤ (n : Nat) by omega), decide_eq_true (show ((n : Nat) : Int) ≤ (m : Nat) by omega)]
        exact q
      | false =>
        conv => whnf
        refine ⟨by decide, _, _, rfl, rfl, ?_⟩
        conv => whnf
        refine ⟨m, 1, 6, by omega, rfl, rfl, rfl, ?_⟩
        rw [decide_eq_true (show (1 : Int) ≤ (m : Nat) by omega), decide_eq_true (show ((m : Nat) : Int) ≤ 6 by omega)]
        conv => whnf
        refine ⟨m, f5, by omega, ?_⟩
        refine ⟨n, 1, m, by omega, rfl, rfl, rfl, ret_id ?_⟩
        rw [decide_eq_true (show (1 : Int) ≤ (n : Nat) by omega), decide_eq_true (show ((n : Nat) : Int) ≤ (m : Nat) by omega)]
        exact q⟩
theorem ok_rows : ∀ r ∈ allRows, whOk r.w = true := by decide +kernel
def sp_is_row : Sp3 := sp1 fun v G Q _ => ∃ r, r ∈ allRows ∧ v = .str (rowText r) ∧ Q (.bl true) G

theorem c_is_row (T : Txt K mg aKind aBook aJourney) : Cal3 P w K mg base 4 "is_row" sp_is_row [] := cal3 (T.d_is_row) sc_is_row (by decide) len1 fun f cdv A outer s H E o E3 hr tk hp => ⟨_,
    have hN := sc_is_row.nd
    (dss_cons (ds_if (dt_not (dt_val (de_isi .str (de_var 0) T.B.isinstance T.B.str (by decide +kernel)))) (dss_one (ds_ret de_bl)) dss_nil)
      (dss_cons (ds_set 1 hN (de_split (de_var 0) de_str))
      (dss_one (ds_ret (de_and (de_cmp op_inA dc_in (de_ix (de_var 1) de_int) (de_tupS (da_cons de_str (da_cons de_str da_nil))) rfl) (de_one (de_call (c_is_where T) hr tk (da_cons (de_slice (de_var 1) (do_some de_int) do_none) da_nil)))))))), by
    intro ds G Q h
    obtain ⟨v, rfl, r, hr', rfl, q⟩ := in1 h
    have small : (32 : Nat) < sizeLine := by decide
    have hl := len_rows r hr'
    conv => whnf
    refine ⟨rfl, by omega, ?_⟩
    rw [split_rows r hr']
    obtain ⟨st, wh⟩ := r
    cases st with
    | true =>
      conv => whnf
      refine ⟨by decide, _, _, rfl, rfl, ?_⟩
      conv => whnf
      exact ⟨wh, ok_rows _ hr', rfl, ret_id q⟩
    | false =>
      conv => whnf
      refine ⟨by decide, _, _, rfl, rfl, ?_⟩
      conv => whnf
      exact ⟨wh, ok_rows _ hr', rfl, ret_id q⟩⟩
def sp_common_multiple : Sp3 := sp2 fun a b G Q _ => ∃ m n : Nat, 0 < m ∧ 0 < n ∧ a = .int m ∧ b = .int n ∧ Q (.int (Nat.lcm m n : Nat)) G

theorem c_common_multiple (T : Txt K mg aKind aBook aJourney) : Cal3 P w K mg base 1 "common_multiple" sp_common_multiple [] := cal3 (T.d_common_multiple) sc_common_multiple (by decide) len2 fun f cdv A outer s H E o E3 hr tk hp => ⟨_,
    have hN := sc_common_multiple.nd
    (dss_cons (ds_set 2 hN (de_var 0))
      (dss_cons (ds_while hp (dt_cmp (op_neA hr) dc_ne (de_mod (de_var 2) (de_var 1)) de_int (nomark _)) (dss_one (ds_set 2 hN (de_add (de_var 2) (de_var 0)))))
      (dss_one (ds_ret (de_var 2))))), by
    intro ds G Q h
    obtain ⟨a, b, rfl, m, n, hm, hn, rfl, rfl, q⟩ := in2 h
    conv => whnf
    have h1 : m ∣ Nat.lcm m n := Nat.dvd_lcm_left m n
    obtain ⟨J, hJ⟩ := h1
    have lp : 0 < Nat.lcm m n := Nat.lcm_pos hm hn
    have Jp : 0 < J := by
      cases J with
      | zero => rw [hJ] at lp; simp at lp
      | succ j => omega
    refine ⟨fun k sd' G' => G' = G ∧ ∃ j, 0 < j ∧ j ≤ J ∧ k = J - j ∧ sd' = [some (.int m), some (.int n), some (.int (m * j : Nat))], ⟨J - 1, rfl, 1, by omega, Jp, rfl, ?_⟩, ?_⟩
    · rw [Nat.mul_one]
      rfl
    rintro k sd' G' ⟨rfl, j, j0, j1, rfl, rfl⟩
    conv => whnf
    refine ⟨by show (0 : Int) < (n : Nat); omega, ?_⟩
    conv => whnf
    refine br_cases (fun h2 => ?_) (fun h2 => ?_)
    · have h2 : (!decide (((m * j : Nat) : Int) % (n : Nat) = 0)) = true := h2
      have hj : j < J := by
        rcases Nat.lt_or_ge j J with z | z
        · exact z
        · have e : j = J := by omega
          subst e
          rw [← hJ] at h2
          have d : ((Nat.lcm m n : Nat) : Int) % (n : Nat) = 0 := by
            have := Nat.mod_eq_zero_of_dvd (Nat.dvd_lcm_right m n)
            omega
          rw [decide_eq_true d] at h2
          cases h2
      refine ⟨fun sd2 G2 => G2 = G' ∧ sd2 = [some (.int m), some (.int n), some (.int (m * (j + 1) : Nat))], fun sd2 G2 ⟨e1, e2⟩ => ⟨J - (j + 1), by omega, e1, j + 1, by omega, by omega, rfl, e2⟩, ?_⟩
      conv => whnf
      refine ⟨rfl, ?_⟩
      rw [Nat.mul_add, Nat.mul_one]
      rfl
    · have h2 : (!decide (((m * j : Nat) : Int) % (n : Nat) = 0)) = false := h2
      have h3 : ((m * j : Nat) : Int) % (n : Nat) = 0 := by simpa using h2
      have d : n ∣ m * j := Nat.dvd_of_mod_eq_zero (by omega)
      have e : m * j = Nat.lcm m n := Nat.le_antisymm (by rw [hJ]; exact Nat.mul_le_mul_left m j1) (Nat.le_of_dvd (Nat.mul_pos hm j0) (Nat.lcm_dvd (Nat.dvd_mul_right m j) d))
      conv => whnf
      rw [e]
      exact ret_id q⟩
structure Kd where
  name : Str
  pace : Nat
  halt : Nat
  wait : Nat
  rows : List Row
structure Kok (k : Kd) : Prop where
  nm : isName k.name = true
  pa : k.pace ≤ 20
  ha : k.halt ≤ 20
  wa : k.wait ≤ 60
  r0 : 0 < k.rows.length
  r6 : k.rows.length ≤ 6
  rw : ∀ r ∈ k.rows, r ∈ allRows
def rowD (r : Row) : D := .str (rowText r)
def kdD (k : Kd) : List D := [.str k.name, .int (k.pace : Nat), .int (k.halt : Nat), .int (k.wait : Nat), .tup (k.rows.map rowD)]
def kindD (aKind : Addr) (k : Kd) : D := .ins aKind [.tup (kdD k)]
theorem enum_map {α : Type} (f : α → D) : ∀ (xs : List α) (k : Nat), enumD k (xs.map f) = (xs.zipIdx k).map fun p => D.tup [.int (p.2 : Nat), f p.1]
  | [], _ => rfl
  | x :: xs, k => by
    show D.tup [.int (k : Nat), f x] :: enumD (k + 1) (xs.map f) = _
    rw [enum_map f xs (k + 1)]
    rfl
theorem name_len {x : Str} (h : isName x = true) : x.length ≤ 8 := by
  obtain ⟨⟨l⟩⟩ := x
  cases l with
  | nil => exact absurd h (by decide)
  | cons c cs =>
    have h : (decide (cs.length < 8) && _) = true := h
    rw [Bool.and_eq_true] at h
    have := of_decide_eq_true h.1
    show cs.length + 1 ≤ 8
    omega
def sp_Kind_init (aKind : Addr) : Sp3 := sp6 fun s n p h w r G Q _ => ∃ pd dx k, Kok k ∧ s = .ref pd ∧ G pd = some (.sl aKind dx []) ∧ n = .str k.name ∧ p = .int (k.pace : Nat) ∧ h = .int (k.halt : Nat) ∧ w = .int (k.wait : Nat) ∧ r = .tup (k.rows.map rowD) ∧ Q .non (gupd G pd (.sl aKind dx ([D.tup (kdD k)].map some)))

theorem c_Kind_init (T : Txt K mg aKind aBook aJourney) : Mak3 P w K mg base 5 "Kind" aKind "Kind.__init__" s_Kind_init ["self", "name", "pace", "halt", "wait", "rows"] (sp_Kind_init aKind) := mak3 (T.d_Kind_init) sc_Kind_init (by decide) len6 fun f cdv A outer s H E o E3 hr tk hp => ⟨_,
    have hN := sc_Kind_init.nd
    (dss_cons (ds_if (dt_not (dt_val (de_call (c_is_name T) hr tk (da_cons (de_var 1) da_nil)))) (dss_one ds_never) dss_nil)
      (dss_cons (ds_for rfl hp (di_any (de_tupS (da_cons (de_tupS (da_cons (de_var 2) (da_cons de_int da_nil))) (da_cons (de_tupS (da_cons (de_var 3) (da_cons de_int da_nil))) (da_cons (de_tupS (da_cons (de_var 4) (da_cons de_int da_nil))) da_nil))))) (dg_tl (n := 2) rfl (dgs_cons (dg_name 6 hN) (dgs_cons (dg_name 7 hN) dgs_nil))) (dss_one (ds_if (dt_bool (dw_or (dt_not (dt_val (de_call (c_is_integer T) hr tk (da_cons (de_var 6) da_nil)))) (dw_or1 (dt_not (dt_chain op_le op_le dc_le dc_le de_int (de_var 6) (de_var 7)))))) (dss_one ds_never) dss_nil)))
      (dss_cons (ds_if (dt_bool (dw_or (dt_not (dt_val (de_isi .tuple (de_var 5) T.B.isinstance T.B.tuple (by decide +kernel)))) (dw_or1 (dt_cmp (op_eqA hr) dc_eq (de_callB call_len cd_len rfl T.B.len (by decide +kernel) (da_cons (de_var 5) da_nil)) de_int (nomark _))))) (dss_one ds_never) dss_nil)
      (dss_cons (ds_for rfl hp (di_enum (de_var 5) T.B.enumerate) (dg_tl (n := 2) rfl (dgs_cons (dg_name 8 hN) (dgs_cons (dg_name 9 hN) dgs_nil))) (dss_one (ds_if (dt_bool (dw_or (dt_cmp (op_eqA hr) dc_eq (de_var 8) (de_gint rfl T.g_MOST_ROWS) (nomark _)) (dw_or1 (dt_not (dt_val (de_call (c_is_row T) hr tk (da_cons (de_var 9) da_nil))))))) (dss_one ds_never) dss_nil)))
      (dss_one (ds_slot T.sl_Kind_shape (de_var 0) (de_tupS (da_cons (de_var 1) (da_cons (de_var 2) (da_cons (de_var 3) (da_cons (de_var 4) (da_cons (de_var 5) da_nil)))))))))))), by
    intro ds G Q h
    obtain ⟨s', n, p, h', w', r, rfl, pd, dx, k, ok, rfl, eg, rfl, rfl, rfl, rfl, rfl, q⟩ := in6 h
    have small : (100 : Nat) < sizeLine := by decide
    have hn := name_len ok.nm
    obtain ⟨k1, k2, k3, k4, k5⟩ := ok.pa, ok.ha, ok.wa, ok.r0, ok.r6
    conv => whnf
    refine ⟨_, rfl, by omega, ?_⟩
    rw [ok.nm]
    conv => whnf
    refine ⟨Nat.le_trans (Nat.le_of_ble_eq_true rfl : _ ≤ 100) (by decide), ?_⟩; conv => whnf
    refine ⟨Nat.le_trans (Nat.le_of_ble_eq_true rfl : _ ≤ 100) (by decide), ?_⟩; conv => whnf
    refine ⟨Nat.le_trans (Nat.le_of_ble_eq_true rfl : _ ≤ 100) (by decide), ?_⟩; conv => whnf
    refine ⟨Nat.le_trans (Nat.le_of_ble_eq_true rfl : _ ≤ 100) (by decide), ?_⟩; conv => whnf
    rw [forL_cons]
    conv => whnf
    refine ⟨true, rfl, ?_⟩
    conv => whnf
    refine br_true (decide_eq_true (show ((k.pace : Nat) : Int) ≤ 20 by omega)) ?_
    conv => whnf
    rw [forL_cons]
    conv => whnf
    refine ⟨true, rfl, ?_⟩
    conv => whnf
    refine br_true (decide_eq_true (show ((k.halt : Nat) : Int) ≤ 20 by omega)) ?_
    conv => whnf
    rw [forL_cons]
    conv => whnf
    refine ⟨true, rfl, ?_⟩
    conv => whnf
    refine br_true (decide_eq_true (show ((k.wait : Nat) : Int) ≤ 60 by omega)) ?_
    conv => whnf
    rw [forL_nil]
    conv => whnf
    refine br_cases (fun d1 => ?_) (fun d1 => ?_)
    · have d1 : decide (((k.rows.map rowD).length : Int) = 0) = true := d1
      rw [List.length_map] at d1
      have := of_decide_eq_true d1
      omega
    conv => whnf
    rw [enum_map]
    refine for_inv (e := fun p : Row × Nat => D.tup [.int (p.2 : Nat), rowD p.1]) (fun ps sd G' => G' = G ∧ (∀ p ∈ ps, p.1 ∈ allRows ∧ p.2 < 6) ∧ ∃ x y, sd = [some (.ref pd), some (.str k.name), some (.int (k.pace : Nat)), some (.int (k.halt : Nat)), some (.int (k.wait : Nat)), some (.tup (k.rows.map rowD)), some (.int (k.wait : Nat)), some (.int 60), x, y]) ?_ ?_ _ _ _ ⟨rfl, ?_, none, none, rfl⟩
    · rintro sd G' ⟨rfl, _, x, y, rfl⟩
      conv => whnf
      refine ⟨Nat.le_trans (Nat.le_of_ble_eq_true rfl : _ ≤ 100) (by decide), ?_⟩; conv => whnf
      exact ⟨dx, [], eg, ret_id q⟩
    · rintro ⟨r, i⟩ ps sd G' ⟨rfl, hp, x, y, rfl⟩ N hN'
      obtain ⟨h1, h2⟩ := hp (r, i) List.mem_cons_self
      conv => whnf
      refine br_cases (fun e1 => ?_) (fun e1 => ?_)
      · have := of_decide_eq_true e1
        have h2 : i < 6 := h2
        omega
      conv => whnf
      refine ⟨r, h1, rfl, ?_⟩
      conv => whnf
      exact hN' _ _ ⟨rfl, fun p hp' => hp p (List.mem_cons_of_mem _ hp'), _, _, rfl⟩
    · rintro ⟨r, i⟩ hp
      obtain ⟨_, h1, h2⟩ := List.mem_zipIdx hp
      have h1 : i < 0 + k.rows.length := h1
      exact ⟨ok.rw r (by rw [h2]; exact List.getElem_mem _), by show i < 6; omega⟩⟩
def sp_Kind_name (aKind : Addr) : Sp3 := sp1 fun v G Q _ => ∃ k, v = kindD aKind k ∧ Q (.str k.name) G

theorem c_Kind_name (T : Txt K mg aKind aBook aJourney) : Prop3 P w K mg base 1 aKind "name" (sp_Kind_name aKind) := prop3 T.is_Kind.c (T.d_Kind_name) sc_Kind_name (by decide) len1 fun f cdv A outer s H E o E3 hr tk hp => ⟨_,
    have hN := sc_Kind_name.nd
    (dss_one (ds_ret (de_ix (de_slot T.sl_Kind_shape (de_var 0)) de_int))), by
    intro ds G Q h
    obtain ⟨v, rfl, k, rfl, q⟩ := in1 h
    conv => whnf
    exact ⟨rfl, ret_id q⟩⟩
def sp_Kind_pace (aKind : Addr) : Sp3 := sp1 fun v G Q _ => ∃ k, v = kindD aKind k ∧ Q (.int (k.pace : Nat)) G

theorem c_Kind_pace (T : Txt K mg aKind aBook aJourney) : Prop3 P w K mg base 1 aKind "pace" (sp_Kind_pace aKind) := prop3 T.is_Kind.c (T.d_Kind_pace) sc_Kind_pace (by decide) len1 fun f cdv A outer s H E o E3 hr tk hp => ⟨_,
    have hN := sc_Kind_pace.nd
    (dss_one (ds_ret (de_ix (de_slot T.sl_Kind_shape (de_var 0)) de_int))), by
    intro ds G Q h
    obtain ⟨v, rfl, k, rfl, q⟩ := in1 h
    conv => whnf
    exact ⟨rfl, ret_id q⟩⟩
def sp_Kind_halt (aKind : Addr) : Sp3 := sp1 fun v G Q _ => ∃ k, v = kindD aKind k ∧ Q (.int (k.halt : Nat)) G

theorem c_Kind_halt (T : Txt K mg aKind aBook aJourney) : Prop3 P w K mg base 1 aKind "halt" (sp_Kind_halt aKind) := prop3 T.is_Kind.c (T.d_Kind_halt) sc_Kind_halt (by decide) len1 fun f cdv A outer s H E o E3 hr tk hp => ⟨_,
    have hN := sc_Kind_halt.nd
    (dss_one (ds_ret (de_ix (de_slot T.sl_Kind_shape (de_var 0)) de_int))), by
    intro ds G Q h
    obtain ⟨v, rfl, k, rfl, q⟩ := in1 h
    conv => whnf
    exact ⟨rfl, ret_id q⟩⟩
def sp_Kind_wait (aKind : Addr) : Sp3 := sp1 fun v G Q _ => ∃ k, v = kindD aKind k ∧ Q (.int (k.wait : Nat)) G

theorem c_Kind_wait (T : Txt K mg aKind aBook aJourney) : Prop3 P w K mg base 1 aKind "wait" (sp_Kind_wait aKind) := prop3 T.is_Kind.c (T.d_Kind_wait) sc_Kind_wait (by decide) len1 fun f cdv A outer s H E o E3 hr tk hp => ⟨_,
    have hN := sc_Kind_wait.nd
    (dss_one (ds_ret (de_ix (de_slot T.sl_Kind_shape (de_var 0)) de_int))), by
    intro ds G Q h
    obtain ⟨v, rfl, k, rfl, q⟩ := in1 h
    conv => whnf
    exact ⟨rfl, ret_id q⟩⟩
def sp_Kind_rows (aKind : Addr) : Sp3 := sp1 fun v G Q _ => ∃ k, v = kindD aKind k ∧ Q (.tup (k.rows.map rowD)) G

theorem c_Kind_rows (T : Txt K mg aKind aBook aJourney) : Prop3 P w K mg base 1 aKind "rows" (sp_Kind_rows aKind) := prop3 T.is_Kind.c (T.d_Kind_rows) sc_Kind_rows (by decide) len1 fun f cdv A outer s H E o E3 hr tk hp => ⟨_,
    have hN := sc_Kind_rows.nd
    (dss_one (ds_ret (de_ix (de_slot T.sl_Kind_shape (de_var 0)) de_int))), by
    intro ds G Q h
    obtain ⟨v, rfl, k, rfl, q⟩ := in1 h
    conv => whnf
    exact ⟨rfl, ret_id q⟩⟩
def everyNum (r : Row) : List Nat := match r.w with
  | .every m _ _ => [m]
  | _ => []
def numsOf (ks : List Kd) : List Nat := (ks.map fun k => (k.rows.map everyNum).flatten).flatten
def sp_numbers_of (aKind : Addr) : Sp3 := sp2 fun v w G Q _ => ∃ ks : List Kd, (∀ k ∈ ks, Kok k) ∧ ks.length ≤ 4 ∧ v = .tup (ks.map (kindD aKind)) ∧ w = .str "every" ∧ Q (.lst ((numsOf ks).map fun n => D.int (n : Nat))) G
theorem nums_len (rs : List Row) : ((rs.map everyNum).flatten).length ≤ rs.length := by
  induction rs with
  | nil => exact Nat.le_refl _
  | cons r rs ih =>
    rw [List.map_cons, List.flatten_cons, List.length_append, List.length_cons]
    have : (everyNum r).length ≤ 1 := by
      unfold everyNum
      split <;> simp
    omega

theorem c_numbers_of (T : Txt K mg aKind aBook aJourney) : Cal3 P w K mg base 3 "numbers_of" (sp_numbers_of aKind) [] := cal3 (T.d_numbers_of) sc_numbers_of (by decide) len2 fun f cdv A outer s H E o E3 hr tk hp => ⟨_,
    have hN := sc_numbers_of.nd
    (dss_cons (ds_set 2 hN (de_lstSO da_nil))
      (dss_cons (ds_for rfl hp (di_any (de_var 0)) (dg_name 3 hN) (dss_one (ds_for rfl hp (di_any (de_prop (c_Kind_rows T) hr (de_var 3))) (dg_name 4 hN) (dss_cons (ds_set 5 hN (de_split (de_var 4) de_str))
      (dss_one (ds_if (dt_cmp (op_eqA hr) dc_eq (de_ix (de_var 5) de_int) (de_var 1) (nomark _)) (dss_one (ds_expr (de_append (de_var 2) (de_callTy call_intA cd_int rfl T.B.int (by decide +kernel) (da_cons (de_ix (de_var 5) de_int) da_nil))))) dss_nil))))))
      (dss_one (ds_ret (de_var 2))))), by
    intro ds G Q h
    obtain ⟨v, w', rfl, ks, ok, h4, rfl, rfl, q⟩ := in2 h
    conv => whnf
    refine ⟨Nat.le_trans (Nat.le_of_ble_eq_true rfl : _ ≤ 100) (by decide), ?_⟩; conv => whnf
    intro p hp'
    conv => whnf
    refine for_inv (e := kindD aKind) (fun xs sd G' => ∃ (pre : List Kd) (x y z : Option D), ks = pre ++ xs ∧ G' = gupd G p (.lst ((numsOf pre).map fun n => D.int (n : Nat))) ∧ (numsOf pre).length ≤ 6 * pre.length ∧ sd = [some (.tup (ks.map (kindD aKind))), some (.str "every"), some (.ref p), x, y, z]) ?_ ?_ _ _ _ ⟨[], none, none, none, rfl, rfl, Nat.le_refl _, rfl⟩
    · rintro sd G' ⟨pre, x, y, z, e1, rfl, _, rfl⟩
      rw [List.append_nil] at e1
      subst e1
      conv => whnf
      exact ret_frz gupd_same (by rw [gdel_upd hp']; exact Sub.refl _) q
    · rintro k xs sd G' ⟨pre, x, y, z, e1, rfl, hl, rfl⟩ N hN'
      have okk := ok k (by rw [e1]; simp)
      conv => whnf
      refine ⟨rfl, k, rfl, ?_⟩
      conv => whnf
      refine for_inv (e := rowD) (fun rs sd G' => ∃ (pr : List Row) (y z : Option D), k.rows = pr ++ rs ∧ G' = gupd G p (.lst ((numsOf pre ++ (pr.map everyNum).flatten).map fun n => D.int (n : Nat))) ∧ sd = [some (.tup (ks.map (kindD aKind))), some (.str "every"), some (.ref p), some (kindD aKind k), y, z]) ?_ ?_ _ _ _ ⟨[], y, z, rfl, by simp, rfl⟩
      · rintro sd G' ⟨pr, y, z, e2, rfl, rfl⟩
        rw [List.append_nil] at e2
        have e3 : numsOf (pre ++ [k]) = numsOf pre ++ (pr.map everyNum).flatten := by
          unfold numsOf
          rw [List.map_append, List.flatten_append, ← e2]
          simp
        refine hN' _ _ ⟨pre ++ [k], some (kindD aKind k), y, z, by rw [e1]; simp, by rw [e3], ?_, rfl⟩
        rw [e3, List.length_append, List.length_append]
        have := nums_len pr
        have := okk.r6
        rw [e2] at this
        simp only [List.length_singleton]
        omega
      · rintro r rs sd G' ⟨pr, y, z, e2, rfl, rfl⟩ N2 hN2
        have hr' : r ∈ allRows := okk.rw r (by rw [e2]; simp)
        have hl2 := len_rows r hr'
        have small : (32 : Nat) < sizeLine := by decide
        conv => whnf
        refine ⟨rfl, by omega, ?_⟩
        rw [split_rows r hr']
        have step : ∀ (G2 : Gp) (y : Option D), G2 = gupd G p (.lst (((numsOf pre ++ (pr.map everyNum).flatten) ++ everyNum r).map fun n => D.int (n : Nat))) → N2 [some (.tup (ks.map (kindD aKind))), some (.str "every"), some (.ref p), some (kindD aKind k), some (rowD r), y] G2 := fun G2 y e => by
          refine hN2 _ _ ⟨pr ++ [r], _, _, by rw [e2]; simp, ?_, rfl⟩
          rw [e]
          simp
        have bound : (numsOf pre ++ (pr.map everyNum).flatten).length < 100 := by
          rw [List.length_append]
          have h1 := nums_len pr
          have h2 := okk.r6
          rw [e2] at h2
          have h3 : pre.length < 4 := by rw [e1] at h4; simp at h4; omega
          simp at h2
          omega
        have okr := ok_rows r hr'
        obtain ⟨st, wh⟩ := r
        cases wh with
        | all => cases st <;> (conv => whnf) <;> exact step _ _ (by simp [everyNum])
        | first n => cases st <;> (conv => whnf) <;> exact step _ _ (by simp [everyNum])
        | last n => cases st <;> (conv => whnf) <;> exact step _ _ (by simp [everyNum])
        | every m b n =>
          have hx : (decide (1 ≤ n) && (decide (n ≤ m) && decide (m ≤ 6))) = true := okr
          simp only [Bool.and_eq_true, decide_eq_true_eq] at hx
          obtain ⟨f1, f2, f3, f4, f5⟩ := num_facts m (List.mem_range.mpr (by omega))
          have small : (100 : Nat) < sizeLine := by decide
          cases st <;> (conv => whnf) <;> refine ⟨⟨_, gupd_same⟩, m, f5, by omega, _, gupd_same, by rw [List.length_map]; omega, ?_⟩ <;> (conv => whnf) <;> refine step _ _ ?_ <;> rw [gupd_gupd] <;> simp [everyNum]⟩
def perOf (ks : List Kd) : Nat := (numsOf ks).foldl Nat.lcm 1
theorem every_pos : ∀ r ∈ allRows, ∀ n ∈ everyNum r, 0 < n := by decide +kernel
theorem nums_pos {ks : List Kd} (ok : ∀ k ∈ ks, Kok k) : ∀ n ∈ numsOf ks, 0 < n := fun n hn => by
  unfold numsOf at hn
  obtain ⟨l, hl, h2⟩ := List.mem_flatten.mp hn
  obtain ⟨k, hk, e⟩ := List.mem_map.mp hl
  subst e
  obtain ⟨l2, hl2, h3⟩ := List.mem_flatten.mp h2
  obtain ⟨r, hr, e⟩ := List.mem_map.mp hl2
  subst e
  exact every_pos r ((ok k hk).rw r hr) n h3
def sp_period_of (aKind : Addr) : Sp3 := sp1 fun v G Q _ => ∃ ks : List Kd, (∀ k ∈ ks, Kok k) ∧ ks.length ≤ 4 ∧ v = .tup (ks.map (kindD aKind)) ∧ Q (.int (perOf ks : Nat)) G

theorem c_period_of (T : Txt K mg aKind aBook aJourney) : Cal3 P w K mg base 4 "period_of" (sp_period_of aKind) [] := cal3 (T.d_period_of) sc_period_of (by decide) len1 fun f cdv A outer s H E o E3 hr tk hp => ⟨_,
    have hN := sc_period_of.nd
    (dss_cons (ds_set 1 hN de_int)
      (dss_cons (ds_for rfl hp (di_any (de_call (c_numbers_of T) hr tk (da_cons (de_var 0) (da_cons de_str da_nil)))) (dg_name 2 hN) (dss_one (ds_set 1 hN (de_call (c_common_multiple T) hr tk (da_cons (de_var 1) (da_cons (de_var 2) da_nil))))))
      (dss_one (ds_ret (de_var 1))))), by
    intro ds G Q h
    obtain ⟨v, rfl, ks, ok, h4, rfl, q⟩ := in1 h
    have pos := nums_pos ok
    conv => whnf
    refine ⟨ks, ok, h4, rfl, rfl, ?_⟩
    conv => whnf
    refine for_inv (e := fun n : Nat => D.int (n : Nat)) (fun ns sd G' => G' = G ∧ ∃ (k : Nat) (y : Option D), 0 < k ∧ (∀ n ∈ ns, 0 < n) ∧ perOf ks = ns.foldl Nat.lcm k ∧ sd = [some (.tup (ks.map (kindD aKind))), some (.int (k : Nat)), y]) ?_ ?_ _ _ _ ⟨rfl, 1, none, by decide, pos, rfl, rfl⟩
    · rintro sd G' ⟨rfl, k, y, _, _, e, rfl⟩
      conv => whnf
      rw [e] at q
      exact ret_id q
    · rintro n ns sd G' ⟨rfl, k, y, k0, pn, e, rfl⟩ N hN'
      have n0 := pn n List.mem_cons_self
      conv => whnf
      refine ⟨k, n, k0, n0, rfl, rfl, ?_⟩
      conv => whnf
      exact hN' _ _ ⟨rfl, Nat.lcm k n, _, Nat.lcm_pos k0 n0, fun m hm => pn m (List.mem_cons_of_mem _ hm), e, rfl⟩⟩
structure Bok (ks : List Kd) : Prop where
  ok : ∀ k ∈ ks, Kok k
  l0 : 0 < ks.length
  l4 : ks.length ≤ 4
  nd : (ks.map Kd.name).Nodup
  pr : ∀ i, perOf (ks.take (i + 1)) ≤ 6
def sp_check_kinds (aKind : Addr) : Sp3 := sp1 fun v G Q _ => ∃ ks : List Kd, Bok ks ∧ v = .tup (ks.map (kindD aKind)) ∧ Q .non G
theorem scL_strs : ∀ xs : List Str, scL (xs.map D.str) = some (xs.map V.str)
  | [] => rfl
  | x :: xs => by
    show (scL (xs.map D.str)).map (V.str x :: ·) = _
    rw [scL_strs xs]
    rfl

theorem c_check_kinds (T : Txt K mg aKind aBook aJourney) : Cal3 P w K mg base 5 "check_kinds" (sp_check_kinds aKind) [] := cal3 (T.d_check_kinds) sc_check_kinds (by decide) len1 fun f cdv A outer s H E o E3 hr tk hp => ⟨_,
    have hN := sc_check_kinds.nd
    (dss_cons (ds_if (dt_bool (dw_or (dt_not (dt_val (de_isi .tuple (de_var 0) T.B.isinstance T.B.tuple (by decide +kernel)))) (dw_or1 (dt_cmp (op_eqA hr) dc_eq (de_callB call_len cd_len rfl T.B.len (by decide +kernel) (da_cons (de_var 0) da_nil)) de_int (nomark _))))) (dss_one ds_never) dss_nil)
      (dss_one (ds_for rfl hp (di_enum (de_var 0) T.B.enumerate) (dg_tl (n := 2) rfl (dgs_cons (dg_name 1 hN) (dgs_cons (dg_name 2 hN) dgs_nil))) (dss_cons (ds_if (dt_bool (dw_or (dt_not (dt_val (de_callB (call_isiC _) (cd_isiC T.is_Kind) rfl T.B.isinstance boot_isinstance (da_cons (de_var 2) (da_cons (de_gref rfl T.g_Kind) da_nil))))) (dw_or (dt_cmp (op_eqA hr) dc_eq (de_var 1) (de_gint rfl T.g_MOST_KINDS) (nomark _)) (dw_or1 (dt_cmp op_inA dc_in (de_prop (c_Kind_name T) hr (de_var 2)) (de_lc [("other", 3)] rfl hN (tgt_name (i := 3) (by decide)) (di_any (de_slice (de_var 0) do_none (do_some (de_var 1)))) (blkOk_by (N := N_check_kinds) (sc := (defScope s_check_kinds)) (own := [("other", 3)]) (by decide +kernel)) (fun _ _ _ _ _ => (pg_name (i := 3) hN rfl (by first | exact Or.inl rfl | exact Or.inr rfl))) (fun _ _ _ _ _ => dts_nil) (fun _ _ _ _ _ => (de_prop (c_Kind_name T) hr (de_var 3)))) rfl))))) (dss_one ds_never) dss_nil)
      (dss_one (ds_if (dt_cmp op_gt dc_gt (de_call (c_period_of T) hr tk (da_cons (de_slice (de_var 0) do_none (do_some (de_add (de_var 1) de_int))) da_nil)) (de_gint rfl T.g_MOST_PERIOD) (nomark _)) (dss_one ds_never) dss_nil)))))), by
    intro ds G Q h
    obtain ⟨v, rfl, ks, ok, rfl, q⟩ := in1 h
    have l0 := ok.l0
    have l4 := ok.l4
    conv => whnf
    refine br_cases (fun d1 => ?_) (fun d1 => ?_)
    · have d1 : decide (((ks.map (kindD aKind)).length : Int) = 0) = true := d1
      rw [List.length_map] at d1
      have := of_decide_eq_true d1
      omega
    conv => whnf
    rw [enum_map]
    refine for_inv (e := fun p : Kd × Nat => D.tup [.int (p.2 : Nat), kindD aKind p.1]) (fun ps sd G' => G' = G ∧ (∀ p ∈ ps, ks[p.2]? = some p.1) ∧ ∃ x y, sd = [some (.tup (ks.map (kindD aKind))), x, y, none]) ?_ ?_ _ _ _ ⟨rfl, ?_, none, none, rfl⟩
    · rintro sd G' ⟨rfl, _, x, y, rfl⟩
      conv => whnf
      exact ret_id q
    · rintro ⟨k, i⟩ ps sd G' ⟨rfl, hp', x, y, rfl⟩ N hN'
      have hi : ks[i]? = some k := hp' (k, i) List.mem_cons_self
      obtain ⟨hlt, hk⟩ := List.getElem?_eq_some_iff.mp hi
      have okk := ok.ok k (by rw [← hk]; exact List.getElem_mem _)
      conv => whnf
      refine ⟨rfl, Or.inl ⟨rfl, ?_⟩⟩
      conv => whnf
      refine br_cases (fun e1 => ?_) (fun e1 => ?_)
      · have := of_decide_eq_true e1
        omega
      conv => whnf
      refine ⟨rfl, k, rfl, ?_⟩
      conv => whnf
      have small : (100 : Nat) < sizeLine := by decide
      have es : slD (ks.map (kindD aKind)) none (some ((i : Nat) : Int)) = (ks.take i).map (kindD aKind) := by
        show (ks.map (kindD aKind)).take i = _
        rw [List.map_take]
      have es2 : slD (ks.map (kindD aKind)) none (some (((i : Nat) : Int) + 1)) = (ks.take (i + 1)).map (kindD aKind) := by
        show (ks.map (kindD aKind)).take (i + 1) = _
        rw [List.map_take]
      show (slD (ks.map (kindD aKind)) none (some ((i : Nat) : Int))).length < sizeLine ∧ _
      rw [es]
      refine ⟨by rw [List.length_map, List.length_take]; omega, ?_⟩
      conv => whnf
      refine lc_map (e := kindD aKind) (fun o : Kd => D.str o.name) _ (fun o _ K' kk => ?_) ?_
      · conv => whnf
        exact ⟨rfl, o, rfl, kk⟩
      · conv => whnf
        refine ⟨V.str k.name, ((ks.take i).map Kd.name).map V.str, rfl, ?_, ?_⟩
        · have z := scL_strs ((ks.take i).map Kd.name)
          rw [List.map_map] at z
          exact z
        · conv => whnf
          have nin : inV (V.str k.name) (((ks.take i).map Kd.name).map V.str) = false := by
            cases e : inV (V.str k.name) (((ks.take i).map Kd.name).map V.str) with
            | false => rfl
            | true =>
              unfold inV at e
              obtain ⟨u, hu, eu⟩ := List.any_eq_true.mp e
              obtain ⟨y, hy, rfl⟩ := List.mem_map.mp hu
              have ey : y = k.name := of_decide_eq_true eu
              subst ey
              obtain ⟨o, ho, eo⟩ := List.mem_map.mp hy
              obtain ⟨j, hj, ej⟩ := List.mem_iff_getElem.mp ho
              rw [List.length_take] at hj
              rw [List.getElem_take] at ej
              have nd := ok.nd
              have := List.pairwise_iff_getElem.mp nd j i (by rw [List.length_map]; omega) (by rw [List.length_map]; omega) (by omega)
              rw [List.getElem_map, List.getElem_map, ej, hk] at this
              exact absurd eo this
          refine br_false nin ?_
          conv => whnf
          refine ⟨ks.take (i + 1), fun o ho => ok.ok o (List.mem_of_mem_take ho), by rw [List.length_take]; omega, by rw [es2], ?_⟩
          conv => whnf
          have pr := ok.pr i
          refine br_false (decide_eq_false (show ¬ (6 : Int) < ((perOf (ks.take (i + 1)) : Nat) : Int) by omega)) ?_
          conv => whnf
          exact hN' _ _ ⟨rfl, fun p hp => hp' p (List.mem_cons_of_mem _ hp), _, _, rfl⟩
    · rintro ⟨r, i⟩ hp
      have h2 := List.mem_zipIdx_iff_getElem?.mp hp
      exact h2⟩
def headLine (k : Kd) : Str := ((((((("kind " ++ k.name) ++ " pace ") ++ num k.pace) ++ " halt ") ++ num k.halt) ++ " wait ") ++ num k.wait)
def kdLines (k : Kd) : List Str := headLine k :: k.rows.map rowText
theorem num_len {n : Nat} (h : n ≤ 60) : (num n).length ≤ 2 := (num_facts n (List.mem_range.mpr (by omega))).2.2.1
theorem empty_app (x : Str) : Str.empty ++ x = x := by
  show (⟨#[] ++ x.cps⟩ : Str) = x
  rw [Array.empty_append]
def sp_kind_lines (aKind : Addr) : Sp3 := sp1 fun v G Q _ => ∃ k, Kok k ∧ v = kindD aKind k ∧ Q (.lst ((kdLines k).map D.str)) G

theorem c_kind_lines (T : Txt K mg aKind aBook aJourney) : Cal3 P w K mg base 3 "kind_lines" (sp_kind_lines aKind) [] := cal3 (T.d_kind_lines) sc_kind_lines (by decide) len1 fun f cdv A outer s H E o E3 hr tk hp => ⟨_,
    have hN := sc_kind_lines.nd
    (dss_one (ds_ret (de_lstS (da_cons (de_joined (dj_cons de_str (dj_cons (de_fmt (de_prop (c_Kind_name T) hr (de_var 0))) (dj_cons de_str (dj_cons (de_fmt (de_prop (c_Kind_pace T) hr (de_var 0))) (dj_cons de_str (dj_cons (de_fmt (de_prop (c_Kind_halt T) hr (de_var 0))) (dj_cons de_str (dj_cons (de_fmt (de_prop (c_Kind_wait T) hr (de_var 0))) dj_nil))))))))) (da_star (de_prop (c_Kind_rows T) hr (de_var 0)) da_nil))))), by
    intro ds G Q h
    obtain ⟨v, rfl, k, ok, rfl, q⟩ := in1 h
    have small : (100 : Nat) < sizeLine := by decide
    have hn := name_len ok.nm
    have h1 := num_len (show k.pace ≤ 60 from Nat.le_trans ok.pa (by decide))
    have h2 := num_len (show k.halt ≤ 60 from Nat.le_trans ok.ha (by decide))
    have h3 := num_len ok.wa
    have ab : ∀ n : Nat, n ≤ 60 → ((n : Nat) : Int).natAbs.log2 < 1920 := fun n hn => log2_lt (Nat.lt_of_lt_of_le (show n < 2 ^ 6 by omega) (Nat.pow_le_pow_right (by decide) (by decide))) (by decide)
    have l0 : Str.empty.length = 0 := rfl
    have l1 : (Str.ofString "kind ").length = 5 := rfl
    have l2 : (Str.ofString " pace ").length = 6 := rfl
    have l3 : (Str.ofString " halt ").length = 6 := rfl
    have l4 : (Str.ofString " wait ").length = 6 := rfl
    have e1 : (Str.ofString (toString ((k.pace : Nat) : Int))).length ≤ 2 := h1
    have e2 : (Str.ofString (toString ((k.halt : Nat) : Int))).length ≤ 2 := h2
    have e3 : (Str.ofString (toString ((k.wait : Nat) : Int))).length ≤ 2 := h3
    conv => whnf
    refine ⟨by simp only [strLen_append, l0, l1]; omega, ?_⟩
    conv => whnf
    refine ⟨rfl, k, rfl, by omega, by simp only [strLen_append, l0, l1]; omega, ?_⟩
    conv => whnf
    refine ⟨by simp only [strLen_append, l0, l1, l2]; omega, ?_⟩
    conv => whnf
    refine ⟨rfl, k, rfl, ab _ (Nat.le_trans ok.pa (by decide)), by simp only [strLen_append, l0, l1, l2]; omega, ?_⟩
    conv => whnf
    refine ⟨by simp only [strLen_append, l0, l1, l2, l3]; omega, ?_⟩
    conv => whnf
    refine ⟨rfl, k, rfl, ab _ (Nat.le_trans ok.ha (by decide)), by simp only [strLen_append, l0, l1, l2, l3]; omega, ?_⟩
    conv => whnf
    refine ⟨by simp only [strLen_append, l0, l1, l2, l3, l4]; omega, ?_⟩
    conv => whnf
    refine ⟨rfl, k, rfl, ab _ ok.wa, by simp only [strLen_append, l0, l1, l2, l3, l4]; omega, ?_⟩
    conv => whnf
    refine ⟨rfl, k, rfl, ?_⟩
    conv => whnf
    have h6 := ok.r6
    refine ⟨?_, ?_⟩
    · simp
      omega
    · have e : (Str.empty ++ Str.ofString "kind ") = "kind " := empty_app _
      rw [e]
      refine ret_id ?_
      unfold kdLines at q
      rw [List.map_cons, List.map_map] at q
      rw [List.append_nil]
      exact q⟩
def bookLines (ks : List Kd) : List Str := (ks.map kdLines).flatten
def bkD (aKind : Addr) (ks : List Kd) : List D := [.tup ((bookLines ks).map D.str), .tup (ks.map (kindD aKind))]
def bookD (aKind aBook : Addr) (ks : List Kd) : D := .ins aBook (bkD aKind ks)
def sp_Book_init (aKind aBook : Addr) : Sp3 := sp2 fun s v G Q _ => ∃ pd dx ks, Bok ks ∧ s = .ref pd ∧ G pd = some (.sl aBook dx []) ∧ v = .tup (ks.map (kindD aKind)) ∧ Q .non (gupd G pd (.sl aBook dx ((bkD aKind ks).map some)))
theorem lines_len {ks : List Kd} (ok : ∀ k ∈ ks, Kok k) : (bookLines ks).length ≤ 7 * ks.length := by
  unfold bookLines
  induction ks with
  | nil => exact Nat.le_refl _
  | cons k ks ih =>
    rw [List.map_cons, List.flatten_cons, List.length_append, List.length_cons]
    have h1 := ih fun o ho => ok o (List.mem_cons_of_mem _ ho)
    have h2 := (ok k List.mem_cons_self).r6
    have h3 : (kdLines k).length = k.rows.length + 1 := by unfold kdLines; rw [List.length_cons, List.length_map]
    omega

theorem c_Book_init (T : Txt K mg aKind aBook aJourney) : Mak3 P w K mg base 6 "Book" aBook "Book.__init__" s_Book_init ["self", "kinds"] (sp_Book_init aKind aBook) := mak3 (T.d_Book_init) sc_Book_init (by decide) len2 fun f cdv A outer s H E o E3 hr tk hp => ⟨_,
    have hN := sc_Book_init.nd
    (dss_cons (ds_expr (de_call (c_check_kinds T) hr tk (da_cons (de_var 1) da_nil)))
      (dss_cons (ds_slot T.sl_Book_shape (de_var 0) (de_var 1))
      (dss_one (ds_slot T.sl_Book_lines (de_var 0) (de_callTy call_tuple_of cd_tuple rfl T.B.tuple (by decide +kernel) (da_cons (de_lc2 [("kind", 2), ("line", 3)] [3] rfl hN (tgt_name (i := 2) (by decide)) (tgt_name (i := 3) (by decide)) (di_any (de_var 1)) (blkOk_by (N := N_Book_init) (sc := (defScope s_Book_init)) (own := [("kind", 2), ("line", 3)]) (by decide +kernel)) (by decide) (fun _ _ _ _ _ => (pg_name (i := 2) hN rfl (by first | exact Or.inl rfl | exact Or.inr rfl))) (fun _ _ _ _ _ => dts_nil) (fun _ _ _ _ _ => (di_any (de_call (c_kind_lines T) hr takesN (da_cons (de_var 2) da_nil)))) (fun _ _ _ _ _ => (pg_name (i := 3) hN rfl (by first | exact Or.inl rfl | exact Or.inr rfl))) (fun _ _ _ _ _ => dts_nil) (fun _ _ _ _ _ => (de_var 3))) da_nil)))))), by
    intro ds G Q h
    obtain ⟨s', v, rfl, pd, dx, ks, ok, rfl, eg, rfl, q⟩ := in2 h
    have small : (100 : Nat) < sizeLine := by decide
    have l4 := ok.l4
    conv => whnf
    refine ⟨ks, ok, rfl, ?_⟩
    conv => whnf
    refine ⟨dx, [], eg, ?_⟩
    conv => whnf
    have key : ∀ (xs : List Kd) (n : Nat) (G1 : Gp) (Kc : List D → Gp → Prop), (∀ k ∈ xs, Kok k) → n + 7 * xs.length < 100 → Kc ((bookLines xs).map D.str) G1 →
        lc2L (gN 2) dYes (wA (dCall (sp_kind_lines aKind) [] NoW (dCons (dVar 2) dNil))) (gN 3) dYes (dVar 3) [3]
        (some (D.ref pd) :: some (D.tup (List.map (kindD aKind) ks)) :: none :: none :: List.replicate 0 none) n (xs.map (kindD aKind)) G1 Kc := by
      intro xs
      induction xs with
      | nil =>
        intro n G1 Kc _ _ k
        rw [List.map_nil, lc2L_nil]
        exact k
      | cons x xs ih =>
        intro n G1 Kc hok hn k
        have okx := hok x List.mem_cons_self
        have h6 := okx.r6
        have h7 : (kdLines x).length = x.rows.length + 1 := by unfold kdLines; rw [List.length_cons, List.length_map]
        rw [List.length_cons] at hn
        rw [List.map_cons, lc2L_cons]
        conv => whnf
        refine ⟨x, okx, rfl, ?_⟩
        conv => whnf
        rw [List.length_map]
        refine ⟨by omega, ?_⟩
        conv => whnf
        refine lc_map (e := D.str) D.str _ (fun y _ K' kk => kk) ?_
        refine ih _ _ _ (fun o ho => hok o (List.mem_cons_of_mem _ ho)) (by omega) ?_
        have e : bookLines (x :: xs) = kdLines x ++ bookLines xs := by
          unfold bookLines
          rw [List.map_cons, List.flatten_cons]
        rw [e, List.map_append] at k
        exact k
    refine key ks 0 _ _ ok.ok (by omega) ?_
    conv => whnf
    refine ⟨dx, _, gupd_same, ?_⟩
    rw [gupd_gupd]
    exact ret_id q⟩
def sp_Book_kinds (aKind aBook : Addr) : Sp3 := sp1 fun v G Q _ => ∃ ks, v = bookD aKind aBook ks ∧ Q (.tup (ks.map (kindD aKind))) G

theorem c_Book_kinds (T : Txt K mg aKind aBook aJourney) : Prop3 P w K mg base 1 aBook "kinds" (sp_Book_kinds aKind aBook) := prop3 T.is_Book.c (T.d_Book_kinds) sc_Book_kinds (by decide) len1 fun f cdv A outer s H E o E3 hr tk hp => ⟨_,
    have hN := sc_Book_kinds.nd
    (dss_one (ds_ret (de_slot T.sl_Book_shape (de_var 0)))), by
    intro ds G Q h
    obtain ⟨v, rfl, ks, rfl, q⟩ := in1 h
    conv => whnf
    exact ⟨rfl, ret_id q⟩⟩
def sp_Book_kind_of (aKind aBook : Addr) : Sp3 := sp2 fun s v G Q _ => ∃ ks k, k ∈ ks ∧ (ks.map Kd.name).Nodup ∧ s = bookD aKind aBook ks ∧ v = .str k.name ∧ Q (kindD aKind k) G

theorem c_Book_kind_of (T : Txt K mg aKind aBook aJourney) : Met3 P w K mg base 3 aBook "kind_of" (sp_Book_kind_of aKind aBook) [] := met3 T.is_Book.c (T.d_Book_kind_of) sc_Book_kind_of (by decide) len2 fun f cdv A outer s H E o E3 hr tk hp => ⟨_,
    have hN := sc_Book_kind_of.nd
    (dss_cons (ds_for rfl hp (di_any (de_prop (c_Book_kinds T) hr (de_var 0))) (dg_name 2 hN) (dss_one (ds_if (dt_bool (dw_and (dt_val (de_isi .str (de_var 1) T.B.isinstance T.B.str (by decide +kernel))) (dw_and1 (dt_cmp (op_eqA hr) dc_eq (de_prop (c_Kind_name T) hr (de_var 2)) (de_var 1) (nomark _))))) (dss_one (ds_ret (de_var 2))) dss_nil)))
      (dss_one ds_never)), by
    intro ds G Q h
    obtain ⟨s', v, rfl, ks, k, hk, nd, rfl, rfl, q⟩ := in2 h
    conv => whnf
    refine ⟨rfl, ks, rfl, ?_⟩
    conv => whnf
    refine for_inv (e := kindD aKind) (fun xs sd G' => G' = G ∧ k ∈ xs ∧ (∀ o ∈ xs, o.name = k.name → o = k) ∧ ∃ y, sd = [some (bookD aKind aBook ks), some (.str k.name), y]) ?_ ?_ _ _ _ ⟨rfl, hk, ?_, none, rfl⟩
    · rintro sd G' ⟨rfl, hm, _⟩
      cases hm
    · rintro x xs sd G' ⟨rfl, hm, hu, y, rfl⟩ N hN'
      conv => whnf
      refine ⟨rfl, x, rfl, ?_⟩
      conv => whnf
      refine br_cases (fun e1 => ?_) (fun e1 => ?_)
      · have e1 := of_decide_eq_true e1
        have e2 := hu x List.mem_cons_self e1
        subst e2
        conv => whnf
        exact ret_id q
      · have e1 := of_decide_eq_false e1
        conv => whnf
        refine hN' _ _ ⟨rfl, ?_, fun o ho => hu o (List.mem_cons_of_mem _ ho), _, rfl⟩
        rcases List.mem_cons.mp hm with z | z
        · subst z
          exact absurd rfl e1
        · exact z
    · intro o ho e
      obtain ⟨i, hi, ei⟩ := List.mem_iff_getElem.mp ho
      obtain ⟨j, hj, ej⟩ := List.mem_iff_getElem.mp hk
      by_cases hij : i = j
      · subst hij
        rw [← ei, ← ej]
      · exfalso
        have := List.pairwise_iff_getElem.mp nd
        rcases Nat.lt_or_ge i j with z | z
        · have h2 := this i j (by rw [List.length_map]; exact hi) (by rw [List.length_map]; exact hj) z
          rw [List.getElem_map, List.getElem_map, ei, ej] at h2
          exact h2 e
        · have h2 := this j i (by rw [List.length_map]; exact hj) (by rw [List.length_map]; exact hi) (by omega)
          rw [List.getElem_map, List.getElem_map, ei, ej] at h2
          exact h2 e.symm⟩
def sp_check_book (aKind aBook : Addr) : Sp3 := sp1 fun v G Q _ => ∃ ks, v = bookD aKind aBook ks ∧ Q .non G

theorem c_check_book (T : Txt K mg aKind aBook aJourney) : Cal3 P w K mg base 1 "check_book" (sp_check_book aKind aBook) [] := cal3 (T.d_check_book) sc_check_book (by decide) len1 fun f cdv A outer s H E o E3 hr tk hp => ⟨_,
    have hN := sc_check_book.nd
    (dss_one (ds_if (dt_not (dt_val (de_callB (call_isiC _) (cd_isiC T.is_Book) rfl T.B.isinstance boot_isinstance (da_cons (de_var 0) (da_cons (de_gref rfl T.g_Book) da_nil))))) (dss_one ds_never) dss_nil)), by
    intro ds G Q h
    obtain ⟨v, rfl, ks, rfl, q⟩ := in1 h
    conv => whnf
    refine ⟨rfl, Or.inl ⟨rfl, ?_⟩⟩
    conv => whnf
    exact ret_id q⟩
def bookText (ks : List Kd) : Str := Txt.join "\n" (bookLines ks)
theorem len_sum (xs : List Str) (m : Nat) (h : ∀ x ∈ xs, x.length ≤ m) : (xs.map (·.length)).sum ≤ m * xs.length := by
  induction xs with
  | nil => exact Nat.le_refl _
  | cons x xs ih =>
    have h1 := ih fun y hy => h y (List.mem_cons_of_mem _ hy)
    have h2 := h x List.mem_cons_self
    rw [List.map_cons, List.sum_cons, List.length_cons, Nat.mul_add]
    omega
theorem head_len {k : Kd} (ok : Kok k) : (headLine k).length ≤ 40 := by
  have hn := name_len ok.nm
  have h1 := num_len (show k.pace ≤ 60 from Nat.le_trans ok.pa (by decide))
  have h2 := num_len (show k.halt ≤ 60 from Nat.le_trans ok.ha (by decide))
  have h3 := num_len ok.wa
  have l1 : (Str.ofString "kind ").length = 5 := rfl
  have l2 : (Str.ofString " pace ").length = 6 := rfl
  have l3 : (Str.ofString " halt ").length = 6 := rfl
  have l4 : (Str.ofString " wait ").length = 6 := rfl
  unfold headLine
  simp only [strLen_append, l1, l2, l3, l4]
  omega
theorem line_len {ks : List Kd} (ok : ∀ k ∈ ks, Kok k) : ∀ x ∈ bookLines ks, x.length ≤ 40 := fun x hx => by
  unfold bookLines at hx
  obtain ⟨l, hl, h2⟩ := List.mem_flatten.mp hx
  obtain ⟨k, hk, rfl⟩ := List.mem_map.mp hl
  have okk := ok k hk
  rcases List.mem_cons.mp h2 with z | z
  · subst z
    exact head_len okk
  · obtain ⟨r, hr, rfl⟩ := List.mem_map.mp z
    have := len_rows r (okk.rw r hr)
    omega
def sp_Book_str (aKind aBook : Addr) : Sp3 := sp1 fun v G Q _ => ∃ ks, Bok ks ∧ v = bookD aKind aBook ks ∧ Q (.str (bookText ks)) G

theorem c_Book_str (T : Txt K mg aKind aBook aJourney) : Met3 P w K mg base 1 aBook "__str__" (sp_Book_str aKind aBook) [] := met3 T.is_Book.c (T.d_Book_str) sc_Book_str (by decide) len1 fun f cdv A outer s H E o E3 hr tk hp => ⟨_,
    have hN := sc_Book_str.nd
    (dss_one (ds_ret (de_join de_str (de_slot T.sl_Book_lines (de_var 0))))), by
    intro ds G Q h
    obtain ⟨v, rfl, ks, ok, rfl, q⟩ := in1 h
    have l4 := ok.l4
    have h1 := lines_len ok.ok
    have h2 := len_sum _ 40 (line_len ok.ok)
    conv => whnf
    refine ⟨rfl, bookLines ks, strsOf_map _, ?_, ret_id q⟩
    have e : (Str.ofString "\n").length = 1 := rfl
    rw [e]
    omega⟩
def fits (w : Wh) (front back : Int) : Bool := match w with
  | .all => true
  | .first n => decide (front ≤ (n : Nat))
  | .last n => decide (back ≤ (n : Nat))
  | .every m b n => decide (((if b then back else front) - (n : Nat)) % (m : Nat) = 0)
def sp_does_fit : Sp3 := sp3 fun v f b G Q _ => ∃ r i j, r ∈ allRows ∧ v = rowD r ∧ f = .int i ∧ b = .int j ∧ Q (.bl (fits r.w i j)) G

theorem c_does_fit (T : Txt K mg aKind aBook aJourney) : Cal3 P w K mg base 1 "does_fit" sp_does_fit [] := cal3 (T.d_does_fit) sc_does_fit (by decide) len3 fun f cdv A outer s H E o E3 hr tk hp => ⟨_,
    have hN := sc_does_fit.nd
    (dss_cons (ds_set 3 hN (de_split (de_var 0) de_str))
      (dss_cons (ds_if (dt_cmp (op_eqA hr) dc_eq (de_ix (de_var 3) de_int) de_str (nomark _)) (dss_one (ds_ret de_bl)) dss_nil)
      (dss_cons (ds_if (dt_cmp (op_eqA hr) dc_eq (de_ix (de_var 3) de_int) de_str (nomark _)) (dss_one (ds_ret (de_cmp op_le dc_le (de_var 1) (de_callTy call_intA cd_int rfl T.B.int (by decide +kernel) (da_cons (de_ix (de_var 3) de_int) da_nil)) (nomark _)))) dss_nil)
      (dss_cons (ds_if (dt_cmp (op_eqA hr) dc_eq (de_ix (de_var 3) de_int) de_str (nomark _)) (dss_one (ds_ret (de_cmp op_le dc_le (de_var 2) (de_callTy call_intA cd_int rfl T.B.int (by decide +kernel) (da_cons (de_ix (de_var 3) de_int) da_nil)) (nomark _)))) dss_nil)
      (dss_cons (ds_set 4 hN (de_if (dt_cmp (op_eqA hr) dc_eq (de_ix (de_var 3) de_int) de_str (nomark _)) (de_var 1) (de_var 2)))
      (dss_one (ds_ret (de_cmp (op_eqA hr) dc_eq (de_mod (de_sub (de_var 4) (de_callTy call_intA cd_int rfl T.B.int (by decide +kernel) (da_cons (de_ix (de_var 3) de_int) da_nil))) (de_callTy call_intA cd_int rfl T.B.int (by decide +kernel) (da_cons (de_ix (de_var 3) de_int) da_nil))) de_int (nomark _))))))))), by
    intro ds G Q h
    obtain ⟨v, f', b', rfl, r, i, j, hr', rfl, rfl, rfl, q⟩ := in3 h
    have small : (100 : Nat) < sizeLine := by decide
    have hl := len_rows r hr'
    have okr := ok_rows r hr'
    conv => whnf
    refine ⟨rfl, by omega, ?_⟩
    rw [split_rows r hr']
    obtain ⟨st, wh⟩ := r
    cases wh with
    | all => cases st <;> (conv => whnf) <;> exact ret_id q
    | first n =>
      have hx : (decide (1 ≤ n) && decide (n ≤ 3)) = true := okr
      simp only [Bool.and_eq_true, decide_eq_true_eq] at hx
      obtain ⟨f1, f2, f3, f4, f5⟩ := num_facts n (List.mem_range.mpr (by omega))
      cases st <;> (conv => whnf) <;> exact ⟨n, f5, by omega, ret_id q⟩
    | last n =>
      have hx : (decide (1 ≤ n) && decide (n ≤ 3)) = true := okr
      simp only [Bool.and_eq_true, decide_eq_true_eq] at hx
      obtain ⟨f1, f2, f3, f4, f5⟩ := num_facts n (List.mem_range.mpr (by omega))
      cases st <;> (conv => whnf) <;> exact ⟨n, f5, by omega, ret_id q⟩
    | every m b n =>
      have hx : (decide (1 ≤ n) && (decide (n ≤ m) && decide (m ≤ 6))) = true := okr
      simp only [Bool.and_eq_true, decide_eq_true_eq] at hx
      obtain ⟨f1, f2, f3, f4, f5⟩ := num_facts n (List.mem_range.mpr (by omega))
      obtain ⟨g1, g2, g3, g4, g5⟩ := num_facts m (List.mem_range.mpr (by omega))
      have mp : (0 : Int) < (m : Nat) := by omega
      cases b <;> cases st <;> (conv => whnf) <;> refine ⟨n, f5, by omega, ?_⟩ <;> (conv => whnf) <;> refine ⟨m, g5, by omega, mp, ret_id q⟩⟩
def standsF : List Row → Int → Int → Bool
  | [], _, _ => false
  | r :: rs, i, j => if fits r.w i j then r.stop else standsF rs i j
def sp_stands (aKind : Addr) : Sp3 := sp3 fun v f b G Q _ => ∃ k i j, Kok k ∧ v = kindD aKind k ∧ f = .int i ∧ b = .int j ∧ Q (.bl (standsF k.rows.reverse i j)) G

theorem c_stands (T : Txt K mg aKind aBook aJourney) : Cal3 P w K mg base 3 "stands" (sp_stands aKind) [] := cal3 (T.d_stands) sc_stands (by decide) len3 fun f cdv A outer s H E o E3 hr tk hp => ⟨_,
    have hN := sc_stands.nd
    (dss_cons (ds_for rfl hp (di_any (de_rev (de_prop (c_Kind_rows T) hr (de_var 0)))) (dg_name 3 hN) (dss_one (ds_if (dt_val (de_call (c_does_fit T) hr tk (da_cons (de_var 3) (da_cons (de_var 1) (da_cons (de_var 2) da_nil))))) (dss_one (ds_ret (de_startswith (de_var 3) de_str))) dss_nil)))
      (dss_one (ds_ret de_bl))), by
    intro ds G Q h
    obtain ⟨v, f', b', rfl, k, i, j, ok, rfl, rfl, rfl, q⟩ := in3 h
    conv => whnf
    refine ⟨rfl, k, rfl, ?_⟩
    conv => whnf
    rw [← List.map_reverse]
    refine for_inv (e := rowD) (fun rs sd G' => G' = G ∧ (∀ r ∈ rs, r ∈ allRows) ∧ standsF k.rows.reverse i j = standsF rs i j ∧ ∃ y, sd = [some (kindD aKind k), some (.int i), some (.int j), y]) ?_ ?_ _ _ _ ⟨rfl, fun r hr => ok.rw r (List.mem_reverse.mp hr), rfl, none, rfl⟩
    · rintro sd G' ⟨rfl, _, e, y, rfl⟩
      conv => whnf
      rw [e] at q
      exact ret_id q
    · rintro r rs sd G' ⟨rfl, hm, e, y, rfl⟩ N hN'
      have hr' := hm r List.mem_cons_self
      conv => whnf
      refine ⟨r, i, j, hr', rfl, rfl, rfl, ?_⟩
      conv => whnf
      refine br_cases (fun e1 => ?_) (fun e1 => ?_)
      · conv => whnf
        have es : standsF (r :: rs) i j = r.stop := by
          show (if fits r.w i j = true then r.stop else _) = _
          rw [if_pos e1]
        rw [e, es, ← stop_rows r hr'] at q
        exact ret_id q
      · conv => whnf
        have es : standsF (r :: rs) i j = standsF rs i j := by
          show (if fits r.w i j = true then r.stop else _) = _
          rw [if_neg (by rw [e1]; exact Bool.false_ne_true)]
        exact hN' _ _ ⟨rfl, fun o ho => hm o (List.mem_cons_of_mem _ ho), e.trans es, _, rfl⟩⟩
def sp_check_length : Sp3 := sp2 fun v m G Q _ => ∃ i : Int, 2 ≤ i ∧ v = .int i ∧ (m = .non ∨ ∃ j, m = .int j ∧ i ≤ j) ∧ Q .non G

theorem b_check_length (T : Txt K mg aKind aBook aJourney) : Body P w K mg base 1 "check_length" s_check_length N_check_length sp_check_length := fun f cdv A outer s H E o E3 hr tk hp => ⟨_,
    have hN := sc_check_length.nd
    (dss_one (ds_if (dt_bool (dw_or (dt_not (dt_val (de_call (c_is_integer T) hr tk (da_cons (de_var 0) da_nil)))) (dw_or (dt_cmp op_lt dc_lt (de_var 0) de_int (nomark _)) (dw_or1 (dt_bool (dw_and (dt_cmp op_notN dc_notN (de_var 1) de_non (nomark _)) (dw_and1 (dt_cmp op_gt dc_gt (de_var 0) (de_var 1) (nomark _))))))))) (dss_one ds_never) dss_nil)), by
    intro ds G Q h
    obtain ⟨v, m, rfl, i, hi, rfl, hm, q⟩ := in2 h
    have ni : decide (i < 2) = false := decide_eq_false (by omega)
    conv => whnf
    refine ⟨true, rfl, ?_⟩
    conv => whnf
    refine br_false ni ?_
    rcases hm with rfl | ⟨j, rfl, hj⟩
    · conv => whnf
      exact ret_id q
    · conv => whnf
      refine br_false (decide_eq_false (by omega)) ?_
      conv => whnf
      exact ret_id q⟩
theorem c_check_length1 (T : Txt K mg aKind aBook aJourney) : Cal3 P w K mg base 2 "check_length" sp_check_length [.non] := cal3D T.d_check_length sc_check_length (by decide) len2 (b_check_length T) 1 0 (by decide) rfl (fun F => .cons .non .nil) (fun _ _ _ _ _ _ _ us its hu hi => match us, its, hu, hi with | [_], [_], _, _ => ⟨_, rfl, rfl⟩)
theorem c_check_length2 (T : Txt K mg aKind aBook aJourney) : Cal3 P w K mg base 2 "check_length" sp_check_length [] := cal3D T.d_check_length sc_check_length (by decide) len2 (b_check_length T) 2 1 (by decide) rfl (fun F => .nil) (fun _ _ _ _ _ _ _ us its hu hi => match us, its, hu, hi with | [_, _], [_], _, _ => ⟨_, rfl, rfl⟩)
def sp_check_station : Sp3 := sp3 fun v lo hi G Q _ => ∃ i a b : Int, a ≤ i ∧ i ≤ b ∧ v = .int i ∧ lo = .int a ∧ hi = .int b ∧ Q .non G

theorem c_check_station (T : Txt K mg aKind aBook aJourney) : Cal3 P w K mg base 2 "check_station" sp_check_station [] := cal3 (T.d_check_station) sc_check_station (by decide) len3 fun f cdv A outer s H E o E3 hr tk hp => ⟨_,
    have hN := sc_check_station.nd
    (dss_one (ds_if (dt_bool (dw_or (dt_not (dt_val (de_call (c_is_integer T) hr tk (da_cons (de_var 0) da_nil)))) (dw_or1 (dt_not (dt_chain op_le op_le dc_le dc_le (de_var 1) (de_var 0) (de_var 2)))))) (dss_one ds_never) dss_nil)), by
    intro ds G Q h
    obtain ⟨v, lo, hi, rfl, i, a, b, h1, h2, rfl, rfl, rfl, q⟩ := in3 h
    conv => whnf
    refine ⟨true, rfl, ?_⟩
    conv => whnf
    refine br_true (decide_eq_true h1) ?_
    conv => whnf
    refine br_true (decide_eq_true h2) ?_
    conv => whnf
    exact ret_id q⟩
def sp_stops_there (aKind : Addr) : Sp3 := sp3 fun v l s G Q _ => ∃ k n i, Kok k ∧ v = kindD aKind k ∧ l = .int n ∧ s = .int i ∧ Q (.bl (standsF k.rows.reverse i (n + 1 - i))) G

theorem c_stops_there (T : Txt K mg aKind aBook aJourney) : Cal3 P w K mg base 4 "stops_there" (sp_stops_there aKind) [] := cal3 (T.d_stops_there) sc_stops_there (by decide) len3 fun f cdv A outer s H E o E3 hr tk hp => ⟨_,
    have hN := sc_stops_there.nd
    (dss_one (ds_ret (de_call (c_stands T) hr tk (da_cons (de_var 0) (da_cons (de_var 2) (da_cons (de_sub (de_add (de_var 1) de_int) (de_var 2)) da_nil)))))), by
    intro ds G Q h
    obtain ⟨v, l, s', rfl, k, n, i, ok, rfl, rfl, rfl, q⟩ := in3 h
    conv => whnf
    exact ⟨k, i, n + 1 - i, ok, rfl, rfl, rfl, ret_id q⟩⟩
def sp_does_stop (aKind aBook : Addr) : Sp3 := sp4 fun v w l s G Q _ => ∃ ks k n i, Bok ks ∧ k ∈ ks ∧ 2 ≤ n ∧ 1 ≤ i ∧ i ≤ n ∧ v = bookD aKind aBook ks ∧ w = .str k.name ∧ l = .int n ∧ s = .int i ∧ Q (.bl (standsF k.rows.reverse i (n + 1 - i))) G

def stopList (k : Kd) (n : Nat) : List Int := ((List.range n).filter fun s => standsF k.rows.reverse (1 + (s : Nat)) ((n : Nat) + 1 - (1 + (s : Nat)))).map fun s => (1 : Int) + (s : Nat)
def sp_stops (aKind aBook : Addr) : Sp3 := sp3 fun v w l G Q _ => ∃ ks k, ∃ n : Nat, Bok ks ∧ k ∈ ks ∧ 2 ≤ n ∧ n ≤ 1000 ∧ v = bookD aKind aBook ks ∧ w = .str k.name ∧ l = .int (n : Nat) ∧ Q (.tup ((stopList k n).map D.int)) G

abbrev tls (x : Str) : List Nat := TL.tl x
theorem tl_app (x y : Str) : tls (x ++ y) = tls x ++ tls y := TL.tl_append x y
theorem str_assoc (x y z : Str) : (x ++ y) ++ z = x ++ (y ++ z) := TL.ext_tl (by show tls _ = tls _; simp only [tl_app, List.append_assoc])
def headWords (k : Kd) : List Str := ["kind", k.name, "pace", num k.pace, "halt", num k.halt, "wait", num k.wait]
theorem head_join (k : Kd) : headLine k = Txt.join " " (headWords k) := by
  rw [TL.join_eq]
  show headLine k = ("kind" : Str) ++ " " ++ (k.name ++ " " ++ (("pace" : Str) ++ " " ++ (num k.pace ++ " " ++ (("halt" : Str) ++ " " ++ (num k.halt ++ " " ++ (("wait" : Str) ++ " " ++ num k.wait))))))
  unfold headLine
  have e1 : (Str.ofString "kind ") = (Str.ofString "kind") ++ (Str.ofString " ") := by decide +kernel
  have e2 : (Str.ofString " pace ") = (Str.ofString " ") ++ ((Str.ofString "pace") ++ (Str.ofString " ")) := by decide +kernel
  have e3 : (Str.ofString " halt ") = (Str.ofString " ") ++ ((Str.ofString "halt") ++ (Str.ofString " ")) := by decide +kernel
  have e4 : (Str.ofString " wait ") = (Str.ofString " ") ++ ((Str.ofString "wait") ++ (Str.ofString " ")) := by decide +kernel
  rw [e1, e2, e3, e4]
  simp only [str_assoc]
theorem num_signs : ∀ n ∈ List.range 61, 32 ∉ tls (num n) ∧ 10 ∉ tls (num n) := by decide +kernel
theorem row_signs : ∀ r ∈ allRows, 10 ∉ tls (rowText r) := by decide +kernel
theorem name_signs {x : Str} (h : isName x = true) : ∀ c ∈ tls x, c ∈ LETS.cps.toList ∨ c ∈ DIGS.cps.toList := by
  obtain ⟨⟨l⟩⟩ := x
  cases l with
  | nil => exact absurd h (by decide)
  | cons c cs =>
    have h : (decide (cs.length < 8) && (decide (c ∈ LETS.cps.toList) && (c :: cs).all fun d => decide (d ∈ LETS.cps.toList) || decide (d ∈ DIGS.cps.toList))) = true := h
    simp only [Bool.and_eq_true] at h
    intro d hd
    have h3 := List.all_eq_true.mp h.2.2 d hd
    simpa using h3
theorem name_no {x : Str} (h : isName x = true) : 32 ∉ tls x ∧ 10 ∉ tls x := by
  have z := name_signs h
  constructor
  · intro hm
    rcases z _ hm with y | y
    · exact absurd y (by decide +kernel)
    · exact absurd y (by decide +kernel)
  · intro hm
    rcases z _ hm with y | y
    · exact absurd y (by decide +kernel)
    · exact absurd y (by decide +kernel)
theorem nums_no {n : Nat} (h : n ≤ 60) : 32 ∉ tls (num n) ∧ 10 ∉ tls (num n) := num_signs n (List.mem_range.mpr (by omega))
theorem split_head {k : Kd} (ok : Kok k) : Txt.split (headLine k) " " = headWords k := by
  rw [head_join]
  refine TL.split_join (s := 32) (S := []) (by decide +kernel) (by decide +kernel) (by unfold headWords; simp) fun p hp => ?_
  have n1 := (nums_no (show k.pace ≤ 60 from Nat.le_trans ok.pa (by decide))).1
  have n2 := (nums_no (show k.halt ≤ 60 from Nat.le_trans ok.ha (by decide))).1
  have n3 := (nums_no ok.wa).1
  have n4 := (name_no ok.nm).1
  unfold headWords at hp
  simp only [List.mem_cons, List.not_mem_nil, or_false] at hp
  rcases hp with rfl | rfl | rfl | rfl | rfl | rfl | rfl | rfl
  · decide +kernel
  · exact n4
  · decide +kernel
  · exact n1
  · decide +kernel
  · exact n2
  · decide +kernel
  · exact n3
theorem head_nl {k : Kd} (ok : Kok k) : 10 ∉ tls (headLine k) := by
  have n1 := (nums_no (show k.pace ≤ 60 from Nat.le_trans ok.pa (by decide))).2
  have n2 := (nums_no (show k.halt ≤ 60 from Nat.le_trans ok.ha (by decide))).2
  have n3 := (nums_no ok.wa).2
  have n4 := (name_no ok.nm).2
  unfold headLine
  simp only [tl_app, List.mem_append]
  intro h
  rcases h with ((((((h | h) | h) | h) | h) | h) | h) | h
  · exact absurd h (by decide +kernel)
  · exact n4 h
  · exact absurd h (by decide +kernel)
  · exact n1 h
  · exact absurd h (by decide +kernel)
  · exact n2 h
  · exact absurd h (by decide +kernel)
  · exact n3 h
def sp_read_kind (aKind : Addr) : Sp3 := sp1 fun v G Q _ => ∃ k, Kok k ∧ v = .lst ((kdLines k).map D.str) ∧ Q (kindD aKind k) G

theorem c_read_kind (T : Txt K mg aKind aBook aJourney) : Cal3 P w K mg base 7 "read_kind" (sp_read_kind aKind) [] := cal3 (T.d_read_kind) sc_read_kind (by decide) len1 fun f cdv A outer s H E o E3 hr tk hp => ⟨_,
    have hN := sc_read_kind.nd
    (dss_cons (ds_set 1 hN (de_split (de_ix (de_var 0) de_int) de_str))
      (dss_cons (ds_if (dt_cmp (op_neA hr) dc_ne (de_callB call_len cd_len rfl T.B.len (by decide +kernel) (da_cons (de_var 1) da_nil)) de_int (nomark _)) (dss_one ds_never) dss_nil)
      (dss_cons (ds_setLc 2 [("at", 3)] rfl hN (tgt_name (i := 3) (by decide)) (di_any (de_tupS (da_cons de_int (da_cons de_int (da_cons de_int da_nil))))) (blkOk_by (N := N_read_kind) (sc := (defScope s_read_kind)) (own := [("at", 3)]) (by decide +kernel)) (fun _ _ _ _ _ => (pg_name (i := 3) hN rfl (by first | exact Or.inl rfl | exact Or.inr rfl))) (fun _ _ _ _ _ => dts_nil) (fun _ _ _ _ _ => (de_call (c_written_integer T) hr takesN (da_cons (de_ix (de_var 1) (de_var 3)) da_nil))))
      (dss_one (ds_ret (de_makeK (ks := []) [0, 1, 2, 3, 4, 5] (c_Kind_init T) hr tk (da_cons (de_ix (de_var 1) de_int) (da_cons (de_ix (de_var 2) de_int) (da_cons (de_ix (de_var 2) de_int) (da_cons (de_ix (de_var 2) de_int) (da_cons (de_callTy call_tuple_of cd_tuple rfl T.B.tuple (by decide +kernel) (da_cons (de_slice (de_var 0) (do_some de_int) do_none) da_nil)) da_nil))))) dk_nil (fun _ _ _ _ _ _ us ws hu hw => match us, ws, hu, hw with | [_, _, _, _, _, _], [], _, _ => rfl))))))), by
    intro ds G Q h
    obtain ⟨v, rfl, k, ok, rfl, q⟩ := in1 h
    have small : (100 : Nat) < sizeLine := by decide
    have hl := head_len ok
    conv => whnf
    refine ⟨rfl, by omega, ?_⟩
    rw [split_head ok]
    conv => whnf
    refine ⟨Nat.le_trans (Nat.le_of_ble_eq_true rfl : _ ≤ 100) (by decide), ?_⟩; conv => whnf
    refine ⟨Nat.lt_of_le_of_lt (Nat.le_of_ble_eq_true rfl : _ ≤ 100) (by decide), ?_⟩
    conv => whnf
    rw [lcL_cons]
    conv => whnf
    refine ⟨k.pace, Nat.lt_of_le_of_lt ok.pa (by decide), rfl, ?_⟩
    conv => whnf
    rw [lcL_cons]
    conv => whnf
    refine ⟨k.halt, Nat.lt_of_le_of_lt ok.ha (by decide), rfl, ?_⟩
    conv => whnf
    rw [lcL_cons]
    conv => whnf
    refine ⟨k.wait, Nat.lt_of_le_of_lt ok.wa (by decide), rfl, ?_⟩
    conv => whnf
    rw [lcL_nil]
    conv => whnf
    intro pd dx hp'
    refine ⟨pd, dx, k, ok, rfl, gupd_same, rfl, rfl, rfl, rfl, ?_, ?_⟩
    · show D.tup ((k.rows.map rowText).map D.str) = _
      rw [List.map_map]
      rfl
    · refine ⟨rfl, _, gupd_same, by simp, ?_⟩
      rw [gupd_gupd, gdel_upd hp']
      exact ret_id q⟩
def startsKind (x : Str) : Bool := Txt.startswith x "kind "
/-- the lines of the kinds, grouped as read_lines does -/
def group : List (List Str) → List Str → List (List Str)
  | done, [] => done
  | done, x :: xs => if startsKind x || done.isEmpty then group (done ++ [[x]]) xs else group (done.dropLast ++ [(done.getLast?.getD []) ++ [x]]) xs
theorem group_rows : ∀ (rs : List Row) (done : List (List Str)) (l : List Str) (ys : List Str), (∀ r ∈ rs, r ∈ allRows) → group (done ++ [l]) (rs.map rowText ++ ys) = group (done ++ [l ++ rs.map rowText]) ys
  | [], done, l, ys, _ => by simp
  | r :: rs, done, l, ys, h => by
    have e : startsKind (rowText r) = false := kind_rows r (h r List.mem_cons_self)
    show group (done ++ [l]) (rowText r :: (rs.map rowText ++ ys)) = _
    have st : group (done ++ [l]) (rowText r :: (rs.map rowText ++ ys)) = group (done ++ [l ++ [rowText r]]) (rs.map rowText ++ ys) := by
      show (if startsKind (rowText r) || (done ++ [l]).isEmpty then _ else group ((done ++ [l]).dropLast ++ [((done ++ [l]).getLast?.getD []) ++ [rowText r]]) _) = _
      rw [e]
      simp
    rw [st, group_rows rs done (l ++ [rowText r]) ys fun o ho => h o (List.mem_cons_of_mem _ ho)]
    simp
theorem starts_head (k : Kd) : startsKind (headLine k) = true := by
  unfold startsKind headLine
  simp only [str_assoc]
  exact PySem.W.KT.starts_app _ _
theorem group_kinds : ∀ (ks : List Kd) (done : List (List Str)), (∀ k ∈ ks, Kok k) → group done (bookLines ks) = done ++ ks.map kdLines
  | [], done, _ => by simp [bookLines, group]
  | k :: ks, done, h => by
    have e : bookLines (k :: ks) = headLine k :: (k.rows.map rowText ++ bookLines ks) := by
      unfold bookLines kdLines
      simp
    rw [e]
    have st : group done (headLine k :: (k.rows.map rowText ++ bookLines ks)) = group (done ++ [[headLine k]]) (k.rows.map rowText ++ bookLines ks) := by
      show (if startsKind (headLine k) || done.isEmpty then _ else _) = _
      rw [starts_head]
      rfl
    rw [st, group_rows k.rows done [headLine k] _ (h k List.mem_cons_self).rw, group_kinds ks _ fun o ho => h o (List.mem_cons_of_mem _ ho)]
    unfold kdLines
    simp
/-- how the parts stand while they are filled -/
structure Parts (G G' : Gp) (P : Addr) (ps : List Addr) (done : List (List Str)) : Prop where
  top : G' P = some (.lst (ps.map D.ref))
  one : Paired (fun p (l : List Str) => G' p = some (.lst (l.map D.str))) ps done
  nd : (P :: ps).Nodup
  old : ∀ q o, G q = some o → G' q = some o ∧ q ∉ P :: ps
theorem paired_imp {α β : Type} {R S : α → β → Prop} : ∀ {xs : List α} {ys : List β}, Paired R xs ys → (∀ x ∈ xs, ∀ y, R x y → S x y) → Paired S xs ys
  | _, _, .nil, _ => .nil
  | _, _, .cons r t, h => .cons (h _ List.mem_cons_self _ r) (paired_imp t fun x hx => h x (List.mem_cons_of_mem _ hx))
theorem paired_app {α β : Type} {R : α → β → Prop} : ∀ {xs : List α} {ys : List β} {x : α} {y : β}, Paired R xs ys → R x y → Paired R (xs ++ [x]) (ys ++ [y])
  | _, _, _, _, .nil, r => .cons r .nil
  | _, _, _, _, .cons q t, r => .cons q (paired_app t r)
theorem paired_last {α β : Type} {R : α → β → Prop} : ∀ {xs : List α} {ys : List β}, Paired R xs ys → ys ≠ [] → ∃ xi x yi y, xs = xi ++ [x] ∧ ys = yi ++ [y] ∧ Paired R xi yi ∧ R x y
  | _, _, .nil, h => absurd rfl h
  | [x], [y], .cons r .nil, _ => ⟨[], x, [], y, rfl, rfl, .nil, r⟩
  | x :: x2 :: xs, y :: y2 :: ys, .cons r (.cons r2 t), _ => by
    obtain ⟨xi, a, yi, b, e1, e2, p, q⟩ := paired_last (Paired.cons r2 t) (by simp)
    exact ⟨x :: xi, a, y :: yi, b, by rw [e1]; rfl, by rw [e2]; rfl, .cons r p, q⟩
theorem frz_parts : ∀ {ps : List Addr} {done : List (List Str)} {G : Gp}, Paired (fun p (l : List Str) => G p = some (.lst (l.map D.str))) ps done → ps.Nodup → ∃ G', FrzL G (ps.map D.ref) (done.map fun l => D.lst (l.map D.str)) G' ∧ ∀ q, q ∉ ps → G' q = G q
  | _, _, G, .nil, _ => ⟨G, .nil G, fun _ _ => rfl⟩
  | p :: ps, l :: done, G, .cons r t, nd => by
    have np : p ∉ ps := (List.nodup_cons.mp nd).1
    have fl : ∀ (G : Gp) (xs : List Str), FrzL G (xs.map D.str) (xs.map D.str) G := fun G xs => by
      induction xs with
      | nil => exact .nil G
      | cons x xs ih => exact .cons (.refl _ _) ih
    have t2 : Paired (fun q (l : List Str) => gdel G p q = some (.lst (l.map D.str))) ps done := paired_imp t fun x hx y e => by
      unfold gdel
      rw [if_neg (fun z => np (by rw [← z]; exact hx))]
      exact e
    obtain ⟨G', h1, h2⟩ := frz_parts t2 (List.nodup_cons.mp nd).2
    refine ⟨G', .cons (.lst r (fl _ _)) h1, fun q hq => ?_⟩
    rw [h2 q fun z => hq (List.mem_cons_of_mem _ z)]
    unfold gdel
    rw [if_neg fun z => hq (by rw [z]; exact List.mem_cons_self)]
def sp_read_lines (aKind aBook : Addr) : Sp3 := sp1 fun v G Q _ => ∃ ks, Bok ks ∧ v = .lst ((bookLines ks).map D.str) ∧ Q (bookD aKind aBook ks) G

theorem c_read_lines (T : Txt K mg aKind aBook aJourney) : Cal3 P w K mg base 8 "read_lines" (sp_read_lines aKind aBook) [] := cal3 (T.d_read_lines) sc_read_lines (by decide) len1 fun f cdv A outer s H E o E3 hr tk hp => ⟨_,
    have hN := sc_read_lines.nd
    (dss_cons (ds_set 1 hN (de_lstSO da_nil))
      (dss_cons (ds_for rfl hp (di_any (de_var 0)) (dg_name 2 hN) (dss_one (ds_if (dt_bool (dw_or (dt_val (de_startswith (de_var 2) de_str)) (dw_or1 (dt_cmp (op_eqA hr) dc_eq (de_callB call_len cd_len rfl T.B.len (by decide +kernel) (da_cons (de_var 1) da_nil)) de_int (nomark _))))) (dss_one (ds_expr (de_append (de_var 1) (de_lstSO (da_cons (de_var 2) da_nil))))) (dss_one (ds_expr (de_append (de_ix (de_var 1) (de_neg de_int)) (de_var 2)))))))
      (dss_ghost 1 (dss_one (ds_ret (de_makeK (ks := []) [0, 1] (c_Book_init T) hr tk (da_cons (de_callTy call_tuple_of cd_tuple rfl T.B.tuple (by decide +kernel) (da_cons (de_lc [("part", 3)] rfl hN (tgt_name (i := 3) (by decide)) (di_any (de_var 1)) (blkOk_by (N := N_read_lines) (sc := (defScope s_read_lines)) (own := [("part", 3)]) (by decide +kernel)) (fun _ _ _ _ _ => (pg_name (i := 3) hN rfl (by first | exact Or.inl rfl | exact Or.inr rfl))) (fun _ _ _ _ _ => dts_nil) (fun _ _ _ _ _ => (de_call (c_read_kind T) hr takesN (da_cons (de_var 3) da_nil)))) da_nil)) da_nil) dk_nil (fun _ _ _ _ _ _ us ws hu hw => match us, ws, hu, hw with | [_, _], [], _, _ => rfl))))))), by
    intro ds G Q h
    obtain ⟨v, rfl, ks, ok, rfl, q⟩ := in1 h
    have small : (100 : Nat) < sizeLine := by decide
    have l4 := ok.l4
    have ll := lines_len ok.ok
    conv => whnf
    refine ⟨Nat.le_trans (Nat.le_of_ble_eq_true rfl : _ ≤ 100) (by decide), ?_⟩; conv => whnf
    intro pa hP
    conv => whnf
    refine for_inv (e := D.str) (fun xs sd G' => ∃ done ps y, group done xs = ks.map kdLines ∧ done.flatten.length + xs.length ≤ (bookLines ks).length ∧ done.length + xs.length ≤ (bookLines ks).length ∧ Parts G G' pa ps done ∧ sd = [some (.lst ((bookLines ks).map D.str)), some (.ref pa), y, none]) ?_ ?_ _ _ _ ⟨[], [], none, ?_, by simp, by simp, ⟨gupd_same, .nil, by simp, fun q o e => by
        have hq : q ≠ pa := fun z => by rw [z, hP] at e; cases e
        exact ⟨by rw [gupd_ne hq]; exact e, by simpa using hq⟩⟩, rfl⟩
    · rintro sd G' ⟨done, ps, y, e1, e2, e3, pt, rfl⟩
      have e1 : done = ks.map kdLines := e1
      subst e1
      have nd := List.nodup_cons.mp pt.nd
      have t2 : Paired (fun q (l : List Str) => gdel G' pa q = some (.lst (l.map D.str))) ps (ks.map kdLines) := paired_imp pt.one fun x hx y e => by
        unfold gdel
        rw [if_neg (fun z => nd.1 (by rw [← z]; exact hx))]
        exact e
      obtain ⟨G1, fr, same⟩ := frz_parts t2 nd.2
      have sub : Sub G G1 := fun q o e => by
        obtain ⟨h1, h2⟩ := pt.old q o e
        refine ⟨o, ?_, .refl o⟩
        rw [same q fun z => h2 (List.mem_cons_of_mem _ z)]
        unfold gdel
        rw [if_neg fun z => h2 (by rw [z]; exact List.mem_cons_self)]
        exact h1
      conv => whnf
      refine ⟨.ref pa, _, G1, G, rfl, .lst pt.top fr, sub, ?_⟩
      conv => whnf
      rw [List.map_map]
      refine ⟨by rw [List.length_map]; omega, ?_⟩
      conv => whnf
      refine lc_map (e := fun k : Kd => D.lst ((kdLines k).map D.str)) (kindD aKind) ks (fun k hk K' kk => ?_) ?_
      · conv => whnf
        exact ⟨k, ok.ok k hk, rfl, kk⟩
      · conv => whnf
        intro pd dx hp'
        refine ⟨pd, dx, ks, ok, rfl, gupd_same, rfl, rfl, _, gupd_same, by simp [bkD], ?_⟩
        rw [gupd_gupd, gdel_upd hp']
        exact ret_id q
    · rintro x xs sd G' ⟨done, ps, y, e1, e2, e3, pt, rfl⟩ N hN'
      rw [List.length_cons] at e2 e3
      have plen : ps.length = done.length := Paired.length pt.one
      have gs : ∀ p ∈ ps, ∃ o, G' p = some o := fun p hp => by
        have aux : ∀ {xs : List Addr} {ys : List (List Str)}, Paired (fun p (l : List Str) => G' p = some (.lst (l.map D.str))) xs ys → p ∈ xs → ∃ o, G' p = some o := by
          intro xs ys h
          induction h with
          | nil => intro h; cases h
          | cons r t ih =>
            intro h
            rcases List.mem_cons.mp h with z | z
            · subst z; exact ⟨_, r⟩
            · exact ih z
        exact aux pt.one hp
      have nd := List.nodup_cons.mp pt.nd
      have new : (startsKind x || done.isEmpty) = true → ∀ q1, G' q1 = none → N [some (.lst ((bookLines ks).map D.str)), some (.ref pa), some (.str x), none] (gupd (gupd G' q1 (.lst [D.str x])) pa (.lst (ps.map D.ref ++ [D.ref q1]))) := fun hs q1 hq1 => by
        have q1pa : q1 ≠ pa := fun z => by rw [z, pt.top] at hq1; cases hq1
        have q1ps : ∀ p ∈ ps, p ≠ q1 := fun p hp z => by
          obtain ⟨o, e⟩ := gs p hp
          rw [z, hq1] at e
          cases e
        refine hN' _ _ ⟨done ++ [[x]], ps ++ [q1], _, ?_, by rw [List.flatten_append, List.length_append]; show _ + 1 + _ ≤ _; omega, by rw [List.length_append]; show _ + 1 + _ ≤ _; omega, ⟨?_, ?_, ?_, fun q o e => ?_⟩, rfl⟩
        · rw [← e1]
          show _ = (if startsKind x || done.isEmpty then _ else _)
          rw [if_pos hs]
        · rw [gupd_same, List.map_append]
          rfl
        · refine paired_app (paired_imp pt.one fun p hp l e => ?_) ?_
          · rw [gupd_ne (fun z => nd.1 (by rw [← z]; exact hp)), gupd_ne (q1ps p hp)]
            exact e
          · rw [gupd_ne q1pa, gupd_same]
            rfl
        · rw [List.nodup_cons]
          refine ⟨fun z => ?_, ?_⟩
          · rcases List.mem_append.mp z with y | y
            · exact nd.1 y
            · exact q1pa (List.mem_singleton.mp y).symm
          · rw [List.nodup_append]
            refine ⟨nd.2, by simp, fun a ha b hb => ?_⟩
            have : b = q1 := by simpa using hb
            rw [this]
            exact q1ps a ha
        · obtain ⟨h1, h2⟩ := pt.old q o e
          have qq : q ≠ q1 := fun z => by rw [z, hq1] at h1; cases h1
          have qp : q ≠ pa := fun z => h2 (by rw [z]; exact List.mem_cons_self)
          refine ⟨by rw [gupd_ne qp, gupd_ne qq]; exact h1, fun z => ?_⟩
          rcases List.mem_cons.mp z with y | y
          · exact qp y
          · rcases List.mem_append.mp y with y | y
            · exact h2 (List.mem_cons_of_mem _ y)
            · exact qq (by simpa using y)
      have push : ∀ q1, G' q1 = none → ∃ ds, gupd G' q1 (.lst [D.str x]) pa = some (.lst ds) ∧ ds.length < sizeLine ∧ ((startsKind x || done.isEmpty) = true → N [some (.lst ((bookLines ks).map D.str)), some (.ref pa), some (.str x), none] (gupd (gupd G' q1 (.lst [D.str x])) pa (.lst (ds ++ [D.ref q1])))) := fun q1 hq1 => by
        have q1pa : pa ≠ q1 := fun z => by rw [← z, pt.top] at hq1; cases hq1
        exact ⟨_, by rw [gupd_ne q1pa]; exact pt.top, by rw [List.length_map]; omega, fun hs => new hs q1 hq1⟩
      conv => whnf
      refine br_cases (fun s1 => ?_) (fun s1 => ?_)
      · have hs : (startsKind x || done.isEmpty) = true := by rw [show startsKind x = true from s1]; rfl
        conv => whnf
        refine ⟨⟨_, pt.top⟩, Nat.le_trans (Nat.le_of_ble_eq_true rfl : _ ≤ 100) (by decide), fun q1 hq1 => ?_⟩
        obtain ⟨ds, g1, g2, g3⟩ := push q1 hq1
        exact ⟨ds, g1, g2, g3 hs⟩
      · conv => whnf
        refine ⟨_, pt.top, ?_⟩
        conv => whnf
        refine br_cases (fun s2 => ?_) (fun s2 => ?_)
        · have s2 : decide (((ps.map D.ref).length : Int) = 0) = true := s2
          have s2 := of_decide_eq_true s2
          rw [List.length_map, plen] at s2
          have hs : (startsKind x || done.isEmpty) = true := by
            have : done = [] := List.length_eq_zero_iff.mp (by omega)
            rw [this]
            simp
          conv => whnf
          refine ⟨⟨_, pt.top⟩, Nat.le_trans (Nat.le_of_ble_eq_true rfl : _ ≤ 100) (by decide), fun q1 hq1 => ?_⟩
          obtain ⟨ds, g1, g2, g3⟩ := push q1 hq1
          exact ⟨ds, g1, g2, g3 hs⟩
        · have s2 : decide (((ps.map D.ref).length : Int) = 0) = false := s2
          have s2 := of_decide_eq_false s2
          rw [List.length_map, plen] at s2
          have hne : done ≠ [] := fun z => by rw [z] at s2; exact s2 rfl
          obtain ⟨pi, p1, di, l, ep, ed, pp, r1⟩ := paired_last pt.one hne
          have p1ps : p1 ∈ ps := by rw [ep]; simp
          have p1pa : p1 ≠ pa := fun z => nd.1 (by rw [← z]; exact p1ps)
          conv => whnf
          refine ⟨_, pt.top, ?_⟩
          refine getI_in (d := .ref p1) (by rw [ep]; simp) ?_
          conv => whnf
          refine ⟨⟨_, r1⟩, _, r1, ?_, ?_⟩
          · rw [List.length_map]
            have : l.length ≤ done.flatten.length := by rw [ed]; simp
            omega
          · conv => whnf
            refine hN' _ _ ⟨di ++ [l ++ [x]], ps, _, ?_, ?_, ?_, ⟨?_, ?_, pt.nd, fun q o e => ?_⟩, rfl⟩
            · rw [← e1]
              have hs : ¬ (startsKind x || done.isEmpty) = true := by
                rw [show startsKind x = false from s1]
                simpa using hne
              show _ = (if startsKind x || done.isEmpty then _ else group (done.dropLast ++ [(done.getLast?.getD []) ++ [x]]) xs)
              rw [if_neg hs, ed]
              simp
            · rw [ed] at e2
              simp at e2 ⊢
              omega
            · rw [ed] at e3
              simp at e3 ⊢
              omega
            · rw [gupd_ne (Ne.symm p1pa)]
              exact pt.top
            · rw [ep]
              refine paired_app (paired_imp pp fun p hp l e => ?_) ?_
              · have np : p ≠ p1 := fun z => by
                  have n2 := nd.2
                  rw [ep, List.nodup_append] at n2
                  exact n2.2.2 p hp p1 (by simp) z
                rw [gupd_ne np]
                exact e
              · rw [gupd_same, List.map_append]
                rfl
            · obtain ⟨h1, h2⟩ := pt.old q o e
              have qp : q ≠ p1 := fun z => h2 (List.mem_cons_of_mem _ (by rw [z]; exact p1ps))
              exact ⟨by rw [gupd_ne qp]; exact h1, h2⟩
    · rw [group_kinds ks [] ok.ok]
      rfl⟩
theorem lines_nl {ks : List Kd} (ok : ∀ k ∈ ks, Kok k) : ∀ x ∈ bookLines ks, 10 ∉ tls x := fun x hx => by
  unfold bookLines at hx
  obtain ⟨l, hl, h2⟩ := List.mem_flatten.mp hx
  obtain ⟨k, hk, rfl⟩ := List.mem_map.mp hl
  have okk := ok k hk
  rcases List.mem_cons.mp h2 with z | z
  · subst z
    exact head_nl okk
  · obtain ⟨r, hr, rfl⟩ := List.mem_map.mp z
    exact row_signs r (okk.rw r hr)
theorem split_book {ks : List Kd} (ok : Bok ks) : Txt.split (bookText ks) "\n" = bookLines ks := by
  unfold bookText
  refine TL.split_join (s := 10) (S := []) (by decide +kernel) (by decide +kernel) (fun e => ?_) (lines_nl ok.ok)
  have l0 := ok.l0
  cases ks with
  | nil => exact absurd l0 (by decide)
  | cons k ks =>
    unfold bookLines kdLines at e
    simp at e
theorem text_len {ks : List Kd} (ok : Bok ks) : (bookText ks).length ≤ 2000 := by
  have l4 := ok.l4
  have h1 := lines_len ok.ok
  have h2 := len_sum _ 40 (line_len ok.ok)
  have h3 := PySem.StrLaws.join_length_le (Str.ofString "\n") (bookLines ks)
  rw [show (Str.ofString "\n").length = 1 from rfl, Nat.mul_one] at h3
  unfold bookText
  rw [TL.join_eq]
  omega
def sp_text_book (aKind aBook : Addr) : Sp3 := sp1 fun v G Q _ => ∃ ks, Bok ks ∧ v = .str (bookText ks) ∧ Q (bookD aKind aBook ks) G

theorem c_text_book (T : Txt K mg aKind aBook aJourney) : Cal3 P w K mg base 9 "text_book" (sp_text_book aKind aBook) [] := cal3 (T.d_text_book) sc_text_book (by decide) len1 fun f cdv A outer s H E o E3 hr tk hp => ⟨_,
    have hN := sc_text_book.nd
    (dss_cons (ds_if (dt_not (dt_val (de_isi .str (de_var 0) T.B.isinstance T.B.str (by decide +kernel)))) (dss_one (ds_ret de_non)) dss_nil)
      (dss_cons (ds_try0 (dss_one (ds_set 1 hN (de_call (c_read_lines T) hr takesN (da_cons (de_split (de_var 0) de_str) da_nil)))))
      (dss_one (ds_ret (de_if (dt_cmp (op_eqA hr) dc_eq (de_strO (c_Book_str T) hr T.B.str (da_cons (de_var 1) da_nil)) (de_var 0) (nomark _)) (de_var 1) de_non))))), by
    intro ds G Q h
    obtain ⟨v, rfl, ks, ok, rfl, q⟩ := in1 h
    have small : (3000 : Nat) < sizeLine := by decide
    have tl := text_len ok
    conv => whnf
    refine ⟨rfl, by omega, ?_⟩
    rw [split_book ok]
    conv => whnf
    refine ⟨ks, ok, rfl, ?_⟩
    conv => whnf
    refine ⟨rfl, ks, ok, rfl, _, rfl, ?_⟩
    conv => whnf
    refine br_true (decide_eq_true rfl) ?_
    conv => whnf
    exact ret_id q⟩
def sp_Book_read (aKind aBook : Addr) : Sp3 := sp2 fun _ v G Q _ => ∃ ks, Bok ks ∧ v = .str (bookText ks) ∧ Q (bookD aKind aBook ks) G

theorem c_Book_read (T : Txt K mg aKind aBook aJourney) : CMt3 P w K mg base 10 aBook "read" (sp_Book_read aKind aBook) := cmt3 (T.d_Book_read) sc_Book_read (by decide) len2 fun f cdv A outer s H E o E3 hr tk hp => ⟨_,
    have hN := sc_Book_read.nd
    (dss_cons (ds_set 2 hN (de_call (c_text_book T) hr tk (da_cons (de_var 1) da_nil)))
      (dss_cons (ds_if (dt_cmp op_isN dc_isN (de_var 2) de_non (nomark _)) (dss_one ds_never) dss_nil)
      (dss_one (ds_ret (de_var 2))))), by
    intro ds G Q h
    obtain ⟨c, v, rfl, ks, ok, rfl, q⟩ := in2 h
    conv => whnf
    refine ⟨ks, ok, rfl, ?_⟩
    conv => whnf
    exact ret_id q⟩
end TS
set_option Elab.async false
set_option linter.all false
set_option maxRecDepth 100000
set_option maxHeartbeats 4000000
namespace TS
open PySem PySem.Spec PyProof.Rows L2 L3
variable {P : Program} {w : World} {K : PySem.W.Frag} {mg : Str → Option Value} {base : Heap} {aKind aBook aJourney : Addr}
def sp_law_cell : Sp3 := sp2 fun v s G Q _ => ∃ (ns : List Int) (i : Nat), v = .scr (ns.map D.int) ∧ s = .int (i : Nat) ∧ ∀ r : Int, Q (.int r) G

theorem c_law_cell (T : Txt K mg aKind aBook aJourney) : Cal3 P w K mg base 1 "_law_cell" sp_law_cell [] := cal3 (T.d_law_cell) sc_law_cell (by decide) len2 fun f cdv A outer s H E o E3 hr tk hp => ⟨_,
    have hN := sc_law_cell.nd
    (dss_cons (ds_if (dt_cmp op_lt dc_lt (de_var 1) (de_callB call_len cd_len rfl T.B.len (by decide +kernel) (da_cons (de_var 0) da_nil)) (nomark _)) (dss_one (ds_ret (de_ix (de_var 0) (de_var 1)))) dss_nil)
      (dss_cons (ds_set 2 hN (de_add (de_mul de_int (de_add (de_var 1) de_int)) de_int))
      (dss_cons (ds_for rfl hp (di_any (de_slice (de_var 0) do_none (do_some de_int))) (dg_name 3 hN) (dss_one (ds_set 2 hN (de_mod (de_callTy call_intA cd_int rfl T.B.int (by decide +kernel) (da_cons (de_add (de_mul (de_var 2) de_int) (de_var 3)) da_nil)) de_int))))
      (dss_one (ds_ret (de_var 2)))))), by
    intro ds G Q h
    obtain ⟨v, s', rfl, ns, i, rfl, rfl, q⟩ := in2 h
    conv => whnf
    refine br_cases (fun e1 => ?_) (fun e1 => ?_)
    · conv => whnf
      have e1 : decide (((i : Nat) : Int) < ((ns.map D.int).length : Nat)) = true := e1
      have e1 := of_decide_eq_true e1
      rw [List.length_map] at e1
      have hi : i < ns.length := by omega
      exact getI_in (d := .int ns[i]) (by rw [List.getElem?_map, List.getElem?_eq_getElem hi]; rfl) (ret_id (q _))
    · conv => whnf
      refine ⟨Or.inl ⟨by decide, by decide⟩, ?_⟩
      conv => whnf
      show forL _ _ _ ((ns.map D.int).take 5) _ _
      rw [← List.map_take]
      refine for_inv (e := D.int) (fun xs sd G' => G' = G ∧ ∃ (k : Int) (y : Option D), sd = [some (.scr (ns.map D.int)), some (.int (i : Nat)), some (.int k), y]) ?_ ?_ _ _ _ ⟨rfl, _, none, rfl⟩
      · rintro sd G' ⟨rfl, k, y, rfl⟩
        conv => whnf
        exact ret_id (q _)
      · rintro x xs sd G' ⟨rfl, k, y, rfl⟩ N hN'
        conv => whnf
        refine ⟨Or.inr ⟨by decide, by decide⟩, ?_⟩
        conv => whnf
        refine ⟨show (0 : Int) < 2147483587 by decide, ?_⟩
        conv => whnf
        exact hN' _ _ ⟨rfl, _, _, rfl⟩⟩
def isPool (ds : List D) : Prop := ∃ a b c : Int, ds = [.int a, .int b, .int c]
def PoolG (G : Gp) (p : Addr) : Prop := G p = some (.lsts isPool)
def sp_law_pool : Sp3 := sp1 fun v G Q _ => ∃ z : Int, v = .int z ∧ ∀ p, G p = none → Q (.ref p) (gupd G p (.lsts isPool))
theorem sub_pool {G : Gp} {p : Addr} {ds : List D} (h : isPool ds) : Sub (gupd G p (.lsts isPool)) (gupd G p (.lst ds)) := fun q o e => by
  by_cases hq : q = p
  · subst hq
    rw [gupd_same] at e
    cases e
    exact ⟨.lst ds, gupd_same, .cl h⟩
  · rw [gupd_ne hq] at e
    exact ⟨o, by rw [gupd_ne hq]; exact e, .refl o⟩

theorem c_law_pool (T : Txt K mg aKind aBook aJourney) : Cal3 P w K mg base 1 "_law_pool" sp_law_pool [] := cal3 (T.d_law_pool) sc_law_pool (by decide) len1 fun f cdv A outer s H E o E3 hr tk hp => ⟨_,
    have hN := sc_law_pool.nd
    (dss_one (ds_ret (de_lstSO (da_cons (de_mod (de_callTy call_intA cd_int rfl T.B.int (by decide +kernel) (da_cons (de_var 0) da_nil)) de_int) (da_cons (de_if (dt_cmp op_ge dc_ge (de_callB call_abs cd_abs rfl T.B.abs (by decide +kernel) (da_cons (de_var 0) da_nil)) (de_pow de_int de_int) (nomark _)) (de_callB call_abs cd_abs rfl T.B.abs (by decide +kernel) (da_cons (de_var 0) da_nil)) de_int) (da_cons de_int da_nil)))))), by
    intro ds G Q h
    obtain ⟨v, rfl, z, rfl, q⟩ := in1 h
    conv => whnf
    refine ⟨show (0 : Int) < 2147483587 by decide, ?_⟩
    conv => whnf
    refine ⟨⟨by decide, by decide, by decide⟩, ?_⟩
    conv => whnf
    refine br_cases (fun e1 => ?_) (fun e1 => ?_)
    · conv => whnf
      refine ⟨Nat.le_trans (Nat.le_of_ble_eq_true rfl : _ ≤ 100) (by decide), fun p hp' => ?_⟩
      exact ret_sub (sub_pool ⟨_, _, _, rfl⟩) (q p hp')
    · conv => whnf
      refine ⟨Nat.le_trans (Nat.le_of_ble_eq_true rfl : _ ≤ 100) (by decide), fun p hp' => ?_⟩
      exact ret_sub (sub_pool ⟨_, _, _, rfl⟩) (q p hp')⟩
def sp_law_draw : Sp3 := sp2 fun v m G Q _ => ∃ p, ∃ n : Nat, v = .ref p ∧ m = .int (n : Nat) ∧ PoolG G p ∧ 0 < n ∧ n < 2000000 ∧ ∀ r : Nat, r < n → Q (.int (r : Nat)) G
theorem ret_pool {K : PySem.W.Frag} {Q3 : DK} {d : D} {G G' : Gp} {p : Addr} {ds : List D} (h : PoolG G p) (e : G' = gupd G p (.lst ds)) (hf : isPool ds) (q : Q3 d G) : Ret K Q3 d G' := ret_close h e hf q
theorem mod_nat {a : Int} {n : Nat} (h : 0 < n) : ∃ r : Nat, r < n ∧ a % (n : Nat) = (r : Nat) := by
  have h1 := Int.emod_nonneg a (show ((n : Nat) : Int) ≠ 0 by omega)
  have h2 := Int.emod_lt_of_pos a (show (0 : Int) < (n : Nat) by omega)
  exact ⟨(a % (n : Nat)).toNat, by omega, by omega⟩

theorem c_law_draw (T : Txt K mg aKind aBook aJourney) : Cal3 P w K mg base 1 "_law_draw" sp_law_draw [] := cal3 (T.d_law_draw) sc_law_draw (by decide) len2 fun f cdv A outer s H E o E3 hr tk hp => ⟨_,
    have hN := sc_law_draw.nd
    (dss_open 0 (dss_cons (ds_asg (de_add (de_ix (de_var 0) de_int) de_int) (dg_subL (de_var 0) de_int))
      (dss_cons (ds_if (dt_cmp op_gt dc_gt (de_ix (de_var 0) de_int) de_int (nomark _)) (dss_cons (ds_asg (de_callB call_divmod cd_divmod rfl T.B.divmod (by decide +kernel) (da_cons (de_ix (de_var 0) de_int) (da_cons (de_var 1) da_nil))) (dg_tl (n := 2) rfl (dgs_cons (dg_subL (de_var 0) de_int) (dgs_cons (dg_name 2 hN) dgs_nil))))
      (dss_one (ds_ret (de_var 2)))) dss_nil)
      (dss_cons (ds_set 3 hN (de_callTy call_intA cd_int rfl T.B.int (by decide +kernel) (da_cons (de_ix (de_var 0) de_int) da_nil)))
      (dss_cons (ds_set 3 hN (de_mod (de_callTy call_intA cd_int rfl T.B.int (by decide +kernel) (da_cons (de_add (de_add (de_mul (de_var 3) (de_add (de_mod (de_callTy call_intA cd_int rfl T.B.int (by decide +kernel) (da_cons (de_var 3) da_nil)) de_int) de_int)) (de_mul de_int (de_ix (de_var 0) de_int))) de_int) da_nil)) de_int))
      (dss_cons (ds_asg (de_mod (de_callTy call_intA cd_int rfl T.B.int (by decide +kernel) (da_cons (de_add (de_mul (de_var 3) de_int) (de_mul de_int (de_ix (de_var 0) de_int))) da_nil)) de_int) (dg_subL (de_var 0) de_int))
      (dss_one (ds_ret (de_mod (de_callTy call_intA cd_int rfl T.B.int (by decide +kernel) (da_cons (de_fdiv (de_ix (de_var 0) de_int) de_int) da_nil)) (de_var 1)))))))))), by
    intro ds G Q h
    obtain ⟨v, m, rfl, p, n, rfl, rfl, pg, n0, n1, q⟩ := in2 h
    conv => whnf
    refine ⟨p, isPool, rfl, pg, fun ds hd => ?_⟩
    obtain ⟨a, b, c, rfl⟩ := hd
    conv => whnf
    refine ⟨_, gupd_same, ?_⟩
    conv => whnf
    refine ⟨_, 2, gupd_same, rfl, ?_⟩
    conv => whnf
    refine ⟨_, gupd_same, ?_⟩
    conv => whnf
    refine br_cases (fun e1 => ?_) (fun e1 => ?_)
    · conv => whnf
      refine ⟨_, gupd_same, ?_⟩
      conv => whnf
      refine ⟨⟨by omega, by omega⟩, ?_⟩
      conv => whnf
      refine ⟨_, 1, gupd_same, rfl, ?_⟩
      conv => whnf
      obtain ⟨r, hr', e⟩ := mod_nat (a := b) n0
      rw [e]
      exact ret_pool (ds := [.int a, .int (b / (n : Nat)), .int (c + 1)]) pg (by rw [gupd_gupd, gupd_gupd]; rfl) ⟨_, _, _, rfl⟩ (q r hr')
    · conv => whnf
      refine ⟨_, gupd_same, ?_⟩
      conv => whnf
      refine ⟨show (0 : Int) < 5701 by decide, ?_⟩
      conv => whnf
      refine ⟨Or.inr ?_, ?_⟩
      · have h1 := Int.emod_nonneg a (show (5701 : Int) ≠ 0 by decide)
        have h2 := Int.emod_lt_of_pos a (show (0 : Int) < 5701 by decide)
        exact ⟨by omega, by omega⟩
      conv => whnf
      refine ⟨_, gupd_same, ?_⟩
      conv => whnf
      refine ⟨Or.inl ⟨by decide, by decide⟩, ?_⟩
      conv => whnf
      refine ⟨show (0 : Int) < 2147483587 by decide, ?_⟩
      conv => whnf
      refine ⟨Or.inr ⟨by decide, by decide⟩, ?_⟩
      conv => whnf
      refine ⟨_, gupd_same, ?_⟩
      conv => whnf
      refine ⟨Or.inl ⟨by decide, by decide⟩, ?_⟩
      conv => whnf
      refine ⟨show (0 : Int) < 2147483549 by decide, ?_⟩
      conv => whnf
      refine ⟨_, 0, gupd_same, rfl, ?_⟩
      conv => whnf
      refine ⟨_, gupd_same, ?_⟩
      conv => whnf
      refine ⟨⟨by decide, by decide⟩, ?_⟩
      conv => whnf
      refine ⟨show (0 : Int) < (n : Nat) by omega, ?_⟩
      generalize (Int.emod _ 2147483549 / 128 : Int) = z
      show Ret K Q (.int (z % (n : Nat))) _
      obtain ⟨r, hr', e⟩ := mod_nat (a := z) n0
      rw [e]
      exact ret_pool (ds := [.int (((a * (a % 5701 + 20011) + 67867967 * (c + 1) + 97) % 2147483587 * 39373 + 5 * (c + 1)) % 2147483549), .int b, .int (c + 1)]) pg (by rw [gupd_gupd, gupd_gupd]; rfl) ⟨_, _, _, rfl⟩ (q r hr')⟩
def sp_law_pick : Sp3 := sp2 fun v l G Q _ => ∃ p ds, v = .ref p ∧ l = .lst ds ∧ PoolG G p ∧ 0 < ds.length ∧ ds.length < 1000000 ∧ ∀ d ∈ ds, Q d G

theorem c_law_pick (T : Txt K mg aKind aBook aJourney) : Cal3 P w K mg base 2 "_law_pick" sp_law_pick [] := cal3 (T.d_law_pick) sc_law_pick (by decide) len2 fun f cdv A outer s H E o E3 hr tk hp => ⟨_,
    have hN := sc_law_pick.nd
    (dss_one (ds_ret (de_ix (de_var 1) (de_call (c_law_draw T) hr tk (da_cons (de_var 0) (da_cons (de_callB call_len cd_len rfl T.B.len (by decide +kernel) (da_cons (de_var 1) da_nil)) da_nil)))))), by
    intro ds G Q h
    obtain ⟨v, l, rfl, p, ds, rfl, rfl, pg, n0, n1, q⟩ := in2 h
    conv => whnf
    refine ⟨p, ds.length, rfl, rfl, pg, n0, by omega, fun r hr' => ?_⟩
    exact getI_in (d := ds[r]) (List.getElem?_eq_getElem hr') (ret_id (q _ (List.getElem_mem _)))⟩
def lawWords : List Str := ["kind", "pace", "halt", "wait", "stop", "pass", "all", "first", "last", "every", "from", "back"]
def sp_law_words : Sp3 := sp0 fun G Q _ => Q (.lst (lawWords.map D.str)) G

theorem c_law_words (T : Txt K mg aKind aBook aJourney) : Cal3 P w K mg base 1 "_law_words" sp_law_words [] := cal3 (T.d_law_words) sc_law_words (by decide) len0 fun f cdv A outer s H E o E3 hr tk hp => ⟨_,
    have hN := sc_law_words.nd
    (dss_one (ds_ret (de_lstS (da_cons de_str (da_cons de_str (da_cons de_str (da_cons de_str (da_cons de_str (da_cons de_str (da_cons de_str (da_cons de_str (da_cons de_str (da_cons de_str (da_cons de_str (da_cons de_str da_nil))))))))))))))), by
    intro ds G Q h
    obtain ⟨rfl, q⟩ := in0 h
    conv => whnf
    refine ⟨Nat.le_trans (Nat.le_of_ble_eq_true rfl : _ ≤ 100) (by decide), ?_⟩; conv => whnf
    exact ret_id q⟩
def SIGNS : List Nat := ("abcdefghijklmnopqrstuvwxyz0123456789" : Str).cps.toList
def sgn (i : Nat) : Nat := SIGNS.getD i 0
theorem sgn_facts : ∀ i ∈ List.range 36, SIGNS[i]? = some (sgn i) ∧ (decide (sgn i ∈ LETS.cps.toList) || decide (sgn i ∈ DIGS.cps.toList)) = true := by decide +kernel
theorem sgn_let : ∀ i ∈ List.range 26, decide (sgn i ∈ LETS.cps.toList) = true := by decide +kernel
def one (c : Nat) : Str := ⟨#[c]⟩
theorem joinL_one : ∀ cs : List Nat, TL.joinL [] (cs.map fun c => [c]) = cs
  | [] => rfl
  | [c] => rfl
  | c :: d :: cs => by
    show [c] ++ ([] ++ TL.joinL [] ((d :: cs).map fun c => [c])) = _
    rw [joinL_one (d :: cs)]
    rfl
theorem join_ones (cs : List Nat) : tls (Txt.join "" (cs.map one)) = cs := by
  rw [TL.join_eq]
  show TL.tl _ = _
  rw [TL.tl_join, List.map_map]
  exact joinL_one cs
theorem ones_of {α : Type} {R : Nat → Prop} : ∀ {xs : List α} {ys : List D}, Paired (fun _ y => ∃ c, y = D.str (one c) ∧ R c) xs ys → ∃ cs : List Nat, ys = cs.map (fun c => D.str (one c)) ∧ cs.length = xs.length ∧ ∀ c ∈ cs, R c
  | _, _, .nil => ⟨[], rfl, rfl, fun _ h => by cases h⟩
  | _, _, .cons ⟨c, e, r⟩ t => by
    obtain ⟨cs, e2, l, h⟩ := ones_of t
    exact ⟨c :: cs, by rw [e, e2]; rfl, by simp [l], fun d hd => by
      rcases List.mem_cons.mp hd with z | z
      · rw [z]; exact r
      · exact h d z⟩
theorem words_names : ∀ x ∈ lawWords, isName x = true := by decide +kernel
def sp_law_tag : Sp3 := sp1 fun v G Q _ => ∃ p, v = .ref p ∧ PoolG G p ∧ ∀ x : Str, isName x = true → Q (.str x) G

theorem c_law_tag (T : Txt K mg aKind aBook aJourney) : Cal3 P w K mg base 3 "_law_tag" sp_law_tag [] := cal3 (T.d_law_tag) sc_law_tag (by decide) len1 fun f cdv A outer s H E o E3 hr tk hp => ⟨_,
    have hN := sc_law_tag.nd
    (dss_cons (ds_if (dt_cmp (op_eqA hr) dc_eq (de_call (c_law_draw T) hr tk (da_cons (de_var 0) (da_cons de_int da_nil))) de_int (nomark _)) (dss_one (ds_ret (de_call (c_law_pick T) hr tk (da_cons (de_var 0) (da_cons (de_call0 (c_law_words T) hr takesN) da_nil))))) dss_nil)
      (dss_cons (ds_asg (de_tupS (da_cons de_str (da_cons (de_ix (de_lstS (da_cons de_int (da_cons de_int (da_cons de_int (da_cons de_int (da_cons de_int (da_cons de_int (da_cons de_int da_nil)))))))) (de_call (c_law_draw T) hr tk (da_cons (de_var 0) (da_cons de_int da_nil)))) da_nil))) (dg_tl (n := 2) rfl (dgs_cons (dg_name 1 hN) (dgs_cons (dg_name 2 hN) dgs_nil))))
      (dss_one (ds_ret (de_add (de_ix (de_var 1) (de_call (c_law_draw T) hr tk (da_cons (de_var 0) (da_cons de_int da_nil)))) (de_join de_str (de_lc [("_law_turn", 3)] rfl hN (tgt_name (i := 3) (by decide)) (di_range1 (de_var 2) T.B.range) (blkOk_by (N := N_law_tag) (sc := (defScope s_law_tag)) (own := [("_law_turn", 3)]) (by decide +kernel)) (fun _ _ _ _ _ => (pg_name (i := 3) hN rfl (by first | exact Or.inl rfl | exact Or.inr rfl))) (fun _ _ _ _ _ => dts_nil) (fun _ _ _ _ _ => (de_ix (de_var 1) (de_call (c_law_draw T) hr takesN (da_cons (de_var 0) (da_cons de_int da_nil)))))))))))), by
    intro ds G Q h
    obtain ⟨v, rfl, p, rfl, pg, q⟩ := in1 h
    conv => whnf
    refine ⟨p, 5, rfl, rfl, pg, by decide, by decide, fun r hr' => ?_⟩
    conv => whnf
    refine br_cases (fun e1 => ?_) (fun e1 => ?_)
    · conv => whnf
      refine ⟨p, _, rfl, rfl, pg, by decide, by decide, fun d hd => ?_⟩
      obtain ⟨x, hx, rfl⟩ := List.mem_map.mp hd
      exact ret_id (q x (words_names x hx))
    · conv => whnf
      refine ⟨Nat.le_trans (Nat.le_of_ble_eq_true rfl : _ ≤ 100) (by decide), p, 7, rfl, rfl, pg, by decide, by decide, fun r2 hr2 => ?_⟩
      have hm : ∃ m : Nat, m ≤ 7 ∧ ([D.int 0, .int 0, .int 1, .int 2, .int 3, .int 5, .int 7] : List D)[r2]? = some (.int (m : Nat)) := by
        have : r2 = 0 ∨ r2 = 1 ∨ r2 = 2 ∨ r2 = 3 ∨ r2 = 4 ∨ r2 = 5 ∨ r2 = 6 := by omega
        rcases this with rfl | rfl | rfl | rfl | rfl | rfl | rfl
        · exact ⟨0, by decide, rfl⟩
        · exact ⟨0, by decide, rfl⟩
        · exact ⟨1, by decide, rfl⟩
        · exact ⟨2, by decide, rfl⟩
        · exact ⟨3, by decide, rfl⟩
        · exact ⟨5, by decide, rfl⟩
        · exact ⟨7, by decide, rfl⟩
      obtain ⟨m, hm, em⟩ := hm
      refine getI_in em ?_
      conv => whnf
      refine ⟨Nat.le_trans (Nat.le_of_ble_eq_true rfl : _ ≤ 100) (by decide), ?_⟩; conv => whnf
      refine ⟨p, 26, rfl, rfl, pg, by decide, by decide, fun r3 hr3 => ?_⟩
      conv => whnf
      have hs3 := sgn_facts r3 (List.mem_range.mpr (by omega))
      have hl3 := sgn_let r3 (List.mem_range.mpr hr3)
      refine ⟨by decide, getI_in (d := sgn r3) hs3.1 ?_⟩
      conv => whnf
      refine ⟨⟨by omega, by omega⟩, ?_⟩
      conv => whnf
      have small : (100 : Nat) < sizeLine := by decide
      refine ⟨by simp [intsD]; omega, ?_⟩
      conv => whnf
      refine lc_rel (e := fun i : Nat => D.int ((0 : Int) + (i : Nat))) (fun _ y => ∃ c, y = D.str (one c) ∧ (decide (c ∈ LETS.cps.toList) || decide (c ∈ DIGS.cps.toList)) = true) _ (fun i _ K' kk => ?_) (fun ys hys => ?_)
      · conv => whnf
        refine ⟨p, 36, rfl, rfl, pg, by decide, by decide, fun r4 hr4 => ?_⟩
        have hs4 := sgn_facts r4 (List.mem_range.mpr hr4)
        refine ⟨by decide, getI_in (d := sgn r4) hs4.1 ?_⟩
        exact kk _ ⟨_, rfl, hs4.2⟩
      · obtain ⟨cs, rfl, lc, hc⟩ := ones_of hys
        have lc : cs.length = m := by rw [lc, List.length_range]; omega
        conv => whnf
        have e0 : cs.map (fun c => D.str (one c)) = (cs.map one).map D.str := by rw [List.map_map]; rfl
        have jl : (Txt.join "" (cs.map one)).length = cs.length := by
          rw [S_length]
          show (tls _).length = _
          rw [join_ones]
        refine ⟨cs.map one, ?_, ?_, ?_⟩
        · show strsOf _ = _
          rw [e0]
          exact strsOf_map _
        · rw [show (Str.ofString "").length = 0 from rfl, Nat.mul_zero]
          have := len_sum (cs.map one) 1 (fun x hx => by obtain ⟨c, _, rfl⟩ := List.mem_map.mp hx; exact Nat.le_refl _)
          rw [List.length_map] at this
          omega
        · conv => whnf
          refine ⟨?_, ret_id (q _ ?_)⟩
          · show 1 + (Txt.join "" (cs.map one)).length ≤ sizeLine
            omega
          · have et : tls (one (sgn r3) ++ Txt.join "" (cs.map one)) = sgn r3 :: cs := by
              rw [tl_app, join_ones]
              rfl
            have ez : (⟨⟨sgn r3 :: cs⟩⟩ : Str) = one (sgn r3) ++ Txt.join "" (cs.map one) := TL.ext_tl et.symm
            show isName (one (sgn r3) ++ Txt.join "" (cs.map one)) = true
            rw [← ez]
            show (decide (cs.length < 8) && (decide (sgn r3 ∈ LETS.cps.toList) && (sgn r3 :: cs).all fun d => decide (d ∈ LETS.cps.toList) || decide (d ∈ DIGS.cps.toList))) = true
            rw [decide_eq_true (show cs.length < 8 by omega), hl3]
            refine List.all_eq_true.mpr fun d hd => ?_
            rcases List.mem_cons.mp hd with z | z
            · rw [z]; exact hs3.2
            · exact hc d z⟩
def SPARE : List Str := ["a", "b", "c7", "d", "e"]
theorem spare_names : ∀ x ∈ SPARE, isName x = true := by decide +kernel
theorem spare_nodup : SPARE.Nodup := by decide +kernel
theorem len_of_sub : ∀ (S F : List Str), S.Nodup → (∀ s ∈ S, s ∈ F) → S.length ≤ F.length
  | [], F, _, _ => Nat.zero_le _
  | s :: S, F, nd, h => by
    have hs := h s List.mem_cons_self
    have n2 := List.nodup_cons.mp nd
    have := len_of_sub S (F.erase s) n2.2 fun t ht => (List.mem_erase_of_ne (fun z => n2.1 (by rw [← z]; exact ht))).mpr (h t (List.mem_cons_of_mem _ ht))
    rw [List.length_erase_of_mem hs] at this
    have := List.length_pos_of_mem hs
    rw [List.length_cons]
    omega
theorem inV_str (x : Str) (xs : List Str) : inV (V.str x) (xs.map V.str) = decide (x ∈ xs) := by
  unfold inV
  rw [List.any_map]
  induction xs with
  | nil => rfl
  | cons y ys ih =>
    rw [List.any_cons, ih]
    have e : ((fun y => eqV y (V.str x)) ∘ V.str) y = decide (y = x) := rfl
    rw [e]
    by_cases h : y = x
    · subst h
      simp
    · simp [h, Ne.symm h]
def sp_law_tags : Sp3 := sp2 fun v m G Q _ => ∃ p, ∃ n : Nat, v = .ref p ∧ m = .int (n : Nat) ∧ n ≤ 4 ∧ PoolG G p ∧ ∀ xs : List Str, xs.length = n → (∀ x ∈ xs, isName x = true) → xs.Nodup → Q (.lst (xs.map D.str)) G

theorem c_law_tags (T : Txt K mg aKind aBook aJourney) : Cal3 P w K mg base 4 "_law_tags" sp_law_tags [] := cal3 (T.d_law_tags) sc_law_tags (by decide) len2 fun f cdv A outer s H E o E3 hr tk hp => ⟨_,
    have hN := sc_law_tags.nd
    (dss_cons (ds_asg (de_tupS (da_cons (de_lstSO da_nil) (da_cons (de_lstS (da_cons de_str (da_cons de_str (da_cons de_str (da_cons de_str (da_cons de_str da_nil)))))) da_nil))) (dg_tl (n := 2) rfl (dgs_cons (dg_name 2 hN) (dgs_cons (dg_name 3 hN) dgs_nil))))
      (dss_cons (ds_for rfl hp (di_range1 (de_var 1) T.B.range) (dg_name 4 hN) (dss_cons (ds_set 5 hN (de_call (c_law_tag T) hr tk (da_cons (de_var 0) da_nil)))
      (dss_one (ds_expr (de_append (de_var 2) (de_ix (de_lc [("_law_mate", 6)] rfl hN (tgt_name (i := 6) (by decide)) (di_any (de_add (de_lstS (da_cons (de_var 5) da_nil)) (de_var 3))) (blkOk_by (N := N_law_tags) (sc := (defScope s_law_tags)) (own := [("_law_mate", 6)]) (by decide +kernel)) (fun _ _ _ _ _ => (pg_name (i := 6) hN rfl (by first | exact Or.inl rfl | exact Or.inr rfl))) (fun _ _ _ _ _ => (dts_one (dt_cmp op_notinA dc_notin (de_var 6) (de_var 2) rfl))) (fun _ _ _ _ _ => (de_var 6))) de_int))))))
      (dss_one (ds_ret (de_var 2))))), by
    intro ds G Q h
    obtain ⟨v, m, rfl, p, n, rfl, rfl, n4, pg, q⟩ := in2 h
    have small : (100 : Nat) < sizeLine := by decide
    conv => whnf
    refine ⟨Nat.le_trans (Nat.le_of_ble_eq_true rfl : _ ≤ 100) (by decide), ?_⟩; conv => whnf
    intro a ha
    have pa : p ≠ a := fun z => by
      rw [← z] at ha
      have pg : G p = some _ := pg
      rw [ha] at pg
      cases pg
    conv => whnf
    refine ⟨Nat.le_trans (Nat.le_of_ble_eq_true rfl : _ ≤ 100) (by decide), ?_⟩; conv => whnf
    refine ⟨Nat.le_trans (Nat.le_of_ble_eq_true rfl : _ ≤ 100) (by decide), ?_⟩; conv => whnf
    refine ⟨⟨by omega, by omega⟩, ?_⟩
    conv => whnf
    refine for_inv (e := fun i : Nat => D.int ((0 : Int) + (i : Nat))) (fun xs sd G' => ∃ (found : List Str) (y z : Option D), G' = gupd G a (.lst (found.map D.str)) ∧ found.length + xs.length = n ∧ (∀ x ∈ found, isName x = true) ∧ found.Nodup ∧ sd = [some (.ref p), some (.int (n : Nat)), some (.ref a), some (.lst (SPARE.map D.str)), y, z, none]) ?_ ?_ _ _ _ ⟨[], none, none, rfl, ?_, by simp, by simp, rfl⟩
    · rintro sd G' ⟨found, y, z, rfl, hl, hn, nd, rfl⟩
      conv => whnf
      exact ret_frz gupd_same (by rw [gdel_upd ha]; exact Sub.refl _) (q found (by simpa using hl) hn nd)
    · rintro i xs sd G' ⟨found, y, z, rfl, hl, hn, nd, rfl⟩ N hN'
      rw [List.length_cons] at hl
      have pg2 : PoolG (gupd G a (.lst (found.map D.str))) p := by
        show gupd G a _ p = _
        rw [gupd_ne pa]
        exact pg
      conv => whnf
      refine ⟨p, rfl, pg2, fun t ht => ?_⟩
      conv => whnf
      refine ⟨⟨_, gupd_same⟩, ?_⟩
      refine ⟨Nat.le_trans (Nat.le_of_ble_eq_true rfl : _ ≤ 100) (by decide), ?_⟩; conv => whnf
      refine ⟨Nat.le_trans (Nat.le_of_ble_eq_true rfl : _ ≤ 100) (by decide), Nat.lt_of_le_of_lt (Nat.le_of_ble_eq_true rfl : _ ≤ 100) (by decide), ?_⟩
      conv => whnf
      refine lc_filter (e := D.str) (fun x : Str => !decide (x ∈ found)) D.str (t :: SPARE) (fun x _ K1 K2 k1 k2 => ?_) ?_
      · conv => whnf
        refine ⟨_, V.str x, found.map V.str, gupd_same, rfl, scL_strs _, ?_⟩
        rw [inV_str]
        conv => whnf
        refine br_cases (fun e1 => ?_) (fun e1 => ?_)
        · exact k1 e1
        · exact k2 e1
      · conv => whnf
        have ex : ∃ x rest, (t :: SPARE).filter (fun x : Str => !decide (x ∈ found)) = x :: rest := by
          cases e : (t :: SPARE).filter (fun x : Str => !decide (x ∈ found)) with
          | cons x rest => exact ⟨x, rest, rfl⟩
          | nil =>
            exfalso
            have all : ∀ s ∈ SPARE, s ∈ found := fun s hs => by
              have h := List.filter_eq_nil_iff.mp e s (List.mem_cons_of_mem _ hs)
              simpa using h
            have := len_of_sub SPARE found spare_nodup all
            have : SPARE.length = 5 := rfl
            omega
        obtain ⟨x, rest, e⟩ := ex
        have hx : x ∈ (t :: SPARE).filter (fun x : Str => !decide (x ∈ found)) := by rw [e]; exact List.mem_cons_self
        obtain ⟨hx1, hx2⟩ := List.mem_filter.mp hx
        have nx : x ∉ found := by simpa using hx2
        have xn : isName x = true := by
          rcases List.mem_cons.mp hx1 with z | z
          · rw [z]; exact ht
          · exact spare_names x z
        rw [e]
        conv => whnf
        refine ⟨_, gupd_same, by rw [List.length_map]; omega, ?_⟩
        conv => whnf
        refine hN' _ _ ⟨found ++ [x], _, _, ?_, by rw [List.length_append]; show _ + 1 + _ = _; omega, fun y hy => ?_, ?_, rfl⟩
        · rw [gupd_gupd, List.map_append]
          rfl
        · rcases List.mem_append.mp hy with z | z
          · exact hn y z
          · rw [List.mem_singleton.mp z]; exact xn
        · rw [List.nodup_append]
          refine ⟨nd, by simp, fun u hu w hw e => ?_⟩
          rw [List.mem_singleton.mp hw] at e
          exact nx (by rw [← e]; exact hu)
    · simp⟩
def sp_law_minutes : Sp3 := sp2 fun v m G Q _ => ∃ p, ∃ n : Nat, v = .ref p ∧ m = .int (n : Nat) ∧ n ≤ 1000 ∧ PoolG G p ∧ ∀ r : Nat, r ≤ n → Q (.int (r : Nat)) G

theorem c_law_minutes (T : Txt K mg aKind aBook aJourney) : Cal3 P w K mg base 2 "_law_minutes" sp_law_minutes [] := cal3 (T.d_law_minutes) sc_law_minutes (by decide) len2 fun f cdv A outer s H E o E3 hr tk hp => ⟨_,
    have hN := sc_law_minutes.nd
    (dss_cons (ds_set 2 hN (de_call (c_law_draw T) hr tk (da_cons (de_var 0) (da_cons de_int da_nil))))
      (dss_cons (ds_if (dt_cmp op_lt dc_lt (de_var 2) de_int (nomark _)) (dss_one (ds_ret (de_ix (de_lstS (da_cons de_int (da_cons (de_var 1) da_nil))) (de_var 2)))) dss_nil)
      (dss_one (ds_ret (de_call (c_law_draw T) hr tk (da_cons (de_var 0) (da_cons (de_add (de_var 1) de_int) da_nil))))))), by
    intro ds G Q h
    obtain ⟨v, m, rfl, p, n, rfl, rfl, n4, pg, q⟩ := in2 h
    conv => whnf
    refine ⟨p, 6, rfl, rfl, pg, by decide, by decide, fun r hr' => ?_⟩
    conv => whnf
    refine br_cases (fun e1 => ?_) (fun e1 => ?_)
    · conv => whnf
      have e1 : decide (((r : Nat) : Int) < 2) = true := e1
      have e1 := of_decide_eq_true e1
      refine ⟨Nat.le_trans (Nat.le_of_ble_eq_true rfl : _ ≤ 100) (by decide), ?_⟩; conv => whnf
      have : r = 0 ∨ r = 1 := by omega
      rcases this with rfl | rfl
      · exact ret_id (q 0 (Nat.zero_le _))
      · exact ret_id (q n (Nat.le_refl _))
    · conv => whnf
      refine ⟨p, n + 1, rfl, rfl, pg, by omega, by omega, fun r hr' => ret_id (q r (by omega))⟩⟩
def sp_law_mark : Sp3 := sp2 fun v m G Q _ => ∃ p, ∃ n : Nat, v = .ref p ∧ m = .int (n : Nat) ∧ 1 ≤ n ∧ n ≤ 6 ∧ PoolG G p ∧ ∀ r, r ∈ allRows → (∀ k ∈ everyNum r, k ∣ n) → Q (rowD r) G
theorem in_rows : ∀ (b : Bool) (w : Wh), w ∈ allWh → Row.mk b w ∈ allRows := fun b w h => by
  unfold allRows
  cases b with
  | true => exact List.mem_append_left _ (List.mem_map.mpr ⟨w, h, rfl⟩)
  | false => exact List.mem_append_right _ (List.mem_map.mpr ⟨w, h, rfl⟩)
theorem in_wh1 {n : Nat} (h0 : 1 ≤ n) (h1 : n ≤ 3) : Wh.first n ∈ allWh ∧ Wh.last n ∈ allWh := by
  have : n = 1 ∨ n = 2 ∨ n = 3 := by omega
  rcases this with rfl | rfl | rfl <;> exact ⟨by decide +kernel, by decide +kernel⟩
theorem in_wh2 : ∀ m ∈ List.range 7, ∀ n ∈ List.range 7, 1 ≤ n → n ≤ m → ∀ b : Bool, Wh.every m b n ∈ allWh := by decide +kernel

theorem c_law_mark (T : Txt K mg aKind aBook aJourney) : Cal3 P w K mg base 3 "_law_mark" sp_law_mark [] := cal3 (T.d_law_mark) sc_law_mark (by decide) len2 fun f cdv A outer s H E o E3 hr tk hp => ⟨_,
    have hN := sc_law_mark.nd
    (dss_cons (ds_par 2 3 rfl hN (da_cons (de_ix (de_lstS (da_cons de_str (da_cons de_str (da_cons de_str da_nil)))) (de_call (c_law_draw T) hr tk (da_cons (de_var 0) (da_cons de_int da_nil)))) (da_cons (de_call (c_law_draw T) hr tk (da_cons (de_var 0) (da_cons de_int da_nil))) da_nil)))
      (dss_cons (ds_if (dt_cmp (op_eqA hr) dc_eq (de_var 3) de_int (nomark _)) (dss_one (ds_ret (de_add (de_var 2) de_str))) dss_nil)
      (dss_cons (ds_if (dt_cmp op_lt dc_lt (de_var 3) de_int (nomark _)) (dss_one (ds_ret (de_add (de_add (de_var 2) (de_ix (de_lstS (da_cons de_str (da_cons de_str (da_cons de_str da_nil)))) (de_sub (de_var 3) de_int))) (de_callTy call_strA cd_str rfl T.B.str (by decide +kernel) (da_cons (de_add de_int (de_call (c_law_draw T) hr tk (da_cons (de_var 0) (da_cons de_int da_nil)))) da_nil))))) dss_nil)
      (dss_cons (ds_set 4 hN (de_call (c_law_pick T) hr tk (da_cons (de_var 0) (da_cons (de_lc [("_law_part", 6)] rfl hN (tgt_name (i := 6) (by decide)) (di_range2 de_int (de_add (de_var 1) de_int) T.B.range) (blkOk_by (N := N_law_mark) (sc := (defScope s_law_mark)) (own := [("_law_part", 6)]) (by decide +kernel)) (fun _ _ _ _ _ => (pg_name (i := 6) hN rfl (by first | exact Or.inl rfl | exact Or.inr rfl))) (fun _ _ _ _ _ => (dts_one (dt_cmp (op_eqA hr) dc_eq (de_mod (de_callTy call_intA cd_int rfl T.B.int (by decide +kernel) (da_cons (de_var 1) da_nil)) (de_var 6)) de_int (nomark _)))) (fun _ _ _ _ _ => (de_var 6))) da_nil))))
      (dss_cons (ds_set 5 hN (de_ix (de_lstS (da_cons de_str (da_cons de_str da_nil))) (de_mod (de_callTy call_intA cd_int rfl T.B.int (by decide +kernel) (da_cons (de_var 3) da_nil)) de_int)))
      (dss_one (ds_ret (de_add (de_add (de_add (de_add (de_var 2) de_str) (de_callTy call_strA cd_str rfl T.B.str (by decide +kernel) (da_cons (de_var 4) da_nil))) (de_var 5)) (de_callTy call_strA cd_str rfl T.B.str (by decide +kernel) (da_cons (de_add de_int (de_call (c_law_draw T) hr tk (da_cons (de_var 0) (da_cons (de_var 4) da_nil)))) da_nil)))))))))), by
    intro ds G Q h
    obtain ⟨v, m, rfl, p, n, rfl, rfl, n1, n6, pg, q⟩ := in2 h
    have small : (100 : Nat) < sizeLine := by decide
    conv => whnf
    refine ⟨Nat.le_trans (Nat.le_of_ble_eq_true rfl : _ ≤ 100) (by decide), ?_⟩; conv => whnf
    refine ⟨p, 3, rfl, rfl, pg, by decide, by decide, fun r0 hr0 => ?_⟩
    have hw : ∃ st : Bool, ([D.str "stop ", .str "stop ", .str "pass "] : List D)[r0]? = some (.str (wordOf st)) := by
      have : r0 = 0 ∨ r0 = 1 ∨ r0 = 2 := by omega
      rcases this with rfl | rfl | rfl
      · exact ⟨true, rfl⟩
      · exact ⟨true, rfl⟩
      · exact ⟨false, rfl⟩
    obtain ⟨st, hw⟩ := hw
    refine getI_in hw ?_
    conv => whnf
    refine ⟨p, 9, rfl, rfl, pg, by decide, by decide, fun w hw' => ?_⟩
    have wl : (wordOf st).length = 5 := by cases st <;> rfl
    have ab : ∀ n : Nat, n ≤ 60 → ((n : Nat) : Int).natAbs.log2 < 1920 := fun n hn => log2_lt (Nat.lt_of_lt_of_le (show n < 2 ^ 6 by omega) (Nat.pow_le_pow_right (by decide) (by decide))) (by decide)
    have l1 : (Str.ofString "all").length = 3 := rfl
    have l2 : (Str.ofString "first ").length = 6 := rfl
    have l3 : (Str.ofString "last ").length = 5 := rfl
    have l4 : (Str.ofString "every ").length = 6 := rfl
    have l5 : (Str.ofString " from ").length = 6 := rfl
    have l6 : (Str.ofString " back ").length = 6 := rfl
    conv => whnf
    refine br_cases (fun e1 => ?_) (fun e1 => ?_)
    · conv => whnf
      refine ⟨by omega, ?_⟩
      exact ret_id (q ⟨st, .all⟩ (in_rows _ _ (by decide +kernel)) (by intro k hk; cases hk))
    · conv => whnf
      refine br_cases (fun e2 => ?_) (fun e2 => ?_)
      · have e1 : decide (((w : Nat) : Int) = 0) = false := e1
        have e1 := of_decide_eq_false e1
        have e2 : decide (((w : Nat) : Int) < 4) = true := e2
        have e2 := of_decide_eq_true e2
        conv => whnf
        refine ⟨Nat.le_trans (Nat.le_of_ble_eq_true rfl : _ ≤ 100) (by decide), ?_⟩; conv => whnf
        have hc : (w = 1) ∨ w = 2 ∨ w = 3 := by omega
        rcases hc with rfl | hc
        · show _ ∧ _
          refine ⟨by omega, ?_⟩
          conv => whnf
          refine ⟨p, 3, rfl, rfl, pg, by decide, by decide, fun r hr' => ?_⟩
          conv => whnf
          have er : (1 : Int) + (r : Nat) = ((r + 1 : Nat) : Int) := by omega
          rw [er]
          have nl : (Str.ofString (toString ((r + 1 : Nat) : Int))).length ≤ 2 := num_len (show r + 1 ≤ 60 by omega)
          refine ⟨ab _ (by omega), ?_⟩
          conv => whnf
          refine ⟨by simp only [strLen_append, l2, wl]; omega, ?_⟩
          exact ret_id (q ⟨st, .first (r + 1)⟩ (in_rows _ _ (in_wh1 (by omega) (by omega)).1) (by intro k hk; cases hk))
        · have hg : ∃ d, ([D.str "first ", .str "last ", .str "last "] : List D)[w - 1]? = some d ∧ d = .str "last " := by
            rcases hc with rfl | rfl
            · exact ⟨_, rfl, rfl⟩
            · exact ⟨_, rfl, rfl⟩
          obtain ⟨d, hg, rfl⟩ := hg
          have ew : ((w : Nat) : Int) - 1 = ((w - 1 : Nat) : Int) := by omega
          rw [ew]
          refine getI_in hg ?_
          conv => whnf
          refine ⟨by omega, ?_⟩
          conv => whnf
          refine ⟨p, 3, rfl, rfl, pg, by decide, by decide, fun r hr' => ?_⟩
          conv => whnf
          have er : (1 : Int) + (r : Nat) = ((r + 1 : Nat) : Int) := by omega
          rw [er]
          have nl : (Str.ofString (toString ((r + 1 : Nat) : Int))).length ≤ 2 := num_len (show r + 1 ≤ 60 by omega)
          refine ⟨ab _ (by omega), ?_⟩
          conv => whnf
          refine ⟨by simp only [strLen_append, l3, wl]; omega, ?_⟩
          exact ret_id (q ⟨st, .last (r + 1)⟩ (in_rows _ _ (in_wh1 (by omega) (by omega)).2) (by intro k hk; cases hk))
      · conv => whnf
        refine ⟨⟨by decide, by decide, by omega, by omega⟩, ?_⟩
        conv => whnf
        have e2 : (((n : Nat) : Int) + 1 - 1).toNat = n := by omega
        rw [e2]
        refine ⟨by simp [intsD]; omega, ?_⟩
        conv => whnf
        refine lc_filter (e := fun i : Nat => D.int ((1 : Int) + (i : Nat))) (fun i : Nat => decide (((n : Nat) : Int) % ((1 : Int) + (i : Nat)) = 0)) (fun i : Nat => D.int ((1 : Int) + (i : Nat))) _ (fun i _ K1 K2 k1 k2 => ?_) ?_
        · conv => whnf
          refine ⟨show (0 : Int) < 1 + (i : Nat) by omega, ?_⟩
          conv => whnf
          refine br_cases (fun e3 => ?_) (fun e3 => ?_)
          · exact k1 e3
          · exact k2 e3
        · conv => whnf
          refine ⟨p, _, rfl, rfl, pg, ?_, ?_, fun d hd => ?_⟩
          · rw [List.length_map]
            refine List.length_pos_of_mem (a := 0) (List.mem_filter.mpr ⟨List.mem_range.mpr n1, ?_⟩)
            exact decide_eq_true (by omega)
          · rw [List.length_map]
            have := List.length_filter_le (fun i : Nat => decide (((n : Nat) : Int) % ((1 : Int) + (i : Nat)) = 0)) (List.range n)
            rw [List.length_range] at this
            omega
          · obtain ⟨i, hi, rfl⟩ := List.mem_map.mp hd
            obtain ⟨h1, h2⟩ := List.mem_filter.mp hi
            have h1 := List.mem_range.mp h1
            have h2 := of_decide_eq_true h2
            have em : (1 : Int) + (i : Nat) = ((i + 1 : Nat) : Int) := by omega
            rw [em] at h2
            show sput _ (some (.int ((1 : Int) + (i : Nat)))) _ _
            rw [em]
            have dv : (i + 1) ∣ n := Nat.dvd_of_mod_eq_zero (by omega)
            conv => whnf
            refine ⟨Nat.le_trans (Nat.le_of_ble_eq_true rfl : _ ≤ 100) (by decide), ?_⟩; conv => whnf
            refine ⟨show (0 : Int) < 2 by decide, ?_⟩
            have hs : ∃ b : Bool, ixD ([D.str " from ", .str " back "] : List D) (((w : Nat) : Int) % 2) (fun d => d = .str (if b then " back " else " from ")) := by
              have : ((w : Nat) : Int) % 2 = 0 ∨ ((w : Nat) : Int) % 2 = 1 := by omega
              rcases this with z | z
              · exact ⟨false, by rw [z]; rfl⟩
              · exact ⟨true, by rw [z]; rfl⟩
            obtain ⟨b, hs⟩ := hs
            obtain ⟨d, hd, rfl⟩ := ixD_of hs
            refine ixD_in hd ?_
            conv => whnf
            have nl1 : (Str.ofString (toString ((i + 1 : Nat) : Int))).length ≤ 2 := num_len (show i + 1 ≤ 60 by omega)
            refine ⟨by simp only [strLen_append, l4, wl]; omega, ?_⟩
            conv => whnf
            refine ⟨ab _ (by omega), ?_⟩
            conv => whnf
            refine ⟨by simp only [strLen_append, l4, wl]; omega, ?_⟩
            have lb : (if b then (" back " : Str) else " from ").length = 6 := by cases b <;> rfl
            conv => whnf
            refine ⟨by simp only [strLen_append, l4, wl, lb]; omega, ?_⟩
            conv => whnf
            refine ⟨p, i + 1, rfl, rfl, pg, by omega, by omega, fun r hr' => ?_⟩
            conv => whnf
            have er : (1 : Int) + (r : Nat) = ((r + 1 : Nat) : Int) := by omega
            rw [er]
            have nl : (Str.ofString (toString ((r + 1 : Nat) : Int))).length ≤ 2 := num_len (show r + 1 ≤ 60 by omega)
            refine ⟨ab _ (by omega), ?_⟩
            conv => whnf
            refine ⟨by simp only [strLen_append, l4, wl, lb]; omega, ?_⟩
            have q2 := q ⟨st, .every (i + 1) b (r + 1)⟩ (in_rows _ _ (in_wh2 (i + 1) (List.mem_range.mpr (by omega)) (r + 1) (List.mem_range.mpr (by omega)) (by omega) (by omega) b)) (fun k hk => by
              have hk : k ∈ [i + 1] := hk
              rw [List.mem_singleton.mp hk]
              exact dv)
            cases b <;> exact ret_id q2⟩
def sp_law_kind : Sp3 := sp3 fun v t m G Q _ => ∃ p x, ∃ n : Nat, v = .ref p ∧ t = .str x ∧ m = .int (n : Nat) ∧ isName x = true ∧ 1 ≤ n ∧ n ≤ 6 ∧ PoolG G p ∧ ∀ k : Kd, Kok k → k.name = x → (∀ j ∈ numsOf [k], j ∣ n) → Q (.tup (kdD k)) G
theorem rows_of {α : Type} {R : Row → Prop} : ∀ {xs : List α} {ys : List D}, Paired (fun _ y => ∃ r, y = rowD r ∧ R r) xs ys → ∃ rs : List Row, ys = rs.map rowD ∧ rs.length = xs.length ∧ ∀ r ∈ rs, R r
  | _, _, .nil => ⟨[], rfl, rfl, fun _ h => by cases h⟩
  | _, _, .cons ⟨r, e, h⟩ t => by
    obtain ⟨rs, e2, l, h2⟩ := rows_of t
    exact ⟨r :: rs, by rw [e, e2]; rfl, by simp [l], fun d hd => by
      rcases List.mem_cons.mp hd with z | z
      · rw [z]; exact h
      · exact h2 d z⟩

theorem c_law_kind (T : Txt K mg aKind aBook aJourney) : Cal3 P w K mg base 4 "_law_kind" sp_law_kind [] := cal3 (T.d_law_kind) sc_law_kind (by decide) len3 fun f cdv A outer s H E o E3 hr tk hp => ⟨_,
    have hN := sc_law_kind.nd
    (dss_cons (ds_par 3 4 rfl hN (da_cons (de_call (c_law_minutes T) hr tk (da_cons (de_var 0) (da_cons de_int da_nil))) (da_cons (de_call (c_law_minutes T) hr tk (da_cons (de_var 0) (da_cons de_int da_nil))) da_nil)))
      (dss_cons (ds_par 5 6 rfl hN (da_cons (de_call (c_law_minutes T) hr tk (da_cons (de_var 0) (da_cons de_int da_nil))) (da_cons (de_ix (de_lstS (da_cons de_int (da_cons de_int (da_cons de_int (da_cons de_int (da_cons de_int (da_cons de_int (da_cons de_int da_nil)))))))) (de_call (c_law_draw T) hr tk (da_cons (de_var 0) (da_cons de_int da_nil)))) da_nil)))
      (dss_one (ds_ret (de_tupS (da_cons (de_var 1) (da_cons (de_var 3) (da_cons (de_var 4) (da_cons (de_var 5) (da_cons (de_callTy call_tuple_of cd_tuple rfl T.B.tuple (by decide +kernel) (da_cons (de_lc [("_law_turn", 7)] rfl hN (tgt_name (i := 7) (by decide)) (di_range1 (de_var 6) T.B.range) (blkOk_by (N := N_law_kind) (sc := (defScope s_law_kind)) (own := [("_law_turn", 7)]) (by decide +kernel)) (fun _ _ _ _ _ => (pg_name (i := 7) hN rfl (by first | exact Or.inl rfl | exact Or.inr rfl))) (fun _ _ _ _ _ => dts_nil) (fun _ _ _ _ _ => (de_call (c_law_mark T) hr takesN (da_cons (de_var 0) (da_cons (de_var 2) da_nil))))) da_nil)) da_nil)))))))))), by
    intro ds G Q h
    obtain ⟨v, t, m, rfl, p, x, n, rfl, rfl, rfl, hx, n1, n6, pg, q⟩ := in3 h
    have small : (100 : Nat) < sizeLine := by decide
    conv => whnf
    refine ⟨p, 20, rfl, rfl, by decide, pg, fun s1 hs1 => ?_⟩
    conv => whnf
    refine ⟨p, 20, rfl, rfl, by decide, pg, fun s2 hs2 => ?_⟩
    conv => whnf
    refine ⟨p, 60, rfl, rfl, by decide, pg, fun s3 hs3 => ?_⟩
    conv => whnf
    refine ⟨Nat.le_trans (Nat.le_of_ble_eq_true rfl : _ ≤ 100) (by decide), ?_⟩; conv => whnf
    refine ⟨p, 7, rfl, rfl, pg, by decide, by decide, fun r hr' => ?_⟩
    have hm : ∃ m : Nat, 1 ≤ m ∧ m ≤ 6 ∧ ([D.int 2, .int 1, .int 3, .int 6, .int 4, .int 5, .int 2] : List D)[r]? = some (.int (m : Nat)) := by
      have : r = 0 ∨ r = 1 ∨ r = 2 ∨ r = 3 ∨ r = 4 ∨ r = 5 ∨ r = 6 := by omega
      rcases this with rfl | rfl | rfl | rfl | rfl | rfl | rfl
      · exact ⟨2, by decide, by decide, rfl⟩
      · exact ⟨1, by decide, by decide, rfl⟩
      · exact ⟨3, by decide, by decide, rfl⟩
      · exact ⟨6, by decide, by decide, rfl⟩
      · exact ⟨4, by decide, by decide, rfl⟩
      · exact ⟨5, by decide, by decide, rfl⟩
      · exact ⟨2, by decide, by decide, rfl⟩
    obtain ⟨m, m1, m6, em⟩ := hm
    refine getI_in em ?_
    conv => whnf
    refine ⟨⟨by omega, by omega⟩, ?_⟩
    conv => whnf
    refine ⟨by simp [intsD]; omega, ?_⟩
    conv => whnf
    refine lc_rel (e := fun i : Nat => D.int ((0 : Int) + (i : Nat))) (fun _ y => ∃ r, y = rowD r ∧ (r ∈ allRows ∧ ∀ k ∈ everyNum r, k ∣ n)) _ (fun i _ K' kk => ?_) (fun ys hys => ?_)
    · conv => whnf
      exact ⟨p, n, rfl, rfl, n1, n6, pg, fun r h1 h2 => kk _ ⟨r, rfl, h1, h2⟩⟩
    · obtain ⟨rs, rfl, lr, hr2⟩ := rows_of hys
      rw [List.length_range] at lr
      conv => whnf
      refine ⟨Nat.le_trans (Nat.le_of_ble_eq_true rfl : _ ≤ 100) (by decide), ?_⟩; conv => whnf
      refine ret_id (q ⟨x, s1, s2, s3, rs⟩ ⟨hx, hs1, hs2, hs3, by show 0 < rs.length; omega, by show rs.length ≤ 6; omega, fun r hr => (hr2 r hr).1⟩ rfl fun j hj => ?_)
      unfold numsOf at hj
      simp only [List.map_cons, List.map_nil, List.flatten_cons, List.flatten_nil, List.append_nil] at hj
      obtain ⟨l, hl, h3⟩ := List.mem_flatten.mp hj
      obtain ⟨r, hr, rfl⟩ := List.mem_map.mp hl
      exact (hr2 r hr).2 j h3⟩
def schD (ks : List Kd) : D := .lst (ks.map fun k => D.tup (kdD k))
def sp_law_scheme : Sp3 := sp2 fun v m G Q _ => ∃ p, ∃ n : Nat, v = .ref p ∧ m = .int (n : Nat) ∧ 1 ≤ n ∧ n ≤ 4 ∧ PoolG G p ∧ ∀ ks, Bok ks → ks.length ≤ n → Q (schD ks) G
theorem kinds_of {s : Nat} : ∀ {xs : List Str} {ys : List D}, Paired (fun x y => ∃ k, y = D.tup (kdD k) ∧ (Kok k ∧ k.name = x ∧ ∀ j ∈ numsOf [k], j ∣ s)) xs ys → ∃ ks : List Kd, ys = ks.map (fun k => D.tup (kdD k)) ∧ ks.map Kd.name = xs ∧ (∀ k ∈ ks, Kok k) ∧ ∀ j ∈ numsOf ks, j ∣ s
  | _, _, .nil => ⟨[], rfl, rfl, fun _ h => (by cases h), fun _ h => (by cases h)⟩
  | _, _, .cons ⟨k, e, h1, h2, h3⟩ t => by
    obtain ⟨ks, e2, l, h4, h5⟩ := kinds_of t
    refine ⟨k :: ks, by rw [e, e2]; rfl, by rw [List.map_cons, h2, l], fun d hd => ?_, fun j hj => ?_⟩
    · rcases List.mem_cons.mp hd with z | z
      · rw [z]; exact h1
      · exact h4 d z
    · have en : numsOf (k :: ks) = numsOf [k] ++ numsOf ks := by
        unfold numsOf
        simp
      rw [en] at hj
      rcases List.mem_append.mp hj with z | z
      · exact h3 j z
      · exact h5 j z
theorem lcm_all {s : Nat} : ∀ (xs : List Nat) (k : Nat), k ∣ s → (∀ x ∈ xs, x ∣ s) → xs.foldl Nat.lcm k ∣ s
  | [], k, h, _ => h
  | x :: xs, k, h, h2 => lcm_all xs (Nat.lcm k x) (Nat.lcm_dvd h (h2 x List.mem_cons_self)) fun y hy => h2 y (List.mem_cons_of_mem _ hy)
theorem nums_take (ks : List Kd) (i : Nat) : ∀ j ∈ numsOf (ks.take i), j ∈ numsOf ks := fun j hj => by
  unfold numsOf at hj ⊢
  obtain ⟨l, hl, h3⟩ := List.mem_flatten.mp hj
  obtain ⟨k, hk, rfl⟩ := List.mem_map.mp hl
  exact List.mem_flatten.mpr ⟨_, List.mem_map.mpr ⟨k, List.mem_of_mem_take hk, rfl⟩, h3⟩
theorem bok_of {ks : List Kd} {s : Nat} (ok : ∀ k ∈ ks, Kok k) (l0 : 0 < ks.length) (l4 : ks.length ≤ 4) (nd : (ks.map Kd.name).Nodup) (s1 : 1 ≤ s) (s6 : s ≤ 6) (h : ∀ j ∈ numsOf ks, j ∣ s) : Bok ks :=
  ⟨ok, l0, l4, nd, fun i => Nat.le_trans (Nat.le_of_dvd s1 (lcm_all _ 1 (Nat.one_dvd s) fun j hj => h j (nums_take ks (i + 1) j hj))) s6⟩

theorem c_law_scheme (T : Txt K mg aKind aBook aJourney) : Cal3 P w K mg base 5 "_law_scheme" sp_law_scheme [] := cal3 (T.d_law_scheme) sc_law_scheme (by decide) len2 fun f cdv A outer s H E o E3 hr tk hp => ⟨_,
    have hN := sc_law_scheme.nd
    (dss_cons (ds_asg (de_tupS (da_cons (de_add de_int (de_call (c_law_draw T) hr tk (da_cons (de_var 0) (da_cons de_int da_nil)))) (da_cons (de_call (c_law_tags T) hr tk (da_cons (de_var 0) (da_cons (de_callB (call_min2 rfl) cd_min2 rfl T.B.min (by decide +kernel) (da_cons (de_var 1) (da_cons (de_ix (de_lstS (da_cons de_int (da_cons de_int (da_cons de_int (da_cons de_int da_nil))))) (de_call (c_law_draw T) hr tk (da_cons (de_var 0) (da_cons de_int da_nil)))) da_nil))) da_nil))) da_nil))) (dg_tl (n := 2) rfl (dgs_cons (dg_name 2 hN) (dgs_cons (dg_name 3 hN) dgs_nil))))
      (dss_one (ds_ret (de_lc [("_law_tag_here", 4)] rfl hN (tgt_name (i := 4) (by decide)) (di_any (de_var 3)) (blkOk_by (N := N_law_scheme) (sc := (defScope s_law_scheme)) (own := [("_law_tag_here", 4)]) (by decide +kernel)) (fun _ _ _ _ _ => (pg_name (i := 4) hN rfl (by first | exact Or.inl rfl | exact Or.inr rfl))) (fun _ _ _ _ _ => dts_nil) (fun _ _ _ _ _ => (de_call (c_law_kind T) hr takesN (da_cons (de_var 0) (da_cons (de_var 4) (da_cons (de_var 2) da_nil))))))))), by
    intro ds G Q h
    obtain ⟨v, m, rfl, p, n, rfl, rfl, n1, n4, pg, q⟩ := in2 h
    have small : (100 : Nat) < sizeLine := by decide
    conv => whnf
    refine ⟨p, 6, rfl, rfl, pg, by decide, by decide, fun r hr' => ?_⟩
    conv => whnf
    refine ⟨Nat.le_trans (Nat.le_of_ble_eq_true rfl : _ ≤ 100) (by decide), ?_⟩; conv => whnf
    refine ⟨p, 4, rfl, rfl, pg, by decide, by decide, fun r2 hr2 => ?_⟩
    have hm : ∃ m : Nat, 1 ≤ m ∧ m ≤ 4 ∧ ([D.int 2, .int 3, .int 1, .int 4] : List D)[r2]? = some (.int (m : Nat)) := by
      have : r2 = 0 ∨ r2 = 1 ∨ r2 = 2 ∨ r2 = 3 := by omega
      rcases this with rfl | rfl | rfl | rfl
      · exact ⟨2, by decide, by decide, rfl⟩
      · exact ⟨3, by decide, by decide, rfl⟩
      · exact ⟨1, by decide, by decide, rfl⟩
      · exact ⟨4, by decide, by decide, rfl⟩
    obtain ⟨m, m1, m4, em⟩ := hm
    refine getI_in em ?_
    conv => whnf
    have hmin : ∃ j : Nat, 1 ≤ j ∧ j ≤ n ∧ j ≤ 4 ∧ (if ((m : Nat) : Int) < ((n : Nat) : Int) then ((m : Nat) : Int) else ((n : Nat) : Int)) = (j : Nat) := by
      by_cases hlt : ((m : Nat) : Int) < ((n : Nat) : Int)
      · exact ⟨m, m1, by omega, m4, if_pos hlt⟩
      · exact ⟨n, n1, Nat.le_refl _, n4, if_neg hlt⟩
    obtain ⟨j, j1, jn, j4, ej⟩ := hmin
    rw [ej]
    refine ⟨p, j, rfl, rfl, j4, pg, fun xs lx hx nd => ?_⟩
    conv => whnf
    refine ⟨Nat.le_trans (Nat.le_of_ble_eq_true rfl : _ ≤ 100) (by decide), ?_⟩; conv => whnf
    refine ⟨by rw [List.length_map]; omega, ?_⟩
    conv => whnf
    refine lc_rel (e := D.str) (fun x y => ∃ k, y = D.tup (kdD k) ∧ (Kok k ∧ k.name = x ∧ ∀ j ∈ numsOf [k], j ∣ (r + 1))) xs (fun x hxm K' kk => ?_) (fun ys hys => ?_)
    · conv => whnf
      have er : (1 : Int) + (r : Nat) = ((r + 1 : Nat) : Int) := by omega
      exact ⟨p, x, r + 1, rfl, rfl, by rw [er], hx x hxm, by omega, by omega, pg, fun k h1 h2 h3 => kk _ ⟨k, rfl, h1, h2, h3⟩⟩
    · obtain ⟨ks, rfl, ln, ok, hd⟩ := kinds_of hys
      have ll : ks.length = j := by rw [← lx, ← ln, List.length_map]
      exact ret_id (q ks (bok_of ok (by omega) (by omega) (by rw [ln]; exact nd) (show 1 ≤ r + 1 by omega) (by omega) hd) (by omega))⟩
def sp_law_text : Sp3 := sp1 fun v G Q _ => ∃ ks, Bok ks ∧ v = schD ks ∧ Q (.str (bookText ks)) G

theorem c_law_text (T : Txt K mg aKind aBook aJourney) : Cal3 P w K mg base 1 "_law_text" sp_law_text [] := cal3 (T.d_law_text) sc_law_text (by decide) len1 fun f cdv A outer s H E o E3 hr tk hp => ⟨_,
    have hN := sc_law_text.nd
    (dss_cons (ds_set 1 hN (de_lstS da_nil))
      (dss_cons (ds_for rfl hp (di_any (de_var 0)) (dg_tl (n := 5) rfl (dgs_cons (dg_name 2 hN) (dgs_cons (dg_name 3 hN) (dgs_cons (dg_name 4 hN) (dgs_cons (dg_name 5 hN) (dgs_cons (dg_name 6 hN) dgs_nil)))))) (dss_cons (ds_set 7 hN (de_add (de_add (de_add (de_add (de_add de_str (de_var 2)) de_str) (de_callTy call_strA cd_str rfl T.B.str (by decide +kernel) (da_cons (de_var 3) da_nil))) de_str) (de_callTy call_strA cd_str rfl T.B.str (by decide +kernel) (da_cons (de_var 4) da_nil))))
      (dss_one (ds_set 1 hN (de_add (de_add (de_var 1) (de_lstS (da_cons (de_add (de_add (de_var 7) de_str) (de_callTy call_strA cd_str rfl T.B.str (by decide +kernel) (da_cons (de_var 5) da_nil))) da_nil))) (de_callTy call_list_of cd_list rfl T.B.list (by decide +kernel) (da_cons (de_var 6) da_nil)))))))
      (dss_one (ds_ret (de_join de_str (de_var 1)))))), by
    intro ds G Q h
    obtain ⟨v, rfl, ks, ok, rfl, q⟩ := in1 h
    have small : (100 : Nat) < sizeLine := by decide
    have l4 := ok.l4
    have ab : ∀ n : Nat, n ≤ 60 → ((n : Nat) : Int).natAbs.log2 < 1920 := fun n hn => log2_lt (Nat.lt_of_lt_of_le (show n < 2 ^ 6 by omega) (Nat.pow_le_pow_right (by decide) (by decide))) (by decide)
    conv => whnf
    refine ⟨Nat.le_trans (Nat.le_of_ble_eq_true rfl : _ ≤ 100) (by decide), ?_⟩; conv => whnf
    refine for_inv (e := fun k : Kd => D.tup (kdD k)) (fun xs sd G' => G' = G ∧ ∃ (pre : List Kd) (y1 y2 y3 y4 y5 y6 : Option D), ks = pre ++ xs ∧ sd = [some (schD ks), some (.lst ((bookLines pre).map D.str)), y1, y2, y3, y4, y5, y6]) ?_ ?_ _ _ _ ⟨rfl, [], none, none, none, none, none, none, rfl, rfl⟩
    · rintro sd G' ⟨rfl, pre, y1, y2, y3, y4, y5, y6, e1, rfl⟩
      rw [List.append_nil] at e1
      subst e1
      have h1 := lines_len ok.ok
      have h2 := len_sum _ 40 (line_len ok.ok)
      conv => whnf
      refine ⟨bookLines ks, strsOf_map _, ?_, ret_id q⟩
      rw [show (Str.ofString "\n").length = 1 from rfl]
      omega
    · rintro k xs sd G' ⟨rfl, pre, y1, y2, y3, y4, y5, y6, e1, rfl⟩ N hN'
      have okk := ok.ok k (by rw [e1]; simp)
      have hn := name_len okk.nm
      have h1 := num_len (show k.pace ≤ 60 from Nat.le_trans okk.pa (by decide))
      have h2 := num_len (show k.halt ≤ 60 from Nat.le_trans okk.ha (by decide))
      have h3 := num_len okk.wa
      have c1 : (Str.ofString "kind ").length = 5 := rfl
      have c2 : (Str.ofString " pace ").length = 6 := rfl
      have c3 : (Str.ofString " halt ").length = 6 := rfl
      have c4 : (Str.ofString " wait ").length = 6 := rfl
      have e1' : (Str.ofString (toString ((k.pace : Nat) : Int))).length ≤ 2 := h1
      have e2' : (Str.ofString (toString ((k.halt : Nat) : Int))).length ≤ 2 := h2
      have e3' : (Str.ofString (toString ((k.wait : Nat) : Int))).length ≤ 2 := h3
      conv => whnf
      refine ⟨by simp only [strLen_append, c1]; omega, ?_⟩
      conv => whnf
      refine ⟨by simp only [strLen_append, c1, c2]; omega, ?_⟩
      conv => whnf
      refine ⟨ab _ (Nat.le_trans okk.pa (by decide)), ?_⟩
      conv => whnf
      refine ⟨by simp only [strLen_append, c1, c2]; omega, ?_⟩
      conv => whnf
      refine ⟨by simp only [strLen_append, c1, c2, c3]; omega, ?_⟩
      conv => whnf
      refine ⟨ab _ (Nat.le_trans okk.ha (by decide)), ?_⟩
      conv => whnf
      refine ⟨by simp only [strLen_append, c1, c2, c3]; omega, ?_⟩
      conv => whnf
      refine ⟨by simp only [strLen_append, c1, c2, c3, c4]; omega, ?_⟩
      conv => whnf
      refine ⟨ab _ okk.wa, ?_⟩
      conv => whnf
      refine ⟨by simp only [strLen_append, c1, c2, c3, c4]; omega, ?_⟩
      conv => whnf
      refine ⟨Nat.le_trans (Nat.le_of_ble_eq_true rfl : _ ≤ 100) (by decide), ?_⟩; conv => whnf
      have hpre : pre.length < 4 := by rw [e1] at l4; simp at l4; omega
      have hl := lines_len (ks := pre) fun o ho => ok.ok o (by rw [e1]; exact List.mem_append_left _ ho)
      have h6 := okk.r6
      refine ⟨by simp; omega, ?_⟩
      conv => whnf
      refine ⟨by simp; omega, ?_⟩
      conv => whnf
      have key : ∀ (L : List D) (y1 y2 y3 y4 y5 y6 : Option D), L = (bookLines (pre ++ [k])).map D.str → N [some (schD ks), some (.lst L), y1, y2, y3, y4, y5, y6] G' := fun L y1 y2 y3 y4 y5 y6 e => by
        rw [e]
        exact hN' _ _ ⟨rfl, pre ++ [k], y1, y2, y3, y4, y5, y6, by rw [e1]; simp, rfl⟩
      refine key _ _ _ _ _ _ _ ?_
      have el : bookLines (pre ++ [k]) = bookLines pre ++ (headLine k :: k.rows.map rowText) := by
        unfold bookLines kdLines
        simp
      rw [el, List.map_append, List.map_cons, List.map_map]
      rw [List.append_assoc]
      rfl⟩
def sp_law_things (aKind : Addr) : Sp3 := sp1 fun v G Q _ => ∃ ks, Bok ks ∧ v = schD ks ∧ Q (.tup (ks.map (kindD aKind))) G

theorem c_law_things (T : Txt K mg aKind aBook aJourney) : Cal3 P w K mg base 7 "_law_things" (sp_law_things aKind) [] := cal3 (T.d_law_things) sc_law_things (by decide) len1 fun f cdv A outer s H E o E3 hr tk hp => ⟨_,
    have hN := sc_law_things.nd
    (dss_one (ds_ret (de_callTy call_tuple_of cd_tuple rfl T.B.tuple (by decide +kernel) (da_cons (de_lc [("_law_row", 1)] rfl hN (tgt_name (i := 1) (by decide)) (di_any (de_var 0)) (blkOk_by (N := N_law_things) (sc := (defScope s_law_things)) (own := [("_law_row", 1)]) (by decide +kernel)) (fun _ _ _ _ _ => (pg_name (i := 1) hN rfl (by first | exact Or.inl rfl | exact Or.inr rfl))) (fun _ _ _ _ _ => dts_nil) (fun _ _ _ _ _ => (de_makeK (ks := []) [0, 1, 2, 3, 4, 5] (c_Kind_init T) hr takesN (da_cons (de_ix (de_var 1) de_int) (da_cons (de_ix (de_var 1) de_int) (da_cons (de_ix (de_var 1) de_int) (da_cons (de_ix (de_var 1) de_int) (da_cons (de_ix (de_var 1) de_int) da_nil))))) dk_nil (fun _ _ _ _ _ _ us ws hu hw => match us, ws, hu, hw with | [_, _, _, _, _, _], [], _, _ => rfl)))) da_nil)))), by
    intro ds G Q h
    obtain ⟨v, rfl, ks, ok, rfl, q⟩ := in1 h
    have small : (100 : Nat) < sizeLine := by decide
    have l4 := ok.l4
    conv => whnf
    refine ⟨by rw [List.length_map]; omega, ?_⟩
    conv => whnf
    refine lc_map (e := fun k : Kd => D.tup (kdD k)) (kindD aKind) ks (fun k hk K' kk => ?_) ?_
    · conv => whnf
      intro pd dx hp'
      refine ⟨pd, dx, k, ok.ok k hk, rfl, gupd_same, rfl, rfl, rfl, rfl, rfl, ?_⟩
      refine ⟨rfl, _, gupd_same, by simp, ?_⟩
      rw [gupd_gupd, gdel_upd hp']
      exact kk
    · conv => whnf
      exact ret_id q⟩
def sp_law_made (aKind aBook : Addr) : Sp3 := sp2 fun v s G Q _ => ∃ p ks, v = .ref p ∧ s = schD ks ∧ PoolG G p ∧ Bok ks ∧ Q (bookD aKind aBook ks) G

theorem c_law_made (T : Txt K mg aKind aBook aJourney) : Cal3 P w K mg base 11 "_law_made" (sp_law_made aKind aBook) [] := cal3 (T.d_law_made) sc_law_made (by decide) len2 fun f cdv A outer s H E o E3 hr tk hp => ⟨_,
    have hN := sc_law_made.nd
    (dss_cons (ds_set 2 hN (de_call (c_law_draw T) hr tk (da_cons (de_var 0) (da_cons de_int da_nil))))
      (dss_cons (ds_if (dt_cmp (op_eqA hr) dc_eq (de_var 2) de_int (nomark _)) (dss_one (ds_ret (de_cmeth (c_Book_read T) hr tk (de_gref rfl T.g_Book) (da_cons (de_call (c_law_text T) hr tk (da_cons (de_var 1) da_nil)) da_nil)))) dss_nil)
      (dss_cons (ds_set 3 hN (de_call (c_law_things T) hr tk (da_cons (de_var 1) da_nil)))
      (dss_one (ds_ret (de_if (dt_cmp (op_eqA hr) dc_eq (de_var 2) de_int (nomark _)) (de_makeK (ks := []) [0, 1] (c_Book_init T) hr tk (da_cons (de_var 3) da_nil) dk_nil (fun _ _ _ _ _ _ us ws hu hw => match us, ws, hu, hw with | [_, _], [], _, _ => rfl)) (de_makeK0 (ks := ["kinds"]) [0, 1] (c_Book_init T) hr tk (dk_cons (de_var 3) dk_nil) (fun _ _ _ _ _ _ us ws hu hw => match us, ws, hu, hw with | [_], [_], _, _ => rfl)))))))), by
    intro ds G Q h
    obtain ⟨v, s', rfl, p, ks, rfl, rfl, pg, ok, q⟩ := in2 h
    conv => whnf
    refine ⟨p, 3, rfl, rfl, pg, by decide, by decide, fun r hr' => ?_⟩
    conv => whnf
    refine br_cases (fun e1 => ?_) (fun e1 => ?_)
    · conv => whnf
      refine ⟨rfl, ?_⟩
      conv => whnf
      refine ⟨ks, ok, rfl, ?_⟩
      exact ⟨ks, ok, rfl, ret_id q⟩
    · conv => whnf
      refine ⟨ks, ok, rfl, ?_⟩
      conv => whnf
      refine br_cases (fun e2 => ?_) (fun e2 => ?_)
      · conv => whnf
        intro pd dx hp'
        refine ⟨pd, dx, ks, ok, rfl, gupd_same, rfl, ?_⟩
        refine ⟨rfl, _, gupd_same, by simp [bkD], ?_⟩
        rw [gupd_gupd, gdel_upd hp']
        exact ret_id q
      · conv => whnf
        intro pd dx hp'
        refine ⟨pd, dx, ks, ok, rfl, gupd_same, rfl, ?_⟩
        refine ⟨rfl, _, gupd_same, by simp [bkD], ?_⟩
        rw [gupd_gupd, gdel_upd hp']
        exact ret_id q⟩
def sp_law_fits : Sp3 := sp3 fun v n s G Q _ => ∃ r i j, r ∈ allRows ∧ v = rowD r ∧ n = .int i ∧ s = .int j ∧ Q (.bl (fits r.w j (i + 1 - j))) G

theorem c_law_fits (T : Txt K mg aKind aBook aJourney) : Cal3 P w K mg base 1 "_law_fits" sp_law_fits [] := cal3 (T.d_law_fits) sc_law_fits (by decide) len3 fun f cdv A outer s H E o E3 hr tk hp => ⟨_,
    have hN := sc_law_fits.nd
    (dss_cons (ds_par 3 4 rfl hN (da_cons (de_split (de_var 0) de_str) (da_cons (de_sub (de_add (de_var 1) de_int) (de_var 2)) da_nil)))
      (dss_cons (ds_if (dt_cmp (op_eqA hr) dc_eq (de_ix (de_var 3) de_int) de_str (nomark _)) (dss_one (ds_ret de_bl)) dss_nil)
      (dss_cons (ds_if (dt_cmp (op_eqA hr) dc_eq (de_ix (de_var 3) de_int) de_str (nomark _)) (dss_one (ds_ret (de_cmp op_le dc_le (de_var 2) (de_callTy call_intA cd_int rfl T.B.int (by decide +kernel) (da_cons (de_ix (de_var 3) de_int) da_nil)) (nomark _)))) dss_nil)
      (dss_cons (ds_if (dt_cmp (op_eqA hr) dc_eq (de_ix (de_var 3) de_int) de_str (nomark _)) (dss_one (ds_ret (de_cmp op_le dc_le (de_var 4) (de_callTy call_intA cd_int rfl T.B.int (by decide +kernel) (da_cons (de_ix (de_var 3) de_int) da_nil)) (nomark _)))) dss_nil)
      (dss_cons (ds_set 5 hN (de_if (dt_cmp (op_eqA hr) dc_eq (de_ix (de_var 3) de_int) de_str (nomark _)) (de_var 2) (de_var 4)))
      (dss_one (ds_ret (de_cmp (op_eqA hr) dc_eq (de_mod (de_callTy call_intA cd_int rfl T.B.int (by decide +kernel) (da_cons (de_sub (de_var 5) (de_callTy call_intA cd_int rfl T.B.int (by decide +kernel) (da_cons (de_ix (de_var 3) de_int) da_nil))) da_nil)) (de_callTy call_intA cd_int rfl T.B.int (by decide +kernel) (da_cons (de_ix (de_var 3) de_int) da_nil))) de_int (nomark _))))))))), by
    intro ds G Q h
    obtain ⟨v, n', s', rfl, r, i, j, hr', rfl, rfl, rfl, q⟩ := in3 h
    have small : (100 : Nat) < sizeLine := by decide
    have hl := len_rows r hr'
    have okr := ok_rows r hr'
    conv => whnf
    refine ⟨rfl, by omega, ?_⟩
    rw [split_rows r hr']
    obtain ⟨st, wh⟩ := r
    cases wh with
    | all => cases st <;> (conv => whnf) <;> exact ret_id q
    | first n =>
      have hx : (decide (1 ≤ n) && decide (n ≤ 3)) = true := okr
      simp only [Bool.and_eq_true, decide_eq_true_eq] at hx
      obtain ⟨f1, f2, f3, f4, f5⟩ := num_facts n (List.mem_range.mpr (by omega))
      cases st <;> (conv => whnf) <;> exact ⟨n, f5, by omega, ret_id q⟩
    | last n =>
      have hx : (decide (1 ≤ n) && decide (n ≤ 3)) = true := okr
      simp only [Bool.and_eq_true, decide_eq_true_eq] at hx
      obtain ⟨f1, f2, f3, f4, f5⟩ := num_facts n (List.mem_range.mpr (by omega))
      cases st <;> (conv => whnf) <;> exact ⟨n, f5, by omega, ret_id q⟩
    | every m b n =>
      have hx : (decide (1 ≤ n) && (decide (n ≤ m) && decide (m ≤ 6))) = true := okr
      simp only [Bool.and_eq_true, decide_eq_true_eq] at hx
      obtain ⟨f1, f2, f3, f4, f5⟩ := num_facts n (List.mem_range.mpr (by omega))
      obtain ⟨g1, g2, g3, g4, g5⟩ := num_facts m (List.mem_range.mpr (by omega))
      have mp : (0 : Int) < (m : Nat) := by omega
      cases b <;> cases st <;> (conv => whnf) <;> refine ⟨n, f5, by omega, ?_⟩ <;> (conv => whnf) <;> refine ⟨m, g5, by omega, mp, ret_id q⟩⟩
def callsF (i j : Int) : Bool → List Row → Bool
  | b, [] => b
  | b, r :: rs => callsF i j (if fits r.w i j then r.stop else b) rs
theorem standsF_app (i j : Int) : ∀ (rs : List Row) (r : Row) , standsF (rs ++ [r]) i j = if rs.any (fun o => fits o.w i j) then standsF rs i j else standsF [r] i j
  | [], r => by simp [standsF]
  | o :: rs, r => by
    show (if fits o.w i j then o.stop else standsF (rs ++ [r]) i j) = _
    rw [standsF_app i j rs r, List.any_cons]
    show _ = if (fits o.w i j || rs.any fun o => fits o.w i j) = true then (if fits o.w i j then o.stop else standsF rs i j) else _
    cases fits o.w i j <;> simp
theorem callsF_any (i j : Int) : ∀ (rs : List Row) (b : Bool), callsF i j b rs = if rs.any (fun o => fits o.w i j) then standsF rs.reverse i j else b
  | [], b => rfl
  | r :: rs, b => by
    show callsF i j (if fits r.w i j then r.stop else b) rs = _
    rw [callsF_any i j rs, List.reverse_cons, standsF_app, List.any_cons, List.any_reverse]
    show _ = if (fits r.w i j || rs.any fun o => fits o.w i j) = true then (if (rs.any fun o => fits o.w i j) = true then standsF rs.reverse i j else (if fits r.w i j then r.stop else false)) else b
    cases fits r.w i j <;> cases (rs.any fun o => fits o.w i j) <;> rfl
theorem standsF_none (i j : Int) : ∀ rs : List Row, rs.any (fun o => fits o.w i j) = false → standsF rs i j = false
  | [], _ => rfl
  | r :: rs, h => by
    rw [List.any_cons, Bool.or_eq_false_iff] at h
    show (if fits r.w i j then r.stop else standsF rs i j) = false
    rw [h.1]
    exact standsF_none i j rs h.2
theorem calls_stands (i j : Int) (rs : List Row) : callsF i j false rs = standsF rs.reverse i j := by
  rw [callsF_any]
  cases h : rs.any (fun o => fits o.w i j) with
  | true => rfl
  | false => exact (standsF_none i j rs.reverse (by rw [List.any_reverse]; exact h)).symm
def sp_law_calls : Sp3 := sp3 fun v n s G Q _ => ∃ rs : List Row, ∃ i j : Int, (∀ r ∈ rs, r ∈ allRows) ∧ v = .tup (rs.map rowD) ∧ n = .int i ∧ s = .int j ∧ Q (.bl (standsF rs.reverse j (i + 1 - j))) G

theorem c_law_calls (T : Txt K mg aKind aBook aJourney) : Cal3 P w K mg base 2 "_law_calls" sp_law_calls [] := cal3 (T.d_law_calls) sc_law_calls (by decide) len3 fun f cdv A outer s H E o E3 hr tk hp => ⟨_,
    have hN := sc_law_calls.nd
    (dss_cons (ds_set 3 hN de_bl)
      (dss_cons (ds_for rfl hp (di_any (de_var 0)) (dg_name 4 hN) (dss_one (ds_if (dt_val (de_call (c_law_fits T) hr tk (da_cons (de_var 4) (da_cons (de_var 1) (da_cons (de_var 2) da_nil))))) (dss_one (ds_set 3 hN (de_startswith (de_var 4) de_str))) dss_nil)))
      (dss_one (ds_ret (de_var 3))))), by
    intro ds G Q h
    obtain ⟨v, n', s', rfl, rs, i, j, hr', rfl, rfl, rfl, q⟩ := in3 h
    conv => whnf
    refine for_inv (e := rowD) (fun xs sd G' => G' = G ∧ (∀ r ∈ xs, r ∈ allRows) ∧ ∃ (b : Bool) (y : Option D), callsF j (i + 1 - j) b xs = standsF rs.reverse j (i + 1 - j) ∧ sd = [some (.tup (rs.map rowD)), some (.int i), some (.int j), some (.bl b), y]) ?_ ?_ _ _ _ ⟨rfl, hr', false, none, calls_stands _ _ _, rfl⟩
    · rintro sd G' ⟨rfl, _, b, y, e, rfl⟩
      conv => whnf
      rw [← e] at q
      exact ret_id q
    · rintro r xs sd G' ⟨rfl, hm, b, y, e, rfl⟩ N hN'
      have hr2 := hm r List.mem_cons_self
      conv => whnf
      refine ⟨r, i, j, hr2, rfl, rfl, rfl, ?_⟩
      conv => whnf
      refine br_cases (fun e1 => ?_) (fun e1 => ?_)
      · conv => whnf
        refine hN' _ _ ⟨rfl, fun o ho => hm o (List.mem_cons_of_mem _ ho), _, _, ?_, rfl⟩
        rw [show Txt.startswith (rowText r) (Str.ofString "stop") = r.stop from stop_rows r hr2, ← e]
        show _ = callsF _ _ (if fits r.w j (i + 1 - j) then r.stop else b) xs
        rw [if_pos e1]
      · conv => whnf
        refine hN' _ _ ⟨rfl, fun o ho => hm o (List.mem_cons_of_mem _ ho), b, _, ?_, rfl⟩
        rw [← e]
        show _ = callsF _ _ (if fits r.w j (i + 1 - j) then r.stop else b) xs
        rw [if_neg (by rw [e1]; exact Bool.false_ne_true)]⟩
def sp_law_great : Sp3 := sp1 fun v G Q _ => ∃ p, v = .ref p ∧ PoolG G p ∧ ∀ n : Nat, n < 1000 ^ 12 → Q (.int (n : Nat)) G

theorem c_law_great (T : Txt K mg aKind aBook aJourney) : Cal3 P w K mg base 2 "_law_great" sp_law_great [] := cal3 (T.d_law_great) sc_law_great (by decide) len1 fun f cdv A outer s H E o E3 hr tk hp => ⟨_,
    have hN := sc_law_great.nd
    (dss_cons (ds_set 1 hN de_int)
      (dss_cons (ds_for rfl hp (di_range1 (de_add de_int (de_call (c_law_draw T) hr tk (da_cons (de_var 0) (da_cons de_int da_nil)))) T.B.range) (dg_name 2 hN) (dss_one (ds_set 1 hN (de_add (de_mul de_int (de_var 1)) (de_call (c_law_draw T) hr tk (da_cons (de_var 0) (da_cons de_int da_nil)))))))
      (dss_one (ds_ret (de_var 1))))), by
    intro ds G Q h
    obtain ⟨v, rfl, p, rfl, pg, q⟩ := in1 h
    have small : (100 : Nat) < sizeLine := by decide
    conv => whnf
    refine ⟨p, 12, rfl, rfl, pg, by decide, by decide, fun r hr' => ?_⟩
    conv => whnf
    refine ⟨⟨by omega, by omega⟩, ?_⟩
    have en : ((1 : Int) + (r : Nat)).toNat = r + 1 := by omega
    rw [en]
    refine for_inv (e := fun i : Nat => D.int ((0 : Int) + (i : Nat))) (fun xs sd G' => G' = G ∧ ∃ (n : Nat) (y : Option D), n * 1000 ^ xs.length < 1000 ^ 12 ∧ (n + 1) * 1000 ^ xs.length ≤ 1000 ^ 12 ∧ sd = [some (.ref p), some (.int (n : Nat)), y]) ?_ ?_ (List.range (r + 1)) _ _ ⟨rfl, 0, none, ?_, ?_, rfl⟩
    · rintro sd G' ⟨rfl, n, y, n1, n2, rfl⟩
      conv => whnf
      exact ret_id (q n (by simpa using n1))
    · rintro i xs sd G' ⟨rfl, n, y, n1, n2, rfl⟩ N hN'
      conv => whnf
      refine ⟨Or.inl ⟨by decide, by decide⟩, ?_⟩
      conv => whnf
      refine ⟨p, 1000, rfl, rfl, pg, by decide, by decide, fun z hz => ?_⟩
      conv => whnf
      have e1 : (1000 : Int) * (n : Nat) + (z : Nat) = ((1000 * n + z : Nat) : Int) := by omega
      rw [e1]
      have n3 : (1000 * n + z + 1) * 1000 ^ xs.length ≤ 1000 ^ 12 := by
        refine Nat.le_trans (Nat.mul_le_mul_right _ (show 1000 * n + z + 1 ≤ (n + 1) * 1000 by omega)) ?_
        rw [List.length_cons, Nat.pow_succ, Nat.mul_comm (1000 ^ xs.length) 1000, ← Nat.mul_assoc] at n2
        exact n2
      refine hN' _ _ ⟨rfl, _, _, Nat.lt_of_lt_of_le (Nat.mul_lt_mul_of_pos_right (Nat.lt_succ_self _) (Nat.pow_pos (by decide))) n3, n3, rfl⟩
    · simp
    · rw [List.length_range, Nat.zero_add, Nat.one_mul]
      exact Nat.pow_le_pow_right (by decide) (by omega)⟩
def spansOf (rs : List Row) : List Nat := (rs.map everyNum).flatten
def sp_law_spans : Sp3 := sp1 fun v G Q _ => ∃ rs : List Row, (∀ r ∈ rs, r ∈ allRows) ∧ rs.length ≤ 6 ∧ v = .tup (rs.map rowD) ∧ Q (.lst ((spansOf rs).map fun n => D.int (n : Nat))) G

theorem c_law_spans (T : Txt K mg aKind aBook aJourney) : Cal3 P w K mg base 1 "_law_spans" sp_law_spans [] := cal3 (T.d_law_spans) sc_law_spans (by decide) len1 fun f cdv A outer s H E o E3 hr tk hp => ⟨_,
    have hN := sc_law_spans.nd
    (dss_cons (ds_set 1 hN (de_lstSO da_nil))
      (dss_cons (ds_for rfl hp (di_any (de_var 0)) (dg_name 2 hN) (dss_cons (ds_set 3 hN (de_split (de_var 2) de_str))
      (dss_one (ds_if (dt_cmp (op_eqA hr) dc_eq (de_ix (de_var 3) de_int) de_str (nomark _)) (dss_one (ds_expr (de_append (de_var 1) (de_callTy call_intA cd_int rfl T.B.int (by decide +kernel) (da_cons (de_ix (de_var 3) de_int) da_nil))))) dss_nil))))
      (dss_one (ds_ret (de_var 1))))), by
    intro ds G Q h
    obtain ⟨v, rfl, rs, hrs, r6, rfl, q⟩ := in1 h
    have small : (32 : Nat) < sizeLine := by decide
    conv => whnf
    refine ⟨Nat.le_trans (Nat.le_of_ble_eq_true rfl : _ ≤ 100) (by decide), ?_⟩; conv => whnf
    intro p hp'
    conv => whnf
    refine for_inv (e := rowD) (fun xs sd G' => ∃ (pr : List Row) (y z : Option D), rs = pr ++ xs ∧ G' = gupd G p (.lst ((spansOf pr).map fun n => D.int (n : Nat))) ∧ sd = [some (.tup (rs.map rowD)), some (.ref p), y, z]) ?_ ?_ _ _ _ ⟨[], none, none, rfl, rfl, rfl⟩
    · rintro sd G' ⟨pr, y, z, e1, rfl, rfl⟩
      rw [List.append_nil] at e1
      subst e1
      conv => whnf
      exact ret_frz gupd_same (by rw [gdel_upd hp']; exact Sub.refl _) q
    · rintro r xs sd G' ⟨pr, y, z, e2, rfl, rfl⟩ N2 hN2
      have hr' : r ∈ allRows := hrs r (by rw [e2]; simp)
      have hl2 := len_rows r hr'
      conv => whnf
      refine ⟨rfl, by omega, ?_⟩
      rw [split_rows r hr']
      have step : ∀ (G2 : Gp) (y : Option D), G2 = gupd G p (.lst ((spansOf pr ++ everyNum r).map fun n => D.int (n : Nat))) → N2 [some (.tup (rs.map rowD)), some (.ref p), some (rowD r), y] G2 := fun G2 y e => by
        refine hN2 _ _ ⟨pr ++ [r], _, _, by rw [e2]; simp, ?_, rfl⟩
        rw [e]
        simp [spansOf]
      have bound : (spansOf pr).length < 100 := by
        have h1 := nums_len pr
        rw [e2] at r6
        simp at r6
        show ((pr.map everyNum).flatten).length < 100
        omega
      have okr := ok_rows r hr'
      obtain ⟨st, wh⟩ := r
      cases wh with
      | all => cases st <;> (conv => whnf) <;> exact step _ _ (by simp [everyNum])
      | first n => cases st <;> (conv => whnf) <;> exact step _ _ (by simp [everyNum])
      | last n => cases st <;> (conv => whnf) <;> exact step _ _ (by simp [everyNum])
      | every m b n =>
        have hx : (decide (1 ≤ n) && (decide (n ≤ m) && decide (m ≤ 6))) = true := okr
        simp only [Bool.and_eq_true, decide_eq_true_eq] at hx
        obtain ⟨f1, f2, f3, f4, f5⟩ := num_facts m (List.mem_range.mpr (by omega))
        have small : (100 : Nat) < sizeLine := by decide
        cases st <;> (conv => whnf) <;> refine ⟨⟨_, gupd_same⟩, m, f5, by omega, _, gupd_same, by rw [List.length_map]; omega, ?_⟩ <;> (conv => whnf) <;> refine step _ _ ?_ <;> rw [gupd_gupd] <;> simp [everyNum]⟩
def sp_law_common : Sp3 := sp1 fun v G Q _ => ∃ ns : List Nat, ∃ L : Nat, (∀ n ∈ ns, 0 < n ∧ n ≤ 6) ∧ ns.length ≤ 100 ∧ 0 < L ∧ L ≤ 60 ∧ (∀ n ∈ ns, n ∣ L) ∧ v = .lst (ns.map fun n => D.int (n : Nat)) ∧ ∀ N : Nat, 0 < N → N ≤ 60 → (∀ n ∈ ns, n ∣ N) → Q (.int (N : Nat)) G
def comB (ns : List Nat) (i : Nat) : Bool := ns.all fun n => decide ((1 + i) % n = 0)

theorem c_law_common (T : Txt K mg aKind aBook aJourney) : Cal3 P w K mg base 1 "_law_common" sp_law_common [] := cal3 (T.d_law_common) sc_law_common (by decide) len1 fun f cdv A outer s H E o E3 hr tk hp => ⟨_,
    have hN := sc_law_common.nd
    (dss_one (ds_ret (de_ix (de_lc [("_law_many", 1)] rfl hN (tgt_name (i := 1) (by decide)) (di_range2 de_int de_int T.B.range) (blkOk_by (N := N_law_common) (sc := (defScope s_law_common)) (own := [("_law_many", 1)]) (by decide +kernel)) (fun _ _ _ _ _ => (pg_name (i := 1) hN rfl (by first | exact Or.inl rfl | exact Or.inr rfl))) (fun _ _ _ _ _ => (dts_one (dt_cmp (op_eqA hr) dc_eq (de_lc [("_law_part", 2)] rfl hN (tgt_name (i := 2) (by decide)) (di_any (de_var 0)) (blkOk_by (own := [("_law_part", 2)]) (by kernel_rfl)) (fun _ _ _ _ _ => (pg_name (i := 2) hN rfl (by first | exact Or.inl rfl | exact Or.inr rfl))) (fun _ _ _ _ _ => (dts_one (dt_cmp (op_neA hr) dc_ne (de_mod (de_callTy call_intA cd_int rfl T.B.int (by decide +kernel) (da_cons (de_var 1) da_nil)) (de_var 2)) de_int (nomark _)))) (fun _ _ _ _ _ => (de_var 2))) (de_lstS da_nil) (nomark _)))) (fun _ _ _ _ _ => (de_var 1))) de_int))), by
    intro ds G Q h
    obtain ⟨v, rfl, ns, L, hn, l100, L0, L60, hL, rfl, q⟩ := in1 h
    have small : (1000 : Nat) < sizeLine := by decide
    conv => whnf
    refine ⟨⟨by decide, by decide, by decide, by decide⟩, ?_⟩
    conv => whnf
    have e60 : ((61 : Int) - 1).toNat = 60 := rfl
    have e61 : intsD 1 ((61 : Int) - 1).toNat = (List.range 60).map fun i : Nat => D.int ((1 : Int) + (i : Nat)) := rfl
    rw [e61]
    have lR : (List.range 60).length = 60 := List.length_range
    have mR : ∀ i, i ∈ List.range 60 ↔ i < 60 := fun i => List.mem_range
    generalize List.range 60 = R at lR mR
    refine ⟨by rw [List.length_map]; omega, ?_⟩
    refine swp_go _ rfl ?_
    refine lc_filter (e := fun i : Nat => D.int ((1 : Int) + (i : Nat))) (comB ns) (fun i : Nat => D.int ((1 : Int) + (i : Nat))) R (fun i hi K1 K2 k1 k2 => ?_) ?_
    · conv => whnf
      refine ⟨by rw [List.length_map]; omega, ?_⟩
      conv => whnf
      refine lc_filter (e := fun n : Nat => D.int (n : Nat)) (fun n => !decide ((1 + i) % n = 0)) (fun n : Nat => D.int (n : Nat)) ns (fun n hm J1 J2 j1 j2 => ?_) ?_
      · have n0 := (hn n hm).1
        have ee : decide (((1 : Int) + (i : Nat)) % (n : Nat) = 0) = decide ((1 + i) % n = 0) := decide_eq_decide.mpr (by rw [show (1 : Int) + (i : Nat) = ((1 + i : Nat) : Int) by omega, ← Int.natCast_emod]; exact Int.natCast_eq_zero)
        conv => whnf
        refine ⟨show (0 : Int) < (n : Nat) by omega, ?_⟩
        conv => whnf
        refine br_cases (fun e1 => ?_) (fun e1 => ?_)
        · exact j1 (by rw [← ee]; exact e1)
        · exact j2 (by rw [← ee]; exact e1)
      conv => whnf
      refine ⟨Nat.le_trans (Nat.le_of_ble_eq_true rfl : _ ≤ 100) (by decide), ?_⟩; conv => whnf
      refine ⟨_, _, toD_lst (toDataL_map (fun n : Nat => D.int (n : Nat)) (fun n : Nat => PyData.int (n : Nat)) (fun _ => rfl) _), rfl, sh_list (fun p hp => ?_), rfl, ?_⟩
      · obtain ⟨n, _, rfl⟩ := List.mem_map.mp hp
        exact ⟨rfl, Nat.zero_le _⟩
      rw [eqv_nil]
      conv => whnf
      have eb : (List.map (fun n : Nat => PyData.int (n : Nat)) (ns.filter fun n => !decide ((1 + i) % n = 0))).isEmpty = comB ns i := by
        unfold comB
        cases e : ns.all fun n => decide ((1 + i) % n = 0) with
        | true =>
          have : ns.filter (fun n => !decide ((1 + i) % n = 0)) = [] := List.filter_eq_nil_iff.mpr fun n hm => by
            have := List.all_eq_true.mp e n hm
            rw [this]
            exact Bool.false_ne_true
          rw [this]
          rfl
        | false =>
          obtain ⟨n, hm, en⟩ := List.all_eq_false.mp e
          have : n ∈ ns.filter fun n => !decide ((1 + i) % n = 0) := List.mem_filter.mpr ⟨hm, by simpa using en⟩
          cases e2 : ns.filter fun n => !decide ((1 + i) % n = 0) with
          | nil => rw [e2] at this; cases this
          | cons a l => rfl
      rw [eb]
      refine br_cases (fun e1 => ?_) (fun e1 => ?_)
      · exact k1 e1
      · exact k2 e1
    have fm : L - 1 ∈ R.filter (comB ns) := List.mem_filter.mpr ⟨(mR _).mpr (by omega), List.all_eq_true.mpr fun n hm => decide_eq_true (by rw [show 1 + (L - 1) = L by omega]; exact Nat.mod_eq_zero_of_dvd (hL n hm))⟩
    cases ef : R.filter (comB ns) with
    | nil => rw [ef] at fm; cases fm
    | cons a l =>
      have ha : a ∈ R.filter (comB ns) := by rw [ef]; exact List.mem_cons_self
      obtain ⟨h1, h2⟩ := List.mem_filter.mp ha
      have h1 := (mR _).mp h1
      conv => whnf
      have ea : (1 : Int) + (a : Nat) = ((1 + a : Nat) : Int) := by omega
      show Ret K Q (.int ((1 : Int) + (a : Nat))) G
      rw [ea]
      exact ret_id (q (1 + a) (by omega) (by omega) fun n hm => Nat.dvd_of_mod_eq_zero (of_decide_eq_true (List.all_eq_true.mp h2 n hm)))⟩
/-- the stops of rows from a station on, so many -/
def cntS (p : Int → Bool) (b : Int) (m : Nat) : Nat := ((List.range m).filter fun s => p (b + (s : Nat))).length
theorem cntS_zero (p : Int → Bool) (b : Int) : cntS p b 0 = 0 := rfl
theorem cntS_succ (p : Int → Bool) (b : Int) (m : Nat) : cntS p b (m + 1) = cntS p b m + if p (b + (m : Nat)) then 1 else 0 := by
  unfold cntS
  rw [List.range_succ, List.filter_append, List.length_append, List.filter_cons]
  cases p (b + (m : Nat)) <;> rfl
theorem cntS_add (p : Int → Bool) (b : Int) (m k : Nat) : cntS p b (m + k) = cntS p b m + cntS p (b + (m : Nat)) k := by
  induction k with
  | zero => rfl
  | succ k ih =>
    rw [← Nat.add_assoc, cntS_succ, cntS_succ, ih, show b + ((m + k : Nat) : Int) = b + (m : Nat) + (k : Nat) by omega]
    omega
theorem cntS_congr {p q : Int → Bool} {b : Int} {m : Nat} (h : ∀ i : Int, b ≤ i → i < b + (m : Nat) → p i = q i) : cntS p b m = cntS q b m := by
  unfold cntS
  congr 1
  refine List.filter_congr fun s hs => ?_
  have hs := List.mem_range.mp hs
  exact h _ (by omega) (by omega)
/-- what the rests add up to -/
def restS (p : Int → Bool) (N : Int) (b e : Int) : Nat → Int
  | 0 => 0
  | r + 1 => restS p N b e r + if p (r : Nat) then (e - (r : Nat)) / N - (b - 1 - (r : Nat)) / N else 0
theorem div_step {N : Int} (hN : 0 < N) (x : Int) : (x + 1) / N - x / N = if N ∣ (x + 1) then 1 else 0 := by
  have h1 := Int.emod_add_mul_ediv x N
  have h2 := Int.emod_nonneg x (show N ≠ 0 by omega)
  have h3 := Int.emod_lt_of_pos x hN
  have h4 := Int.emod_add_mul_ediv (x + 1) N
  have h5 := Int.emod_nonneg (x + 1) (show N ≠ 0 by omega)
  have h6 := Int.emod_lt_of_pos (x + 1) hN
  by_cases hd : N ∣ x + 1
  · rw [if_pos hd]
    have h7 : (x + 1) % N = 0 := Int.emod_eq_zero_of_dvd hd
    have h8 : N * ((x + 1) / N - x / N) = 1 + x % N := by rw [Int.mul_sub]; omega
    have h9 : 0 < (x + 1) / N - x / N := by
      rcases Int.lt_or_le 0 ((x + 1) / N - x / N) with z | z
      · exact z
      · have := Int.mul_le_mul_of_nonneg_left z (Int.le_of_lt hN)
        omega
    have h10 : (x + 1) / N - x / N < 2 := by
      rcases Int.lt_or_le ((x + 1) / N - x / N) 2 with z | z
      · exact z
      · have := Int.mul_le_mul_of_nonneg_left z (Int.le_of_lt hN)
        omega
    omega
  · rw [if_neg hd]
    have h7 : (x + 1) % N ≠ 0 := fun z => hd (Int.dvd_of_emod_eq_zero z)
    have h8 : N * ((x + 1) / N - x / N) = 1 + x % N - (x + 1) % N := by rw [Int.mul_sub]; omega
    have h9 : (x + 1) / N - x / N < 1 := by
      rcases Int.lt_or_le ((x + 1) / N - x / N) 1 with z | z
      · exact z
      · have := Int.mul_le_mul_of_nonneg_left z (Int.le_of_lt hN)
        omega
    have h10 : -1 < (x + 1) / N - x / N := by
      rcases Int.lt_or_le (-1) ((x + 1) / N - x / N) with z | z
      · exact z
      · have := Int.mul_le_mul_of_nonneg_left z (Int.le_of_lt hN)
        omega
    omega
theorem restS_step {p : Int → Bool} {N : Int} (hN : 0 < N) (b e : Int) : ∀ k : Nat, (k : Int) ≤ N → restS p N b (e + 1) k - restS p N b e k = if (e + 1) % N < (k : Nat) ∧ p ((e + 1) % N) = true then 1 else 0
  | 0, _ => by
    have h5 := Int.emod_nonneg (e + 1) (show N ≠ 0 by omega)
    rw [if_neg (by omega)]
    rfl
  | k + 1, hk => by
    have ih := restS_step (p := p) hN b e k (by omega)
    have h5 := Int.emod_nonneg (e + 1) (show N ≠ 0 by omega)
    have h6 := Int.emod_lt_of_pos (e + 1) hN
    have hs := div_step hN (e - (k : Nat))
    rw [show e - (k : Nat) + 1 = e + 1 - (k : Nat) by omega] at hs
    have hdv : N ∣ (e + 1 - (k : Nat)) ↔ (e + 1) % N = (k : Nat) := by
      constructor
      · intro hd
        have h7 := Int.emod_eq_emod_iff_emod_sub_eq_zero.mpr (Int.emod_eq_zero_of_dvd hd)
        rw [h7]
        exact Int.emod_eq_of_lt (by omega) (by omega)
      · intro he
        refine Int.dvd_of_emod_eq_zero (Int.emod_eq_emod_iff_emod_sub_eq_zero.mp ?_)
        rw [he]
        exact (Int.emod_eq_of_lt (by omega) (by omega)).symm
    show (restS p N b (e + 1) k + if p (k : Nat) then (e + 1 - (k : Nat)) / N - (b - 1 - (k : Nat)) / N else 0) - (restS p N b e k + if p (k : Nat) then (e - (k : Nat)) / N - (b - 1 - (k : Nat)) / N else 0) = _
    by_cases hc : (e + 1) % N = (k : Nat)
    · rw [if_pos (hdv.mpr hc)] at hs
      rw [if_neg (by omega)] at ih
      have rhs : (if (e + 1) % N < ((k + 1 : Nat) : Int) ∧ p ((e + 1) % N) = true then (1 : Int) else 0) = if p (k : Nat) then 1 else 0 := by
        rw [hc]
        cases p (k : Nat) with
        | true => rw [if_pos ⟨by omega, rfl⟩, if_pos rfl]
        | false => rw [if_neg (fun z => Bool.false_ne_true z.2), if_neg Bool.false_ne_true]
      rw [rhs]
      cases p (k : Nat) with
      | true =>
        rw [if_pos rfl, if_pos rfl, if_pos rfl]
        omega
      | false =>
        rw [if_neg Bool.false_ne_true, if_neg Bool.false_ne_true, if_neg Bool.false_ne_true]
        omega
    · rw [if_neg fun z => hc (hdv.mp z)] at hs
      have e2 : (if (e + 1) % N < ((k + 1 : Nat) : Int) ∧ p ((e + 1) % N) = true then (1 : Int) else 0) = if (e + 1) % N < (k : Nat) ∧ p ((e + 1) % N) = true then 1 else 0 := by
        by_cases hl : (e + 1) % N < (k : Nat)
        · simp only [hl, show (e + 1) % N < ((k + 1 : Nat) : Int) by omega, true_and]
        · rw [if_neg (by omega), if_neg (by omega)]
      rw [e2, ← ih]
      cases p (k : Nat) with
      | true =>
        rw [if_pos rfl, if_pos rfl]
        omega
      | false =>
        rw [if_neg Bool.false_ne_true, if_neg Bool.false_ne_true]
        omega
theorem restS_zero (p : Int → Bool) (N : Int) (b : Int) : ∀ k : Nat, restS p N b (b - 1) k = 0
  | 0 => rfl
  | k + 1 => by
    show restS p N b (b - 1) k + _ = 0
    rw [restS_zero p N b k]
    cases p (k : Nat) with
    | true => rw [if_pos rfl]; omega
    | false => rfl
/-- counting by rests -/
theorem cnt_rests {p : Int → Bool} {N : Nat} (hN : 0 < N) (hp : ∀ i : Int, p i = p (i % (N : Nat))) (b : Int) (m : Nat) : ((cntS p b m : Nat) : Int) = restS p (N : Nat) b (b + (m : Nat) - 1) N := by
  induction m with
  | zero =>
    rw [cntS_zero, show b + ((0 : Nat) : Int) - 1 = b - 1 by omega, restS_zero]
    rfl
  | succ m ih =>
    have h := restS_step (p := p) (N := (N : Nat)) (by omega) b (b + (m : Nat) - 1) N (by omega)
    have h6 := Int.emod_lt_of_pos (b + (m : Nat) - 1 + 1) (show (0 : Int) < (N : Nat) by omega)
    rw [cntS_succ, show b + ((m + 1 : Nat) : Int) - 1 = b + (m : Nat) - 1 + 1 by omega]
    rw [show b + (m : Nat) - 1 + 1 = b + (m : Nat) by omega] at *
    have e1 := hp (b + (m : Nat))
    cases hq : p (b + (m : Nat)) with
    | true =>
      rw [if_pos ⟨h6, by rw [← e1]; exact hq⟩] at h
      rw [if_pos rfl]
      omega
    | false =>
      rw [if_neg (by rw [← e1, hq]; simp)] at h
      rw [if_neg Bool.false_ne_true]
      omega
/-- rows far from both ends -/
def fitsI (w : Wh) (f b : Int) : Bool := match w with
  | .all => true
  | .first _ => false
  | .last _ => false
  | .every m bk k => decide (((if bk then b else f) - (k : Nat)) % (m : Nat) = 0)
def standsI : List Row → Int → Int → Bool
  | [], _, _ => false
  | r :: rs, f, b => if fitsI r.w f b then r.stop else standsI rs f b
theorem fits_mid {r : Row} (hr : r ∈ allRows) {f b : Int} (hf : 4 ≤ f) (hb : 4 ≤ b) : fits r.w f b = fitsI r.w f b := by
  have ok := ok_rows r hr
  obtain ⟨s, w⟩ := r
  cases w with
  | all => rfl
  | first n =>
    have hx : (decide (1 ≤ n) && decide (n ≤ 3)) = true := ok
    simp only [Bool.and_eq_true, decide_eq_true_eq] at hx
    exact decide_eq_false (by omega)
  | last n =>
    have hx : (decide (1 ≤ n) && decide (n ≤ 3)) = true := ok
    simp only [Bool.and_eq_true, decide_eq_true_eq] at hx
    exact decide_eq_false (by omega)
  | every m bk k => rfl
theorem stands_mid {f b : Int} (hf : 4 ≤ f) (hb : 4 ≤ b) : ∀ {rs : List Row}, (∀ r ∈ rs, r ∈ allRows) → standsF rs f b = standsI rs f b
  | [], _ => rfl
  | r :: rs, h => by
    show (if fits r.w f b then r.stop else standsF rs f b) = if fitsI r.w f b then r.stop else standsI rs f b
    rw [fits_mid (h r List.mem_cons_self) hf hb, stands_mid hf hb fun o ho => h o (List.mem_cons_of_mem _ ho)]
theorem mod_cong {x y : Int} {m N : Nat} (hm : m ∣ N) (h : ((N : Nat) : Int) ∣ x - y) (k : Int) : (x - k) % (m : Nat) = (y - k) % (m : Nat) := by
  have h1 : ((m : Nat) : Int) ∣ x - y := Int.dvd_trans (Int.natCast_dvd_natCast.mpr hm) h
  refine Int.emod_eq_emod_iff_emod_sub_eq_zero.mpr (Int.emod_eq_zero_of_dvd ?_)
  rw [show x - k - (y - k) = x - y by omega]
  exact h1
theorem stands_per {N : Nat} {f b f' b' : Int} (hf : ((N : Nat) : Int) ∣ f - f') (hb : ((N : Nat) : Int) ∣ b - b') : ∀ {rs : List Row}, (∀ r ∈ rs, ∀ k ∈ everyNum r, k ∣ N) → standsI rs f b = standsI rs f' b'
  | [], _ => rfl
  | r :: rs, h => by
    have e : fitsI r.w f b = fitsI r.w f' b' := by
      have hr := h r List.mem_cons_self
      obtain ⟨s, w⟩ := r
      cases w with
      | all => rfl
      | first n => rfl
      | last n => rfl
      | every m bk k =>
        have hm : m ∣ N := hr m List.mem_cons_self
        cases bk with
        | true => show decide ((b - (k : Nat)) % (m : Nat) = 0) = decide ((b' - (k : Nat)) % (m : Nat) = 0); rw [mod_cong hm hb]
        | false => show decide ((f - (k : Nat)) % (m : Nat) = 0) = decide ((f' - (k : Nat)) % (m : Nat) = 0); rw [mod_cong hm hf]
    show (if fitsI r.w f b then r.stop else standsI rs f b) = if fitsI r.w f' b' then r.stop else standsI rs f' b'
    rw [e, stands_per hf hb fun o ho => h o (List.mem_cons_of_mem _ ho)]
/-- whether rows stop at a station of a line -/
def stP (rs : List Row) (n : Int) (i : Int) : Bool := standsF rs.reverse i (n + 1 - i)
def stI (rs : List Row) (n : Int) (i : Int) : Bool := standsI rs.reverse i (n + 1 - i)
theorem stP_mid {rs : List Row} (h : ∀ r ∈ rs, r ∈ allRows) {n i : Int} (h1 : 4 ≤ i) (h2 : i ≤ n - 3) : stP rs n i = stI rs n i := stands_mid h1 (by omega) fun r hr => h r (List.mem_reverse.mp hr)
theorem stI_per {rs : List Row} {N : Nat} (h : ∀ r ∈ rs, ∀ k ∈ everyNum r, k ∣ N) {n i j : Int} (hd : ((N : Nat) : Int) ∣ i - j) : stI rs n i = stI rs n j :=
  stands_per hd (by rw [show n + 1 - i - (n + 1 - j) = -(i - j) by omega]; exact Int.dvd_neg.mpr hd) fun r hr => h r (List.mem_reverse.mp hr)
theorem stI_mod {rs : List Row} {N : Nat} (h : ∀ r ∈ rs, ∀ k ∈ everyNum r, k ∣ N) {n : Int} (i : Int) : stI rs n i = stI rs n (i % (N : Nat)) :=
  stI_per h ⟨i / (N : Nat), by have := Int.emod_add_mul_ediv i (N : Nat); omega⟩
/-- what the law's loop adds for a rest -/
theorem rest_term {rs : List Row} (hr : ∀ r ∈ rs, r ∈ allRows) {N : Nat} (hN : 0 < N) (h : ∀ r ∈ rs, ∀ k ∈ everyNum r, k ∣ N) {n b e : Int} (hb : 4 ≤ b) (he : e ≤ n - 3) (hbe : b - 1 ≤ e) (r : Nat) :
    (if stP rs n (b + ((r : Nat) - b) % (N : Nat)) then (e - (r : Nat)) / (N : Nat) - (b - 1 - (r : Nat)) / (N : Nat) else 0) = if stI rs n (r : Nat) then (e - (r : Nat)) / ((N : Nat) : Int) - (b - 1 - (r : Nat)) / (N : Nat) else 0 := by
  have n0 : (0 : Int) < (N : Nat) := by omega
  have h1 := Int.emod_nonneg ((r : Nat) - b) (show ((N : Nat) : Int) ≠ 0 by omega)
  have h2 := Int.emod_lt_of_pos ((r : Nat) - b) n0
  have h3 := Int.emod_add_mul_ediv ((r : Nat) - b) (N : Nat)
  by_cases hin : b + ((r : Nat) - b) % (N : Nat) ≤ e
  · have e1 : stP rs n (b + ((r : Nat) - b) % (N : Nat)) = stI rs n (r : Nat) := by
      rw [stP_mid hr (by omega) (by omega)]
      refine stI_per h ⟨-(((r : Nat) - b) / (N : Nat)), ?_⟩
      rw [Int.mul_neg]
      omega
    rw [e1]
  · have z : ∀ x : Int, b - 1 ≤ x → x ≤ e → (x - (r : Nat)) / ((N : Nat) : Int) = -(((r : Nat) - b) / (N : Nat)) - 1 := fun x hx1 hx2 => by
      have e2 : x - (r : Nat) = (x - (b + ((r : Nat) - b) % (N : Nat)) + (N : Nat)) + (N : Nat) * (-(((r : Nat) - b) / (N : Nat)) - 1) := by
        rw [Int.mul_sub, Int.mul_neg]
        omega
      rw [e2, Int.add_mul_ediv_left _ _ (by omega), Int.ediv_eq_zero_of_lt (by omega) (by omega)]
      omega
    have e0 : (e - (r : Nat)) / ((N : Nat) : Int) - (b - 1 - (r : Nat)) / ((N : Nat) : Int) = 0 := by
      rw [z e hbe (Int.le_refl _), z (b - 1) (Int.le_refl _) hbe]
      omega
    rw [e0]
    split <;> split <;> rfl
def sp_law_count : Sp3 := sp4 fun v m l z G Q _ => ∃ rs : List Row, ∃ s : Nat, ∃ n lo hi : Int, (∀ r ∈ rs, r ∈ allRows) ∧ rs.length ≤ 6 ∧ 0 < s ∧ s ≤ 6 ∧ (∀ r ∈ rs, ∀ k ∈ everyNum r, k ∣ s) ∧ 1 ≤ lo ∧ lo ≤ hi + 1 ∧ hi ≤ n ∧
  v = .tup (rs.map rowD) ∧ m = .int n ∧ l = .int lo ∧ z = .int hi ∧ Q (.int (cntS (stP rs n) lo (hi - lo + 1).toNat : Nat)) G

theorem c_law_count (T : Txt K mg aKind aBook aJourney) : Cal3 P w K mg base 3 "_law_count" sp_law_count [] := cal3 (T.d_law_count) sc_law_count (by decide) len4 fun f cdv A outer s H E o E3 hr tk hp => ⟨_,
    have hN := sc_law_count.nd
    (dss_cons (ds_if (dt_cmp op_lt dc_lt (de_sub (de_var 3) (de_var 2)) de_int (nomark _)) (dss_one (ds_ret (de_callB call_len cd_len rfl T.B.len (by decide +kernel) (da_cons (de_lc [("_law_place", 10)] rfl hN (tgt_name (i := 10) (by decide)) (di_rangeA (de_var 2) (de_add (de_var 3) de_int) T.B.range) (blkOk_by (N := N_law_count) (sc := (defScope s_law_count)) (own := [("_law_place", 10)]) (by decide +kernel)) (fun _ _ _ _ _ => (pg_name (i := 10) hN rfl (by first | exact Or.inl rfl | exact Or.inr rfl))) (fun _ _ _ _ _ => (dts_one (dt_val (de_call (c_law_calls T) hr takesN (da_cons (de_var 0) (da_cons (de_var 1) (da_cons (de_var 10) da_nil))))))) (fun _ _ _ _ _ => (de_var 10))) da_nil)))) dss_nil)
      (dss_cons (ds_par 4 5 rfl hN (da_cons (de_callB (call_max2 rfl) cd_max2 rfl T.B.max (by decide +kernel) (da_cons (de_var 2) (da_cons de_int da_nil))) (da_cons (de_callB (call_min2 rfl) cd_min2 rfl T.B.min (by decide +kernel) (da_cons (de_var 3) (da_cons (de_sub (de_var 1) de_int) da_nil))) da_nil)))
      (dss_cons (ds_set 6 hN (de_add (de_listRgA rfl (drg_2 (de_var 2) (de_var 4) T.B.range) T.B.list) (de_listRgA rfl (drg_2 (de_add (de_var 5) de_int) (de_add (de_var 3) de_int) T.B.range) T.B.list)))
      (dss_cons (ds_par 7 8 rfl hN (da_cons (de_callB call_len cd_len rfl T.B.len (by decide +kernel) (da_cons (de_lc [("_law_place", 10)] rfl hN (tgt_name (i := 10) (by decide)) (di_any (de_var 6)) (blkOk_by (N := N_law_count) (sc := (defScope s_law_count)) (own := [("_law_place", 10)]) (by decide +kernel)) (fun _ _ _ _ _ => (pg_name (i := 10) hN rfl (by first | exact Or.inl rfl | exact Or.inr rfl))) (fun _ _ _ _ _ => (dts_one (dt_val (de_call (c_law_calls T) hr takesN (da_cons (de_var 0) (da_cons (de_var 1) (da_cons (de_var 10) da_nil))))))) (fun _ _ _ _ _ => (de_var 10))) da_nil)) (da_cons (de_call (c_law_common T) hr tk (da_cons (de_call (c_law_spans T) hr tk (da_cons (de_var 0) da_nil)) da_nil)) da_nil)))
      (dss_cons (ds_for rfl hp (di_range1 (de_var 8) T.B.range) (dg_name 9 hN) (dss_one (ds_if (dt_val (de_call (c_law_calls T) hr tk (da_cons (de_var 0) (da_cons (de_var 1) (da_cons (de_add (de_var 4) (de_mod (de_callTy call_intA cd_int rfl T.B.int (by decide +kernel) (da_cons (de_sub (de_var 9) (de_var 4)) da_nil)) (de_var 8))) da_nil))))) (dss_one (ds_set 7 hN (de_sub (de_add (de_var 7) (de_fdiv (de_sub (de_var 5) (de_var 9)) (de_var 8))) (de_fdiv (de_sub (de_sub (de_var 4) de_int) (de_var 9)) (de_var 8))))) dss_nil)))
      (dss_one (ds_ret (de_var 7)))))))), by
    intro ds G Q h
    obtain ⟨v, m, l, z, rfl, rs, s', n, lo, hi, hrs, r6, s0, s6, hs, lo1, lohi, hin, rfl, rfl, rfl, rfl, q⟩ := in4 h
    have small : (1000 : Nat) < sizeLine := by decide
    have nint : (hi - lo + 1).toNat = (hi + 1 - lo).toNat := by congr 1; omega
    rw [nint] at q
    conv => whnf
    refine br_cases (fun e1 => ?_) (fun e1 => ?_)
    · have e1 : hi - lo < 40 := of_decide_eq_true e1
      conv => whnf
      refine ⟨by simp [intsD]; omega, ?_⟩
      refine swp_go _ rfl ?_
      refine lc_filter (e := fun k : Nat => D.int (lo + (k : Nat))) (fun k => stP rs n (lo + (k : Nat))) (fun k : Nat => D.int (lo + (k : Nat))) (List.range (hi + 1 - lo).toNat) (fun k hk K1 K2 k1 k2 => ?_) ?_
      · conv => whnf
        refine ⟨rs, n, lo + (k : Nat), hrs, rfl, rfl, rfl, ?_⟩
        conv => whnf
        refine br_cases (fun e2 => ?_) (fun e2 => ?_)
        · exact k1 e2
        · exact k2 e2
      conv => whnf
      rw [List.length_map]
      exact ret_id q
    · have e1 : ¬ hi - lo < 40 := of_decide_eq_false e1
      have hb : ∃ b : Int, (if (4 : Int) > lo then (4 : Int) else lo) = b ∧ 4 ≤ b ∧ lo ≤ b ∧ b ≤ lo + 3 := by
        by_cases hc : (4 : Int) > lo
        · exact ⟨4, if_pos hc, by omega, by omega, by omega⟩
        · exact ⟨lo, if_neg hc, by omega, by omega, by omega⟩
      have he : ∃ e : Int, (if n - 3 < hi then n - 3 else hi) = e ∧ e ≤ n - 3 ∧ e ≤ hi ∧ hi - 3 ≤ e := by
        by_cases hc : n - 3 < hi
        · exact ⟨n - 3, if_pos hc, by omega, by omega, by omega⟩
        · exact ⟨hi, if_neg hc, by omega, by omega, by omega⟩
      obtain ⟨b, eb, b4, blo, b3⟩ := hb
      obtain ⟨e, ee, en, ehi, e3⟩ := he
      conv => whnf
      rw [eb, ee]
      refine ⟨by unfold RgN; omega, ?_⟩
      conv => whnf
      refine ⟨by unfold RgN; omega, ?_⟩
      conv => whnf
      refine ⟨by simp [intsD]; omega, ?_⟩
      conv => whnf
      have eE : intsD lo (b - lo).toNat ++ intsD (e + 1) (hi + 1 - (e + 1)).toNat = ((List.range (b - lo).toNat).map (fun k : Nat => lo + (k : Nat)) ++ (List.range (hi + 1 - (e + 1)).toNat).map (fun k : Nat => e + 1 + (k : Nat))).map D.int := by
        rw [List.map_append, List.map_map, List.map_map]
        rfl
      rw [eE]
      refine ⟨by simp; omega, ?_⟩
      refine swp_go _ rfl ?_
      refine lc_filter (e := D.int) (stP rs n) D.int _ (fun k hk K1 K2 k1 k2 => ?_) ?_
      · conv => whnf
        refine ⟨rs, n, k, hrs, rfl, rfl, rfl, ?_⟩
        conv => whnf
        refine br_cases (fun e2 => ?_) (fun e2 => ?_)
        · exact k1 e2
        · exact k2 e2
      have eL : ((((List.range (b - lo).toNat).map (fun k : Nat => lo + (k : Nat)) ++ (List.range (hi + 1 - (e + 1)).toNat).map (fun k : Nat => e + 1 + (k : Nat))).filter (stP rs n)).map D.int).length = cntS (stP rs n) lo (b - lo).toNat + cntS (stP rs n) (e + 1) (hi + 1 - (e + 1)).toNat := by
        rw [List.length_map, List.filter_append, List.length_append, List.filter_map, List.filter_map, List.length_map, List.length_map]
        rfl
      conv => whnf
      rw [eL]
      refine ⟨rs, hrs, r6, rfl, ?_⟩
      refine ⟨spansOf rs, s', fun k hk => ?_, ?_, s0, by omega, fun k hk => ?_, rfl, fun N N0 N60 hN => ?_⟩
      · obtain ⟨l, hl, h2⟩ := List.mem_flatten.mp hk
        obtain ⟨r, hr, rfl⟩ := List.mem_map.mp hl
        exact ⟨every_pos r (hrs r hr) k h2, Nat.le_trans (Nat.le_of_dvd s0 (hs r hr k h2)) s6⟩
      · have := nums_len rs
        show ((rs.map everyNum).flatten).length ≤ 100
        omega
      · obtain ⟨l, hl, h2⟩ := List.mem_flatten.mp hk
        obtain ⟨r, hr, rfl⟩ := List.mem_map.mp hl
        exact hs r hr k h2
      have hN : ∀ r ∈ rs, ∀ k ∈ everyNum r, k ∣ N := fun r hr k hk => hN k (List.mem_flatten.mpr ⟨_, List.mem_map.mpr ⟨r, hr, rfl⟩, hk⟩)
      conv => whnf
      refine ⟨⟨by omega, by omega⟩, ?_⟩
      conv => whnf
      rw [show ((N : Nat) : Int).toNat = N by omega]
      refine for_inv (e := fun i : Nat => D.int ((0 : Int) + (i : Nat))) (fun xs sd G' => G' = G ∧ ∃ (k : Nat) (fd : Int) (y1 y2 : Option D), k ≤ N ∧ xs = (List.range N).drop k ∧ fd = ((cntS (stP rs n) lo (b - lo).toNat + cntS (stP rs n) (e + 1) (hi + 1 - (e + 1)).toNat : Nat) : Int) + restS (stI rs n) (N : Nat) b e k ∧
        sd = [some (.tup (rs.map rowD)), some (.int n), some (.int lo), some (.int hi), some (.int b), some (.int e), y2, some (.int fd), some (.int (N : Nat)), y1, none]) ?_ ?_ (List.range N) _ _ ⟨rfl, 0, _, none, _, Nat.zero_le _, rfl, (Int.add_zero _).symm, rfl⟩
      · rintro sd G' ⟨rfl, k, fd, y1, y2, kN, ek, rfl, rfl⟩
        have ek : k = N := by
          have := congrArg List.length ek
          rw [List.length_drop, List.length_range] at this
          simp at this
          omega
        subst ek
        have c1 := cnt_rests (p := stI rs n) N0 (stI_mod hN) b (e - b + 1).toNat
        rw [show b + ((e - b + 1).toNat : Int) - 1 = e by omega] at c1
        have c2 : cntS (stI rs n) b (e - b + 1).toNat = cntS (stP rs n) b (e - b + 1).toNat := cntS_congr fun i h1 h2 => (stP_mid hrs (by omega) (by omega)).symm
        have c3 : cntS (stP rs n) lo (hi + 1 - lo).toNat = cntS (stP rs n) lo (b - lo).toNat + cntS (stP rs n) b (e - b + 1).toNat + cntS (stP rs n) (e + 1) (hi + 1 - (e + 1)).toNat := by
          rw [show (hi + 1 - lo).toNat = ((b - lo).toNat + (e - b + 1).toNat) + (hi + 1 - (e + 1)).toNat by omega, cntS_add, cntS_add]
          rw [show lo + ((b - lo).toNat : Int) = b by omega, show lo + (((b - lo).toNat + (e - b + 1).toNat : Nat) : Int) = e + 1 by omega]
        conv => whnf
        have c4 : ((cntS (stP rs n) lo (b - lo).toNat + cntS (stP rs n) (e + 1) (hi + 1 - (e + 1)).toNat : Nat) : Int) + restS (stI rs n) (k : Nat) b e k = ((cntS (stP rs n) lo (hi + 1 - lo).toNat : Nat) : Int) := by omega
        rw [c4]
        exact ret_id q
      · rintro x xs sd G' ⟨rfl, k, fd, y1, y2, kN, ek, rfl, rfl⟩ Nx hNx
        have hk : k < N := by
          have := congrArg List.length ek
          rw [List.length_drop, List.length_range] at this
          simp at this
          omega
        rw [List.drop_eq_getElem_cons (by rw [List.length_range]; exact hk), List.getElem_range] at ek
        obtain ⟨rfl, rfl⟩ := List.cons.inj ek
        have ei : (0 : Int) + (x : Nat) = (x : Nat) := by omega
        rw [ei]
        have rt := rest_term (rs := rs) hrs N0 hN (n := n) b4 en (by omega) x
        have rs1 : restS (stI rs n) (N : Nat) b e (x + 1) = restS (stI rs n) (N : Nat) b e x + if stP rs n (b + ((x : Nat) - b) % (N : Nat)) then (e - (x : Nat)) / ((N : Nat) : Int) - (b - 1 - (x : Nat)) / (N : Nat) else 0 := by
          rw [rt]
          rfl
        conv => whnf
        refine ⟨by omega, ?_⟩
        conv => whnf
        refine ⟨rs, n, _, hrs, rfl, rfl, rfl, ?_⟩
        conv => whnf
        refine br_cases (fun e2 => ?_) (fun e2 => ?_)
        · have e2 : stP rs n (b + ((x : Nat) - b) % (N : Nat)) = true := e2
          rw [e2, if_pos rfl] at rs1
          conv => whnf
          refine ⟨⟨by omega, by omega⟩, ?_⟩
          conv => whnf
          refine ⟨⟨by omega, by omega⟩, ?_⟩
          conv => whnf
          refine hNx _ _ ⟨rfl, x + 1, _, _, _, hk, rfl, ?_, rfl⟩
          rw [rs1]
          omega
        · have e2 : stP rs n (b + ((x : Nat) - b) % (N : Nat)) = false := e2
          rw [e2, if_neg Bool.false_ne_true] at rs1
          conv => whnf
          refine hNx _ _ ⟨rfl, x + 1, _, _, _, hk, rfl, ?_, rfl⟩
          rw [rs1]
          omega⟩
end TS
set_option Elab.async false
set_option linter.all false
set_option maxRecDepth 100000
set_option maxHeartbeats 4000000
namespace TS
open PySem PySem.Spec PyProof.Rows L2 L3
variable {P : Program} {w : World} {K : PySem.W.Frag} {mg : Str → Option Value} {base : Heap} {aKind aBook aJourney : Addr}
theorem cnt_round {p : Int → Bool} {N : Nat} {b : Int} (hp : ∀ i : Int, p i = p (i + (N : Nat))) (r : Nat) : ∀ k : Nat, cntS p b (k * N + r) = k * cntS p b N + cntS p b r
  | 0 => by rw [Nat.zero_mul, Nat.zero_add, Nat.zero_mul, Nat.zero_add]
  | k + 1 => by
    have sh : ∀ m, cntS p (b + (N : Nat)) m = cntS p b m := fun m => by
      unfold cntS
      congr 1
      refine List.filter_congr fun s _ => ?_
      rw [hp (b + (s : Nat)), show b + (N : Nat) + (s : Nat) = b + (s : Nat) + (N : Nat) by omega]
    rw [Nat.succ_mul, show k * N + N + r = N + (k * N + r) by omega, cntS_add, sh, cnt_round hp r k, Nat.succ_mul]
    omega
theorem sum_bls (p : Int → Bool) (b : Int) (m : Nat) : (((List.range m).map fun s : Nat => if p (b + (s : Nat)) then (1 : Int) else 0).sum) = (cntS p b m : Nat) := by
  induction m with
  | zero => rfl
  | succ m ih =>
    rw [List.range_succ, List.map_append, List.sum_append, ih, cntS_succ]
    show _ + ((if p (b + (m : Nat)) then (1 : Int) else 0) + 0) = _
    cases p (b + (m : Nat)) with
    | true => rw [if_pos rfl, if_pos rfl]; omega
    | false => rw [if_neg Bool.false_ne_true, if_neg Bool.false_ne_true]; omega
theorem cnt_le (p : Int → Bool) (b : Int) (m : Nat) : cntS p b m ≤ m := by
  unfold cntS
  exact Nat.le_trans (List.length_filter_le _ _) (by rw [List.length_range]; exact Nat.le_refl _)
theorem cnt_mid {p q : Int → Bool} {N M : Nat} {f : Int} (N0 : 0 < N) (h : ∀ i : Int, f ≤ i → i < f + (M : Nat) → p i = q i) (hq : ∀ i : Int, q i = q (i + (N : Nat))) : cntS p f M = M / N * cntS p f N + cntS p f (M % N) := by
  by_cases hM : M < N
  · rw [Nat.div_eq_of_lt hM, Nat.mod_eq_of_lt hM, Nat.zero_mul, Nat.zero_add]
  · have hm := Nat.mod_lt M N0
    have hd := Nat.div_add_mod M N
    rw [cntS_congr (q := q) h, cntS_congr (p := p) (q := q) (m := N) fun i h1 h2 => h i h1 (by omega), cntS_congr (p := p) (q := q) (m := M % N) fun i h1 h2 => h i h1 (by omega), ← cnt_round hq, Nat.mul_comm, hd]
theorem every_dvd {ks : List Kd} {k : Kd} (hk : k ∈ ks) {r : Row} (hr : r ∈ k.rows) {n : Nat} (hn : n ∈ everyNum r) : n ∣ perOf ks := by
  have h1 : n ∈ numsOf ks := List.mem_flatten.mpr ⟨_, List.mem_map.mpr ⟨k, hk, rfl⟩, List.mem_flatten.mpr ⟨_, List.mem_map.mpr ⟨r, hr, rfl⟩, hn⟩⟩
  have key : ∀ (l : List Nat) (a : Nat), a ∣ l.foldl Nat.lcm a ∧ ∀ x ∈ l, x ∣ l.foldl Nat.lcm a := by
    intro l
    induction l with
    | nil => exact fun a => ⟨Nat.dvd_refl _, fun x hx => nomatch hx⟩
    | cons y l ih =>
      intro a
      obtain ⟨h1, h2⟩ := ih (Nat.lcm a y)
      refine ⟨Nat.dvd_trans (Nat.dvd_lcm_left a y) h1, fun x hx => ?_⟩
      rcases List.mem_cons.mp hx with rfl | hx
      · exact Nat.dvd_trans (Nat.dvd_lcm_right a x) h1
      · exact h2 x hx
  exact (key _ 1).2 n h1
theorem per_pos {ks : List Kd} (ok : ∀ k ∈ ks, Kok k) : 0 < perOf ks := by
  have pos := nums_pos ok
  have key : ∀ (l : List Nat) (a : Nat), 0 < a → (∀ x ∈ l, 0 < x) → 0 < l.foldl Nat.lcm a := by
    intro l
    induction l with
    | nil => exact fun a h _ => h
    | cons y l ih => exact fun a h hx => ih _ (Nat.lcm_pos h (hx y List.mem_cons_self)) fun x hm => hx x (List.mem_cons_of_mem _ hm)
  exact key _ 1 (by decide) pos
theorem every_60 : ∀ r ∈ allRows, ∀ n ∈ everyNum r, n ∣ 60 := by decide +kernel
theorem per_60 {ks : List Kd} (ok : ∀ k ∈ ks, Kok k) : perOf ks ∣ 60 := by
  have h : ∀ n ∈ numsOf ks, n ∣ 60 := fun n hn => by
    unfold numsOf at hn
    obtain ⟨l, hl, h2⟩ := List.mem_flatten.mp hn
    obtain ⟨k, hk, e⟩ := List.mem_map.mp hl
    subst e
    obtain ⟨l2, hl2, h3⟩ := List.mem_flatten.mp h2
    obtain ⟨r, hr, e⟩ := List.mem_map.mp hl2
    subst e
    exact every_60 r ((ok k hk).rw r hr) n h3
  have key : ∀ (l : List Nat) (a : Nat), a ∣ 60 → (∀ x ∈ l, x ∣ 60) → l.foldl Nat.lcm a ∣ 60 := by
    intro l
    induction l with
    | nil => exact fun a h _ => h
    | cons y l ih => exact fun a h hx => ih _ (Nat.lcm_dvd h (hx y List.mem_cons_self)) fun x hm => hx x (List.mem_cons_of_mem _ hm)
  exact key _ 1 (Nat.one_dvd _) h
def sp_count_stops (aKind : Addr) : Sp3 := sp4 fun v l lo hi G Q _ => ∃ k, ∃ n a b : Int, Kok k ∧ 1 ≤ a ∧ a ≤ b + 1 ∧ b ≤ n ∧ v = kindD aKind k ∧ l = .int n ∧ lo = .int a ∧ hi = .int b ∧ Q (.int (cntS (stP k.rows n) a (b - a + 1).toNat : Nat)) G

theorem c_count_stops (T : Txt K mg aKind aBook aJourney) : Cal3 P w K mg base 5 "count_stops" (sp_count_stops aKind) [] := cal3 (T.d_count_stops) sc_count_stops (by decide) len4 fun f cdv A outer s H E o E3 hr tk hp => ⟨_,
    have hN := sc_count_stops.nd
    (dss_cons (ds_asg (de_tupS (da_cons (de_call (c_period_of T) hr tk (da_cons (de_tupS (da_cons (de_var 0) da_nil)) da_nil)) (da_cons (de_callB (call_max2 rfl) cd_max2 rfl T.B.max (by decide +kernel) (da_cons (de_var 2) (da_cons de_int da_nil))) (da_cons (de_callB (call_min2 rfl) cd_min2 rfl T.B.min (by decide +kernel) (da_cons (de_var 3) (da_cons (de_sub (de_var 1) de_int) da_nil))) da_nil)))) (dg_tl (n := 3) rfl (dgs_cons (dg_name 4 hN) (dgs_cons (dg_name 5 hN) (dgs_cons (dg_name 6 hN) dgs_nil)))))
      (dss_cons (ds_if (dt_cmp op_gt dc_gt (de_var 5) (de_var 6) (nomark _)) (dss_one (ds_ret (de_callB (call_sumB rfl) cd_low rfl T.B.sum (by decide +kernel) (da_cons (de_lc [("station", 11)] rfl hN (tgt_name (i := 11) (by decide)) (di_rangeA (de_var 2) (de_add (de_var 3) de_int) T.B.range) (blkOk_by (N := N_count_stops) (sc := (defScope s_count_stops)) (own := [("station", 11)]) (by decide +kernel)) (fun _ _ _ _ _ => (pg_name (i := 11) hN rfl (by first | exact Or.inl rfl | exact Or.inr rfl))) (fun _ _ _ _ _ => dts_nil) (fun _ _ _ _ _ => (de_call (c_stops_there T) hr takesN (da_cons (de_var 0) (da_cons (de_var 1) (da_cons (de_var 11) da_nil)))))) da_nil)))) dss_nil)
      (dss_cons (ds_asg (de_callB call_divmod cd_divmod rfl T.B.divmod (by decide +kernel) (da_cons (de_add (de_sub (de_var 6) (de_var 5)) de_int) (da_cons (de_var 4) da_nil))) (dg_tl (n := 2) rfl (dgs_cons (dg_name 7 hN) (dgs_cons (dg_name 8 hN) dgs_nil))))
      (dss_cons (ds_set 9 hN (de_lstS (da_starRgA rfl (drg_2 (de_var 2) (de_var 5) T.B.range) (da_starRgA rfl (drg_2 (de_add (de_var 6) de_int) (de_add (de_var 3) de_int) T.B.range) da_nil))))
      (dss_cons (ds_set 10 hN (de_callB (call_sumB rfl) cd_low rfl T.B.sum (by decide +kernel) (da_cons (de_lc [("station", 11)] rfl hN (tgt_name (i := 11) (by decide)) (di_any (de_var 9)) (blkOk_by (N := N_count_stops) (sc := (defScope s_count_stops)) (own := [("station", 11)]) (by decide +kernel)) (fun _ _ _ _ _ => (pg_name (i := 11) hN rfl (by first | exact Or.inl rfl | exact Or.inr rfl))) (fun _ _ _ _ _ => dts_nil) (fun _ _ _ _ _ => (de_call (c_stops_there T) hr takesN (da_cons (de_var 0) (da_cons (de_var 1) (da_cons (de_var 11) da_nil)))))) da_nil)))
      (dss_cons (ds_augI 10 hN (de_mul (de_var 7) (de_callB (call_sumB rfl) cd_low rfl T.B.sum (by decide +kernel) (da_cons (de_lc [("at", 12)] rfl hN (tgt_name (i := 12) (by decide)) (di_range1 (de_var 4) T.B.range) (blkOk_by (N := N_count_stops) (sc := (defScope s_count_stops)) (own := [("at", 12)]) (by decide +kernel)) (fun _ _ _ _ _ => (pg_name (i := 12) hN rfl (by first | exact Or.inl rfl | exact Or.inr rfl))) (fun _ _ _ _ _ => dts_nil) (fun _ _ _ _ _ => (de_call (c_stops_there T) hr takesN (da_cons (de_var 0) (da_cons (de_var 1) (da_cons (de_add (de_var 5) (de_var 12)) da_nil)))))) da_nil))))
      (dss_one (ds_ret (de_add (de_var 10) (de_callB (call_sumB rfl) cd_low rfl T.B.sum (by decide +kernel) (da_cons (de_lc [("at", 12)] rfl hN (tgt_name (i := 12) (by decide)) (di_range1 (de_var 8) T.B.range) (blkOk_by (N := N_count_stops) (sc := (defScope s_count_stops)) (own := [("at", 12)]) (by decide +kernel)) (fun _ _ _ _ _ => (pg_name (i := 12) hN rfl (by first | exact Or.inl rfl | exact Or.inr rfl))) (fun _ _ _ _ _ => dts_nil) (fun _ _ _ _ _ => (de_call (c_stops_there T) hr takesN (da_cons (de_var 0) (da_cons (de_var 1) (da_cons (de_add (de_var 5) (de_var 12)) da_nil)))))) da_nil))))))))))), by
    intro ds G Q h
    obtain ⟨v, l, lo, hi, rfl, k, n, a, b, ok, a1, ab, bn, rfl, rfl, rfl, rfl, q⟩ := in4 h
    conv => whnf
    refine ⟨Nat.le_trans (Nat.le_of_ble_eq_true rfl : _ ≤ 100) (by decide), ?_⟩; conv => whnf
    refine ⟨[k], fun x hx => by rw [List.mem_singleton.mp hx]; exact ok, by show (1 : Nat) ≤ 4; decide, rfl, ?_⟩
    have hb : ∃ f : Int, (if (4 : Int) > a then (4 : Int) else a) = f ∧ 4 ≤ f ∧ a ≤ f ∧ f ≤ a + 3 := by
      by_cases hc : (4 : Int) > a
      · exact ⟨4, if_pos hc, by omega, by omega, by omega⟩
      · exact ⟨a, if_neg hc, by omega, by omega, by omega⟩
    have he : ∃ e : Int, (if n - 3 < b then n - 3 else b) = e ∧ e ≤ n - 3 ∧ e ≤ b ∧ b - 3 ≤ e := by
      by_cases hc : n - 3 < b
      · exact ⟨n - 3, if_pos hc, by omega, by omega, by omega⟩
      · exact ⟨b, if_neg hc, by omega, by omega, by omega⟩
    obtain ⟨f, ef, f4, fa, f3⟩ := hb
    obtain ⟨e, ee, en, eb, e3⟩ := he
    conv => whnf
    rw [ef, ee]
    refine ⟨Nat.le_trans (Nat.le_of_ble_eq_true rfl : _ ≤ 100) (by decide), ?_⟩; conv => whnf
    have small : (1000 : Nat) < sizeLine := by decide
    have hP := per_pos (ks := [k]) fun x hx => by rw [List.mem_singleton.mp hx]; exact ok
    have h60 := Nat.le_of_dvd (by decide) (per_60 (ks := [k]) fun x hx => by rw [List.mem_singleton.mp hx]; exact ok)
    have hD : ∀ r ∈ k.rows, ∀ m ∈ everyNum r, m ∣ perOf [k] := fun r hr m hm => every_dvd List.mem_cons_self hr hm
    generalize hN : perOf [k] = N at *
    refine br_cases (fun e1 => ?_) (fun e1 => ?_)
    · have e1 : e < f := of_decide_eq_true e1
      conv => whnf
      refine ⟨by simp [intsD]; omega, ?_⟩
      refine swp_go _ rfl ?_
      refine lc_map (e := fun s : Nat => D.int (a + (s : Nat))) (fun s : Nat => D.bl (stP k.rows n (a + (s : Nat)))) (List.range (b + 1 - a).toNat) (fun s _ K' k' => ?_) ?_
      · conv => whnf
        exact ⟨k, n, a + (s : Nat), ok, rfl, rfl, rfl, k'⟩
      conv => whnf
      refine ⟨_, numsD_bls (fun s : Nat => stP k.rows n (a + (s : Nat))) _, ?_⟩
      rw [sum_bls, show (b + 1 - a).toNat = (b - a + 1).toNat by congr 1; omega]
      exact ret_id q
    · have e1 : ¬ e < f := of_decide_eq_false e1
      conv => whnf
      refine ⟨by unfold CDiv; omega, ?_⟩
      have hr1 := Int.emod_nonneg (e - f + 1) (show ((N : Nat) : Int) ≠ 0 by omega)
      have hr2 := Int.emod_lt_of_pos (e - f + 1) (show (0 : Int) < (N : Nat) by omega)
      have hr3 := Int.emod_add_mul_ediv (e - f + 1) (N : Nat)
      conv => whnf
      refine ⟨by unfold RgN; omega, ?_⟩
      conv => whnf
      refine ⟨by unfold RgN; omega, ?_⟩
      conv => whnf
      have eE : intsD a (f - a).toNat ++ (intsD (e + 1) (b + 1 - (e + 1)).toNat ++ []) = ((List.range (f - a).toNat).map (fun s : Nat => a + (s : Nat)) ++ (List.range (b + 1 - (e + 1)).toNat).map (fun s : Nat => e + 1 + (s : Nat))).map D.int := by
        rw [List.append_nil, List.map_append, List.map_map, List.map_map]
        rfl
      rw [eE]
      refine ⟨by simp; omega, ?_⟩
      conv => whnf
      refine ⟨by simp; omega, ?_⟩
      refine swp_go _ rfl ?_
      refine lc_map (e := D.int) (fun i : Int => D.bl (stP k.rows n i)) _ (fun i _ K' k' => ?_) ?_
      · conv => whnf
        exact ⟨k, n, i, ok, rfl, rfl, rfl, k'⟩
      conv => whnf
      refine ⟨_, numsD_bls (fun i : Int => stP k.rows n i) _, ?_⟩
      have eS : ((((List.range (f - a).toNat).map (fun s : Nat => a + (s : Nat)) ++ (List.range (b + 1 - (e + 1)).toNat).map (fun s : Nat => e + 1 + (s : Nat))).map fun i => if stP k.rows n i then (1 : Int) else 0).sum) = ((cntS (stP k.rows n) a (f - a).toNat + cntS (stP k.rows n) (e + 1) (b + 1 - (e + 1)).toNat : Nat) : Int) := by
        rw [List.map_append, List.sum_append, List.map_map, List.map_map, Int.natCast_add, ← sum_bls, ← sum_bls]
        rfl
      rw [eS]
      conv => whnf
      refine ⟨⟨by omega, by omega⟩, ?_⟩
      conv => whnf
      refine ⟨by simp [intsD]; omega, ?_⟩
      refine swp_go _ rfl ?_
      refine lc_map (e := fun s : Nat => D.int ((0 : Int) + (s : Nat))) (fun s : Nat => D.bl (stP k.rows n (f + (s : Nat)))) (List.range (((N : Nat) : Int)).toNat) (fun s _ K' k' => ?_) ?_
      · conv => whnf
        refine ⟨k, n, f + (s : Nat), ok, rfl, rfl, by congr 1; omega, k'⟩
      conv => whnf
      refine ⟨_, numsD_bls (fun s : Nat => stP k.rows n (f + (s : Nat))) _, ?_⟩
      rw [sum_bls, show (((N : Nat) : Int)).toNat = N by omega]
      have c1 := cnt_le (stP k.rows n) f N
      conv => whnf
      refine ⟨.inr ⟨by omega, by omega⟩, ?_⟩
      conv => whnf
      refine ⟨⟨by omega, by omega⟩, ?_⟩
      conv => whnf
      refine ⟨by simp [intsD]; omega, ?_⟩
      refine swp_go _ rfl ?_
      refine lc_map (e := fun s : Nat => D.int ((0 : Int) + (s : Nat))) (fun s : Nat => D.bl (stP k.rows n (f + (s : Nat)))) (List.range ((e - f + 1) % (N : Nat)).toNat) (fun s _ K' k' => ?_) ?_
      · conv => whnf
        refine ⟨k, n, f + (s : Nat), ok, rfl, rfl, by congr 1; omega, k'⟩
      conv => whnf
      refine ⟨_, numsD_bls (fun s : Nat => stP k.rows n (f + (s : Nat))) _, ?_⟩
      rw [sum_bls]
      have hM := cnt_mid (p := stP k.rows n) (q := stI k.rows n) (N := N) (M := (e - f + 1).toNat) (f := f) hP (fun i h1 h2 => stP_mid ok.rw (by omega) (by omega)) (fun i => stI_per hD ⟨-1, by omega⟩)
      have eM : ((e - f + 1).toNat : Int) = e - f + 1 := by omega
      have q1 : (e - f + 1) / ((N : Nat) : Int) = (((e - f + 1).toNat / N : Nat) : Int) := by rw [Int.natCast_ediv, eM]
      have q2 : ((e - f + 1) % ((N : Nat) : Int)).toNat = (e - f + 1).toNat % N := by
        have : (e - f + 1) % ((N : Nat) : Int) = (((e - f + 1).toNat % N : Nat) : Int) := by rw [Int.natCast_emod, eM]
        omega
      have tot : cntS (stP k.rows n) a (b - a + 1).toNat = cntS (stP k.rows n) a (f - a).toNat + (cntS (stP k.rows n) f (e - f + 1).toNat + cntS (stP k.rows n) (e + 1) (b + 1 - (e + 1)).toNat) := by
        rw [show (b - a + 1).toNat = (f - a).toNat + ((e - f + 1).toNat + (b + 1 - (e + 1)).toNat) by omega, cntS_add, cntS_add, show a + ((f - a).toNat : Int) = f by omega, show f + ((e - f + 1).toNat : Int) = e + 1 by omega]
      conv => whnf
      rw [tot, hM] at q
      rw [q1, q2, ← Int.natCast_mul, ← Int.natCast_add, ← Int.natCast_add]
      rw [show cntS (stP k.rows n) a (f - a).toNat + ((e - f + 1).toNat / N * cntS (stP k.rows n) f N + cntS (stP k.rows n) f ((e - f + 1).toNat % N) + cntS (stP k.rows n) (e + 1) (b + 1 - (e + 1)).toNat) = cntS (stP k.rows n) a (f - a).toNat + cntS (stP k.rows n) (e + 1) (b + 1 - (e + 1)).toNat + (e - f + 1).toNat / N * cntS (stP k.rows n) f N + cntS (stP k.rows n) f ((e - f + 1).toNat % N) by omega] at q
      exact ret_id q⟩
def rideT (k : Kd) (n i j : Int) : Int := (k.wait : Nat) + (k.pace : Nat) * (j - i) + (k.halt : Nat) * (cntS (stP k.rows n) (i + 1) (j - 1 - (i + 1) + 1).toNat : Nat)
def sp_ride_time (aKind : Addr) : Sp3 := sp4 fun v l a b G Q _ => ∃ k, ∃ n i j : Int, Kok k ∧ 1 ≤ i ∧ i < j ∧ j ≤ n ∧ v = kindD aKind k ∧ l = .int n ∧ a = .int i ∧ b = .int j ∧ Q (.int (rideT k n i j)) G

theorem c_ride_time (T : Txt K mg aKind aBook aJourney) : Cal3 P w K mg base 6 "ride_time" (sp_ride_time aKind) [] := cal3 (T.d_ride_time) sc_ride_time (by decide) len4 fun f cdv A outer s H E o E3 hr tk hp => ⟨_,
    have hN := sc_ride_time.nd
    (dss_one (ds_ret (de_add (de_add (de_prop (c_Kind_wait T) hr (de_var 0)) (de_mul (de_prop (c_Kind_pace T) hr (de_var 0)) (de_sub (de_var 3) (de_var 2)))) (de_mul (de_prop (c_Kind_halt T) hr (de_var 0)) (de_call (c_count_stops T) hr tk (da_cons (de_var 0) (da_cons (de_var 1) (da_cons (de_add (de_var 2) de_int) (da_cons (de_sub (de_var 3) de_int) da_nil))))))))), by
    intro ds G Q h
    obtain ⟨v, l, a, b, rfl, k, n, i, j, ok, i1, ij, jn, rfl, rfl, rfl, rfl, q⟩ := in4 h
    conv => whnf
    have c1 := ok.pa
    have c2 := ok.ha
    have c3 := ok.wa
    refine ⟨rfl, k, rfl, ?_⟩
    conv => whnf
    refine ⟨rfl, k, rfl, ?_⟩
    conv => whnf
    refine ⟨.inl ⟨by omega, by omega⟩, ?_⟩
    conv => whnf
    refine ⟨rfl, k, rfl, ?_⟩
    conv => whnf
    refine ⟨k, n, i + 1, j - 1, ok, by omega, by omega, by omega, rfl, rfl, rfl, rfl, ?_⟩
    conv => whnf
    refine ⟨.inl ⟨by omega, by omega⟩, ?_⟩
    conv => whnf
    exact ret_id q⟩
structure Rd where
  w : Str
  i : Int
  j : Int
  m : Int
def rdD (r : Rd) : D := .tup [.tup [.str r.w, .int r.i, .int r.j], .int r.m]
def jF (aKind aBook : Addr) (ks : List Kd) (n s : Int) (rs : List Rd) : List (Str × D) := [("book", bookD aKind aBook ks), ("length", .int n), ("start", .int s), ("past", .tup (rs.map rdD))]
def sp_Journey_init (aKind aBook aJourney : Addr) : Sp3 := sp4 fun v b l z G Q _ => ∃ p dx ks, ∃ n s : Int, Bok ks ∧ 2 ≤ n ∧ 1 ≤ s ∧ s ≤ n ∧ v = .ref p ∧ G p = some (.obj aJourney dx []) ∧ b = bookD aKind aBook ks ∧ l = .int n ∧ z = .int s ∧ Q .non (gupd G p (.obj aJourney dx (jF aKind aBook ks n s [])))

theorem c_Journey_init (T : Txt K mg aKind aBook aJourney) : Mak3 P w K mg base 3 "Journey" aJourney "Journey.__init__" s_Journey_init ["self", "book", "length", "start"] (sp_Journey_init aKind aBook aJourney) := mak3 (T.d_Journey_init) sc_Journey_init (by decide) len4 fun f cdv A outer s H E o E3 hr tk hp => ⟨_,
    have hN := sc_Journey_init.nd
    (dss_cons (ds_expr (de_call (c_check_book T) hr tk (da_cons (de_var 1) da_nil)))
      (dss_cons (ds_expr (de_call (c_check_length1 T) hr tk (da_cons (de_var 2) da_nil)))
      (dss_cons (ds_expr (de_call (c_check_station T) hr tk (da_cons (de_var 3) (da_cons de_int (da_cons (de_var 2) da_nil)))))
      (dss_cons (ds_asg (de_tupS (da_cons (de_var 1) (da_cons (de_var 2) (da_cons (de_var 3) da_nil)))) (dg_tl (n := 3) rfl (dgs_cons (dg_fld T.fl_Journey_book (de_var 0)) (dgs_cons (dg_fld T.fl_Journey_length (de_var 0)) (dgs_cons (dg_fld T.fl_Journey_start (de_var 0)) dgs_nil)))))
      (dss_one (ds_fld T.fl_Journey_past (de_var 0) (de_tupS da_nil))))))), by
    intro ds G Q h
    obtain ⟨v, b, l, z, rfl, p, dx, ks, n, s, ok, n2, s1, sn, rfl, hp, rfl, rfl, rfl, q⟩ := in4 h
    conv => whnf
    refine ⟨ks, rfl, ?_⟩
    conv => whnf
    refine ⟨n, n2, rfl, Or.inl rfl, ?_⟩
    conv => whnf
    refine ⟨s, 1, n, s1, sn, rfl, rfl, rfl, ?_⟩
    conv => whnf
    refine ⟨Nat.le_trans (Nat.le_of_ble_eq_true rfl : _ ≤ 100) (by decide), ?_⟩; conv => whnf
    refine ⟨dx, _, hp, by show (0 : Nat) < 1000; decide, ?_⟩
    conv => whnf
    refine ⟨dx, _, gupd_same, by show (1 : Nat) < 1000; decide, ?_⟩
    rw [gupd_gupd]
    conv => whnf
    refine ⟨dx, _, gupd_same, by show (2 : Nat) < 1000; decide, ?_⟩
    rw [gupd_gupd]
    conv => whnf
    refine ⟨Nat.le_trans (Nat.le_of_ble_eq_true rfl : _ ≤ 100) (by decide), ?_⟩; conv => whnf
    refine ⟨dx, _, gupd_same, by show (3 : Nat) < 1000; decide, ?_⟩
    rw [gupd_gupd]
    exact ret_id q⟩
def atS (s : Int) (rs : List Rd) : Int := match rs.getLast? with
  | some r => r.j
  | none => s
def JG (aKind aBook aJourney : Addr) (G : Gp) (p : Addr) (ks : List Kd) (n s : Int) (rs : List Rd) : Prop := ∃ dx, G p = some (.obj aJourney dx (jF aKind aBook ks n s rs))
def sp_Journey_station (aKind aBook aJourney : Addr) : Sp3 := sp1 fun v G Q _ => ∃ p ks n s rs, v = .ref p ∧ JG aKind aBook aJourney G p ks n s rs ∧ Q (.int (atS s rs)) G

theorem c_Journey_station (T : Txt K mg aKind aBook aJourney) : ProO P w K mg base 1 aJourney "station" (sp_Journey_station aKind aBook aJourney) := proO T.oc_Journey (T.d_Journey_station) sc_Journey_station (by decide) len1 fun f cdv A outer s H E o E3 hr tk hp => ⟨_,
    have hN := sc_Journey_station.nd
    (dss_one (ds_ret (de_if (dt_cmp op_gt dc_gt (de_callB call_len cd_len rfl T.B.len (by decide +kernel) (da_cons (de_fld T.fl_Journey_past (de_var 0)) da_nil)) de_int (nomark _)) (de_ix (de_ix (de_ix (de_fld T.fl_Journey_past (de_var 0)) (de_neg de_int)) de_int) de_int) (de_fld T.fl_Journey_start (de_var 0))))), by
    intro ds G Q h
    obtain ⟨v, rfl, p, ks, n, s, rs, rfl, ⟨dx, hp⟩, q⟩ := in1 h
    conv => whnf
    refine ⟨dx, _, hp, ?_⟩
    rcases List.eq_nil_or_concat rs with e | ⟨pre, r, e⟩
    · subst e
      conv => whnf
      refine ⟨dx, _, hp, ?_⟩
      conv => whnf
      exact ret_id q
    · rw [List.concat_eq_append] at e
      subst e
      conv => whnf
      refine br_true (decide_eq_true (by simp)) ?_
      conv => whnf
      refine ⟨dx, _, hp, ?_⟩
      conv => whnf
      rw [show (List.map rdD (pre ++ [r])).reverse = rdD r :: (List.map rdD pre).reverse by simp]
      conv => whnf
      have e : atS s (pre ++ [r]) = r.j := by unfold atS; rw [List.getLast?_concat]
      rw [e] at q
      exact ret_id q⟩
def rideD (r : Rd) : D := .tup [.str r.w, .int r.i, .int r.j]
def sp_Journey_rides (aKind aBook aJourney : Addr) : Sp3 := sp1 fun v G Q _ => ∃ p ks n s rs, v = .ref p ∧ JG aKind aBook aJourney G p ks n s rs ∧ rs.length ≤ 100 ∧ Q (.tup (rs.map rideD)) G

theorem c_Journey_rides (T : Txt K mg aKind aBook aJourney) : ProO P w K mg base 1 aJourney "rides" (sp_Journey_rides aKind aBook aJourney) := proO T.oc_Journey (T.d_Journey_rides) sc_Journey_rides (by decide) len1 fun f cdv A outer s H E o E3 hr tk hp => ⟨_,
    have hN := sc_Journey_rides.nd
    (dss_one (ds_ret (de_callTy call_tuple_of cd_tuple rfl T.B.tuple (by decide +kernel) (da_cons (de_lc [("ride", 1), ("minutes", 2)] rfl hN (tgt_tup (n := 2) (tgts_cons (tgt_name (i := 1) (by decide)) (tgts_cons (tgt_name (i := 2) (by decide)) tgts_nil))) (di_any (de_fld T.fl_Journey_past (de_var 0))) (blkOk_by (N := N_Journey_rides) (sc := (defScope s_Journey_rides)) (own := [("ride", 1), ("minutes", 2)]) (by decide +kernel)) (fun _ _ _ _ _ => (pg_tup (n := 2) rfl (pgs_cons (pg_name (i := 1) hN rfl (by first | exact Or.inl rfl | exact Or.inr rfl)) (pgs_cons (pg_name (i := 2) hN rfl (by first | exact Or.inl rfl | exact Or.inr rfl)) pgs_nil)))) (fun _ _ _ _ _ => dts_nil) (fun _ _ _ _ _ => (de_var 1))) da_nil)))), by
    intro ds G Q h
    obtain ⟨v, rfl, p, ks, n, s, rs, rfl, ⟨dx, hp⟩, h100, q⟩ := in1 h
    have small : (1000 : Nat) < sizeLine := by decide
    conv => whnf
    refine ⟨dx, _, hp, ?_⟩
    conv => whnf
    refine ⟨by simp; omega, ?_⟩
    refine swp_go _ rfl ?_
    refine lc_map (e := rdD) rideD rs (fun r _ K' k' => ?_) ?_
    · conv => whnf
      exact k'
    conv => whnf
    exact ret_id q⟩
def sp_Journey_time (aKind aBook aJourney : Addr) : Sp3 := sp1 fun v G Q _ => ∃ p ks n s rs, v = .ref p ∧ JG aKind aBook aJourney G p ks n s rs ∧ rs.length ≤ 100 ∧ Q (.int (rs.map Rd.m).sum) G

theorem c_Journey_time (T : Txt K mg aKind aBook aJourney) : ProO P w K mg base 1 aJourney "time" (sp_Journey_time aKind aBook aJourney) := proO T.oc_Journey (T.d_Journey_time) sc_Journey_time (by decide) len1 fun f cdv A outer s H E o E3 hr tk hp => ⟨_,
    have hN := sc_Journey_time.nd
    (dss_one (ds_ret (de_callB (call_sumB rfl) cd_low rfl T.B.sum (by decide +kernel) (da_cons (de_lc [("ride", 1), ("minutes", 2)] rfl hN (tgt_tup (n := 2) (tgts_cons (tgt_name (i := 1) (by decide)) (tgts_cons (tgt_name (i := 2) (by decide)) tgts_nil))) (di_any (de_fld T.fl_Journey_past (de_var 0))) (blkOk_by (N := N_Journey_time) (sc := (defScope s_Journey_time)) (own := [("ride", 1), ("minutes", 2)]) (by decide +kernel)) (fun _ _ _ _ _ => (pg_tup (n := 2) rfl (pgs_cons (pg_name (i := 1) hN rfl (by first | exact Or.inl rfl | exact Or.inr rfl)) (pgs_cons (pg_name (i := 2) hN rfl (by first | exact Or.inl rfl | exact Or.inr rfl)) pgs_nil)))) (fun _ _ _ _ _ => dts_nil) (fun _ _ _ _ _ => (de_var 2))) da_nil)))), by
    intro ds G Q h
    obtain ⟨v, rfl, p, ks, n, s, rs, rfl, ⟨dx, hp⟩, h100, q⟩ := in1 h
    have small : (1000 : Nat) < sizeLine := by decide
    conv => whnf
    refine ⟨dx, _, hp, ?_⟩
    conv => whnf
    refine ⟨by simp; omega, ?_⟩
    refine swp_go _ rfl ?_
    refine lc_map (e := rdD) (fun r => D.int r.m) rs (fun r _ K' k' => ?_) ?_
    · conv => whnf
      exact k'
    conv => whnf
    refine ⟨_, numsD_ints Rd.m rs, ?_⟩
    exact ret_id q⟩
def sp_Journey_len (aKind aBook aJourney : Addr) : Sp3 := sp1 fun v G Q _ => ∃ p ks n s rs, v = .ref p ∧ JG aKind aBook aJourney G p ks n s rs ∧ Q (.int (rs.length : Nat)) G

theorem c_Journey_len (T : Txt K mg aKind aBook aJourney) : MetO P w K mg base 1 aJourney "__len__" (sp_Journey_len aKind aBook aJourney) [] := metO T.oc_Journey (T.d_Journey_len) sc_Journey_len (by decide) len1 fun f cdv A outer s H E o E3 hr tk hp => ⟨_,
    have hN := sc_Journey_len.nd
    (dss_one (ds_ret (de_callB call_len cd_len rfl T.B.len (by decide +kernel) (da_cons (de_fld T.fl_Journey_past (de_var 0)) da_nil)))), by
    intro ds G Q h
    obtain ⟨v, rfl, p, ks, n, s, rs, rfl, ⟨dx, hp⟩, q⟩ := in1 h
    conv => whnf
    refine ⟨dx, _, hp, ?_⟩
    conv => whnf
    rw [List.length_map]
    exact ret_id q⟩
def sp_Journey_bool : Sp3 := sp1 fun v G Q _ => Q (.bl true) G

theorem c_Journey_bool (T : Txt K mg aKind aBook aJourney) : MetO P w K mg base 1 aJourney "__bool__" sp_Journey_bool [] := metO T.oc_Journey (T.d_Journey_bool) sc_Journey_bool (by decide) len1 fun f cdv A outer s H E o E3 hr tk hp => ⟨_,
    have hN := sc_Journey_bool.nd
    (dss_one (ds_ret de_bl)), by
    intro ds G Q h
    obtain ⟨v, rfl, q⟩ := in1 h
    conv => whnf
    exact ret_id q⟩
def sp_Journey_take (aKind aBook aJourney : Addr) : Sp3 := sp3 fun v w g G Q _ => ∃ p ks n s rs k, ∃ j : Int, v = .ref p ∧ (∃ dx, G p = some (.obj aJourney dx (jF aKind aBook ks n s rs)) ∧ Q (.int (rideT k n (atS s rs) j)) (gupd G p (.obj aJourney dx (jF aKind aBook ks n s (rs ++ [⟨k.name, atS s rs, j, rideT k n (atS s rs) j⟩]))))) ∧
  Bok ks ∧ k ∈ ks ∧ 1 ≤ atS s rs ∧ atS s rs < j ∧ j ≤ n ∧ stP k.rows n (atS s rs) = true ∧ stP k.rows n j = true ∧ rs.length ≤ 100 ∧ w = .str k.name ∧ g = .int j

theorem cf_Journey_take (T : Txt K mg aKind aBook aJourney) : MetOF P w K mg base 7 aJourney "take" "Journey.take" s_Journey_take ["self", "kind", "goal"] (sp_Journey_take aKind aBook aJourney) := metOF T.oc_Journey (T.d_Journey_take) sc_Journey_take (by decide) len3 fun f cdv A outer s H E o E3 hr tk hp => ⟨_,
    have hN := sc_Journey_take.nd
    (dss_cons (ds_par 3 4 rfl hN (da_cons (de_meth (c_Book_kind_of T) hr tk (de_fld T.fl_Journey_book (de_var 0)) (da_cons (de_var 1) da_nil)) (da_cons (de_propO (c_Journey_station T) hr (de_var 0)) da_nil)))
      (dss_cons (ds_expr (de_call (c_check_station T) hr tk (da_cons (de_var 2) (da_cons (de_add (de_var 4) de_int) (da_cons (de_fld T.fl_Journey_length (de_var 0)) da_nil)))))
      (dss_cons (ds_for rfl hp (di_any (de_tupS (da_cons (de_var 4) (da_cons (de_var 2) da_nil)))) (dg_name 5 hN) (dss_one (ds_if (dt_not (dt_val (de_call (c_stops_there T) hr tk (da_cons (de_var 3) (da_cons (de_fld T.fl_Journey_length (de_var 0)) (da_cons (de_var 5) da_nil)))))) (dss_one ds_never) dss_nil)))
      (dss_cons (ds_set 6 hN (de_call (c_ride_time T) hr tk (da_cons (de_var 3) (da_cons (de_fld T.fl_Journey_length (de_var 0)) (da_cons (de_var 4) (da_cons (de_var 2) da_nil))))))
      (dss_cons (ds_fld T.fl_Journey_past (de_var 0) (de_tupS (da_star (de_fld T.fl_Journey_past (de_var 0)) (da_cons (de_tupS (da_cons (de_tupS (da_cons (de_var 1) (da_cons (de_var 4) (da_cons (de_var 2) da_nil)))) (da_cons (de_var 6) da_nil))) da_nil))))
      (dss_one (ds_ret (de_var 6)))))))), by
    intro ds G Q h
    obtain ⟨v, w', g, rfl, p, ks, n, s, rs, k, j, rfl, ⟨dx, hp, q⟩, ok, hk, h1, hj, hn, st1, st2, h100, rfl, rfl⟩ := in3 h
    have small : (1000 : Nat) < sizeLine := by decide
    conv => whnf
    refine ⟨dx, _, hp, ?_⟩
    conv => whnf
    refine ⟨rfl, ks, k, hk, ok.nd, rfl, rfl, ?_⟩
    conv => whnf
    refine ⟨⟨dx, _, hp⟩, p, ks, n, s, rs, rfl, ⟨dx, hp⟩, ?_⟩
    conv => whnf
    refine ⟨dx, _, hp, ?_⟩
    conv => whnf
    refine ⟨j, _, n, by omega, hn, rfl, rfl, rfl, ?_⟩
    conv => whnf
    refine ⟨Nat.le_trans (Nat.le_of_ble_eq_true rfl : _ ≤ 100) (by decide), ?_⟩; conv => whnf
    rw [forL_cons]
    conv => whnf
    refine ⟨dx, _, hp, ?_⟩
    conv => whnf
    refine ⟨k, n, atS s rs, ok.ok k hk, rfl, rfl, rfl, ?_⟩
    conv => whnf
    refine br_true st1 ?_
    conv => whnf
    rw [forL_cons]
    conv => whnf
    refine ⟨dx, _, hp, ?_⟩
    conv => whnf
    refine ⟨k, n, j, ok.ok k hk, rfl, rfl, rfl, ?_⟩
    conv => whnf
    refine br_true st2 ?_
    conv => whnf
    rw [forL_nil]
    conv => whnf
    refine ⟨dx, _, hp, ?_⟩
    conv => whnf
    refine ⟨k, n, atS s rs, j, ok.ok k hk, h1, hj, hn, rfl, rfl, rfl, rfl, ?_⟩
    conv => whnf
    refine ⟨dx, _, hp, ?_⟩
    conv => whnf
    refine ⟨Nat.le_trans (Nat.le_of_ble_eq_true rfl : _ ≤ 100) (by decide), ?_⟩; conv => whnf
    refine ⟨Nat.le_trans (Nat.le_of_ble_eq_true rfl : _ ≤ 100) (by decide), ?_⟩; conv => whnf
    refine ⟨by simp; omega, ?_⟩
    conv => whnf
    refine ⟨dx, _, hp, by show (4 : Nat) < 1000; decide, ?_⟩
    conv => whnf
    have eJ : jF aKind aBook ks n s (rs ++ [⟨k.name, atS s rs, j, rideT k n (atS s rs) j⟩]) = putD3 "past" (.tup (rs.map rdD ++ [D.tup [.tup [.str k.name, .int (atS s rs), .int j], .int (rideT k n (atS s rs) j)]])) (jF aKind aBook ks n s rs) := by
      unfold jF
      rw [List.map_append]
      rfl
    rw [eJ] at q
    exact ret_id q⟩
theorem c_Journey_take (T : Txt K mg aKind aBook aJourney) : MetO P w K mg base 7 aJourney "take" (sp_Journey_take aKind aBook aJourney) [] := (cf_Journey_take T).met
end TS
set_option Elab.async false
set_option linter.all false
set_option maxRecDepth 100000
set_option maxHeartbeats 4000000
namespace TS
open PySem PySem.Spec PyProof.Rows L2 L3
variable {P : Program} {w : World} {K : PySem.W.Frag} {mg : Str → Option Value} {base : Heap} {aKind aBook aJourney : Addr}
def sp_law_ride_time : Sp3 := sp4 fun v l a b G Q _ => ∃ ks k, ∃ n i j : Int, Bok ks ∧ k ∈ ks ∧ 1 ≤ i ∧ i < j ∧ j ≤ n ∧ v = .tup (kdD k) ∧ l = .int n ∧ a = .int i ∧ b = .int j ∧ Q (.int (rideT k n i j)) G

theorem c_law_ride_time (T : Txt K mg aKind aBook aJourney) : Cal3 P w K mg base 4 "_law_ride_time" sp_law_ride_time [] := cal3 (T.d_law_ride_time) sc_law_ride_time (by decide) len4 fun f cdv A outer s H E o E3 hr tk hp => ⟨_,
    have hN := sc_law_ride_time.nd
    (dss_one (ds_ret (de_add (de_add (de_ix (de_var 0) de_int) (de_mul (de_ix (de_var 0) de_int) (de_sub (de_var 3) (de_var 2)))) (de_mul (de_ix (de_var 0) de_int) (de_call (c_law_count T) hr tk (da_cons (de_ix (de_var 0) de_int) (da_cons (de_var 1) (da_cons (de_add (de_var 2) de_int) (da_cons (de_sub (de_var 3) de_int) da_nil))))))))), by
    intro ds G Q h
    obtain ⟨v, l, a, b, rfl, ks, k, n, i, j, bok, hk, i1, ij, jn, rfl, rfl, rfl, rfl, q⟩ := in4 h
    have ok := bok.ok k hk
    have c1 := ok.pa
    have c2 := ok.ha
    have c3 := ok.wa
    have hP := per_pos bok.ok
    have hS : perOf ks ≤ 6 := by
      have := bok.pr ks.length
      rwa [List.take_of_length_le (Nat.le_succ _)] at this
    conv => whnf
    refine ⟨.inl ⟨by omega, by omega⟩, ?_⟩
    conv => whnf
    refine ⟨k.rows, perOf ks, n, i + 1, j - 1, ok.rw, ok.r6, hP, hS, fun r hr m hm => every_dvd hk hr hm, by omega, by omega, by omega, rfl, rfl, rfl, rfl, ?_⟩
    conv => whnf
    refine ⟨.inl ⟨by omega, by omega⟩, ?_⟩
    conv => whnf
    exact ret_id q⟩
def sp_law_near : Sp3 := sp2 fun v m G Q _ => ∃ p, ∃ n : Int, v = .ref p ∧ m = .int n ∧ 2 ≤ n ∧ PoolG G p ∧ ∀ i : Int, 1 ≤ i → i ≤ n → Q (.int i) G

theorem c_law_near (T : Txt K mg aKind aBook aJourney) : Cal3 P w K mg base 3 "_law_near" sp_law_near [] := cal3 (T.d_law_near) sc_law_near (by decide) len2 fun f cdv A outer s H E o E3 hr tk hp => ⟨_,
    have hN := sc_law_near.nd
    (dss_cons (ds_par 2 3 rfl hN (da_cons (de_call (c_law_draw T) hr tk (da_cons (de_var 0) (da_cons de_int da_nil))) (da_cons (de_mod (de_callTy call_intA cd_int rfl T.B.int (by decide +kernel) (da_cons (de_call (c_law_draw T) hr tk (da_cons (de_var 0) (da_cons de_int da_nil))) da_nil)) (de_var 1)) da_nil)))
      (dss_cons (ds_if (dt_cmp (op_eqA hr) dc_eq (de_var 2) de_int (nomark _)) (dss_one (ds_ret (de_sub (de_var 1) (de_var 3)))) dss_nil)
      (dss_one (ds_ret (de_if (dt_cmp op_lt dc_lt (de_var 2) de_int (nomark _)) (de_add de_int (de_var 3)) (de_add de_int (de_mod (de_callTy call_intA cd_int rfl T.B.int (by decide +kernel) (da_cons (de_call (c_law_great T) hr tk (da_cons (de_var 0) da_nil)) da_nil)) (de_var 1)))))))), by
    intro ds G Q h
    obtain ⟨v, m, rfl, p, n, rfl, rfl, n2, pg, q⟩ := in2 h
    have n0 : (0 : Int) < n := by omega
    conv => whnf
    refine ⟨p, 4, rfl, rfl, pg, by decide, by decide, fun w hw => ?_⟩
    conv => whnf
    refine ⟨p, 8, rfl, rfl, pg, by decide, by decide, fun t ht => ?_⟩
    have t1 := Int.emod_nonneg (t : Int) (show n ≠ 0 by omega)
    have t2 := Int.emod_lt_of_pos (t : Int) n0
    conv => whnf
    refine ⟨n0, ?_⟩
    conv => whnf
    refine br_cases (fun e1 => ?_) (fun e1 => ?_)
    · conv => whnf
      exact ret_id (q _ (by omega) (by omega))
    · conv => whnf
      refine br_cases (fun e2 => ?_) (fun e2 => ?_)
      · conv => whnf
        exact ret_id (q _ (by omega) (by omega))
      · conv => whnf
        refine ⟨p, rfl, pg, fun g hg => ?_⟩
        have h1 := Int.emod_nonneg (g : Int) (show n ≠ 0 by omega)
        have h2 := Int.emod_lt_of_pos (g : Int) n0
        conv => whnf
        refine ⟨n0, ?_⟩
        exact ret_id (q _ (by omega) (by omega))⟩
def bigN : Int := 8 + 1000 ^ 12
def sp_law_stage : Sp3 := sp2 fun v m G Q _ => ∃ p, ∃ l : Nat, v = .ref p ∧ m = .int (l : Nat) ∧ 1 ≤ l ∧ l ≤ 4 ∧ PoolG G p ∧ ∀ ks, ∀ n i : Int, Bok ks → 2 ≤ n → n ≤ bigN → 1 ≤ i → i ≤ n → Q (.lst [schD ks, .int n, .int i]) G

theorem c_law_stage (T : Txt K mg aKind aBook aJourney) : Cal3 P w K mg base 6 "_law_stage" sp_law_stage [] := cal3 (T.d_law_stage) sc_law_stage (by decide) len2 fun f cdv A outer s H E o E3 hr tk hp => ⟨_,
    have hN := sc_law_stage.nd
    (dss_cons (ds_par 2 3 rfl hN (da_cons (de_call (c_law_scheme T) hr tk (da_cons (de_var 0) (da_cons (de_var 1) da_nil))) (da_cons (de_call (c_law_draw T) hr tk (da_cons (de_var 0) (da_cons de_int da_nil))) da_nil)))
      (dss_cons (ds_set 4 hN (de_if (dt_cmp op_lt dc_lt (de_var 3) de_int (nomark _)) (de_add de_int (de_call (c_law_draw T) hr tk (da_cons (de_var 0) (da_cons de_int da_nil)))) (de_add de_int (de_call (c_law_great T) hr tk (da_cons (de_var 0) da_nil)))))
      (dss_one (ds_ret (de_lstS (da_cons (de_var 2) (da_cons (de_var 4) (da_cons (de_call (c_law_near T) hr tk (da_cons (de_var 0) (da_cons (de_var 4) da_nil))) da_nil)))))))), by
    intro ds G Q h
    obtain ⟨v, m, rfl, p, l, rfl, rfl, l1, l4, pg, q⟩ := in2 h
    conv => whnf
    refine ⟨p, l, rfl, rfl, l1, l4, pg, fun ks ok _ => ?_⟩
    conv => whnf
    refine ⟨p, 3, rfl, rfl, pg, by decide, by decide, fun w hw => ?_⟩
    conv => whnf
    refine br_cases (fun e1 => ?_) (fun e1 => ?_)
    · conv => whnf
      refine ⟨p, 15, rfl, rfl, pg, by decide, by decide, fun t ht => ?_⟩
      conv => whnf
      have nb : (2 : Int) + (t : Nat) ≤ bigN := by
        have : (100 : Int) ≤ bigN := by decide +kernel
        omega
      refine ⟨p, 2 + (t : Nat), rfl, rfl, by omega, pg, fun i i1 i2 => ?_⟩
      conv => whnf
      refine ⟨Nat.le_trans (Nat.le_of_ble_eq_true rfl : _ ≤ 100) (by decide), ?_⟩; conv => whnf
      exact ret_id (q ks _ i ok (by omega) nb i1 i2)
    · conv => whnf
      refine ⟨p, rfl, pg, fun g hg => ?_⟩
      conv => whnf
      have nb : (8 : Int) + (g : Nat) ≤ bigN := by
        have h1 : ((g : Nat) : Int) < ((1000 ^ 12 : Nat) : Int) := Int.ofNat_lt.mpr hg
        have h2 : ((1000 ^ 12 : Nat) : Int) = 1000 ^ 12 := by decide +kernel
        have h3 : bigN = 8 + 1000 ^ 12 := rfl
        omega
      refine ⟨p, 8 + (g : Nat), rfl, rfl, by omega, pg, fun i i1 i2 => ?_⟩
      conv => whnf
      refine ⟨Nat.le_trans (Nat.le_of_ble_eq_true rfl : _ ≤ 100) (by decide), ?_⟩; conv => whnf
      exact ret_id (q ks _ i ok (by omega) nb i1 i2)⟩
def kdP (k : Kd) : PyData := .tuple [.str k.name, .int (k.pace : Nat), .int (k.halt : Nat), .int (k.wait : Nat), .tuple (k.rows.map fun r => .str (rowText r))]
theorem row_can : ∀ r ∈ allRows, (PyData.str (rowText r)).canLay0 = true := by decide +kernel
theorem name_can {x : Str} (h : isName x = true) : (PyData.str x).canLay0 = true := by
  obtain ⟨⟨l⟩⟩ := x
  cases l with
  | nil => cases h
  | cons c cs =>
    have h : (decide (cs.length < 8) && (_ && (c :: cs).all fun d => decide (d ∈ LETS.cps.toList) || decide (d ∈ DIGS.cps.toList))) = true := h
    rw [Bool.and_eq_true, Bool.and_eq_true] at h
    have lets : ∀ d ∈ LETS.cps.toList ++ DIGS.cps.toList, d < 1000 := by decide +kernel
    show PySem.PyData.strOk ⟨⟨c :: cs⟩⟩ = true
    unfold PySem.PyData.strOk
    rw [← Array.all_toList]
    refine List.all_eq_true.mpr fun d hd => decide_eq_true ?_
    have h1 := List.all_eq_true.mp h.2.2 d hd
    rw [Bool.or_eq_true] at h1
    have := lets d (List.mem_append.mpr (h1.imp of_decide_eq_true of_decide_eq_true))
    omega
theorem kd_data (k : Kd) : toData (.tup (kdD k)) = some (kdP k) := by
  have e : toDataL (k.rows.map rowD) = some (k.rows.map fun r => PyData.str (rowText r)) := toDataL_map rowD (fun r => PyData.str (rowText r)) (fun _ => rfl) _
  refine toD_tup ?_
  unfold kdD
  simp only [toDataL, toData, e, Option.map_some]
theorem kd_can {k : Kd} (ok : Kok k) : (kdP k).canLay0 = true ∧ (kdP k).depth ≤ 60 := by
  have z := dall_le (n := 5) (ps := [.str k.name, .int (k.pace : Nat), .int (k.halt : Nat), .int (k.wait : Nat), .tuple (k.rows.map fun r => .str (rowText r))]) fun p hp => by
    simp only [List.mem_cons, List.not_mem_nil, or_false] at hp
    rcases hp with rfl | rfl | rfl | rfl | rfl
    · exact ⟨name_can ok.nm, Nat.zero_le _⟩
    · exact ⟨rfl, Nat.zero_le _⟩
    · exact ⟨rfl, Nat.zero_le _⟩
    · exact ⟨rfl, Nat.zero_le _⟩
    · obtain ⟨a, b⟩ := dall_le (n := 0) (ps := k.rows.map fun r => PyData.str (rowText r)) fun q hq => by
        obtain ⟨r, hr, rfl⟩ := List.mem_map.mp hq
        exact ⟨row_can r (ok.rw r hr), Nat.le_refl _⟩
      exact ⟨a, by unfold PyData.depth; omega⟩
  refine ⟨z.1, ?_⟩
  unfold kdP PyData.depth
  have := z.2
  omega
theorem kds_data (bs : List Kd) : toData (.lst (bs.map fun k => D.tup (kdD k))) = some (.list (bs.map kdP)) := toD_lst (toDataL_map (fun k : Kd => D.tup (kdD k)) kdP kd_data bs)
theorem kds_shape {bs : List Kd} (ok : ∀ k ∈ bs, Kok k) : SeqAt.shaped (.list (bs.map kdP)) = true := sh_list fun p hp => by
  obtain ⟨k, hk, rfl⟩ := List.mem_map.mp hp
  exact kd_can (ok k hk)
def sp_law_some_ride : Sp3 := sp4 fun v s m z G Q _ => ∃ p ks, ∃ n i : Int, v = .ref p ∧ s = schD ks ∧ m = .int n ∧ z = .int i ∧ Bok ks ∧ 1 ≤ i ∧ i ≤ n ∧ PoolG G p ∧ Q .non G ∧ ∀ k ∈ ks, ∀ j : Int, i < j → j ≤ n → stP k.rows n i = true → stP k.rows n j = true → Q (.tup [.tup (kdD k), .int j]) G

theorem c_law_some_ride (T : Txt K mg aKind aBook aJourney) : Cal3 P w K mg base 3 "_law_some_ride" sp_law_some_ride [] := cal3 (T.d_law_some_ride) sc_law_some_ride (by decide) len4 fun f cdv A outer s H E o E3 hr tk hp => ⟨_,
    have hN := sc_law_some_ride.nd
    (dss_cons (ds_setLc 4 [("_law_row", 5)] rfl hN (tgt_name (i := 5) (by decide)) (di_any (de_var 1)) (blkOk_by (N := N_law_some_ride) (sc := (defScope s_law_some_ride)) (own := [("_law_row", 5)]) (by decide +kernel)) (fun _ _ _ _ _ => (pg_name (i := 5) hN rfl (by first | exact Or.inl rfl | exact Or.inr rfl))) (fun _ _ _ _ _ => (dts_one (dt_val (de_call (c_law_calls T) hr takesN (da_cons (de_ix (de_var 5) de_int) (da_cons (de_var 2) (da_cons (de_var 3) da_nil))))))) (fun _ _ _ _ _ => (de_var 5)))
      (dss_cons (ds_if (dt_bool (dw_or (dt_cmp (op_eqA hr) dc_eq (de_var 4) (de_lstS da_nil) (nomark _)) (dw_or1 (dt_cmp (op_eqA hr) dc_eq (de_var 3) (de_var 2) (nomark _))))) (dss_one (ds_ret de_non)) dss_nil)
      (dss_cons (ds_asg (de_tupS (da_cons (de_call (c_law_pick T) hr tk (da_cons (de_var 0) (da_cons (de_var 4) da_nil))) (da_cons (de_call (c_law_draw T) hr tk (da_cons (de_var 0) (da_cons de_int da_nil))) (da_cons (de_call (c_law_draw T) hr tk (da_cons (de_var 0) (da_cons de_int da_nil))) da_nil)))) (dg_tl (n := 3) rfl (dgs_cons (dg_name 5 hN) (dgs_cons (dg_name 6 hN) (dgs_cons (dg_name 7 hN) dgs_nil)))))
      (dss_cons (ds_if (dt_cmp (op_eqA hr) dc_eq (de_var 6) de_int (nomark _)) (dss_one (ds_set 7 hN (de_call (c_law_great T) hr tk (da_cons (de_var 0) da_nil)))) dss_nil)
      (dss_cons (ds_set 8 hN (de_if (dt_cmp (op_eqA hr) dc_eq (de_var 6) de_int (nomark _)) (de_sub (de_var 2) (de_mod (de_callTy call_intA cd_int rfl T.B.int (by decide +kernel) (da_cons (de_var 7) da_nil)) (de_sub (de_var 2) (de_var 3)))) (de_add (de_add (de_var 3) de_int) (de_mod (de_callTy call_intA cd_int rfl T.B.int (by decide +kernel) (da_cons (de_var 7) da_nil)) (de_sub (de_var 2) (de_var 3))))))
      (dss_cons (ds_par 9 10 rfl hN (da_cons (de_callB (call_max2 rfl) cd_max2 rfl T.B.max (by decide +kernel) (da_cons (de_add (de_var 3) de_int) (da_cons (de_sub (de_var 8) de_int) da_nil))) (da_cons (de_callB (call_min2 rfl) cd_min2 rfl T.B.min (by decide +kernel) (da_cons (de_var 2) (da_cons (de_add (de_var 8) de_int) da_nil))) da_nil)))
      (dss_cons (ds_setLc 11 [("_law_place", 12)] rfl hN (tgt_name (i := 12) (by decide)) (di_rangeA (de_var 9) (de_add (de_var 10) de_int) T.B.range) (blkOk_by (N := N_law_some_ride) (sc := (defScope s_law_some_ride)) (own := [("_law_place", 12)]) (by decide +kernel)) (fun _ _ _ _ _ => (pg_name (i := 12) hN rfl (by first | exact Or.inl rfl | exact Or.inr rfl))) (fun _ _ _ _ _ => (dts_one (dt_val (de_call (c_law_calls T) hr takesN (da_cons (de_ix (de_var 5) de_int) (da_cons (de_var 2) (da_cons (de_var 12) da_nil))))))) (fun _ _ _ _ _ => (de_var 12)))
      (dss_one (ds_ret (de_if (dt_cmp (op_eqA hr) dc_eq (de_var 11) (de_lstS da_nil) (nomark _)) de_non (de_tupS (da_cons (de_var 5) (da_cons (de_call (c_law_pick T) hr tk (da_cons (de_var 0) (da_cons (de_var 11) da_nil))) da_nil))))))))))))), by
    intro ds G Q h
    obtain ⟨v, s', m, z, rfl, p, ks, n, i, rfl, rfl, rfl, rfl, ok, i1, jn, pg, q0, q1⟩ := in4 h
    have small : (1000 : Nat) < sizeLine := by decide
    have l4 := ok.l4
    conv => whnf
    refine ⟨by simp; omega, ?_⟩
    refine swp_go _ rfl ?_
    refine lc_filter (e := fun k : Kd => D.tup (kdD k)) (fun k : Kd => stP k.rows n i) (fun k : Kd => D.tup (kdD k)) ks (fun k hk K1 K2 k1 k2 => ?_) ?_
    · conv => whnf
      refine ⟨k.rows, n, i, (ok.ok k hk).rw, rfl, rfl, rfl, ?_⟩
      conv => whnf
      refine br_cases (fun e1 => ?_) (fun e1 => ?_)
      · exact k1 e1
      · exact k2 e1
    have hB : ∀ k ∈ ks.filter (fun k : Kd => stP k.rows n i), k ∈ ks ∧ stP k.rows n i = true := fun k hk => List.mem_filter.mp hk
    have lB : (ks.filter (fun k : Kd => stP k.rows n i)).length ≤ 4 := Nat.le_trans (List.length_filter_le _ _) l4
    generalize ks.filter (fun k : Kd => stP k.rows n i) = bs at *
    conv => whnf
    refine ⟨Nat.le_trans (Nat.le_of_ble_eq_true rfl : _ ≤ 100) (by decide), ?_⟩; conv => whnf
    refine ⟨_, _, kds_data bs, rfl, kds_shape fun k hk => ok.ok k (hB k hk).1, rfl, ?_⟩
    rw [eqv_nil]
    rcases bs with _ | ⟨b0, bs⟩
    · conv => whnf
      exact ret_id q0
    conv => whnf
    refine br_cases (fun e1 => ?_) (fun e1 => ?_)
    · conv => whnf
      exact ret_id q0
    have e1 := of_decide_eq_false e1
    conv => whnf
    refine ⟨p, _, rfl, rfl, pg, by simp, by simp at lB ⊢; omega, fun d hd => ?_⟩
    obtain ⟨k, hk, rfl⟩ := List.mem_map.mp hd
    obtain ⟨hk1, hk2⟩ := hB k hk
    conv => whnf
    refine ⟨p, 5, rfl, rfl, pg, by decide, by decide, fun w hw => ?_⟩
    conv => whnf
    refine ⟨p, 7, rfl, rfl, pg, by decide, by decide, fun t ht => ?_⟩
    conv => whnf
    refine ⟨Nat.le_trans (Nat.le_of_ble_eq_true rfl : _ ≤ 100) (by decide), ?_⟩; conv => whnf
    have ine : i < n := by omega
    refine br_cases (fun e2 => ?_) (fun e2 => ?_)
    · conv => whnf
      refine ⟨p, rfl, pg, fun g hg => ?_⟩
      have m1 := Int.emod_nonneg ((g : Nat) : Int) (show n - i ≠ 0 by omega)
      have m2 := Int.emod_lt_of_pos ((g : Nat) : Int) (show 0 < n - i by omega)
      conv => whnf
      refine br_cases (fun e3 => ?_) (fun e3 => ?_)
      · conv => whnf
        refine ⟨by omega, ?_⟩
        have hbs : ∃ b : Int, n - ((g : Nat) : Int) % (n - i) = b ∧ i < b ∧ b ≤ n := ⟨_, rfl, by omega, by omega⟩
        obtain ⟨b, eb, b1, b2⟩ := hbs
        have hlo : ∃ lo : Int, (if b - 8 > i + 1 then b - 8 else i + 1) = lo ∧ i + 1 ≤ lo ∧ b - 8 ≤ lo := by
          by_cases hc : b - 8 > i + 1
          · exact ⟨_, if_pos hc, by omega, by omega⟩
          · exact ⟨_, if_neg hc, by omega, by omega⟩
        have hhi : ∃ hi : Int, (if b + 8 < n then b + 8 else n) = hi ∧ hi ≤ n ∧ hi ≤ b + 8 := by
          by_cases hc : b + 8 < n
          · exact ⟨_, if_pos hc, by omega, by omega⟩
          · exact ⟨_, if_neg hc, by omega, by omega⟩
        obtain ⟨lo, elo, lo1, lo2⟩ := hlo
        obtain ⟨hi, ehi, hi1, hi2⟩ := hhi
        conv => whnf
        rw [eb, elo, ehi]
        refine ⟨by simp [intsD]; omega, ?_⟩
        refine swp_go _ rfl ?_
        refine lc_filter (e := fun s : Nat => D.int (lo + (s : Nat))) (fun s : Nat => stP k.rows n (lo + (s : Nat))) (fun s : Nat => D.int (lo + (s : Nat))) (List.range (hi + 1 - lo).toNat) (fun s _ K1 K2 k1 k2 => ?_) ?_
        · conv => whnf
          refine ⟨k.rows, n, lo + (s : Nat), (ok.ok k hk1).rw, rfl, rfl, rfl, ?_⟩
          conv => whnf
          refine br_cases (fun e1 => ?_) (fun e1 => ?_)
          · exact k1 e1
          · exact k2 e1
        have hP : ∀ s ∈ (List.range (hi + 1 - lo).toNat).filter (fun s : Nat => stP k.rows n (lo + (s : Nat))), i < lo + (s : Nat) ∧ lo + (s : Nat) ≤ n ∧ stP k.rows n (lo + (s : Nat)) = true := fun s hs => by
          obtain ⟨h1, h2⟩ := List.mem_filter.mp hs
          have h1 := List.mem_range.mp h1
          exact ⟨by omega, by omega, h2⟩
        have lP : ((List.range (hi + 1 - lo).toNat).filter (fun s : Nat => stP k.rows n (lo + (s : Nat)))).length ≤ 100 := Nat.le_trans (List.length_filter_le _ _) (by rw [List.length_range]; omega)
        generalize (List.range (hi + 1 - lo).toNat).filter (fun s : Nat => stP k.rows n (lo + (s : Nat))) = sp at *
        conv => whnf
        refine ⟨Nat.le_trans (Nat.le_of_ble_eq_true rfl : _ ≤ 100) (by decide), ?_⟩; conv => whnf
        refine ⟨_, _, toD_lst (toDataL_map (fun s : Nat => D.int (lo + (s : Nat))) (fun s : Nat => PyData.int (lo + (s : Nat))) (fun _ => rfl) _), rfl, sh_list (fun p hp => ?_), rfl, ?_⟩
        · obtain ⟨x, _, rfl⟩ := List.mem_map.mp hp
          exact ⟨rfl, Nat.zero_le _⟩
        rw [eqv_nil]
        rcases sp with _ | ⟨x0, sp⟩
        · conv => whnf
          exact ret_id q0
        conv => whnf
        refine ⟨p, _, rfl, rfl, pg, by simp, by simp at lP ⊢; omega, fun d hd => ?_⟩
        obtain ⟨x, hx, rfl⟩ := List.mem_map.mp hd
        obtain ⟨x1, x2, x3⟩ := hP x hx
        conv => whnf
        refine ⟨Nat.le_trans (Nat.le_of_ble_eq_true rfl : _ ≤ 100) (by decide), ?_⟩; conv => whnf
        exact ret_id (q1 k hk1 _ x1 x2 hk2 x3)
      · conv => whnf
        refine ⟨by omega, ?_⟩
        have hbs : ∃ b : Int, i + 1 + ((g : Nat) : Int) % (n - i) = b ∧ i < b ∧ b ≤ n := ⟨_, rfl, by omega, by omega⟩
        obtain ⟨b, eb, b1, b2⟩ := hbs
        have hlo : ∃ lo : Int, (if b - 8 > i + 1 then b - 8 else i + 1) = lo ∧ i + 1 ≤ lo ∧ b - 8 ≤ lo := by
          by_cases hc : b - 8 > i + 1
          · exact ⟨_, if_pos hc, by omega, by omega⟩
          · exact ⟨_, if_neg hc, by omega, by omega⟩
        have hhi : ∃ hi : Int, (if b + 8 < n then b + 8 else n) = hi ∧ hi ≤ n ∧ hi ≤ b + 8 := by
          by_cases hc : b + 8 < n
          · exact ⟨_, if_pos hc, by omega, by omega⟩
          · exact ⟨_, if_neg hc, by omega, by omega⟩
        obtain ⟨lo, elo, lo1, lo2⟩ := hlo
        obtain ⟨hi, ehi, hi1, hi2⟩ := hhi
        conv => whnf
        rw [eb, elo, ehi]
        refine ⟨by simp [intsD]; omega, ?_⟩
        refine swp_go _ rfl ?_
        refine lc_filter (e := fun s : Nat => D.int (lo + (s : Nat))) (fun s : Nat => stP k.rows n (lo + (s : Nat))) (fun s : Nat => D.int (lo + (s : Nat))) (List.range (hi + 1 - lo).toNat) (fun s _ K1 K2 k1 k2 => ?_) ?_
        · conv => whnf
          refine ⟨k.rows, n, lo + (s : Nat), (ok.ok k hk1).rw, rfl, rfl, rfl, ?_⟩
          conv => whnf
          refine br_cases (fun e1 => ?_) (fun e1 => ?_)
          · exact k1 e1
          · exact k2 e1
        have hP : ∀ s ∈ (List.range (hi + 1 - lo).toNat).filter (fun s : Nat => stP k.rows n (lo + (s : Nat))), i < lo + (s : Nat) ∧ lo + (s : Nat) ≤ n ∧ stP k.rows n (lo + (s : Nat)) = true := fun s hs => by
          obtain ⟨h1, h2⟩ := List.mem_filter.mp hs
          have h1 := List.mem_range.mp h1
          exact ⟨by omega, by omega, h2⟩
        have lP : ((List.range (hi + 1 - lo).toNat).filter (fun s : Nat => stP k.rows n (lo + (s : Nat)))).length ≤ 100 := Nat.le_trans (List.length_filter_le _ _) (by rw [List.length_range]; omega)
        generalize (List.range (hi + 1 - lo).toNat).filter (fun s : Nat => stP k.rows n (lo + (s : Nat))) = sp at *
        conv => whnf
        refine ⟨Nat.le_trans (Nat.le_of_ble_eq_true rfl : _ ≤ 100) (by decide), ?_⟩; conv => whnf
        refine ⟨_, _, toD_lst (toDataL_map (fun s : Nat => D.int (lo + (s : Nat))) (fun s : Nat => PyData.int (lo + (s : Nat))) (fun _ => rfl) _), rfl, sh_list (fun p hp => ?_), rfl, ?_⟩
        · obtain ⟨x, _, rfl⟩ := List.mem_map.mp hp
          exact ⟨rfl, Nat.zero_le _⟩
        rw [eqv_nil]
        rcases sp with _ | ⟨x0, sp⟩
        · conv => whnf
          exact ret_id q0
        conv => whnf
        refine ⟨p, _, rfl, rfl, pg, by simp, by simp at lP ⊢; omega, fun d hd => ?_⟩
        obtain ⟨x, hx, rfl⟩ := List.mem_map.mp hd
        obtain ⟨x1, x2, x3⟩ := hP x hx
        conv => whnf
        refine ⟨Nat.le_trans (Nat.le_of_ble_eq_true rfl : _ ≤ 100) (by decide), ?_⟩; conv => whnf
        exact ret_id (q1 k hk1 _ x1 x2 hk2 x3)
    · conv => whnf
      have m1 := Int.emod_nonneg ((t : Nat) : Int) (show n - i ≠ 0 by omega)
      have m2 := Int.emod_lt_of_pos ((t : Nat) : Int) (show 0 < n - i by omega)
      conv => whnf
      refine br_cases (fun e3 => ?_) (fun e3 => ?_)
      · conv => whnf
        refine ⟨by omega, ?_⟩
        have hbs : ∃ b : Int, n - ((t : Nat) : Int) % (n - i) = b ∧ i < b ∧ b ≤ n := ⟨_, rfl, by omega, by omega⟩
        obtain ⟨b, eb, b1, b2⟩ := hbs
        have hlo : ∃ lo : Int, (if b - 8 > i + 1 then b - 8 else i + 1) = lo ∧ i + 1 ≤ lo ∧ b - 8 ≤ lo := by
          by_cases hc : b - 8 > i + 1
          · exact ⟨_, if_pos hc, by omega, by omega⟩
          · exact ⟨_, if_neg hc, by omega, by omega⟩
        have hhi : ∃ hi : Int, (if b + 8 < n then b + 8 else n) = hi ∧ hi ≤ n ∧ hi ≤ b + 8 := by
          by_cases hc : b + 8 < n
          · exact ⟨_, if_pos hc, by omega, by omega⟩
          · exact ⟨_, if_neg hc, by omega, by omega⟩
        obtain ⟨lo, elo, lo1, lo2⟩ := hlo
        obtain ⟨hi, ehi, hi1, hi2⟩ := hhi
        conv => whnf
        rw [eb, elo, ehi]
        refine ⟨by simp [intsD]; omega, ?_⟩
        refine swp_go _ rfl ?_
        refine lc_filter (e := fun s : Nat => D.int (lo + (s : Nat))) (fun s : Nat => stP k.rows n (lo + (s : Nat))) (fun s : Nat => D.int (lo + (s : Nat))) (List.range (hi + 1 - lo).toNat) (fun s _ K1 K2 k1 k2 => ?_) ?_
        · conv => whnf
          refine ⟨k.rows, n, lo + (s : Nat), (ok.ok k hk1).rw, rfl, rfl, rfl, ?_⟩
          conv => whnf
          refine br_cases (fun e1 => ?_) (fun e1 => ?_)
          · exact k1 e1
          · exact k2 e1
        have hP : ∀ s ∈ (List.range (hi + 1 - lo).toNat).filter (fun s : Nat => stP k.rows n (lo + (s : Nat))), i < lo + (s : Nat) ∧ lo + (s : Nat) ≤ n ∧ stP k.rows n (lo + (s : Nat)) = true := fun s hs => by
          obtain ⟨h1, h2⟩ := List.mem_filter.mp hs
          have h1 := List.mem_range.mp h1
          exact ⟨by omega, by omega, h2⟩
        have lP : ((List.range (hi + 1 - lo).toNat).filter (fun s : Nat => stP k.rows n (lo + (s : Nat)))).length ≤ 100 := Nat.le_trans (List.length_filter_le _ _) (by rw [List.length_range]; omega)
        generalize (List.range (hi + 1 - lo).toNat).filter (fun s : Nat => stP k.rows n (lo + (s : Nat))) = sp at *
        conv => whnf
        refine ⟨Nat.le_trans (Nat.le_of_ble_eq_true rfl : _ ≤ 100) (by decide), ?_⟩; conv => whnf
        refine ⟨_, _, toD_lst (toDataL_map (fun s : Nat => D.int (lo + (s : Nat))) (fun s : Nat => PyData.int (lo + (s : Nat))) (fun _ => rfl) _), rfl, sh_list (fun p hp => ?_), rfl, ?_⟩
        · obtain ⟨x, _, rfl⟩ := List.mem_map.mp hp
          exact ⟨rfl, Nat.zero_le _⟩
        rw [eqv_nil]
        rcases sp with _ | ⟨x0, sp⟩
        · conv => whnf
          exact ret_id q0
        conv => whnf
        refine ⟨p, _, rfl, rfl, pg, by simp, by simp at lP ⊢; omega, fun d hd => ?_⟩
        obtain ⟨x, hx, rfl⟩ := List.mem_map.mp hd
        obtain ⟨x1, x2, x3⟩ := hP x hx
        conv => whnf
        refine ⟨Nat.le_trans (Nat.le_of_ble_eq_true rfl : _ ≤ 100) (by decide), ?_⟩; conv => whnf
        exact ret_id (q1 k hk1 _ x1 x2 hk2 x3)
      · conv => whnf
        refine ⟨by omega, ?_⟩
        have hbs : ∃ b : Int, i + 1 + ((t : Nat) : Int) % (n - i) = b ∧ i < b ∧ b ≤ n := ⟨_, rfl, by omega, by omega⟩
        obtain ⟨b, eb, b1, b2⟩ := hbs
        have hlo : ∃ lo : Int, (if b - 8 > i + 1 then b - 8 else i + 1) = lo ∧ i + 1 ≤ lo ∧ b - 8 ≤ lo := by
          by_cases hc : b - 8 > i + 1
          · exact ⟨_, if_pos hc, by omega, by omega⟩
          · exact ⟨_, if_neg hc, by omega, by omega⟩
        have hhi : ∃ hi : Int, (if b + 8 < n then b + 8 else n) = hi ∧ hi ≤ n ∧ hi ≤ b + 8 := by
          by_cases hc : b + 8 < n
          · exact ⟨_, if_pos hc, by omega, by omega⟩
          · exact ⟨_, if_neg hc, by omega, by omega⟩
        obtain ⟨lo, elo, lo1, lo2⟩ := hlo
        obtain ⟨hi, ehi, hi1, hi2⟩ := hhi
        conv => whnf
        rw [eb, elo, ehi]
        refine ⟨by simp [intsD]; omega, ?_⟩
        refine swp_go _ rfl ?_
        refine lc_filter (e := fun s : Nat => D.int (lo + (s : Nat))) (fun s : Nat => stP k.rows n (lo + (s : Nat))) (fun s : Nat => D.int (lo + (s : Nat))) (List.range (hi + 1 - lo).toNat) (fun s _ K1 K2 k1 k2 => ?_) ?_
        · conv => whnf
          refine ⟨k.rows, n, lo + (s : Nat), (ok.ok k hk1).rw, rfl, rfl, rfl, ?_⟩
          conv => whnf
          refine br_cases (fun e1 => ?_) (fun e1 => ?_)
          · exact k1 e1
          · exact k2 e1
        have hP : ∀ s ∈ (List.range (hi + 1 - lo).toNat).filter (fun s : Nat => stP k.rows n (lo + (s : Nat))), i < lo + (s : Nat) ∧ lo + (s : Nat) ≤ n ∧ stP k.rows n (lo + (s : Nat)) = true := fun s hs => by
          obtain ⟨h1, h2⟩ := List.mem_filter.mp hs
          have h1 := List.mem_range.mp h1
          exact ⟨by omega, by omega, h2⟩
        have lP : ((List.range (hi + 1 - lo).toNat).filter (fun s : Nat => stP k.rows n (lo + (s : Nat)))).length ≤ 100 := Nat.le_trans (List.length_filter_le _ _) (by rw [List.length_range]; omega)
        generalize (List.range (hi + 1 - lo).toNat).filter (fun s : Nat => stP k.rows n (lo + (s : Nat))) = sp at *
        conv => whnf
        refine ⟨Nat.le_trans (Nat.le_of_ble_eq_true rfl : _ ≤ 100) (by decide), ?_⟩; conv => whnf
        refine ⟨_, _, toD_lst (toDataL_map (fun s : Nat => D.int (lo + (s : Nat))) (fun s : Nat => PyData.int (lo + (s : Nat))) (fun _ => rfl) _), rfl, sh_list (fun p hp => ?_), rfl, ?_⟩
        · obtain ⟨x, _, rfl⟩ := List.mem_map.mp hp
          exact ⟨rfl, Nat.zero_le _⟩
        rw [eqv_nil]
        rcases sp with _ | ⟨x0, sp⟩
        · conv => whnf
          exact ret_id q0
        conv => whnf
        refine ⟨p, _, rfl, rfl, pg, by simp, by simp at lP ⊢; omega, fun d hd => ?_⟩
        obtain ⟨x, hx, rfl⟩ := List.mem_map.mp hd
        obtain ⟨x1, x2, x3⟩ := hP x hx
        conv => whnf
        refine ⟨Nat.le_trans (Nat.le_of_ble_eq_true rfl : _ ≤ 100) (by decide), ?_⟩; conv => whnf
        exact ret_id (q1 k hk1 _ x1 x2 hk2 x3)⟩
end TS
set_option Elab.async false
set_option linter.all false
set_option maxRecDepth 100000
set_option maxHeartbeats 4000000
namespace TS
open PySem PySem.Spec PyProof.Rows L2 L3
variable {P : Program} {w : World} {K : PySem.W.Frag} {mg : Str → Option Value} {base : Heap} {aKind aBook aJourney : Addr}
def mdD (r : Rd) : D := .lst [rideD r, .int r.m]
def mdP (r : Rd) : PyData := .list [.tuple [.str r.w, .int r.i, .int r.j], .int r.m]
structure Rok (r : Rd) : Prop where
  w : isName r.w = true
  i : r.i.natAbs < 2 ^ 190
  j : r.j.natAbs < 2 ^ 190
  m : r.m.natAbs < 2 ^ 190
theorem md_data (r : Rd) : toData (mdD r) = some (mdP r) := rfl
theorem mds_data (rs : List Rd) : toData (.lst (rs.map mdD)) = some (.list (rs.map mdP)) := toD_lst (toDataL_map mdD mdP md_data rs)
theorem md_can {r : Rd} (ok : Rok r) : (mdP r).canLay0 = true ∧ (mdP r).depth ≤ 60 := by
  obtain ⟨a, b⟩ := dall_le (n := 0) (ps := [.str r.w, .int r.i, .int r.j]) fun p hp => by
    simp only [List.mem_cons, List.not_mem_nil, or_false] at hp
    rcases hp with rfl | rfl | rfl
    · exact ⟨name_can ok.w, Nat.le_refl _⟩
    · exact ⟨rfl, Nat.le_refl _⟩
    · exact ⟨rfl, Nat.le_refl _⟩
  obtain ⟨c, d⟩ := dall_le (n := 1) (ps := [.tuple [.str r.w, .int r.i, .int r.j], .int r.m]) fun p hp => by
    simp only [List.mem_cons, List.not_mem_nil, or_false] at hp
    rcases hp with rfl | rfl
    · exact ⟨a, by unfold PyData.depth; omega⟩
    · exact ⟨rfl, Nat.zero_le _⟩
  exact ⟨c, by unfold mdP PyData.depth; omega⟩
theorem mds_shape {rs : List Rd} (ok : ∀ r ∈ rs, Rok r) : SeqAt.shaped (.list (rs.map mdP)) = true := sh_list fun p hp => by
  obtain ⟨r, hr, rfl⟩ := List.mem_map.mp hp
  exact md_can (ok r hr)
def sp_law_here : Sp3 := sp2 fun b m G Q _ => ∃ q s rs, b = .int s ∧ m = .ref q ∧ G q = some (.lst (rs.map mdD)) ∧ (∀ r ∈ rs, Rok r) ∧ Q (.int (atS s rs)) G

theorem c_law_here (T : Txt K mg aKind aBook aJourney) : Cal3 P w K mg base 1 "_law_here" sp_law_here [] := cal3 (T.d_law_here) sc_law_here (by decide) len2 fun f cdv A outer s H E o E3 hr tk hp => ⟨_,
    have hN := sc_law_here.nd
    (dss_one (ds_ret (de_if (dt_cmp (op_neR hr) dc_neR (de_var 1) (de_lstS da_nil) (nomark _)) (de_ix (de_ix (de_ix (de_var 1) (de_neg de_int)) de_int) de_int) (de_var 0)))), by
    intro ds G Q h
    obtain ⟨b, m, rfl, p, s, rs, rfl, rfl, hp, ok, q⟩ := in2 h
    conv => whnf
    refine ⟨Nat.le_trans (Nat.le_of_ble_eq_true rfl : _ ≤ 100) (by decide), ?_⟩; conv => whnf
    refine ⟨_, _, _, hp, mds_data rs, rfl, mds_shape ok, rfl, ?_⟩
    rw [eqv_nil]
    rcases List.eq_nil_or_concat rs with e | ⟨pre, r, e⟩
    · subst e
      conv => whnf
      exact ret_id q
    · rw [List.concat_eq_append] at e
      subst e
      rw [show (List.map mdP (pre ++ [r])).isEmpty = false by simp]
      conv => whnf
      refine ⟨_, hp, ?_⟩
      conv => whnf
      rw [show (List.map mdD (pre ++ [r])).reverse = mdD r :: (List.map mdD pre).reverse by simp]
      conv => whnf
      have e : atS s (pre ++ [r]) = r.j := by unfold atS; rw [List.getLast?_concat]
      rw [e] at q
      exact ret_id q⟩
def sp_law_rode : Sp3 := sp5 fun n m i row j G Q _ => ∃ q rs ks k, ∃ n' i' j' : Int, Bok ks ∧ k ∈ ks ∧ 1 ≤ i' ∧ i' < j' ∧ j' ≤ n' ∧ n = .int n' ∧ m = .ref q ∧ G q = some (.lst (rs.map mdD)) ∧ rs.length ≤ 100 ∧ i = .int i' ∧ row = .tup (kdD k) ∧ j = .int j' ∧ Q (.int (rideT k n' i' j')) (gupd G q (.lst ((rs ++ [⟨k.name, i', j', rideT k n' i' j'⟩]).map mdD)))

theorem c_law_rode (T : Txt K mg aKind aBook aJourney) : Cal3 P w K mg base 5 "_law_rode" sp_law_rode [] := cal3 (T.d_law_rode) sc_law_rode (by decide) len5 fun f cdv A outer s H E o E3 hr tk hp => ⟨_,
    have hN := sc_law_rode.nd
    (dss_cons (ds_set 5 hN (de_call (c_law_ride_time T) hr tk (da_cons (de_var 3) (da_cons (de_var 0) (da_cons (de_var 2) (da_cons (de_var 4) da_nil))))))
      (dss_cons (ds_expr (de_append (de_var 1) (de_lstS (da_cons (de_tupS (da_cons (de_ix (de_var 3) de_int) (da_cons (de_var 2) (da_cons (de_var 4) da_nil)))) (da_cons (de_var 5) da_nil)))))
      (dss_one (ds_ret (de_var 5))))), by
    intro ds G Q h
    obtain ⟨n, m, i, row, j, rfl, p, rs, ks, k, n', i', j', ok, hk, i1, ij, jn, rfl, rfl, hp, h100, rfl, rfl, rfl, q⟩ := in5 h
    have small : (1000 : Nat) < sizeLine := by decide
    conv => whnf
    refine ⟨ks, k, n', i', j', ok, hk, i1, ij, jn, rfl, rfl, rfl, rfl, ?_⟩
    conv => whnf
    refine ⟨⟨_, hp⟩, ?_⟩
    conv => whnf
    refine ⟨Nat.le_trans (Nat.le_of_ble_eq_true rfl : _ ≤ 100) (by decide), ?_⟩; conv => whnf
    refine ⟨Nat.le_trans (Nat.le_of_ble_eq_true rfl : _ ≤ 100) (by decide), ?_⟩; conv => whnf
    refine ⟨_, hp, by simp; omega, ?_⟩
    conv => whnf
    rw [List.map_append] at q
    exact ret_id q⟩
def lookD (s : Int) (rs : List Rd) : D := .lst [.int (atS s rs), .tup (rs.map rideD), .int (rs.map Rd.m).sum, .int (rs.length : Nat), .bl true]
theorem name_ok {x : Str} (h : isName x = true) : okD (.str x) = true := by
  obtain ⟨⟨l⟩⟩ := x
  cases l with
  | nil => cases h
  | cons c cs =>
    have h : (decide (cs.length < 8) && (_ && (c :: cs).all fun d => decide (d ∈ LETS.cps.toList) || decide (d ∈ DIGS.cps.toList))) = true := h
    rw [Bool.and_eq_true, Bool.and_eq_true] at h
    have lets : ∀ d ∈ LETS.cps.toList ++ DIGS.cps.toList, d < 1000 := by decide +kernel
    show (c :: cs).all (fun c => decide (c < 1000)) = true
    refine List.all_eq_true.mpr fun d hd => decide_eq_true ?_
    have h1 := List.all_eq_true.mp h.2.2 d hd
    rw [Bool.or_eq_true] at h1
    exact lets d (List.mem_append.mpr (h1.imp of_decide_eq_true of_decide_eq_true))
theorem int_ok {i : Int} (h : i.natAbs < 2 ^ 199) : okD (.int i) = true := by
  unfold okD
  refine decide_eq_true ?_
  by_cases h0 : i.natAbs = 0
  · rw [h0]
    decide
  · exact (Nat.log2_lt h0).mpr (Nat.lt_of_lt_of_le h (Nat.pow_le_pow_right (by decide) (by decide)))
theorem rides_ok : ∀ {rs : List Rd}, (∀ r ∈ rs, Rok r) → okL (rs.map rideD) = true ∧ wtL (rs.map rideD) ≤ 700 * rs.length ∧ dpL (rs.map rideD) ≤ 1
  | [], _ => ⟨rfl, Nat.le_refl _, Nat.zero_le _⟩
  | r :: rs, h => by
    obtain ⟨a, b, c⟩ := rides_ok (rs := rs) fun x hx => h x (List.mem_cons_of_mem _ hx)
    have ok := h r List.mem_cons_self
    have o1 := name_ok ok.w
    have o2 := int_ok (i := r.i) (Nat.lt_of_lt_of_le ok.i (Nat.pow_le_pow_right (by decide) (by decide)))
    have o3 := int_ok (i := r.j) (Nat.lt_of_lt_of_le ok.j (Nat.pow_le_pow_right (by decide) (by decide)))
    have n8 := name_len ok.w
    refine ⟨?_, ?_, ?_⟩
    · show ((okD (.str r.w) && (okD (.int r.i) && (okD (.int r.j) && true))) && okL (rs.map rideD)) = true
      rw [o1, o2, o3, a]
      rfl
    · show (r.w.length + 1 + (200 + 1 + (200 + 1 + 0))) + 1 + wtL (rs.map rideD) ≤ _
      rw [List.length_cons]
      omega
    · show max (max 0 (max 0 (max 0 0)) + 1) (dpL (rs.map rideD)) ≤ 1
      omega
theorem sum_abs : ∀ {rs : List Rd}, (∀ r ∈ rs, Rok r) → rs.length ≤ 100 → (rs.map Rd.m).sum.natAbs < 2 ^ 199 := by
  have key : ∀ rs : List Rd, (∀ r ∈ rs, Rok r) → (rs.map Rd.m).sum.natAbs ≤ rs.length * 2 ^ 190 := by
    intro rs
    induction rs with
    | nil => exact fun _ => Nat.zero_le _
    | cons r rs ih =>
      intro h
      have h1 := ih fun x hx => h x (List.mem_cons_of_mem _ hx)
      have h2 := (h r List.mem_cons_self).m
      rw [List.map_cons, List.sum_cons, List.length_cons, Nat.succ_mul]
      have := Int.natAbs_add_le r.m (rs.map Rd.m).sum
      omega
  intro rs h h1
  exact Nat.lt_of_le_of_lt (key rs h) (Nat.lt_of_le_of_lt (Nat.mul_le_mul_right _ h1) (by decide))
theorem at_abs {s : Int} {rs : List Rd} (hs : s.natAbs < 2 ^ 190) (ok : ∀ r ∈ rs, Rok r) : (atS s rs).natAbs < 2 ^ 199 := by
  unfold atS
  split
  · rename_i r e
    exact Nat.lt_of_lt_of_le (ok r (List.mem_of_getLast? e)).j (Nat.pow_le_pow_right (by decide) (by decide))
  · exact Nat.lt_of_lt_of_le hs (Nat.pow_le_pow_right (by decide) (by decide))
theorem look_ok {s : Int} {rs : List Rd} (hs : s.natAbs < 2 ^ 190) (ok : ∀ r ∈ rs, Rok r) (h : rs.length ≤ 20) : okD (lookD s rs) = true ∧ wtD (lookD s rs) ≤ 60000 ∧ dpD (lookD s rs) ≤ 60 := by
  obtain ⟨a, b, c⟩ := rides_ok ok
  have o1 := int_ok (at_abs hs ok)
  have o2 := int_ok (sum_abs ok (by omega))
  have o3 := int_ok (i := ((rs.length : Nat) : Int)) (Nat.lt_of_le_of_lt (show ((rs.length : Nat) : Int).natAbs ≤ 20 by omega) (by decide))
  refine ⟨?_, ?_, ?_⟩
  · show (okD (.int (atS s rs)) && (okL (rs.map rideD) && (okD (.int (rs.map Rd.m).sum) && (okD (.int (rs.length : Nat)) && (true && true))))) = true
    rw [o1, a, o2, o3]
    rfl
  · show 200 + 1 + (wtL (rs.map rideD) + 1 + (200 + 1 + (200 + 1 + (0 + 1 + 0)))) ≤ 60000
    omega
  · show max 0 (max (dpL (rs.map rideD) + 1) (max 0 (max 0 (max 0 0)))) + 1 ≤ 60
    omega
def sp_law_journey_due : Sp3 := sp2 fun b m G Q _ => ∃ q s rs, b = .int s ∧ m = .ref q ∧ G q = some (.lst (rs.map mdD)) ∧ s.natAbs < 2 ^ 190 ∧ (∀ r ∈ rs, Rok r) ∧ rs.length ≤ 20 ∧ Q (.str (reprD (lookD s rs))) G

theorem c_law_journey_due (T : Txt K mg aKind aBook aJourney) : Cal3G P w K mg base 1 "_law_journey_due" sp_law_journey_due [] := cal3G (T.d_law_journey_due) sc_law_journey_due (by decide) len2 fun f cdv A outer s H E o E3 hgu hr tk hp => ⟨_,
    have hN := sc_law_journey_due.nd
    (dss_cons (ds_set 2 hN (de_if (dt_cmp (op_neR hr) dc_neR (de_var 1) (de_lstS da_nil) (nomark _)) (de_ix (de_ix (de_ix (de_var 1) (de_neg de_int)) de_int) de_int) (de_var 0)))
      (dss_cons (ds_set 3 hN (de_callTy call_tuple_of cd_tuple rfl T.B.tuple (by decide +kernel) (da_cons (de_lcR [("_law_ride", 4), ("_law_minutes_here", 5)] rfl hN (tgt_tl (n := 2) (tgts_cons (tgt_name (i := 4) (by decide)) (tgts_cons (tgt_name (i := 5) (by decide)) tgts_nil))) (de_var 1) (blkOk_by (N := N_law_journey_due) (sc := (defScope s_law_journey_due)) (own := [("_law_ride", 4), ("_law_minutes_here", 5)]) (by decide +kernel)) (fun _ _ _ _ _ => (pg_tl (n := 2) rfl (pgs_cons (pg_name (i := 4) hN rfl (by first | exact Or.inl rfl | exact Or.inr rfl)) (pgs_cons (pg_name (i := 5) hN rfl (by first | exact Or.inl rfl | exact Or.inr rfl)) pgs_nil)))) (fun _ _ _ _ _ => dts_nil) (fun _ _ _ _ _ => (de_var 4))) da_nil)))
      (dss_one (ds_ret (de_callB (call_reprX T.sys hgu hr) cd_reprX rfl T.B.repr (by decide +kernel) (da_cons (de_lstS (da_cons (de_var 2) (da_cons (de_var 3) (da_cons (de_callB (call_sumB rfl) cd_low rfl T.B.sum (by decide +kernel) (da_cons (de_lcR [("_law_ride", 4), ("_law_minutes_here", 5)] rfl hN (tgt_tl (n := 2) (tgts_cons (tgt_name (i := 4) (by decide)) (tgts_cons (tgt_name (i := 5) (by decide)) tgts_nil))) (de_var 1) (blkOk_by (N := N_law_journey_due) (sc := (defScope s_law_journey_due)) (own := [("_law_ride", 4), ("_law_minutes_here", 5)]) (by decide +kernel)) (fun _ _ _ _ _ => (pg_tl (n := 2) rfl (pgs_cons (pg_name (i := 4) hN rfl (by first | exact Or.inl rfl | exact Or.inr rfl)) (pgs_cons (pg_name (i := 5) hN rfl (by first | exact Or.inl rfl | exact Or.inr rfl)) pgs_nil)))) (fun _ _ _ _ _ => dts_nil) (fun _ _ _ _ _ => (de_var 5))) da_nil)) (da_cons (de_callB call_len cd_len rfl T.B.len (by decide +kernel) (da_cons (de_var 1) da_nil)) (da_cons de_bl da_nil)))))) da_nil)))))), by
    intro ds G Q h
    obtain ⟨b, m, rfl, p, s, rs, rfl, rfl, hp, hs, ok, h20, q⟩ := in2 h
    have small : (1000 : Nat) < sizeLine := by decide
    obtain ⟨r1, r2, r3⟩ := look_ok hs ok h20
    conv => whnf
    refine ⟨Nat.le_trans (Nat.le_of_ble_eq_true rfl : _ ≤ 100) (by decide), ?_⟩; conv => whnf
    refine ⟨_, _, _, hp, mds_data rs, rfl, mds_shape ok, rfl, ?_⟩
    rw [eqv_nil]
    rcases List.eq_nil_or_concat rs with e | ⟨pre, r, e⟩
    · subst e
      conv => whnf
      refine ⟨_, hp, by simp; omega, ?_⟩
      refine swp_go _ rfl ?_
      refine lcO_map (e := mdD) rideD hp _ (fun r _ K' k' => ?_) ?_
      · conv => whnf
        exact k'
      conv => whnf
      refine ⟨_, hp, by simp; omega, ?_⟩
      refine swp_go _ rfl ?_
      refine lcO_map (e := mdD) (fun r => D.int r.m) hp _ (fun r _ K' k' => ?_) ?_
      · conv => whnf
        exact k'
      conv => whnf
      refine ⟨_, numsD_ints Rd.m _, ?_⟩
      conv => whnf
      refine ⟨_, hp, ?_⟩
      rw [List.length_map]
      conv => whnf
      refine ⟨Nat.le_trans (Nat.le_of_ble_eq_true rfl : _ ≤ 100) (by decide), ?_⟩; conv => whnf
      refine repr_ok r1 r2 r3 ?_
      exact ret_id q
    · rw [List.concat_eq_append] at e
      have hne : (rs.map mdP).isEmpty = false := by rw [e]; simp
      rw [hne]
      conv => whnf
      refine ⟨_, hp, ?_⟩
      conv => whnf
      rw [show (List.map mdD rs).reverse = mdD r :: (List.map mdD pre).reverse by rw [e]; simp]
      conv => whnf
      have ea : r.j = atS s rs := by unfold atS; rw [e, List.getLast?_concat]
      rw [ea]
      refine ⟨_, hp, by simp; omega, ?_⟩
      refine swp_go _ rfl ?_
      refine lcO_map (e := mdD) rideD hp _ (fun r _ K' k' => ?_) ?_
      · conv => whnf
        exact k'
      conv => whnf
      refine ⟨_, hp, by simp; omega, ?_⟩
      refine swp_go _ rfl ?_
      refine lcO_map (e := mdD) (fun r => D.int r.m) hp _ (fun r _ K' k' => ?_) ?_
      · conv => whnf
        exact k'
      conv => whnf
      refine ⟨_, numsD_ints Rd.m _, ?_⟩
      conv => whnf
      refine ⟨_, hp, ?_⟩
      rw [List.length_map]
      conv => whnf
      refine ⟨Nat.le_trans (Nat.le_of_ble_eq_true rfl : _ ≤ 100) (by decide), ?_⟩; conv => whnf
      refine repr_ok r1 r2 r3 ?_
      exact ret_id q⟩
def sp_law_journey_seen (aKind aBook aJourney : Addr) : Sp3 := sp1 fun v G Q _ => ∃ p ks n s rs, v = .ref p ∧ JG aKind aBook aJourney G p ks n s rs ∧ s.natAbs < 2 ^ 190 ∧ (∀ r ∈ rs, Rok r) ∧ rs.length ≤ 20 ∧ Q (.str (reprD (lookD s rs))) G

theorem c_law_journey_seen (T : Txt K mg aKind aBook aJourney) : Cal3G P w K mg base 4 "_law_journey_seen" (sp_law_journey_seen aKind aBook aJourney) [] := cal3G (T.d_law_journey_seen) sc_law_journey_seen (by decide) len1 fun f cdv A outer s H E o E3 hgu hr tk hp => ⟨_,
    have hN := sc_law_journey_seen.nd
    (dss_one (ds_ret (de_callB (call_reprX T.sys hgu hr) cd_reprX rfl T.B.repr (by decide +kernel) (da_cons (de_lstS (da_cons (de_propO (c_Journey_station T) hr (de_var 0)) (da_cons (de_propO (c_Journey_rides T) hr (de_var 0)) (da_cons (de_propO (c_Journey_time T) hr (de_var 0)) (da_cons (de_callB (call_lenO (c_Journey_len T) hr) cd_low rfl T.B.len (by decide +kernel) (da_cons (de_var 0) da_nil)) (da_cons (de_callTy (call_boolO (c_Journey_bool T) hr) cd_low rfl T.B.bool (by decide +kernel) (da_cons (de_var 0) da_nil)) da_nil)))))) da_nil)))), by
    intro ds G Q h
    obtain ⟨v, rfl, p, ks, n, s, rs, rfl, hj, hs, ok, h20, q⟩ := in1 h
    obtain ⟨r1, r2, r3⟩ := look_ok hs ok h20
    have hj' := hj
    obtain ⟨dx, hp⟩ := hj'
    conv => whnf
    refine ⟨⟨dx, _, hp⟩, p, ks, n, s, rs, rfl, hj, ?_⟩
    conv => whnf
    refine ⟨⟨dx, _, hp⟩, p, ks, n, s, rs, rfl, hj, by omega, ?_⟩
    conv => whnf
    refine ⟨⟨dx, _, hp⟩, p, ks, n, s, rs, rfl, hj, by omega, ?_⟩
    conv => whnf
    refine ⟨⟨dx, _, hp⟩, p, ks, n, s, rs, rfl, hj, (rs.length : Nat), rfl, by omega, by omega, ?_⟩
    conv => whnf
    refine ⟨⟨dx, _, hp⟩, true, rfl, ?_⟩
    conv => whnf
    refine ⟨Nat.le_trans (Nat.le_of_ble_eq_true rfl : _ ≤ 100) (by decide), ?_⟩; conv => whnf
    refine repr_ok r1 r2 r3 ?_
    exact ret_id q⟩
end TS
set_option Elab.async false
set_option linter.all false
set_option maxRecDepth 100000
set_option maxHeartbeats 4000000
namespace TS
open PySem PySem.Spec PyProof.Rows L2 L3
variable {P : Program} {w : World} {K : PySem.W.Frag} {mg : Str → Option Value} {base : Heap} {aKind aBook aJourney : Addr}
def sp_law_right : Sp3 := sp1 fun v G Q _ => ∃ (p : Addr) (G00 : Gp), v = .ref p ∧ PoolG G p ∧ Sub G00 G ∧ Q (.bl true) G00
theorem sub_new {G G' : Gp} {p : Addr} {u : DO} (h : G p = none) (s : Sub G G') : Sub G (gupd G' p u) := fun q o e => by
  have hq : q ≠ p := fun z => by rw [z, h] at e; cases e
  rw [gupd_ne hq]
  exact s q o e
theorem big_abs {s n : Int} (h1 : 1 ≤ s) (h2 : s ≤ n) (h3 : n ≤ bigN) : s.natAbs < 2 ^ 190 := by
  have hb : bigN ≤ 1361129467683753853853498429727072845824 := by decide +kernel
  have e : (2 : Nat) ^ 190 = 1569275433846670190958947355801916604025588861116008628224 := by decide +kernel
  rw [e]
  omega
theorem sub_newR {G G' : Gp} {p : Addr} {u : DO} (h : G' p = none) (s : Sub G G') : Sub G (gupd G' p u) := fun q o e => by
  obtain ⟨o', e', i⟩ := s q o e
  have hq : q ≠ p := fun z => by rw [z, h] at e'; cases e'
  exact ⟨o', by rw [gupd_ne hq]; exact e', i⟩
theorem repr_okC {d : D} (h : okD d = true) (hw : wtD d ≤ 60000) (hd : dpD d ≤ 60) {C : PyData → Prop} (q : ∀ p : PyData, p.shown = reprD d → C p) : ∃ p, toX d = some p ∧ p.showable = true ∧ p.depth ≤ 60 ∧ p.shown.length ≤ sizeLine ∧ C p := by
  obtain ⟨p, e, a, b, c, z⟩ := shw_of d h
  refine ⟨p, e, a, Nat.le_trans z hd, ?_, q p (by unfold reprD; rw [e])⟩
  have := PyData.shown_le 250 (by decide) p b
  have h2 : (250 + 2) * p.weight ≤ 252 * 60000 := Nat.mul_le_mul (Nat.le_refl _) (Nat.le_trans c hw)
  have e3 : sizeLine = 16777216 := rfl
  omega
structure Ing (aKind aBook aJourney : Addr) (G G' : Gp) (p m b t : Addr) (ks : List Kd) (n s : Int) (rs : List Rd) : Prop where
  sub : Sub G G'
  pool : PoolG G' p
  gm : G m = none
  gb : G b = none
  md : G' m = some (.lst (rs.map mdD))
  jb : JG aKind aBook aJourney G' b ks n s rs
  jt : JG aKind aBook aJourney G' t ks n s []
  bt : b ≠ t
  rok : ∀ r ∈ rs, Rok r
  a1 : 1 ≤ atS s rs
  an : atS s rs ≤ n
theorem Ing.mb {aKind aBook aJourney : Addr} {G G' : Gp} {p m b t : Addr} {ks : List Kd} {n s : Int} {rs : List Rd} (I : Ing aKind aBook aJourney G G' p m b t ks n s rs) : m ≠ b ∧ m ≠ t := by
  obtain ⟨_, h1⟩ := I.jb
  obtain ⟨_, h2⟩ := I.jt
  have h := I.md
  exact ⟨(fun z => by rw [← z, h] at h1; cases h1), (fun z => by rw [← z, h] at h2; cases h2)⟩
theorem Ing.put {aKind aBook aJourney : Addr} {G G' : Gp} {p m b t : Addr} {ks : List Kd} {n s : Int} {rs : List Rd} (I : Ing aKind aBook aJourney G G' p m b t ks n s rs) (r : Rd) (ok : Rok r) (h1 : 1 ≤ r.j) (h2 : r.j ≤ n) :
    PoolG (gupd G' m (.lst ((rs ++ [r]).map mdD))) p ∧ ∃ dx, gupd G' m (.lst ((rs ++ [r]).map mdD)) b = some (.obj aJourney dx (jF aKind aBook ks n s rs)) ∧ Ing aKind aBook aJourney G (gupd (gupd G' m (.lst ((rs ++ [r]).map mdD))) b (.obj aJourney dx (jF aKind aBook ks n s (rs ++ [r])))) p m b t ks n s (rs ++ [r]) := by
  obtain ⟨mb, mt⟩ := I.mb
  obtain ⟨dx, hb⟩ := I.jb
  obtain ⟨dx2, ht⟩ := I.jt
  have hp : G' p = some (.lsts isPool) := I.pool
  have hm := I.md
  have pm : p ≠ m := fun z => by rw [z, hm] at hp; cases hp
  have pb : p ≠ b := fun z => by rw [z, hb] at hp; cases hp
  have ea : atS s (rs ++ [r]) = r.j := by unfold atS; rw [List.getLast?_concat]
  refine ⟨?_, dx, ?_, sub_new I.gb (sub_new I.gm I.sub), ?_, I.gm, I.gb, ?_, ⟨dx, gupd_same⟩, ⟨dx2, ?_⟩, I.bt, ?_, ?_, ?_⟩
  · show _ = _
    rw [gupd_ne pm]
    exact hp
  · rw [gupd_ne (Ne.symm mb)]
    exact hb
  · show _ = _
    rw [gupd_ne pb, gupd_ne pm]
    exact hp
  · rw [gupd_ne mb, gupd_same]
  · rw [gupd_ne (Ne.symm I.bt), gupd_ne (Ne.symm mt)]
    exact ht
  · intro x hx
    rcases List.mem_append.mp hx with h | h
    · exact I.rok x h
    · rw [List.mem_singleton.mp h]
      exact ok
  · rw [ea]; exact h1
  · rw [ea]; exact h2
theorem Ing.bs {aKind aBook aJourney : Addr} {G G' : Gp} {p m b t : Addr} {ks : List Kd} {n s : Int} {rs : List Rd} (I : Ing aKind aBook aJourney G G' p m b t ks n s rs) : b ≠ p ∧ t ≠ p := by
  obtain ⟨_, h1⟩ := I.jb
  obtain ⟨_, h2⟩ := I.jt
  have h : G' p = some (.lsts isPool) := I.pool
  exact ⟨(fun z => by rw [z, h] at h1; cases h1), (fun z => by rw [z, h] at h2; cases h2)⟩
theorem ride_ok {ks : List Kd} {k : Kd} {n i j : Int} (ok : Bok ks) (hk : k ∈ ks) (i1 : 1 ≤ i) (ij : i < j) (jn : j ≤ n) (nb : n ≤ bigN) : Rok ⟨k.name, i, j, rideT k n i j⟩ := by
  have kk := ok.ok k hk
  have c1 := kk.pa
  have c2 := kk.ha
  have c3 := kk.wa
  have c4 := cnt_le (stP k.rows n) (i + 1) (j - 1 - (i + 1) + 1).toNat
  refine ⟨kk.nm, big_abs i1 (by show i ≤ n; omega) nb, big_abs (by show 1 ≤ j; omega) jn nb, ?_⟩
  have h1 : (k.pace : Int) * (j - i) ≤ 20 * (j - i) := Int.mul_le_mul_of_nonneg_right (by omega) (by omega)
  have h2 : 0 ≤ (k.pace : Int) * (j - i) := Int.mul_nonneg (by omega) (by omega)
  have h3 : (k.halt : Int) * (cntS (stP k.rows n) (i + 1) (j - 1 - (i + 1) + 1).toNat : Nat) ≤ 20 * (j - i) := by
    refine Int.le_trans (Int.mul_le_mul_of_nonneg_right (show (k.halt : Int) ≤ 20 by omega) (by omega)) ?_
    omega
  have h4 : 0 ≤ (k.halt : Int) * (cntS (stP k.rows n) (i + 1) (j - 1 - (i + 1) + 1).toNat : Nat) := Int.mul_nonneg (by omega) (by omega)
  have hb : bigN ≤ 1361129467683753853853498429727072845824 := by decide +kernel
  have e : (2 : Nat) ^ 190 = 1569275433846670190958947355801916604025588861116008628224 := by decide +kernel
  show (rideT k n i j).natAbs < 2 ^ 190
  rw [e]
  unfold rideT
  omega

theorem c_law_right (T : Txt K mg aKind aBook aJourney) : Cal3G P w K mg base 12 "_law_right" sp_law_right [] := cal3G (T.d_law_right) sc_law_right (by decide) len1 fun f cdv A outer s H E o E3 hgu hr tk hp => ⟨_,
    have hN := sc_law_right.nd
    (dss_cons (ds_asg (de_call (c_law_stage T) hr tk (da_cons (de_var 0) (da_cons de_int da_nil))) (dg_tl (n := 3) rfl (dgs_cons (dg_name 1 hN) (dgs_cons (dg_name 2 hN) (dgs_cons (dg_name 3 hN) dgs_nil)))))
      (dss_cons (ds_par 4 5 rfl hN (da_cons (de_call (c_law_made T) hr tk (da_cons (de_var 0) (da_cons (de_var 1) da_nil))) (da_cons (de_lstSO da_nil) da_nil)))
      (dss_cons (ds_par 6 7 rfl hN (da_cons (de_makeW (ks := []) [0, 1, 2, 3] (c_Journey_init T) hr tk (da_cons (de_var 4) (da_cons (de_var 2) (da_cons (de_var 3) da_nil))) dk_nil (fun _ _ _ _ _ _ us ws hu hw => match us, ws, hu, hw with | [_, _, _, _], [], _, _ => rfl)) (da_cons (de_makeW0 (ks := ["start", "book", "length"]) [0, 2, 3, 1] (c_Journey_init T) hr tk (dk_cons (de_var 3) (dk_cons (de_var 4) (dk_cons (de_var 2) dk_nil))) (fun _ _ _ _ _ _ us ws hu hw => match us, ws, hu, hw with | [_], [_, _, _], _, _ => rfl)) da_nil)))
      (dss_cons (ds_if (dt_cmp (op_neA hr) dc_ne (de_callG (c_law_journey_seen T) hgu hr tk (da_cons (de_var 6) da_nil)) (de_callG (c_law_journey_due T) hgu hr tk (da_cons (de_var 3) (da_cons (de_var 5) da_nil))) (nomark _)) (dss_one (ds_ret de_bl)) dss_nil)
      (dss_cons (ds_for rfl hp (di_range1 (de_call (c_law_draw T) hr tk (da_cons (de_var 0) (da_cons de_int da_nil))) T.B.range) (dg_name 8 hN) (dss_cons (ds_par 9 10 rfl hN (da_cons (de_call (c_law_some_ride T) hr tk (da_cons (de_var 0) (da_cons (de_var 1) (da_cons (de_var 2) (da_cons (de_call (c_law_here T) hr tk (da_cons (de_var 3) (da_cons (de_var 5) da_nil))) da_nil))))) (da_cons (de_call (c_law_here T) hr tk (da_cons (de_var 3) (da_cons (de_var 5) da_nil))) da_nil)))
      (dss_one (ds_if (dt_cmp op_notN dc_notN (de_var 9) de_non (nomark _)) (dss_cons (ds_asg (de_var 9) (dg_tl (n := 2) rfl (dgs_cons (dg_name 11 hN) (dgs_cons (dg_name 12 hN) dgs_nil))))
      (dss_cons (ds_par 13 14 rfl hN (da_cons (de_call (c_law_rode T) hr tk (da_cons (de_var 2) (da_cons (de_var 5) (da_cons (de_var 10) (da_cons (de_var 11) (da_cons (de_var 12) da_nil)))))) (da_cons (de_ix (de_var 11) de_int) da_nil)))
      (dss_cons (ds_set 15 hN (de_if (dt_cmp (op_eqA hr) dc_eq (de_call (c_law_draw T) hr tk (da_cons (de_var 0) (da_cons de_int da_nil))) de_int (nomark _)) (de_methO (c_Journey_take T) hr tk (de_var 6) (da_cons (de_var 14) (da_cons (de_var 12) da_nil))) (de_methOK0 (ks := ["goal", "kind"]) [0, 2, 1] (cf_Journey_take T) hr tk (de_var 6) (dk_cons (de_var 12) (dk_cons (de_var 14) dk_nil)) (fun _ _ _ _ _ _ us ws hu hw => match us, ws, hu, hw with | [_], [_, _], _, _ => rfl))))
      (dss_cons (ds_if (dt_cmp (op_neA hr) dc_ne (de_callB (call_reprX T.sys hgu hr) cd_reprX rfl T.B.repr (by decide +kernel) (da_cons (de_var 15) da_nil)) (de_callB (call_reprX T.sys hgu hr) cd_reprX rfl T.B.repr (by decide +kernel) (da_cons (de_var 13) da_nil)) (nomark _)) (dss_one (ds_ret de_bl)) dss_nil)
      (dss_one (ds_if (dt_bool (dw_and (dt_cmp (op_eqA hr) dc_eq (de_call (c_law_draw T) hr tk (da_cons (de_var 0) (da_cons de_int da_nil))) de_int (nomark _)) (dw_and1 (dt_cmp (op_neA hr) dc_ne (de_callG (c_law_journey_seen T) hgu hr tk (da_cons (de_var 6) da_nil)) (de_callG (c_law_journey_due T) hgu hr tk (da_cons (de_var 3) (da_cons (de_var 5) da_nil))) (nomark _))))) (dss_one (ds_ret de_bl)) dss_nil)))))) dss_nil))))
      (dss_cons (ds_if (dt_bool (dw_or (dt_cmp (op_neA hr) dc_ne (de_callG (c_law_journey_seen T) hgu hr tk (da_cons (de_var 6) da_nil)) (de_callG (c_law_journey_due T) hgu hr tk (da_cons (de_var 3) (da_cons (de_var 5) da_nil))) (nomark _)) (dw_or1 (dt_cmp (op_neA hr) dc_ne (de_strO (c_Book_str T) hr T.B.str (da_cons (de_var 4) da_nil)) (de_call (c_law_text T) hr tk (da_cons (de_var 1) da_nil)) (nomark _))))) (dss_one (ds_ret de_bl)) dss_nil)
      (dss_one (ds_ret (de_and (de_cmp (op_eqA hr) dc_eq (de_callG (c_law_journey_seen T) hgu hr tk (da_cons (de_var 7) da_nil)) (de_callG (c_law_journey_due T) hgu hr tk (da_cons (de_var 3) (da_cons (de_lstSO da_nil) da_nil))) (nomark _)) (de_and (de_cmp (op_neOb hr) dc_cmp (de_var 6) (de_var 7) (nomark _)) (de_one (de_not (de_cmp (op_eqOb hr) dc_cmp (de_var 6) (de_var 7) (nomark _)))))))))))))), by
    intro ds G Q h
    obtain ⟨v, rfl, p, G00, rfl, pg, sub, q⟩ := in1 h
    conv => whnf
    refine ⟨p, 3, rfl, rfl, by decide, by decide, pg, fun ks n s ok n2 nb s1 sn => ?_⟩
    conv => whnf
    refine ⟨p, ks, rfl, rfl, pg, ok, ?_⟩
    conv => whnf
    refine ⟨Nat.le_trans (Nat.le_of_ble_eq_true rfl : _ ≤ 100) (by decide), ?_⟩; conv => whnf
    intro m hm
    conv => whnf
    intro b dx hb
    have bm : b ≠ m := fun z => by rw [z, gupd_same] at hb; cases hb
    have gb : G b = none := by rwa [gupd_ne bm] at hb
    refine ⟨b, dx, ks, n, s, ok, n2, s1, sn, rfl, gupd_same, rfl, rfl, rfl, rfl, ?_⟩
    rw [gupd_gupd]
    conv => whnf
    intro t dx2 ht
    have tb : t ≠ b := fun z => by rw [z, gupd_same] at ht; cases ht
    have ht2 := ht
    rw [gupd_ne tb] at ht2
    have tm : t ≠ m := fun z => by rw [z, gupd_same] at ht2; cases ht2
    refine ⟨t, dx2, ks, n, s, ok, n2, s1, sn, rfl, gupd_same, rfl, rfl, rfl, rfl, ?_⟩
    rw [gupd_gupd]
    have I0 : Ing aKind aBook aJourney G (gupd (gupd (gupd G m (.lst [])) b (.obj aJourney dx (jF aKind aBook ks n s []))) t (.obj aJourney dx2 (jF aKind aBook ks n s []))) p m b t ks n s [] := by
      refine ⟨sub_new (by rwa [gupd_ne tm] at ht2) (sub_new gb (sub_new hm (Sub.refl G))), ?_, hm, gb, ?_, ⟨dx, ?_⟩, ⟨dx2, gupd_same⟩, Ne.symm tb, (fun r hr => by cases hr), s1, sn⟩
      · have pp : G p = some (.lsts isPool) := pg
        have p1 : p ≠ t := fun z => by rw [← z, gupd_ne (fun y => by rw [← y, pp] at hm; cases hm)] at ht2; rw [pp] at ht2; cases ht2
        have p2 : p ≠ b := fun z => by rw [← z, pp] at gb; cases gb
        have p3 : p ≠ m := fun z => by rw [← z, pp] at hm; cases hm
        show _ = _
        rw [gupd_ne p1, gupd_ne p2, gupd_ne p3]
        exact pp
      · rw [gupd_ne (Ne.symm tm), gupd_ne (Ne.symm bm), gupd_same]
        rfl
      · rw [gupd_ne (Ne.symm tb), gupd_same]
    generalize (gupd (gupd (gupd G m (.lst [])) b (.obj aJourney dx (jF aKind aBook ks n s []))) t (.obj aJourney dx2 (jF aKind aBook ks n s []))) = G0 at I0 ⊢
    have hs : s.natAbs < 2 ^ 190 := big_abs s1 sn nb
    conv => whnf
    refine ⟨b, ks, n, s, [], rfl, I0.jb, hs, I0.rok, by decide, ?_⟩
    generalize eT : reprD (lookD s []) = T0
    conv => whnf
    refine ⟨m, s, [], rfl, rfl, I0.md, hs, I0.rok, by decide, ?_⟩
    rw [eT]
    conv => whnf
    first | refine br_true (decide_eq_true rfl) ?_ | refine br_false (by rw [decide_eq_true rfl]; rfl) ?_
    conv => whnf
    refine ⟨p, 9, rfl, rfl, I0.pool, by decide, by decide, fun r hr' => ?_⟩
    conv => whnf
    refine ⟨⟨by omega, by omega⟩, ?_⟩
    conv => whnf
    refine for_inv (e := fun i : Nat => D.int ((0 : Int) + (i : Nat))) (fun xs sd G' => ∃ (rs : List Rd) (y8 y9 y10 y11 y12 y13 y14 y15 : Option D), Ing aKind aBook aJourney G G' p m b t ks n s rs ∧ rs.length + xs.length ≤ 9 ∧ sd = [some (.ref p), some (schD ks), some (.int n), some (.int s), some (bookD aKind aBook ks), some (.ref m), some (.ref b), some (.ref t), y8, y9, y10, y11, y12, y13, y14, y15]) ?_ ?_ (List.range r) _ _ ⟨[], none, none, none, none, none, none, none, none, I0, by rw [List.length_range]; show 0 + r ≤ 9; omega, rfl⟩
    · clear I0
      rintro sd G' ⟨rs, y8, y9, y10, y11, y12, y13, y14, y15, I, l9, rfl⟩
      have l9 : rs.length ≤ 9 := by omega
      conv => whnf
      refine ⟨b, ks, n, s, rs, rfl, I.jb, hs, I.rok, by omega, ?_⟩
      generalize eT2 : reprD (lookD s rs) = T2
      conv => whnf
      refine ⟨m, s, rs, rfl, rfl, I.md, hs, I.rok, by omega, ?_⟩
      rw [eT2]
      conv => whnf
      rw [show (!decide (T2 = T2)) = false by simp]
      conv => whnf
      refine ⟨rfl, ks, ok, rfl, _, rfl, ?_⟩
      conv => whnf
      refine ⟨ks, ok, rfl, ?_⟩
      generalize eT3 : bookText ks = T3
      conv => whnf
      rw [show (!decide (T3 = T3)) = false by simp]
      conv => whnf
      refine ⟨t, ks, n, s, [], rfl, I.jt, hs, (fun r hr => by cases hr), by decide, ?_⟩
      generalize eT4 : reprD (lookD s []) = T4
      conv => whnf
      refine ⟨Nat.le_trans (Nat.le_of_ble_eq_true rfl : _ ≤ 100) (by decide), ?_⟩; conv => whnf
      intro v hv
      conv => whnf
      have hv2 : G' v = none := hv
      have e0 : gupd G' v (.lst []) v = some (.lst (([] : List Rd).map mdD)) := gupd_same
      refine ⟨v, s, [], rfl, rfl, e0, hs, (fun r hr => by cases hr), by decide, ?_⟩
      rw [eT4]
      conv => whnf
      rw [show decide (T4 = T4) = true by simp]
      conv => whnf
      obtain ⟨dx4, hb4⟩ := I.jb
      obtain ⟨dx5, ht5⟩ := I.jt
      have vb : b ≠ v := fun z => by rw [← z, hb4] at hv2; cases hv2
      have vt : t ≠ v := fun z => by rw [← z, ht5] at hv2; cases hv2
      refine ⟨I.bt, aJourney, dx4, _, dx5, _, T.eo_Journey, by rw [gupd_ne vb]; exact hb4, by rw [gupd_ne vt]; exact ht5, ?_⟩
      conv => whnf
      refine ⟨I.bt, aJourney, dx4, _, dx5, _, T.eo_Journey, by rw [gupd_ne vb]; exact hb4, by rw [gupd_ne vt]; exact ht5, ?_⟩
      conv => whnf
      exact ret_sub (Sub.trans sub (sub_newR hv2 I.sub)) q
    · clear I0
      rintro x xs sd G' ⟨rs, y8, y9, y10, y11, y12, y13, y14, y15, I, l9, rfl⟩ N hN
      rw [List.length_cons] at l9
      conv => whnf
      refine ⟨m, s, rs, rfl, rfl, I.md, I.rok, ?_⟩
      conv => whnf
      refine ⟨p, ks, n, atS s rs, rfl, rfl, rfl, rfl, ok, I.a1, I.an, I.pool, ?_, fun k hk j ij jn st1 st2 => ?_⟩
      · conv => whnf
        refine ⟨m, s, rs, rfl, rfl, I.md, I.rok, ?_⟩
        conv => whnf
        exact hN _ _ ⟨rs, _, _, _, _, _, _, _, _, I, by omega, rfl⟩
      · conv => whnf
        refine ⟨m, s, rs, rfl, rfl, I.md, I.rok, ?_⟩
        conv => whnf
        refine ⟨m, rs, ks, k, n, atS s rs, j, ok, hk, I.a1, ij, jn, rfl, rfl, I.md, by omega, rfl, rfl, rfl, ?_⟩
        have ro := ride_ok ok hk I.a1 ij jn nb
        have a1 := I.a1
        obtain ⟨pg1, dx3, hb3, I2⟩ := I.put _ ro (by show 1 ≤ j; omega) jn
        conv => whnf
        refine ⟨p, 2, rfl, rfl, pg1, by decide, by decide, fun z hz => ?_⟩
        conv => whnf
        have o1 := int_ok (i := rideT k n (atS s rs) j) (Nat.lt_of_lt_of_le ro.m (Nat.pow_le_pow_right (by decide) (by decide)))
        refine br_cases (fun e1 => ?_) (fun e1 => ?_)
        · conv => whnf
          refine ⟨⟨dx3, _, hb3, rfl⟩, b, ks, n, s, rs, k, j, rfl, ⟨dx3, hb3, ?_⟩, ok, hk, a1, ij, jn, st1, st2, by omega, rfl, rfl⟩
          conv => whnf
          refine repr_okC o1 (by show 200 ≤ 60000; decide) (by show 0 ≤ 60; decide) fun pd hpd => ?_
          rw [hpd]
          generalize eR : reprD (.int (rideT k n (atS s rs) j)) = R
          conv => whnf
          refine repr_okC o1 (by show 200 ≤ 60000; decide) (by show 0 ≤ 60; decide) fun pd2 hpd2 => ?_
          rw [hpd2, eR]
          conv => whnf
          rw [show (!decide (R = R)) = false by simp]
          conv => whnf
          refine ⟨p, 2, rfl, rfl, I2.pool, by decide, by decide, fun z2 hz2 => ?_⟩
          conv => whnf
          refine br_cases (fun e2 => ?_) (fun e2 => ?_)
          · conv => whnf
            refine ⟨b, ks, n, s, _, rfl, I2.jb, hs, I2.rok, by rw [List.length_append]; show rs.length + 1 ≤ 20; omega, ?_⟩
            generalize eT2 : reprD (lookD s (rs ++ [⟨k.name, atS s rs, j, rideT k n (atS s rs) j⟩])) = T2
            conv => whnf
            refine ⟨m, s, _, rfl, rfl, I2.md, hs, I2.rok, by rw [List.length_append]; show rs.length + 1 ≤ 20; omega, ?_⟩
            rw [eT2]
            conv => whnf
            rw [show (!decide (T2 = T2)) = false by simp]
            conv => whnf
            exact hN _ _ ⟨_, _, _, _, _, _, _, _, _, I2, by rw [List.length_append]; show rs.length + 1 + xs.length ≤ 9; omega, rfl⟩
          · conv => whnf
            exact hN _ _ ⟨_, _, _, _, _, _, _, _, _, I2, by rw [List.length_append]; show rs.length + 1 + xs.length ≤ 9; omega, rfl⟩
        · conv => whnf
          refine ⟨⟨dx3, _, hb3, rfl⟩, b, ks, n, s, rs, k, j, rfl, ⟨dx3, hb3, ?_⟩, ok, hk, a1, ij, jn, st1, st2, by omega, rfl, rfl⟩
          conv => whnf
          refine repr_okC o1 (by show 200 ≤ 60000; decide) (by show 0 ≤ 60; decide) fun pd hpd => ?_
          rw [hpd]
          generalize eR : reprD (.int (rideT k n (atS s rs) j)) = R
          conv => whnf
          refine repr_okC o1 (by show 200 ≤ 60000; decide) (by show 0 ≤ 60; decide) fun pd2 hpd2 => ?_
          rw [hpd2, eR]
          conv => whnf
          rw [show (!decide (R = R)) = false by simp]
          conv => whnf
          refine ⟨p, 2, rfl, rfl, I2.pool, by decide, by decide, fun z2 hz2 => ?_⟩
          conv => whnf
          refine br_cases (fun e2 => ?_) (fun e2 => ?_)
          · conv => whnf
            refine ⟨b, ks, n, s, _, rfl, I2.jb, hs, I2.rok, by rw [List.length_append]; show rs.length + 1 ≤ 20; omega, ?_⟩
            generalize eT2 : reprD (lookD s (rs ++ [⟨k.name, atS s rs, j, rideT k n (atS s rs) j⟩])) = T2
            conv => whnf
            refine ⟨m, s, _, rfl, rfl, I2.md, hs, I2.rok, by rw [List.length_append]; show rs.length + 1 ≤ 20; omega, ?_⟩
            rw [eT2]
            conv => whnf
            rw [show (!decide (T2 = T2)) = false by simp]
            conv => whnf
            exact hN _ _ ⟨_, _, _, _, _, _, _, _, _, I2, by rw [List.length_append]; show rs.length + 1 + xs.length ≤ 9; omega, rfl⟩
          · conv => whnf
            exact hN _ _ ⟨_, _, _, _, _, _, _, _, _, I2, by rw [List.length_append]; show rs.length + 1 + xs.length ≤ 9; omega, rfl⟩⟩
def sp_law : Sp3 := sp1 fun v G Q _ => ∃ ns : List Int, v = .scr (ns.map D.int) ∧ Q (.bl true) G
theorem law_end (ns : List Int) (G : Gp) (Q : DK) (_ : ns.length ≤ 63) (_ : ∀ z ∈ ns, Builtin.Int.intBits z ≤ 1048576) (q : Q (.bl true) G) : sp_law [.scr (ns.map D.int)] G Q NoE := ⟨ns, rfl, q⟩

theorem g_law (T : Txt K mg aKind aBook aJourney) {fa : Addr} {fd : FuncData} (F : Fun K "law" "law" s_law fa fd) : FnG P w K mg base (L2.CX P w) 13 fa fd ["_law_script"] (dn K sp_law) := fnG3 F sc_law (by decide) len1 fun f cdv A outer s H E o E3 hgu hr tk hp => ⟨_,
    have hN := sc_law.nd
    (dss_one (ds_ret (de_callB (cr_all rfl) cd_all rfl T.B.all (by decide +kernel) (da_cons (de_lc [("_law_spot", 1)] rfl hN (tgt_name (i := 1) (by decide)) (di_range1 (de_callB (call_max2 rfl) cd_max2 rfl T.B.max (by decide +kernel) (da_cons de_int (da_cons (de_callB (call_min2 rfl) cd_min2 rfl T.B.min (by decide +kernel) (da_cons (de_callB call_len cd_len rfl T.B.len (by decide +kernel) (da_cons (de_var 0) da_nil)) (da_cons de_int da_nil))) da_nil))) T.B.range) (blkOk_by (N := N_law) (sc := (defScope s_law)) (own := [("_law_spot", 1)]) (by decide +kernel)) (fun _ _ _ _ _ => (pg_name (i := 1) hN rfl (by first | exact Or.inl rfl | exact Or.inr rfl))) (fun _ _ _ _ _ => dts_nil) (fun _ _ _ _ _ => (de_callG (c_law_right T) hgu hr takesN (da_cons (de_call (c_law_pool T) hr takesN (da_cons (de_call (c_law_cell T) hr takesN (da_cons (de_var 0) (da_cons (de_var 1) da_nil))) da_nil)) da_nil)))) da_nil)))), by
    intro ds G Q h
    obtain ⟨v, rfl, ns, rfl, q⟩ := in1 h
    have small : (100 : Nat) < sizeLine := by decide
    conv => whnf
    have hn : ∃ n : Nat, n ≤ 8 ∧ (if (if (8 : Int) < (((ns.map D.int).length : Nat) : Int) then (8 : Int) else (((ns.map D.int).length : Nat) : Int)) > 3 then (if (8 : Int) < (((ns.map D.int).length : Nat) : Int) then (8 : Int) else (((ns.map D.int).length : Nat) : Int)) else 3) = (n : Nat) := by
      rw [List.length_map]
      by_cases h1 : (8 : Int) < ((ns.length : Nat) : Int)
      · rw [if_pos h1]
        exact ⟨8, by decide, by decide⟩
      · rw [if_neg h1]
        by_cases h2 : ((ns.length : Nat) : Int) > 3
        · rw [if_pos h2]
          exact ⟨ns.length, by omega, rfl⟩
        · rw [if_neg h2]
          exact ⟨3, by decide, rfl⟩
    obtain ⟨n, n8, en⟩ := hn
    rw [en]
    refine ⟨⟨by omega, by omega⟩, ?_⟩
    conv => whnf
    refine ⟨by simp [intsD]; omega, ?_⟩
    conv => whnf
    refine lc_map (e := fun i : Nat => D.int ((0 : Int) + (i : Nat))) (fun _ : Nat => D.bl true) _ (fun i _ K' kk => ?_) ?_
    · have ei : (0 : Int) + (i : Nat) = (i : Nat) := by omega
      rw [ei]
      conv => whnf
      refine ⟨ns, i, rfl, rfl, fun r => ?_⟩
      conv => whnf
      refine ⟨r, rfl, fun p hp' => ?_⟩
      exact ⟨p, _, rfl, gupd_same, Sub.new hp', kk⟩
    · show (match blsOf _ with | some bs => _ | none => False)
      rw [bls_all (fun _ : Nat => true)]
      refine ret_id ?_
      rw [all_map_id]
      have e : (List.all (List.range ((n : Nat) : Int).toNat) fun _ => true) = true := List.all_eq_true.mpr fun _ _ => rfl
      rw [e]
      exact q⟩
end TS
set_option Elab.async false
set_option linter.all false
set_option maxRecDepth 100000
set_option maxHeartbeats 0
namespace TS
open PySem PySem.Spec PyProof.Rows L2 L3
theorem txt {K : PySem.W.Frag} {h : Heap} {mg : Str → Option Value} (X : K.In h) (G : h.Ns mainGlobals mg) (c : SaysM fam fnm exm K) : Txt K mg (He.ga K "Kind") (He.ga K "Book") (He.ga K "Journey") := by
  have E : ∀ b ∈ exl K, b = true := fun b hb => List.all_eq_true.mp c.all.2.2.1 b hb
  exact {
  B := ⟨He.free_ok X G (c.all.1 _ (List.mem_of_getElem? (i := 0) rfl)), He.free_ok X G (c.all.1 _ (List.mem_of_getElem? (i := 1) rfl)), He.free_ok X G (c.all.1 _ (List.mem_of_getElem? (i := 2) rfl)), He.free_ok X G (c.all.1 _ (List.mem_of_getElem? (i := 3) rfl)), He.free_ok X G (c.all.1 _ (List.mem_of_getElem? (i := 4) rfl)), He.free_ok X G (c.all.1 _ (List.mem_of_getElem? (i := 5) rfl)), He.free_ok X G (c.all.1 _ (List.mem_of_getElem? (i := 6) rfl)), He.free_ok X G (c.all.1 _ (List.mem_of_getElem? (i := 7) rfl)), He.free_ok X G (c.all.1 _ (List.mem_of_getElem? (i := 8) rfl)), He.free_ok X G (c.all.1 _ (List.mem_of_getElem? (i := 9) rfl)), He.free_ok X G (c.all.1 _ (List.mem_of_getElem? (i := 10) rfl)), He.free_ok X G (c.all.1 _ (List.mem_of_getElem? (i := 11) rfl)), He.free_ok X G (c.all.1 _ (List.mem_of_getElem? (i := 12) rfl)), He.free_ok X G (c.all.1 _ (List.mem_of_getElem? (i := 13) rfl)), He.free_ok X G (c.all.1 _ (List.mem_of_getElem? (i := 14) rfl)), He.free_ok X G (c.all.1 _ (List.mem_of_getElem? (i := 15) rfl)), He.free_ok X G (c.all.1 _ (List.mem_of_getElem? (i := 16) rfl)), He.free_ok X G (c.all.1 _ (List.mem_of_getElem? (i := 17) rfl)), He.free_ok X G (c.all.1 _ (List.mem_of_getElem? (i := 18) rfl))⟩
  sys := sys_of (E _ (List.mem_of_getElem? (i := 0) rfl))
  g_MOST_KINDS := He.int_ok X G (c.all.1 _ (List.mem_of_getElem? (i := 19) rfl))
  g_MOST_ROWS := He.int_ok X G (c.all.1 _ (List.mem_of_getElem? (i := 20) rfl))
  g_MOST_PERIOD := He.int_ok X G (c.all.1 _ (List.mem_of_getElem? (i := 21) rfl))
  g_DIGITS := He.str_ok X G (c.all.1 _ (List.mem_of_getElem? (i := 22) rfl))
  g_LETTERS := He.str_ok X G (c.all.1 _ (List.mem_of_getElem? (i := 23) rfl))
  g_Kind := He.glo_ok X G (c.all.1 _ (List.mem_of_getElem? (i := 24) rfl))
  is_Kind := is_of (E _ (List.mem_of_getElem? (i := 1) rfl))
  sl_Kind_shape := sl_of (E _ (List.mem_of_getElem? (i := 2) rfl))
  ap_Kind_Book := ap_of (E _ (List.mem_of_getElem? (i := 3) rfl))
  nf_Kind_Book := (E _ (List.mem_of_getElem? (i := 4) rfl))
  eq_Kind := eq_of (is_of (E _ (List.mem_of_getElem? (i := 1) rfl))) (E _ (List.mem_of_getElem? (i := 5) rfl))
  tr_Kind := tr_of (E _ (List.mem_of_getElem? (i := 6) rfl))
  nf_Kind := (E _ (List.mem_of_getElem? (i := 7) rfl))
  g_Book := He.glo_ok X G (c.all.1 _ (List.mem_of_getElem? (i := 25) rfl))
  is_Book := is_of (E _ (List.mem_of_getElem? (i := 8) rfl))
  sl_Book_lines := sl_of (E _ (List.mem_of_getElem? (i := 9) rfl))
  sl_Book_shape := sl_of (E _ (List.mem_of_getElem? (i := 10) rfl))
  ap_Book_Kind := ap_of (E _ (List.mem_of_getElem? (i := 11) rfl))
  nf_Book_Kind := (E _ (List.mem_of_getElem? (i := 12) rfl))
  eq_Book := eq_of (is_of (E _ (List.mem_of_getElem? (i := 8) rfl))) (E _ (List.mem_of_getElem? (i := 13) rfl))
  tr_Book := tr_of (E _ (List.mem_of_getElem? (i := 14) rfl))
  nf_Book := (E _ (List.mem_of_getElem? (i := 15) rfl))
  g_Journey := He.glo_ok X G (c.all.1 _ (List.mem_of_getElem? (i := 26) rfl))
  oc_Journey := ocl_of (E _ (List.mem_of_getElem? (i := 16) rfl))
  eo_Journey := eqOb_of (E _ (List.mem_of_getElem? (i := 17) rfl))
  fl_Journey_past := ⟨ocl_of (E _ (List.mem_of_getElem? (i := 16) rfl)), noa_of (E _ (List.mem_of_getElem? (i := 18) rfl))⟩
  fl_Journey_book := ⟨ocl_of (E _ (List.mem_of_getElem? (i := 16) rfl)), noa_of (E _ (List.mem_of_getElem? (i := 19) rfl))⟩
  fl_Journey_length := ⟨ocl_of (E _ (List.mem_of_getElem? (i := 16) rfl)), noa_of (E _ (List.mem_of_getElem? (i := 20) rfl))⟩
  fl_Journey_start := ⟨ocl_of (E _ (List.mem_of_getElem? (i := 16) rfl)), noa_of (E _ (List.mem_of_getElem? (i := 21) rfl))⟩
  d_is_integer := by
      obtain ⟨fd, F⟩ := c.fun_ (List.mem_of_getElem? (i := 0) rfl)
      exact ⟨_, fd, F, He.glo_ok X G (c.all.1 _ (List.mem_of_getElem? (i := 27) rfl)), F.kp, (F.binds fun _ _ _ _ _ _ us hl => match us, hl with | [_], _ => rfl)⟩
  d_is_name := by
      obtain ⟨fd, F⟩ := c.fun_ (List.mem_of_getElem? (i := 1) rfl)
      exact ⟨_, fd, F, He.glo_ok X G (c.all.1 _ (List.mem_of_getElem? (i := 28) rfl)), F.kp, (F.binds fun _ _ _ _ _ _ us hl => match us, hl with | [_], _ => rfl)⟩
  d_written_integer := by
      obtain ⟨fd, F⟩ := c.fun_ (List.mem_of_getElem? (i := 2) rfl)
      exact ⟨_, fd, F, He.glo_ok X G (c.all.1 _ (List.mem_of_getElem? (i := 29) rfl)), F.kp, (F.binds fun _ _ _ _ _ _ us hl => match us, hl with | [_], _ => rfl)⟩
  d_is_within := by
      obtain ⟨fd, F⟩ := c.fun_ (List.mem_of_getElem? (i := 3) rfl)
      exact ⟨_, fd, F, He.glo_ok X G (c.all.1 _ (List.mem_of_getElem? (i := 30) rfl)), F.kp, (F.binds fun _ _ _ _ _ _ us hl => match us, hl with | [_, _, _], _ => rfl)⟩
  d_is_where := by
      obtain ⟨fd, F⟩ := c.fun_ (List.mem_of_getElem? (i := 4) rfl)
      exact ⟨_, fd, F, He.glo_ok X G (c.all.1 _ (List.mem_of_getElem? (i := 31) rfl)), F.kp, (F.binds fun _ _ _ _ _ _ us hl => match us, hl with | [_], _ => rfl)⟩
  d_is_row := by
      obtain ⟨fd, F⟩ := c.fun_ (List.mem_of_getElem? (i := 5) rfl)
      exact ⟨_, fd, F, He.glo_ok X G (c.all.1 _ (List.mem_of_getElem? (i := 32) rfl)), F.kp, (F.binds fun _ _ _ _ _ _ us hl => match us, hl with | [_], _ => rfl)⟩
  d_common_multiple := by
      obtain ⟨fd, F⟩ := c.fun_ (List.mem_of_getElem? (i := 6) rfl)
      exact ⟨_, fd, F, He.glo_ok X G (c.all.1 _ (List.mem_of_getElem? (i := 33) rfl)), F.kp, (F.binds fun _ _ _ _ _ _ us hl => match us, hl with | [_, _], _ => rfl)⟩
  d_Kind_init := by
      obtain ⟨fd, F⟩ := c.fun_ (List.mem_of_getElem? (i := 7) rfl)
      exact ⟨_, fd, mk_of' (E _ (List.mem_of_getElem? (i := 22) rfl)), F, He.glo_ok X G (c.all.1 _ (List.mem_of_getElem? (i := 24) rfl))⟩
  d_Kind_name := by
      obtain ⟨fd, F⟩ := c.fun_ (List.mem_of_getElem? (i := 8) rfl)
      obtain ⟨p1, p2, p3, p4⟩ := pr_of (E _ (List.mem_of_getElem? (i := 23) rfl))
      exact ⟨_, _, fd, p1, p2, p3, p4, F, (F.binds fun _ _ _ _ _ _ us hl => match us, hl with | [_], _ => rfl)⟩
  d_Kind_pace := by
      obtain ⟨fd, F⟩ := c.fun_ (List.mem_of_getElem? (i := 9) rfl)
      obtain ⟨p1, p2, p3, p4⟩ := pr_of (E _ (List.mem_of_getElem? (i := 24) rfl))
      exact ⟨_, _, fd, p1, p2, p3, p4, F, (F.binds fun _ _ _ _ _ _ us hl => match us, hl with | [_], _ => rfl)⟩
  d_Kind_halt := by
      obtain ⟨fd, F⟩ := c.fun_ (List.mem_of_getElem? (i := 10) rfl)
      obtain ⟨p1, p2, p3, p4⟩ := pr_of (E _ (List.mem_of_getElem? (i := 25) rfl))
      exact ⟨_, _, fd, p1, p2, p3, p4, F, (F.binds fun _ _ _ _ _ _ us hl => match us, hl with | [_], _ => rfl)⟩
  d_Kind_wait := by
      obtain ⟨fd, F⟩ := c.fun_ (List.mem_of_getElem? (i := 11) rfl)
      obtain ⟨p1, p2, p3, p4⟩ := pr_of (E _ (List.mem_of_getElem? (i := 26) rfl))
      exact ⟨_, _, fd, p1, p2, p3, p4, F, (F.binds fun _ _ _ _ _ _ us hl => match us, hl with | [_], _ => rfl)⟩
  d_Kind_rows := by
      obtain ⟨fd, F⟩ := c.fun_ (List.mem_of_getElem? (i := 12) rfl)
      obtain ⟨p1, p2, p3, p4⟩ := pr_of (E _ (List.mem_of_getElem? (i := 27) rfl))
      exact ⟨_, _, fd, p1, p2, p3, p4, F, (F.binds fun _ _ _ _ _ _ us hl => match us, hl with | [_], _ => rfl)⟩
  d_Kind_eq := by
      obtain ⟨fd, F⟩ := c.fun_ (List.mem_of_getElem? (i := 13) rfl)
      exact ⟨_, fd, me_of (E _ (List.mem_of_getElem? (i := 28) rfl)), F, (F.binds fun _ _ _ _ _ _ us hl => match us, hl with | [_, _], _ => rfl)⟩
  d_numbers_of := by
      obtain ⟨fd, F⟩ := c.fun_ (List.mem_of_getElem? (i := 14) rfl)
      exact ⟨_, fd, F, He.glo_ok X G (c.all.1 _ (List.mem_of_getElem? (i := 34) rfl)), F.kp, (F.binds fun _ _ _ _ _ _ us hl => match us, hl with | [_, _], _ => rfl)⟩
  d_period_of := by
      obtain ⟨fd, F⟩ := c.fun_ (List.mem_of_getElem? (i := 15) rfl)
      exact ⟨_, fd, F, He.glo_ok X G (c.all.1 _ (List.mem_of_getElem? (i := 35) rfl)), F.kp, (F.binds fun _ _ _ _ _ _ us hl => match us, hl with | [_], _ => rfl)⟩
  d_check_kinds := by
      obtain ⟨fd, F⟩ := c.fun_ (List.mem_of_getElem? (i := 16) rfl)
      exact ⟨_, fd, F, He.glo_ok X G (c.all.1 _ (List.mem_of_getElem? (i := 36) rfl)), F.kp, (F.binds fun _ _ _ _ _ _ us hl => match us, hl with | [_], _ => rfl)⟩
  d_kind_lines := by
      obtain ⟨fd, F⟩ := c.fun_ (List.mem_of_getElem? (i := 17) rfl)
      exact ⟨_, fd, F, He.glo_ok X G (c.all.1 _ (List.mem_of_getElem? (i := 37) rfl)), F.kp, (F.binds fun _ _ _ _ _ _ us hl => match us, hl with | [_], _ => rfl)⟩
  d_Book_init := by
      obtain ⟨fd, F⟩ := c.fun_ (List.mem_of_getElem? (i := 18) rfl)
      exact ⟨_, fd, mk_of' (E _ (List.mem_of_getElem? (i := 29) rfl)), F, He.glo_ok X G (c.all.1 _ (List.mem_of_getElem? (i := 25) rfl))⟩
  d_Book_str := by
      obtain ⟨fd, F⟩ := c.fun_ (List.mem_of_getElem? (i := 19) rfl)
      exact ⟨_, fd, me_of (E _ (List.mem_of_getElem? (i := 30) rfl)), F, (F.binds fun _ _ _ _ _ _ us hl => match us, hl with | [_], _ => rfl)⟩
  d_read_kind := by
      obtain ⟨fd, F⟩ := c.fun_ (List.mem_of_getElem? (i := 20) rfl)
      exact ⟨_, fd, F, He.glo_ok X G (c.all.1 _ (List.mem_of_getElem? (i := 38) rfl)), F.kp, (F.binds fun _ _ _ _ _ _ us hl => match us, hl with | [_], _ => rfl)⟩
  d_read_lines := by
      obtain ⟨fd, F⟩ := c.fun_ (List.mem_of_getElem? (i := 21) rfl)
      exact ⟨_, fd, F, He.glo_ok X G (c.all.1 _ (List.mem_of_getElem? (i := 39) rfl)), F.kp, (F.binds fun _ _ _ _ _ _ us hl => match us, hl with | [_], _ => rfl)⟩
  d_text_book := by
      obtain ⟨fd, F⟩ := c.fun_ (List.mem_of_getElem? (i := 22) rfl)
      exact ⟨_, fd, F, He.glo_ok X G (c.all.1 _ (List.mem_of_getElem? (i := 40) rfl)), F.kp, (F.binds fun _ _ _ _ _ _ us hl => match us, hl with | [_], _ => rfl)⟩
  d_Book_read := by
      obtain ⟨fd, F⟩ := c.fun_ (List.mem_of_getElem? (i := 23) rfl)
      obtain ⟨p1, p2⟩ := cm_of (E _ (List.mem_of_getElem? (i := 31) rfl))
      exact ⟨_, _, _, fd, p1, p2, F, (F.binds fun _ _ _ _ _ _ us hl => match us, hl with | [_, _], _ => rfl)⟩
  d_Book_kinds := by
      obtain ⟨fd, F⟩ := c.fun_ (List.mem_of_getElem? (i := 24) rfl)
      obtain ⟨p1, p2, p3, p4⟩ := pr_of (E _ (List.mem_of_getElem? (i := 32) rfl))
      exact ⟨_, _, fd, p1, p2, p3, p4, F, (F.binds fun _ _ _ _ _ _ us hl => match us, hl with | [_], _ => rfl)⟩
  d_Book_kind_of := by
      obtain ⟨fd, F⟩ := c.fun_ (List.mem_of_getElem? (i := 25) rfl)
      exact ⟨_, fd, me_of (E _ (List.mem_of_getElem? (i := 33) rfl)), F, (F.binds fun _ _ _ _ _ _ us hl => match us, hl with | [_, _], _ => rfl)⟩
  d_Book_changed := by
      obtain ⟨fd, F⟩ := c.fun_ (List.mem_of_getElem? (i := 26) rfl)
      exact ⟨_, fd, me_of (E _ (List.mem_of_getElem? (i := 34) rfl)), F, (F.binds fun _ _ _ _ _ _ us hl => match us, hl with | [_, _], _ => rfl)⟩
  d_Book_eq := by
      obtain ⟨fd, F⟩ := c.fun_ (List.mem_of_getElem? (i := 27) rfl)
      exact ⟨_, fd, me_of (E _ (List.mem_of_getElem? (i := 35) rfl)), F, (F.binds fun _ _ _ _ _ _ us hl => match us, hl with | [_, _], _ => rfl)⟩
  d_Book_repr := by
      obtain ⟨fd, F⟩ := c.fun_ (List.mem_of_getElem? (i := 28) rfl)
      exact ⟨_, fd, me_of (E _ (List.mem_of_getElem? (i := 36) rfl)), F, (F.binds fun _ _ _ _ _ _ us hl => match us, hl with | [_], _ => rfl)⟩
  d_check_book := by
      obtain ⟨fd, F⟩ := c.fun_ (List.mem_of_getElem? (i := 29) rfl)
      exact ⟨_, fd, F, He.glo_ok X G (c.all.1 _ (List.mem_of_getElem? (i := 41) rfl)), F.kp, (F.binds fun _ _ _ _ _ _ us hl => match us, hl with | [_], _ => rfl)⟩
  d_does_fit := by
      obtain ⟨fd, F⟩ := c.fun_ (List.mem_of_getElem? (i := 30) rfl)
      exact ⟨_, fd, F, He.glo_ok X G (c.all.1 _ (List.mem_of_getElem? (i := 42) rfl)), F.kp, (F.binds fun _ _ _ _ _ _ us hl => match us, hl with | [_, _, _], _ => rfl)⟩
  d_stands := by
      obtain ⟨fd, F⟩ := c.fun_ (List.mem_of_getElem? (i := 31) rfl)
      exact ⟨_, fd, F, He.glo_ok X G (c.all.1 _ (List.mem_of_getElem? (i := 43) rfl)), F.kp, (F.binds fun _ _ _ _ _ _ us hl => match us, hl with | [_, _, _], _ => rfl)⟩
  d_check_length := by
      obtain ⟨fd, F⟩ := c.def_ (List.mem_of_getElem? (i := 32) rfl)
      exact ⟨_, fd, F, He.glo_ok X G (c.all.1 _ (List.mem_of_getElem? (i := 44) rfl))⟩
  d_check_station := by
      obtain ⟨fd, F⟩ := c.fun_ (List.mem_of_getElem? (i := 33) rfl)
      exact ⟨_, fd, F, He.glo_ok X G (c.all.1 _ (List.mem_of_getElem? (i := 45) rfl)), F.kp, (F.binds fun _ _ _ _ _ _ us hl => match us, hl with | [_, _, _], _ => rfl)⟩
  d_stops_there := by
      obtain ⟨fd, F⟩ := c.fun_ (List.mem_of_getElem? (i := 34) rfl)
      exact ⟨_, fd, F, He.glo_ok X G (c.all.1 _ (List.mem_of_getElem? (i := 46) rfl)), F.kp, (F.binds fun _ _ _ _ _ _ us hl => match us, hl with | [_, _, _], _ => rfl)⟩
  d_count_stops := by
      obtain ⟨fd, F⟩ := c.fun_ (List.mem_of_getElem? (i := 35) rfl)
      exact ⟨_, fd, F, He.glo_ok X G (c.all.1 _ (List.mem_of_getElem? (i := 47) rfl)), F.kp, (F.binds fun _ _ _ _ _ _ us hl => match us, hl with | [_, _, _, _], _ => rfl)⟩
  d_ride_time := by
      obtain ⟨fd, F⟩ := c.fun_ (List.mem_of_getElem? (i := 36) rfl)
      exact ⟨_, fd, F, He.glo_ok X G (c.all.1 _ (List.mem_of_getElem? (i := 48) rfl)), F.kp, (F.binds fun _ _ _ _ _ _ us hl => match us, hl with | [_, _, _, _], _ => rfl)⟩
  d_Journey_init := by
      obtain ⟨fd, F⟩ := c.fun_ (List.mem_of_getElem? (i := 37) rfl)
      exact ⟨_, fd, mk_of' (E _ (List.mem_of_getElem? (i := 37) rfl)), F, He.glo_ok X G (c.all.1 _ (List.mem_of_getElem? (i := 26) rfl))⟩
  d_Journey_station := by
      obtain ⟨fd, F⟩ := c.fun_ (List.mem_of_getElem? (i := 38) rfl)
      obtain ⟨p1, p2, p3, p4⟩ := pr_of (E _ (List.mem_of_getElem? (i := 38) rfl))
      exact ⟨_, _, fd, p1, p2, p3, p4, F, (F.binds fun _ _ _ _ _ _ us hl => match us, hl with | [_], _ => rfl)⟩
  d_Journey_rides := by
      obtain ⟨fd, F⟩ := c.fun_ (List.mem_of_getElem? (i := 39) rfl)
      obtain ⟨p1, p2, p3, p4⟩ := pr_of (E _ (List.mem_of_getElem? (i := 39) rfl))
      exact ⟨_, _, fd, p1, p2, p3, p4, F, (F.binds fun _ _ _ _ _ _ us hl => match us, hl with | [_], _ => rfl)⟩
  d_Journey_time := by
      obtain ⟨fd, F⟩ := c.fun_ (List.mem_of_getElem? (i := 40) rfl)
      obtain ⟨p1, p2, p3, p4⟩ := pr_of (E _ (List.mem_of_getElem? (i := 40) rfl))
      exact ⟨_, _, fd, p1, p2, p3, p4, F, (F.binds fun _ _ _ _ _ _ us hl => match us, hl with | [_], _ => rfl)⟩
  d_Journey_len := by
      obtain ⟨fd, F⟩ := c.fun_ (List.mem_of_getElem? (i := 41) rfl)
      exact ⟨_, fd, me_of (E _ (List.mem_of_getElem? (i := 41) rfl)), F, (F.binds fun _ _ _ _ _ _ us hl => match us, hl with | [_], _ => rfl)⟩
  d_Journey_bool := by
      obtain ⟨fd, F⟩ := c.fun_ (List.mem_of_getElem? (i := 42) rfl)
      exact ⟨_, fd, me_of (E _ (List.mem_of_getElem? (i := 42) rfl)), F, (F.binds fun _ _ _ _ _ _ us hl => match us, hl with | [_], _ => rfl)⟩
  d_Journey_take := by
      obtain ⟨fd, F⟩ := c.fun_ (List.mem_of_getElem? (i := 43) rfl)
      exact ⟨_, fd, me_of (E _ (List.mem_of_getElem? (i := 43) rfl)), F, (F.binds fun _ _ _ _ _ _ us hl => match us, hl with | [_, _, _], _ => rfl)⟩
  d_Journey_undo := by
      obtain ⟨fd, F⟩ := c.fun_ (List.mem_of_getElem? (i := 44) rfl)
      exact ⟨_, fd, me_of (E _ (List.mem_of_getElem? (i := 44) rfl)), F, (F.binds fun _ _ _ _ _ _ us hl => match us, hl with | [_], _ => rfl)⟩
  d_Journey_trial := by
      obtain ⟨fd, F⟩ := c.fun_ (List.mem_of_getElem? (i := 45) rfl)
      exact ⟨_, fd, me_of (E _ (List.mem_of_getElem? (i := 45) rfl)), F, (F.binds fun _ _ _ _ _ _ us hl => match us, hl with | [_], _ => rfl)⟩
  d_Journey_tried := by
      obtain ⟨fd, F⟩ := c.fun_ (List.mem_of_getElem? (i := 46) rfl)
      exact ⟨_, fd, me_of (E _ (List.mem_of_getElem? (i := 46) rfl)), F, (F.binds fun _ _ _ _ _ _ us hl => match us, hl with | [_, _], _ => rfl)⟩
  d_law_cell := by
      obtain ⟨fd, F⟩ := c.fun_ (List.mem_of_getElem? (i := 47) rfl)
      exact ⟨_, fd, F, He.glo_ok X G (c.all.1 _ (List.mem_of_getElem? (i := 49) rfl)), F.kp, (F.binds fun _ _ _ _ _ _ us hl => match us, hl with | [_, _], _ => rfl)⟩
  d_law_pool := by
      obtain ⟨fd, F⟩ := c.fun_ (List.mem_of_getElem? (i := 48) rfl)
      exact ⟨_, fd, F, He.glo_ok X G (c.all.1 _ (List.mem_of_getElem? (i := 50) rfl)), F.kp, (F.binds fun _ _ _ _ _ _ us hl => match us, hl with | [_], _ => rfl)⟩
  d_law_draw := by
      obtain ⟨fd, F⟩ := c.fun_ (List.mem_of_getElem? (i := 49) rfl)
      exact ⟨_, fd, F, He.glo_ok X G (c.all.1 _ (List.mem_of_getElem? (i := 51) rfl)), F.kp, (F.binds fun _ _ _ _ _ _ us hl => match us, hl with | [_, _], _ => rfl)⟩
  d_law_pick := by
      obtain ⟨fd, F⟩ := c.fun_ (List.mem_of_getElem? (i := 50) rfl)
      exact ⟨_, fd, F, He.glo_ok X G (c.all.1 _ (List.mem_of_getElem? (i := 52) rfl)), F.kp, (F.binds fun _ _ _ _ _ _ us hl => match us, hl with | [_, _], _ => rfl)⟩
  d_law_great := by
      obtain ⟨fd, F⟩ := c.fun_ (List.mem_of_getElem? (i := 51) rfl)
      exact ⟨_, fd, F, He.glo_ok X G (c.all.1 _ (List.mem_of_getElem? (i := 53) rfl)), F.kp, (F.binds fun _ _ _ _ _ _ us hl => match us, hl with | [_], _ => rfl)⟩
  d_law_words := by
      obtain ⟨fd, F⟩ := c.fun_ (List.mem_of_getElem? (i := 52) rfl)
      exact ⟨_, fd, F, He.glo_ok X G (c.all.1 _ (List.mem_of_getElem? (i := 54) rfl)), F.kp, (F.binds fun _ _ _ _ _ _ us hl => match us, hl with | [], _ => rfl)⟩
  d_law_tag := by
      obtain ⟨fd, F⟩ := c.fun_ (List.mem_of_getElem? (i := 53) rfl)
      exact ⟨_, fd, F, He.glo_ok X G (c.all.1 _ (List.mem_of_getElem? (i := 55) rfl)), F.kp, (F.binds fun _ _ _ _ _ _ us hl => match us, hl with | [_], _ => rfl)⟩
  d_law_tags := by
      obtain ⟨fd, F⟩ := c.fun_ (List.mem_of_getElem? (i := 54) rfl)
      exact ⟨_, fd, F, He.glo_ok X G (c.all.1 _ (List.mem_of_getElem? (i := 56) rfl)), F.kp, (F.binds fun _ _ _ _ _ _ us hl => match us, hl with | [_, _], _ => rfl)⟩
  d_law_mark := by
      obtain ⟨fd, F⟩ := c.fun_ (List.mem_of_getElem? (i := 55) rfl)
      exact ⟨_, fd, F, He.glo_ok X G (c.all.1 _ (List.mem_of_getElem? (i := 57) rfl)), F.kp, (F.binds fun _ _ _ _ _ _ us hl => match us, hl with | [_, _], _ => rfl)⟩
  d_law_minutes := by
      obtain ⟨fd, F⟩ := c.fun_ (List.mem_of_getElem? (i := 56) rfl)
      exact ⟨_, fd, F, He.glo_ok X G (c.all.1 _ (List.mem_of_getElem? (i := 58) rfl)), F.kp, (F.binds fun _ _ _ _ _ _ us hl => match us, hl with | [_, _], _ => rfl)⟩
  d_law_kind := by
      obtain ⟨fd, F⟩ := c.fun_ (List.mem_of_getElem? (i := 57) rfl)
      exact ⟨_, fd, F, He.glo_ok X G (c.all.1 _ (List.mem_of_getElem? (i := 59) rfl)), F.kp, (F.binds fun _ _ _ _ _ _ us hl => match us, hl with | [_, _, _], _ => rfl)⟩
  d_law_scheme := by
      obtain ⟨fd, F⟩ := c.fun_ (List.mem_of_getElem? (i := 58) rfl)
      exact ⟨_, fd, F, He.glo_ok X G (c.all.1 _ (List.mem_of_getElem? (i := 60) rfl)), F.kp, (F.binds fun _ _ _ _ _ _ us hl => match us, hl with | [_, _], _ => rfl)⟩
  d_law_text := by
      obtain ⟨fd, F⟩ := c.fun_ (List.mem_of_getElem? (i := 59) rfl)
      exact ⟨_, fd, F, He.glo_ok X G (c.all.1 _ (List.mem_of_getElem? (i := 61) rfl)), F.kp, (F.binds fun _ _ _ _ _ _ us hl => match us, hl with | [_], _ => rfl)⟩
  d_law_things := by
      obtain ⟨fd, F⟩ := c.fun_ (List.mem_of_getElem? (i := 60) rfl)
      exact ⟨_, fd, F, He.glo_ok X G (c.all.1 _ (List.mem_of_getElem? (i := 62) rfl)), F.kp, (F.binds fun _ _ _ _ _ _ us hl => match us, hl with | [_], _ => rfl)⟩
  d_law_made := by
      obtain ⟨fd, F⟩ := c.fun_ (List.mem_of_getElem? (i := 61) rfl)
      exact ⟨_, fd, F, He.glo_ok X G (c.all.1 _ (List.mem_of_getElem? (i := 63) rfl)), F.kp, (F.binds fun _ _ _ _ _ _ us hl => match us, hl with | [_, _], _ => rfl)⟩
  d_law_spans := by
      obtain ⟨fd, F⟩ := c.fun_ (List.mem_of_getElem? (i := 62) rfl)
      exact ⟨_, fd, F, He.glo_ok X G (c.all.1 _ (List.mem_of_getElem? (i := 64) rfl)), F.kp, (F.binds fun _ _ _ _ _ _ us hl => match us, hl with | [_], _ => rfl)⟩
  d_law_common := by
      obtain ⟨fd, F⟩ := c.fun_ (List.mem_of_getElem? (i := 63) rfl)
      exact ⟨_, fd, F, He.glo_ok X G (c.all.1 _ (List.mem_of_getElem? (i := 65) rfl)), F.kp, (F.binds fun _ _ _ _ _ _ us hl => match us, hl with | [_], _ => rfl)⟩
  d_law_fits := by
      obtain ⟨fd, F⟩ := c.fun_ (List.mem_of_getElem? (i := 64) rfl)
      exact ⟨_, fd, F, He.glo_ok X G (c.all.1 _ (List.mem_of_getElem? (i := 66) rfl)), F.kp, (F.binds fun _ _ _ _ _ _ us hl => match us, hl with | [_, _, _], _ => rfl)⟩
  d_law_calls := by
      obtain ⟨fd, F⟩ := c.fun_ (List.mem_of_getElem? (i := 65) rfl)
      exact ⟨_, fd, F, He.glo_ok X G (c.all.1 _ (List.mem_of_getElem? (i := 67) rfl)), F.kp, (F.binds fun _ _ _ _ _ _ us hl => match us, hl with | [_, _, _], _ => rfl)⟩
  d_law_count := by
      obtain ⟨fd, F⟩ := c.fun_ (List.mem_of_getElem? (i := 66) rfl)
      exact ⟨_, fd, F, He.glo_ok X G (c.all.1 _ (List.mem_of_getElem? (i := 68) rfl)), F.kp, (F.binds fun _ _ _ _ _ _ us hl => match us, hl with | [_, _, _, _], _ => rfl)⟩
  d_law_ride_time := by
      obtain ⟨fd, F⟩ := c.fun_ (List.mem_of_getElem? (i := 67) rfl)
      exact ⟨_, fd, F, He.glo_ok X G (c.all.1 _ (List.mem_of_getElem? (i := 69) rfl)), F.kp, (F.binds fun _ _ _ _ _ _ us hl => match us, hl with | [_, _, _, _], _ => rfl)⟩
  d_law_near := by
      obtain ⟨fd, F⟩ := c.fun_ (List.mem_of_getElem? (i := 68) rfl)
      exact ⟨_, fd, F, He.glo_ok X G (c.all.1 _ (List.mem_of_getElem? (i := 70) rfl)), F.kp, (F.binds fun _ _ _ _ _ _ us hl => match us, hl with | [_, _], _ => rfl)⟩
  d_law_stage := by
      obtain ⟨fd, F⟩ := c.fun_ (List.mem_of_getElem? (i := 69) rfl)
      exact ⟨_, fd, F, He.glo_ok X G (c.all.1 _ (List.mem_of_getElem? (i := 71) rfl)), F.kp, (F.binds fun _ _ _ _ _ _ us hl => match us, hl with | [_, _], _ => rfl)⟩
  d_law_some_ride := by
      obtain ⟨fd, F⟩ := c.fun_ (List.mem_of_getElem? (i := 70) rfl)
      exact ⟨_, fd, F, He.glo_ok X G (c.all.1 _ (List.mem_of_getElem? (i := 72) rfl)), F.kp, (F.binds fun _ _ _ _ _ _ us hl => match us, hl with | [_, _, _, _], _ => rfl)⟩
  d_law_journey_seen := by
      obtain ⟨fd, F⟩ := c.fun_ (List.mem_of_getElem? (i := 71) rfl)
      exact ⟨_, fd, F, He.glo_ok X G (c.all.1 _ (List.mem_of_getElem? (i := 73) rfl)), F.kp, (F.binds fun _ _ _ _ _ _ us hl => match us, hl with | [_], _ => rfl)⟩
  d_law_journey_due := by
      obtain ⟨fd, F⟩ := c.fun_ (List.mem_of_getElem? (i := 72) rfl)
      exact ⟨_, fd, F, He.glo_ok X G (c.all.1 _ (List.mem_of_getElem? (i := 74) rfl)), F.kp, (F.binds fun _ _ _ _ _ _ us hl => match us, hl with | [_, _], _ => rfl)⟩
  d_law_rode := by
      obtain ⟨fd, F⟩ := c.fun_ (List.mem_of_getElem? (i := 73) rfl)
      exact ⟨_, fd, F, He.glo_ok X G (c.all.1 _ (List.mem_of_getElem? (i := 75) rfl)), F.kp, (F.binds fun _ _ _ _ _ _ us hl => match us, hl with | [_, _, _, _, _], _ => rfl)⟩
  d_law_here := by
      obtain ⟨fd, F⟩ := c.fun_ (List.mem_of_getElem? (i := 74) rfl)
      exact ⟨_, fd, F, He.glo_ok X G (c.all.1 _ (List.mem_of_getElem? (i := 76) rfl)), F.kp, (F.binds fun _ _ _ _ _ _ us hl => match us, hl with | [_, _], _ => rfl)⟩
  d_law_right := by
      obtain ⟨fd, F⟩ := c.fun_ (List.mem_of_getElem? (i := 75) rfl)
      exact ⟨_, fd, F, He.glo_ok X G (c.all.1 _ (List.mem_of_getElem? (i := 77) rfl)), F.kp, (F.binds fun _ _ _ _ _ _ us hl => match us, hl with | [_], _ => rfl)⟩
  d_law := by
      obtain ⟨fd, F⟩ := c.fun_ (List.mem_of_getElem? (i := 76) rfl)
      exact ⟨_, fd, F, He.glo_ok X G (c.all.1 _ (List.mem_of_getElem? (i := 78) rfl)), F.kp, (F.binds fun _ _ _ _ _ _ us hl => match us, hl with | [_], _ => rfl)⟩ }
end TS
open PySem PySem.W PySem.Calls PyProof.Rows
theorem PySem.Challenge.cw_turnstops_k55_journeys_led_ride_by_ride_holds : PySem.Challenge.rw_turnstops_k55_journeys_led_ride_by_ride.Holds := by
  w_on; o_law
  refine HandSHeadRun.head_any (r := OpenLaw.row PySem.Challenge.rw_turnstops_k55_journeys_led_ride_by_ride) (q := view (OpenLaw.row PySem.Challenge.rw_turnstops_k55_journeys_led_ride_by_ride).prog [80]) (H := TS.hkm) (ob := TS.obm) (M := 40000) (loose := TS.loo) (d := HandSHeadRun.topDef (OpenLaw.row PySem.Challenge.rw_turnstops_k55_journeys_led_ride_by_ride).prog 80) (kwd := []) TS.obm_eq
    (by kernel_rfl) (fun s => by kernel_rfl) TS.runm (by kernel_rfl) (by kernel_rfl) (by kernel_rfl) (by rfl) (by first | assumption | decide +kernel) (by decide +kernel) ⟨rfl, rfl, rfl, rfl, rfl, by decide +kernel⟩ ?hw ?hc
  case hw => w_witness2
  case hc =>
    refine L3.walk_ofG (l := PySem.Challenge.rw_turnstops_k55_journeys_led_ride_by_ride) (n := 63) (k := 13) (x := "_law_script") rfl (by decide) (by kernel_rfl) ⟨rfl, by decide, by decide⟩ ?F
    intro w mg fa h Y G hmg0
    obtain ⟨K, KX, c⟩ := Y
    have hmg : mg ("law" : PySem.Str) = some (.ref fa) := by
      have e : (HandSHeadRun.topDef (OpenLaw.row PySem.Challenge.rw_turnstops_k55_journeys_led_ride_by_ride).prog 80).name = ("law" : PySem.Str) := by kernel_rfl
      rw [← e]
      exact hmg0
    obtain ⟨fd, F0⟩ := c.def_ (d := L3.dfA (fun K => He.ga K "law") "law" "law" TS.s_law) (List.mem_of_getElem? (i := 76) rfl)
    have F0 : L2.FunD K "law" "law" (L2.defArgs TS.s_law) (L2.defBody TS.s_law) (L2.defScope TS.s_law) [] [] (He.ga K "law") fd := F0
    have F : L2.Fun K "law" "law" TS.s_law (He.ga K "law") fd := He5.fun_of F0
    have e := hmg.symm.trans (He.glo_ok KX G (c.all.1 (.glo "law") (List.mem_of_getElem? (i := 78) rfl)))
    cases e
    have b := L2.FunD.bindsA (ps := ["_law_script"]) F0 fun _ _ _ _ _ _ us hl => match us, hl with | [_], _ => rfl
    exact ⟨K, fd, TS.sp_law, KX, fun s v => b s [v] rfl, TS.law_end, fun base _ _ => TS.g_law (TS.txt KX G c) F⟩
