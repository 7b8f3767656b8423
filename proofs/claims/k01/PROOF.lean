import PyProof.Rows.All
import Wide.All
import OpenK.AllK
import Wide.FinOn
import KE.KStateDown
import HandS.ForMost
import HandS.ForExc
import HandS.CallSlots
import HandS.Slots
import HandS.SlotsOwn
import HandS.Property
import HandS.ClsMeth
import HandS.Defaults
import HandS.MakeKw
import HandS.MakeKwOnly
import HandS.Flow
import HandS.IsInst
import HandS.FStr
import HandS.RaiseMore
import HandS.Zip
import HandS.ExcInit
import HandS.ExcField
import HandS.ExcIs
import HandS.ExcValue
import HandS.Star
import HandS.Wide
import HandS.WideBits
import HandS.Conv
import HandS.TupAny
import HandS.StrMore
import HandS.TryMany
import HandS.Style
import HandS.Head4
import HandS.HeadHook4
import HandS.HeadWalk
import HandS.HeadNt
import HandS.EndBits
import HandS.HeadEnd
import HandS.HeadHook3
import KE.GoesEnum
import KE.KxText
import PyProof.ReprLen
import PyProof.FitsInt
import HandS.TryOnly
import HandS.Dict
import HandS.Deep
import KE.IntTextLaws
import KE.IntTextText
import PyProof.InstNe
import PyProof.EqKinds
import PyProof.Ascii
import HandS.Comp
import KE.KExcInit
import HandS.Text
import HandS.DictComp
import HandS.Replace
import HandS.ReplaceLit
import PyProof.LongRange
import OpenK.KOps
import PyProof.SumAnyB
import HandS.ExcOwn
import HandS.Small
import KE.GoesMore
import KE.GoesZip
import HandS.WrittenGet
import HandS.FltList
import HandS.NamedTupGet
import HandS.DictTup
import HandS.TupLe
import KE.DataMinMax
import HandS.CallLocal
import HandS.Lambda
import KE.KExcIs
import KE.KTryMore
import PySem.Challenge.RW_turnstops_k01_constants_and_errors
set_option Elab.async false
set_option linter.all false
set_option maxRecDepth 100000
set_option maxHeartbeats 4000000
namespace L3
open PySem PySem.Spec PyProof.Rows L2 PySem.Calls
section
open He He5
variable {K : PySem.W.Frag} {C C' : Addr} {f m : Str} {i : Nat}
def obsM (fa : List Fa) (fn : List DefA) (ex : PySem.W.Frag → Bool) (K : PySem.W.Frag) : AlD := ((fa.all fun f => f.ok K) && ((fn.all fun d => d.ok K) && ex K), fn.map fun d => fnA K (d.at_ K))
def SaysM (fa : List Fa) (fn : List DefA) (ex : PySem.W.Frag → Bool) (K : PySem.W.Frag) : Prop := obsM fa fn ex K = valA fn
def dfA (at_ : PySem.W.Frag → Addr) (name qual : Str) (st : Stmt) : DefA := ⟨at_, name, qual, defArgs st, defBody st, defScope st, [], []⟩
def sysB (K : PySem.W.Frag) : Bool := match K.lookup sysModules with
  | some ⟨.type n, _, _, _⟩ => n != "list"
  | _ => false
def xshB (K : PySem.W.Frag) (C : Addr) (new : String) (tail : List Value → Bool) : Bool := match K.lookup C with
  | some ⟨.type "type", _, .cls cd, sl⟩ => (match cd.mro, sl.toList with
    | .ref C' :: bm, [_, _, _, _, some (.builtin n), _] => C' == C && (n == new && (cd.hasDict && (!cd.hasDel && tail bm)))
    | _, _ => false)
  | _ => false
def xcB (K : PySem.W.Frag) (C : Addr) (f : Str) : Bool := xshB K C "ValueError.__new__" PySem.HandSPX.refsVE && (eqO (PySem.W.findIn K (.ref C) "__setattr__") (some (some (.builtin "object.__setattr__"))) && (decide (PySem.W.subIn K (.ref C) (.type "BaseException") = some true) &&
  (decide (PySem.W.typeIn K (.ref C) = some (.type "type")) && (PySem.W.keepIn K (.ref C) && (xfB K C && (decide (PySem.W.findIn K (.ref C) f = some none) && (eqO (PySem.W.findIn K (.ref C) "__init__") (some (some (.ref (ma K C "__init__")))) &&
  decide (PySem.W.typeIn K (.ref (ma K C "__init__")) = some (.type "function")))))))))
structure ERoot where
  B : String
  newId : String
  initId : String
  tail : List Value
def rootLE : ERoot := ⟨"LookupError", "LookupError.__new__", "LookupError.__init__", [.type "LookupError", .type "Exception", .type "BaseException", .type "object"]⟩
def rootAE : ERoot := ⟨"ArithmeticError", "ArithmeticError.__new__", "ArithmeticError.__init__", [.type "ArithmeticError", .type "Exception", .type "BaseException", .type "object"]⟩
def refsR (t : List Value) : List Value → Bool
  | .ref _ :: r => refsR t r
  | l => l == t
def xcRB (R : ERoot) (K : PySem.W.Frag) (C : Addr) (f : Str) : Bool := xshB K C R.newId (refsR R.tail) && (eqO (PySem.W.findIn K (.ref C) "__setattr__") (some (some (.builtin "object.__setattr__"))) && (decide (PySem.W.subIn K (.ref C) (.type "BaseException") = some true) &&
  (decide (PySem.W.typeIn K (.ref C) = some (.type "type")) && (PySem.W.keepIn K (.ref C) && (xfB K C && (decide (PySem.W.findIn K (.ref C) f = some none) && (eqO (PySem.W.findIn K (.ref C) "__init__") (some (some (.ref (ma K C "__init__")))) &&
  decide (PySem.W.typeIn K (.ref (ma K C "__init__")) = some (.type "function")))))))))
def exB (K : PySem.W.Frag) (C C' : Addr) (b : Bool) : Bool := decide (PySem.W.exmOne K (.ref C) (.ref C') = some b)
end
end L3
set_option Elab.async false
set_option linter.all false
set_option maxRecDepth 100000
set_option maxHeartbeats 4000000
namespace L3
open PySem PySem.Spec PyProof.Rows L2 PySem.Calls
section
open He He5
end
end L3
set_option Elab.async false
set_option linter.all false
set_option maxRecDepth 100000
set_option maxHeartbeats 4000000
namespace L3
open PySem PySem.Spec PyProof.Rows L2 PySem.Calls
section
open He He5
def xc0B (R : ERoot) (K : PySem.W.Frag) (C : Addr) : Bool := PySem.W.excIn K C R.tail R.newId && (PySem.W.keepIn K (.ref C) && (decide (PySem.W.subIn K (.ref C) (.type "BaseException") = some true) && decide (PySem.W.typeIn K (.ref C) = some (.type "type"))))
end
end L3
set_option Elab.async false
set_option linter.all false
set_option maxRecDepth 100000
set_option maxHeartbeats 4000000
namespace L3
open PySem PySem.Spec PyProof.Rows L2 PySem.Calls
section
open He He5
end
end L3
set_option Elab.async false
set_option linter.all false
set_option maxRecDepth 100000
set_option maxHeartbeats 4000000
namespace L3
open PySem PySem.Spec PyProof.Rows L2 PySem.Calls
section
open He He5
end
end L3
set_option Elab.async false
set_option linter.all false
set_option maxRecDepth 100000
set_option maxHeartbeats 4000000
namespace L3
open PySem PySem.Spec PyProof.Rows L2 PySem.Calls
section
open He He5
def xisB (K : PySem.W.Frag) (C : Addr) : Bool := eqO (PySem.W.findIn K (.ref C) "__getattribute__") (some (some (.builtin "BaseException.__getattribute__"))) && (decide (PySem.W.findIn K (.ref C) "__getattr__" = some none) && (decide (PySem.W.subIn K (.ref C) (.type "BaseException") = some true) &&
  (PySem.W.hasDictIn K C && (eqO (PySem.W.findIn K (.ref C) "__class__") (some (some (.builtin "object.__class__"))) && (eqO (PySem.W.specialIn K (.builtin "object.__class__") "__get__") (some (some (.builtin "getset_descriptor.__get__"))) &&
  (decide (PySem.W.takesIn K (.builtin "object.__class__") = some true) && decide (PySem.W.mroIn K C (.type "object") = some true)))))))
def kiB (K : PySem.W.Frag) (C : Addr) (v : Value) (b : Bool) : Bool := decide (PySem.W.kitOne K (.ref C) v = some b)
end
end L3
set_option Elab.async false
set_option linter.all false
set_option maxRecDepth 100000
set_option maxHeartbeats 4000000
namespace TS
open PySem PySem.Spec PyProof.Rows L2 L3
def topS (i : Nat) : Stmt := PySem.Challenge.pw_turnstops_k01_constants_and_errors.main.body.getD i (.Pass ⟨0, 0, 0, 0⟩)
def inClass (st : Stmt) (i : Nat) : Stmt := (match st with | .ClassDef (body := b) .. => b | _ => []).getD i (.Pass ⟨0, 0, 0, 0⟩)
abbrev s_law_cell : Stmt := topS 27
abbrev N_law_cell : List Str := ["_law_script", "_law_spot", "_law_state", "_law_cell_here"]
theorem sc_law_cell : FnScope N_law_cell ["_law_script", "_law_spot"] (defScope s_law_cell) := ⟨rfl, rfl, rfl, by decide +kernel, rfl, by decide +kernel, by decide +kernel⟩
abbrev s_law_pool : Stmt := topS 28
abbrev N_law_pool : List Str := ["_law_cell_here"]
theorem sc_law_pool : FnScope N_law_pool ["_law_cell_here"] (defScope s_law_pool) := ⟨rfl, rfl, rfl, by decide +kernel, rfl, by decide +kernel, by decide +kernel⟩
abbrev s_law_draw : Stmt := topS 29
abbrev N_law_draw : List Str := ["_law_pool_here", "_law_many", "_law_digit", "_law_state"]
theorem sc_law_draw : FnScope N_law_draw ["_law_pool_here", "_law_many"] (defScope s_law_draw) := ⟨rfl, rfl, rfl, by decide +kernel, rfl, by decide +kernel, by decide +kernel⟩
abbrev s_law_pick : Stmt := topS 30
abbrev N_law_pick : List Str := ["_law_pool_here", "_law_things"]
theorem sc_law_pick : FnScope N_law_pick ["_law_pool_here", "_law_things"] (defScope s_law_pick) := ⟨rfl, rfl, rfl, by decide +kernel, rfl, by decide +kernel, by decide +kernel⟩
abbrev s_law_odd : Stmt := topS 31
abbrev N_law_odd : List Str := ["_law_pool_here", "_law_many", "_law_menu"]
theorem sc_law_odd : FnScope N_law_odd ["_law_pool_here"] (defScope s_law_odd) := ⟨rfl, rfl, rfl, by decide +kernel, rfl, by decide +kernel, by decide +kernel⟩
abbrev s_law_valued : Stmt := topS 32
abbrev N_law_valued : List Str := ["_law_k", "_law_thing", "_law_by_position"]
theorem sc_law_valued : FnScope N_law_valued ["_law_k", "_law_thing", "_law_by_position"] (defScope s_law_valued) := ⟨rfl, rfl, rfl, by decide +kernel, rfl, by decide +kernel, by decide +kernel⟩
abbrev s_law_further : Stmt := topS 33
abbrev N_law_further : List Str := ["_law_k", "_law_thing", "_law_by_position"]
theorem sc_law_further : FnScope N_law_further ["_law_k", "_law_thing", "_law_by_position"] (defScope s_law_further) := ⟨rfl, rfl, rfl, by decide +kernel, rfl, by decide +kernel, by decide +kernel⟩
abbrev s_law_sorts : Stmt := topS 34
abbrev N_law_sorts : List Str := ["_law_e", "_law_found"]
theorem sc_law_sorts : FnScope N_law_sorts ["_law_e"] (defScope s_law_sorts) := ⟨rfl, rfl, rfl, by decide +kernel, rfl, by decide +kernel, by decide +kernel⟩
abbrev s_law_bases : Stmt := topS 35
abbrev N_law_bases : List Str := ["_law_e", "_law_found"]
theorem sc_law_bases : FnScope N_law_bases ["_law_e"] (defScope s_law_bases) := ⟨rfl, rfl, rfl, by decide +kernel, rfl, by decide +kernel, by decide +kernel⟩
abbrev s_law_is_right : Stmt := topS 36
abbrev N_law_is_right : List Str := ["_law_k", "_law_thing", "_law_by_position", "_law_e", "_law_group", "_law_held", "_law_at"]
theorem sc_law_is_right : FnScope N_law_is_right ["_law_k", "_law_thing", "_law_by_position"] (defScope s_law_is_right) := ⟨rfl, rfl, rfl, by decide +kernel, rfl, by decide +kernel, by decide +kernel⟩
abbrev s_law_right : Stmt := topS 37
abbrev N_law_right : List Str := ["_law_pool_here", "_law_k", "_law_thing"]
theorem sc_law_right : FnScope N_law_right ["_law_pool_here"] (defScope s_law_right) := ⟨rfl, rfl, rfl, by decide +kernel, rfl, by decide +kernel, by decide +kernel⟩
abbrev s_law : Stmt := topS 38
abbrev N_law : List Str := ["_law_script", "_law_spot"]
theorem sc_law : FnScope N_law ["_law_script"] (defScope s_law) := ⟨rfl, rfl, rfl, by decide +kernel, rfl, by decide +kernel, by decide +kernel⟩
abbrev s_InvalidName_init : Stmt := inClass (topS 2) 0
abbrev N_InvalidName_init : List Str := ["self", "given"]
theorem sc_InvalidName_init : FnScope N_InvalidName_init ["self", "given"] (defScope s_InvalidName_init) := ⟨rfl, rfl, rfl, by decide +kernel, rfl, by decide +kernel, by decide +kernel⟩
abbrev s_InvalidMinutes_init : Stmt := inClass (topS 3) 0
abbrev N_InvalidMinutes_init : List Str := ["self", "given"]
theorem sc_InvalidMinutes_init : FnScope N_InvalidMinutes_init ["self", "given"] (defScope s_InvalidMinutes_init) := ⟨rfl, rfl, rfl, by decide +kernel, rfl, by decide +kernel, by decide +kernel⟩
abbrev s_InvalidText_init : Stmt := inClass (topS 4) 0
abbrev N_InvalidText_init : List Str := ["self", "given"]
theorem sc_InvalidText_init : FnScope N_InvalidText_init ["self", "given"] (defScope s_InvalidText_init) := ⟨rfl, rfl, rfl, by decide +kernel, rfl, by decide +kernel, by decide +kernel⟩
abbrev s_InvalidLength_init : Stmt := inClass (topS 5) 0
abbrev N_InvalidLength_init : List Str := ["self", "given"]
theorem sc_InvalidLength_init : FnScope N_InvalidLength_init ["self", "given"] (defScope s_InvalidLength_init) := ⟨rfl, rfl, rfl, by decide +kernel, rfl, by decide +kernel, by decide +kernel⟩
abbrev s_InvalidStation_init : Stmt := inClass (topS 6) 0
abbrev N_InvalidStation_init : List Str := ["self", "given"]
theorem sc_InvalidStation_init : FnScope N_InvalidStation_init ["self", "given"] (defScope s_InvalidStation_init) := ⟨rfl, rfl, rfl, by decide +kernel, rfl, by decide +kernel, by decide +kernel⟩
abbrev s_InvalidNumber_init : Stmt := inClass (topS 7) 0
abbrev N_InvalidNumber_init : List Str := ["self", "given"]
theorem sc_InvalidNumber_init : FnScope N_InvalidNumber_init ["self", "given"] (defScope s_InvalidNumber_init) := ⟨rfl, rfl, rfl, by decide +kernel, rfl, by decide +kernel, by decide +kernel⟩
abbrev s_InvalidWish_init : Stmt := inClass (topS 8) 0
abbrev N_InvalidWish_init : List Str := ["self", "given"]
theorem sc_InvalidWish_init : FnScope N_InvalidWish_init ["self", "given"] (defScope s_InvalidWish_init) := ⟨rfl, rfl, rfl, by decide +kernel, rfl, by decide +kernel, by decide +kernel⟩
abbrev s_InvalidIndex_init : Stmt := inClass (topS 9) 0
abbrev N_InvalidIndex_init : List Str := ["self", "given"]
theorem sc_InvalidIndex_init : FnScope N_InvalidIndex_init ["self", "given"] (defScope s_InvalidIndex_init) := ⟨rfl, rfl, rfl, by decide +kernel, rfl, by decide +kernel, by decide +kernel⟩
abbrev s_NotBook_init : Stmt := inClass (topS 10) 0
abbrev N_NotBook_init : List Str := ["self", "given"]
theorem sc_NotBook_init : FnScope N_NotBook_init ["self", "given"] (defScope s_NotBook_init) := ⟨rfl, rfl, rfl, by decide +kernel, rfl, by decide +kernel, by decide +kernel⟩
abbrev s_InvalidRows_init : Stmt := inClass (topS 11) 0
abbrev N_InvalidRows_init : List Str := ["self", "index"]
theorem sc_InvalidRows_init : FnScope N_InvalidRows_init ["self", "index"] (defScope s_InvalidRows_init) := ⟨rfl, rfl, rfl, by decide +kernel, rfl, by decide +kernel, by decide +kernel⟩
abbrev s_InvalidKinds_init : Stmt := inClass (topS 12) 0
abbrev N_InvalidKinds_init : List Str := ["self", "index"]
theorem sc_InvalidKinds_init : FnScope N_InvalidKinds_init ["self", "index"] (defScope s_InvalidKinds_init) := ⟨rfl, rfl, rfl, by decide +kernel, rfl, by decide +kernel, by decide +kernel⟩
abbrev s_InvalidChanges_init : Stmt := inClass (topS 13) 0
abbrev N_InvalidChanges_init : List Str := ["self", "index"]
theorem sc_InvalidChanges_init : FnScope N_InvalidChanges_init ["self", "index"] (defScope s_InvalidChanges_init) := ⟨rfl, rfl, rfl, by decide +kernel, rfl, by decide +kernel, by decide +kernel⟩
abbrev s_InvalidWishes_init : Stmt := inClass (topS 14) 0
abbrev N_InvalidWishes_init : List Str := ["self", "index"]
theorem sc_InvalidWishes_init : FnScope N_InvalidWishes_init ["self", "index"] (defScope s_InvalidWishes_init) := ⟨rfl, rfl, rfl, by decide +kernel, rfl, by decide +kernel, by decide +kernel⟩
abbrev s_UnknownName_init : Stmt := inClass (topS 16) 0
abbrev N_UnknownName_init : List Str := ["self", "given"]
theorem sc_UnknownName_init : FnScope N_UnknownName_init ["self", "given"] (defScope s_UnknownName_init) := ⟨rfl, rfl, rfl, by decide +kernel, rfl, by decide +kernel, by decide +kernel⟩
abbrev s_InUse_init : Stmt := inClass (topS 17) 0
abbrev N_InUse_init : List Str := ["self", "index"]
theorem sc_InUse_init : FnScope N_InUse_init ["self", "index"] (defScope s_InUse_init) := ⟨rfl, rfl, rfl, by decide +kernel, rfl, by decide +kernel, by decide +kernel⟩
abbrev s_NoStop_init : Stmt := inClass (topS 19) 0
abbrev N_NoStop_init : List Str := ["self", "given"]
theorem sc_NoStop_init : FnScope N_NoStop_init ["self", "given"] (defScope s_NoStop_init) := ⟨rfl, rfl, rfl, by decide +kernel, rfl, by decide +kernel, by decide +kernel⟩
abbrev s_Broken_init : Stmt := inClass (topS 21) 0
abbrev N_Broken_init : List Str := ["self", "index"]
theorem sc_Broken_init : FnScope N_Broken_init ["self", "index"] (defScope s_Broken_init) := ⟨rfl, rfl, rfl, by decide +kernel, rfl, by decide +kernel, by decide +kernel⟩
def kiL_InvalidName (ax : Str → Addr) : List (Value × Bool) := [(.ref (ax "InvalidName"), true), (.ref (ax "InvalidMinutes"), false), (.ref (ax "InvalidText"), false), (.ref (ax "WrongValue"), true), (.ref (ax "WrongName"), false), (.ref (ax "NotPossible"), false), (.ref (ax "InvalidLength"), false), (.ref (ax "InvalidStation"), false), (.ref (ax "InvalidNumber"), false), (.ref (ax "InvalidWish"), false), (.ref (ax "InvalidIndex"), false), (.ref (ax "NotBook"), false), (.ref (ax "InvalidRows"), false), (.ref (ax "InvalidKinds"), false), (.ref (ax "InvalidChanges"), false), (.ref (ax "InvalidWishes"), false), (.ref (ax "UnknownName"), false), (.ref (ax "InUse"), false), (.ref (ax "NoStop"), false), (.ref (ax "NothingToUndo"), false), (.ref (ax "Broken"), false), (.type "ValueError", true), (.type "LookupError", false), (.type "ArithmeticError", false)]
def kiL_InvalidMinutes (ax : Str → Addr) : List (Value × Bool) := [(.ref (ax "InvalidName"), false), (.ref (ax "InvalidMinutes"), true), (.ref (ax "InvalidText"), false), (.ref (ax "WrongValue"), true), (.ref (ax "WrongName"), false), (.ref (ax "NotPossible"), false), (.ref (ax "InvalidLength"), false), (.ref (ax "InvalidStation"), false), (.ref (ax "InvalidNumber"), false), (.ref (ax "InvalidWish"), false), (.ref (ax "InvalidIndex"), false), (.ref (ax "NotBook"), false), (.ref (ax "InvalidRows"), false), (.ref (ax "InvalidKinds"), false), (.ref (ax "InvalidChanges"), false), (.ref (ax "InvalidWishes"), false), (.ref (ax "UnknownName"), false), (.ref (ax "InUse"), false), (.ref (ax "NoStop"), false), (.ref (ax "NothingToUndo"), false), (.ref (ax "Broken"), false), (.type "ValueError", true), (.type "LookupError", false), (.type "ArithmeticError", false)]
def kiL_InvalidText (ax : Str → Addr) : List (Value × Bool) := [(.ref (ax "InvalidName"), false), (.ref (ax "InvalidMinutes"), false), (.ref (ax "InvalidText"), true), (.ref (ax "WrongValue"), true), (.ref (ax "WrongName"), false), (.ref (ax "NotPossible"), false), (.ref (ax "InvalidLength"), false), (.ref (ax "InvalidStation"), false), (.ref (ax "InvalidNumber"), false), (.ref (ax "InvalidWish"), false), (.ref (ax "InvalidIndex"), false), (.ref (ax "NotBook"), false), (.ref (ax "InvalidRows"), false), (.ref (ax "InvalidKinds"), false), (.ref (ax "InvalidChanges"), false), (.ref (ax "InvalidWishes"), false), (.ref (ax "UnknownName"), false), (.ref (ax "InUse"), false), (.ref (ax "NoStop"), false), (.ref (ax "NothingToUndo"), false), (.ref (ax "Broken"), false), (.type "ValueError", true), (.type "LookupError", false), (.type "ArithmeticError", false)]
def kiL_InvalidLength (ax : Str → Addr) : List (Value × Bool) := [(.ref (ax "InvalidName"), false), (.ref (ax "InvalidMinutes"), false), (.ref (ax "InvalidText"), false), (.ref (ax "WrongValue"), true), (.ref (ax "WrongName"), false), (.ref (ax "NotPossible"), false), (.ref (ax "InvalidLength"), true), (.ref (ax "InvalidStation"), false), (.ref (ax "InvalidNumber"), false), (.ref (ax "InvalidWish"), false), (.ref (ax "InvalidIndex"), false), (.ref (ax "NotBook"), false), (.ref (ax "InvalidRows"), false), (.ref (ax "InvalidKinds"), false), (.ref (ax "InvalidChanges"), false), (.ref (ax "InvalidWishes"), false), (.ref (ax "UnknownName"), false), (.ref (ax "InUse"), false), (.ref (ax "NoStop"), false), (.ref (ax "NothingToUndo"), false), (.ref (ax "Broken"), false), (.type "ValueError", true), (.type "LookupError", false), (.type "ArithmeticError", false)]
def kiL_InvalidStation (ax : Str → Addr) : List (Value × Bool) := [(.ref (ax "InvalidName"), false), (.ref (ax "InvalidMinutes"), false), (.ref (ax "InvalidText"), false), (.ref (ax "WrongValue"), true), (.ref (ax "WrongName"), false), (.ref (ax "NotPossible"), false), (.ref (ax "InvalidLength"), false), (.ref (ax "InvalidStation"), true), (.ref (ax "InvalidNumber"), false), (.ref (ax "InvalidWish"), false), (.ref (ax "InvalidIndex"), false), (.ref (ax "NotBook"), false), (.ref (ax "InvalidRows"), false), (.ref (ax "InvalidKinds"), false), (.ref (ax "InvalidChanges"), false), (.ref (ax "InvalidWishes"), false), (.ref (ax "UnknownName"), false), (.ref (ax "InUse"), false), (.ref (ax "NoStop"), false), (.ref (ax "NothingToUndo"), false), (.ref (ax "Broken"), false), (.type "ValueError", true), (.type "LookupError", false), (.type "ArithmeticError", false)]
def kiL_InvalidNumber (ax : Str → Addr) : List (Value × Bool) := [(.ref (ax "InvalidName"), false), (.ref (ax "InvalidMinutes"), false), (.ref (ax "InvalidText"), false), (.ref (ax "WrongValue"), true), (.ref (ax "WrongName"), false), (.ref (ax "NotPossible"), false), (.ref (ax "InvalidLength"), false), (.ref (ax "InvalidStation"), false), (.ref (ax "InvalidNumber"), true), (.ref (ax "InvalidWish"), false), (.ref (ax "InvalidIndex"), false), (.ref (ax "NotBook"), false), (.ref (ax "InvalidRows"), false), (.ref (ax "InvalidKinds"), false), (.ref (ax "InvalidChanges"), false), (.ref (ax "InvalidWishes"), false), (.ref (ax "UnknownName"), false), (.ref (ax "InUse"), false), (.ref (ax "NoStop"), false), (.ref (ax "NothingToUndo"), false), (.ref (ax "Broken"), false), (.type "ValueError", true), (.type "LookupError", false), (.type "ArithmeticError", false)]
def kiL_InvalidWish (ax : Str → Addr) : List (Value × Bool) := [(.ref (ax "InvalidName"), false), (.ref (ax "InvalidMinutes"), false), (.ref (ax "InvalidText"), false), (.ref (ax "WrongValue"), true), (.ref (ax "WrongName"), false), (.ref (ax "NotPossible"), false), (.ref (ax "InvalidLength"), false), (.ref (ax "InvalidStation"), false), (.ref (ax "InvalidNumber"), false), (.ref (ax "InvalidWish"), true), (.ref (ax "InvalidIndex"), false), (.ref (ax "NotBook"), false), (.ref (ax "InvalidRows"), false), (.ref (ax "InvalidKinds"), false), (.ref (ax "InvalidChanges"), false), (.ref (ax "InvalidWishes"), false), (.ref (ax "UnknownName"), false), (.ref (ax "InUse"), false), (.ref (ax "NoStop"), false), (.ref (ax "NothingToUndo"), false), (.ref (ax "Broken"), false), (.type "ValueError", true), (.type "LookupError", false), (.type "ArithmeticError", false)]
def kiL_InvalidIndex (ax : Str → Addr) : List (Value × Bool) := [(.ref (ax "InvalidName"), false), (.ref (ax "InvalidMinutes"), false), (.ref (ax "InvalidText"), false), (.ref (ax "WrongValue"), true), (.ref (ax "WrongName"), false), (.ref (ax "NotPossible"), false), (.ref (ax "InvalidLength"), false), (.ref (ax "InvalidStation"), false), (.ref (ax "InvalidNumber"), false), (.ref (ax "InvalidWish"), false), (.ref (ax "InvalidIndex"), true), (.ref (ax "NotBook"), false), (.ref (ax "InvalidRows"), false), (.ref (ax "InvalidKinds"), false), (.ref (ax "InvalidChanges"), false), (.ref (ax "InvalidWishes"), false), (.ref (ax "UnknownName"), false), (.ref (ax "InUse"), false), (.ref (ax "NoStop"), false), (.ref (ax "NothingToUndo"), false), (.ref (ax "Broken"), false), (.type "ValueError", true), (.type "LookupError", false), (.type "ArithmeticError", false)]
def kiL_NotBook (ax : Str → Addr) : List (Value × Bool) := [(.ref (ax "InvalidName"), false), (.ref (ax "InvalidMinutes"), false), (.ref (ax "InvalidText"), false), (.ref (ax "WrongValue"), true), (.ref (ax "WrongName"), false), (.ref (ax "NotPossible"), false), (.ref (ax "InvalidLength"), false), (.ref (ax "InvalidStation"), false), (.ref (ax "InvalidNumber"), false), (.ref (ax "InvalidWish"), false), (.ref (ax "InvalidIndex"), false), (.ref (ax "NotBook"), true), (.ref (ax "InvalidRows"), false), (.ref (ax "InvalidKinds"), false), (.ref (ax "InvalidChanges"), false), (.ref (ax "InvalidWishes"), false), (.ref (ax "UnknownName"), false), (.ref (ax "InUse"), false), (.ref (ax "NoStop"), false), (.ref (ax "NothingToUndo"), false), (.ref (ax "Broken"), false), (.type "ValueError", true), (.type "LookupError", false), (.type "ArithmeticError", false)]
def kiL_InvalidRows (ax : Str → Addr) : List (Value × Bool) := [(.ref (ax "InvalidName"), false), (.ref (ax "InvalidMinutes"), false), (.ref (ax "InvalidText"), false), (.ref (ax "WrongValue"), true), (.ref (ax "WrongName"), false), (.ref (ax "NotPossible"), false), (.ref (ax "InvalidLength"), false), (.ref (ax "InvalidStation"), false), (.ref (ax "InvalidNumber"), false), (.ref (ax "InvalidWish"), false), (.ref (ax "InvalidIndex"), false), (.ref (ax "NotBook"), false), (.ref (ax "InvalidRows"), true), (.ref (ax "InvalidKinds"), false), (.ref (ax "InvalidChanges"), false), (.ref (ax "InvalidWishes"), false), (.ref (ax "UnknownName"), false), (.ref (ax "InUse"), false), (.ref (ax "NoStop"), false), (.ref (ax "NothingToUndo"), false), (.ref (ax "Broken"), false), (.type "ValueError", true), (.type "LookupError", false), (.type "ArithmeticError", false)]
def kiL_InvalidKinds (ax : Str → Addr) : List (Value × Bool) := [(.ref (ax "InvalidName"), false), (.ref (ax "InvalidMinutes"), false), (.ref (ax "InvalidText"), false), (.ref (ax "WrongValue"), true), (.ref (ax "WrongName"), false), (.ref (ax "NotPossible"), false), (.ref (ax "InvalidLength"), false), (.ref (ax "InvalidStation"), false), (.ref (ax "InvalidNumber"), false), (.ref (ax "InvalidWish"), false), (.ref (ax "InvalidIndex"), false), (.ref (ax "NotBook"), false), (.ref (ax "InvalidRows"), false), (.ref (ax "InvalidKinds"), true), (.ref (ax "InvalidChanges"), false), (.ref (ax "InvalidWishes"), false), (.ref (ax "UnknownName"), false), (.ref (ax "InUse"), false), (.ref (ax "NoStop"), false), (.ref (ax "NothingToUndo"), false), (.ref (ax "Broken"), false), (.type "ValueError", true), (.type "LookupError", false), (.type "ArithmeticError", false)]
def kiL_InvalidChanges (ax : Str → Addr) : List (Value × Bool) := [(.ref (ax "InvalidName"), false), (.ref (ax "InvalidMinutes"), false), (.ref (ax "InvalidText"), false), (.ref (ax "WrongValue"), true), (.ref (ax "WrongName"), false), (.ref (ax "NotPossible"), false), (.ref (ax "InvalidLength"), false), (.ref (ax "InvalidStation"), false), (.ref (ax "InvalidNumber"), false), (.ref (ax "InvalidWish"), false), (.ref (ax "InvalidIndex"), false), (.ref (ax "NotBook"), false), (.ref (ax "InvalidRows"), false), (.ref (ax "InvalidKinds"), false), (.ref (ax "InvalidChanges"), true), (.ref (ax "InvalidWishes"), false), (.ref (ax "UnknownName"), false), (.ref (ax "InUse"), false), (.ref (ax "NoStop"), false), (.ref (ax "NothingToUndo"), false), (.ref (ax "Broken"), false), (.type "ValueError", true), (.type "LookupError", false), (.type "ArithmeticError", false)]
def kiL_InvalidWishes (ax : Str → Addr) : List (Value × Bool) := [(.ref (ax "InvalidName"), false), (.ref (ax "InvalidMinutes"), false), (.ref (ax "InvalidText"), false), (.ref (ax "WrongValue"), true), (.ref (ax "WrongName"), false), (.ref (ax "NotPossible"), false), (.ref (ax "InvalidLength"), false), (.ref (ax "InvalidStation"), false), (.ref (ax "InvalidNumber"), false), (.ref (ax "InvalidWish"), false), (.ref (ax "InvalidIndex"), false), (.ref (ax "NotBook"), false), (.ref (ax "InvalidRows"), false), (.ref (ax "InvalidKinds"), false), (.ref (ax "InvalidChanges"), false), (.ref (ax "InvalidWishes"), true), (.ref (ax "UnknownName"), false), (.ref (ax "InUse"), false), (.ref (ax "NoStop"), false), (.ref (ax "NothingToUndo"), false), (.ref (ax "Broken"), false), (.type "ValueError", true), (.type "LookupError", false), (.type "ArithmeticError", false)]
def kiL_UnknownName (ax : Str → Addr) : List (Value × Bool) := [(.ref (ax "InvalidName"), false), (.ref (ax "InvalidMinutes"), false), (.ref (ax "InvalidText"), false), (.ref (ax "WrongValue"), false), (.ref (ax "WrongName"), true), (.ref (ax "NotPossible"), false), (.ref (ax "InvalidLength"), false), (.ref (ax "InvalidStation"), false), (.ref (ax "InvalidNumber"), false), (.ref (ax "InvalidWish"), false), (.ref (ax "InvalidIndex"), false), (.ref (ax "NotBook"), false), (.ref (ax "InvalidRows"), false), (.ref (ax "InvalidKinds"), false), (.ref (ax "InvalidChanges"), false), (.ref (ax "InvalidWishes"), false), (.ref (ax "UnknownName"), true), (.ref (ax "InUse"), false), (.ref (ax "NoStop"), false), (.ref (ax "NothingToUndo"), false), (.ref (ax "Broken"), false), (.type "ValueError", false), (.type "LookupError", true), (.type "ArithmeticError", false)]
def kiL_InUse (ax : Str → Addr) : List (Value × Bool) := [(.ref (ax "InvalidName"), false), (.ref (ax "InvalidMinutes"), false), (.ref (ax "InvalidText"), false), (.ref (ax "WrongValue"), false), (.ref (ax "WrongName"), true), (.ref (ax "NotPossible"), false), (.ref (ax "InvalidLength"), false), (.ref (ax "InvalidStation"), false), (.ref (ax "InvalidNumber"), false), (.ref (ax "InvalidWish"), false), (.ref (ax "InvalidIndex"), false), (.ref (ax "NotBook"), false), (.ref (ax "InvalidRows"), false), (.ref (ax "InvalidKinds"), false), (.ref (ax "InvalidChanges"), false), (.ref (ax "InvalidWishes"), false), (.ref (ax "UnknownName"), false), (.ref (ax "InUse"), true), (.ref (ax "NoStop"), false), (.ref (ax "NothingToUndo"), false), (.ref (ax "Broken"), false), (.type "ValueError", false), (.type "LookupError", true), (.type "ArithmeticError", false)]
def kiL_NoStop (ax : Str → Addr) : List (Value × Bool) := [(.ref (ax "InvalidName"), false), (.ref (ax "InvalidMinutes"), false), (.ref (ax "InvalidText"), false), (.ref (ax "WrongValue"), false), (.ref (ax "WrongName"), false), (.ref (ax "NotPossible"), true), (.ref (ax "InvalidLength"), false), (.ref (ax "InvalidStation"), false), (.ref (ax "InvalidNumber"), false), (.ref (ax "InvalidWish"), false), (.ref (ax "InvalidIndex"), false), (.ref (ax "NotBook"), false), (.ref (ax "InvalidRows"), false), (.ref (ax "InvalidKinds"), false), (.ref (ax "InvalidChanges"), false), (.ref (ax "InvalidWishes"), false), (.ref (ax "UnknownName"), false), (.ref (ax "InUse"), false), (.ref (ax "NoStop"), true), (.ref (ax "NothingToUndo"), false), (.ref (ax "Broken"), false), (.type "ValueError", false), (.type "LookupError", false), (.type "ArithmeticError", true)]
def kiL_Broken (ax : Str → Addr) : List (Value × Bool) := [(.ref (ax "InvalidName"), false), (.ref (ax "InvalidMinutes"), false), (.ref (ax "InvalidText"), false), (.ref (ax "WrongValue"), false), (.ref (ax "WrongName"), false), (.ref (ax "NotPossible"), true), (.ref (ax "InvalidLength"), false), (.ref (ax "InvalidStation"), false), (.ref (ax "InvalidNumber"), false), (.ref (ax "InvalidWish"), false), (.ref (ax "InvalidIndex"), false), (.ref (ax "NotBook"), false), (.ref (ax "InvalidRows"), false), (.ref (ax "InvalidKinds"), false), (.ref (ax "InvalidChanges"), false), (.ref (ax "InvalidWishes"), false), (.ref (ax "UnknownName"), false), (.ref (ax "InUse"), false), (.ref (ax "NoStop"), false), (.ref (ax "NothingToUndo"), false), (.ref (ax "Broken"), true), (.type "ValueError", false), (.type "LookupError", false), (.type "ArithmeticError", true)]
def kiL_NothingToUndo (ax : Str → Addr) : List (Value × Bool) := [(.ref (ax "InvalidName"), false), (.ref (ax "InvalidMinutes"), false), (.ref (ax "InvalidText"), false), (.ref (ax "WrongValue"), false), (.ref (ax "WrongName"), false), (.ref (ax "NotPossible"), true), (.ref (ax "InvalidLength"), false), (.ref (ax "InvalidStation"), false), (.ref (ax "InvalidNumber"), false), (.ref (ax "InvalidWish"), false), (.ref (ax "InvalidIndex"), false), (.ref (ax "NotBook"), false), (.ref (ax "InvalidRows"), false), (.ref (ax "InvalidKinds"), false), (.ref (ax "InvalidChanges"), false), (.ref (ax "InvalidWishes"), false), (.ref (ax "UnknownName"), false), (.ref (ax "InUse"), false), (.ref (ax "NoStop"), false), (.ref (ax "NothingToUndo"), true), (.ref (ax "Broken"), false), (.type "ValueError", false), (.type "LookupError", false), (.type "ArithmeticError", true)]
end TS
set_option Elab.async false
set_option linter.all false
set_option maxRecDepth 100000
set_option maxHeartbeats 0
namespace TS
open PySem PySem.Spec PyProof.Rows L2 L3
def fam0 : List He.Fa := [.free "len", .free "range", .free "isinstance", .free "int", .free "str", .free "tuple", .free "list", .free "bool", .free "dict", .free "all", .free "any", .free "enumerate", .free "zip", .free "max", .free "min", .free "sum", .free "abs", .free "divmod", .free "repr", .free "set", .int "MOST_KINDS" 4, .int "MOST_ROWS" 6, .int "MOST_PERIOD" 6, .int "MOST_CHANGES" 6, .glo "InvalidName", .glo "InvalidMinutes", .glo "InvalidText", .glo "InvalidLength", .glo "InvalidStation", .glo "InvalidNumber"]
def fam1 : List He.Fa := [.glo "InvalidWish", .glo "InvalidIndex", .glo "NotBook", .glo "InvalidRows", .glo "InvalidKinds", .glo "InvalidChanges", .glo "InvalidWishes", .glo "UnknownName", .glo "InUse", .glo "NoStop", .glo "Broken", .glo "NothingToUndo", .glo "WrongValue", .glo "WrongName", .glo "NotPossible", .free "ValueError", .free "LookupError", .free "ArithmeticError", .glo "_law_cell", .glo "_law_pool", .glo "_law_draw", .glo "_law_pick", .glo "_law_odd", .glo "_law_valued", .glo "_law_further", .glo "_law_sorts", .glo "_law_bases", .glo "_law_is_right", .glo "_law_right", .glo "law"]
def fam : List He.Fa := fam0 ++ fam1
def fnm0 : List He5.DefA := [dfA (fun K => He.ma K (He.ga K "InvalidName") "__init__") "__init__" "InvalidName.__init__" s_InvalidName_init, dfA (fun K => He.ma K (He.ga K "InvalidMinutes") "__init__") "__init__" "InvalidMinutes.__init__" s_InvalidMinutes_init, dfA (fun K => He.ma K (He.ga K "InvalidText") "__init__") "__init__" "InvalidText.__init__" s_InvalidText_init, dfA (fun K => He.ma K (He.ga K "InvalidLength") "__init__") "__init__" "InvalidLength.__init__" s_InvalidLength_init, dfA (fun K => He.ma K (He.ga K "InvalidStation") "__init__") "__init__" "InvalidStation.__init__" s_InvalidStation_init, dfA (fun K => He.ma K (He.ga K "InvalidNumber") "__init__") "__init__" "InvalidNumber.__init__" s_InvalidNumber_init, dfA (fun K => He.ma K (He.ga K "InvalidWish") "__init__") "__init__" "InvalidWish.__init__" s_InvalidWish_init, dfA (fun K => He.ma K (He.ga K "InvalidIndex") "__init__") "__init__" "InvalidIndex.__init__" s_InvalidIndex_init, dfA (fun K => He.ma K (He.ga K "NotBook") "__init__") "__init__" "NotBook.__init__" s_NotBook_init, dfA (fun K => He.ma K (He.ga K "InvalidRows") "__init__") "__init__" "InvalidRows.__init__" s_InvalidRows_init, dfA (fun K => He.ma K (He.ga K "InvalidKinds") "__init__") "__init__" "InvalidKinds.__init__" s_InvalidKinds_init, dfA (fun K => He.ma K (He.ga K "InvalidChanges") "__init__") "__init__" "InvalidChanges.__init__" s_InvalidChanges_init, dfA (fun K => He.ma K (He.ga K "InvalidWishes") "__init__") "__init__" "InvalidWishes.__init__" s_InvalidWishes_init, dfA (fun K => He.ma K (He.ga K "UnknownName") "__init__") "__init__" "UnknownName.__init__" s_UnknownName_init, dfA (fun K => He.ma K (He.ga K "InUse") "__init__") "__init__" "InUse.__init__" s_InUse_init, dfA (fun K => He.ma K (He.ga K "NoStop") "__init__") "__init__" "NoStop.__init__" s_NoStop_init, dfA (fun K => He.ma K (He.ga K "Broken") "__init__") "__init__" "Broken.__init__" s_Broken_init, dfA (fun K => He.ga K "_law_cell") "_law_cell" "_law_cell" s_law_cell, dfA (fun K => He.ga K "_law_pool") "_law_pool" "_law_pool" s_law_pool, dfA (fun K => He.ga K "_law_draw") "_law_draw" "_law_draw" s_law_draw, dfA (fun K => He.ga K "_law_pick") "_law_pick" "_law_pick" s_law_pick, dfA (fun K => He.ga K "_law_odd") "_law_odd" "_law_odd" s_law_odd, dfA (fun K => He.ga K "_law_valued") "_law_valued" "_law_valued" s_law_valued, dfA (fun K => He.ga K "_law_further") "_law_further" "_law_further" s_law_further, dfA (fun K => He.ga K "_law_sorts") "_law_sorts" "_law_sorts" s_law_sorts, dfA (fun K => He.ga K "_law_bases") "_law_bases" "_law_bases" s_law_bases, dfA (fun K => He.ga K "_law_is_right") "_law_is_right" "_law_is_right" s_law_is_right, dfA (fun K => He.ga K "_law_right") "_law_right" "_law_right" s_law_right, dfA (fun K => He.ga K "law") "law" "law" s_law]
def fnm : List He5.DefA := fnm0
def exl0 (K : PySem.W.Frag) : List Bool := [sysB K, xcB K (He.ga K "InvalidName") "given", xcB K (He.ga K "InvalidMinutes") "given", xcB K (He.ga K "InvalidText") "given", xcB K (He.ga K "InvalidLength") "given", xcB K (He.ga K "InvalidStation") "given", xcB K (He.ga K "InvalidNumber") "given", xcB K (He.ga K "InvalidWish") "given", xcB K (He.ga K "InvalidIndex") "given", xcB K (He.ga K "NotBook") "given", xcB K (He.ga K "InvalidRows") "index", xcB K (He.ga K "InvalidKinds") "index", xcB K (He.ga K "InvalidChanges") "index", xcB K (He.ga K "InvalidWishes") "index", xcRB rootLE K (He.ga K "UnknownName") "given", xcRB rootLE K (He.ga K "InUse") "index", xcRB rootAE K (He.ga K "NoStop") "given", xcRB rootAE K (He.ga K "Broken") "index", xc0B rootAE K (He.ga K "NothingToUndo"), xisB K (He.ga K "InvalidName"), ((kiL_InvalidName fun n => He.ga K n).all fun p => kiB K (He.ga K "InvalidName") p.1 p.2), xisB K (He.ga K "InvalidMinutes"), ((kiL_InvalidMinutes fun n => He.ga K n).all fun p => kiB K (He.ga K "InvalidMinutes") p.1 p.2), xisB K (He.ga K "InvalidText"), ((kiL_InvalidText fun n => He.ga K n).all fun p => kiB K (He.ga K "InvalidText") p.1 p.2), xisB K (He.ga K "InvalidLength"), ((kiL_InvalidLength fun n => He.ga K n).all fun p => kiB K (He.ga K "InvalidLength") p.1 p.2), xisB K (He.ga K "InvalidStation"), ((kiL_InvalidStation fun n => He.ga K n).all fun p => kiB K (He.ga K "InvalidStation") p.1 p.2), xisB K (He.ga K "InvalidNumber")]
def exl1 (K : PySem.W.Frag) : List Bool := [((kiL_InvalidNumber fun n => He.ga K n).all fun p => kiB K (He.ga K "InvalidNumber") p.1 p.2), xisB K (He.ga K "InvalidWish"), ((kiL_InvalidWish fun n => He.ga K n).all fun p => kiB K (He.ga K "InvalidWish") p.1 p.2), xisB K (He.ga K "InvalidIndex"), ((kiL_InvalidIndex fun n => He.ga K n).all fun p => kiB K (He.ga K "InvalidIndex") p.1 p.2), xisB K (He.ga K "NotBook"), ((kiL_NotBook fun n => He.ga K n).all fun p => kiB K (He.ga K "NotBook") p.1 p.2), xisB K (He.ga K "InvalidRows"), ((kiL_InvalidRows fun n => He.ga K n).all fun p => kiB K (He.ga K "InvalidRows") p.1 p.2), xisB K (He.ga K "InvalidKinds"), ((kiL_InvalidKinds fun n => He.ga K n).all fun p => kiB K (He.ga K "InvalidKinds") p.1 p.2), xisB K (He.ga K "InvalidChanges"), ((kiL_InvalidChanges fun n => He.ga K n).all fun p => kiB K (He.ga K "InvalidChanges") p.1 p.2), xisB K (He.ga K "InvalidWishes"), ((kiL_InvalidWishes fun n => He.ga K n).all fun p => kiB K (He.ga K "InvalidWishes") p.1 p.2), xisB K (He.ga K "UnknownName"), ((kiL_UnknownName fun n => He.ga K n).all fun p => kiB K (He.ga K "UnknownName") p.1 p.2), xisB K (He.ga K "InUse"), ((kiL_InUse fun n => He.ga K n).all fun p => kiB K (He.ga K "InUse") p.1 p.2), xisB K (He.ga K "NoStop"), ((kiL_NoStop fun n => He.ga K n).all fun p => kiB K (He.ga K "NoStop") p.1 p.2), xisB K (He.ga K "Broken"), ((kiL_Broken fun n => He.ga K n).all fun p => kiB K (He.ga K "Broken") p.1 p.2), xisB K (He.ga K "NothingToUndo"), ((kiL_NothingToUndo fun n => He.ga K n).all fun p => kiB K (He.ga K "NothingToUndo") p.1 p.2)]
def exl (K : PySem.W.Frag) : List Bool := exl0 K ++ exl1 K
def exm (K : PySem.W.Frag) : Bool := (exl K).all id
def loo0 : List Str := ["WrongValue", "InvalidName", "InvalidMinutes", "InvalidText", "InvalidLength", "InvalidStation", "InvalidNumber", "InvalidWish", "InvalidIndex", "NotBook", "InvalidRows", "InvalidKinds", "InvalidChanges", "InvalidWishes", "WrongName", "UnknownName", "InUse", "NotPossible", "NoStop", "NothingToUndo", "Broken", "MOST_KINDS", "MOST_ROWS", "MOST_PERIOD", "MOST_CHANGES", "_law_cell", "_law_pool", "_law_draw", "_law_pick", "_law_odd"]
def loo1 : List Str := ["_law_valued", "_law_further", "_law_sorts", "_law_bases", "_law_is_right", "_law_right"]
def loo : List Str := loo0 ++ loo1
def adl : List Addr := sysModules :: [3, 6, 4, 24, 44, 63, 82, 101, 120, 139, 158, 177, 196, 215, 234, 253, 272, 284, 304, 323, 335, 355, 367, 386, 395, 402, 409, 416, 423, 430, 437, 444, 451, 456, 463, 468, 0, 23, 43, 62, 81, 100, 119, 138, 157, 176, 195, 214, 233, 252, 271, 283, 303, 322, 334, 354, 366, 385, 394, 401, 408, 415, 422, 429, 436, 443, 450, 455, 462, 467, 22, 25, 41, 42, 60, 61, 79, 80, 98, 99, 117, 118, 136, 137, 155, 156, 174, 175, 193, 194, 212, 213, 231, 232, 250, 251, 269, 270, 282, 285, 301, 302, 320, 321, 333, 336, 352, 353, 365, 383, 384, 389, 390, 391, 392, 393, 396, 397, 398, 399, 400, 403, 404, 405, 406, 407, 410, 411, 412, 413, 414, 417, 418, 419, 420, 421, 424, 425, 426, 427, 428, 431, 432, 433, 434, 435, 438, 439, 440, 441, 442, 445, 446, 447, 448, 449, 452, 453, 454, 457, 458, 459, 460, 461, 464, 465, 466, 40, 59, 78, 97, 116, 135, 154, 173, 192, 211, 230, 249, 268, 300, 319, 351, 382, 35, 36, 37, 38, 39, 54, 55, 56, 57, 58, 73, 74, 75, 76, 77, 92, 93, 94, 95, 96, 111, 112, 113, 114, 115, 130, 131, 132, 133, 134, 149, 150, 151, 152, 153, 168, 169, 170, 171, 172, 187, 188, 189, 190, 191, 206, 207, 208, 209, 210, 225, 226, 227, 228, 229, 244, 245, 246, 247, 248, 263, 264, 265, 266, 267, 295, 296, 297, 298, 299, 314, 315, 316, 317, 318, 346, 347, 348, 349, 350, 377, 378, 379, 380, 381, 2]
abbrev RwRun : PySem.W.OpenRow := PySem.W.OpenLaw.row PySem.Challenge.rw_turnstops_k01_constants_and_errors
open He He5 PySem.Calls in
def hookL (as : List Addr) (fa : List Fa) (fn : List DefA) (ex : PySem.W.Frag → Bool) : PySem.W.Hook where
  α := AlD
  obs := fun s => obsM fa fn ex (frG s.heap.get? as)
  val := fun _ => valA fn
  says := fun _ h => ∃ K : PySem.W.Frag, K.In h ∧ SaysM fa fn ex K
  of := fun _ _ e => ⟨_, frG_in, e⟩
  keeps := fun _ _ _ ⟨K, hK, c⟩ k => ⟨K, PySem.W.Frag.In.keeps hK k, c⟩
abbrev hkm : PySem.W.Hook := hookL adl fam fnm exm
open He He5 PySem.Calls in
def obm (s : PySem.W.SharedT) : He.AlD := obsM fam fnm exm (frG (HandSHeadRun.getT s) adl)
open He He5 PySem.Calls in
theorem obm_eq (s : PySem.W.SharedT) : obm s = hkm.obs s.abs := by
  have e : HandSHeadRun.getT s = s.abs.heap.get? := funext (HandSHeadRun.getT_eq s)
  unfold obm
  rw [e]
  rfl
theorem runm (w : World) : HandSHeadRun.RunEq RwRun (PySem.W.view RwRun.prog [38]) hkm obm 40000 loo w := by
  intro os
  kernel_rfl
end TS
namespace MP
universe u
variable {ι : Type}
inductive Wk (e : Nat → ι → ι → Int → Prop) : Nat → Nat → ι → ι → Int → Prop
  | refl (t : Nat) (i : ι) : Wk e t t i i 0
  | step {s t : Nat} {i j k : ι} {w v : Int} : Wk e s t j k w → e t i j v → Wk e s (t + 1) i k (w + v)
theorem Wk.le {e : Nat → ι → ι → Int → Prop} {s t : Nat} {i k : ι} {w : Int} (h : Wk e s t i k w) : s ≤ t := by
  induction h with
  | refl => exact Nat.le_refl _
  | step _ _ ih => omega
theorem Wk.cast {e : Nat → ι → ι → Int → Prop} {s t s' t' : Nat} {i k : ι} {w w' : Int} (h : Wk e s t i k w) (hs : s = s') (ht : t = t') (hw : w = w') : Wk e s' t' i k w' := by
  subst hs ht hw
  exact h
theorem Wk.trans {e : Nat → ι → ι → Int → Prop} {s t u : Nat} {i j k : ι} {w v : Int} (h : Wk e s t j k w) (g : Wk e t u i j v) : Wk e s u i k (w + v) := by
  induction g with
  | refl => exact h.cast rfl rfl (by omega)
  | step _ he ih => exact (Wk.step (ih h) he).cast rfl rfl (by omega)
theorem Wk.split {e : Nat → ι → ι → Int → Prop} {s u : Nat} {i k : ι} {w : Int} (h : Wk e s u i k w) : ∀ {t : Nat}, s ≤ t → t ≤ u → ∃ j a b, Wk e s t j k a ∧ Wk e t u i j b ∧ w = a + b := by
  induction h with
  | refl i =>
    intro t' h1 h2
    have : t' = s := by omega
    subst this
    exact ⟨i, 0, 0, .refl _ _, .refl _ _, rfl⟩
  | step h he ih =>
    rename_i u i j k w v
    intro t h1 h2
    by_cases ht : t = u + 1
    · subst ht
      exact ⟨i, w + v, 0, h.step he, .refl _ _, by omega⟩
    · obtain ⟨j', a, b, p, q, r⟩ := ih (t := t) h1 (by omega)
      exact ⟨j', a, b + v, p, q.step he, by omega⟩
theorem Wk.shift {e : Nat → ι → ι → Int → Prop} {P : Nat} (per : ∀ t i j w, e (t + P) i j w ↔ e t i j w) {s t : Nat} {i k : ι} {w : Int} (h : Wk e s t i k w) : Wk e (s + P) (t + P) i k w := by
  induction h with
  | refl => exact .refl _ _
  | step _ he ih =>
    rename_i t _ _ _ _ _ _
    exact (ih.step ((per _ _ _ _).mpr he)).cast rfl (by omega) rfl
theorem Wk.shiftN {e : Nat → ι → ι → Int → Prop} {P : Nat} (per : ∀ t i j w, e (t + P) i j w ↔ e t i j w) {s t : Nat} {i k : ι} {w : Int} (h : Wk e s t i k w) : ∀ q : Nat, Wk e (s + q * P) (t + q * P) i k w
  | 0 => h.cast (by omega) (by omega) rfl
  | q + 1 => ((h.shiftN per q).shift per).cast (by rw [Nat.succ_mul]; omega) (by rw [Nat.succ_mul]; omega) rfl
theorem Wk.unshift {e : Nat → ι → ι → Int → Prop} {P : Nat} (per : ∀ t i j w, e (t + P) i j w ↔ e t i j w) {s' t' : Nat} {i k : ι} {w : Int} (h : Wk e s' t' i k w) : ∀ {s t : Nat}, s' = s + P → t' = t + P → Wk e s t i k w := by
  induction h with
  | refl =>
    intro s t h1 h2
    have : s = t := by omega
    subst this
    exact .refl _ _
  | step h he ih =>
    rename_i t0 i j k w v
    intro s t h1 h2
    have hl := h.le
    obtain ⟨t1, e1⟩ : ∃ t1, t = t1 + 1 := ⟨t - 1, by omega⟩
    subst e1
    have e2 : t0 = t1 + P := by omega
    subst e2
    exact (ih h1 rfl).step ((per _ _ _ _).mp he)
theorem Wk.unshiftN {e : Nat → ι → ι → Int → Prop} {P : Nat} (per : ∀ t i j w, e (t + P) i j w ↔ e t i j w) : ∀ (q : Nat) {s t : Nat} {i k : ι} {w : Int}, Wk e (s + q * P) (t + q * P) i k w → Wk e s t i k w
  | 0, _, _, _, _, _, h => h.cast (by omega) (by omega) rfl
  | q + 1, s, t, i, k, w, h => Wk.unshiftN per q (h.unshift per (s := s + q * P) (t := t + q * P) (by rw [Nat.succ_mul]; omega) (by rw [Nat.succ_mul]; omega))
theorem Wk.nonneg {e : Nat → ι → ι → Int → Prop} (he : ∀ t i j w, e t i j w → 0 ≤ w) {s t : Nat} {i k : ι} {w : Int} (h : Wk e s t i k w) : 0 ≤ w := by
  induction h with
  | refl => exact Int.le_refl _
  | step _ h1 ih => have := he _ _ _ _ h1; omega
theorem Wk.part {e : Nat → ι → ι → Int → Prop} {p : ι → Nat} {V : ι → Prop} (he : ∀ t i j w, e t i j w → p i = p j ∧ V i ∧ V j) {s t : Nat} {i k : ι} {w : Int} (h : Wk e s t i k w) : p i = p k ∧ (V k → V i) := by
  induction h with
  | refl => exact ⟨rfl, id⟩
  | step _ h1 ih => exact ⟨(he _ _ _ _ h1).1.trans ih.1, fun _ => (he _ _ _ _ h1).2.1⟩
structure Sys (e : Nat → ι → ι → Int → Prop) (V : ι → Prop) (part : ι → Nat) (P : Nat) (B : Int) : Prop where
  per : ∀ t i j w, e (t + P) i j w ↔ e t i j w
  pos : ∀ t i j w, e t i j w → 0 ≤ w
  ed : ∀ t i j w, e t i j w → part i = part j ∧ V i ∧ V j
  loop : ∀ t i, V i → ∃ w, e t i i w ∧ w ≤ B
  pig : ∀ a b c d f : ι, V a → V b → V c → V d → V f → part b = part a → part c = part a → part d = part a → part f = part a →
    a = b ∨ a = c ∨ a = d ∨ a = f ∨ b = c ∨ b = d ∨ b = f ∨ c = d ∨ c = f ∨ d = f
theorem Sys.cut {e : Nat → ι → ι → Int → Prop} {V : ι → Prop} {part : ι → Nat} {P : Nat} {B : Int} (S : Sys e V part P B) {i k : ι} {w : Int} (hk : V k) (h : Wk e 0 (4 * P) i k w) :
    ∃ l c W w' a, 1 ≤ l ∧ l ≤ 4 ∧ a ≤ 4 ∧ Wk e 0 (l * P) c c W ∧ Wk e 0 ((4 - l) * P) i k w' ∧ w = w' + W ∧ (∃ v, Wk e 0 (a * P) i c v) := by
  obtain ⟨n1, a1, r1, h1, g1, e1⟩ := h.split (t := 1 * P) (by omega) (by omega)
  obtain ⟨n2, a2, r2, h2, g2, e2⟩ := g1.split (t := 2 * P) (by omega) (by omega)
  obtain ⟨n3, a3, r3, h3, g3, e3⟩ := g2.split (t := 3 * P) (by omega) (by omega)
  have v1 := (h1.part S.ed).2 hk
  have v2 := (h2.part S.ed).2 v1
  have v3 := (h3.part S.ed).2 v2
  have v4 := (g3.part S.ed).2 v3
  have p1 := (h1.part S.ed).1
  have p2 := (h2.part S.ed).1
  have p3 := (h3.part S.ed).1
  have p4 := (g3.part S.ed).1
  -- walks moved to the origin
  have mv : ∀ {s t q : Nat} {i j : ι} {w : Int}, Wk e (s * P + q * P) (t * P + q * P) i j w → Wk e (s * P) (t * P) i j w := fun x => Wk.unshiftN S.per _ x
  have u1 : Wk e 0 (1 * P) n1 k a1 := h1
  have u2 : Wk e 0 (1 * P) n2 n1 a2 := Wk.unshiftN S.per 1 (h2.cast (by omega) (by omega) rfl)
  have u3 : Wk e 0 (1 * P) n3 n2 a3 := Wk.unshiftN S.per 2 (h3.cast (by omega) (by omega) rfl)
  have u4 : Wk e 0 (1 * P) i n3 r3 := Wk.unshiftN S.per 3 (g3.cast (by omega) (by omega) rfl)
  have add : ∀ {x y : Nat} {i j k : ι} {w v : Int}, Wk e 0 (x * P) j k w → Wk e 0 (y * P) i j v → Wk e 0 ((x + y) * P) i k (w + v) := fun {x y} _ _ _ _ _ p q =>
    p.trans ((Wk.shiftN S.per q x).cast (by omega) (by rw [Nat.add_mul]; omega) rfl)
  rcases S.pig k n1 n2 n3 i hk v1 v2 v3 v4 p1 (by omega) (by omega) (by omega) with h | h | h | h | h | h | h | h | h | h
  · subst h
    exact ⟨1, k, a1, _, 3, by omega, by omega, by omega, u1, add u2 (add u3 u4), by omega, _, add u2 (add u3 u4)⟩
  · subst h
    exact ⟨2, k, _, _, 2, by omega, by omega, by omega, add u1 u2, add u3 u4, by omega, _, add u3 u4⟩
  · subst h
    exact ⟨3, k, _, _, 1, by omega, by omega, by omega, add (add u1 u2) u3, u4, by omega, _, u4⟩
  · subst h
    exact ⟨4, k, _, 0, 0, by omega, by omega, by omega, add (add (add u1 u2) u3) u4, (Wk.refl _ _).cast rfl (by omega) rfl, by omega, 0, (Wk.refl _ _).cast rfl (by omega) rfl⟩
  · subst h
    exact ⟨1, n1, _, _, 2, by omega, by omega, by omega, u2, add u1 (add u3 u4), by omega, _, add u3 u4⟩
  · subst h
    exact ⟨2, n1, _, _, 1, by omega, by omega, by omega, add u2 u3, add u1 u4, by omega, _, u4⟩
  · subst h
    exact ⟨3, n1, _, _, 0, by omega, by omega, by omega, add (add u2 u3) u4, u1, by omega, 0, (Wk.refl _ _).cast rfl (by omega) rfl⟩
  · subst h
    exact ⟨1, n2, _, _, 1, by omega, by omega, by omega, u3, add (add u1 u2) u4, by omega, _, u4⟩
  · subst h
    exact ⟨2, n2, _, _, 0, by omega, by omega, by omega, add u3 u4, add u1 u2, by omega, 0, (Wk.refl _ _).cast rfl (by omega) rfl⟩
  · subst h
    exact ⟨1, n3, _, _, 0, by omega, by omega, by omega, u4, add (add u1 u2) u3, by omega, 0, (Wk.refl _ _).cast rfl (by omega) rfl⟩
theorem Sys.self {e : Nat → ι → ι → Int → Prop} {V : ι → Prop} {part : ι → Nat} {P : Nat} {B : Int} (S : Sys e V part P B) {i : ι} (hi : V i) (s : Nat) : ∀ n : Nat, ∃ w, Wk e s (s + n) i i w ∧ w ≤ n * B
  | 0 => ⟨0, .refl _ _, by omega⟩
  | n + 1 => by
    obtain ⟨w, h, hw⟩ := S.self hi s n
    obtain ⟨v, h', hv⟩ := S.loop (s + n) i hi
    refine ⟨w + v, h.step h', ?_⟩
    have : ((n + 1 : Nat) : Int) * B = n * B + B := by rw [Int.natCast_succ, Int.add_mul, Int.one_mul]
    omega
structure Run (e : Nat → ι → ι → Int → Prop) (V : ι → Prop) (x : Nat → ι → Int) : Prop where
  up : ∀ t i j w, e t i j w → x (t + 1) i ≤ x t j + w
  tr : ∀ t i, V i → ∃ j w, e t i j w ∧ x (t + 1) i = x t j + w
theorem Run.wk {e : Nat → ι → ι → Int → Prop} {V : ι → Prop} {x : Nat → ι → Int} (R : Run e V x) {s t : Nat} {i k : ι} {w : Int} (h : Wk e s t i k w) : x t i ≤ x s k + w := by
  induction h with
  | refl => omega
  | step _ he ih => have := R.up _ _ _ _ he; omega
end MP
namespace MP
variable {ι : Type}
structure RS (E : ι → ι → Int → Prop) (V : ι → Prop) (part : ι → Nat) (L : Int) : Prop where
  pos : ∀ i j w, E i j w → 0 ≤ w ∧ w ≤ L
  ed : ∀ i j w, E i j w → part i = part j ∧ V i ∧ V j
  loop : ∀ i, V i → ∃ w, E i i w
  pig : ∀ a b c d f : ι, V a → V b → V c → V d → V f → part b = part a → part c = part a → part d = part a → part f = part a →
    a = b ∨ a = c ∨ a = d ∨ a = f ∨ b = c ∨ b = d ∨ b = f ∨ c = d ∨ c = f ∨ d = f
abbrev hE (E : ι → ι → Int → Prop) : Nat → ι → ι → Int → Prop := fun _ i j w => E i j w
abbrev RW (E : ι → ι → Int → Prop) (T : Nat) (i k : ι) (w : Int) : Prop := Wk (hE E) 0 T i k w
theorem hE_per (E : ι → ι → Int → Prop) : ∀ t i j w, hE E (t + 1) i j w ↔ hE E t i j w := fun _ _ _ _ => Iff.rfl
theorem RS.sys {E : ι → ι → Int → Prop} {V : ι → Prop} {part : ι → Nat} {L : Int} (S : RS E V part L) : Sys (hE E) V part 1 L where
  per := hE_per E
  pos := fun _ i j w h => (S.pos i j w h).1
  ed := fun _ i j w h => S.ed i j w h
  loop := fun _ i h => by
    obtain ⟨w, hw⟩ := S.loop i h
    exact ⟨w, hw, (S.pos _ _ _ hw).2⟩
  pig := S.pig
theorem RS.sub {E : ι → ι → Int → Prop} {V : ι → Prop} {part : ι → Nat} {L : Int} (S : RS E V part L) (U : ι → Prop) : RS (fun i j w => E i j w ∧ U i ∧ U j) (fun i => V i ∧ U i) part L where
  pos := fun i j w h => S.pos i j w h.1
  ed := fun i j w h => ⟨(S.ed i j w h.1).1, ⟨(S.ed i j w h.1).2.1, h.2.1⟩, (S.ed i j w h.1).2.2, h.2.2⟩
  loop := fun i h => by
    obtain ⟨w, hw⟩ := S.loop i h.1
    exact ⟨w, hw, h.2, h.2⟩
  pig := fun a b c d f ha hb hc hd hf => S.pig a b c d f ha.1 hb.1 hc.1 hd.1 hf.1
theorem RW.move {E : ι → ι → Int → Prop} {s T : Nat} {i k : ι} {w : Int} (h : Wk (hE E) s (s + T) i k w) : RW E T i k w :=
  Wk.unshiftN (hE_per E) s (h.cast (by omega) (by omega) rfl)
theorem RW.trans {E : ι → ι → Int → Prop} {T U : Nat} {i j k : ι} {w v : Int} (h : RW E T j k w) (g : RW E U i j v) : RW E (T + U) i k (w + v) :=
  Wk.trans h ((Wk.shiftN (hE_per E) g T).cast (by omega) (by omega) rfl)
theorem RW.split {E : ι → ι → Int → Prop} {T t : Nat} {i k : ι} {w : Int} (h : RW E T i k w) (ht : t ≤ T) : ∃ j a b, RW E t j k a ∧ RW E (T - t) i j b ∧ w = a + b := by
  obtain ⟨j, a, b, h1, h2, e⟩ := Wk.split h (t := t) (by omega) ht
  exact ⟨j, a, b, h1, RW.move (s := t) (h2.cast rfl (by omega) rfl), e⟩
theorem RW.one {E : ι → ι → Int → Prop} {i k : ι} {w : Int} (h : E i k w) : RW E 1 i k w := (Wk.step (.refl 0 k) h).cast rfl rfl (by omega)
theorem RW.cons {E : ι → ι → Int → Prop} {T : Nat} {i j k : ι} {w v : Int} (h : RW E T j k w) (g : E i j v) : RW E (T + 1) i k (w + v) := Wk.step h g
theorem RS.le {E : ι → ι → Int → Prop} {V : ι → Prop} {part : ι → Nat} {L : Int} (S : RS E V part L) {T : Nat} {i k : ι} {w : Int} (h : RW E T i k w) : w ≤ T * L := by
  have key : ∀ {s t : Nat} {i k : ι} {w : Int}, Wk (hE E) s t i k w → w ≤ ((t - s : Nat) : Int) * L := by
    intro s t i k w h
    induction h with
    | refl => simp
    | step h g ih =>
      have hl := h.le
      have := (S.pos _ _ _ g).2
      rename_i t' _ _ _ _ _
      have e : ((t' + 1 - s : Nat) : Int) = ((t' - s : Nat) : Int) + 1 := by omega
      rw [e, Int.add_mul, Int.one_mul]
      omega
  have := key h
  simpa using this
theorem RS.lb {E : ι → ι → Int → Prop} {V : ι → Prop} {part : ι → Nat} {L : Int} (S : RS E V part L) {M : Int} (M0 : 0 ≤ M) (hM : ∀ (c : ι) (l : Nat) (W : Int), 1 ≤ l → l ≤ 4 → V c → RW E l c c W → (l : Int) * M ≤ 12 * W) :
    ∀ (n : Nat) {T : Nat} {i k : ι} {w : Int}, T ≤ n → V k → RW E T i k w → M * ((T : Int) - 3) ≤ 12 * w
  | n, T, i, k, w, hn, hk, h => by
    by_cases h3 : T ≤ 3
    · have h1 : 0 ≤ w := h.nonneg S.sys.pos
      have h2 : M * (3 - (T : Int)) ≥ 0 := Int.mul_nonneg M0 (by omega)
      have e : M * ((T : Int) - 3) = -(M * (3 - (T : Int))) := by rw [← Int.mul_neg]; congr 1; omega
      omega
    · obtain ⟨j, a, b, g1, g2, ew⟩ := h.split (t := 4) (by omega)
      obtain ⟨l, c, W, w', x, l1, l4, _, hW, h2, ea, _⟩ := S.sys.cut hk (g1.cast rfl (by omega) rfl)
      have h2 : RW E (4 - l) j k w' := h2.cast rfl (by omega) rfl
      have hW : RW E l c c W := hW.cast rfl (by omega) rfl
      have hc : V c := by
        cases l with
        | zero => omega
        | succ l =>
          cases hW with
          | step _ g => exact (S.ed _ _ _ g).2.1
      have h4 := hM c l W l1 l4 hc hW
      cases n with
      | zero => omega
      | succ n =>
        have h5 := RS.lb S M0 hM n (T := 4 - l + (T - 4)) (by omega) hk (h2.trans g2)
        have e2 : ((4 - l + (T - 4) : Nat) : Int) - 3 = ((T : Int) - 3) - l := by omega
        rw [e2, Int.mul_sub] at h5
        rw [Int.mul_comm (l : Int) M] at h4
        omega
structure RR (E : ι → ι → Int → Prop) (V : ι → Prop) (C : Int) (y : Nat → ι → Option Int) : Prop where
  up : ∀ T i j w u, E i j w → y T j = some u → ∃ v, y (T + 1) i = some v ∧ v ≤ u + w
  tr : ∀ T i v, V i → y (T + 1) i = some v → ∃ j w u, E i j w ∧ y T j = some u ∧ v = u + w
  y0 : ∀ i u, y 0 i = some u → 0 ≤ u ∧ u ≤ C
theorem RR.wk {E : ι → ι → Int → Prop} {V : ι → Prop} {C : Int} {y : Nat → ι → Option Int} (R : RR E V C y) {s T : Nat} {i k : ι} {w u : Int} (h : Wk (hE E) s T i k w) (hu : y s k = some u) : ∃ v, y T i = some v ∧ v ≤ u + w := by
  induction h with
  | refl => exact ⟨u, hu, by omega⟩
  | step _ g ih =>
    obtain ⟨v, e, hv⟩ := ih hu
    obtain ⟨v', e', hv'⟩ := R.up _ _ _ _ _ g e
    exact ⟨v', e', by omega⟩
def lim (C L : Int) : Int := C + 9 * L
end MP
namespace CR
structure Rw where
  st : Int
  sy : Int
  bd : Int
  pt : Nat
abbrev Sm := Option (Int × Int)
def addS (x : Sm) (n : Int) : Sm := x.map fun s => (s.1 + n, s.2)
def lesF (x y : Sm) : Option Sm := match x, y with
  | none, y => some y
  | some a, none => some (some a)
  | some a, some b => if a.1 ≤ b.1 ∧ a.2 ≤ b.2 then some (some a) else if b.1 ≤ a.1 ∧ b.2 ≤ a.2 then some (some b) else none
def movF (rs : List Rw) (xs : List Sm) : List Sm := List.zipWith (fun r x => addS x r.st) rs xs
abbrev Tr := Rw × Sm × Bool
def zip3L (rs : List Rw) (xs : List Sm) (hs : List Bool) : List Tr := rs.zip (xs.zip hs)
def setF (f : Nat → Sm) (p : Nat) (z : Sm) : Nat → Sm := fun q => if q = p then z else f q
def arrL : List Tr → (Nat → Sm) → Option (Nat → Sm)
  | [], f => some f
  | (r, x, h) :: l, f => if h then (lesF (f r.pt) x).bind fun z => arrL l (setF f r.pt z) else arrL l f
def arrF (rs : List Rw) (xs : List Sm) (hs : List Bool) : Option (Nat → Sm) := arrL (zip3L rs xs hs) fun _ => none
def brdL : List Tr → (Nat → Sm) → Option (List Sm)
  | [], _ => some []
  | (r, x, h) :: l, f => (if h then lesF (addS x r.sy) (addS (f r.pt) r.bd) else some x).bind fun z => (brdL l f).map (z :: ·)
def brdF (rs : List Rw) (xs : List Sm) (hs : List Bool) (f : Nat → Sm) : Option (List Sm) := brdL (zip3L rs xs hs) f
def startF (rs : List Rw) (hs : List Bool) : Option (List Sm) := brdF rs (rs.map fun _ => none) hs fun _ => some (0, 0)
def stpF (rs : List Rw) (xs : List Sm) (hs : List Bool) : Option ((Nat → Sm) × List Sm) := (arrF rs (movF rs xs) hs).bind fun f => (brdF rs (movF rs xs) hs f).map fun ys => (f, ys)
structure Mn (S : Int → Prop) (o : Option Int) : Prop where
  lb : ∀ w, S w → ∃ v, o = some v ∧ v ≤ w
  at_ : ∀ v, o = some v → S v
theorem Mn.uq {S : Int → Prop} {a b : Option Int} (h : Mn S a) (g : Mn S b) : a = b := by
  cases a with
  | none =>
    cases b with
    | none => rfl
    | some v =>
      obtain ⟨_, e, _⟩ := h.lb v (g.at_ v rfl)
      cases e
  | some v =>
    obtain ⟨u, e, l⟩ := g.lb v (h.at_ v rfl)
    subst e
    obtain ⟨u', e', l'⟩ := h.lb u (g.at_ u rfl)
    cases e'
    congr 1
    omega
theorem Mn.self (o : Option Int) : Mn (fun w => o = some w) o := ⟨fun w e => ⟨w, e, Int.le_refl _⟩, fun _ e => e⟩
theorem Mn.le {S T : Int → Prop} {a b : Option Int} (h : Mn S a) (g : Mn T b) (i : ∀ w, S w → ∃ v, T v ∧ v ≤ w) {w : Int} (e : a = some w) : ∃ v, b = some v ∧ v ≤ w := by
  obtain ⟨v, tv, l⟩ := i w (h.at_ w e)
  obtain ⟨u, e', l'⟩ := g.lb v tv
  exact ⟨u, e', Int.le_trans l' l⟩
def ev (q : Int) (x : Sm) : Option Int := x.map fun s => s.1 + q * s.2
def va (q : Int) (xs : List Sm) (i : Nat) : Option Int := (xs[i]?).bind (ev q)
def Ed (rs : List Rw) (hs : List Bool) (i j : Nat) (w : Int) : Prop := ∃ ri rj hi hj, rs[i]? = some ri ∧ rs[j]? = some rj ∧ hs[i]? = some hi ∧ hs[j]? = some hj ∧ ((i = j ∧ w = ri.st + if hi then ri.sy else 0) ∨ (hi = true ∧ hj = true ∧ ri.pt = rj.pt ∧ w = rj.st + ri.bd))
end CR
namespace CR
def Bd (τ c : Int) (x : Sm) : Prop := ∀ b g, x = some (b, g) → 0 ≤ g ∧ g * τ ≤ 12 * b ∧ 12 * b ≤ g * τ + c
theorem Bd.none {τ c : Int} : Bd τ c none := fun _ _ e => by cases e
theorem Bd.up {τ c c' : Int} {x : Sm} (h : Bd τ c x) (l : c ≤ c') : Bd τ c' x := fun b g e => by
  obtain ⟨h1, h2, h3⟩ := h b g e
  exact ⟨h1, h2, by omega⟩
theorem Bd.add {τ c n M : Int} {x : Sm} (h : Bd τ c x) (n0 : 0 ≤ n) (nM : n ≤ M) : Bd τ (c + 12 * M) (addS x n) := fun b g e => by
  cases x with
  | none => cases e
  | some s =>
    obtain ⟨b', g'⟩ := s
    cases e
    obtain ⟨h1, h2, h3⟩ := h b' g' rfl
    refine ⟨h1, ?_, ?_⟩
    · show g' * τ ≤ 12 * (b' + n)
      omega
    · show 12 * (b' + n) ≤ g' * τ + (c + 12 * M)
      omega
def Wm (M : Int) (rs : List Rw) : Prop := ∀ r ∈ rs, (0 ≤ r.st ∧ r.st ≤ M) ∧ (0 ≤ r.sy ∧ r.sy ≤ M) ∧ 0 ≤ r.bd ∧ r.bd ≤ M
def G0 (x : Sm) : Prop := ∀ s, x = some s → s.2 = 0
theorem G0.add (x : Sm) (n : Int) (h : G0 x) : G0 (addS x n) := fun s e => by
  cases x with
  | none => cases e
  | some a => cases e; exact h a rfl
theorem G0.non : G0 none := fun _ e => by cases e
def runX (rs : List Rw) (H : Nat → List Bool) : Nat → (Nat → Sm) × List Sm
  | 0 => (fun _ => none, (startF rs (H 0)).getD [])
  | t + 1 => (stpF rs (runX rs H t).2 (H (t + 1))).getD (fun _ => none, [])
abbrev X (rs : List Rw) (H : Nat → List Bool) (t : Nat) : List Sm := (runX rs H t).2
structure RunOk (M : Int) (rs : List Rw) (H : Nat → List Bool) : Prop where
  w : Wm M rs
  m0 : 0 ≤ M
  hl : ∀ t, (H t).length = rs.length
section
variable {M : Int} {rs : List Rw} {H : Nat → List Bool}
end
def grw (x : Sm) : Option Int := x.map (·.2)
section
variable {M : Int} {rs : List Rw} {H : Nat → List Bool}
end
end CR
namespace CR
open MP
section
variable {M : Int} {rs : List Rw} {H : Nat → List Bool}
def partI (rs : List Rw) (i : Nat) : Nat := (rs[i]?.map Rw.pt).getD 0
theorem partI_of {i : Nat} {r : Rw} (h : rs[i]? = some r) : partI rs i = r.pt := by
  unfold partI
  rw [h]
  rfl
def eS (rs : List Rw) (H : Nat → List Bool) (t0 : Nat) : Nat → Nat → Nat → Int → Prop := fun t i j w => Ed rs (H (t0 + t + 1)) i j w
def eR (rs : List Rw) (H : Nat → List Bool) (t0 P : Nat) : Nat → Nat → Int → Prop := fun i j w => Wk (eS rs H t0) 0 P i j w
theorem Ed.pos (W : Wm M rs) (_ : 0 ≤ M) {hs : List Bool} {i j : Nat} {w : Int} (h : Ed rs hs i j w) : 0 ≤ w ∧ w ≤ 2 * M := by
  obtain ⟨ri, rj, hi, hj, a1, a2, a3, a4, h⟩ := h
  have wi := W ri (List.mem_of_getElem? a1)
  have wj := W rj (List.mem_of_getElem? a2)
  rcases h with ⟨_, rfl⟩ | ⟨_, _, _, rfl⟩
  · split <;> omega
  · omega
theorem Ed.ed {hs : List Bool} {i j : Nat} {w : Int} (h : Ed rs hs i j w) : partI rs i = partI rs j ∧ i < rs.length ∧ j < rs.length := by
  obtain ⟨ri, rj, hi, hj, a1, a2, a3, a4, h⟩ := h
  refine ⟨?_, (List.getElem?_eq_some_iff.mp a1).1, (List.getElem?_eq_some_iff.mp a2).1⟩
  rcases h with ⟨rfl, _⟩ | ⟨_, _, e, _⟩
  · rfl
  · rw [partI_of a1, partI_of a2, e]
theorem Ed.loop {hs : List Bool} (hl : hs.length = rs.length) {i : Nat} (hi : i < rs.length) : ∃ w, Ed rs hs i i w := by
  have h1 := List.getElem?_eq_getElem (l := rs) (i := i) hi
  have h2 := List.getElem?_eq_getElem (l := hs) (i := i) (by omega)
  exact ⟨_, _, _, _, _, h1, h1, h2, h2, .inl ⟨rfl, rfl⟩⟩
section
variable (R : RunOk M rs H) {t0 P : Nat}
end
end
def nonB : Sm → Bool
  | none => true
  | some _ => false
def subO : Sm → Sm → Option Int
  | some a, some b => some (b.1 - a.1)
  | _, _ => none
def growF (xs ys : List Sm) : Option (List (Option Int)) := if xs.map nonB = ys.map nonB then some (List.zipWith subO xs ys) else none
def mkS : Sm → Option Int → Sm
  | some a, some g => some (a.1, g)
  | _, _ => none
def endL (rs : List Rw) : List (List Bool) → List Sm → Option (List (Nat → Sm))
  | [], _ => some []
  | h :: hs, xs => (stpF rs xs h).bind fun o => (endL rs hs o.2).map (o.1 :: ·)
structure Even (rs : List Rw) (H : Nat → List Bool) (ends : Nat → Option (List (List Bool))) (E S : Nat) (gs : List (Option Int)) (Y : Nat → List Sm) : Prop where
  g1 : growF (X rs H E) (X rs H (E + S)) = some gs
  g2 : growF (X rs H (E + S)) (X rs H (E + 2 * S)) = some gs
  y0 : Y 0 = List.zipWith mkS (X rs H E) gs
  st : ∀ a, a < S → ∃ g, stpF rs (Y a) (H (E + a + 1)) = some (g, Y (a + 1))
  nd : ∀ a, a < S → ∀ hs, ends (E + a) = some hs → ∃ fs, endL rs hs (Y a) = some fs
  gr : (Y S).map grw = (Y 0).map grw
section
variable {M : Int} {rs : List Rw} {H : Nat → List Bool} {ends : Nat → Option (List (List Bool))} {E S : Nat} {gs : List (Option Int)} {Y : Nat → List Sm}
end
end CR
namespace CR
section
variable {M : Int} {rs : List Rw} {H : Nat → List Bool}
end
end CR
set_option Elab.async false
set_option linter.all false
set_option maxRecDepth 100000
set_option maxHeartbeats 4000000
namespace L3
open PySem PySem.Spec PyProof.Rows L2
inductive D where
  | non | bl (b : Bool) | int (i : Int) | str (x : Str) | ref (a : Addr) | ty (n : String)
  | tup (ds : List D) | lst (ds : List D) | scr (ds : List D) | ins (C : Addr) (ds : List D) | obj (C : Addr) (fs : List (Str × D)) | dic (kvs : List (Key × D))
mutual
/-- the datum d stands (frozen, in F) as the value v -/
inductive Rep (K : PySem.W.Frag) (F : Hp) : D → V → Prop
  | non : Rep K F .non .non
  | bl (b : Bool) : Rep K F (.bl b) (.bl b)
  | int (i : Int) : Rep K F (.int i) (.int i)
  | str (x : Str) : Rep K F (.str x) (.str x)
  | ref (a : Addr) : Rep K F (.ref a) (.ref a)
  | ty (n : String) : Rep K F (.ty n) (.ty n)
  | tup {a : Addr} {ds : List D} {vs : List V} : F a = some (.tup vs) → RepL K F ds vs → Rep K F (.tup ds) (.ref a)
  | lst {a : Addr} {ds : List D} {vs : List V} : F a = some (.lst vs) → RepL K F ds vs → Rep K F (.lst ds) (.ref a)
  | scr {a : Addr} {ds : List D} {vs : List V} : SqL K F a vs → RepL K F ds vs → Rep K F (.scr ds) (.ref a)
  | ins {a C dx : Addr} {ds : List D} {vs : List V} : F a = some (SlX.SlO a C dx (vs.map some)) → F dx = some (.xd []) → RepL K F ds vs → Rep K F (.ins C ds) (.ref a)
  | obj {a C dx : Addr} {fs : List (Str × D)} {ws : List (Str × V)} : F a = some (.ins C dx ws) → RepF K F fs ws → Rep K F (.obj C fs) (.ref a)
  | dic {a : Addr} {fs : List (Key × D)} {ws : List (Key × V)} : F a = some (.dK ws) → RepK K F fs ws → Rep K F (.dic fs) (.ref a)
inductive RepL (K : PySem.W.Frag) (F : Hp) : List D → List V → Prop
  | nil : RepL K F [] []
  | cons {d : D} {v : V} {ds : List D} {vs : List V} : Rep K F d v → RepL K F ds vs → RepL K F (d :: ds) (v :: vs)
inductive RepF (K : PySem.W.Frag) (F : Hp) : List (Str × D) → List (Str × V) → Prop
  | nil : RepF K F [] []
  | cons {f : Str} {d : D} {v : V} {ds : List (Str × D)} {vs : List (Str × V)} : Rep K F d v → RepF K F ds vs → RepF K F ((f, d) :: ds) ((f, v) :: vs)
inductive RepK (K : PySem.W.Frag) (F : Hp) : List (Key × D) → List (Key × V) → Prop
  | nil : RepK K F [] []
  | cons {f : Key} {d : D} {v : V} {ds : List (Key × D)} {vs : List (Key × V)} : Rep K F d v → RepK K F ds vs → RepK K F ((f, d) :: ds) ((f, v) :: vs)
end
def Le (F F' : Hp) : Prop := ∀ a o, F a = some o → F' a = some o
theorem Le.refl (F : Hp) : Le F F := fun _ _ h => h
theorem Le.trans {F G H : Hp} (a : Le F G) (b : Le G H) : Le F H := fun x o h => b x o (a x o h)
theorem Le.new {F : Hp} {p : Addr} {o : HO} (h : F p = none) : Le F (upd F p o) := fun a u e => by
  rw [upd_ne (ne_of_none e h)]
  exact e
section
variable {K : PySem.W.Frag} {F F' : Hp}
theorem rd_mono {a : Addr} {u : HO} (l : Le F F') (h : Rd F a u) : Rd F' a u := by
  rcases h with h | ⟨o, h⟩
  · exact .inl (l _ _ h)
  · exact .inr ⟨o, l _ _ h⟩
theorem sqL_mono {a : Addr} {xs : List V} (l : Le F F') (h : SqL K F a xs) : SqL K F' a xs := by
  rcases h with h | h
  · exact .inl (rd_mono l h)
  · exact .inr h
theorem sqT_up {a : Addr} {xs : List V} (l : Le F F') (h : SqT K F a xs) : SqT K F' a xs := by
  rcases h with h | h
  · exact .inl (rd_mono l h)
  · exact .inr h
theorem sqT_mono {a : Addr} {xs : List V} (l : Le F F') (h : F a = some (.tup xs)) : SqT K F' a xs := .inl (.inl (l _ _ h))
mutual
theorem Rep.mono (l : Le F F') : ∀ {d : D} {v : V}, Rep K F d v → Rep K F' d v
  | _, _, .non => .non
  | _, _, .bl b => .bl b
  | _, _, .int i => .int i
  | _, _, .str x => .str x
  | _, _, .ref a => .ref a
  | _, _, .ty n => .ty n
  | _, _, .tup h r => .tup (l _ _ h) (RepL.mono l r)
  | _, _, .lst h r => .lst (l _ _ h) (RepL.mono l r)
  | _, _, .scr h r => .scr (sqL_mono l h) (RepL.mono l r)
  | _, _, .ins h h2 r => .ins (l _ _ h) (l _ _ h2) (RepL.mono l r)
  | _, _, .obj h r => .obj (l _ _ h) (RepF.mono l r)
  | _, _, .dic h r => .dic (l _ _ h) (RepK.mono l r)
theorem RepL.mono (l : Le F F') : ∀ {d : List D} {v : List V}, RepL K F d v → RepL K F' d v
  | _, _, .nil => .nil
  | _, _, .cons h r => .cons (Rep.mono l h) (RepL.mono l r)
theorem RepF.mono (l : Le F F') : ∀ {d : List (Str × D)} {v : List (Str × V)}, RepF K F d v → RepF K F' d v
  | _, _, .nil => .nil
  | _, _, .cons h r => .cons (Rep.mono l h) (RepF.mono l r)
theorem RepK.mono (l : Le F F') : ∀ {d : List (Key × D)} {v : List (Key × V)}, RepK K F d v → RepK K F' d v
  | _, _, .nil => .nil
  | _, _, .cons h r => .cons (Rep.mono l h) (RepK.mono l r)
end
theorem RepL.length : ∀ {ds : List D} {vs : List V}, RepL K F ds vs → ds.length = vs.length
  | _, _, .nil => rfl
  | _, _, .cons _ r => by rw [List.length_cons, List.length_cons, RepL.length r]
theorem RepL.get : ∀ {ds : List D} {vs : List V} {i : Nat} {d : D}, RepL K F ds vs → ds[i]? = some d → ∃ v, vs[i]? = some v ∧ Rep K F d v
  | _, _, _, _, .nil, e => by simp at e
  | _, _, 0, _, .cons r _, e => by simp at e; subst e; exact ⟨_, rfl, r⟩
  | _, _, i + 1, d, .cons _ t, e => by
    obtain ⟨u, h1, h2⟩ := RepL.get (i := i) (d := d) t (by simpa using e)
    exact ⟨u, by simpa using h1, h2⟩
theorem RepL.append : ∀ {ds es : List D} {vs us : List V}, RepL K F ds vs → RepL K F es us → RepL K F (ds ++ es) (vs ++ us)
  | _, _, _, _, .nil, s => s
  | _, _, _, _, .cons r t, s => .cons r (RepL.append t s)
theorem RepL.one {d : D} {v : V} (h : Rep K F d v) : RepL K F [d] [v] := .cons h .nil
theorem RepL.take : ∀ {ds : List D} {vs : List V} (n : Nat), RepL K F ds vs → RepL K F (ds.take n) (vs.take n)
  | _, _, 0, _ => .nil
  | _, _, _ + 1, .nil => .nil
  | _, _, n + 1, .cons r t => .cons r (RepL.take n t)
theorem RepL.drop : ∀ {ds : List D} {vs : List V} (n : Nat), RepL K F ds vs → RepL K F (ds.drop n) (vs.drop n)
  | _, _, 0, r => r
  | _, _, _ + 1, .nil => .nil
  | _, _, n + 1, .cons _ t => RepL.drop n t
theorem RepL.set {x : D} {u : V} (r : Rep K F x u) : ∀ {ds : List D} {vs : List V} (i : Nat), RepL K F ds vs → RepL K F (ds.set i x) (vs.set i u)
  | _, _, _, .nil => .nil
  | _, _, 0, .cons _ t => .cons r t
  | _, _, i + 1, .cons q t => .cons q (RepL.set r i t)
theorem RepL.reverse {ds : List D} {vs : List V} (h : RepL K F ds vs) : RepL K F ds.reverse vs.reverse := by
  have gen : ∀ {ds : List D} {vs : List V}, RepL K F ds vs → RepL K F ds.reverse vs.reverse := by
    intro ds
    induction ds with
    | nil =>
      intro vs h
      cases h
      exact .nil
    | cons d ds ih =>
      intro vs h
      cases h with
      | cons r t =>
        rw [List.reverse_cons, List.reverse_cons]
        exact (ih t).append (.one r)
  exact gen h
end
inductive DO where
  /-- a list that is being filled -/
  | lst (ds : List D)
  /-- a list of which something is known -/
  | lsts (f : List D → Prop)
  | dic (kvs : List (Key × D))
  | dit (kvs : List (List Key × D))
  /-- an instance (its dict dx) -/
  | obj (C dx : Addr) (fs : List (Str × D))
  /-- an instance with slots, some filled -/
  | sl (C dx : Addr) (os : List (Option D))
  /-- a table of code objects -/
  | tab (f : Addr → HO)
  /-- any other thing that never changes -/
  | ext (φ : Heap → Prop)
  /-- an exception of an own class that is held, its fields -/
  | exc (C : Addr) (fs : List (Str × D))
abbrev Gp := Addr → Option DO
inductive RepT (K : PySem.W.Frag) (F : Hp) : List (List Key × D) → List (List Key × V) → Prop
  | nil : RepT K F [] []
  | cons {f : List Key} {d : D} {v : V} {ds : List (List Key × D)} {vs : List (List Key × V)} : Rep K F d v → RepT K F ds vs → RepT K F ((f, d) :: ds) ((f, v) :: vs)
theorem RepT.mono {K : PySem.W.Frag} {F F' : Hp} (l : Le F F') : ∀ {d : List (List Key × D)} {v : List (List Key × V)}, RepT K F d v → RepT K F' d v
  | _, _, .nil => .nil
  | _, _, .cons h r => .cons (h.mono l) (RepT.mono l r)
def XdOk (F : Hp) (dx : Addr) : Prop := ∀ o, F dx = some o → o = .xd []
theorem XdOk.upd {F : Hp} {dx p : Addr} {o : HO} (h : XdOk F dx) (n : dx ≠ p) : XdOk (upd F p o) dx := fun u e => h u (by rwa [upd_ne n] at e)
abbrev St3 := List (Option D)
structure RepS (K : PySem.W.Frag) (F : Hp) (sd : St3) (σ : L2.St) : Prop where
  len : sd.length = σ.length
  at_ : ∀ (i : Nat) (d : D), sd[i]? = some (some d) → ∃ v, σ[i]? = some (some v) ∧ Rep K F d v
theorem RepS.mono0 {K : PySem.W.Frag} {F F' : Hp} {sd : St3} {σ : L2.St} (l : Le F F') (r : RepS K F sd σ) : RepS K F' sd σ := ⟨r.len, fun i d e => let ⟨v, h, q⟩ := r.at_ i d e; ⟨v, h, q.mono l⟩⟩
def RepO (K : PySem.W.Frag) (F H : Hp) (p : Addr) : DO → Prop
  | .lst ds => ∃ vs, H p = some (.lst vs) ∧ RepL K F ds vs
  | .lsts f => ∃ ds vs, f ds ∧ H p = some (.lst vs) ∧ RepL K F ds vs
  | .dic kvs => ∃ ws, H p = some (.dK ws) ∧ RepK K F kvs ws
  | .dit kvs => ∃ ws, H p = some (.dT ws) ∧ RepT K F kvs ws
  | .obj C dx fs => ∃ ws, H p = some (.ins C dx ws) ∧ RepF K F fs ws
  | .tab f => (∀ c o u, f c ≠ HO.frz o u) ∧ ∃ ps : Array Value, H p = some (.tbl ps) ∧ PySem.TriplesOk ps.toList ∧ ∀ (pos : Pos) (cv : Value), codeAmong pos ps.toList = some cv → ∃ c, cv = .ref c ∧ F c = some (f c)
  | .ext φ => H p = some (.ext φ)
  | .exc C fs => ∃ (dx : Addr) (ws : List (Str × V)), H p = some (exo p C (some dx)) ∧ F dx = some (exd dx ws) ∧ RepF K F fs ws
  | .sl C dx os => XdOk F dx ∧ dx ≠ p ∧ ∃ ws : L2.St, RepS K F os ws ∧ ((os = [] ∧ H p = some (.ins C dx []) ∧ H dx = some (.own p)) ∨ (H p = some (SlX.SlO p C dx ws) ∧ H dx = some (.xd [])))
structure Cp (K : PySem.W.Frag) (F : Hp) (G : Gp) (H : Hp) : Prop where
  frz : ∀ a o, F a = some o → H a = some o
  own : ∀ p o, G p = some o → F p = none ∧ RepO K F H p o
def gupd (G : Gp) (a : Addr) (o : DO) : Gp := fun b => if b = a then some o else G b
theorem gupd_same {G : Gp} {a : Addr} {o : DO} : gupd G a o a = some o := by unfold gupd; rw [if_pos rfl]
theorem gupd_ne {G : Gp} {a b : Addr} {o : DO} (h : b ≠ a) : gupd G a o b = G b := by unfold gupd; rw [if_neg h]
theorem gupd_gupd {G : Gp} {a : Addr} {o u : DO} : gupd (gupd G a o) a u = gupd G a u := by
  funext b; unfold gupd; split <;> rfl
section
variable {K : PySem.W.Frag} {F F' H H' : Hp} {G : Gp} {sd : St3} {σ : L2.St}
theorem RepS.mono (l : Le F F') (r : RepS K F sd σ) : RepS K F' sd σ := ⟨r.len, fun i d e => let ⟨v, h, q⟩ := r.at_ i d e; ⟨v, h, q.mono l⟩⟩
theorem RepS.set {d : D} {v : V} (r : RepS K F sd σ) (i : Nat) (h : Rep K F d v) : RepS K F (sd.set i (some d)) (σ.set i (some v)) := by
  refine ⟨by rw [List.length_set, List.length_set, r.len], fun j e q => ?_⟩
  by_cases hj : j = i
  · subst hj
    have hl : j < sd.length := by
      have z := (List.getElem?_eq_some_iff.mp q).1
      rwa [List.length_set] at z
    rw [List.getElem?_set_self hl] at q
    cases q
    exact ⟨v, by rw [List.getElem?_set_self (by rw [← r.len]; exact hl)], h⟩
  · rw [List.getElem?_set_ne (Ne.symm hj)] at q
    rw [List.getElem?_set_ne (Ne.symm hj)]
    exact r.at_ j e q
theorem RepS.forget (r : RepS K F sd σ) (i : Nat) (o : Option V) : RepS K F (sd.set i none) (σ.set i o) := by
  refine ⟨by rw [List.length_set, List.length_set, r.len], fun j e q => ?_⟩
  by_cases hj : j = i
  · subst hj
    have hl : j < sd.length := by
      have z := (List.getElem?_eq_some_iff.mp q).1
      rwa [List.length_set] at z
    rw [List.getElem?_set_self hl] at q
    cases q
  · rw [List.getElem?_set_ne (Ne.symm hj)] at q
    rw [List.getElem?_set_ne (Ne.symm hj)]
    exact r.at_ j e q
theorem Cp.free {p : Addr} (c : Cp K F G H) (h : H p = none) : F p = none ∧ G p = none := by
  constructor
  · cases e : F p with
    | none => rfl
    | some o => rw [c.frz p o e] at h; cases h
  · cases e : G p with
    | none => rfl
    | some o =>
      obtain ⟨_, q⟩ := c.own p o e
      cases o with
      | lst ds => obtain ⟨vs, z, _⟩ := q; rw [h] at z; cases z
      | lsts f => obtain ⟨ds, vs, _, z, _⟩ := q; rw [h] at z; cases z
      | dic kvs => obtain ⟨ws, z, _⟩ := q; rw [h] at z; cases z
      | dit kvs => obtain ⟨ws, z, _⟩ := q; rw [h] at z; cases z
      | obj C dx fs => obtain ⟨ws, z, _⟩ := q; rw [h] at z; cases z
      | tab f => obtain ⟨_, ps, z, _⟩ := q; rw [h] at z; cases z
      | ext φ => have z : H p = some (.ext φ) := q; rw [h] at z; cases z
      | exc C fs => obtain ⟨dx, ws, z, _⟩ := q; rw [h] at z; cases z
      | sl C dx ds =>
        obtain ⟨_, _, vs, _, z | z⟩ := q
        · rw [h] at z; exact nomatch z.2.1
        · rw [h] at z; exact nomatch z.1
theorem RepO.keep {p : Addr} {o : DO} (q : RepO K F H p o) (l : Le F F') (hp : H' p = H p) (hd : ∀ C dx ds, o = .sl C dx ds → H' dx = H dx ∧ XdOk F' dx) : RepO K F' H' p o := by
  cases o with
  | lst ds => obtain ⟨vs, z, r⟩ := q; exact ⟨vs, hp.trans z, r.mono l⟩
  | lsts f => obtain ⟨ds, vs, hf, z, r⟩ := q; exact ⟨ds, vs, hf, hp.trans z, r.mono l⟩
  | dic kvs => obtain ⟨ws, z, r⟩ := q; exact ⟨ws, hp.trans z, r.mono l⟩
  | dit kvs => obtain ⟨ws, z, r⟩ := q; exact ⟨ws, hp.trans z, r.mono l⟩
  | obj C dx fs => obtain ⟨ws, z, r⟩ := q; exact ⟨ws, hp.trans z, r.mono l⟩
  | tab f => obtain ⟨n, ps, z, t, k⟩ := q; exact ⟨n, ps, hp.trans z, t, fun pos cv e => let ⟨c, e1, e2⟩ := k pos cv e; ⟨c, e1, l _ _ e2⟩⟩
  | ext φ => exact hp.trans q
  | exc C fs => obtain ⟨dx, ws, z, f, r⟩ := q; exact ⟨dx, ws, hp.trans z, l _ _ f, r.mono l⟩
  | sl C dx ds =>
    obtain ⟨h1, h2, vs, r, z⟩ := q
    obtain ⟨e1, e2⟩ := hd C dx ds rfl
    refine ⟨e2, h2, vs, r.mono0 l, ?_⟩
    rcases z with ⟨z1, z2, z3⟩ | ⟨z1, z2⟩
    · exact .inl ⟨z1, hp.trans z2, e1.trans z3⟩
    · exact .inr ⟨hp.trans z1, e1.trans z2⟩
theorem Cp.newF {p : Addr} {o : HO} (c : Cp K F G H) (h : H p = none) : Cp K (upd F p o) G (upd H p o) ∧ Le F (upd F p o) := by
  obtain ⟨hF, hG⟩ := c.free h
  refine ⟨⟨fun a u e => ?_, fun q u e => ?_⟩, Le.new hF⟩
  · by_cases ha : a = p
    · subst ha; rw [upd_same] at e ⊢; exact e
    · rw [upd_ne ha] at e ⊢; exact c.frz a u e
  · have hq : q ≠ p := fun z => by rw [z, hG] at e; cases e
    obtain ⟨f, r⟩ := c.own q u e
    refine ⟨by rw [upd_ne hq]; exact f, r.keep (Le.new hF) (upd_ne hq) fun C dx ds eo => ?_⟩
    subst eo
    obtain ⟨h1, _, vs, _, z⟩ := r
    have hdx : dx ≠ p := by
      rintro rfl
      rcases z with ⟨_, _, z⟩ | ⟨_, z⟩ <;> · rw [h] at z; cases z
    exact ⟨upd_ne hdx, h1.upd hdx⟩
theorem Cp.newG {p : Addr} {ds : List D} {vs : List V} (c : Cp K F G H) (h : H p = none) (r : RepL K F ds vs) : Cp K F (gupd G p (.lst ds)) (upd H p (.lst vs)) := by
  obtain ⟨hF, hG⟩ := c.free h
  refine ⟨fun a u e => ?_, fun q u e => ?_⟩
  · rw [upd_ne (ne_of_none e hF)]
    exact c.frz a u e
  · by_cases hq : q = p
    · subst hq
      rw [gupd_same] at e
      cases e
      exact ⟨hF, vs, upd_same, r⟩
    · rw [gupd_ne hq] at e
      obtain ⟨f, r2⟩ := c.own q u e
      refine ⟨f, r2.keep (Le.refl _) (upd_ne hq) fun C dx ds eo => ?_⟩
      subst eo
      obtain ⟨h1, _, vs, _, z⟩ := r2
      have hdx : dx ≠ p := by
        rintro rfl
        rcases z with ⟨_, _, z⟩ | ⟨_, z⟩ <;> · rw [h] at z; cases z
      exact ⟨upd_ne hdx, h1⟩
theorem Cp.put {p : Addr} {o : HO} {u : DO} (c : Cp K F G H) (hF : F p = none) (hn : ∀ x, H p ≠ some (.own x)) (hx : H p ≠ some (.xd [])) (hs : ∀ C dx ds, u ≠ .sl C dx ds) (r : RepO K F (upd H p o) p u) : Cp K F (gupd G p u) (upd H p o) := by
  refine ⟨fun a z e => ?_, fun q z e => ?_⟩
  · rw [upd_ne (ne_of_none e hF)]
    exact c.frz a z e
  · by_cases hq : q = p
    · subst hq
      rw [gupd_same] at e
      cases e
      exact ⟨hF, r⟩
    · rw [gupd_ne hq] at e
      obtain ⟨f, r2⟩ := c.own q z e
      refine ⟨f, r2.keep (Le.refl _) (upd_ne hq) fun C dx ds eo => ?_⟩
      subst eo
      obtain ⟨h1, _, vs, _, zz⟩ := r2
      have hdx : dx ≠ p := by
        rintro rfl
        rcases zz with ⟨_, _, y⟩ | ⟨_, y⟩
        · exact hn _ y
        · exact hx y
      exact ⟨upd_ne hdx, h1⟩
inductive Im : DO → DO → Prop
  | refl (o : DO) : Im o o
  | cl {ds : List D} {f : List D → Prop} (h : f ds) : Im (.lst ds) (.lsts f)
  | wk {f g : List D → Prop} (h : ∀ ds, f ds → g ds) : Im (.lsts f) (.lsts g)
def Sub (G G' : Gp) : Prop := ∀ p o, G p = some o → ∃ o', G' p = some o' ∧ Im o' o
theorem Sub.refl (G : Gp) : Sub G G := fun _ o h => ⟨o, h, Im.refl o⟩
theorem Im.trans {a b c : DO} (h : Im a b) (h' : Im b c) : Im a c := by
  cases h with
  | refl => exact h'
  | cl h =>
    cases h' with
    | refl => exact .cl h
    | wk g => exact .cl (g _ h)
  | wk h =>
    cases h' with
    | refl => exact .wk h
    | wk g => exact .wk fun ds z => g _ (h _ z)
theorem Sub.trans {A B C : Gp} (x : Sub A B) (y : Sub B C) : Sub A C := fun p o h => by
  obtain ⟨o1, e1, i1⟩ := x p o h
  obtain ⟨o2, e2, i2⟩ := y p o1 e1
  exact ⟨o2, e2, i2.trans i1⟩
theorem Sub.new {G : Gp} {p : Addr} {o : DO} (h : G p = none) : Sub G (gupd G p o) := fun q u e => by
  have hq : q ≠ p := fun z => by rw [z, h] at e; cases e
  exact ⟨u, by rw [gupd_ne hq]; exact e, Im.refl u⟩
theorem Sub.put {G G' : Gp} {p : Addr} {o : DO} (s : Sub G G') (h : G p = none) : Sub G (gupd G' p o) := fun q u e => by
  have hq : q ≠ p := fun z => by rw [z, h] at e; cases e
  obtain ⟨o', e', i⟩ := s q u e
  exact ⟨o', by rw [gupd_ne hq]; exact e', i⟩
theorem RepO.im {p : Addr} {o u : DO} (q : RepO K F H p o) (i : Im o u) : RepO K F H p u := by
  cases i with
  | refl => exact q
  | cl h =>
    obtain ⟨vs, z, r⟩ := q
    exact ⟨_, vs, h, z, r⟩
  | wk h =>
    obtain ⟨ds, vs, hf, z, r⟩ := q
    exact ⟨ds, vs, h ds hf, z, r⟩
theorem Cp.sub {G' : Gp} (c : Cp K F G' H) (s : Sub G G') : Cp K F G H := ⟨c.frz, fun p o e => by
  obtain ⟨o', e', i⟩ := s p o e
  obtain ⟨f, r⟩ := c.own p o' e'
  exact ⟨f, r.im i⟩⟩
end
abbrev DK := D → Gp → Prop
abbrev TE3 := St3 → Gp → DK → Prop
abbrev TT3 := St3 → Gp → (Bool → Gp → Prop) → Prop
abbrev TA3 := St3 → Gp → (List D → Gp → Prop) → Prop
structure Ends3 where
  nx : St3 → Gp → Prop
  rt : DK
  bk : St3 → Gp → Prop := fun _ _ => False
  ct : St3 → Gp → Prop := fun _ _ => False
abbrev TS3 := Ends3 → St3 → Gp → Prop
abbrev EK := Addr → List (Str × D) → Gp → Prop
abbrev WK := Addr → List (Str × D) → St3 → Gp → Prop
abbrev Sp3 := List D → Gp → DK → EK → Prop
structure Ext (K : PySem.W.Frag) (F : Hp) (G : Gp) (H : Hp) (F' : Hp) (G' : Gp) (H' : Hp) : Prop where
  le : Le F F'
  st : ∀ a o, H a = some o → G a = none → F a = none → (∀ x, o ≠ .own x) → H' a = some o ∧ G' a = none ∧ F' a = none
  cp : Cp K F' G' H'
theorem Ext.refl {K : PySem.W.Frag} {F H : Hp} {G : Gp} (c : Cp K F G H) : Ext K F G H F G H := ⟨Le.refl _, fun _ _ h g f _ => ⟨h, g, f⟩, c⟩
theorem Ext.trans {K : PySem.W.Frag} {F H F1 H1 F2 H2 : Hp} {G G1 G2 : Gp} (x : Ext K F G H F1 G1 H1) (y : Ext K F1 G1 H1 F2 G2 H2) : Ext K F G H F2 G2 H2 :=
  ⟨x.le.trans y.le, fun a o h g f n => let ⟨h1, g1, f1⟩ := x.st a o h g f n; y.st a o h1 g1 f1 n, y.cp⟩
theorem Ext.newF {K : PySem.W.Frag} {F H : Hp} {G : Gp} (c : Cp K F G H) {p : Addr} (o : HO) (h : H p = none) : Ext K F G H (upd F p o) G (upd H p o) :=
  ⟨(c.newF (o := o) h).2, fun a u e g f _ => ⟨by rw [upd_ne (ne_of_none e h)]; exact e, g, by rw [upd_ne (ne_of_none e h)]; exact f⟩, (c.newF h).1⟩
theorem Ext.newG {K : PySem.W.Frag} {F H : Hp} {G : Gp} (c : Cp K F G H) {p : Addr} {ds : List D} {vs : List V} (h : H p = none) (r : RepL K F ds vs) : Ext K F G H F (gupd G p (.lst ds)) (upd H p (.lst vs)) :=
  ⟨Le.refl _, fun a u e g f _ => ⟨by rw [upd_ne (ne_of_none e h)]; exact e, by rw [gupd_ne (ne_of_none e h)]; exact g, f⟩, c.newG h r⟩
theorem Ext.put {K : PySem.W.Frag} {F H : Hp} {G : Gp} (c : Cp K F G H) {p : Addr} {o : HO} {u z : DO} (hG : G p = some z) (hn : ∀ x, H p ≠ some (.own x)) (hx : H p ≠ some (.xd [])) (hs : ∀ C dx ds, u ≠ .sl C dx ds) (r : RepO K F (upd H p o) p u) : Ext K F G H F (gupd G p u) (upd H p o) :=
  ⟨Le.refl _, fun a w e g f _ => by
    have ha : a ≠ p := fun q => by rw [q, hG] at g; cases g
    exact ⟨by rw [upd_ne ha]; exact e, by rw [gupd_ne ha]; exact g, f⟩, c.put (c.own p z hG).1 hn hx hs r⟩
theorem Sub.none {G G' : Gp} (s : Sub G G') {a : Addr} (h : G' a = none) : G a = none := by
  cases e : G a with
  | none => rfl
  | some o =>
    obtain ⟨o', e', _⟩ := s a o e
    rw [h] at e'
    cases e'
theorem Ext.sub {K : PySem.W.Frag} {F H : Hp} {G G' : Gp} (c : Cp K F G' H) (s : Sub G G') : Ext K F G' H F G H := ⟨Le.refl _, fun _ _ h g f _ => ⟨h, s.none g, f⟩, c.sub s⟩
theorem Cp.loose {K : PySem.W.Frag} {F H : Hp} {G : Gp} (c : Cp K F G H) {p : Addr} {o : HO} (hF : F p = none) (hG : G p = none) (hn : ∀ x, H p ≠ some (.own x)) (hx : H p ≠ some (.xd [])) : Cp K F G (upd H p o) := by
  refine ⟨fun a u e => ?_, fun q u e => ?_⟩
  · rw [upd_ne (ne_of_none e hF)]
    exact c.frz a u e
  · have hq : q ≠ p := fun z => by rw [z, hG] at e; cases e
    obtain ⟨f, r2⟩ := c.own q u e
    refine ⟨f, r2.keep (Le.refl _) (upd_ne hq) fun C dx ds eo => ?_⟩
    subst eo
    obtain ⟨h1, _, vs, _, zz⟩ := r2
    have hdx : dx ≠ p := by
      rintro rfl
      rcases zz with ⟨_, _, y⟩ | ⟨_, y⟩
      · exact hn _ y
      · exact hx y
    exact ⟨upd_ne hdx, h1⟩
theorem Ext.loose {K : PySem.W.Frag} {F H F' H' : Hp} {G G' : Gp} (x : Ext K F G H F' G' H') {p : Addr} {o : HO} (h : H p = none) (hF : F' p = none) (hG : G' p = none) (hn : ∀ x, H' p ≠ some (.own x)) (hx : H' p ≠ some (.xd [])) : Ext K F G H F' G' (upd H' p o) :=
  ⟨x.le, fun a u e g f n => by
    obtain ⟨h1, g1, f1⟩ := x.st a u e g f n
    exact ⟨by rw [upd_ne (ne_of_none e h)]; exact h1, g1, f1⟩, x.cp.loose hF hG hn hx⟩
theorem Ext.fix {K : PySem.W.Frag} {F H F' H' : Hp} {G G' : Gp} (x : Ext K F G H F' G' H') {p : Addr} {vs : List V} (h : H p = none) (hF : F' p = none) (hG : G' p = none) (hp : H' p = some (.lst vs)) : Ext K F G H (upd F' p (.lst vs)) G' H' :=
  ⟨x.le.trans (Le.new hF), fun a u e g f n => by
    obtain ⟨h1, g1, f1⟩ := x.st a u e g f n
    exact ⟨h1, g1, by rw [upd_ne (ne_of_none e h)]; exact f1⟩, ⟨fun a u e => by
      by_cases ha : a = p
      · subst ha; rw [upd_same] at e; cases e; exact hp
      · rw [upd_ne ha] at e; exact x.cp.frz a u e, fun q u e => by
      have hq : q ≠ p := fun z => by rw [z, hG] at e; cases e
      obtain ⟨f, r2⟩ := x.cp.own q u e
      refine ⟨by rw [upd_ne hq]; exact f, r2.keep (Le.new hF) rfl fun C dx ds eo => ?_⟩
      subst eo
      obtain ⟨h1, _, vs', _, z⟩ := r2
      have hdx : dx ≠ p := by
        rintro rfl
        rcases z with ⟨_, _, z⟩ | ⟨_, z⟩ <;> · rw [hp] at z; cases z
      exact ⟨rfl, h1.upd hdx⟩⟩⟩
structure Pt where
  F : Hp
  G : Gp
  H : Hp
structure At (K : PySem.W.Frag) (o : Pt) (F : Hp) (sd : St3) (G : Gp) (σ : L2.St) (H : Hp) : Prop where
  ext : Ext K o.F o.G o.H F G H
  rs : RepS K F sd σ
theorem At.cp {K : PySem.W.Frag} {o : Pt} {F : Hp} {sd : St3} {G : Gp} {σ : L2.St} {H : Hp} (a : At K o F sd G σ H) : Cp K F G H := a.ext.cp
def QR (K : PySem.W.Frag) (F : Hp) (G : Gp) (H : Hp) (Q3 : DK) (Q : VK) : Prop := ∀ d v F' G' H', Ext K F G H F' G' H' → Rep K F' d v → Q3 d G' → Q v H'
def QB (K : PySem.W.Frag) (F : Hp) (G : Gp) (H : Hp) (Q3 : Bool → Gp → Prop) (Q : Bool → Hp → Prop) : Prop := ∀ b F' G' H', Ext K F G H F' G' H' → Q3 b G' → Q b H'
def QA (K : PySem.W.Frag) (F : Hp) (G : Gp) (H : Hp) (Q3 : List D → Gp → Prop) (Q : List V → Hp → Prop) : Prop := ∀ ds vs F' G' H', Ext K F G H F' G' H' → RepL K F' ds vs → Q3 ds G' → Q vs H'
def QS (K : PySem.W.Frag) (F : Hp) (G : Gp) (H : Hp) (Q3 : St3 → Gp → Prop) (Q : L2.St → Hp → Prop) : Prop := ∀ sd' σ' F' G' H', Ext K F G H F' G' H' → RepS K F' sd' σ' → Q3 sd' G' → Q σ' H'
section
variable {K : PySem.W.Frag} {F F1 H H1 : Hp} {G G1 : Gp}
theorem QR.mono {Q3 : DK} {Q : VK} (q : QR K F G H Q3 Q) (l : Ext K F G H F1 G1 H1) : QR K F1 G1 H1 Q3 Q := fun d v F' G' H' l' => q d v F' G' H' (l.trans l')
theorem QB.mono {Q3 : Bool → Gp → Prop} {Q : Bool → Hp → Prop} (q : QB K F G H Q3 Q) (l : Ext K F G H F1 G1 H1) : QB K F1 G1 H1 Q3 Q := fun d F' G' H' l' => q d F' G' H' (l.trans l')
theorem QA.mono {Q3 : List D → Gp → Prop} {Q : List V → Hp → Prop} (q : QA K F G H Q3 Q) (l : Ext K F G H F1 G1 H1) : QA K F1 G1 H1 Q3 Q := fun d v F' G' H' l' => q d v F' G' H' (l.trans l')
theorem QS.mono {Q3 : St3 → Gp → Prop} {Q : L2.St → Hp → Prop} (q : QS K F G H Q3 Q) (l : Ext K F G H F1 G1 H1) : QS K F1 G1 H1 Q3 Q := fun d v F' G' H' l' => q d v F' G' H' (l.trans l')
structure QE (K : PySem.W.Frag) (F : Hp) (G : Gp) (H : Hp) (D3 : Ends3) (D : Ends) : Prop where
  nx : QS K F G H D3.nx D.nx
  rt : QR K F G H D3.rt D.rt
  bk : QS K F G H D3.bk D.bk
  ct : QS K F G H D3.ct D.ct
theorem QE.mono {D3 : Ends3} {D : Ends} (q : QE K F G H D3 D) (l : Ext K F G H F1 G1 H1) : QE K F1 G1 H1 D3 D := ⟨q.nx.mono l, q.rt.mono l, q.bk.mono l, q.ct.mono l⟩
theorem At.step {F0 : Pt} {sd : St3} {σ : L2.St} (a : At K F0 F sd G σ H) (l : Ext K F G H F1 G1 H1) : At K F0 F1 sd G1 σ H1 := ⟨a.ext.trans l, a.rs.mono l.le⟩
end
def low (K : PySem.W.Frag) (F0 : Pt) (t : TE3) : TE := fun σ H Q => ∃ sd F G Q3, At K F0 F sd G σ H ∧ t sd G Q3 ∧ QR K F G H Q3 Q
def lowT (K : PySem.W.Frag) (F0 : Pt) (t : TT3) : TT := fun σ H Q => ∃ sd F G Q3, At K F0 F sd G σ H ∧ t sd G Q3 ∧ QB K F G H Q3 Q
def lowA (K : PySem.W.Frag) (F0 : Pt) (t : TA3) : TA := fun σ H Q => ∃ sd F G Q3, At K F0 F sd G σ H ∧ t sd G Q3 ∧ QA K F G H Q3 Q
def lowS (K : PySem.W.Frag) (F0 : Pt) (t : TS3) : TS := fun D σ H => ∃ sd F G D3, At K F0 F sd G σ H ∧ t D3 sd G ∧ QE K F G H D3 D
def XR (K : PySem.W.Frag) (F H : Hp) (d : Option Addr) (fs : List (Str × D)) : Prop := (fs = [] ∧ d = none) ∨ ∃ dd ws, d = some dd ∧ F dd = some (.xd ws) ∧ RepF K F fs ws
def lowW (K : PySem.W.Frag) (F0 : Pt) (W : WK) : WX := fun cls d σ H => ∃ sd F G C fs, At K F0 F sd G σ H ∧ cls = .ref C ∧ XR K F H d fs ∧ W C fs sd G
def DE (X : Cx) (F0 : Pt) (e : Expr) (t : TE3) : Prop := PE X e (low X.K F0 t)
def DT (X : Cx) (F0 : Pt) (e : Expr) (t : TT3) : Prop := PT X e (lowT X.K F0 t)
def DW (X : Cx) (F0 : Pt) (e : Expr) (t : TT3) : Prop := PW X e (lowT X.K F0 t)
def DA (X : Cx) (F0 : Pt) (es : List Expr) (t : TA3) : Prop := PA X es (lowA X.K F0 t)
def DS (X : Cx) (F0 : Pt) (st : Stmt) (t : TS3) : Prop := PS X st (lowS X.K F0 t)
def DSs (X : Cx) (F0 : Pt) (st : List Stmt) (t : TS3) : Prop := PSs X st (lowS X.K F0 t)
section
variable {X : Cx} {F0 : Pt} {e : Expr} {es : List Expr} {st : Stmt} {sts : List Stmt}
theorem PE.imp {te t : TE} (h : PE X e te) (i : ∀ σ H Q, t σ H Q → te σ H Q) : PE X e t := ⟨fun pins s σ H Q I q => h.run pins s σ H Q I (i σ H Q q)⟩
theorem PT.imp {te t : TT} (h : PT X e te) (i : ∀ σ H Q, t σ H Q → te σ H Q) : PT X e t := ⟨fun pins s σ H Q I q => h.run pins s σ H Q I (i σ H Q q)⟩
theorem PW.imp {te t : TT} (h : PW X e te) (i : ∀ σ H Q, t σ H Q → te σ H Q) : PW X e t := ⟨fun wh pins s σ H Q I q => h.run wh pins s σ H Q I (i σ H Q q)⟩
theorem PA.imp {te t : TA} (h : PA X es te) (i : ∀ σ H Q, t σ H Q → te σ H Q) : PA X es t := ⟨fun pos pins s σ H Q I q => h.run pos pins s σ H Q I (i σ H Q q)⟩
theorem PS.imp {te t : TS} (h : PS X st te) (i : ∀ D σ H, t D σ H → te D σ H) : PS X st t := ⟨fun pins s σ H D I q => h.run pins s σ H D I (i D σ H q)⟩
theorem PSs.imp {te t : TS} (h : PSs X sts te) (i : ∀ D σ H, t D σ H → te D σ H) : PSs X sts t := ⟨fun pins s σ H D I q => h.run pins s σ H D I (i D σ H q)⟩
end
end L3
set_option Elab.async false
set_option linter.all false
set_option maxRecDepth 100000
set_option maxHeartbeats 4000000
namespace L3
open PySem PySem.Spec PyProof.Rows L2
def br (b : Bool) (A B : Prop) : Prop := match b with
  | true => A
  | false => B
def sget : St3 → Nat → Option D
  | [], _ => none
  | o :: _, 0 => o
  | _ :: r, n + 1 => sget r n
theorem sget_at : ∀ {sd : St3} {i : Nat} {d : D}, sget sd i = some d → sd[i]? = some (some d)
  | [], _, _, h => nomatch h
  | o :: _, 0, d, h => by
    have h' : o = some d := h
    rw [h']
    rfl
  | _ :: r, n + 1, d, h => by
    have q := sget_at (sd := r) (i := n) (d := d) h
    simpa using q
def sput (K : St3 → Prop) (d : Option D) : St3 → Nat → Prop
  | [], _ => K []
  | _ :: r, 0 => K (d :: r)
  | o :: r, n + 1 => sput (fun z => K (o :: z)) d r n
theorem sput_set {d : Option D} : ∀ {sd : St3} {i : Nat} {K : St3 → Prop}, sput K d sd i → K (sd.set i d)
  | [], _, _, h => h
  | _ :: _, 0, _, h => h
  | o :: r, n + 1, K, h => sput_set (sd := r) (i := n) (K := fun z => K (o :: z)) h
section
variable {X : Cx} {F0 : Pt} {a b c e o : Expr} {es rest : List Expr} {ta tb tc : TE3} {pos : Pos}
def dVar (i : Nat) : TE3 := fun sd G Q => match sget sd i with
  | some d => Q d G
  | none => False
def dC (d : D) : TE3 := fun _ G Q => Q d G
theorem de_var (i : Nat) {x : Str} {pos : Pos} (hN : X.N[i]? = some x := by rfl) (hv : Vis X.env.scope x := by first | exact Or.inl rfl | exact Or.inr (Or.inl rfl) | exact Or.inr (Or.inr rfl)) (hd : (x == ("__debug__" : Str)) = false := by decide)
    (hcd : (x == ("__classdict__" : Str)) = false := by decide) : DE X F0 (.Name x pos) (dVar i) := by
  refine PE.imp (pe_var hN hv hd hcd) fun σ H Q ⟨sd, F, G, Q3, at_, h, k⟩ => ?_
  unfold dVar at h
  split at h
  · rename_i d e
    obtain ⟨v, e1, r⟩ := at_.rs.at_ i d (sget_at e)
    exact ⟨v, e1, k _ _ _ _ _ (Ext.refl at_.cp) r h⟩
  · exact h.elim
theorem de_c {d : D} {v : V} (h : PE X e (tC v)) (r : ∀ K F, Rep K F d v) : DE X F0 e (dC d) :=
  PE.imp h fun σ H Q ⟨sd, F, G, Q3, at_, h, k⟩ => k _ _ _ _ _ (Ext.refl at_.cp) (r _ _) h
theorem de_int {i j pos} : DE X F0 (.Constant (.int i) j pos) (dC (.int i)) := de_c pe_int fun _ _ => .int _
theorem de_bl {i j pos} : DE X F0 (.Constant (.bool i) j pos) (dC (.bl i)) := de_c pe_bl fun _ _ => .bl _
theorem de_non {j pos} : DE X F0 (.Constant .none j pos) (dC .non) := de_c pe_non fun _ _ => .non
theorem de_str {x j pos} : DE X F0 (.Constant (.str x) j pos) (dC (.str x)) := de_c pe_str fun _ _ => .str _
theorem de_gint {x : Str} {i : Int} {pos : Pos} (hg : Gl X x) (hm : ∃ t, X.mg x = some (.int i t)) (hd : (x == ("__debug__" : Str)) = false := by decide) : DE X F0 (.Name x pos) (dC (.int i)) := by
  obtain ⟨t, h⟩ := hm
  exact de_c (pe_glob (v := .int i) hg h ⟨t, rfl⟩ hd) fun _ _ => .int _
theorem de_gref {x : Str} {C : Addr} {pos : Pos} (hg : Gl X x) (hm : X.mg x = some (.ref C)) (hd : (x == ("__debug__" : Str)) = false := by decide) : DE X F0 (.Name x pos) (dC (.ref C)) := de_c (pe_glob (v := .ref C) hg hm rfl hd) fun _ _ => .ref _
theorem de_ty {x : Str} {n : String} {pos : Pos} (hg : Gl X x) (hm : X.mg x = none) (hv : bootBuiltins x = some (.type n)) (hn : x ≠ "__name__" := by decide) (hd : (x == ("__debug__" : Str)) = false := by decide) : DE X F0 (.Name x pos) (dC (.ty n)) := de_c (pe_bltn (v := .ty n) hg hm hv rfl hn hd) fun _ _ => .ty _
abbrev R3 := D → D → Gp → DK → Prop
def OpD (K : PySem.W.Frag) (r : R2) (r3 : R3) : Prop := ∀ F G H x y dx dy Q Q3, Cp K F G H → Rep K F dx x → Rep K F dy y → r3 dx dy G Q3 → QR K F G H Q3 Q → r x y H Q
def dOp (r3 : R3) (ta tb : TE3) : TE3 := fun sd G Q => ta sd G fun x G1 => tb sd G1 fun y G2 => r3 x y G2 Q
theorem low_op {K : PySem.W.Frag} {r : R2} {r3 : R3} (h3 : OpD K r r3) {σ : L2.St} {H : Hp} {Q : VK} (h : low K F0 (dOp r3 ta tb) σ H Q) : tOp r (low K F0 ta) (low K F0 tb) σ H Q := by
  obtain ⟨sd, F, G, Q3, at_, h, k⟩ := h
  refine ⟨sd, F, G, _, at_, h, fun x vx F1 G1 H1 l1 r1 q1 => ?_⟩
  refine ⟨sd, F1, G1, _, at_.step l1, q1, fun y vy F2 G2 H2 l2 r2 q2 => ?_⟩
  exact h3 F2 G2 H2 vx vy x y Q Q3 l2.cp (r1.mono l2.le) r2 q2 (k.mono (l1.trans l2))
theorem de_op {op : Operator} {r : R2} {r3 : R3} (ho : OpR X (binaryOp op) r) (h3 : OpD X.K r r3) (ha : DE X F0 a ta) (hb : DE X F0 b tb) : DE X F0 (.BinOp a op b pos) (dOp r3 ta tb) := PE.imp (pe_op ho ha hb) fun _ _ _ h => low_op h3 h
theorem de_cmp {op : CmpOp} {r : R2} {r3 : R3} (ho : OpR X (compareOp op) r) (h3 : OpD X.K r r3) (ha : DE X F0 a ta) (hb : DE X F0 b tb) (hm : behindInMarks op b = false) : DE X F0 (.Compare a [op] [b] pos) (dOp r3 ta tb) := PE.imp (pe_cmpR ho ha hb hm) fun _ _ _ h => low_op h3 h
def asB (Q : Bool → Gp → Prop) : DK := fun d G => match d with
  | .bl b => Q b G
  | _ => False
def dB (t : TE3) : TT3 := fun sd G Q => t sd G (asB Q)
theorem qb_of {K : PySem.W.Frag} {F H : Hp} {G : Gp} {Q3 : Bool → Gp → Prop} {Q : Bool → Hp → Prop} (k : QB K F G H Q3 Q) : QR K F G H (asB Q3) (fun x H' => ∃ k, x = .bl k ∧ Q k H') := fun d v F' G' H' l r q => by
  cases d with
  | bl b =>
    cases r
    exact ⟨b, rfl, k b F' G' H' l q⟩
  | _ => exact q.elim
theorem dt_cmp {op : CmpOp} {r : R2} {r3 : R3} (ho : OpR X (compareOp op) r) (h3 : OpD X.K r r3) (ha : DE X F0 a ta) (hb : DE X F0 b tb) (hm : behindInMarks op b = false) : DT X F0 (.Compare a [op] [b] pos) (dB (dOp r3 ta tb)) :=
  PT.imp (pt_cmpR ho ha hb hm) fun _ _ _ ⟨sd, F, G, Q3, at_, h, k⟩ => low_op h3 ⟨sd, F, G, _, at_, h, qb_of k⟩
theorem dt_val (h : DE X F0 e ta) (he : ∀ whole, isTrue e X.env whole = (do let v ← whole; standAt e.pos; holding [v] (truthy v)) := by intro _; rfl) : DT X F0 e (dB ta) :=
  PT.imp (pt_val h he) fun _ _ _ ⟨sd, F, G, Q3, at_, h, k⟩ => ⟨sd, F, G, _, at_, h, qb_of k⟩
def UnD (K : PySem.W.Frag) (r : V → Hp → VK → Prop) (r3 : D → Gp → DK → Prop) : Prop := ∀ F G H x dx Q Q3, Cp K F G H → Rep K F dx x → r3 dx G Q3 → QR K F G H Q3 Q → r x H Q
def dUn (r3 : D → Gp → DK → Prop) (ta : TE3) : TE3 := fun sd G Q => ta sd G fun x G1 => r3 x G1 Q
theorem low_un {K : PySem.W.Frag} {r : V → Hp → VK → Prop} {r3 : D → Gp → DK → Prop} (h3 : UnD K r r3) {σ : L2.St} {H : Hp} {Q : VK} (h : low K F0 (dUn r3 ta) σ H Q) : tUn r (low K F0 ta) σ H Q := by
  obtain ⟨sd, F, G, Q3, at_, h, k⟩ := h
  refine ⟨sd, F, G, _, at_, h, fun x vx F1 G1 H1 l1 r1 q1 => ?_⟩
  exact h3 F1 G1 H1 vx x Q Q3 l1.cp r1 q1 (k.mono l1)
theorem de_un {op : UnaryOp} {r : V → Hp → VK → Prop} {r3 : D → Gp → DK → Prop} (ho : UnR X (unaryOp op) r) (h3 : UnD X.K r r3) (ha : DE X F0 a ta) : DE X F0 (.UnaryOp op a pos) (dUn r3 ta) := PE.imp (pe_un ho ha) fun _ _ _ h => low_un h3 h
variable {tA tB : TT3}
def dOr (t u : TT3) : TT3 := fun sd G Q => t sd G fun c G1 => br c (Q true G1) (u sd G1 Q)
def dNot (t : TT3) : TT3 := fun sd G Q => t sd G fun c G1 => br c (Q false G1) (Q true G1)
theorem dw_or1 (ha : DT X F0 a tA) : DW X F0 (.BoolOp .Or [a] pos) tA := pw_or1 ha
theorem dw_or (ha : DT X F0 a tA) (hb : DW X F0 (.BoolOp .Or (b :: rest) pos) tB) : DW X F0 (.BoolOp .Or (a :: b :: rest) pos) (dOr tA tB) :=
  PW.imp (pw_or ha hb) fun _ _ _ ⟨sd, F, G, Q3, at_, h, k⟩ => ⟨sd, F, G, _, at_, h, fun c F1 G1 H1 l1 q1 => by
    cases c with
    | true => exact iteT (k true F1 G1 H1 l1 q1)
    | false => exact iteF ⟨sd, F1, G1, _, at_.step l1, q1, k.mono l1⟩⟩
theorem dt_bool {op : BoolOp} (h : DW X F0 (.BoolOp op es pos) tA) : DT X F0 (.BoolOp op es pos) tA := PW.pt h
theorem dt_not (ha : DT X F0 a tA) : DT X F0 (.UnaryOp .Not a pos) (dNot tA) :=
  PT.imp (pt_not ha) fun _ _ _ ⟨sd, F, G, Q3, at_, h, k⟩ => ⟨sd, F, G, _, at_, h, fun c F1 G1 H1 l1 q1 => by
    cases c with
    | true => exact k false F1 G1 H1 l1 q1
    | false => exact k true F1 G1 H1 l1 q1⟩
def dIf (t : TT3) (ta tb : TE3) : TE3 := fun sd G Q => t sd G fun c G1 => br c (ta sd G1 Q) (tb sd G1 Q)
theorem de_if {c : Expr} (hc : DT X F0 c tA) (ha : DE X F0 a ta) (hb : DE X F0 b tb) : DE X F0 (.IfExp c a b pos) (dIf tA ta tb) :=
  PE.imp (pe_ifExp hc ha hb) fun _ _ _ ⟨sd, F, G, Q3, at_, h, k⟩ => ⟨sd, F, G, _, at_, h, fun c F1 G1 H1 l1 q1 => by
    cases c with
    | true => exact iteT ⟨sd, F1, G1, _, at_.step l1, q1, k.mono l1⟩
    | false => exact iteF ⟨sd, F1, G1, _, at_.step l1, q1, k.mono l1⟩⟩
end
end L3
set_option Elab.async false
set_option linter.all false
set_option maxRecDepth 100000
set_option maxHeartbeats 4000000
namespace L3
open PySem PySem.Spec PyProof.Rows L2
section
variable {X : Cx} {K : PySem.W.Frag} {F0 : Pt} {a b c e o : Expr} {es rest : List Expr} {ta tb tc : TE3} {pos : Pos}
def rI3 (C : Int → Int → Prop) (g : Int → Int → D) : R3 := fun x y G Q => match x, y with
  | .int i, .int j => C i j ∧ Q (g i j) G
  | _, _ => False
def rI03 (g : Int → Int → D) : R3 := fun x y G Q => match x, y with
  | .int i, .int j => Q (g i j) G
  | _, _ => False
theorem od_I {C : Int → Int → Prop} {g : Int → Int → V} {g3 : Int → Int → D} (hg : ∀ K F i j, Rep K F (g3 i j) (g i j)) : OpD K (rI C g) (rI3 C g3) := by
  intro F G H x y dx dy Q Q3 c rx ry h k
  cases dx <;> cases dy <;> first | exact h.elim | skip
  cases rx; cases ry
  exact ⟨_, _, rfl, rfl, h.1, k _ _ _ _ _ (Ext.refl c) (hg _ _ _ _) h.2⟩
theorem od_I0 {g : Int → Int → V} {g3 : Int → Int → D} (hg : ∀ K F i j, Rep K F (g3 i j) (g i j)) : OpD K (rI0 g) (rI03 g3) := by
  intro F G H x y dx dy Q Q3 c rx ry h k
  cases dx <;> cases dy <;> first | exact h.elim | skip
  cases rx; cases ry
  exact ⟨_, _, rfl, rfl, k _ _ _ _ _ (Ext.refl c) (hg _ _ _ _) h⟩
theorem de_sub (ha : DE X F0 a ta) (hb : DE X F0 b tb) : DE X F0 (.BinOp a .Sub b pos) (dOp (rI03 fun i j => .int (i - j)) ta tb) := de_op op_sub (od_I0 fun _ _ _ _ => .int _) ha hb
theorem de_mod (ha : DE X F0 a ta) (hb : DE X F0 b tb) : DE X F0 (.BinOp a .Mod b pos) (dOp (rI3 (fun _ j => 0 < j) fun i j => .int (i % j)) ta tb) := de_op op_mod (od_I fun _ _ _ _ => .int _) ha hb
theorem de_fdiv (ha : DE X F0 a ta) (hb : DE X F0 b tb) : DE X F0 (.BinOp a .FloorDiv b pos) (dOp (rI3 CDiv fun i j => .int (i / j)) ta tb) := de_op op_fdiv (od_I fun _ _ _ _ => .int _) ha hb
theorem de_pow (ha : DE X F0 a ta) (hb : DE X F0 b tb) : DE X F0 (.BinOp a .Pow b pos) (dOp (rI3 CPow fun i j => .int (i ^ j.toNat)) ta tb) := de_op op_pow (od_I fun _ _ _ _ => .int _) ha hb
theorem de_neg (ha : DE X F0 a ta) : DE X F0 (.UnaryOp .USub a pos) (dUn (fun x G Q => match x with | .int i => Q (.int (-i)) G | _ => False) ta) := de_un un_neg (fun F G H x dx Q Q3 c rx h k => by
  cases dx <;> first | exact h.elim | skip
  cases rx
  exact ⟨_, rfl, k _ _ _ _ _ (Ext.refl c) (.int _) h⟩) ha
def rAdd3 : R3 := fun x y G Q => match x, y with
  | .int i, .int j => Q (.int (i + j)) G
  | .str a, .str b => a.length + b.length ≤ sizeLine ∧ Q (.str (a ++ b)) G
  | .tup a, .tup b => a.length + b.length ≤ sizeLine ∧ Q (.tup (a ++ b)) G
  | .lst a, .lst b => a.length + b.length ≤ sizeLine ∧ Q (.lst (a ++ b)) G
  | _, _ => False
theorem de_add (ha : DE X F0 a ta) (hb : DE X F0 b tb) : DE X F0 (.BinOp a .Add b pos) (dOp rAdd3 ta tb) := by
  refine de_op (OpR.or op_add (OpR.or op_add_str (OpR.or op_catA op_cat))) (fun F G H x y dx dy Q Q3 c rx ry h k => ?_) ha hb
  cases dx <;> cases dy <;> first | exact h.elim | skip
  · cases rx; cases ry
    exact .inl ⟨_, _, rfl, rfl, k _ _ _ _ _ (Ext.refl c) (.int _) h⟩
  · cases rx; cases ry
    exact .inr (.inl ⟨_, _, rfl, rfl, h.1, k _ _ _ _ _ (Ext.refl c) (.str _) h.2⟩)
  · rename_i da db
    cases rx with
    | @tup aa _ va sa ra =>
      cases ry with
      | @tup ab _ vb sb rb =>
        refine .inr (.inr (.inl ⟨aa, ab, va, vb, rfl, rfl, sqT_mono c.frz sa, sqT_mono c.frz sb, by rw [← ra.length, ← rb.length]; exact h.1, fun e => ?_, fun e1 e2 => ?_, fun e1 e2 p hp => ?_⟩))
        · subst e
          cases ra
          exact k _ _ _ _ _ (Ext.refl c) (.tup sb rb) h.2
        · subst e2
          cases rb
          have h2 : Q3 (.tup (da ++ [])) G := h.2
          rw [List.append_nil] at h2
          exact k _ _ _ _ _ (Ext.refl c) (.tup sa ra) h2
        · have x := Ext.newF c (.tup (va ++ vb)) hp
          have l := x.le
          exact k _ _ _ _ _ x (.tup upd_same ((ra.mono l).append (rb.mono l))) h.2
  · cases rx with
    | @lst aa _ va sa ra =>
      cases ry with
      | @lst ab _ vb sb rb =>
        refine .inr (.inr (.inr ⟨aa, ab, va, vb, rfl, rfl, c.frz _ _ sa, c.frz _ _ sb, by rw [← ra.length, ← rb.length]; exact h.1, fun p hp => ?_⟩))
        have x := Ext.newF c (.lst (va ++ vb)) hp
        have l := x.le
        exact k _ _ _ _ _ x (.lst upd_same ((ra.mono l).append (rb.mono l))) h.2
def rMul3 : R3 := fun x y G Q => match x, y with
  | .int i, .int j => CMul i j ∧ Q (.int (i * j)) G
  | .lst a, .int j => (-(2 ^ 63) ≤ j ∧ j < 2 ^ 63) ∧ a.length * j.toNat ≤ sizeLine ∧ Q (.lst (List.replicate j.toNat a).flatten) G
  | _, _ => False
theorem RepL.rep {F : Hp} {ds : List D} {vs : List V} (h : RepL K F ds vs) : ∀ k : Nat, RepL K F (List.replicate k ds).flatten (List.replicate k vs).flatten
  | 0 => .nil
  | n + 1 => by
    rw [List.replicate_succ, List.replicate_succ, List.flatten_cons, List.flatten_cons]
    exact h.append (RepL.rep h n)
theorem de_mul (ha : DE X F0 a ta) (hb : DE X F0 b tb) : DE X F0 (.BinOp a .Mult b pos) (dOp rMul3 ta tb) := by
  refine de_op (OpR.or op_mul op_rep) (fun F G H x y dx dy Q Q3 c rx ry h k => ?_) ha hb
  cases dx <;> cases dy <;> first | exact h.elim | skip
  · cases rx; cases ry
    exact .inl ⟨_, _, rfl, rfl, h.1, k _ _ _ _ _ (Ext.refl c) (.int _) h.2⟩
  · rename_i da j
    cases ry
    cases rx with
    | @lst aa _ va sa ra =>
      refine .inr ⟨aa, _, va, rfl, rfl, c.frz _ _ sa, h.1.1, h.1.2, by rw [← ra.length]; exact h.2.1, fun p hp => ?_⟩
      have x := Ext.newF c (.lst (List.replicate j.toNat va).flatten) hp
      have l := x.le
      exact k _ _ _ _ _ x (.lst upd_same ((ra.mono l).rep _)) h.2.2
def rCmp3 (p : Int → Int → Bool) : R3 := rI03 fun i j => .bl (p i j)
theorem dc_lt : OpD K (rI0 fun i j => .bl (decide (i < j))) (rCmp3 fun i j => decide (i < j)) := od_I0 fun _ _ _ _ => .bl _
theorem dc_gt : OpD K (rI0 fun i j => .bl (decide (j < i))) (rCmp3 fun i j => decide (j < i)) := od_I0 fun _ _ _ _ => .bl _
theorem dc_ge : OpD K (rI0 fun i j => .bl (decide (j ≤ i))) (rCmp3 fun i j => decide (j ≤ i)) := od_I0 fun _ _ _ _ => .bl _
mutual
def toData : D → Option PyData
  | .non => some .none
  | .bl b => some (.bool b)
  | .int i => some (.int i)
  | .str x => some (.str x)
  | .tup ds => (toDataL ds).map .tuple
  | .lst ds => (toDataL ds).map .list
  | .scr ds => (toDataL ds).map .list
  | .ref _ | .ty _ | .ins _ _ | .obj _ _ | .dic _ => none
def toDataL : List D → Option (List PyData)
  | [] => some []
  | d :: ds => match toData d with
    | some p => (toDataL ds).map (p :: ·)
    | none => none
end
mutual
theorem rep_dp {F H : Hp} (l : Le F H) : ∀ {d : D} {v : V} {p : PyData}, Rep K F d v → toData d = some p → Dp K H v p
  | _, _, _, .non, e => by cases e; exact .non
  | _, _, _, .bl b, e => by cases e; exact .bl b
  | _, _, _, .int i, e => by cases e; exact .int i
  | _, _, _, .str x, e => by cases e; exact .str x
  | _, _, _, .ref _, e => nomatch e
  | _, _, _, .ty _, e => nomatch e
  | _, _, _, .tup h r, e => by
    unfold toData at e
    obtain ⟨ps, e1, e2⟩ := Option.map_eq_some_iff.mp e
    subst e2
    exact .tup (sqT_mono l h) (rep_dpl l r e1)
  | _, _, _, .lst h r, e => by
    unfold toData at e
    obtain ⟨ps, e1, e2⟩ := Option.map_eq_some_iff.mp e
    subst e2
    exact .lst (.inl (.inl (l _ _ h))) (rep_dpl l r e1)
  | _, _, _, .scr h r, e => by
    unfold toData at e
    obtain ⟨ps, e1, e2⟩ := Option.map_eq_some_iff.mp e
    subst e2
    exact .lst (sqL_mono l h) (rep_dpl l r e1)
  | _, _, _, .ins _ _ _, e => nomatch e
  | _, _, _, .obj _ _, e => nomatch e
  | _, _, _, .dic _ _, e => nomatch e
theorem rep_dpl {F H : Hp} (l : Le F H) : ∀ {d : List D} {v : List V} {p : List PyData}, RepL K F d v → toDataL d = some p → DpAll K H v p
  | _, _, _, .nil, e => by cases e; exact .nil
  | _, _, _, .cons h r, e => by
    unfold toDataL at e
    split at e
    · rename_i q eq
      obtain ⟨ps, e1, e2⟩ := Option.map_eq_some_iff.mp e
      subst e2
      exact .cons (rep_dp l h eq) (rep_dpl l r e1)
    · cases e
end
theorem dI {i j : Int} : decide (V.int i = V.int j) = decide (i = j) := decide_eq_decide.mpr ⟨fun h => V.int.inj h, fun h => h ▸ rfl⟩
theorem dSt {i j : Str} : decide (V.str i = V.str j) = decide (i = j) := decide_eq_decide.mpr ⟨fun h => V.str.inj h, fun h => h ▸ rfl⟩
theorem dBl {i j : Bool} : decide (V.bl i = V.bl j) = decide (i = j) := decide_eq_decide.mpr ⟨fun h => V.bl.inj h, fun h => h ▸ rfl⟩
def rEq3 : R3 := fun x y G Q => match x, y with
  | .int i, .int j => Q (.bl (decide (i = j))) G
  | .str i, .str j => Q (.bl (decide (i = j))) G
  | .bl i, .bl j => Q (.bl (decide (i = j))) G
  | .non, .non => Q (.bl true) G
  | x, y => ∃ d e, toData x = some d ∧ toData y = some e ∧ SeqAt.shaped d = true ∧ SeqAt.shaped e = true ∧ Q (.bl (PyData.eqv d e)) G
def rNe3 : R3 := fun x y G Q => rEq3 x y G fun d G1 => match d with
  | .bl b => Q (.bl (!b)) G1
  | _ => False
theorem od_eqD {F G H : _} {x y : V} {dx dy : D} {Q : VK} {Q3 : DK} (c : Cp K F G H) (rx : Rep K F dx x) (ry : Rep K F dy y) (k : QR K F G H Q3 Q)
    (h : ∃ d e, toData dx = some d ∧ toData dy = some e ∧ SeqAt.shaped d = true ∧ SeqAt.shaped e = true ∧ Q3 (.bl (PyData.eqv d e)) G) : rEqD K x y H Q := by
  obtain ⟨d, e, h1, h2, h3, h4, q⟩ := h
  exact ⟨d, e, rep_dp c.frz rx h1, rep_dp c.frz ry h2, h3, h4, k _ _ _ _ _ (Ext.refl c) (.bl _) q⟩
theorem dc_eq : OpD K (fun x y H Q => rEq x y H Q ∨ rEqD K x y H Q) rEq3 := by
  intro F G H x y dx dy Q Q3 c rx ry h k
  unfold rEq3 at h
  split at h
  · cases rx; cases ry
    exact .inl ⟨rfl, k _ _ _ _ _ (Ext.refl c) (by rw [dI]; exact .bl _) h⟩
  · cases rx; cases ry
    exact .inl ⟨rfl, k _ _ _ _ _ (Ext.refl c) (by rw [dSt]; exact .bl _) h⟩
  · cases rx; cases ry
    exact .inl ⟨rfl, k _ _ _ _ _ (Ext.refl c) (by rw [dBl]; exact .bl _) h⟩
  · cases rx; cases ry
    exact .inl ⟨rfl, k _ _ _ _ _ (Ext.refl c) (by rw [decide_eq_true rfl]; exact .bl _) h⟩
  · exact .inr (od_eqD c rx ry k h)
theorem dc_ne : OpD K (fun x y H Q => rNe x y H Q ∨ rNeD K x y H Q) rNe3 := by
  intro F G H x y dx dy Q Q3 c rx ry h k
  unfold rNe3 rEq3 at h
  split at h
  · cases rx; cases ry
    exact .inl ⟨rfl, k _ _ _ _ _ (Ext.refl c) (by rw [dI]; exact .bl _) h⟩
  · cases rx; cases ry
    exact .inl ⟨rfl, k _ _ _ _ _ (Ext.refl c) (by rw [dSt]; exact .bl _) h⟩
  · cases rx; cases ry
    exact .inl ⟨rfl, k _ _ _ _ _ (Ext.refl c) (by rw [dBl]; exact .bl _) h⟩
  · cases rx; cases ry
    exact .inl ⟨rfl, k _ _ _ _ _ (Ext.refl c) (by rw [decide_eq_true rfl]; exact .bl _) h⟩
  · obtain ⟨d, e, h1, h2, h3, h4, q⟩ := h
    exact .inr ⟨d, e, rep_dp c.frz rx h1, rep_dp c.frz ry h2, h3, h4, k _ _ _ _ _ (Ext.refl c) (.bl _) q⟩
theorem op_eqA {j : Nat} (hr : Room j X.A) : OpR X (compareOp .Eq) (fun x y H Q => rEq x y H Q ∨ rEqD X.K x y H Q) := OpR.or op_eq (op_eqD hr.units)
theorem op_neA {j : Nat} (hr : Room j X.A) : OpR X (compareOp .NotEq) (fun x y H Q => rNe x y H Q ∨ rNeD X.K x y H Q) := OpR.or op_ne (op_neD hr.units)
def scV : D → Option V
  | .non => some .non
  | .bl b => some (.bl b)
  | .int i => some (.int i)
  | .str x => some (.str x)
  | _ => none
def scL : List D → Option (List V)
  | [] => some []
  | d :: ds => match scV d with
    | some v => (scL ds).map (v :: ·)
    | none => none
theorem scV_ok {F : Hp} {d : D} {v u : V} (r : Rep K F d v) (e : scV d = some u) : v = u ∧ flatV u = true := by
  cases r <;> first | (cases e; exact ⟨rfl, rfl⟩) | (simp [scV] at e)
theorem scL_ok {F : Hp} : ∀ {ds : List D} {vs us : List V}, RepL K F ds vs → scL ds = some us → vs = us ∧ us.all flatV = true
  | _, _, _, .nil, e => by cases e; exact ⟨rfl, rfl⟩
  | _, _, _, .cons h r, e => by
    unfold scL at e
    split at e
    · rename_i v ev
      obtain ⟨us, e1, e2⟩ := Option.map_eq_some_iff.mp e
      subst e2
      obtain ⟨h1, h2⟩ := scV_ok h ev
      obtain ⟨h3, h4⟩ := scL_ok r e1
      subst h1 h3
      exact ⟨rfl, by rw [List.all_cons, h2, h4]; rfl⟩
    · cases e
def rIn3 (neg : Bool) : R3 := fun x y G Q => match x, y with
  | .str i, .str j => Q (.bl (if neg then !(!(Builtin.Str.occurrences j i 0 j.length 1).isEmpty) else !(Builtin.Str.occurrences j i 0 j.length 1).isEmpty)) G
  | x, .tup ds => ∃ v us, scV x = some v ∧ scL ds = some us ∧ Q (.bl (if neg then !inV v us else inV v us)) G
  | x, .lst ds => ∃ v us, scV x = some v ∧ scL ds = some us ∧ Q (.bl (if neg then !inV v us else inV v us)) G
  | x, .ref p => ∃ ds v us, G p = some (.lst ds) ∧ scV x = some v ∧ scL ds = some us ∧ Q (.bl (if neg then !inV v us else inV v us)) G
  | _, _ => False
theorem own_lst {F H : Hp} {G : Gp} {p : Addr} {ds : List D} (c : Cp K F G H) (h : G p = some (.lst ds)) : F p = none ∧ ∃ vs, H p = some (.lst vs) ∧ RepL K F ds vs := c.own p _ h
theorem dc_in : OpD K (fun x y H Q => (∃ i j, x = .str i ∧ y = .str j ∧ Q (.bl (!(Builtin.Str.occurrences j i 0 j.length 1).isEmpty)) H) ∨ rIn K false x y H Q) (rIn3 false) := by
  intro F G H x y dx dy Q Q3 c rx ry h k
  unfold rIn3 at h
  split at h
  · cases rx; cases ry
    exact .inl ⟨_, _, rfl, rfl, k _ _ _ _ _ (Ext.refl c) (.bl _) h⟩
  · obtain ⟨v, us, e1, e2, q⟩ := h
    cases ry with
    | @tup ab _ vb sb rb =>
      obtain ⟨h1, h2⟩ := scV_ok rx e1
      obtain ⟨h3, h4⟩ := scL_ok rb e2
      subst h1 h3
      exact .inr ⟨_, _, rfl, .inr (sqT_mono c.frz sb), h2, h4, k _ _ _ _ _ (Ext.refl c) (.bl _) q⟩
  · obtain ⟨v, us, e1, e2, q⟩ := h
    cases ry with
    | @lst ab _ vb sb rb =>
      obtain ⟨h1, h2⟩ := scV_ok rx e1
      obtain ⟨h3, h4⟩ := scL_ok rb e2
      subst h1 h3
      exact .inr ⟨_, _, rfl, .inl (SqL.of (c.frz _ _ sb)), h2, h4, k _ _ _ _ _ (Ext.refl c) (.bl _) q⟩
  · obtain ⟨ds, v, us, e0, e1, e2, q⟩ := h
    cases ry
    obtain ⟨_, vs, hp, rb⟩ := own_lst c e0
    obtain ⟨h1, h2⟩ := scV_ok rx e1
    obtain ⟨h3, h4⟩ := scL_ok rb e2
    subst h1 h3
    exact .inr ⟨_, _, rfl, .inl (SqL.of hp), h2, h4, k _ _ _ _ _ (Ext.refl c) (.bl _) q⟩
  · exact h.elim
theorem op_inA : OpR X (compareOp .In) (fun x y H Q => (∃ i j, x = .str i ∧ y = .str j ∧ Q (.bl (!(Builtin.Str.occurrences j i 0 j.length 1).isEmpty)) H) ∨ rIn X.K false x y H Q) := OpR.or op_in_str op_in_seq
end
end L3
set_option Elab.async false
set_option linter.all false
set_option maxRecDepth 100000
set_option maxHeartbeats 4000000
namespace L3
open PySem PySem.Spec PyProof.Rows L2
section
variable {X : Cx} {K : PySem.W.Frag} {F0 : Pt} {a b c e o : Expr} {es rest : List Expr} {ta tb tc te : TE3} {t : TA3} {pos p : Pos} {x : Str}
def dNil : TA3 := fun _ G Q => Q [] G
def dCons (ta : TE3) (tr : TA3) : TA3 := fun sd G Q => ta sd G fun x G1 => tr sd G1 fun xs G2 => Q (x :: xs) G2
theorem da_nil : DA X F0 [] dNil := PA.imp pa_nil fun σ H Q ⟨sd, F, G, Q3, at_, h, k⟩ => k [] [] F G H (Ext.refl at_.cp) .nil h
theorem da_cons (ha : DE X F0 e te) (hr : DA X F0 es t) (hs : starEach (e :: es) X.env = (false, eval e X.env) :: starEach es X.env := by rfl) : DA X F0 (e :: es) (dCons te t) :=
  PA.imp (pa_cons ha hr hs) fun σ H Q ⟨sd, F, G, Q3, at_, h, k⟩ => ⟨sd, F, G, _, at_, h, fun d v F1 G1 H1 l1 r1 q1 => ⟨sd, F1, G1, _, at_.step l1, q1, fun ds vs F2 G2 H2 l2 r2 q2 => k _ _ _ _ _ (l1.trans l2) (.cons (r1.mono l2.le) r2) q2⟩⟩
def dTupS (t : TA3) : TE3 := fun sd G Q => t sd G fun ds G1 => ds.length ≤ sizeLine ∧ Q (.tup ds) G1
def dLstS (t : TA3) : TE3 := fun sd G Q => t sd G fun ds G1 => ds.length ≤ sizeLine ∧ Q (.lst ds) G1
def dLstSO (t : TA3) : TE3 := fun sd G Q => t sd G fun ds G1 => ds.length ≤ sizeLine ∧ ∀ p, G1 p = none → Q (.ref p) (gupd G1 p (.lst ds))
theorem de_tupS {x1} (h : DA X F0 es t) : DE X F0 (.Tuple es x1 pos) (dTupS t) :=
  PE.imp (pe_tup h) fun σ H Q ⟨sd, F, G, Q3, at_, h, k⟩ => ⟨sd, F, G, _, at_, h, fun ds vs F1 G1 H1 l1 r1 q1 => ⟨by rw [← r1.length]; exact q1.1, fun p hp => by
    have x := Ext.newF l1.cp (.tup vs) hp
    exact k _ _ _ _ _ (l1.trans x) (.tup upd_same (r1.mono x.le)) q1.2⟩⟩
theorem de_lstS (h : DA X F0 es t) : DE X F0 (.List es pos) (dLstS t) :=
  PE.imp (pe_lst h) fun σ H Q ⟨sd, F, G, Q3, at_, h, k⟩ => ⟨sd, F, G, _, at_, h, fun ds vs F1 G1 H1 l1 r1 q1 => ⟨by rw [← r1.length]; exact q1.1, fun p hp => by
    have x := Ext.newF l1.cp (.lst vs) hp
    exact k _ _ _ _ _ (l1.trans x) (.lst upd_same (r1.mono x.le)) q1.2⟩⟩
theorem de_lstSO (h : DA X F0 es t) : DE X F0 (.List es pos) (dLstSO t) :=
  PE.imp (pe_lst h) fun σ H Q ⟨sd, F, G, Q3, at_, h, k⟩ => ⟨sd, F, G, _, at_, h, fun ds vs F1 G1 H1 l1 r1 q1 => ⟨by rw [← r1.length]; exact q1.1, fun p hp =>
    k _ _ _ _ _ (l1.trans (Ext.newG l1.cp hp r1)) (.ref p) (q1.2 p (l1.cp.free hp).2)⟩⟩
def CallD (K : PySem.W.Frag) (r : List V → Hp → VK → Prop) (r3 : List D → Gp → DK → Prop) : Prop := ∀ F G H xs ds Q Q3, Cp K F G H → RepL K F ds xs → r3 ds G Q3 → QR K F G H Q3 Q → r xs H Q
def dCB (r3 : List D → Gp → DK → Prop) (t : TA3) : TE3 := fun sd G Q => t sd G fun ds G1 => r3 ds G1 Q
variable {idn T : String} {r : List V → Hp → VK → Prop} {r3 : List D → Gp → DK → Prop}
theorem low_cb (h3 : CallD K r r3) {σ : L2.St} {H : Hp} {Q : VK} (h : low K F0 (dCB r3 t) σ H Q) : tCB r (lowA K F0 t) σ H Q := by
  obtain ⟨sd, F, G, Q3, at_, h, k⟩ := h
  exact ⟨sd, F, G, _, at_, h, fun ds vs F1 G1 H1 l1 r1 q1 => h3 F1 G1 H1 vs ds Q Q3 l1.cp r1 q1 (k.mono l1)⟩
theorem de_callB (hc : CallR X (.builtin idn) r) (h3 : CallD X.K r r3) (hg : Gl X x) (hm : X.mg x = none) (hv : bootBuiltins x = some (.builtin idn)) (ha : DA X F0 (e :: es) t) (hn : x ≠ "__name__" := by decide) (hdb : (x == ("__debug__" : Str)) = false := by decide)
    (he : starEach (e :: es) X.env = (false, eval e X.env) :: starEach es X.env := by rfl) (hpl : (backTo pos (starEach es X.env)).any (·.1) = false := by rfl) : DE X F0 (.Call (.Name x p) (e :: es) [] pos) (dCB r3 t) :=
  PE.imp (pe_callB hc hg hm hv ha hn hdb he hpl) fun _ _ _ h => low_cb h3 h
theorem de_callTy (hc : CallR X (.type T) r) (h3 : CallD X.K r r3) (hg : Gl X x) (hm : X.mg x = none) (hv : bootBuiltins x = some (.type T)) (ha : DA X F0 (e :: es) t) (hn : x ≠ "__name__" := by decide) (hdb : (x == ("__debug__" : Str)) = false := by decide)
    (he : starEach (e :: es) X.env = (false, eval e X.env) :: starEach es X.env := by rfl) (hpl : (backTo pos (starEach es X.env)).any (·.1) = false := by rfl) : DE X F0 (.Call (.Name x p) (e :: es) [] pos) (dCB r3 t) :=
  PE.imp (pe_callTy hc hg hm hv ha hn hdb he hpl) fun _ _ _ h => low_cb h3 h
def rLen3 : List D → Gp → DK → Prop := fun ds G Q => match ds with
  | [.str s] => s.length ≤ sizeLine ∧ Q (.int s.length) G
  | [.tup ds] => Q (.int ds.length) G
  | [.lst ds] => Q (.int ds.length) G
  | [.scr ds] => Q (.int ds.length) G
  | [.ref p] => ∃ ds, G p = some (.lst ds) ∧ Q (.int ds.length) G
  | _ => False
theorem RepL.inv1 {F : Hp} {d : D} {vs : List V} (h : RepL K F [d] vs) : ∃ v, vs = [v] ∧ Rep K F d v := by
  cases h with
  | cons r t =>
    cases t
    exact ⟨_, rfl, r⟩
theorem RepL.inv2 {F : Hp} {d d' : D} {vs : List V} (h : RepL K F [d, d'] vs) : ∃ v u, vs = [v, u] ∧ Rep K F d v ∧ Rep K F d' u := by
  cases h with
  | cons r t =>
    cases t with
    | cons r2 t =>
      cases t
      exact ⟨_, _, rfl, r, r2⟩
theorem cd_len : CallD K (fun xs H Q => ∃ x n, xs = [x] ∧ LenV K x H n ∧ Q (.int n) H) rLen3 := by
  intro F G H xs ds Q Q3 c r h k
  unfold rLen3 at h
  split at h
  · obtain ⟨v, rfl, rv⟩ := r.inv1
    cases rv
    exact ⟨_, _, rfl, And.intro h.1 rfl, k _ _ _ _ _ (Ext.refl c) (.int _) h.2⟩
  · obtain ⟨v, rfl, rv⟩ := r.inv1
    cases rv with
    | tup s rl => exact ⟨_, _, rfl, Or.inr ⟨_, sqT_mono c.frz s, rfl⟩, k _ _ _ _ _ (Ext.refl c) (.int _) (by rw [← rl.length]; exact h)⟩
  · obtain ⟨v, rfl, rv⟩ := r.inv1
    cases rv with
    | lst s rl => exact ⟨_, _, rfl, Or.inl ⟨_, SqL.of (c.frz _ _ s), rfl⟩, k _ _ _ _ _ (Ext.refl c) (.int _) (by rw [← rl.length]; exact h)⟩
  · obtain ⟨v, rfl, rv⟩ := r.inv1
    cases rv with
    | scr s rl => exact ⟨_, _, rfl, Or.inl ⟨_, sqL_mono c.frz s, rfl⟩, k _ _ _ _ _ (Ext.refl c) (.int _) (by rw [← rl.length]; exact h)⟩
  · obtain ⟨v, rfl, rv⟩ := r.inv1
    cases rv
    obtain ⟨ds, e, q⟩ := h
    obtain ⟨_, vs, hp, rl⟩ := own_lst c e
    exact ⟨_, _, rfl, Or.inl ⟨_, SqL.of hp, rfl⟩, k _ _ _ _ _ (Ext.refl c) (.int _) (by rw [← rl.length]; exact q)⟩
  · exact h.elim
def blsOf : List D → Option (List Bool)
  | [] => some []
  | .bl b :: ds => (blsOf ds).map (b :: ·)
  | _ => none
theorem bls_ok {F : Hp} : ∀ {ds : List D} {vs : List V} {bs : List Bool}, RepL K F ds vs → blsOf ds = some bs → vs = bs.map V.bl
  | [], _, bs, r, e => by
    cases r
    cases e
    rfl
  | d :: ds, _, bs, r, e => by
    cases r with
    | cons r t =>
      cases d with
      | bl b =>
        obtain ⟨cs, e1, e2⟩ := Option.map_eq_some_iff.mp (show (blsOf ds).map (b :: ·) = some bs from e)
        subst e2
        cases r
        rw [bls_ok t e1]
        rfl
      | _ => exact nomatch (show (none : Option (List Bool)) = some bs from e)
def rAll3 : List D → Gp → DK → Prop := fun ds G Q => match ds with
  | [.lst ds] => match blsOf ds with
    | some bs => Q (.bl (bs.all id)) G
    | none => False
  | _ => False
theorem cd_all : CallD K (fun vs H Q => ∃ (a : Addr) (bs : List Bool), vs = [V.ref a] ∧ SqL K H a (bs.map V.bl) ∧ Q (.bl (bs.all id)) H) rAll3 := by
  intro F G H xs ds Q Q3 c r h k
  unfold rAll3 at h
  split at h
  · split at h
    · rename_i bs eb
      obtain ⟨v, rfl, rv⟩ := r.inv1
      cases rv with
      | lst s rl =>
        have ev := bls_ok rl eb
        subst ev
        exact ⟨_, bs, rfl, SqL.of (c.frz _ _ s), k _ _ _ _ _ (Ext.refl c) (.bl _) h⟩
    · exact h.elim
  · exact h.elim
def rInt3 : List D → Gp → DK → Prop := fun ds G Q => match ds with
  | [.int i] => Q (.int i) G
  | [.bl b] => Q (.int (if b then 1 else 0)) G
  | [.str s] => ∃ n, PySem.intText? s = some n ∧ s.length ≤ 640 ∧ Q (.int n) G
  | _ => False
theorem cd_int : CallD K (fun xs H Q => ((∃ i, xs = [.int i] ∧ Q (.int i) H) ∨ ∃ k, xs = [.bl k] ∧ Q (.int (if k then 1 else 0)) H) ∨ ∃ a n, xs = [.str a] ∧ PySem.intText? a = some n ∧ a.length ≤ 640 ∧ Q (.int n) H) rInt3 := by
  intro F G H xs ds Q Q3 c r h k
  unfold rInt3 at h
  split at h
  · obtain ⟨v, rfl, rv⟩ := r.inv1
    cases rv
    exact .inl (.inl ⟨_, rfl, k _ _ _ _ _ (Ext.refl c) (.int _) h⟩)
  · obtain ⟨v, rfl, rv⟩ := r.inv1
    cases rv
    exact .inl (.inr ⟨_, rfl, k _ _ _ _ _ (Ext.refl c) (.int _) h⟩)
  · obtain ⟨v, rfl, rv⟩ := r.inv1
    cases rv
    obtain ⟨n, h1, h2, q⟩ := h
    exact .inr ⟨_, n, rfl, h1, h2, k _ _ _ _ _ (Ext.refl c) (.int _) q⟩
  · exact h.elim
theorem call_intA : CallR X (.type "int") (fun xs H Q => ((∃ i, xs = [.int i] ∧ Q (.int i) H) ∨ ∃ k, xs = [.bl k] ∧ Q (.int (if k then 1 else 0)) H) ∨ ∃ a n, xs = [.str a] ∧ PySem.intText? a = some n ∧ a.length ≤ 640 ∧ Q (.int n) H) := CallR.or call_int1 call_int_str
def rStr3 : List D → Gp → DK → Prop := fun ds G Q => match ds with
  | [.int i] => i.natAbs.log2 < 1920 ∧ Q (.str (toString i)) G
  | [.str s] => Q (.str s) G
  | _ => False
theorem cd_str : CallD K (fun xs H Q => (∃ i, xs = [.int i] ∧ i.natAbs.log2 < 1920 ∧ Q (.str (toString i)) H) ∨ ∃ a, xs = [.str a] ∧ Q (.str a) H) rStr3 := by
  intro F G H xs ds Q Q3 c r h k
  unfold rStr3 at h
  split at h
  · obtain ⟨v, rfl, rv⟩ := r.inv1
    cases rv
    exact .inl ⟨_, rfl, h.1, k _ _ _ _ _ (Ext.refl c) (.str _) h.2⟩
  · obtain ⟨v, rfl, rv⟩ := r.inv1
    cases rv
    exact .inr ⟨_, rfl, k _ _ _ _ _ (Ext.refl c) (.str _) h⟩
  · exact h.elim
theorem call_strA : CallR X (.type "str") (fun xs H Q => (∃ i, xs = [.int i] ∧ i.natAbs.log2 < 1920 ∧ Q (.str (toString i)) H) ∨ ∃ a, xs = [.str a] ∧ Q (.str a) H) := CallR.or call_str_int SkE.call_str_str
def rAbs3 : List D → Gp → DK → Prop := fun ds G Q => match ds with
  | [.int i] => Q (.int (if i < 0 then -i else i)) G
  | _ => False
theorem cd_abs : CallD K (fun xs H Q => ∃ i, xs = [.int i] ∧ Q (.int (if i < 0 then -i else i)) H) rAbs3 := by
  intro F G H xs ds Q Q3 c r h k
  unfold rAbs3 at h
  split at h
  · obtain ⟨v, rfl, rv⟩ := r.inv1
    cases rv
    exact ⟨_, rfl, k _ _ _ _ _ (Ext.refl c) (.int _) h⟩
  · exact h.elim
def rMax23 : List D → Gp → DK → Prop := fun ds G Q => match ds with
  | [.int i, .int j] => Q (.int (if j > i then j else i)) G
  | _ => False
def rMin23 : List D → Gp → DK → Prop := fun ds G Q => match ds with
  | [.int i, .int j] => Q (.int (if j < i then j else i)) G
  | _ => False
theorem cd_max2 : CallD K (fun xs H Q => ∃ i j, xs = [.int i, .int j] ∧ Q (.int (if j > i then j else i)) H) rMax23 := by
  intro F G H xs ds Q Q3 c r h k
  unfold rMax23 at h
  split at h
  · obtain ⟨v, u, rfl, rv, r2⟩ := r.inv2
    cases rv; cases r2
    exact ⟨_, _, rfl, k _ _ _ _ _ (Ext.refl c) (.int _) h⟩
  · exact h.elim
theorem cd_min2 : CallD K (fun xs H Q => ∃ i j, xs = [.int i, .int j] ∧ Q (.int (if j < i then j else i)) H) rMin23 := by
  intro F G H xs ds Q Q3 c r h k
  unfold rMin23 at h
  split at h
  · obtain ⟨v, u, rfl, rv, r2⟩ := r.inv2
    cases rv; cases r2
    exact ⟨_, _, rfl, k _ _ _ _ _ (Ext.refl c) (.int _) h⟩
  · exact h.elim
def rDivmod3 : List D → Gp → DK → Prop := fun ds G Q => match ds with
  | [.int i, .int j] => CDiv i j ∧ Q (.tup [.int (i / j), .int (i % j)]) G
  | _ => False
theorem cd_divmod : CallD K (fun xs H Q => ∃ i j, xs = [.int i, .int j] ∧ CDiv i j ∧ ∀ p, H p = none → Q (.ref p) (upd H p (.tup [.int (i / j), .int (i % j)]))) rDivmod3 := by
  intro F G H xs ds Q Q3 c r h k
  unfold rDivmod3 at h
  split at h
  · obtain ⟨v, u, rfl, rv, r2⟩ := r.inv2
    rename_i i j
    cases rv; cases r2
    refine ⟨_, _, rfl, h.1, fun p hp => ?_⟩
    have x := Ext.newF c (.tup [.int (i / j), .int (i % j)]) hp
    exact k _ _ _ _ _ x (.tup upd_same (.cons (.int _) (.cons (.int _) .nil))) h.2
  · exact h.elim
theorem atI_rep {F : Hp} {ds : List D} {vs : List V} {i : Int} {d : D} (r : RepL K F ds vs) (h : atI ds i = some d) : ∃ v, atI vs i = some v ∧ Rep K F d v := by
  unfold atI at h ⊢
  rw [← r.length]
  cases e : ixN ds.length i with
  | none => rw [e] at h; cases h
  | some j =>
    rw [e] at h
    exact r.get h
def rIx3 : R3 := fun x y G Q => match x, y with
  | .tup ds, .int i => match atI ds i with
    | some d => Q d G
    | none => False
  | .lst ds, .int i => match atI ds i with
    | some d => Q d G
    | none => False
  | .scr ds, .int i => match atI ds i with
    | some d => Q d G
    | none => False
  | .str s, .int i => s.length ≤ sizeLine ∧ ∃ c, atI s.cps.toList i = some c ∧ Q (.str ⟨#[c]⟩) G
  | .ref p, .int i => ∃ ds d, G p = some (.lst ds) ∧ atI ds i = some d ∧ Q d G
  | _, _ => False
theorem od_ix : OpD K (rIx K) rIx3 := by
  intro F G H x y dx dy Q Q3 c rx ry h k
  unfold rIx3 at h
  split at h
  · split at h
    · rename_i d e
      cases ry
      cases rx with
      | tup s rl =>
        obtain ⟨v, e2, r2⟩ := atI_rep rl e
        exact .inr (.inl ⟨_, _, _, _, rfl, rfl, sqT_mono c.frz s, e2, k _ _ _ _ _ (Ext.refl c) r2 h⟩)
    · exact h.elim
  · split at h
    · rename_i d e
      cases ry
      cases rx with
      | lst s rl =>
        obtain ⟨v, e2, r2⟩ := atI_rep rl e
        exact .inl ⟨_, _, _, _, rfl, rfl, SqL.of (c.frz _ _ s), e2, k _ _ _ _ _ (Ext.refl c) r2 h⟩
    · exact h.elim
  · split at h
    · rename_i d e
      cases ry
      cases rx with
      | scr s rl =>
        obtain ⟨v, e2, r2⟩ := atI_rep rl e
        exact .inl ⟨_, _, _, _, rfl, rfl, sqL_mono c.frz s, e2, k _ _ _ _ _ (Ext.refl c) r2 h⟩
    · exact h.elim
  · cases rx; cases ry
    obtain ⟨hz, cc, e, q⟩ := h
    exact .inr (.inr ⟨_, _, cc, rfl, rfl, hz, e, k _ _ _ _ _ (Ext.refl c) (.str _) q⟩)
  · cases rx; cases ry
    obtain ⟨ds, d, e0, e, q⟩ := h
    obtain ⟨_, vs, hp, rl⟩ := own_lst c e0
    obtain ⟨v, e2, r2⟩ := atI_rep rl e
    exact .inl ⟨_, _, _, _, rfl, rfl, SqL.of hp, e2, k _ _ _ _ _ (Ext.refl c) r2 q⟩
  · exact h.elim
def getI {α : Type} (ds : List α) (i : Nat) (Q : α → Prop) : Prop := match ds, i with
  | d :: _, 0 => Q d
  | _ :: ds, i + 1 => getI ds i Q
  | [], _ => False
theorem getI_of {α : Type} : ∀ {ds : List α} {i : Nat} {Q : α → Prop}, getI ds i Q → ∃ d, ds[i]? = some d ∧ Q d
  | [], _, _, h => h.elim
  | d :: _, 0, _, h => ⟨d, rfl, h⟩
  | _ :: ds, i + 1, _, h => getI_of (ds := ds) h
theorem getI_in {α : Type} : ∀ {ds : List α} {i : Nat} {d : α} {Q : α → Prop}, ds[i]? = some d → Q d → getI ds i Q
  | [], _, _, _, h, _ => by simp at h
  | d :: _, 0, _, _, h, q => by simp at h; subst h; exact q
  | _ :: ds, i + 1, _, _, h, q => getI_in (ds := ds) (by simpa using h) q
def ixD {α : Type} (ds : List α) (i : Int) (Q : α → Prop) : Prop := match i with
  | .ofNat k => getI ds k Q
  | .negSucc k => getI ds.reverse k Q
theorem ixD_of {α : Type} {ds : List α} {i : Int} {Q : α → Prop} (h : ixD ds i Q) : ∃ d, atI ds i = some d ∧ Q d := by
  cases i with
  | ofNat k =>
    obtain ⟨d, e, q⟩ := getI_of (show getI ds k Q from h)
    have hk : k < ds.length := (List.getElem?_eq_some_iff.mp e).1
    refine ⟨d, ?_, q⟩
    unfold atI ixN
    rw [if_pos (show (0 : Int) ≤ Int.ofNat k from Int.natCast_nonneg k), if_pos (show (Int.ofNat k) < (ds.length : Int) by show (k : Int) < _; omega)]
    exact e
  | negSucc k =>
    obtain ⟨d, e, q⟩ := getI_of (show getI ds.reverse k Q from h)
    have hk : k < ds.length := by
      have := (List.getElem?_eq_some_iff.mp e).1
      rwa [List.length_reverse] at this
    refine ⟨d, ?_, q⟩
    unfold atI ixN
    have h1 : ¬ (0 ≤ Int.negSucc k) := by omega
    have h2 : -(ds.length : Int) ≤ Int.negSucc k := by omega
    have h3 : (Int.negSucc k + (ds.length : Int)).toNat = ds.length - 1 - k := by omega
    rw [if_neg h1, if_pos h2, h3]
    show ds[ds.length - 1 - k]? = some d
    rw [List.getElem?_reverse hk] at e
    exact e
def rIxN : R3 := fun x y G Q => match x, y with
  | .tup ds, .int i => ixD ds i fun d => Q d G
  | .lst ds, .int i => ixD ds i fun d => Q d G
  | .scr ds, .int i => ixD ds i fun d => Q d G
  | .str s, .int i => s.length ≤ sizeLine ∧ ixD s.cps.toList i fun c => Q (.str ⟨#[c]⟩) G
  | .ref p, .int i => ∃ ds, G p = some (.lst ds) ∧ ixD ds i fun d => Q d G
  | _, _ => False
theorem rIxN_imp {x y : D} {G : Gp} {Q : DK} (h : rIxN x y G Q) : rIx3 x y G Q := by
  unfold rIxN at h
  split at h
  · obtain ⟨d, e, q⟩ := ixD_of h
    show (match atI _ _ with | some d => Q d G | none => False)
    rw [e]
    exact q
  · obtain ⟨d, e, q⟩ := ixD_of h
    show (match atI _ _ with | some d => Q d G | none => False)
    rw [e]
    exact q
  · obtain ⟨d, e, q⟩ := ixD_of h
    show (match atI _ _ with | some d => Q d G | none => False)
    rw [e]
    exact q
  · obtain ⟨hz, h⟩ := h
    obtain ⟨d, e, q⟩ := ixD_of h
    exact ⟨hz, d, e, q⟩
  · obtain ⟨ds, eg, h⟩ := h
    obtain ⟨d, e, q⟩ := ixD_of h
    exact ⟨ds, d, eg, e, q⟩
  · exact h.elim
theorem de_ix (ha : DE X F0 a ta) (hb : DE X F0 b tb) (hs : PlainIx b := by intro _ _; rfl) : DE X F0 (.Subscript a b pos) (dOp rIxN ta tb) := PE.imp (pe_ix ix_seq ha hb hs) fun _ _ _ h => low_op (fun F G H x y dx dy Q Q3 c rx ry h k => od_ix F G H x y dx dy Q Q3 c rx ry (rIxN_imp h) k) h
abbrev TO3 := St3 → Gp → (Option Int → Gp → Prop) → Prop
def lowO (K : PySem.W.Frag) (F0 : Pt) (t : TO3) : TO := fun σ H Q => ∃ sd F G Q3, At K F0 F sd G σ H ∧ t sd G Q3 ∧ ∀ o F' G' H', Ext K F G H F' G' H' → Q3 o G' → Q o H'
def DOp (X : Cx) (F0 : Pt) (e : Option Expr) (t : TO3) : Prop := PO X e (lowO X.K F0 t)
def dNoPart : TO3 := fun _ G Q => Q none G
def dPart (t : TE3) : TO3 := fun sd G Q => t sd G fun d G1 => match d with
  | .int i => Q (some i) G1
  | _ => False
theorem PO.imp {e : Option Expr} {te t : TO} (h : PO X e te) (i : ∀ σ H Q, t σ H Q → te σ H Q) : PO X e t := ⟨fun pins s σ H Q I q => h.run pins s σ H Q I (i σ H Q q)⟩
theorem do_none : DOp X F0 none dNoPart := PO.imp po_none fun σ H Q ⟨sd, F, G, Q3, at_, h, k⟩ => k _ _ _ _ (Ext.refl at_.cp) h
theorem do_some (h : DE X F0 e te) : DOp X F0 (some e) (dPart te) := PO.imp (po_some h) fun σ H Q ⟨sd, F, G, Q3, at_, h, k⟩ => ⟨sd, F, G, _, at_, h, fun d v F1 G1 H1 l1 r1 q1 => by
  cases d <;> first | exact q1.elim | skip
  cases r1
  exact ⟨_, rfl, k _ _ _ _ l1 q1⟩⟩
def cutD (xs : List D) (lo hi : Option Int) : List D := (xs.drop (HT.sIx xs.length 0 lo)).take (HT.sIx xs.length xs.length hi - HT.sIx xs.length 0 lo)
theorem cut_rep {F : Hp} {ds : List D} {vs : List V} (r : RepL K F ds vs) (lo hi : Option Int) : RepL K F (cutD ds lo hi) (cutV vs lo hi) := by
  unfold cutD cutV
  rw [r.length]
  exact (r.drop _).take _
def rSl3 : D → Option Int → Option Int → Gp → DK → Prop := fun x lo hi G Q => match x with
  | .tup ds => Q (.tup (cutD ds lo hi)) G
  | .lst ds => Q (.lst (cutD ds lo hi)) G
  | .scr ds => Q (.lst (cutD ds lo hi)) G
  | .str z => z.length ≤ sizeLine ∧ Q (.str (cutS z lo hi)) G
  | .ref p => ∃ ds, G p = some (.lst ds) ∧ Q (.lst (cutD ds lo hi)) G
  | _ => False
def dSl (te : TE3) (tl th : TO3) : TE3 := fun sd G Q => te sd G fun x G1 => tl sd G1 fun l G2 => th sd G2 fun u G3 => rSl3 x l u G3 Q
theorem cut_all {ds : List D} {lo hi : Option Int} (h : HT.sIx ds.length 0 lo = 0 ∧ HT.sIx ds.length ds.length hi = ds.length) : cutD ds lo hi = ds := by
  unfold cutD
  rw [h.1, h.2]
  simp
def slD (ds : List D) (lo hi : Option Int) : List D := match lo, hi with
  | some (.ofNat k), none => ds.drop k
  | none, some (.ofNat k) => ds.take k
  | lo, hi => cutD ds lo hi
theorem slD_eq (ds : List D) (lo hi : Option Int) : slD ds lo hi = cutD ds lo hi := by
  unfold slD
  split
  · rename_i k
    unfold cutD
    rw [show HT.sIx ds.length 0 (some (Int.ofNat k)) = min k ds.length from HT.sIx_nat ds.length 0 k]
    show _ = (ds.drop (min k ds.length)).take (ds.length - min k ds.length)
    by_cases h : k ≤ ds.length
    · rw [Nat.min_eq_left h, List.take_of_length_le (by rw [List.length_drop]; omega)]
    · rw [Nat.min_eq_right (by omega), List.drop_eq_nil_of_le (by omega), List.drop_length]
      simp
  · rename_i k
    unfold cutD
    rw [show HT.sIx ds.length ds.length (some (Int.ofNat k)) = min k ds.length from HT.sIx_nat ds.length ds.length k]
    show _ = (ds.drop 0).take (min k ds.length - 0)
    rw [List.drop_zero, Nat.sub_zero]
    by_cases h : k ≤ ds.length
    · rw [Nat.min_eq_left h]
    · rw [Nat.min_eq_right (by omega), List.take_length, List.take_of_length_le (by omega)]
  · rfl
def rSlN : D → Option Int → Option Int → Gp → DK → Prop := fun x lo hi G Q => match x with
  | .tup ds => Q (.tup (slD ds lo hi)) G
  | .lst ds => Q (.lst (slD ds lo hi)) G
  | .scr ds => Q (.lst (slD ds lo hi)) G
  | .str z => z.length ≤ sizeLine ∧ Q (.str (cutS z lo hi)) G
  | .ref p => ∃ ds, G p = some (.lst ds) ∧ Q (.lst (slD ds lo hi)) G
  | _ => False
theorem rSlN_eq : rSlN = rSl3 := by
  funext x lo hi G Q
  unfold rSlN rSl3
  cases x <;> simp only [slD_eq]
def dSlN (te : TE3) (tl th : TO3) : TE3 := fun sd G Q => te sd G fun x G1 => tl sd G1 fun l G2 => th sd G2 fun u G3 => rSlN x l u G3 Q
theorem dSlN_eq {te : TE3} {tl th : TO3} : dSlN te tl th = dSl te tl th := by
  unfold dSlN dSl
  rw [rSlN_eq]
theorem de_slice0 {lo hi : Option Expr} {tl th : TO3} {p2 : Pos} (he : DE X F0 e te) (hl : DOp X F0 lo tl) (hu : DOp X F0 hi th) : DE X F0 (.Subscript e (.Slice lo hi none p2) pos) (dSl te tl th) := by
  refine PE.imp (pe_slice (SlR.or sl_list (SlR.or sl_tupA sl_str)) he hl hu) fun σ H Q ⟨sd, F, G, Q3, at_, h, k⟩ => ?_
  refine ⟨sd, F, G, _, at_, h, fun d v F1 G1 H1 l1 r1 q1 => ⟨sd, F1, G1, _, at_.step l1, q1, fun lo F2 G2 H2 l2 q2 => ⟨sd, F2, G2, _, (at_.step l1).step l2, q2, fun hi F3 G3 H3 l3 q3 => ?_⟩⟩⟩
  have k3 := k.mono ((l1.trans l2).trans l3)
  have r3 := (r1.mono l2.le).mono l3.le
  have c := l3.cp
  unfold rSl3 at q3
  split at q3
  · cases r3 with
    | @tup a ds vs s rl =>
      refine .inr (.inl ⟨_, _, rfl, sqT_mono c.frz s, fun z => ?_, fun z p hp => ?_⟩)
      · rw [← rl.length] at z
        rw [cut_all z] at q3
        exact k3 _ _ _ _ _ (Ext.refl c) (.tup s rl) q3
      · have x := Ext.newF c (.tup (cutV vs lo hi)) hp
        exact k3 _ _ _ _ _ x (.tup upd_same (cut_rep (rl.mono x.le) lo hi)) q3
  · cases r3 with
    | @lst a ds vs s rl =>
      refine .inl ⟨_, _, rfl, SqL.of (c.frz _ _ s), fun p hp => ?_⟩
      have x := Ext.newF c (.lst (cutV vs lo hi)) hp
      exact k3 _ _ _ _ _ x (.lst upd_same (cut_rep (rl.mono x.le) lo hi)) q3
  · cases r3 with
    | @scr a ds vs s rl =>
      refine .inl ⟨_, _, rfl, sqL_mono c.frz s, fun p hp => ?_⟩
      have x := Ext.newF c (.lst (cutV vs lo hi)) hp
      exact k3 _ _ _ _ _ x (.lst upd_same (cut_rep (rl.mono x.le) lo hi)) q3
  · cases r3
    exact .inr (.inr ⟨_, rfl, q3.1, k3 _ _ _ _ _ (Ext.refl c) (.str _) q3.2⟩)
  · cases r3
    obtain ⟨ds, e0, q⟩ := q3
    obtain ⟨_, vs, hp, rl⟩ := own_lst c e0
    refine .inl ⟨_, _, rfl, SqL.of hp, fun p hp => ?_⟩
    have x := Ext.newF c (.lst (cutV vs lo hi)) hp
    exact k3 _ _ _ _ _ x (.lst upd_same (cut_rep (rl.mono x.le) lo hi)) q
  · exact q3.elim
theorem de_slice {lo hi : Option Expr} {tl th : TO3} {p2 : Pos} (he : DE X F0 e te) (hl : DOp X F0 lo tl) (hu : DOp X F0 hi th) : DE X F0 (.Subscript e (.Slice lo hi none p2) pos) (dSlN te tl th) := by
  rw [dSlN_eq]
  exact de_slice0 he hl hu
end
end L3
set_option Elab.async false
set_option linter.all false
set_option maxRecDepth 100000
set_option maxHeartbeats 4000000
namespace L3
open PySem PySem.Spec PyProof.Rows L2
abbrev TG3 := D → St3 → Gp → (St3 → Gp → Prop) → Prop
abbrev TGs3 := List D → St3 → Gp → (St3 → Gp → Prop) → Prop
def lowG (K : PySem.W.Frag) (F0 : Pt) (t : TG3) : TG := fun v σ H Q => ∃ d sd F G Q3, At K F0 F sd G σ H ∧ Rep K F d v ∧ t d sd G Q3 ∧ QS K F G H Q3 Q
def lowGs (K : PySem.W.Frag) (F0 : Pt) (t : TGs3) : TGs := fun vs σ H Q => ∃ ds sd F G Q3, At K F0 F sd G σ H ∧ RepL K F ds vs ∧ t ds sd G Q3 ∧ QS K F G H Q3 Q
def DG (X : Cx) (F0 : Pt) (e : Expr) (t : TG3) : Prop := PG X e (lowG X.K F0 t)
def DGs (X : Cx) (F0 : Pt) (es : List Expr) (t : TGs3) : Prop := PGs X es (lowGs X.K F0 t)
section
variable {X : Cx} {K : PySem.W.Frag} {F0 : Pt} {a b c e o : Expr} {es rest : List Expr} {ta tb tc te : TE3} {t : TA3} {pos p : Pos} {x : Str}
theorem PG.imp {e : Expr} {te t : TG} (h : PG X e te) (i : ∀ v σ H Q, t v σ H Q → te v σ H Q) : PG X e t := ⟨fun pins s σ H v u Q I r q => h.run pins s σ H v u Q I r (i v σ H Q q)⟩
theorem PGs.imp {es : List Expr} {te t : TGs} (h : PGs X es te) (i : ∀ v σ H Q, t v σ H Q → te v σ H Q) : PGs X es t := ⟨fun pins s σ H v u Q I r q => h.run pins s σ H v u Q I r (i v σ H Q q)⟩
def gN (i : Nat) : TG3 := fun d sd G Q => sput (fun sd' => Q sd' G) (some d) sd i
theorem dg_name (i : Nat) {x : Str} (hN : X.N.Nodup) (hi : X.N[i]? = some x := by rfl) (hx : Loc X.env.scope x := by first | exact Or.inl rfl | exact Or.inr rfl) (hf : X.fn x = true ∨ X.env.scope.names.lookup x = some .local := by first | exact .inl rfl | exact .inr rfl) : DG X F0 (.Name x pos) (gN i) :=
  PG.imp (pg_name hN hi hx hf) fun v σ H Q ⟨d, sd, F, G, Q3, at_, r, h, k⟩ => k _ _ _ _ _ (Ext.refl at_.cp) (at_.rs.set i r) (sput_set h)
def gsNil : TGs3 := fun ds sd G Q => match ds with
  | [] => Q sd G
  | _ => False
def gsCons (t : TG3) (u : TGs3) : TGs3 := fun ds sd G Q => match ds with
  | d :: r => t d sd G fun sd' G' => u r sd' G' Q
  | [] => False
theorem dgs_nil : DGs X F0 [] gsNil := PGs.imp pgs_nil fun v σ H Q ⟨ds, sd, F, G, Q3, at_, r, h, k⟩ => by
  unfold gsNil at h
  split at h
  · cases r
    exact ⟨rfl, k _ _ _ _ _ (Ext.refl at_.cp) at_.rs h⟩
  · exact h.elim
theorem dgs_cons {t : TG3} {u : TGs3} (h1 : DG X F0 e t) (h2 : DGs X F0 es u) (hs : (assignEach (e :: es) X.env).map (·.2) = assign e X.env :: (assignEach es X.env).map (·.2) := by rfl) : DGs X F0 (e :: es) (gsCons t u) :=
  PGs.imp (pgs_cons h1 h2 hs) fun v σ H Q ⟨ds, sd, F, G, Q3, at_, r, h, k⟩ => by
    unfold gsCons at h
    split at h
    · cases r with
      | cons r rr => exact ⟨_, _, rfl, _, sd, F, G, _, at_, r, h, fun sd' σ' F' G' H' l rs q => ⟨_, sd', F', G', Q3, ⟨at_.ext.trans l, rs⟩, rr.mono l.le, q, k.mono l⟩⟩
    · exact h.elim
def lenIs : Nat → List D → Bool
  | 0, [] => true
  | n + 1, _ :: r => lenIs n r
  | _, _ => false
theorem lenIs_ok : ∀ {n : Nat} {ds : List D}, lenIs n ds = true → ds.length = n
  | 0, [], _ => rfl
  | n + 1, _ :: r, h => by
    rw [List.length_cons, lenIs_ok (n := n) (ds := r) h]
def gSubL (to ti : TE3) : TG3 := fun d sd G Q => to sd G fun o G1 => ti sd G1 fun i G2 => match o, i with
  | .ref p, .int k => ∃ ds j, G2 p = some (.lst ds) ∧ ixN ds.length k = some j ∧ Q sd (gupd G2 p (.lst (ds.set j d)))
  | _, _ => False
theorem dg_subL {i : Expr} {to ti : TE3} (ho : DE X F0 o to) (hi : DE X F0 i ti)
    (ha : ∀ v, assign (.Subscript o i pos) X.env v = (do
      let ov ← holding [v] (eval o X.env)
      let iv ← holding [v, ov] (eval i X.env)
      standAt pos
      holding [v, ov, iv] (setItem ov iv v)
      release [v, ov, iv] []) := by intro _; rfl) : DG X F0 (.Subscript o i pos) (gSubL to ti) :=
  PG.imp (pg_sub ho hi set_list ha) fun v σ H Q ⟨d, sd, F, G, Q3, at_, r, h, k⟩ => ⟨sd, F, G, _, at_, h, fun dO vO F1 G1 H1 l1 r1 q1 => ⟨sd, F1, G1, _, at_.step l1, q1, fun dI vI F2 G2 H2 l2 r2 q2 => by
    have l := l1.trans l2
    split at q2
    · obtain ⟨ds, j, e1, e2, q⟩ := q2
      obtain ⟨_, vs, hp, rl⟩ := own_lst l2.cp e1
      cases r1; cases r2
      rename_i p kk
      refine ⟨_, _, _, j, rfl, rfl, hp, by rw [← rl.length]; exact e2, ?_⟩
      have y := Ext.put l2.cp (o := .lst (vs.set j v)) (u := .lst (ds.set j d)) e1 (fun x z => by rw [hp] at z; cases z) (fun z => by rw [hp] at z; cases z) (fun _ _ _ z => nomatch z) ⟨_, upd_same, rl.set (r.mono l.le) j⟩
      exact k _ _ _ _ _ (l.trans y) ((at_.rs.mono l.le).mono y.le) q
    · exact q2.elim⟩⟩
variable {st : Stmt} {sts : List Stmt} {tt : TT3} {ts us : TS3}
def dNext : TS3 := fun D sd G => D.nx sd G
def dSeq (t u : TS3) : TS3 := fun D sd G => t { D with nx := u D } sd G
theorem dss_nil : DSs X F0 [] dNext := PSs.imp pss_nil fun D σ H ⟨sd, F, G, D3, at_, h, k⟩ => k.nx _ _ _ _ _ (Ext.refl at_.cp) at_.rs h
theorem dss_one (h : DS X F0 st ts) : DSs X F0 [st] ts := pss_one h
theorem dss_cons (h1 : DS X F0 st ts) (h2 : DSs X F0 sts us) : DSs X F0 (st :: sts) (dSeq ts us) :=
  PSs.imp (pss_cons h1 h2) fun D σ H ⟨sd, F, G, D3, at_, h, k⟩ => ⟨sd, F, G, _, at_, h, ⟨fun sd' σ' F' G' H' l rs q => ⟨sd', F', G', D3, ⟨at_.ext.trans l, rs⟩, q, k.mono l⟩, k.rt, k.bk, k.ct⟩⟩
def dRet (te : TE3) : TS3 := fun D sd G => te sd G D.rt
theorem ds_ret (he : DE X F0 e te) : DS X F0 (.Return (some e) pos) (dRet te) := PS.imp (ps_ret he) fun D σ H ⟨sd, F, G, D3, at_, h, k⟩ => ⟨sd, F, G, _, at_, h, k.rt⟩
def dIfS (c : TT3) (t u : TS3) : TS3 := fun D sd G => c sd G fun b G1 => br b (t D sd G1) (u D sd G1)
theorem ds_if {c : Expr} {a b : List Stmt} (hc : DT X F0 c tt) (ha : DSs X F0 a ts) (hb : DSs X F0 b us) : DS X F0 (.If c a b pos) (dIfS tt ts us) :=
  PS.imp (ps_if hc ha hb) fun D σ H ⟨sd, F, G, D3, at_, h, k⟩ => ⟨sd, F, G, _, at_, h, fun b F1 G1 H1 l q => by
    cases b with
    | true => exact iteT ⟨sd, F1, G1, D3, at_.step l, q, k.mono l⟩
    | false => exact iteF ⟨sd, F1, G1, D3, at_.step l, q, k.mono l⟩⟩
def dSet (i : Nat) (te : TE3) : TS3 := fun D sd G => te sd G fun d G1 => sput (fun sd' => D.nx sd' G1) (some d) sd i
theorem ds_set (i : Nat) {x : Str} {pos' : Pos} (hN : X.N.Nodup) (he : DE X F0 e te) (hi : X.N[i]? = some x := by rfl) (hx : Loc X.env.scope x := by first | exact Or.inl rfl | exact Or.inr rfl) (hs : swapsWith e (some (.Name x pos')) pos.line X.env = pure false := by rfl)
    (hf : X.fn x = true ∨ X.env.scope.names.lookup x = some .local := by first | exact .inl rfl | exact .inr rfl) : DS X F0 (.Assign [.Name x pos'] e pos) (dSet i te) :=
  PS.imp (ps_set hN hi hx he hs hf) fun D σ H ⟨sd, F, G, D3, at_, h, k⟩ => ⟨sd, F, G, _, at_, h, fun d v F1 G1 H1 l r q => k.nx _ _ _ _ _ l ((at_.rs.mono l.le).set i r) (sput_set q)⟩
def dAsg (te : TE3) (g : TG3) : TS3 := fun D sd G => te sd G fun d G1 => g d sd G1 D.nx
theorem ds_asg {tg : Expr} {g : TG3} (he : DE X F0 e te) (hg : DG X F0 tg g) (hs : swapsWithSole [tg] e pos.line X.env = pure false := by rfl) (hw : swappedStores [tg] e X.env = pure none := by rfl)
    (h1 : (assignEach [tg] X.env).map (·.2) = [assign tg X.env] := by rfl) : DS X F0 (.Assign [tg] e pos) (dAsg te g) :=
  PS.imp (ps_asg he hg hs hw h1) fun D σ H ⟨sd, F, G, D3, at_, h, k⟩ => ⟨sd, F, G, _, at_, h, fun d v F1 G1 H1 l r q => ⟨d, sd, F1, G1, _, at_.step l, r, q, k.nx.mono l⟩⟩
end
end L3
set_option Elab.async false
set_option linter.all false
set_option maxRecDepth 100000
set_option maxHeartbeats 4000000
namespace L3
open PySem PySem.Spec PyProof.Rows L2
def QX (K : PySem.W.Frag) (F : Hp) (G : Gp) (H : Hp) (E3 : EK) (E : XK) : Prop := ∀ C fs d F' G' H', Ext K F G H F' G' H' → XR K F' H' d fs → E3 C fs G' → E (.ref C) d H'
def dn (K : PySem.W.Frag) (sp : Sp3) : Sp := fun vs H Q E => ∃ ds F G Q3 E3, Cp K F G H ∧ RepL K F ds vs ∧ sp ds G Q3 E3 ∧ QR K F G H Q3 Q ∧ QX K F G H E3 E
def Ghost (K : PySem.W.Frag) (d : D) (G : Gp) (d' : D) (G' : Gp) : Prop := ∀ F H v, Cp K F G H → Rep K F d v → ∃ F', Ext K F G H F' G' H ∧ Rep K F' d' v
def Ret (K : PySem.W.Frag) (Q3 : DK) : DK := fun d G => ∃ d' G', Ghost K d G d' G' ∧ Q3 d' G'
section
variable {K : PySem.W.Frag} {Q3 : DK} {d : D} {G G' : Gp}
theorem ret_id (q : Q3 d G) : Ret K Q3 d G := ⟨d, G, fun F H v c r => ⟨F, Ext.refl c, r⟩, q⟩
theorem ret_sub (s : Sub G' G) (q : Q3 d G') : Ret K Q3 d G := ⟨d, G', fun F H v c r => ⟨F, Ext.sub c s, r⟩, q⟩
def gdel (G : Gp) (p : Addr) : Gp := fun q => if q = p then none else G q
end
structure Cal3 (P : Program) (w : World) (K : PySem.W.Frag) (mg : Str → Option Value) (base : Heap) (k : Nat) (x : Str) (sp : Sp3) (dds : List D) : Prop where
  ex : ∃ (f : Addr) (fd : FuncData) (ps : List Str) (ds : List Value) (dvs : List V), FnOk P w K mg base (L2.CX P w) k f fd ps (dn K sp) ∧ mg x = some (.ref f) ∧ PySem.W.keepIn K (.ref f) = true ∧ Binds K fd ps ds ∧ Vals dvs ds ∧ ∀ F, RepL K F dds dvs
section
variable {X : Cx} {F0 : Pt} {e : Expr} {es : List Expr} {t : TA3} {x : Str} {p pos : Pos} {k j : Nat} {sp : Sp3} {dds : List D} {W : WK}
def dCall (sp : Sp3) (dds : List D) (W : WK) (t : TA3) : TE3 := fun sd G Q => t sd G fun ds G1 => sp (ds ++ dds) G1 Q fun C fs G2 => W C fs sd G2
def NoW : WK := fun _ _ _ _ => False
theorem low_w {K : PySem.W.Frag} {F0 : Pt} {F H : Hp} {G : Gp} {sd : St3} {σ : L2.St} (at_ : At K F0 F sd G σ H) : QX K F G H (fun C fs G2 => W C fs sd G2) fun cls d H' => lowW K F0 W cls d σ H' :=
  fun C fs d F' G' H' l xr q => ⟨sd, F', G', C, fs, at_.step l, rfl, xr, q⟩
theorem de_call (c : Cal3 X.prog X.w X.K X.mg X.base k x sp dds) (hr : Room j X.A) (tk : Takes X (lowW X.K F0 W)) (ha : DA X F0 (e :: es) t) (hk : k ≤ j := by decide) (hg : Gl X x := by rfl)
    (hdb : (x == ("__debug__" : Str)) = false := by decide) (he : starEach (e :: es) X.env = (false, eval e X.env) :: starEach es X.env := by rfl) (hpl : (backTo pos (starEach es X.env)).any (·.1) = false := by rfl) :
    DE X F0 (.Call (.Name x p) (e :: es) [] pos) (dCall sp dds W t) := by
  obtain ⟨f, fd, ps, ds, dvs, F, m, kp, b, vd, rd⟩ := c.ex
  refine PE.imp (pe_callSD (E := fun σ cls d H => lowW X.K F0 W cls d σ H) F (hr.mono hk) hg m kp b vd (fun σ => passAt tk σ) ha hdb he hpl) fun σ H Q ⟨sd, F, G, Q3, at_, h, k⟩ => ?_
  exact ⟨sd, F, G, _, at_, h, fun ds vs F1 G1 H1 l1 r1 q1 => ⟨ds ++ dds, F1, G1, Q3, _, l1.cp, r1.append (rd F1), q1, k.mono l1, low_w (at_.step l1)⟩⟩
theorem takesN : Takes X (lowW X.K F0 NoW) := Takes.imp takes0 fun _ _ _ _ ⟨_, _, _, _, _, _, _, _, z⟩ => z.elim
end
def start3 : Nat → List D → St3
  | n, d :: ds => some d :: start3 (n - 1) ds
  | n, [] => List.replicate n none
theorem start3_eq : ∀ (n : Nat) (ds : List D), ds.length ≤ n → start3 n ds = ds.map some ++ List.replicate (n - ds.length) none
  | n, [], _ => by simp [start3]
  | n, d :: ds, h => by
    have h' : ds.length ≤ n - 1 := by rw [List.length_cons] at h; omega
    unfold start3
    rw [start3_eq (n - 1) ds h']
    simp only [List.map_cons, List.cons_append, List.length_cons]
    congr 3
    omega
theorem repS_start {K : PySem.W.Frag} {F : Hp} {N : List Str} {ds : List D} {vs : List V} (r : RepL K F ds vs) (h : ds.length ≤ N.length) : RepS K F (start3 N.length ds) (L2.start N vs) := by
  rw [start3_eq _ _ h]
  unfold L2.start
  have el := r.length
  refine ⟨by simp [el], fun i d e => ?_⟩
  by_cases hi : i < ds.length
  · rw [List.getElem?_append_left (by simpa using hi), List.getElem?_map] at e
    cases q : ds[i]? with
    | none => rw [q] at e; cases e
    | some d' =>
      rw [q] at e
      cases e
      obtain ⟨v, h1, h2⟩ := r.get q
      exact ⟨v, by rw [List.getElem?_append_left (by simpa [← el] using hi), List.getElem?_map, h1]; rfl, h2⟩
  · rw [List.getElem?_append_right (by simpa using hi), List.getElem?_replicate] at e
    split at e <;> cases e
section
variable {P : Program} {w : World} {K : PySem.W.Frag} {mg : Str → Option Value} {base : Heap}
theorem ok3 {x qual : Str} {st : Stmt} {f : Addr} {fd : FuncData} {N ps : List Str} {k : Nat} {sp : Sp3} (F : Fun K x qual st f fd) (S : FnScope N ps (defScope st)) (hlen : ps.length ≤ N.length) (len : ∀ ds G Q E, sp ds G Q E → ds.length = ps.length)
    (hbody : ∀ (cdv : Value) (A : Around) (outer : List Env) (s : Shared) (H : Hp) (E : XK) (o : Pt) (E3 : EK), Room k (A.deeper (envOfC qual (defScope st) s.heap.objs.size f cdv)) →
      Takes (cxOf (L2.CX P w) P w K mg base N qual (defScope st) f cdv A outer s H E) (lowW K o fun C fs _ G => E3 C fs G) →
      ∃ t : TS3, DSs (cxOf (L2.CX P w) P w K mg base N qual (defScope st) f cdv A outer s H E) o (defBody st) t ∧
        ∀ ds G Q3, sp ds G Q3 E3 → t { nx := fun _ G' => Ret K Q3 .non G', rt := Ret K Q3 } (start3 N.length ds) G) : FnOk P w K mg base (L2.CX P w) (k + 1) f fd ps (dn K sp) := by
  refine F.okX S (fun vs H Q E ⟨ds, F, G, Q3, E3, _, r, h, _⟩ => by rw [← r.length]; exact len _ _ _ _ h) fun cdv A outer s H vs Q E hr h => ?_
  obtain ⟨ds, F, G, Q3, E3, c, r, h, k1, k2⟩ := h
  have tk : Takes (cxOf (L2.CX P w) P w K mg base N qual (defScope st) f cdv A outer s H E) (lowW K ⟨F, G, H⟩ fun C fs _ G => E3 C fs G) := by
    refine Takes.imp (takes_of (E := E) rfl rfl rfl rfl) fun cls d σ H' ⟨sd, F', G', C, fs, at_, e, xr, q⟩ => ?_
    subst e
    exact k2 C fs d F' G' H' at_.ext xr q
  obtain ⟨t, ht, hq⟩ := hbody cdv A outer s H E ⟨F, G, H⟩ E3 hr tk
  refine ⟨_, ht, start3 N.length ds, F, G, _, ⟨Ext.refl c, repS_start r (by rw [len _ _ _ _ h]; exact hlen)⟩, hq ds G Q3 h, ?_⟩
  have kr : QR K F G H (Ret K Q3) Q := fun d v F' G' H' l rv ⟨d', G2, g, q⟩ => by
    obtain ⟨F2, l2, r2⟩ := g F' H' v l.cp rv
    exact k1 d' v F2 G2 H' (l.trans l2) r2 q
  exact ⟨fun sd σ F' G' H' l _ q => kr _ _ _ _ _ l .non q, kr, fun _ _ _ _ _ _ _ q => q.elim, fun _ _ _ _ _ _ _ q => q.elim⟩
end
end L3
set_option Elab.async false
set_option linter.all false
set_option maxRecDepth 100000
set_option maxHeartbeats 4000000
namespace L3
open PySem PySem.Spec PyProof.Rows L2
inductive BT where
  | int | bool | str | tuple | list | dict
def BT.nm : BT → String
  | .int => "int"
  | .bool => "bool"
  | .str => "str"
  | .tuple => "tuple"
  | .list => "list"
  | .dict => "dict"
section
variable {X : Cx} {K : PySem.W.Frag} {F0 : Pt} {a b c e o : Expr} {es rest : List Expr} {ta tb tc te : TE3} {t : TA3} {pos p p2 : Pos} {x : Str}
section
variable {apos : Pos}
end
end
structure Walks (K : PySem.W.Frag) (F : Hp) (J : It) (ds : List D) : Prop where
  go : ∀ i F' G' H', Le F F' → Cp K F' G' H' → i < ds.length → J.go i H' ∧ ∀ x H2, J.yld i H' x H2 → ∃ F2, Ext K F' G' H' F2 G' H2 ∧ ∃ d, ds[i]? = some d ∧ Rep K F2 d x
  stop : ∀ i F' G' H', Le F F' → Cp K F' G' H' → ds.length ≤ i → J.stop i H'
abbrev TI3 := St3 → Gp → (List D → Gp → Prop) → Prop
def lowI (K : PySem.W.Frag) (F0 : Pt) (t : TI3) : TI := fun σ H R => ∃ sd F G R3, At K F0 F sd G σ H ∧ t sd G R3 ∧ ∀ ds J F' G' H', Ext K F G H F' G' H' → Walks K F' J ds → R3 ds G' → R J H'
def DI (X : Cx) (F0 : Pt) (tg iter : Expr) (t : TI3) : Prop := PI X tg iter (lowI X.K F0 t)
section
variable {X : Cx} {K : PySem.W.Frag} {F0 : Pt} {tg a b c e o : Expr} {es rest : List Expr} {ta tb tc te : TE3} {t : TA3} {pos p p2 : Pos} {x : Str}
theorem PI.imp {tg e : Expr} {te t : TI} (h : PI X tg e te) (i : ∀ σ H Q, t σ H Q → te σ H Q) : PI X tg e t := ⟨fun pins s σ H Q I q => h.run pins s σ H Q I (i σ H Q q)⟩
theorem walks_tup {F : Hp} {p : Addr} {vs : List V} {ds : List D} (s : SqT K F p vs) (r : RepL K F ds vs) : Walks K F (Itt K p) ds := by
  refine ⟨fun i F' G' H' l c hi => ?_, fun i F' G' H' l c hi => ⟨vs, sqT_up (l.trans c.frz) s, by rw [← r.length]; exact hi⟩⟩
  have e : ds[i]? = some ds[i] := by simp [hi]
  obtain ⟨v, e1, r1⟩ := r.get e
  refine ⟨⟨vs, v, sqT_up (l.trans c.frz) s, e1⟩, fun x H2 ⟨eh, y⟩ => ?_⟩
  subst eh
  have q := y vs (sqT_up (l.trans c.frz) s)
  rw [e1] at q
  cases q
  exact ⟨F', Ext.refl c, _, e, r1.mono l⟩
theorem walks_lst {F : Hp} {p : Addr} {vs : List V} {ds : List D} (s : SqL K F p vs) (r : RepL K F ds vs) : Walks K F (Itl K p) ds := by
  refine ⟨fun i F' G' H' l c hi => ?_, fun i F' G' H' l c hi => ⟨vs, sqL_mono (l.trans c.frz) s, by rw [← r.length]; exact hi⟩⟩
  have e : ds[i]? = some ds[i] := by simp [hi]
  obtain ⟨v, e1, r1⟩ := r.get e
  refine ⟨⟨vs, v, sqL_mono (l.trans c.frz) s, e1⟩, fun x H2 ⟨eh, y⟩ => ?_⟩
  subst eh
  have q := y vs (sqL_mono (l.trans c.frz) s)
  rw [e1] at q
  cases q
  exact ⟨F', Ext.refl c, _, e, r1.mono l⟩
def signs (s : Str) : List D := s.cps.toList.map fun c => D.str ⟨#[c]⟩
def intsD (lo : Int) (n : Nat) : List D := (List.range n).map fun i => D.int (lo + (i : Nat))
theorem walks_range {F : Hp} (lo : Int) (n : Nat) : Walks K F (Itr lo n) (intsD lo n) := by
  refine ⟨fun i F' G' H' l c hi => ?_, fun i F' G' H' l c hi => ?_⟩
  · have hi' : i < n := by simpa [intsD] using hi
    refine ⟨hi', fun x H2 ⟨eh, ex⟩ => ?_⟩
    subst eh ex
    refine ⟨F', Ext.refl c, _, ?_, .int _⟩
    unfold intsD
    rw [List.getElem?_map, List.getElem?_range hi']
    rfl
  · show n ≤ i
    simpa [intsD] using hi
def wR1 (te : TE3) : TI3 := fun sd G R => te sd G fun d G1 => match d with
  | .int j => (-(2 ^ 62) ≤ j ∧ j < 2 ^ 62) ∧ R (intsD 0 j.toNat) G1
  | _ => False
theorem di_range1 (ha : DE X F0 a ta) (hm : X.mg "range" = none) (hg : Gl X "range" := by rfl) (hs : starEach [a] X.env = [(false, eval a X.env)] := by rfl) (hs' : starEach [a] X.env = (false, eval a X.env) :: starEach [] X.env := by rfl) : DI X F0 tg (.Call (.Name "range" p) [a] [] pos) (wR1 ta) :=
  PI.imp (pi_range1 hg hm (pa_cons ha pa_nil hs') hs) fun σ H R ⟨sd, F, G, R3, at_, h, k⟩ => ⟨sd, F, G, _, at_, h, fun d v F1 G1 H1 l1 r1 q1 => by
    cases d <;> first | exact q1.elim | skip
    cases r1
    exact ⟨_, rfl, q1.1.1, q1.1.2, k _ _ _ _ _ l1 (walks_range 0 _) q1.2⟩⟩
def forL0 (g : TG3) (tb : TS3) (Z : Ends3) : List D → St3 → Gp → Prop
  | [], sd, G => Z.nx sd G
  | x :: xs, sd, G => g x sd G fun sd' G' => tb { Z with nx := forL0 g tb Z xs, ct := forL0 g tb Z xs, bk := Z.nx } sd' G'
@[irreducible] def forL (g : TG3) (tb : TS3) (Z : Ends3) (ds : List D) (sd : St3) (G : Gp) : Prop := forL0 g tb Z ds sd G
theorem forL_nil {g : TG3} {tb : TS3} {Z : Ends3} {sd : St3} {G : Gp} : forL g tb Z [] sd G = Z.nx sd G := by unfold forL; rfl
theorem forL_cons {g : TG3} {tb : TS3} {Z : Ends3} {x : D} {xs : List D} {sd : St3} {G : Gp} : forL g tb Z (x :: xs) sd G = g x sd G fun sd' G' => tb { Z with nx := forL g tb Z xs, ct := forL g tb Z xs, bk := Z.nx } sd' G' := by
  have e : forL g tb Z xs = forL0 g tb Z xs := by funext sd G; unfold forL; rfl
  rw [e]
  unfold forL
  rfl
def dFor (w : TI3) (g : TG3) (tb : TS3) : TS3 := fun Z sd G => w sd G fun ds G1 => forL g tb Z ds sd G1
theorem forL_drop {g : TG3} {tb : TS3} {Z : Ends3} {ds : List D} {i : Nat} {d : D} {sd : St3} {G : Gp} (e : ds[i]? = some d) (h : forL g tb Z (ds.drop i) sd G) :
    g d sd G fun sd' G' => tb { Z with nx := forL g tb Z (ds.drop (i + 1)), ct := forL g tb Z (ds.drop (i + 1)), bk := Z.nx } sd' G' := by
  obtain ⟨hi, ed⟩ := List.getElem?_eq_some_iff.mp e
  rw [List.drop_eq_getElem_cons hi, ed, forL_cons] at h
  exact h
theorem ds_for {iter : Expr} {body : List Stmt} {wi : TI3} {g : TG3} {tb : TS3} (hc : X.calm = true) (hp : PassesOwn (model X.prog X.w) X.A X.env X.xe) (hi : DI X F0 tg iter wi) (hg : DG X F0 tg g) (hb : DSs X F0 body tb)
    (hs : ∀ x, foldedSetIterable iter X.env x = pure x := by intro _; rfl) : DS X F0 (.For tg iter body [] pos) (dFor wi g tb) := by
  refine PS.imp (ps_for hp hc hi hg hb hs) fun D σ H ⟨sd, F, G, D3, at_, h, k⟩ => ?_
  refine ⟨sd, F, G, _, at_, h, fun ds J F1 G1 H1 l1 wk q => ?_⟩
  refine ⟨fun i m σ' H' => m = ds.length - i ∧ ∃ sd' F' G', Ext X.K F1 G1 H1 F' G' H' ∧ RepS X.K F' sd' σ' ∧ forL g tb D3 (ds.drop i) sd' G', ⟨ds.length, rfl, sd, F1, G1, Ext.refl l1.cp, at_.rs.mono l1.le, by rw [List.drop_zero]; exact q⟩, ?_⟩
  rintro i m σ' H' ⟨rfl, sd', F', G', l, rs, q⟩
  by_cases hlt : i < ds.length
  · obtain ⟨hgo, hy⟩ := wk.go i F' G' H' l.le l.cp hlt
    refine .inr ⟨hgo, fun σ2 H2 => ∃ sd2 F2 G2, Ext X.K F1 G1 H1 F2 G2 H2 ∧ RepS X.K F2 sd2 σ2 ∧ forL g tb D3 (ds.drop (i + 1)) sd2 G2, fun σ2 H2 hh => ⟨ds.length - (i + 1), by omega, rfl, hh⟩, fun x H2 y => ?_⟩
    obtain ⟨F2, l2, d, ed, rd⟩ := hy x H2 y
    have a2 : At X.K F0 F2 sd' G' σ' H2 := ⟨at_.ext.trans ((l1.trans l).trans l2), rs.mono l2.le⟩
    refine ⟨d, sd', F2, G', _, a2, rd, forL_drop ed q, fun sd3 σ3 F3 G3 H3 l3 rs3 q3 => ?_⟩
    have lz := (l.trans l2).trans l3
    refine ⟨sd3, F3, G3, _, ⟨at_.ext.trans (l1.trans lz), rs3⟩, q3, ?_⟩
    have nx : QS X.K F3 G3 H3 (forL g tb D3 (ds.drop (i + 1))) fun σ2 H2 => ∃ sd2 F2 G2, Ext X.K F1 G1 H1 F2 G2 H2 ∧ RepS X.K F2 sd2 σ2 ∧ forL g tb D3 (ds.drop (i + 1)) sd2 G2 := fun sd4 σ4 F4 G4 H4 l4 rs4 q4 => ⟨sd4, F4, G4, lz.trans l4, rs4, q4⟩
    exact ⟨nx, k.rt.mono (l1.trans lz), k.nx.mono (l1.trans lz), nx⟩
  · refine .inl ⟨wk.stop i F' G' H' l.le l.cp (by omega), ?_⟩
    rw [List.drop_eq_nil_of_le (by omega), forL_nil] at q
    exact k.nx _ _ _ _ _ (l1.trans l) rs q
end
end L3
set_option Elab.async false
set_option linter.all false
set_option maxRecDepth 100000
set_option maxHeartbeats 4000000
namespace L3
open PySem PySem.Spec PyProof.Rows L2
theorem wipe_at {σ : L2.St} {k : Nat} : ∀ {vs : List Nat}, (wipe σ vs)[k]? = if k ∈ vs then (if k < σ.length then some none else none) else σ[k]?
  | [] => by simp [wipe]
  | v :: vs => by
    unfold wipe
    by_cases hv : v = k
    · subst hv
      rw [if_pos (List.mem_cons_self)]
      by_cases hl : v < σ.length
      · rw [if_pos hl, List.getElem?_set_self (by rw [wipe_length]; exact hl)]
      · rw [if_neg hl, List.getElem?_eq_none (by rw [List.length_set, wipe_length]; omega)]
    · rw [List.getElem?_set_ne hv, wipe_at]
      by_cases hk : k ∈ vs
      · rw [if_pos hk, if_pos (List.mem_cons_of_mem _ hk)]
      · rw [if_neg hk, if_neg (fun z => (List.mem_cons.mp z).elim (fun e => hv e.symm) hk)]
theorem wipe_set {σ : L2.St} {i : Nat} {x : Option V} {vs : List Nat} (h : i ∈ vs) : wipe (σ.set i x) vs = wipe σ vs := by
  refine List.ext_getElem? fun k => ?_
  rw [wipe_at, wipe_at, List.length_set]
  by_cases hk : k ∈ vs
  · rw [if_pos hk, if_pos hk]
  · rw [if_neg hk, if_neg hk, List.getElem?_set_ne (fun e => hk (by rw [← e]; exact h))]
theorem wipe_wipe {σ : L2.St} {vs : List Nat} : wipe (wipe σ vs) vs = wipe σ vs := by
  refine List.ext_getElem? fun k => ?_
  rw [wipe_at, wipe_length]
  by_cases hk : k ∈ vs
  · rw [if_pos hk, wipe_at, if_pos hk]
  · rw [if_neg hk]
def swp (K : St3 → Prop) : List Nat → St3 → Prop
  | [], sd => K sd
  | v :: vs, sd => swp (fun z => sput K none z v) vs sd
theorem swp_rep {K : PySem.W.Frag} {F : Hp} : ∀ {vs : List Nat} {sd : St3} {σ : L2.St} {P : St3 → Prop}, RepS K F sd σ → swp P vs sd → ∃ sw, P sw ∧ RepS K F sw (wipe σ vs)
  | [], sd, σ, P, r, h => ⟨sd, h, r⟩
  | v :: vs, sd, σ, P, r, h => by
    obtain ⟨sw, hp, rs⟩ := swp_rep (vs := vs) r (show swp (fun z => sput P none z v) vs sd from h)
    exact ⟨sw.set v none, sput_set hp, rs.forget v none⟩
def TgtOk (K : PySem.W.Frag) (vs : List Nat) (g2 : TG) (g3 : TG3) : Prop := ∀ F sd G σ H d v (Q3 : St3 → Gp → Prop) (Q : L2.St → Hp → Prop), Cp K F G H → RepS K F sd σ → Rep K F d v → g3 d sd G Q3 →
  (∀ sd' σ', RepS K F sd' σ' → wipe σ' vs = wipe σ vs → Q3 sd' G → Q σ' H) → g2 v σ H Q
theorem tgt_name {K : PySem.W.Frag} {vs : List Nat} {i : Nat} (h : i ∈ vs) : TgtOk K vs (gName i) (gN i) := fun F sd G σ H d v Q3 Q c rs r q k => k _ _ (rs.set i r) (wipe_set h) (sput_set q)
def lcL0 (g : TG3) (tt : TT3) (te : TE3) (sw : St3) : List D → Gp → (List D → Gp → Prop) → Prop
  | [], G, K => K [] G
  | x :: xs, G, K => g x sw G fun sd2 G2 => tt sd2 G2 fun b G3 => br b (te sd2 G3 fun y G4 => lcL0 g tt te sw xs G4 fun ys G5 => K (y :: ys) G5) (lcL0 g tt te sw xs G3 K)
@[irreducible] def lcL (g : TG3) (tt : TT3) (te : TE3) (sw : St3) (ds : List D) (G : Gp) (K : List D → Gp → Prop) : Prop := lcL0 g tt te sw ds G K
theorem lcL_nil {g : TG3} {tt : TT3} {te : TE3} {sw : St3} {G : Gp} {K : List D → Gp → Prop} : lcL g tt te sw [] G K = K [] G := by unfold lcL; rfl
theorem lcL_cons {g : TG3} {tt : TT3} {te : TE3} {sw : St3} {x : D} {xs : List D} {G : Gp} {K : List D → Gp → Prop} : lcL g tt te sw (x :: xs) G K = g x sw G fun sd2 G2 => tt sd2 G2 fun b G3 => br b (te sd2 G3 fun y G4 => lcL g tt te sw xs G4 fun ys G5 => K (y :: ys) G5) (lcL g tt te sw xs G3 K) := by
  have e : lcL g tt te sw xs = lcL0 g tt te sw xs := by funext G K; unfold lcL; rfl
  rw [e]
  unfold lcL
  rfl
def dYes : TT3 := fun _ G Q => Q true G
def DTs (X : Cx) (F0 : Pt) (ifs : List Expr) (t : TT3) : Prop := PTs X ifs (lowT X.K F0 t)
theorem PTs.imp {X : Cx} {es : List Expr} {te t : TT} (h : PTs X es te) (i : ∀ σ H Q, t σ H Q → te σ H Q) : PTs X es t := ⟨fun pins s σ H Q I q => h.run pins s σ H Q I (i σ H Q q)⟩
theorem dts_nil {X : Cx} {F0 : Pt} : DTs X F0 [] dYes := PTs.imp pts_nil fun σ H Q ⟨sd, F, G, Q3, at_, h, k⟩ => k _ _ _ _ (Ext.refl at_.cp) h
def dLc (w : TI3) (g : TG3) (tt : TT3) (te : TE3) (vs : List Nat) : TE3 := fun sd G Q => w sd G fun ds G1 => ds.length < sizeLine ∧ swp (fun sw => lcL g tt te sw ds G1 fun ys G2 => Q (.lst ys) G2) vs sd
theorem lcL_drop {g : TG3} {tt : TT3} {te : TE3} {sw : St3} {ds : List D} {i : Nat} {d : D} {G : Gp} {K : List D → Gp → Prop} (e : ds[i]? = some d) (h : lcL g tt te sw (ds.drop i) G K) :
    g d sw G fun sd2 G2 => tt sd2 G2 fun b G3 => br b (te sd2 G3 fun y G4 => lcL g tt te sw (ds.drop (i + 1)) G4 fun ys G5 => K (y :: ys) G5) (lcL g tt te sw (ds.drop (i + 1)) G3 K) := by
  obtain ⟨hi, ed⟩ := List.getElem?_eq_some_iff.mp e
  rw [List.drop_eq_getElem_cons hi, ed, lcL_cons] at h
  exact h
theorem low_lc {K : PySem.W.Frag} {F0 : Pt} {w : TI3} {g2 : TG} {g : TG3} {tt : TT3} {te : TE3} {vs : List Nat} (tg : TgtOk K vs g2 g) {σ : L2.St} {H : Hp} {Q : VK} (h : low K F0 (dLc w g tt te vs) σ H Q) :
    tLc (lowI K F0 w) g2 (lowT K F0 tt) (low K F0 te) vs σ H Q := by
  obtain ⟨sd, F, G, Q3, at_, h, k⟩ := h
  refine ⟨sd, F, G, _, at_, h, fun ds J F1 G1 H1 l1 wk ⟨hz, q⟩ D hD => ?_⟩
  obtain ⟨sw, q, rsw⟩ := swp_rep (at_.rs.mono l1.le) q
  have fD := (l1.cp.free hD).1
  have gD := (l1.cp.free hD).2
  refine ⟨fun i m H' => m = ds.length - i ∧ ∃ F' G' acc ad, Ext K F1 G1 H1 F' G' H' ∧ H' D = some (.lst acc) ∧ F' D = none ∧ G' D = none ∧ RepL K F' ad acc ∧ acc.length ≤ i ∧ lcL g tt te sw (ds.drop i) G' fun ys G2 => Q3 (.lst (ad ++ ys)) G2,
    ⟨ds.length, rfl, F1, G1, [], [], (Ext.refl l1.cp).loose hD fD gD (fun x z => by rw [hD] at z; cases z) (fun z => by rw [hD] at z; cases z), upd_same, fD, gD, .nil, Nat.zero_le _, by rw [List.drop_zero]; exact q⟩, ?_⟩
  rintro i m H' ⟨rfl, F', G', acc, ad, l, eD, fD', gD', ra, hle, q⟩
  by_cases hlt : i < ds.length
  · obtain ⟨hgo, hy⟩ := wk.go i F' G' H' l.le l.cp hlt
    have nD : ∀ x, (HO.lst acc) ≠ .own x := fun x z => by cases z
    refine .inr ⟨hgo, fun H2 => ∃ F2 G2 acc2 ad2, Ext K F1 G1 H1 F2 G2 H2 ∧ H2 D = some (.lst acc2) ∧ F2 D = none ∧ G2 D = none ∧ RepL K F2 ad2 acc2 ∧ acc2.length ≤ i + 1 ∧ lcL g tt te sw (ds.drop (i + 1)) G2 fun ys G2 => Q3 (.lst (ad2 ++ ys)) G2,
      fun H2 hh => ⟨ds.length - (i + 1), by omega, rfl, hh⟩, fun x H2 y => ?_⟩
    obtain ⟨F2, l2, d, ed, rd⟩ := hy x H2 y
    have q := lcL_drop ed q
    refine tg F2 sw G' (wipe σ vs) H2 d x _ _ l2.cp (rsw.mono (l.le.trans l2.le)) rd q fun sd3 σ3 rs3 ew q3 => ⟨by rw [ew, wipe_wipe], ?_⟩
    have lz2 := l.trans l2
    refine ⟨sd3, F2, G', _, ⟨at_.ext.trans (l1.trans lz2), rs3⟩, q3, fun b F3 G3 H3 l3 q4 => ?_⟩
    have lz3 := lz2.trans l3
    obtain ⟨hD3, gD3, fD3⟩ := (l2.trans l3).st D _ eD gD' fD' nD
    cases b with
    | true =>
      refine iteT ⟨sd3, F3, G3, _, ⟨at_.ext.trans (l1.trans lz3), rs3.mono l3.le⟩, q4, fun yd yv F4 G4 H4 l4 r4 q5 => ?_⟩
      obtain ⟨hD4, gD4, fD4⟩ := l4.st D _ hD3 gD3 fD3 nD
      refine ⟨acc, hD4, by omega, F4, G4, acc ++ [yv], ad ++ [yd], (lz3.trans l4).loose hD fD4 gD4 (fun x z => by rw [hD4] at z; cases z) (fun z => by rw [hD4] at z; cases z), upd_same, fD4, gD4, ?_, ?_, ?_⟩
      · exact (ra.mono (l2.le.trans (l3.le.trans l4.le))).append (.one r4)
      · rw [List.length_append, List.length_singleton]; omega
      · have e : (fun ys G2 => Q3 (.lst (ad ++ [yd] ++ ys)) G2) = fun ys G2 => Q3 (.lst (ad ++ yd :: ys)) G2 := by
          funext ys G2
          rw [List.append_assoc]
          rfl
        rw [e]
        exact q5
    | false => exact iteF ⟨F3, G3, acc, ad, lz3, hD3, fD3, gD3, ra.mono (l2.le.trans l3.le), by omega, q4⟩
  · refine .inl ⟨wk.stop i F' G' H' l.le l.cp (by omega), ?_⟩
    rw [List.drop_eq_nil_of_le (by omega), lcL_nil] at q
    have q : Q3 (.lst (ad ++ [])) G' := q
    rw [List.append_nil] at q
    have x := (l.fix hD fD' gD' eD)
    exact k _ _ _ _ _ (l1.trans x) (.lst upd_same (ra.mono (Le.new fD'))) q
section
variable {X : Cx} {F0 : Pt}
theorem de_lc {elt tg iter : Expr} {ifs : List Expr} {scope : Scope} {pos : Pos} {w : TI3} {g2 : TG} {g : TG3} {tt : TT3} {te : TE3} (own : List (Str × Nat)) (hc : X.calm = true) (hN : X.N.Nodup) (tgo : TgtOk X.K (own.map (·.2)) g2 g) (hi : DI X F0 tg iter w) (ok : BlkOk X.N X.env.scope scope own)
    (hg : ∀ (s : Shared) (H : Hp) (C : Addr) (cl : List (Str × Addr)) (fp : List Addr), PG (X.blk s H scope (compEnvC scope cl C X.env) fp) tg g2) (ht : ∀ (s : Shared) (H : Hp) (C : Addr) (cl : List (Str × Addr)) (fp : List Addr), DTs (X.blk s H scope (compEnvC scope cl C X.env) fp) F0 ifs tt)
    (he : ∀ (s : Shared) (H : Hp) (C : Addr) (cl : List (Str × Addr)) (fp : List Addr), DE (X.blk s H scope (compEnvC scope cl C X.env) fp) F0 elt te) (hs : ∀ x, foldedSetIterable iter X.env x = pure x := by intro _; rfl) :
    DE X F0 (.ListComp elt [⟨tg, iter, ifs, 0⟩] scope pos) (dLc w g tt te (own.map (·.2))) := PE.imp (pe_lc (tt := lowT X.K F0 tt) (te := low X.K F0 te) hc hN hi ok hg ht he hs) fun _ _ _ h => low_lc tgo h
end
end L3
set_option Elab.async false
set_option linter.all false
set_option maxRecDepth 100000
set_option maxHeartbeats 4000000
namespace L3
open PySem PySem.Spec PyProof.Rows L2
structure Blt (mg : Str → Option Value) : Prop where
  len : mg "len" = none
  range : mg "range" = none
  isinstance : mg "isinstance" = none
  int : mg "int" = none
  str : mg "str" = none
  tuple : mg "tuple" = none
  list : mg "list" = none
  bool : mg "bool" = none
  dict : mg "dict" = none
  all : mg "all" = none
  any : mg "any" = none
  enumerate : mg "enumerate" = none
  zip : mg "zip" = none
  max : mg "max" = none
  min : mg "min" = none
  sum : mg "sum" = none
  abs : mg "abs" = none
  divmod : mg "divmod" = none
  repr : mg "repr" = none
  set : mg "set" = none
structure DefAt (K : PySem.W.Frag) (mg : Str → Option Value) (x : Str) (st : Stmt) (ps : List Str) : Prop where
  ex : ∃ (f : Addr) (fd : FuncData), Fun K x x st f fd ∧ mg x = some (.ref f) ∧ PySem.W.keepIn K (.ref f) = true ∧ Binds K fd ps []
structure DefAtQ (K : PySem.W.Frag) (mg : Str → Option Value) (x q : Str) (st : Stmt) (ps : List Str) : Prop where
  ex : ∃ (f : Addr) (fd : FuncData), Fun K q q st f fd ∧ mg x = some (.ref f) ∧ PySem.W.keepIn K (.ref f) = true ∧ Binds K fd ps []
def sp1 (f : D → Gp → DK → EK → Prop) : Sp3 := fun ds G Q E => match ds with
  | [a] => f a G Q E
  | _ => False
def sp2 (f : D → D → Gp → DK → EK → Prop) : Sp3 := fun ds G Q E => match ds with
  | [a, b] => f a b G Q E
  | _ => False
def sp3 (f : D → D → D → Gp → DK → EK → Prop) : Sp3 := fun ds G Q E => match ds with
  | [a, b, c] => f a b c G Q E
  | _ => False
section
variable {P : Program} {w : World} {K : PySem.W.Frag} {mg : Str → Option Value} {base : Heap} {x : Str} {st : Stmt} {N : List Str} {k : Nat}
theorem cal3 {ps : List Str} {sp : Sp3} (F : DefAt K mg x st ps) (S : FnScope N ps (defScope st)) (hlen : ps.length ≤ N.length) (len : ∀ ds G Q E, sp ds G Q E → ds.length = ps.length)
    (hbody : ∀ (f : Addr) (cdv : Value) (A : Around) (outer : List Env) (s : Shared) (H : Hp) (E : XK) (o : Pt) (E3 : EK), Room k (A.deeper (envOfC x (defScope st) s.heap.objs.size f cdv)) →
      Takes (cxOf (L2.CX P w) P w K mg base N x (defScope st) f cdv A outer s H E) (lowW K o fun C fs _ G => E3 C fs G) →
      PassesOwn (model P w) (A.deeper (envOfC x (defScope st) s.heap.objs.size f cdv)) (envOfC x (defScope st) s.heap.objs.size f cdv) (cxOf (L2.CX P w) P w K mg base N x (defScope st) f cdv A outer s H E).xe →
      ∃ t : TS3, DSs (cxOf (L2.CX P w) P w K mg base N x (defScope st) f cdv A outer s H E) o (defBody st) t ∧
        ∀ ds G Q3, sp ds G Q3 E3 → t { nx := fun _ G' => Ret K Q3 .non G', rt := Ret K Q3 } (start3 N.length ds) G) : Cal3 P w K mg base (k + 1) x sp [] := by
  obtain ⟨f, fd, hF, hm, hk, hb⟩ := F.ex
  exact ⟨f, fd, ps, [], [], ok3 hF S hlen len fun cdv A outer s H E o E3 hr tk => hbody f cdv A outer s H E o E3 hr tk (passes_of rfl), hm, hk, hb, .nil, fun _ => .nil⟩
theorem len1 {f : D → Gp → DK → EK → Prop} : ∀ ds G Q E, sp1 f ds G Q E → ds.length = 1 := fun ds G Q E h => by unfold sp1 at h; split at h <;> first | rfl | exact h.elim
theorem len2 {f : D → D → Gp → DK → EK → Prop} : ∀ ds G Q E, sp2 f ds G Q E → ds.length = 2 := fun ds G Q E h => by unfold sp2 at h; split at h <;> first | rfl | exact h.elim
theorem len3 {f : D → D → D → Gp → DK → EK → Prop} : ∀ ds G Q E, sp3 f ds G Q E → ds.length = 3 := fun ds G Q E h => by unfold sp3 at h; split at h <;> first | rfl | exact h.elim
theorem in1 {f : D → Gp → DK → EK → Prop} {ds G Q E} (h : sp1 f ds G Q E) : ∃ a, ds = [a] ∧ f a G Q E := by unfold sp1 at h; split at h <;> first | exact ⟨_, rfl, h⟩ | exact h.elim
theorem in2 {f : D → D → Gp → DK → EK → Prop} {ds G Q E} (h : sp2 f ds G Q E) : ∃ a b, ds = [a, b] ∧ f a b G Q E := by unfold sp2 at h; split at h <;> first | exact ⟨_, _, rfl, h⟩ | exact h.elim
theorem in3 {f : D → D → D → Gp → DK → EK → Prop} {ds G Q E} (h : sp3 f ds G Q E) : ∃ a b c, ds = [a, b, c] ∧ f a b c G Q E := by unfold sp3 at h; split at h <;> first | exact ⟨_, _, _, rfl, h⟩ | exact h.elim
end
section
variable {X : Cx} {F0 : Pt} {a b c e o : Expr} {ta tb tc te : TE3} {pos : Pos} {tg : Expr}
def wA (te : TE3) : TI3 := fun sd G R => te sd G fun d G1 => match d with
  | .lst ds => R ds G1
  | .scr ds => R ds G1
  | .tup ds => R ds G1
  | .str s => R (signs s) G1
  | _ => False
theorem PI.or {tg e : Expr} {t u : TI} (h : PI X tg e t) (h' : PI X tg e u) : PI X tg e fun σ H R => t σ H R ∨ u σ H R := ⟨fun pins s σ H R I q => q.elim (h.run pins s σ H R I) (h'.run pins s σ H R I)⟩
end
end L3
set_option Elab.async false
set_option linter.all false
set_option maxRecDepth 100000
set_option maxHeartbeats 4000000
namespace L3
open PySem PySem.Spec PyProof.Rows L2 PySem.Calls
section
variable {prog : Program} {w : World} {A : Around} {E : Value → Shared → Prop} {s : Shared}
end
section
variable {X : Cx}
end
section
variable {X : Cx} {F0 : Pt} {a b c e o : Expr} {te : TE3} {pos : Pos} {tg : Expr}
def iAny (K : PySem.W.Frag) (te : TE) : TI := fun σ H R => te σ H fun x H1 => (∃ a, x = .ref a ∧ (∃ xs, SqL K H1 a xs) ∧ R (Itl K a) H1) ∨ (∃ a, x = .ref a ∧ (∃ xs, SqT K H1 a xs) ∧ R (Itt K a) H1) ∨ ∃ y, x = .str y ∧ R (Its y) H1
theorem pi_any {te : TE} (he : PE X e te) : PI X tg e (iAny X.K te) := by
  refine ⟨fun pins s σ H R I h => ?_⟩
  refine thn (he.run pins s σ H _ I h) fun v s1 ⟨x, H1, I1, r1, q1⟩ => ?_
  rcases q1 with ⟨a, e, ⟨xs, hq⟩, q⟩ | ⟨a, e, ⟨xs, hq⟩, q⟩ | ⟨y, e, q⟩
  · subst e
    cases r1
    obtain ⟨its, rv, p, hz⟩ := I1.list hq
    refine wpAny_pyIter_list p.isList ?_
    refine ⟨s1.heap.objs.size, [s1.heap.objs.size], _, _, H1, rfl, I1.kept (t' := s1.toks) fun b o e => Heap.get?_push_of_some _ e, turn_list a _, ⟨_, Heap.get?_push_size _ rfl, rfl, rfl⟩, fun b hb => ?_, q⟩
    have e : b = s1.heap.objs.size := by simpa using hb
    subst e
    exact I1.fpOk (Nat.le_refl _) (I1.hok.fresh (Nat.le_refl _))
  · subst e
    cases r1
    obtain ⟨its, rv, p, hz⟩ := I1.tuple hq
    refine wpAny_pyIter_tuple (show s1.heap.IsTuple a its.toArray from p) ?_
    refine ⟨s1.heap.objs.size, [s1.heap.objs.size], _, _, H1, rfl, I1.kept (t' := s1.toks) fun b o e => Heap.get?_push_of_some _ e, turn_tuple a _, ⟨_, Heap.get?_push_size _ rfl, rfl, rfl⟩, fun b hb => ?_, q⟩
    have e : b = s1.heap.objs.size := by simpa using hb
    subst e
    exact I1.fpOk (Nat.le_refl _) (I1.hok.fresh (Nat.le_refl _))
  · subst e
    obtain ⟨t, rfl⟩ := r1
    cases ha : y.cps.all (· < 128)
    · exact wpAny_pyIter_wide ha (pi_one (tk := s1.toks) I1 _ (turn_str _ y t "str_iterator" (.inr rfl)) ⟨_, Heap.get?_push_size _ rfl, rfl, rfl⟩ q)
    · exact wpAny_pyIter_ascii ha (pi_one (tk := s1.toks) I1 _ (turn_str _ y t "str_ascii_iterator" (.inl rfl)) ⟨_, Heap.get?_push_size _ rfl, rfl, rfl⟩ q)
theorem walks_str {K : PySem.W.Frag} {F : Hp} (s : Str) : Walks K F (Its s) (signs s) := by
  refine ⟨fun i F' G' H' l c hi => ?_, fun i F' G' H' l c hi => ?_⟩
  · have hi' : i < s.cps.size := by simpa [signs] using hi
    refine ⟨hi', fun x H2 ⟨eh, cc, e1, ex⟩ => ?_⟩
    subst eh ex
    refine ⟨F', Ext.refl c, _, ?_, .str _⟩
    unfold signs
    rw [List.getElem?_map, Array.getElem?_toList, e1]
    rfl
  · show s.cps.size ≤ i
    simpa [signs] using hi
theorem di_any (he : DE X F0 e te) : DI X F0 tg e (wA te) := PI.imp (pi_any he) fun σ H R ⟨sd, F, G, R3, at_, h, k⟩ => ⟨sd, F, G, _, at_, h, fun d v F1 G1 H1 l1 r1 q1 => by
  cases d <;> first | exact q1.elim | skip
  · cases r1
    exact .inr (.inr ⟨_, rfl, k _ _ _ _ _ l1 (walks_str _) q1⟩)
  · cases r1 with
    | tup s rl => exact .inr (.inl ⟨_, rfl, ⟨_, sqT_mono l1.cp.frz s⟩, k _ _ _ _ _ l1 (walks_tup (.inl (.inl s)) rl) q1⟩)
  · cases r1 with
    | lst s rl => exact .inl ⟨_, rfl, ⟨_, SqL.of (l1.cp.frz _ _ s)⟩, k _ _ _ _ _ l1 (walks_lst (SqL.of s) rl) q1⟩
  · cases r1 with
    | scr s rl => exact .inl ⟨_, rfl, ⟨_, sqL_mono l1.cp.frz s⟩, k _ _ _ _ _ l1 (walks_lst s rl) q1⟩⟩
end
section
variable {K : PySem.W.Frag}
end
section
variable {X : Cx} {F0 : Pt} {a b c e o : Expr} {te : TE3} {pos p tpos : Pos}
end
end L3
set_option Elab.async false
set_option linter.all false
set_option maxRecDepth 100000
set_option maxHeartbeats 4000000
namespace L3
open PySem PySem.Spec PyProof.Rows L2 PySem.Calls
section
variable {X : Cx} {K : PySem.W.Frag} {F0 : Pt} {a b c e o : Expr} {es rest : List Expr} {ta tb tc te : TE3} {t : TA3} {pos p : Pos} {x : Str}
inductive DJ (X : Cx) (F0 : Pt) : List Expr → List TE3 → Prop where
  | nil : DJ X F0 [] []
  | cons {e : Expr} {t : TE3} {es : List Expr} {ts : List TE3} (h : DE X F0 e t) (r : DJ X F0 es ts) : DJ X F0 (e :: es) (t :: ts)
theorem DJ.low : ∀ {es : List Expr} {ts : List TE3}, DJ X F0 es ts → PJ X es (ts.map (low X.K F0))
  | _, _, .nil => .nil
  | _, _, .cons h r => .cons h (DJ.low r)
end
structure FnG (P : Program) (w : World) (K : PySem.W.Frag) (mg : Str → Option Value) (base : Heap) (CX : CXT) (k : Nat) (f : Addr) (fd : FuncData) (ps : List Str) (sp : Sp) : Prop where
  len : ∀ vs H Q E, sp vs H Q E → vs.length = ps.length
  run : ∀ (A : Around) (outer : List Env) (s : Shared) (H : Hp) (args : Args) (us : List Value) (vs : List V) (Q : VK) (E : XK), A.guards = some [] → Room k A → Env0 P w K mg base A outer s H → BindsTo s fd args (ps.zip us) → Vals vs us → sp vs H Q E →
    codeAny (model P w) A (.call (.ref f) args) (CR CX outer P w H s Q E) s
theorem fnG_of {CX : CXT} {P : Program} {w : World} {K : PySem.W.Frag} {mg : Str → Option Value} {base : Heap} {k : Nat} {f : Addr} {name qual : Str} {params : Arguments} {body : List Stmt} {scope : Scope} {dV kV doc pm cdv ct oc : Value} {an od : Option Addr}
    {osl : Array (Option Value)} {N ps : List Str} {sp : Sp} (lk : K.lookup f = some ⟨oc, od, .func (PySem.W.fnOf name qual params body scope dV kV doc pm an cdv ct), osl⟩) (hcd : PySem.W.codeIn K cdv qual = true) (S : FnScope N ps scope)
    (len : ∀ vs H Q E, sp vs H Q E → vs.length = ps.length)
    (hbody : ∀ (A : Around) (outer : List Env) (s : Shared) (H : Hp) (vs : List V) (Q : VK) (E : XK), A.guards = some [] → Room k (A.deeper (envOfC qual scope s.heap.objs.size f cdv)) → sp vs H Q E →
      ∃ t, PSs (cxOf CX P w K mg base N qual scope f cdv A outer s H E) body t ∧ t { nx := fun _ H' => Q .non H', rt := Q } (L2.start N vs) H) :
    FnG P w K mg base CX (k + 1) f (PySem.W.fnOf name qual params body scope dV kV doc pm an cdv ct) ps sp := by
  refine ⟨len, fun A outer s H args us vs Q E hgu hr e0 hb r hsp => ?_⟩
  have hl := len _ _ _ _ hsp
  have KX : K.In s.heap := e0.mod.kin.keeps fun b o e => (e0.bs b o e).1
  have lim : s.heap.NoLimit := e0.mod.nolimit.keeps fun b o e => (e0.bs b o e).1
  have hkind : ∀ y ∈ ps.zip us, scope.names.lookup y.1 = some .local ∨ (scope.names.lookup y.1 = some .cell ∧ ((cellsFrom (s.heap.objs.size + 1) scope.names []).lookup y.1).isSome = true) := fun ⟨n, v⟩ hy =>
    (S.par n (List.of_mem_zip hy).1).imp id fun q => ⟨q, PySem.W.cellsFrom_some _ _ _ (.inl q)⟩
  refine codeAny_call_function hr.depth (KX _ _ lk) rfl S.co S.gen rfl (PySem.W.codeRec_of KX hcd) (hb _ _ _ _ (wpAny_newFunctionEnv_cells S.kind hkind fun env he s1 x => ?_))
  subst he
  obtain ⟨t, ht, hq⟩ := hbody A outer s H vs Q E hgu (hr.deeper _) hsp
  refine ⟨lim.keeps x.toInCall.keep, codeAny_func (wpAny_mono (ht.run [] s1 (L2.start N vs) H _ (inv_start S hr.hd e0 hl r x) hq) (fun fl s' hs => ?_) fun e s' hs => hs)⟩
  cases fl with
  | ret u => obtain ⟨v, σ', H', J, rv, q⟩ := hs; exact ⟨v, H', J.os, J.bare, J.base, J.hok, rv, q⟩
  | next => obtain ⟨σ', H', J, q⟩ := hs; exact ⟨V.non, H', J.os, J.bare, J.base, J.hok, rfl, q⟩
  | brk => obtain ⟨_, _, _, q⟩ := hs; exact q.elim
  | cont => obtain ⟨_, _, _, q⟩ := hs; exact q.elim
section
variable {X : Cx} {CX : CXT} {k : Nat} {f : Addr} {fd : FuncData} {ps : List Str} {sp : Sp} {dvs : List V} {ds : List Value} {E : L2.St → XK} {x : Str} {p pos : Pos} {e : Expr} {es : List Expr} {t : TA}
theorem pe_callG (F : FnG X.prog X.w X.K X.mg X.base CX k f fd ps sp) (hgu : X.A.guards = some []) (hr : Room k X.A) (hg : Gl X x) (hm : X.mg x = some (.ref f)) (hk : PySem.W.keepIn X.K (.ref f) = true) (hb : Binds X.K fd ps ds) (hd : Vals dvs ds) (hx : ∀ σ, PassesAt CX X σ (E σ))
    (ha : PA X (e :: es) t) (hdb : (x == ("__debug__" : Str)) = false := by decide) (he : starEach (e :: es) X.env = (false, eval e X.env) :: starEach es X.env := by rfl) (hpl : (backTo pos (starEach es X.env)).any (·.1) = false := by rfl) :
    PE X (.Call (.Name x p) (e :: es) [] pos) (tCallSD sp dvs E t) := by
  refine ⟨fun pins s σ H Q I h => wpAny_Call_Name_kw (ld_glob I hg hm ?_ hdb)⟩
  refine PySem.W.callWith_K (h₀ := X.base) I.ok.mod.kin hk (thn (ha.run pos pins s σ H _ I h) fun us s1 ⟨vs, H1, I1, r, q⟩ => ⟨I1.kIn, ?_⟩) he hpl
  have r2 : Vals (vs ++ dvs) (us ++ ds) := r.append hd
  have hl : (us ++ ds).length = ps.length := r2.length.symm.trans (F.len _ _ _ _ q)
  refine wpAny_call (codeAny_mono (F.run X.A X.stack s1 H1 ⟨us, []⟩ (us ++ ds) (vs ++ dvs) Q (E σ) hgu hr I1.env0 (hb s1 us I1.kIn hl) r2 q) fun r s' hq => ?_)
  cases r with
  | error e => exact hx σ pins H1 s1 e s' I1 hq
  | ok fl =>
    cases fl with
    | ret u => exact I1.after hq
    | next => exact hq.elim
    | brk => exact hq.elim
    | cont => exact hq.elim
end
structure Cal3G (P : Program) (w : World) (K : PySem.W.Frag) (mg : Str → Option Value) (base : Heap) (k : Nat) (x : Str) (sp : Sp3) (dds : List D) : Prop where
  ex : ∃ (f : Addr) (fd : FuncData) (ps : List Str) (ds : List Value) (dvs : List V), FnG P w K mg base (L2.CX P w) k f fd ps (dn K sp) ∧ mg x = some (.ref f) ∧ PySem.W.keepIn K (.ref f) = true ∧ Binds K fd ps ds ∧ Vals dvs ds ∧ ∀ F, RepL K F dds dvs
section
variable {X : Cx} {F0 : Pt} {e : Expr} {es : List Expr} {t : TA3} {x : Str} {p pos : Pos} {k j : Nat} {sp : Sp3} {dds : List D} {W : WK}
theorem de_callG (c : Cal3G X.prog X.w X.K X.mg X.base k x sp dds) (hgu : X.A.guards = some []) (hr : Room j X.A) (tk : Takes X (lowW X.K F0 W)) (ha : DA X F0 (e :: es) t) (hk : k ≤ j := by decide) (hg : Gl X x := by rfl)
    (hdb : (x == ("__debug__" : Str)) = false := by decide) (he : starEach (e :: es) X.env = (false, eval e X.env) :: starEach es X.env := by rfl) (hpl : (backTo pos (starEach es X.env)).any (·.1) = false := by rfl) :
    DE X F0 (.Call (.Name x p) (e :: es) [] pos) (dCall sp dds W t) := by
  obtain ⟨f, fd, ps, ds, dvs, F, m, kp, b, vd, rd⟩ := c.ex
  refine PE.imp (pe_callG (E := fun σ cls d H => lowW X.K F0 W cls d σ H) F hgu (hr.mono hk) hg m kp b vd (fun σ => passAt tk σ) ha hdb he hpl) fun σ H Q ⟨sd, F, G, Q3, at_, h, k⟩ => ?_
  exact ⟨sd, F, G, _, at_, h, fun ds vs F1 G1 H1 l1 r1 q1 => ⟨ds ++ dds, F1, G1, Q3, _, l1.cp, r1.append (rd F1), q1, k.mono l1, low_w (at_.step l1)⟩⟩
end
section
variable {P : Program} {w : World} {K : PySem.W.Frag} {mg : Str → Option Value} {base : Heap}
theorem ok3G {x qual : Str} {st : Stmt} {f : Addr} {fd : FuncData} {N ps : List Str} {k : Nat} {sp : Sp3} (F : Fun K x qual st f fd) (S : FnScope N ps (defScope st)) (hlen : ps.length ≤ N.length) (len : ∀ ds G Q E, sp ds G Q E → ds.length = ps.length)
    (hbody : ∀ (cdv : Value) (A : Around) (outer : List Env) (s : Shared) (H : Hp) (E : XK) (o : Pt) (E3 : EK), A.guards = some [] → Room k (A.deeper (envOfC qual (defScope st) s.heap.objs.size f cdv)) →
      Takes (cxOf (L2.CX P w) P w K mg base N qual (defScope st) f cdv A outer s H E) (lowW K o fun C fs _ G => E3 C fs G) →
      ∃ t : TS3, DSs (cxOf (L2.CX P w) P w K mg base N qual (defScope st) f cdv A outer s H E) o (defBody st) t ∧
        ∀ ds G Q3, sp ds G Q3 E3 → t { nx := fun _ G' => Ret K Q3 .non G', rt := Ret K Q3 } (start3 N.length ds) G) : FnG P w K mg base (L2.CX P w) (k + 1) f fd ps (dn K sp) := by
  obtain ⟨oc, od, kV, doc, pm, an, cdv, ct, osl, rfl, lk, hcd⟩ := F.ex
  refine fnG_of lk hcd S (fun vs H Q E ⟨ds, F, G, Q3, E3, _, r, h, _⟩ => by rw [← r.length]; exact len _ _ _ _ h) fun A outer s H vs Q E hgu hr h => ?_
  obtain ⟨ds, F, G, Q3, E3, c, r, h, k1, k2⟩ := h
  have tk : Takes (cxOf (L2.CX P w) P w K mg base N qual (defScope st) f cdv A outer s H E) (lowW K ⟨F, G, H⟩ fun C fs _ G => E3 C fs G) := by
    refine Takes.imp (takes_of (E := E) rfl rfl rfl rfl) fun cls d σ H' ⟨sd, F', G', C, fs, at_, e, xr, q⟩ => ?_
    subst e
    exact k2 C fs d F' G' H' at_.ext xr q
  obtain ⟨t, ht, hq⟩ := hbody cdv A outer s H E ⟨F, G, H⟩ E3 hgu hr tk
  refine ⟨_, ht, start3 N.length ds, F, G, _, ⟨Ext.refl c, repS_start r (by rw [len _ _ _ _ h]; exact hlen)⟩, hq ds G Q3 h, ?_⟩
  have kr : QR K F G H (Ret K Q3) Q := fun d v F' G' H' l rv ⟨d', G2, g, q⟩ => by
    obtain ⟨F2, l2, r2⟩ := g F' H' v l.cp rv
    exact k1 d' v F2 G2 H' (l.trans l2) r2 q
  exact ⟨fun sd σ F' G' H' l _ q => kr _ _ _ _ _ l .non q, kr, fun _ _ _ _ _ _ _ q => q.elim, fun _ _ _ _ _ _ _ q => q.elim⟩
theorem cal3G {x : Str} {st : Stmt} {N : List Str} {k : Nat} {ps : List Str} {sp : Sp3} (F : DefAt K mg x st ps) (S : FnScope N ps (defScope st)) (hlen : ps.length ≤ N.length) (len : ∀ ds G Q E, sp ds G Q E → ds.length = ps.length)
    (hbody : ∀ (f : Addr) (cdv : Value) (A : Around) (outer : List Env) (s : Shared) (H : Hp) (E : XK) (o : Pt) (E3 : EK), A.guards = some [] → Room k (A.deeper (envOfC x (defScope st) s.heap.objs.size f cdv)) →
      Takes (cxOf (L2.CX P w) P w K mg base N x (defScope st) f cdv A outer s H E) (lowW K o fun C fs _ G => E3 C fs G) →
      PassesOwn (model P w) (A.deeper (envOfC x (defScope st) s.heap.objs.size f cdv)) (envOfC x (defScope st) s.heap.objs.size f cdv) (cxOf (L2.CX P w) P w K mg base N x (defScope st) f cdv A outer s H E).xe →
      ∃ t : TS3, DSs (cxOf (L2.CX P w) P w K mg base N x (defScope st) f cdv A outer s H E) o (defBody st) t ∧
        ∀ ds G Q3, sp ds G Q3 E3 → t { nx := fun _ G' => Ret K Q3 .non G', rt := Ret K Q3 } (start3 N.length ds) G) : Cal3G P w K mg base (k + 1) x sp [] := by
  obtain ⟨f, fd, hF, hm, hk, hb⟩ := F.ex
  exact ⟨f, fd, ps, [], [], ok3G hF S hlen len fun cdv A outer s H E o E3 hgu hr tk => hbody f cdv A outer s H E o E3 hgu hr tk (passes_of rfl), hm, hk, hb, .nil, fun _ => .nil⟩
end
end L3
set_option Elab.async false
set_option linter.all false
set_option maxRecDepth 100000
set_option maxHeartbeats 4000000
namespace L3
open PySem PySem.Spec PyProof.Rows L2 PySem.Calls
section
variable {K : PySem.W.Frag} {F F' H H' : Hp} {G : Gp} {p C dx : Addr} {ds : List D}
theorem RepO.notX {o : DO} (q : RepO K F H p o) : (∀ x, H p ≠ some (.own x)) ∧ H p ≠ some (.xd []) := by
  cases o with
  | lst ds => obtain ⟨vs, z, _⟩ := q; exact ⟨fun x e => (by rw [z] at e; cases e), fun e => (by rw [z] at e; cases e)⟩
  | lsts f => obtain ⟨ds, vs, _, z, _⟩ := q; exact ⟨fun x e => (by rw [z] at e; cases e), fun e => (by rw [z] at e; cases e)⟩
  | dic kvs => obtain ⟨ws, z, _⟩ := q; exact ⟨fun x e => (by rw [z] at e; cases e), fun e => (by rw [z] at e; cases e)⟩
  | dit kvs => obtain ⟨ws, z, _⟩ := q; exact ⟨fun x e => (by rw [z] at e; cases e), fun e => (by rw [z] at e; cases e)⟩
  | obj C dx fs => obtain ⟨ws, z, _⟩ := q; exact ⟨fun x e => (by rw [z] at e; cases e), fun e => (by rw [z] at e; cases e)⟩
  | tab f => obtain ⟨_, ps, z, _⟩ := q; exact ⟨fun x e => (by rw [z] at e; cases e), fun e => (by rw [z] at e; cases e)⟩
  | ext φ => have z : H p = some (.ext φ) := q; exact ⟨fun x e => (by rw [z] at e; cases e), fun e => (by rw [z] at e; cases e)⟩
  | exc C fs => obtain ⟨dx, ws, z, _⟩ := q; exact ⟨fun x e => (by rw [z] at e; unfold exo at e; cases e), fun e => (by rw [z] at e; unfold exo at e; cases e)⟩
  | sl C dx ds =>
    obtain ⟨_, _, vs, _, z | z⟩ := q
    · exact ⟨fun x e => (by rw [z.2.1] at e; cases e), fun e => (by rw [z.2.1] at e; cases e)⟩
    · exact ⟨fun x e => (by rw [z.1] at e; unfold SlX.SlO at e; cases e), fun e => (by rw [z.1] at e; exact SlX.slO_not (Option.some.inj e))⟩
def putO (i : Nat) (y : D) (os : List (Option D)) : List (Option D) := (os ++ List.replicate (i + 1 - os.length) none).set i (some y)
theorem RepS.put {os : List (Option D)} {ws : L2.St} {y : D} {v : V} (h : RepS K F os ws) (r : Rep K F y v) (i : Nat) : RepS K F (putO i y os) (SlX.putS i v ws) := by
  unfold putO SlX.putS
  rw [← h.len]
  refine RepS.set ⟨by simp [h.len], fun j d e => ?_⟩ i r
  by_cases hj : j < os.length
  · rw [List.getElem?_append_left hj] at e
    rw [List.getElem?_append_left (by rw [← h.len]; exact hj)]
    exact h.at_ j d e
  · rw [List.getElem?_append_right (Nat.le_of_not_lt hj), List.getElem?_replicate] at e
    split at e <;> cases e
theorem Ext.slot {os : List (Option D)} {y : D} {v : V} (i : Nat) (c : Cp K F G H) (hG : G p = some (.sl C dx os)) (r : Rep K F y v) :
    ∃ ws : L2.St, SlX.Slt H p C dx ws ∧ Ext K F G H F (gupd G p (.sl C dx (putO i y os))) (SlX.slH H p C dx (SlX.putS i v ws)) := by
  obtain ⟨hF, hx, hne, ws, rl, st⟩ := c.own p _ hG
  have hp : ∀ u, H p = some u → u ≠ .xd [] := fun u e z => (c.own p _ hG).2.notX.2 (by rw [e, z])
  have hp2 : H p ≠ none := by
    rcases st with ⟨_, z, _⟩ | ⟨z, _⟩ <;> · rw [z]; simp
  have hdx : H dx = some (.own p) ∨ H dx = some (.xd []) := by
    rcases st with ⟨_, _, z⟩ | ⟨_, z⟩
    · exact .inl z
    · exact .inr z
  refine ⟨ws, ?_, ?_⟩
  · rcases st with ⟨e, z, _⟩ | ⟨z, z2⟩
    · subst e
      have := rl.len
      cases ws with
      | nil => exact .inl ⟨z, rfl⟩
      | cons w ws => cases this
    · exact .inr ⟨z, z2⟩
  · refine ⟨Le.refl _, fun a o e g f n => ?_, ⟨fun a o e => ?_, fun q o e => ?_⟩⟩
    · have ha : a ≠ p := fun z => by rw [z, hG] at g; cases g
      refine ⟨?_, by rw [gupd_ne ha]; exact g, f⟩
      by_cases hd : a = dx
      · subst hd
        rcases hdx with z | z
        · rw [z] at e; cases e; exact absurd rfl (n p)
        · rw [z] at e; cases e
          unfold SlX.slH
          rw [upd_ne ha, upd_same]
      · rw [SlX.slH_ne ha hd]; exact e
    · have ha : a ≠ p := fun z => by rw [z, hF] at e; cases e
      have eh := c.frz a o e
      by_cases hd : a = dx
      · subst hd
        have := hx o e
        subst this
        unfold SlX.slH
        rw [upd_ne ha, upd_same]
      · rw [SlX.slH_ne ha hd]; exact eh
    · by_cases hq : q = p
      · subst hq
        rw [gupd_same] at e
        cases e
        refine ⟨hF, hx, hne, _, rl.put r i, .inr ⟨?_, ?_⟩⟩
        · unfold SlX.slH; rw [upd_same]
        · unfold SlX.slH; rw [upd_ne hne, upd_same]
      · rw [gupd_ne hq] at e
        obtain ⟨f, r2⟩ := c.own q o e
        have nq : q ≠ dx := fun z => by
          subst z
          rcases hdx with z | z
          · exact r2.notX.1 _ z
          · exact r2.notX.2 z
        refine ⟨f, r2.keep (Le.refl _) (SlX.slH_ne hq nq) fun C' dx' ds' eo => ?_⟩
        subst eo
        obtain ⟨h1, h2, vs', _, zz⟩ := r2
        have hdq : H dx' = some (.own q) ∨ H dx' = some (.xd []) := by
          rcases zz with ⟨_, _, z⟩ | ⟨_, z⟩
          · exact .inl z
          · exact .inr z
        have np : dx' ≠ p := fun z => by
          subst z
          rcases hdq with z | z
          · exact (c.own _ _ hG).2.notX.1 _ z
          · exact (c.own _ _ hG).2.notX.2 z
        refine ⟨?_, h1⟩
        by_cases hd : dx' = dx
        · subst hd
          unfold SlX.slH
          rw [upd_ne np, upd_same]
          rcases hdx with z | z
          · rcases hdq with z' | z'
            · rw [z] at z'; cases z'; exact absurd rfl hq
            · rw [z] at z'; cases z'
          · exact z.symm
        · exact SlX.slH_ne np hd
theorem Ext.drop {o : DO} (c : Cp K F G H) (h : G p = some o) : Ext K F G H F (gdel G p) H := by
  have c1 : Cp K F (gdel G p) H := c.sub fun q o e => by
    unfold gdel at e
    split at e
    · cases e
    · exact ⟨o, e, .refl o⟩
  exact ⟨Le.refl _, fun a o e g f _ => ⟨e, by unfold gdel; split <;> first | rfl | exact g, f⟩, c1⟩
end
end L3
set_option Elab.async false
set_option linter.all false
set_option maxRecDepth 100000
set_option maxHeartbeats 4000000
namespace L3
open PySem PySem.Spec PyProof.Rows L2 PySem.Calls
structure Sl1 (K : PySem.W.Frag) (C : Addr) (f : Str) (i : Nat) : Prop where
  c : SlX.SCls K C
  s : ∃ p, SlX.Slot1 K C f p i
section
variable {X : Cx} {K : PySem.W.Frag} {F0 : Pt} {a b e o value : Expr} {es rest : List Expr} {ta tb te tv : TE3} {t : TA3} {pos pos' p apos : Pos} {x f m : Str} {C : Addr} {i : Nat}
structure Prop3 (P : Program) (w : World) (K : PySem.W.Frag) (mg : Str → Option Value) (base : Heap) (k : Nat) (C : Addr) (f : Str) (sp : Sp3) : Prop where
  c : SlX.SCls K C
  ex : ∃ p g, PySem.W.findIn K (.ref C) f = some (some (.ref p)) ∧ PySem.W.specialIn K (.ref p) "__get__" = some (some (.builtin "property.__get__")) ∧ PySem.W.takesIn K (.ref p) = some true ∧ (∃ rest, PySem.W.recIn K p "property" = some (.ref g :: rest)) ∧ FnR P w K mg base (L2.CX P w) k g (dn K sp)
def NoE : EK := fun _ _ _ => False
theorem cx_none {P : Program} {w : World} {outer : List Env} {H : Hp} {s : Shared} {e : Value} {s' : Shared} (h : L2.CX P w outer H s (fun _ _ _ => False) e s') : False := by
  obtain ⟨_, _, _, _, _, _, _, _, _, _, _, _, z⟩ := h
  exact z
theorem qx_none {F H : Hp} {G : Gp} : QX K F G H NoE (fun _ _ _ => False) := fun _ _ _ _ _ _ _ _ h => h.elim
structure Met3 (P : Program) (w : World) (K : PySem.W.Frag) (mg : Str → Option Value) (base : Heap) (k : Nat) (C : Addr) (m : Str) (sp : Sp3) (dds : List D) : Prop where
  c : SlX.SCls K C
  ex : ∃ (g : Addr) (fd : FuncData) (ps : List Str) (ds : List Value) (dvs : List V), Meth K C m g ∧ FnOk P w K mg base (L2.CX P w) k g fd ps (dn K sp) ∧ Binds K fd ps ds ∧ Vals dvs ds ∧ ∀ F, RepL K F dds dvs
end
end L3
set_option Elab.async false
set_option linter.all false
set_option maxRecDepth 100000
set_option maxHeartbeats 4000000
namespace L3
open PySem PySem.Spec PyProof.Rows L2 PySem.Calls
section
variable {P : Program} {w : World} {K : PySem.W.Frag} {mg : Str → Option Value} {base : Heap} {x qual : Str} {st : Stmt} {N ps : List Str} {k : Nat} {sp : Sp3} {f g : Addr} {fd : FuncData} {C : Addr}
structure PropAt (K : PySem.W.Frag) (C : Addr) (f qual : Str) (st : Stmt) : Prop where
  ex : ∃ p g fd, PySem.W.findIn K (.ref C) f = some (some (.ref p)) ∧ PySem.W.specialIn K (.ref p) "__get__" = some (some (.builtin "property.__get__")) ∧ PySem.W.takesIn K (.ref p) = some true ∧ (∃ rest, PySem.W.recIn K p "property" = some (.ref g :: rest)) ∧ Fun K f qual st g fd ∧ Binds K fd ["self"] []
structure MethAt (K : PySem.W.Frag) (C : Addr) (m qual : Str) (st : Stmt) (ps : List Str) : Prop where
  ex : ∃ g fd, Meth K C m g ∧ Fun K m qual st g fd ∧ Binds K fd ps []
structure MakeAt (K : PySem.W.Frag) (mg : Str → Option Value) (x : Str) (C : Addr) (qual : Str) (st : Stmt) : Prop where
  ex : ∃ f fd, Mk K C f ∧ Fun K "__init__" qual st f fd ∧ mg x = some (.ref C)
structure Mak3 (P : Program) (w : World) (K : PySem.W.Frag) (mg : Str → Option Value) (base : Heap) (k : Nat) (x : Str) (C : Addr) (qual : Str) (st : Stmt) (ps : List Str) (sp : Sp3) : Prop where
  ex : ∃ f fd, Mk K C f ∧ Fun K "__init__" qual st f fd ∧ mg x = some (.ref C) ∧ FnOk P w K mg base (L2.CX P w) k f fd ps (dn K sp)
structure CalF (P : Program) (w : World) (K : PySem.W.Frag) (mg : Str → Option Value) (base : Heap) (k : Nat) (x : Str) (st : Stmt) (ps : List Str) (sp : Sp3) : Prop where
  ex : ∃ f fd, Fun K x x st f fd ∧ mg x = some (.ref f) ∧ PySem.W.keepIn K (.ref f) = true ∧ Binds K fd ps [] ∧ FnOk P w K mg base (L2.CX P w) k f fd ps (dn K sp)
end
def pk {α : Type} : List Nat → List α → List α
  | [], _ => []
  | i :: r, xs => match xs[i]? with
    | some x => x :: pk r xs
    | none => pk r xs
theorem pk_vals {vs : List V} {us : List Value} (r : Vals vs us) : ∀ l : List Nat, Vals (pk l vs) (pk l us)
  | [] => .nil
  | i :: l => by
    unfold pk
    have hl := r.length
    cases e : vs[i]? with
    | some v =>
      obtain ⟨u, e2, ru⟩ := r.get e
      rw [e2]
      exact .cons ru (pk_vals r l)
    | none =>
      have e2 : us[i]? = none := by
        rw [List.getElem?_eq_none_iff] at e ⊢
        omega
      rw [e2]
      exact pk_vals r l
theorem kbn {K : PySem.W.Frag} {x qual : Str} {st : Stmt} {f : Addr} {fd : FuncData} {ps ks : List Str} {n : Nat} {perm : List Nat} (F : Fun K x qual st f fd)
    (h : ∀ (kV doc pm : Value) (an : Option Addr) (cdv ct : Value) (us ws : List Value), us.length = n → ws.length = ks.length → bindArgs (PySem.W.fnOf x qual (defArgs st) (defBody st) (defScope st) .none kV doc pm an cdv ct) ⟨us, ks.zip ws⟩ = pure (ps.zip (pk perm (us ++ ws)))) :
    KBn K fd ps n ks (fun us ws => pk perm (us ++ ws)) (fun vs zs => pk perm (vs ++ zs)) := by
  obtain ⟨oc, od, kV, doc, pm, an, cdv, ct, osl, rfl, lk, hcd⟩ := F.ex
  exact ⟨fun s us ws X l1 l2 => .of_eq (h kV doc pm an cdv ct us ws l1 l2), fun r1 r2 => pk_vals (r1.append r2) perm⟩
def DK3 (X : Cx) (F0 : Pt) (kws : List Keyword) (t : TA3) : Prop := PK X kws (lowA X.K F0 t)
theorem PK.imp {X : Cx} {kws : List Keyword} {te t : TA} (h : PK X kws te) (i : ∀ σ H Q, t σ H Q → te σ H Q) : PK X kws t := ⟨fun pos pins s σ H Q I q => h.run pos pins s σ H Q I (i σ H Q q)⟩
section
variable {X : Cx} {K : PySem.W.Frag} {F0 : Pt} {a b e o value : Expr} {es rest : List Expr} {ta tb te tv : TE3} {t tk : TA3} {pos pos' p apos kpos : Pos} {x f m : Str} {C : Addr} {i : Nat} {kws : List Keyword} {nm : Option Str}
theorem dk_nil : DK3 X F0 [] dNil := PK.imp pk_nil fun σ H Q ⟨sd, F, G, Q3, at_, h, k⟩ => k [] [] F G H (Ext.refl at_.cp) .nil h
theorem dk_cons (ha : DE X F0 e te) (hr : DK3 X F0 kws t) : DK3 X F0 (⟨nm, e, kpos⟩ :: kws) (dCons te t) :=
  PK.imp (pk_cons ha hr) fun σ H Q ⟨sd, F, G, Q3, at_, h, k⟩ => ⟨sd, F, G, _, at_, h, fun d v F1 G1 H1 l1 r1 q1 => ⟨sd, F1, G1, _, at_.step l1, q1, fun ds vs F2 G2 H2 l2 r2 q2 => k _ _ _ _ _ (l1.trans l2) (.cons (r1.mono l2.le) r2) q2⟩⟩
end
section
variable {X : Cx} {CX : CXT} {k n : Nat} {f C : Addr} {fd : FuncData} {ps ks : List Str} {sp : Sp} {E : L2.St → XK} {x : Str} {p pos : Pos} {e : Expr} {es : List Expr} {kws : List Keyword} {t tk : TA} {g : List Value → List Value → List Value} {gV : List V → List V → List V}
end
section
variable {X : Cx} {K : PySem.W.Frag} {F0 : Pt} {a b e o value : Expr} {es rest : List Expr} {ta tb te tv : TE3} {t tw : TA3} {pos pos' p apos kpos : Pos} {x f m : Str} {C : Addr} {i k j n : Nat} {kws : List Keyword} {nm : Option Str} {qual : Str} {st : Stmt} {ps : List Str} {sp : Sp3} {W : WK}
end
end L3
set_option Elab.async false
set_option linter.all false
set_option maxRecDepth 100000
set_option maxHeartbeats 4000000
namespace L3
open PySem PySem.Spec PyProof.Rows L2 PySem.Calls
section
variable {X : Cx} {F0 : Pt}
end
mutual
/-- lists that were filled, frozen, also one in another -/
inductive Frz : Gp → D → D → Gp → Prop
  | refl (G : Gp) (d : D) : Frz G d d G
  | lst {G G' : Gp} {p : Addr} {ds es : List D} (h : G p = some (.lst ds)) (r : FrzL (gdel G p) ds es G') : Frz G (.ref p) (.lst es) G'
inductive FrzL : Gp → List D → List D → Gp → Prop
  | nil (G : Gp) : FrzL G [] [] G
  | cons {G G1 G2 : Gp} {d e : D} {ds es : List D} (h : Frz G d e G1) (r : FrzL G1 ds es G2) : FrzL G (d :: ds) (e :: es) G2
end
section
variable {K : PySem.W.Frag}
mutual
theorem Frz.run : ∀ {G G' : Gp} {d d' : D}, Frz G d d' G' → ∀ {F H : Hp} {v : V}, Cp K F G H → Rep K F d v → ∃ F', Ext K F G H F' G' H ∧ Rep K F' d' v
  | _, _, _, _, .refl G d, F, H, v, c, r => ⟨F, Ext.refl c, r⟩
  | _, _, _, _, .lst (G := G0) (p := p) h q, F, H, v, c, r => by
    cases r
    obtain ⟨hF, vs, hp, rl⟩ := c.own _ _ h
    have x0 := Ext.drop c h
    obtain ⟨F1, x1, r1⟩ := FrzL.run q x0.cp rl
    have gp : gdel G0 p p = none := by unfold gdel; rw [if_pos rfl]
    obtain ⟨h1, g1, f1⟩ := x1.st p _ hp gp hF (fun x z => by cases z)
    have x := x0.trans x1
    have l : Le F1 (upd F1 p (.lst vs)) := Le.new f1
    refine ⟨upd F1 p (.lst vs), ⟨x.le.trans l, fun a o e g f n => ?_, ⟨fun a o e => ?_, fun q o e => ?_⟩⟩, .lst upd_same (r1.mono l)⟩
    · have ha : a ≠ p := fun z => by rw [z, h] at g; cases g
      obtain ⟨e2, g2, f2⟩ := x.st a o e g f n
      exact ⟨e2, g2, by rw [upd_ne ha]; exact f2⟩
    · by_cases ha : a = p
      · subst ha; rw [upd_same] at e; cases e; exact hp
      · rw [upd_ne ha] at e; exact x.cp.frz a o e
    · have hq : q ≠ p := fun z => by rw [z, g1] at e; cases e
      obtain ⟨f, r2⟩ := x.cp.own q o e
      refine ⟨by rw [upd_ne hq]; exact f, r2.keep l rfl fun C dx ds' eo => ?_⟩
      subst eo
      obtain ⟨h1, _, vs', _, z⟩ := r2
      have hdx : dx ≠ p := by
        rintro rfl
        rcases z with ⟨_, _, z⟩ | ⟨_, z⟩ <;> · rw [hp] at z; cases z
      exact ⟨rfl, h1.upd hdx⟩
theorem FrzL.run : ∀ {G G' : Gp} {d d' : List D}, FrzL G d d' G' → ∀ {F H : Hp} {v : List V}, Cp K F G H → RepL K F d v → ∃ F', Ext K F G H F' G' H ∧ RepL K F' d' v
  | _, _, _, _, .nil G, F, H, v, c, r => ⟨F, Ext.refl c, r⟩
  | _, _, _, _, .cons h q, F, H, v, c, r => by
    cases r with
    | cons r rr =>
      obtain ⟨F1, x1, r1⟩ := Frz.run h c r
      obtain ⟨F2, x2, r2⟩ := FrzL.run q x1.cp (rr.mono x1.le)
      exact ⟨F2, x1.trans x2, .cons (r1.mono x2.le) r2⟩
end
end
end L3
set_option Elab.async false
set_option linter.all false
set_option maxRecDepth 100000
set_option maxHeartbeats 4000000
namespace L3
open PySem PySem.Spec PyProof.Rows L2 PySem.Calls
structure IsC (K : PySem.W.Frag) (C : Addr) : Prop where
  c : SlX.SCls K C
  i : SlX.SIsi K C
  base : ∀ n : String, n ∈ ["NoneType", "bool", "int", "str", "tuple", "list", "dict"] → PySem.W.kitOne K (.type n) (.ref C) = some false
structure Apart (K : PySem.W.Frag) (C' C : Addr) : Prop where
  c : SlX.SCls K C'
  i : SlX.SIsi K C'
  k : PySem.W.kitOne K (.ref C') (.ref C) = some false
section
variable {X : Cx} {CX : CXT} {n : Nat} {C g : Addr} {sp : Sp}
end
section
variable {X : Cx} {K : PySem.W.Frag} {F0 : Pt} {a b e o value : Expr} {es rest : List Expr} {ta tb te tv : TE3} {t tw : TA3} {pos pos' p apos kpos : Pos} {x f m : Str} {C : Addr} {i k j n : Nat} {sp : Sp3} {W : WK}
structure ClsMAt (K : PySem.W.Frag) (C : Addr) (m qual : Str) (st : Stmt) (ps : List Str) : Prop where
  ex : ∃ mc p g fd, ClX.CRead K C mc ∧ ClX.CMet K C mc m p g ∧ Fun K m qual st g fd ∧ Binds K fd ps []
structure CMt3 (P : Program) (w : World) (K : PySem.W.Frag) (mg : Str → Option Value) (base : Heap) (k : Nat) (C : Addr) (m : Str) (sp : Sp3) : Prop where
  ex : ∃ mc p g, ClX.CRead K C mc ∧ ClX.CMet K C mc m p g ∧ FnR P w K mg base (L2.CX P w) k g (dn K sp)
end
section
variable {P : Program} {w : World} {K : PySem.W.Frag} {mg : Str → Option Value} {base : Heap} {x : Str} {st : Stmt} {N ps : List Str} {k : Nat} {sp : Sp3} {dvs : List V} {dds : List D}
structure DefAtD (K : PySem.W.Frag) (mg : Str → Option Value) (x : Str) (st : Stmt) (dvs : List V) : Prop where
  ex : ∃ f fd, FunD K x x (defArgs st) (defBody st) (defScope st) dvs [] f fd ∧ mg x = some (.ref f)
end
end L3
set_option Elab.async false
set_option linter.all false
set_option maxRecDepth 100000
set_option maxHeartbeats 4000000
namespace L3
open PySem PySem.Spec PyProof.Rows L2 PySem.Calls
section
variable {α : Type} {g : TG3} {tt : TT3} {te : TE3} {sw : St3} {e : α → D}
theorem lc_map (f : α → D) {G : Gp} : ∀ (xs : List α) {K : List D → Gp → Prop}, (∀ a ∈ xs, ∀ K' : DK, K' (f a) G → g (e a) sw G fun sd2 G2 => te sd2 G2 K') → K (xs.map f) G → lcL g dYes te sw (xs.map e) G K
  | [], _, _, k => by rw [List.map_nil, lcL_nil]; exact k
  | a :: xs, K, h, k => by rw [List.map_cons, lcL_cons]; exact h a List.mem_cons_self _ (lc_map f xs (fun b hb => h b (List.mem_cons_of_mem _ hb)) k)
end
theorem for_inv {α : Type} {e : α → D} {g : TG3} {tb : TS3} {Z : Ends3} (I : List α → St3 → Gp → Prop) (hd : ∀ sd G, I [] sd G → Z.nx sd G)
    (hs : ∀ x xs sd G, I (x :: xs) sd G → ∀ N : St3 → Gp → Prop, (∀ sd' G', I xs sd' G' → N sd' G') → g (e x) sd G fun sd' G' => tb { Z with nx := N, ct := N, bk := Z.nx } sd' G') : ∀ (xs : List α) (sd : St3) (G : Gp), I xs sd G → forL g tb Z (xs.map e) sd G
  | [], sd, G, h => by rw [List.map_nil, forL_nil]; exact hd sd G h
  | x :: xs, sd, G, h => by rw [List.map_cons, forL_cons]; exact hs x xs sd G h _ fun sd' G' h' => for_inv I hd hs xs sd' G' h'
def dOpen (i : Nat) (t : TS3) : TS3 := fun D sd G => ∃ p f, sd[i]? = some (some (.ref p)) ∧ G p = some (.lsts f) ∧ ∀ ds, f ds → t D sd (gupd G p (.lst ds))
theorem Ext.open_ {K : PySem.W.Frag} {F H : Hp} {G : Gp} {p : Addr} {f : List D → Prop} (c : Cp K F G H) (h : G p = some (.lsts f)) : ∃ ds, f ds ∧ Ext K F G H F (gupd G p (.lst ds)) H := by
  obtain ⟨hF, ds, vs, hf, hp, rl⟩ := c.own p _ h
  refine ⟨ds, hf, Le.refl _, fun a o e g f _ => ?_, c.frz, fun q o e => ?_⟩
  · have ha : a ≠ p := fun z => by rw [z, h] at g; cases g
    exact ⟨e, by rw [gupd_ne ha]; exact g, f⟩
  · by_cases hq : q = p
    · subst hq
      rw [gupd_same] at e
      cases e
      exact ⟨hF, vs, hp, rl⟩
    · rw [gupd_ne hq] at e
      exact c.own q o e
theorem dss_open {X : Cx} {F0 : Pt} {sts : List Stmt} {t : TS3} (i : Nat) (h : DSs X F0 sts t) : DSs X F0 sts (dOpen i t) :=
  PSs.imp h fun D σ H ⟨sd, F, G, D3, at_, ⟨p, f, e, eg, q⟩, k⟩ => by
    obtain ⟨ds, hf, x⟩ := Ext.open_ at_.cp eg
    exact ⟨sd, F, _, D3, at_.step x, q ds hf, k.mono x⟩
theorem ret_close {K : PySem.W.Frag} {Q3 : DK} {d : D} {G G' : Gp} {p : Addr} {ds : List D} {f : List D → Prop} (h : G' p = some (.lsts f)) (hG : G = gupd G' p (.lst ds)) (hf : f ds) (q : Q3 d G') : Ret K Q3 d G := by
  subst hG
  refine ret_sub (fun q o e => ?_) q
  by_cases hq : q = p
  · subst hq
    rw [h] at e
    cases e
    exact ⟨.lst ds, gupd_same, .cl hf⟩
  · exact ⟨o, by rw [gupd_ne hq]; exact e, .refl o⟩
theorem br_cases {b : Bool} {A B : Prop} (ht : b = true → A) (hf : b = false → B) : br b A B := by cases b; exact hf rfl; exact ht rfl
theorem toDataL_map {α : Type} (f : α → D) (g : α → PyData) (h : ∀ a, toData (f a) = some (g a)) : ∀ xs : List α, toDataL (xs.map f) = some (xs.map g)
  | [] => rfl
  | x :: xs => by
    show toDataL (f x :: xs.map f) = _
    unfold toDataL
    rw [h x, toDataL_map f g h xs]
    rfl
end L3
set_option Elab.async false
set_option linter.all false
set_option maxRecDepth 100000
set_option maxHeartbeats 4000000
namespace L3
open PySem PySem.Spec PyProof.Rows L2 PySem.Calls
section
variable {P : Program} {w : World} {K : PySem.W.Frag} {mg mb : Str → Option Value} {CX : CXT} {k : Nat} {fa a : Addr} {fd : FuncData} {x : Str} {sp : Sp} {s₁ : Shared} {vs : List Value} {ns : List Int}
structure ScriptIn (K : PySem.W.Frag) (H : Hp) (h : Heap) (a : Addr) (vs : List Value) (ns : List Int) : Prop where
  only : Only H
  sq : SqL K H a (ns.map V.int)
  at_ : ∀ b, H b ≠ none → b = a
  away : H a ≠ none → K.lookup a = none
  frz : ∀ b u, H b = some u → b = a ∧ u = .frz { cls := .type "list", data := .seq vs.toArray } (.lst (ns.map V.int))
theorem law_callG (KX : K.In s₁.heap) (hns : s₁.heap.Ns mainGlobals mg) (hb : s₁.heap.Ns builtinsNs mb) (hbb : ∀ x : Str, x ≠ "__name__" → mb x = bootBuiltins x) (hlim : s₁.heap.NoLimit) (hg : s₁.gens = #[])
    (ha : s₁.heap.get? a = some { cls := .type "list", data := .seq vs.toArray }) (hi : IntsAre vs ns) (hl : ns.length ≤ sizeLine) (hr : Room k callerA)
    (F : ∀ base : Heap, K.In base → base.Ns mainGlobals mg → FnG P w K mg base CX k fa fd [x] sp) (hbind : ∀ (s : Shared) (u : Value), BindsTo s fd ⟨[u], []⟩ [(x, u)])
    (hsp : ∀ H : Hp, Only H → SqL K H a (ns.map V.int) → sp [.ref a] H (fun v _ => v = .bl true) fun _ _ _ => False)
    (hCX : ∀ H e s', CX [] H s₁ (fun _ _ _ => False) e s' → False) :
    codeAny (model P w) callerA (.call (.ref fa) ⟨[.ref a], []⟩) (fun r s' => r = .ok (.ret (.bool true)) ∧ OldK s₁.heap s'.heap ∧ s'.os = s₁.os ∧ AllBare s'.gens) s₁ := by
  have rv := vals_ints hi
  have lenV := hi.length
  have run : ∀ H : Hp, ScriptIn K H s₁.heap a vs ns → codeAny (model P w) callerA (.call (.ref fa) ⟨[.ref a], []⟩) (fun r s' => r = .ok (.ret (.bool true)) ∧ OldK s₁.heap s'.heap ∧ s'.os = s₁.os ∧ AllBare s'.gens) s₁ := by
    intro H S
    have hok : HOk P w H s₁.heap := fun b u e => by
      obtain ⟨rfl, rfl⟩ := S.frz b u e
      exact ⟨ha, by rw [List.length_map]; exact hl, vs, _, rv, ha⟩
    have free : ∀ {b : Addr}, b ≠ a → H b = none := fun {b} hne => by
      cases e : H b with
      | none => rfl
      | some u => exact absurd (S.at_ b (by rw [e]; simp)) hne
    have ofNs : ∀ {b : Addr} {m : Str → Option Value}, s₁.heap.Ns b m → (hidT s₁.heap H).Ns b m := fun {b m} ⟨o, es, ep, e, d, r⟩ => ⟨o, es, ep, hidT_get e (free fun z => by
      subst z
      rw [ha] at e
      cases e
      have d' : Data.seq vs.toArray _ = Data.dict es ep := d
      cases d'), d, r⟩
    have ofK : K.In (hidT s₁.heap H) := fun b o e => hidT_get (KX b o e) (by
      cases q : H b with
      | none => rfl
      | some u =>
        have z := S.at_ b (by rw [q]; simp)
        subst z
        rw [S.away (by rw [q]; simp)] at e
        cases e)
    have md : Mod K mg (hidT s₁.heap H) := ⟨ofK, ofNs hns, ⟨mb, ofNs hb, hbb⟩, let ⟨mc, h1, h2⟩ := hlim; ⟨mc, ofNs h1, h2⟩⟩
    have e0 : Env0 P w K mg (hidT s₁.heap H) callerA [] s₁ H := ⟨rfl, md, fun b o e => of_hidT e, Nat.le_of_eq (hidT_size _ _), trivial, (fun b hb => absurd (show b ∈ ([] : List Addr) from hb) (by simp)), hok, .of_eq hg⟩
    refine codeAny_mono ((F _ ofK (ofNs hns)).run callerA [] s₁ H ⟨[.ref a], []⟩ [.ref a] [.ref a] _ _ rfl hr e0 (hbind s₁ (.ref a)) (.cons rfl .nil) (hsp H S.only S.sq)) fun r s' h => ?_
    cases r with
    | error e => exact (hCX H e s' h).elim
    | ok fl =>
      cases fl with
      | next => exact h.elim
      | brk => exact h.elim
      | cont => exact h.elim
      | ret u =>
        obtain ⟨v, H', os, bare, un, hok', r', q⟩ := h
        obtain rfl : v = .bl true := q
        obtain rfl : u = Value.bool true := r'
        refine ⟨rfl, OldK.of_keep fun b o e => ?_, os, bare⟩
        cases q : H b with
        | none => exact un.keep b o e q (by intro z; exact absurd (show b ∈ ([] : List Addr) from z) (by simp)) (by simp)
        | some u =>
          obtain ⟨rfl, rfl⟩ := S.frz b u q
          obtain ⟨e1, _⟩ := hok b _ q
          obtain ⟨e2, _⟩ := hok' b _ (un.frzs b _ _ q)
          rw [e] at e1
          cases e1
          exact e2
  cases hk : K.lookup a with
  | some o =>
    have e := KX a o hk
    rw [ha] at e
    cases e
    exact run (fun _ => none) ⟨fun _ => .inl rfl, .inr ⟨_, vs.toArray, _, hk, rfl, rfl, rfl, by rw [List.size_toArray, lenV]; exact hl, by simpa using rv⟩, fun b z => absurd rfl z, fun z => absurd rfl z, fun b u z => nomatch (show (none : Option HO) = some u from z)⟩
  | none =>
    refine run (fun b => if b = a then some (.frz { cls := .type "list", data := .seq vs.toArray } (.lst (ns.map V.int))) else none) ⟨fun b => ?_, .inl (.inr ⟨{ cls := .type "list", data := .seq vs.toArray }, if_pos rfl⟩), fun b z => ?_, fun _ => hk, fun b u z => ?_⟩
    · by_cases hb : b = a
      · exact .inr ⟨_, _, if_pos hb⟩
      · exact .inl (if_neg hb)
    · by_cases hb : b = a
      · exact hb
      · exact absurd (if_neg hb) z
    · by_cases hb : b = a
      · have z' := (if_pos hb).symm.trans z
        cases z'
        exact ⟨hb, rfl⟩
      · have z' := (if_neg hb).symm.trans z
        cases z'
end
theorem walk_ofG {l : PySem.W.OpenLaw} {n k : Nat} {q : Program} {loose : List Str} {XP : (Str → Option Value) → Heap → Prop} {YP : World → Heap → Prop} {d : DefRec} {x : Str}
    (hn : l.most = some n) (hn2 : n ≤ sizeLine) (hdf : d.params.defaults = []) (hr : Room k callerA)
    (F : ∀ (w : World) (mg : Str → Option Value) (fa : Addr) (h : Heap), YP w h → h.Ns mainGlobals mg → mg d.name = some (.ref fa) →
      ∃ (K : PySem.W.Frag) (fd : FuncData) (sp : Sp3), K.In h ∧ (∀ (s : Shared) (u : Value), BindsTo s fd ⟨[u], []⟩ [(x, u)]) ∧
        (∀ (ns : List Int) (G : Gp) (Q : DK), ns.length ≤ n → (∀ z ∈ ns, Builtin.Int.intBits z ≤ 1048576) → Q (.bl true) G → sp [.scr (ns.map D.int)] G Q NoE) ∧
        ∀ base : Heap, K.In base → base.Ns mainGlobals mg → FnG l.prog w K mg base (L2.CX l.prog w) k fa fd [x] (dn K sp)) :
    PySem.W.WalkO q loose XP YP l.row.toRowW d [] (fun f vs => PySem.call f vs) := by
  refine Att.attach_callB hn hdf fun w s₀ s₁ mg mb fa o pm cd doc a vs ns G Y ho hd hcd hmg hobj hints hlen hbits hg => ?_
  obtain ⟨K, fd, sp, KX, hb, hsp, hF⟩ := F w mg fa _ Y G.T.g hmg
  refine law_callG KX G.T.g G.T.b G.T.builtins G.T.nolimit hg hobj hints (Nat.le_trans hlen hn2) hr hF hb (fun H hO hS => ?_) fun H e s' h => cx_none h
  have c : Cp K H (fun _ => none) H := ⟨fun _ _ e => e, fun _ _ e => nomatch e⟩
  have r : RepL K H (ns.map D.int) (ns.map V.int) := by
    have gen : ∀ xs : List Int, RepL K H (xs.map D.int) (xs.map V.int) := fun xs => by
      induction xs with
      | nil => exact .nil
      | cons x xs ih => exact .cons (.int x) ih
    exact gen ns
  refine ⟨[.scr (ns.map D.int)], H, fun _ => none, fun d _ => d = .bl true, NoE, c, .one (.scr hS r), hsp ns _ _ hlen hbits rfl, fun d v F' G' H' l r e => ?_, qx_none⟩
  subst e
  cases r
  rfl
theorem fnG3 {P : Program} {w : World} {K : PySem.W.Frag} {mg : Str → Option Value} {base : Heap} {x : Str} {st : Stmt} {N : List Str} {k : Nat} {ps : List Str} {sp : Sp3} {f : Addr} {fd : FuncData} (F : Fun K x x st f fd) (S : FnScope N ps (defScope st)) (hlen : ps.length ≤ N.length) (len : ∀ ds G Q E, sp ds G Q E → ds.length = ps.length)
    (hbody : ∀ (f : Addr) (cdv : Value) (A : Around) (outer : List Env) (s : Shared) (H : Hp) (E : XK) (o : Pt) (E3 : EK), A.guards = some [] → Room k (A.deeper (envOfC x (defScope st) s.heap.objs.size f cdv)) →
      Takes (cxOf (L2.CX P w) P w K mg base N x (defScope st) f cdv A outer s H E) (lowW K o fun C fs _ G => E3 C fs G) →
      PassesOwn (model P w) (A.deeper (envOfC x (defScope st) s.heap.objs.size f cdv)) (envOfC x (defScope st) s.heap.objs.size f cdv) (cxOf (L2.CX P w) P w K mg base N x (defScope st) f cdv A outer s H E).xe →
      ∃ t : TS3, DSs (cxOf (L2.CX P w) P w K mg base N x (defScope st) f cdv A outer s H E) o (defBody st) t ∧
        ∀ ds G Q3, sp ds G Q3 E3 → t { nx := fun _ G' => Ret K Q3 .non G', rt := Ret K Q3 } (start3 N.length ds) G) : FnG P w K mg base (L2.CX P w) (k + 1) f fd ps (dn K sp) :=
  ok3G F S hlen len fun cdv A outer s H E o E3 hgu hr tk => hbody f cdv A outer s H E o E3 hgu hr tk (passes_of rfl)
section
open He He5
variable {K : PySem.W.Frag} {C C' : Addr} {f m : Str} {i : Nat}
variable {fa : List Fa} {fn : List DefA} {ex : PySem.W.Frag → Bool}
theorem SaysM.all (c : SaysM fa fn ex K) : (∀ f ∈ fa, f.ok K = true) ∧ (∀ d ∈ fn, d.ok K = true) ∧ ex K = true ∧ ∀ d ∈ fn, fnA K (d.at_ K) = d.val := by
  have c1 : ((fa.all fun f => f.ok K) && ((fn.all fun d => d.ok K) && ex K)) = true := congrArg (fun z : AlD => z.1) c
  have c2 : fn.map (fun d => fnA K (d.at_ K)) = fn.map DefA.val := congrArg (fun z : AlD => z.2) c
  obtain ⟨h1, h⟩ := ba c1
  obtain ⟨h2, h3⟩ := ba h
  refine ⟨fun f hf => List.all_eq_true.mp h1 f hf, fun d hd => List.all_eq_true.mp h2 d hd, h3, fun d hd => ?_⟩
  exact List.map_inj_left.mp c2 d hd
theorem SaysM.def_ (c : SaysM fa fn ex K) {d : DefA} (h : d ∈ fn) : ∃ fd, FunD K d.name d.qual d.params d.body d.scope (d.dvs K) (d.kws K) (d.at_ K) fd := by
  obtain ⟨_, h2, _, h4⟩ := c.all
  exact DefA.funD (h4 d h) (h2 d h)
theorem SaysM.fun_ (c : SaysM fa fn ex K) {at_ : PySem.W.Frag → Addr} {name qual : Str} {st : Stmt} (h : dfA at_ name qual st ∈ fn) : ∃ fd, Fun K name qual st (at_ K) fd := by
  obtain ⟨fd, F⟩ := c.def_ h
  exact ⟨fd, fun_of F⟩
end
end L3
set_option Elab.async false
set_option linter.all false
set_option maxRecDepth 100000
set_option maxHeartbeats 4000000
namespace L3
open PySem PySem.Spec PyProof.Rows L2 PySem.Calls
section
variable {K : PySem.W.Frag}
end
end L3
set_option Elab.async false
set_option linter.all false
set_option maxRecDepth 100000
set_option maxHeartbeats 4000000
namespace L3
open PySem PySem.Spec PyProof.Rows L2
section
variable {X : Cx} {F0 : Pt} {es : List Expr} {pos : Pos}
theorem PG.or {e : Expr} {t u : TG} (h : PG X e t) (h' : PG X e u) : PG X e fun v σ H Q => t v σ H Q ∨ u v σ H Q := ⟨fun pins s σ H v w Q I r q => q.elim (h.run pins s σ H v w Q I r) (h'.run pins s σ H v w Q I r)⟩
def gTL (n : Nat) (t : TGs3) : TG3 := fun d sd G Q => match d with
  | .tup ds => br (lenIs n ds) (t ds sd G Q) False
  | .lst ds => br (lenIs n ds) (t ds sd G Q) False
  | .scr ds => br (lenIs n ds) (t ds sd G Q) False
  | _ => False
theorem dg_tl {k : Nat} {t : TGs3} {n : Nat} (hc : X.calm = true) (h : DGs X F0 es t) (hn : (assignEach es X.env).length = n := by rfl) (hst : (assignEach es X.env).findIdx? (·.1) = none := by rfl) : DG X F0 (.Tuple es k pos) (gTL n t) :=
  PG.imp (PG.or (pg_tup hc h hn hst) (pg_lst hc h hn hst)) fun v σ H Q ⟨d, sd, F, G, Q3, at_, r, h, k⟩ => by
    unfold gTL at h
    split at h
    · rename_i ds
      cases el : lenIs n ds with
      | false => rw [el] at h; exact h.elim
      | true =>
        rw [el] at h
        cases r with
        | tup s rl => exact .inl ⟨_, _, rfl, sqT_mono at_.cp.frz s, by rw [← rl.length]; exact lenIs_ok el, ds, sd, F, G, Q3, at_, rl, h, k⟩
    · rename_i ds
      cases el : lenIs n ds with
      | false => rw [el] at h; exact h.elim
      | true =>
        rw [el] at h
        cases r with
        | lst s rl => exact .inr ⟨_, _, rfl, SqL.of (at_.cp.frz _ _ s), by rw [← rl.length]; exact lenIs_ok el, ds, sd, F, G, Q3, at_, rl, h, k⟩
    · rename_i ds
      cases el : lenIs n ds with
      | false => rw [el] at h; exact h.elim
      | true =>
        rw [el] at h
        cases r with
        | scr s rl => exact .inr ⟨_, _, rfl, sqL_mono at_.cp.frz s, by rw [← rl.length]; exact lenIs_ok el, ds, sd, F, G, Q3, at_, rl, h, k⟩
    · exact h.elim
end
theorem dall_le {n : Nat} : ∀ {ps : List PyData}, (∀ p ∈ ps, p.canLay0 = true ∧ p.depth ≤ n) → PyData.canLayAll0 ps = true ∧ PyData.depthAll ps ≤ n
  | [], _ => ⟨rfl, Nat.zero_le _⟩
  | p :: ps, h => by
    obtain ⟨a, b⟩ := dall_le (n := n) (ps := ps) fun q hq => h q (List.mem_cons_of_mem _ hq)
    obtain ⟨c, d⟩ := h p List.mem_cons_self
    refine ⟨?_, ?_⟩
    · unfold PyData.canLayAll0
      rw [a, c]
      rfl
    · unfold PyData.depthAll
      exact Nat.max_le.mpr ⟨d, b⟩
theorem sh_list {ps : List PyData} (h : ∀ p ∈ ps, p.canLay0 = true ∧ p.depth ≤ 60) : SeqAt.shaped (.list ps) = true := by
  obtain ⟨a, b⟩ := dall_le h
  unfold SeqAt.shaped PyData.canLay0 PyData.depth
  rw [a, Bool.true_and]
  exact decide_eq_true (by omega)
theorem toD_lst {ds : List D} {ps : List PyData} (h : toDataL ds = some ps) : toData (.lst ds) = some (.list ps) := by unfold toData; rw [h]; rfl
theorem eqvAll_map {α : Type} [DecidableEq α] (g : α → PyData) (h : ∀ a b, PyData.eqv (g a) (g b) = decide (a = b)) : ∀ xs ys : List α, PyData.eqvAll (xs.map g) (ys.map g) = decide (xs = ys)
  | [], [] => rfl
  | [], _ :: _ => rfl
  | _ :: _, [] => rfl
  | x :: xs, y :: ys => by
    show (PyData.eqv (g x) (g y) && PyData.eqvAll (xs.map g) (ys.map g)) = _
    rw [h, eqvAll_map g h xs ys]
    by_cases e1 : x = y <;> by_cases e2 : xs = ys <;> simp [e1, e2]
theorem eqv_bool (a b : Bool) : PyData.eqv (.bool a) (.bool b) = decide (a = b) := by cases a <;> cases b <;> rfl
section
variable {X : Cx} {F0 : Pt}
end
end L3
set_option Elab.async false
set_option linter.all false
set_option maxRecDepth 100000
set_option maxHeartbeats 4000000
namespace L3
open PySem PySem.Spec PyProof.Rows L2
def keyD : L3.D → Option Key
  | .int i => some (.inl i)
  | .str x => some (.inr x)
  | _ => none
def valD : List (Key × L3.D) → Key → Option L3.D
  | [], _ => none
  | (j, d) :: r, k => if j = k then some d else valD r k
def putD : List (Key × L3.D) → Key → L3.D → List (Key × L3.D)
  | [], k, d => [(k, d)]
  | (j, e) :: r, k, d => if j = k then (k, d) :: r else (j, e) :: putD r k d
def dropD (kvs : List (Key × L3.D)) (k : Key) : List (Key × L3.D) := kvs.filter fun kv => decide (kv.1 ≠ k)
section
variable {K : PySem.W.Frag} {F F' H : Hp} {G : Gp}
theorem rep_key {d : L3.D} {v : V} {k : Key} (r : Rep K F d v) (h : keyD d = some k) : v = kV k := by
  cases r <;> simp [keyD] at h
  · subst h; rfl
  · subst h; rfl
theorem RepK.val {k : Key} : ∀ {ks : List (Key × L3.D)} {ws : List (Key × V)}, RepK K F ks ws → (∀ d, valD ks k = some d → ∃ v, valV ws k = some v ∧ Rep K F d v) ∧ (valD ks k = none → valV ws k = none)
  | _, _, .nil => ⟨fun d h => (by cases h), fun _ => rfl⟩
  | _, _, .cons (f := j) (d := e) (v := v) (ds := r) (vs := vs) h t => by
    have ih := RepK.val (k := k) t
    by_cases hj : j = k
    · refine ⟨fun d hd => ?_, fun hd => ?_⟩
      · unfold valD at hd
        rw [if_pos hj] at hd
        cases hd
        exact ⟨v, valV_pos hj, h⟩
      · unfold valD at hd
        rw [if_pos hj] at hd
        cases hd
    · refine ⟨fun d hd => ?_, fun hd => ?_⟩
      · unfold valD at hd
        rw [if_neg hj] at hd
        rw [valV_neg hj]
        exact ih.1 d hd
      · unfold valD at hd
        rw [if_neg hj] at hd
        rw [valV_neg hj]
        exact ih.2 hd
theorem RepK.getD {k : Key} {ks : List (Key × L3.D)} {ws : List (Key × V)} {z : L3.D} {u : V} (h : RepK K F ks ws) (r : Rep K F z u) : Rep K F ((valD ks k).getD z) ((valV ws k).getD u) := by
  obtain ⟨h1, h2⟩ := h.val (k := k)
  cases e : valD ks k with
  | none => rw [h2 e]; exact r
  | some d =>
    obtain ⟨v, e1, e2⟩ := h1 d e
    rw [e1]
    exact e2
theorem RepK.length : ∀ {ks : List (Key × L3.D)} {ws : List (Key × V)}, RepK K F ks ws → ks.length = ws.length
  | _, _, .nil => rfl
  | _, _, .cons _ r => by rw [List.length_cons, List.length_cons, RepK.length r]
theorem RepK.drop {k : Key} : ∀ {ks : List (Key × L3.D)} {ws : List (Key × V)}, RepK K F ks ws → RepK K F (dropD ks k) (dropK ws k)
  | _, _, .nil => .nil
  | _, _, .cons (f := j) (d := e) (v := v) (ds := r) (vs := vs) h t => by
    have ih := RepK.drop (k := k) t
    unfold dropD dropK at ih ⊢
    rw [List.filter_cons, List.filter_cons]
    by_cases hj : j = k
    · rw [if_neg (by simp [hj]), if_neg (by simp [hj])]
      exact ih
    · rw [if_pos (by simp [hj]), if_pos (by simp [hj])]
      exact .cons h ih
theorem putK_cons {j k : Key} {v y : V} {r : List (Key × V)} (h : j ≠ k) : putK ((j, v) :: r) k y = (j, v) :: putK r k y := by
  unfold putK
  rw [List.any_cons]
  show (if (decide (j = k) || _) = true then (if j = k then (j, y) else (j, v)) :: _ else _) = _
  rw [decide_eq_false h, Bool.false_or, if_neg h]
  split <;> rfl
def Uq {α : Type} : List (Key × α) → Prop
  | [] => True
  | (j, _) :: r => (∀ p ∈ r, p.1 ≠ j) ∧ Uq r
theorem putK_head {k : Key} {v y : V} {r : List (Key × V)} (h : ∀ p ∈ r, p.1 ≠ k) : putK ((k, v) :: r) k y = (k, y) :: r := by
  unfold putK
  rw [List.any_cons]
  show (if (decide (k = k) || _) = true then (if k = k then (k, y) else (k, v)) :: _ else _) = _
  rw [decide_eq_true rfl, Bool.true_or, if_pos rfl, if_pos rfl]
  congr 1
  have : ∀ l : List (Key × V), (∀ p ∈ l, p.1 ≠ k) → l.map (fun kv => if kv.1 = k then (kv.1, y) else kv) = l := by
    intro l
    induction l with
    | nil => intro _; rfl
    | cons a l ih =>
      intro hl
      rw [List.map_cons, if_neg (hl a List.mem_cons_self), ih fun p hp => hl p (List.mem_cons_of_mem _ hp)]
  exact this r h
theorem RepK.uq : ∀ {ks : List (Key × L3.D)} {ws : List (Key × V)}, RepK K F ks ws → Uq ks → Uq ws
  | _, _, .nil, _ => trivial
  | _, _, .cons (f := j) (d := e) (v := v) (ds := r) (vs := vs) h t, u => by
    refine ⟨fun p hp => ?_, t.uq u.2⟩
    have keys : ∀ {a : List (Key × L3.D)} {b : List (Key × V)}, RepK K F a b → ∀ p ∈ b, ∃ q ∈ a, q.1 = p.1 := by
      intro a
      induction a with
      | nil =>
        intro b h p hp
        cases h
        cases hp
      | cons x a ih =>
        intro b h p hp
        cases h with
        | cons h1 t1 =>
          rcases List.mem_cons.mp hp with z | z
          · subst z; exact ⟨_, List.mem_cons_self, rfl⟩
          · obtain ⟨q, hq, e⟩ := ih t1 p z
            exact ⟨q, List.mem_cons_of_mem _ hq, e⟩
    obtain ⟨q, hq, eq⟩ := keys t p hp
    rw [← eq]
    exact u.1 q hq
theorem RepK.put {k : Key} {d : L3.D} {v : V} (rd : Rep K F d v) : ∀ {ks : List (Key × L3.D)} {ws : List (Key × V)}, Uq ks → RepK K F ks ws → RepK K F (putD ks k d) (putK ws k v) := by
  intro ks
  induction ks with
  | nil =>
    intro ws _ h
    cases h
    exact .cons rd .nil
  | cons a r ih =>
    intro ws uq h
    have hh := h
    cases h with
    | @cons j e u _ vs h t =>
      by_cases hj : j = k
      · subst hj
        have uw := RepK.uq hh uq
        rw [putK_head uw.1]
        unfold putD
        rw [if_pos rfl]
        exact .cons rd t
      · rw [putK_cons hj]
        unfold putD
        rw [if_neg hj]
        exact .cons h (ih uq.2 t)
theorem putD_mem {k : Key} {d : L3.D} : ∀ {ks : List (Key × L3.D)} {p : Key × L3.D}, p ∈ putD ks k d → p.1 = k ∨ ∃ q ∈ ks, q.1 = p.1
  | [], p, h => by
    cases List.mem_singleton.mp h
    exact .inl rfl
  | (j, e) :: r, p, h => by
    unfold putD at h
    split at h
    · rcases List.mem_cons.mp h with z | z
      · subst z; exact .inl rfl
      · exact .inr ⟨p, List.mem_cons_of_mem _ z, rfl⟩
    · rcases List.mem_cons.mp h with z | z
      · subst z; exact .inr ⟨_, List.mem_cons_self, rfl⟩
      · rcases putD_mem z with y | ⟨q, hq, e⟩
        · exact .inl y
        · exact .inr ⟨q, List.mem_cons_of_mem _ hq, e⟩
theorem Uq.put {k : Key} {d : L3.D} : ∀ {ks : List (Key × L3.D)}, Uq ks → Uq (putD ks k d)
  | [], _ => ⟨fun p hp => (by cases hp), trivial⟩
  | (j, e) :: r, h => by
    unfold putD
    split
    · rename_i hj
      subst hj
      exact ⟨h.1, h.2⟩
    · rename_i hj
      refine ⟨fun p hp => ?_, Uq.put h.2⟩
      rcases putD_mem hp with y | ⟨q, hq, e⟩
      · rw [y]; exact fun z => hj z.symm
      · rw [← e]; exact h.1 q hq
def mergeD : List (Key × L3.D) → List (Key × L3.D) → List (Key × L3.D)
  | kvs, [] => kvs
  | kvs, (k, d) :: r => mergeD (putD kvs k d) r
theorem RepK.merge : ∀ {more : List (Key × L3.D)} {ms : List (Key × V)} {ks : List (Key × L3.D)} {ws : List (Key × V)}, Uq ks → RepK K F more ms → RepK K F ks ws → RepK K F (mergeD ks more) (mergeK ws ms) := by
  intro more
  induction more with
  | nil =>
    intro ms ks ws u h hk
    cases h
    exact hk
  | cons a r ih =>
    intro ms ks ws u h hk
    cases h with
    | @cons j e v _ vs h t =>
      show RepK K F (mergeD (putD ks j e) r) (mergeK (putK ws j v) vs)
      exact ih (Uq.put u) t (RepK.put h u hk)
end
def dPairs : List (TE3 × TE3) → St3 → Gp → (List (L3.D × L3.D) → Gp → Prop) → Prop
  | [], _, G, Q => Q [] G
  | (tk, tv) :: r, sd, G, Q => tk sd G fun k G1 => tv sd G1 fun v G2 => dPairs r sd G2 fun ps G3 => Q ((k, v) :: ps) G3
def keysD : List (L3.D × L3.D) → Option (List (Key × L3.D))
  | [] => some []
  | (k, d) :: r => match keyD k with
    | some j => (keysD r).map ((j, d) :: ·)
    | none => none
inductive RepP (K : PySem.W.Frag) (F : Hp) : List (L3.D × L3.D) → List (V × V) → Prop
  | nil : RepP K F [] []
  | cons {k d : L3.D} {j v : V} {r : List (L3.D × L3.D)} {s : List (V × V)} : Rep K F k j → Rep K F d v → RepP K F r s → RepP K F ((k, d) :: r) ((j, v) :: s)
theorem RepP.keys {K : PySem.W.Frag} {F : Hp} : ∀ {ps : List (L3.D × L3.D)} {vs : List (V × V)} {ks : List (Key × L3.D)}, RepP K F ps vs → keysD ps = some ks → ∃ ws : List (Key × V), vs = ws.map (fun kv => (kV kv.1, kv.2)) ∧ RepK K F ks ws
  | _, _, ks, .nil, e => by
    cases e
    exact ⟨[], rfl, .nil⟩
  | _, _, ks, .cons hk hd t, e => by
    unfold keysD at e
    split at e
    · rename_i j ej
      obtain ⟨r, e1, e2⟩ := Option.map_eq_some_iff.mp e
      subst e2
      obtain ⟨ws, e3, h3⟩ := RepP.keys t e1
      rw [rep_key hk ej, e3]
      exact ⟨(j, _) :: ws, rfl, .cons hd h3⟩
    · cases e
section
variable {X : Cx} {F0 : Pt} {o e f i : Expr} {pos apos : Pos} {to te tf : TE3}
structure DPs (X : Cx) (F0 : Pt) (pos : Pos) (keys : List (Option Expr)) (values : List Expr) (trs : List (TE3 × TE3)) : Prop where
  run : PPs X pos keys values (trs.map fun t => (low X.K F0 t.1, low X.K F0 t.2))
theorem dps_nil : DPs X F0 pos [] [] [] := ⟨pps_nil⟩
theorem dps_cons {k v : Expr} {ks : List (Option Expr)} {vs : List Expr} {tk tv : TE3} {trs : List (TE3 × TE3)} (hk : DE X F0 k tk) (hv : DE X F0 v tv) (hr : DPs X F0 pos ks vs trs) : DPs X F0 pos (some k :: ks) (v :: vs) ((tk, tv) :: trs) := ⟨pps_cons hk hv hr.run⟩
def dDisp (trs : List (TE3 × TE3)) : TE3 := fun sd G Q => dPairs trs sd G fun ps G1 => match keysD ps with
  | some ks => Q (.dic (mergeD [] ks)) G1
  | none => False
theorem Ext.looseD {K : PySem.W.Frag} {F H F' H' : Hp} {G G' : Gp} (x : Ext K F G H F' G' H') {p : Addr} {o : HO} (h : H p = none) (hF : F' p = none) (hG : G' p = none) (hp : ∃ kvs, H' p = some (.dK kvs)) : Ext K F G H F' G' (upd H' p o) := by
  obtain ⟨kvs, hp⟩ := hp
  exact x.loose h hF hG (fun y z => by rw [hp] at z; cases z) (fun z => by rw [hp] at z; cases z)
theorem Ext.fixD {K : PySem.W.Frag} {F H F' H' : Hp} {G G' : Gp} (x : Ext K F G H F' G' H') {p : Addr} {ks : List (Key × V)} (h : H p = none) (hF : F' p = none) (hG : G' p = none) (hp : H' p = some (.dK ks)) : Ext K F G H (upd F' p (.dK ks)) G' H' :=
  ⟨x.le.trans (Le.new hF), fun a u e g f n => by
    obtain ⟨h1, g1, f1⟩ := x.st a u e g f n
    exact ⟨h1, g1, by rw [upd_ne (ne_of_none e h)]; exact f1⟩, ⟨fun a u e => by
      by_cases ha : a = p
      · subst ha; rw [upd_same] at e; cases e; exact hp
      · rw [upd_ne ha] at e; exact x.cp.frz a u e, fun q u e => by
      have hq : q ≠ p := fun z => by rw [z, hG] at e; cases e
      obtain ⟨f, r2⟩ := x.cp.own q u e
      refine ⟨by rw [upd_ne hq]; exact f, r2.keep (Le.new hF) rfl fun C dx ds eo => ?_⟩
      subst eo
      obtain ⟨h1, _, vs', _, z⟩ := r2
      have hdx : dx ≠ p := by
        rintro rfl
        rcases z with ⟨_, _, z⟩ | ⟨_, z⟩ <;> · rw [hp] at z; cases z
      exact ⟨rfl, h1.upd hdx⟩⟩⟩
theorem keysD_len : ∀ {ps : List (L3.D × L3.D)} {ks : List (Key × L3.D)}, keysD ps = some ks → ks.length = ps.length
  | [], _, e => by cases e; rfl
  | (k, d) :: r, ks, e => by
    unfold keysD at e
    split at e
    · obtain ⟨r', e1, e2⟩ := Option.map_eq_some_iff.mp e
      subst e2
      rw [List.length_cons, List.length_cons, keysD_len e1]
    · cases e
theorem pairs_len : ∀ (trs : List (TE3 × TE3)) {K : PySem.W.Frag} {F0 : Pt} (sd : St3) (F : Hp) (G : Gp) (σ : L2.St) (H : Hp) (Q3 : List (L3.D × L3.D) → Gp → Prop) (Q : List (V × V) → Hp → Prop), At K F0 F sd G σ H → dPairs trs sd G Q3 →
    (∀ ps vs F' G' H', Ext K F G H F' G' H' → RepP K F' ps vs → ps.length = trs.length → Q3 ps G' → Q vs H') → tPairs (trs.map fun t => (low K F0 t.1, low K F0 t.2)) σ H Q
  | [], _, _, sd, F, G, σ, H, Q3, Q, at_, h, k => k [] [] _ _ _ (Ext.refl at_.cp) .nil rfl h
  | (tk, tv) :: r, _, _, sd, F, G, σ, H, Q3, Q, at_, h, k => ⟨sd, F, G, _, at_, h, fun dk vk F1 G1 H1 l1 r1 q1 => ⟨sd, F1, G1, _, at_.step l1, q1, fun dv vv F2 G2 H2 l2 r2 q2 => by
    refine pairs_len r sd F2 G2 σ H2 _ _ ((at_.step l1).step l2) q2 fun ps vs F' G' H' l rp hl q => ?_
    exact k _ _ _ _ _ ((l1.trans l2).trans l) (.cons (r1.mono (l2.le.trans l.le)) (r2.mono l.le) rp) (by rw [List.length_cons, List.length_cons, hl]) q⟩⟩
theorem low_disp {K : PySem.W.Frag} {F0 : Pt} {trs : List (TE3 × TE3)} (h15 : trs.length ≤ 15) {Qx : L3.D → Gp → Prop} {σ : L2.St} {H : Hp} {Q : VK} {sd : St3} {F : Hp} {G : Gp} {Q3 : List (L3.D × L3.D) → Gp → Prop} (at_ : At K F0 F sd G σ H) (h : dPairs trs sd G Q3)
    (k : ∀ p ps ks ws F' G' H', H p = none → Ext K F G H F' G' H' → F' p = none → G' p = none → H' p = some (.dK (mergeK [] ws)) → RepK K F' (mergeD [] ks) (mergeK [] ws) → keysD ps = some ks → Q3 ps G' → Q (.ref p) H') (hk : ∀ ps G, Q3 ps G → ∃ ks, keysD ps = some ks) :
    tDisp (trs.map fun t => (low K F0 t.1, low K F0 t.2)) σ H Q := by
  intro p hp
  have fp := (at_.cp.free hp).1
  have gp := (at_.cp.free hp).2
  have x0 : Ext K F G H F G (upd H p (.dK [])) := (Ext.refl at_.cp).loose hp fp gp (fun x z => by rw [hp] at z; cases z) (fun z => by rw [hp] at z; cases z)
  refine pairs_len trs sd F G σ _ _ _ (at_.step x0) h fun ps vs F' G' H' l rp hl q => ?_
  obtain ⟨hp', gp', fp'⟩ := l.st p _ upd_same gp fp (fun x z => by cases z)
  obtain ⟨ks, ek⟩ := hk ps G' q
  obtain ⟨ws, e1, rk⟩ := rp.keys ek
  refine ⟨hp', ws, e1, by rw [← rk.length, keysD_len ek]; omega, ?_⟩
  refine k p ps ks ws F' G' _ hp ((x0.trans l).looseD hp fp' gp' ⟨_, hp'⟩) fp' gp' upd_same (RepK.merge trivial rk .nil) ek q
theorem de_disp {keys : List (Option Expr)} {values : List Expr} {trs : List (TE3 × TE3)} (h : DPs X F0 pos keys values trs) (hall : keys.all (·.isSome) = true := by rfl) (hl : keys.length = values.length := by rfl) (h0 : keys ≠ [] := by intro z; cases z) (h15 : keys.length ≤ 15 := by decide) (ht : trs.length ≤ 15 := by decide) :
    DE X F0 (.Dict keys values pos) (dDisp trs) :=
  PE.imp (pe_disp h.run hall hl h0 h15) fun σ H Q ⟨sd, F, G, Q3, at_, hh, k⟩ => by
    refine low_disp ht (Qx := Q3) at_ hh (fun p ps ks ws F' G' H' hp x fp gp e rk ek q => ?_) fun ps G q => ?_
    · have q : Q3 (.dic (mergeD [] ks)) G' := by
        rw [ek] at q
        exact q
      exact k _ _ _ _ _ (x.fixD hp fp gp e) (.dic upd_same (rk.mono (Le.new fp))) q
    · cases ek : keysD ps with
      | none => rw [ek] at q; exact q.elim
      | some ks => exact ⟨ks, rfl⟩
def dEmp : TE3 := fun _ G Q => Q (.dic []) G
theorem de_emp : DE X F0 (.Dict [] [] pos) dEmp := PE.imp pe_dnewK fun σ H Q ⟨sd, F, G, Q3, at_, h, k⟩ p hp => by
  have x := Ext.newF at_.cp (.dK []) hp
  exact k _ _ _ _ _ x (.dic upd_same .nil) h
end
end L3
set_option Elab.async false
set_option linter.all false
set_option maxRecDepth 100000
set_option maxHeartbeats 4000000
namespace L3
open PySem PySem.Spec PyProof.Rows L2
theorem PRg.imp {X : Cx} {e : Expr} {t u : L2.St → Hp → (Int → Int → Hp → Prop) → Prop} (h : PRg X e t) (i : ∀ σ H Q, u σ H Q → t σ H Q) : PRg X e u := fun pins s σ H Q I q => h pins s σ H Q I (i σ H Q q)
section
variable {X : Cx} {F0 : Pt} {a b e : Expr} {es : List Expr} {ta tb : TE3} {t : TA3} {p pos p2 : Pos}
end
end L3
set_option Elab.async false
set_option linter.all false
set_option maxRecDepth 100000
set_option maxHeartbeats 4000000
namespace L3
open PySem PySem.Spec PyProof.Rows L2
section
variable {X : Cx} {F0 : Pt} {t : TA3} {pos : Pos}
end
end L3
set_option Elab.async false
set_option linter.all false
set_option maxRecDepth 100000
set_option maxHeartbeats 4000000
namespace L3
open PySem PySem.Spec PyProof.Rows L2
def swpE : List Nat → St3 → St3
  | [], sd => sd
  | v :: vs, sd => (swpE vs sd).set v none
theorem sput_eq {d : Option D} : ∀ {sd : St3} {i : Nat} {K : St3 → Prop}, K (sd.set i d) → sput K d sd i
  | [], _, _, h => h
  | _ :: _, 0, _, h => h
  | o :: r, n + 1, K, h => sput_eq (sd := r) (i := n) (K := fun z => K (o :: z)) h
theorem swp_go : ∀ {vs : List Nat} {sd : St3} {P : St3 → Prop} (sw : St3), swpE vs sd = sw → P sw → swp P vs sd
  | [], sd, P, sw, e, h => by subst e; exact h
  | v :: vs, sd, P, sw, e, h => by
    subst e
    exact swp_go (vs := vs) (P := fun z => sput P none z v) _ rfl (sput_eq h)
end L3
set_option Elab.async false
set_option linter.all false
set_option maxRecDepth 100000
set_option maxHeartbeats 4000000
namespace L2
open PySem PySem.Spec PyProof.Rows
structure Clause where
  c : Value
  o : Option Nat
  ts : Addr → Value → Option Addr → TS
def asE (o : Option Nat) (D : Ends) : Ends := match o with
  | none => D
  | some i => { nx := fun σ' H' => D.nx (σ'.set i none) H', rt := D.rt, bk := fun σ' H' => D.bk (σ'.set i none) H', ct := fun σ' H' => D.ct (σ'.set i none) H' }
def asS (o : Option Nat) (a : Addr) (σ : St) : St := match o with
  | none => σ
  | some i => σ.set i (some (.ref a))
inductive HdsX (X : Cx) : List ExceptHandler → List Clause → Prop
  | nil : HdsX X [] []
  | cons {x : Str} {c : Value} {ts : Addr → Value → Option Addr → TS} {b₀ : Stmt} {suite : List Stmt} {np pos' : Pos} {hds : List ExceptHandler} {l : List Clause} (hc : Names X x c)
      (hsu : ∀ (a : Addr) (oe : Obj) (cls : Value) (d : Option Addr) (pn : List (Addr × Obj)), Zc cls d oe → (∃ vs, oe.data = .fields vs) → PSs (X.suite a ((a, oe) :: pn)) (b₀ :: suite) (ts a cls d)) (r : HdsX X hds l) :
      HdsX X (.ExceptHandler (some (.Name x np)) none (b₀ :: suite) pos' :: hds) (⟨c, none, ts⟩ :: l)
  | named {x n : Str} {c : Value} {i : Nat} {ts : Addr → Value → Option Addr → TS} {b₀ : Stmt} {suite : List Stmt} {np pos' : Pos} {hds : List ExceptHandler} {l : List Clause} (hc : Names X x c) (hi : X.N[i]? = some n) (hln : X.env.kindOf n = some .local)
      (hsu : ∀ (a : Addr) (oe : Obj) (cls : Value) (d : Option Addr) (pn : List (Addr × Obj)), Zc cls d oe → (∃ vs, oe.data = .fields vs) → PSs (X.suite a ((a, oe) :: pn)) (b₀ :: suite) (ts a cls d)) (r : HdsX X hds l) :
      HdsX X (.ExceptHandler (some (.Name x np)) (some n) (b₀ :: suite) pos' :: hds) (⟨c, some i, ts⟩ :: l)
section
variable {X : Cx} {body : List Stmt} {h₀ : ExceptHandler} {hds : List ExceptHandler} {l : List Clause} {pos : Pos} {tb : WX → TS} {Wout : WX}
end
end L2
namespace L3
open PySem PySem.Spec PyProof.Rows L2
def InitIs (st : Stmt) (f : Str) : Prop := ∃ p1 p2 p3 p4, defBody st = [.Assign [.Attribute (.Name "self" p1) f p2] (.Name f p3) p4]
structure ExcAt (K : PySem.W.Frag) (mg : Str → Option Value) (x : Str) (C : Addr) (f qual : Str) (st : Stmt) : Prop where
  oex : OexC K C
  xf : XfC K C
  g : mg x = some (.ref C)
  no : PySem.W.findIn K (.ref C) f = some none
  fn : ∃ fI fd, PySem.W.findIn K (.ref C) "__init__" = some (some (.ref fI)) ∧ PySem.W.typeIn K (.ref fI) = some (.type "function") ∧ Fun K "__init__" qual st fI fd ∧ Binds K fd ["self", f] []
def spI (K : PySem.W.Frag) (f : Str) : Sp := fun vs H Q _ => ∃ (a C : Addr) (y : V), vs = [.ref a, y] ∧ OexC K C ∧ PySem.W.findIn K (.ref C) f = some none ∧ H a = some (exo a C none) ∧ ∀ dx, H dx = none → dx ≠ a → Q .non (upd (upd H dx (exd dx [(f, y)])) a (exo a C (some dx)))
section
variable {P : Program} {w : World} {K : PySem.W.Frag} {mg : Str → Option Value} {base : Heap}
theorem spI_ok {f qual : Str} {st : Stmt} {fI : Addr} {fd : FuncData} (F : Fun K "__init__" qual st fI fd) (S : FnScope ["self", f] ["self", f] (defScope st)) (B : InitIs st f) (hdf : (f == ("__debug__" : Str)) = false) (hcf : (f == ("__classdict__" : Str)) = false)
    (hv : Vis (defScope st) "self") (hvf : Vis (defScope st) f) (hsw : ∀ (env : Env) p1 p2 p3 (p4 : Pos), swapsWith (.Name f p3) (some (.Attribute (.Name "self" p1) f p2)) p4.line env = pure false) : FnOk P w K mg base CX0 1 fI fd ["self", f] (spI K f) := by
  refine Fun.ok F S (fun vs H Q E ⟨_, _, _, e, _⟩ => by rw [e]; rfl) fun cdv A outer s H vs Q E hr ⟨a, C, y, ev, T, no, ea, q⟩ => ?_
  obtain ⟨p1, p2, p3, p4, eb⟩ := B
  subst ev
  rw [eb]
  refine ⟨_, pss_one (ps_ost (pe_var (i := 0) rfl hv (by decide) (by decide)) (pe_var (i := 1) rfl hvf hdf hcf) (hsw _ _ _ _ _)), ?_⟩
  refine ⟨y, rfl, .ref a, rfl, a, C, rfl, T, no, .inl ⟨ea, fun dx n ne => q dx n ne⟩⟩
end
section
variable {X : Cx} {F0 : Pt} {e : Expr} {te : TE3} {W : WK} {x f qual : Str} {C : Addr} {st : Stmt} {p pos pos2 : Pos} {j : Nat}
end
def XL (K : PySem.W.Frag) (o : Pt) (d : Option Addr) (fs : List (Str × D)) : Prop := fs = [] ∨ ∃ dd ws, d = some dd ∧ o.F dd = some (.xd ws) ∧ RepF K o.F fs ws
structure Cl3 where
  c : Value
  o : Option Nat
  ts : Addr → Addr → List (Str × D) → TS3
def asE3 (o : Option Nat) (D : Ends3) : Ends3 := match o with
  | none => D
  | some i => { nx := fun sd G => D.nx (sd.set i none) G, rt := D.rt, bk := fun sd G => D.bk (sd.set i none) G, ct := fun sd G => D.ct (sd.set i none) G }
def asS3 (o : Option Nat) (a : Addr) (sd : St3) : St3 := match o with
  | none => sd
  | some i => sd.set i (some (.ref a))
def lowTs (K : PySem.W.Frag) (t : Addr → Addr → List (Str × D) → TS3) : Addr → Value → Option Addr → TS := fun a cls d D σ H => ∃ C fs o, cls = .ref C ∧ XL K o d fs ∧ lowS K o (t a C fs) D σ H
def lowCl (K : PySem.W.Frag) (k : Cl3) : Clause := ⟨k.c, k.o, lowTs K k.ts⟩
theorem QE.as {K : PySem.W.Frag} {F H : Hp} {G : Gp} {D3 : Ends3} {D : Ends} (q : QE K F G H D3 D) (o : Option Nat) : QE K F G H (asE3 o D3) (asE o D) := by
  cases o with
  | none => exact q
  | some i => exact ⟨fun sd σ F' G' H' l r h => q.nx _ _ _ _ _ l (r.forget i none) h, q.rt, fun sd σ F' G' H' l r h => q.bk _ _ _ _ _ l (r.forget i none) h, fun sd σ F' G' H' l r h => q.ct _ _ _ _ _ l (r.forget i none) h⟩
theorem RepS.as {K : PySem.W.Frag} {F : Hp} {sd : St3} {σ : L2.St} (r : RepS K F sd σ) (o : Option Nat) (a : Addr) : RepS K F (asS3 o a sd) (asS o a σ) := by
  cases o with
  | none => exact r
  | some i => exact r.set i (.ref a)
inductive HdsD (X : Cx) : List ExceptHandler → List Cl3 → Prop
  | nil : HdsD X [] []
  | cons {x : Str} {c : Value} {ts : Addr → Addr → List (Str × D) → TS3} {b₀ : Stmt} {suite : List Stmt} {np pos' : Pos} {hds : List ExceptHandler} {l : List Cl3} (hc : Names X x c)
      (hsu : ∀ (a : Addr) (oe : Obj) (cls : Value) (d : Option Addr) (pn : List (Addr × Obj)) (C : Addr) (fs : List (Str × D)) (o : Pt), Zc cls d oe → (∃ vs, oe.data = .fields vs) → cls = .ref C → XL X.K o d fs → DSs (X.suite a ((a, oe) :: pn)) o (b₀ :: suite) (ts a C fs)) (r : HdsD X hds l) :
      HdsD X (.ExceptHandler (some (.Name x np)) none (b₀ :: suite) pos' :: hds) (⟨c, none, ts⟩ :: l)
  | named {x n : Str} {c : Value} {i : Nat} {ts : Addr → Addr → List (Str × D) → TS3} {b₀ : Stmt} {suite : List Stmt} {np pos' : Pos} {hds : List ExceptHandler} {l : List Cl3} (hc : Names X x c) (hi : X.N[i]? = some n) (hln : X.env.kindOf n = some .local)
      (hsu : ∀ (a : Addr) (oe : Obj) (cls : Value) (d : Option Addr) (pn : List (Addr × Obj)) (C : Addr) (fs : List (Str × D)) (o : Pt), Zc cls d oe → (∃ vs, oe.data = .fields vs) → cls = .ref C → XL X.K o d fs → DSs (X.suite a ((a, oe) :: pn)) o (b₀ :: suite) (ts a C fs)) (r : HdsD X hds l) :
      HdsD X (.ExceptHandler (some (.Name x np)) (some n) (b₀ :: suite) pos' :: hds) (⟨c, some i, ts⟩ :: l)
theorem HdsD.low {X : Cx} : ∀ {hds : List ExceptHandler} {l : List Cl3}, HdsD X hds l → HdsX X hds (l.map (lowCl X.K)) := by
  intro hds l h
  induction h with
  | nil => exact .nil
  | cons hc hsu r ih => exact .cons hc (fun a oe cls d pn hz hf => ⟨fun pins s σ H D I ⟨C, fs, o, hC, hx, low⟩ => (hsu a oe cls d pn C fs o hz hf hC hx).run pins s σ H D I low⟩) ih
  | named hc hi hln hsu r ih => exact .named hc hi hln (fun a oe cls d pn hz hf => ⟨fun pins s σ H D I ⟨C, fs, o, hC, hx, low⟩ => (hsu a oe cls d pn C fs o hz hf hC hx).run pins s σ H D I low⟩) ih
theorem RepF.look {K : PySem.W.Frag} {F : Hp} {f : Str} : ∀ {fs : List (Str × D)} {ws : List (Str × V)} {v : D}, RepF K F fs ws → fs.lookup f = some v → ∃ u, ws.lookup f = some u ∧ Rep K F v u
  | _, _, _, .nil, e => by cases e
  | _, _, v, .cons (f := g) h r, e => by
    rw [List.lookup_cons] at e
    rw [List.lookup_cons]
    split at e
    · cases e
      exact ⟨_, rfl, h⟩
    · exact RepF.look r e
end L3
set_option Elab.async false
set_option linter.all false
set_option maxRecDepth 100000
set_option maxHeartbeats 4000000
namespace L3
open PySem PySem.Spec PyProof.Rows L2
theorem xsh_of {K : PySem.W.Frag} {C : Addr} {new : String} {tail : List Value → Bool} (h : xshB K C new tail = true) : ∃ nm q N bs bm sn sub ab col dd k0 k1 k2 k3 k5, K.lookup C = some (excClassObj nm q C N bs bm true sn sub ab col dd k0 k1 k2 k3 k5 new) ∧ tail bm = true := by
  unfold xshB at h
  split at h
  · rename_i dd cd sl ho
    split at h
    · rename_i C' bm k0 k1 k2 k3 n k5 hm hs
      simp only [Bool.and_eq_true, beq_iff_eq, Bool.not_eq_true'] at h
      obtain ⟨rfl, rfl, hd, hdel, ht⟩ := h
      obtain ⟨nm, bs, mro, ns, qn, hdd, sn, sub, ab, col, del⟩ := cd
      dsimp only at hm hdel hd
      subst hm hdel hd
      have hsl : sl = #[k0, k1, k2, k3, some (.builtin n), k5] := by
        obtain ⟨l⟩ := sl
        simp only at hs
        rw [hs]
      subst hsl
      exact ⟨nm, qn, ns, bs, bm, sn, sub, ab, col, dd, k0, k1, k2, k3, k5, ho, ht⟩
    · cases h
  · cases h
open He He5
theorem exc_of {K : PySem.W.Frag} {mg : Str → Option Value} {x : Str} {C : Addr} {f qual : Str} {st : Stmt} {fd : FuncData} (h : xcB K C f = true) (g : mg x = some (.ref C)) (F : Fun K "__init__" qual st (ma K C "__init__") fd) (b : Binds K fd ["self", f] []) : ExcAt K mg x C f qual st := by
  obtain ⟨h1, h⟩ := ba h
  obtain ⟨h2, h⟩ := ba h
  obtain ⟨h3, h⟩ := ba h
  obtain ⟨h4, h⟩ := ba h
  obtain ⟨h5, h⟩ := ba h
  obtain ⟨h6, h⟩ := ba h
  obtain ⟨h7, h⟩ := ba h
  obtain ⟨h8, h9⟩ := ba h
  exact ⟨⟨xsh_of h1, eqO_ok h2, of_decide_eq_true h3, of_decide_eq_true h4, h5⟩, xfB_ok h6, g, of_decide_eq_true h7, _, fd, eqO_ok h8, of_decide_eq_true h9, F, b⟩
end L3
set_option Elab.async false
set_option linter.all false
set_option maxRecDepth 100000
set_option maxHeartbeats 4000000
namespace L3
open PySem PySem.Spec PyProof.Rows L2 PySem.NumText
end L3
set_option Elab.async false
set_option linter.all false
set_option maxRecDepth 100000
set_option maxHeartbeats 4000000
namespace L3
open PySem PySem.Spec PyProof.Rows L2 PySem.Calls
def keyP : Key → PyData
  | .inl i => .int i
  | .inr x => .str x
mutual
def toX : D → Option PyData
  | .non => some .none
  | .bl b => some (.bool b)
  | .int i => some (.int i)
  | .str x => some (.str x)
  | .tup ds => (toXL ds).map .tuple
  | .lst ds => (toXL ds).map .list
  | .dic ks => (toXK ks).map .dict
  | .scr _ | .ref _ | .ty _ | .ins _ _ | .obj _ _ => none
def toXL : List D → Option (List PyData)
  | [] => some []
  | d :: ds => match toX d with
    | some p => (toXL ds).map (p :: ·)
    | none => none
def toXK : List (Key × D) → Option (List (PyData × PyData))
  | [] => some []
  | (k, d) :: ds => match toX d with
    | some p => (toXK ds).map ((keyP k, p) :: ·)
    | none => none
end
mutual
inductive Dx (K : PySem.W.Frag) (H : Hp) : V → PyData → Prop
  | non : Dx K H .non .none
  | bl (b : Bool) : Dx K H (.bl b) (.bool b)
  | int (i : Int) : Dx K H (.int i) (.int i)
  | str (x : Str) : Dx K H (.str x) (.str x)
  | lst {a : Addr} {xs : List V} {ds : List PyData} : H a = some (.lst xs) → DxL K H xs ds → Dx K H (.ref a) (.list ds)
  | tup {a : Addr} {xs : List V} {ds : List PyData} : SqT K H a xs → DxL K H xs ds → Dx K H (.ref a) (.tuple ds)
  | dic {a : Addr} {ks : List (Key × V)} {ds : List (PyData × PyData)} : H a = some (.dK ks) → DxK K H ks ds → Dx K H (.ref a) (.dict ds)
inductive DxL (K : PySem.W.Frag) (H : Hp) : List V → List PyData → Prop
  | nil : DxL K H [] []
  | cons {v : V} {vs : List V} {d : PyData} {ds : List PyData} : Dx K H v d → DxL K H vs ds → DxL K H (v :: vs) (d :: ds)
inductive DxK (K : PySem.W.Frag) (H : Hp) : List (Key × V) → List (PyData × PyData) → Prop
  | nil : DxK K H [] []
  | cons {k : Key} {v : V} {vs : List (Key × V)} {d : PyData} {ds : List (PyData × PyData)} : Dx K H v d → DxK K H vs ds → DxK K H ((k, v) :: vs) ((keyP k, d) :: ds)
end
mutual
theorem rep_x {K : PySem.W.Frag} {F H : Hp} (l : Le F H) : ∀ {d : D} {v : V} {p : PyData}, Rep K F d v → toX d = some p → Dx K H v p
  | _, _, _, .non, e => by cases e; exact .non
  | _, _, _, .bl b, e => by cases e; exact .bl b
  | _, _, _, .int i, e => by cases e; exact .int i
  | _, _, _, .str x, e => by cases e; exact .str x
  | _, _, _, .ref _, e => nomatch e
  | _, _, _, .ty _, e => nomatch e
  | _, _, _, .tup h r, e => by
    unfold toX at e
    obtain ⟨ps, e1, e2⟩ := Option.map_eq_some_iff.mp e
    subst e2
    exact .tup (sqT_mono l h) (rep_xl l r e1)
  | _, _, _, .lst h r, e => by
    unfold toX at e
    obtain ⟨ps, e1, e2⟩ := Option.map_eq_some_iff.mp e
    subst e2
    exact .lst (l _ _ h) (rep_xl l r e1)
  | _, _, _, .scr _ _, e => nomatch e
  | _, _, _, .ins _ _ _, e => nomatch e
  | _, _, _, .obj _ _, e => nomatch e
  | _, _, _, .dic h r, e => by
    unfold toX at e
    obtain ⟨ps, e1, e2⟩ := Option.map_eq_some_iff.mp e
    subst e2
    exact .dic (l _ _ h) (rep_xk l r e1)
theorem rep_xl {K : PySem.W.Frag} {F H : Hp} (l : Le F H) : ∀ {d : List D} {v : List V} {p : List PyData}, RepL K F d v → toXL d = some p → DxL K H v p
  | _, _, _, .nil, e => by cases e; exact .nil
  | _, _, _, .cons h r, e => by
    unfold toXL at e
    split at e
    · rename_i q eq
      obtain ⟨ps, e1, e2⟩ := Option.map_eq_some_iff.mp e
      subst e2
      exact .cons (rep_x l h eq) (rep_xl l r e1)
    · cases e
theorem rep_xk {K : PySem.W.Frag} {F H : Hp} (l : Le F H) : ∀ {d : List (Key × D)} {v : List (Key × V)} {p : List (PyData × PyData)}, RepK K F d v → toXK d = some p → DxK K H v p
  | _, _, _, .nil, e => by cases e; exact .nil
  | _, _, _, .cons h r, e => by
    unfold toXK at e
    split at e
    · rename_i q eq
      obtain ⟨ps, e1, e2⟩ := Option.map_eq_some_iff.mp e
      subst e2
      exact .cons (rep_x l h eq) (rep_xk l r e1)
    · cases e
end
def SysM (K : PySem.W.Frag) : Prop := ∃ o, K.lookup sysModules = some o ∧ o.cls ≠ .type "list"
theorem sys_of {K : PySem.W.Frag} (h : sysB K = true) : SysM K := by
  unfold sysB at h
  split at h
  · rename_i n a b c e
    refine ⟨_, e, fun z => ?_⟩
    have z : Value.type n = Value.type "list" := z
    cases z
    simp at h
  · cases h
section
variable {X : Cx} {pins : List (Addr × Obj)} {σ : L2.St} {H : Hp} {s : Shared}
theorem nil_notin : sysModules ∉ ([] : List Addr) := fun h => by cases h
theorem paired_keys {h : Heap} : ∀ {es : List DictEntry} {vs : List (Key × Value)}, Pairs (mixKind X.prog X.w) es vs → ∃ as, ReadsAll h (es.map (·.key)) (vs.map fun p => keyP p.1) as ∧ sysModules ∉ as
  | _, _, .nil => ⟨[], .nil, nil_notin⟩
  | _, _, .cons (kv := kv) h1 h2 r => by
    obtain ⟨as, q1, q2⟩ := paired_keys r
    obtain ⟨k, u⟩ := kv
    rcases keyIs_shape (show keyIs k _ = true from h1) with ⟨i, t, e1, e2⟩ | ⟨x, t, e1, e2⟩
    · have e1 : k = .inl i := e1
      subst e1
      refine ⟨[] ++ as, ?_, by simpa using q2⟩
      rw [List.map_cons, List.map_cons, e2]
      exact .cons (.int i t) q1
    · have e1 : k = .inr x := e1
      subst e1
      refine ⟨[] ++ as, ?_, by simpa using q2⟩
      rw [List.map_cons, List.map_cons, e2]
      exact .cons (.str x t) q1
theorem paired_vals : ∀ {es : List DictEntry} {vs : List (Key × Value)}, Pairs (mixKind X.prog X.w) es vs → es.map (·.val) = vs.map (·.2)
  | _, _, .nil => rfl
  | _, _, .cons h1 h2 r => by rw [List.map_cons, List.map_cons, h2, paired_vals r]
mutual
theorem Dx.reads (I : Inv X pins σ H s) (hS : SysM X.K) : ∀ {v : V} {d : PyData} {u : Value}, Dx X.K H v d → RelV v u → ∃ as, Reads s.heap u d as ∧ sysModules ∉ as
  | _, _, _, .non, r => by
    cases r
    exact ⟨_, Reads.none, nil_notin⟩
  | _, _, _, .bl b, r => by
    cases r
    exact ⟨_, Reads.bool b, nil_notin⟩
  | _, _, _, .int i, r => by
    obtain ⟨t, rfl⟩ := r
    exact ⟨_, Reads.int i t, nil_notin⟩
  | _, _, _, .str x, r => by
    obtain ⟨t, rfl⟩ := r
    exact ⟨_, Reads.str x t, nil_notin⟩
  | _, _, _, .lst (a := a) hs ha, r => by
    cases r
    obtain ⟨its, rv, ⟨o, n, ho, hc, _, hd⟩, _⟩ := I.list (.inl (.inl hs))
    obtain ⟨as, hr, hn⟩ := DxL.reads I hS ha rv
    refine ⟨_, Reads.list ho hc hd hr, fun hm => ?_⟩
    rcases List.mem_cons.mp hm with e | hm
    · obtain ⟨o', e1, e2⟩ := hS
      have e3 := I.kIn _ _ e1
      rw [e] at e3
      rw [ho] at e3
      cases e3
      exact e2 hc
    · exact hn hm
  | _, _, _, .tup hs ha, r => by
    cases r
    obtain ⟨its, rv, ⟨o, ho, hc, n, hd⟩, _⟩ := I.tuple hs
    obtain ⟨as, hr, hn⟩ := DxL.reads I hS ha rv
    exact ⟨_, Reads.tuple ho hc hd hr, hn⟩
  | _, _, _, .dic (a := a) (ks := ks) (ds := ds) hs ha, r => by
    cases r
    obtain ⟨_, hsys, vs, kv, o, es, ep, ho, hx, hd, _, hp, _⟩ := I.hok _ _ hs
    obtain ⟨as, q1, q2⟩ := paired_keys (h := s.heap) hp
    obtain ⟨bs, q3, q4⟩ := DxK.reads I hS ha kv
    have ek : ds.map (·.1) = vs.map fun p => keyP p.1 := DxK.keys ha kv
    refine ⟨_, Reads.dict ho hx.1 hd (by rw [ek]; exact q1) (by rw [paired_vals hp]; exact q3), fun hm => ?_⟩
    rcases List.mem_append.mp hm with hm | hm
    · rcases List.mem_cons.mp hm with e | hm
      · subst e
        rw [beq_self_eq_true] at hsys
        cases hsys
      · exact q2 hm
    · exact q4 hm
theorem DxL.reads (I : Inv X pins σ H s) (hS : SysM X.K) : ∀ {vs : List V} {ds : List PyData} {us : List Value}, DxL X.K H vs ds → Vals vs us → ∃ as, ReadsAll s.heap us ds as ∧ sysModules ∉ as
  | _, _, _, .nil, r => by
    cases r
    exact ⟨_, ReadsAll.nil, nil_notin⟩
  | _, _, _, .cons h1 h2, r => by
    cases r with
    | cons r1 r2 =>
      obtain ⟨as, q1, n1⟩ := Dx.reads I hS h1 r1
      obtain ⟨bs, q2, n2⟩ := DxL.reads I hS h2 r2
      exact ⟨_, ReadsAll.cons q1 q2, fun hm => (List.mem_append.mp hm).elim n1 n2⟩
theorem DxK.reads (I : Inv X pins σ H s) (hS : SysM X.K) : ∀ {ks : List (Key × V)} {ds : List (PyData × PyData)} {us : List (Key × Value)}, DxK X.K H ks ds → KV ks us → ∃ as, ReadsAll s.heap (us.map (·.2)) (ds.map (·.2)) as ∧ sysModules ∉ as
  | _, _, _, .nil, r => by
    cases r
    exact ⟨_, ReadsAll.nil, nil_notin⟩
  | _, _, _, .cons h1 h2, r => by
    cases r with
    | cons r1 r2 =>
      obtain ⟨as, q1, n1⟩ := Dx.reads I hS h1 r1.2
      obtain ⟨bs, q2, n2⟩ := DxK.reads I hS h2 r2
      exact ⟨_, ReadsAll.cons q1 q2, fun hm => (List.mem_append.mp hm).elim n1 n2⟩
theorem DxK.keys {K : PySem.W.Frag} {H : Hp} : ∀ {ks : List (Key × V)} {ds : List (PyData × PyData)} {us : List (Key × Value)}, DxK K H ks ds → KV ks us → ds.map (·.1) = us.map fun p => keyP p.1
  | _, _, _, .nil, r => by
    cases r
    rfl
  | _, _, _, .cons h1 h2, r => by
    cases r with
    | cons r1 r2 =>
      rw [List.map_cons, List.map_cons, DxK.keys h2 r2]
      exact congrArg (fun z => keyP z :: _) r1.1
end
end
def rRepX : List D → Gp → DK → Prop := fun ds G Q => match ds with
  | [x] => ∃ d, toX x = some d ∧ d.showable = true ∧ d.depth ≤ 60 ∧ d.shown.length ≤ sizeLine ∧ Q (.str d.shown) G
  | _ => False
theorem call_reprX {X : Cx} {j : Nat} (hS : SysM X.K) (hu : X.A.guards = some []) (hr : Room j X.A) : CallR X (.builtin "repr") (fun xs H Q => ∃ x d, xs = [x] ∧ Dx X.K H x d ∧ d.showable = true ∧ d.depth ≤ 60 ∧ d.shown.length ≤ sizeLine ∧ Q (.str d.shown) H) := by
  intro pins s σ H xs us Q I r h
  obtain ⟨x, d, rfl, hd, h1, h3, h4, q⟩ := h
  obtain ⟨u, rfl, ru⟩ := vals1 r
  obtain ⟨as, rd, hn⟩ := Dx.reads I hS hd ru
  have un := hr.units
  cases u with
  | ref a =>
    refine repr_of_reads' rd h1 (fun _ => hn) hu (by omega) (fun _ _ e => e) (fun h' u tk hk => ⟨.str d.shown, H, I.kept hk, ⟨u, rfl⟩, q⟩) h4
  | none =>
    cases rd
    exact PySem.P.repr_of_none ⟨.str _, H, I.tok _, ⟨_, rfl⟩, q⟩
  | bool b =>
    cases rd
    exact PySem.P.repr_of_bool ⟨.str _, H, I.tok _, ⟨_, rfl⟩, q⟩
  | int i t =>
    cases rd
    have h1' : i.natAbs.log2 < 1920 := of_decide_eq_true h1
    exact PySem.P.repr_of_int h1' ⟨.str _, H, I.tok _, ⟨_, rfl⟩, q⟩
  | str y t =>
    cases rd
    exact PySem.P.repr_of_str ⟨.str _, H, I.tok _, ⟨_, rfl⟩, q⟩ h4
  | _ => cases rd
theorem cd_reprX {K : PySem.W.Frag} : CallD K (fun xs H Q => ∃ x d, xs = [x] ∧ Dx K H x d ∧ d.showable = true ∧ d.depth ≤ 60 ∧ d.shown.length ≤ sizeLine ∧ Q (.str d.shown) H) rRepX := by
  intro F G H xs ds Q Q3 c r h k
  unfold rRepX at h
  split at h
  · obtain ⟨v, rfl, rv⟩ := r.inv1
    obtain ⟨d, h0, h1, h3, h4, q⟩ := h
    exact ⟨_, d, rfl, rep_x c.frz rv h0, h1, h3, h4, k _ _ _ _ _ (Ext.refl c) (.str _) q⟩
  · exact h.elim
def wtKey : Key → Nat
  | .inl _ => 200
  | .inr x => x.length
def okKey : Key → Bool
  | .inl i => decide (i.natAbs.log2 < 200)
  | .inr x => x.cps.toList.all fun c => decide (c < 1000)
mutual
def okD : D → Bool
  | .non => true
  | .bl _ => true
  | .int i => decide (i.natAbs.log2 < 200)
  | .str x => x.cps.toList.all fun c => decide (c < 1000)
  | .tup ds => okL ds
  | .lst ds => okL ds
  | .dic ks => okK ks
  | .scr _ | .ref _ | .ty _ | .ins _ _ | .obj _ _ => false
def okL : List D → Bool
  | [] => true
  | d :: ds => okD d && okL ds
def okK : List (Key × D) → Bool
  | [] => true
  | (k, d) :: ds => okKey k && (okD d && okK ds)
end
mutual
def wtD : D → Nat
  | .int _ => 200
  | .str x => x.length
  | .tup ds => wtL ds
  | .lst ds => wtL ds
  | .dic ks => wtK ks
  | .non | .bl _ | .scr _ | .ref _ | .ty _ | .ins _ _ | .obj _ _ => 0
def wtL : List D → Nat
  | [] => 0
  | d :: ds => wtD d + 1 + wtL ds
def wtK : List (Key × D) → Nat
  | [] => 0
  | (k, d) :: ds => wtKey k + wtD d + 2 + wtK ds
end
mutual
def dpD : D → Nat
  | .tup ds => dpL ds + 1
  | .lst ds => dpL ds + 1
  | .dic ks => dpK ks + 1
  | .int _ | .str _ | .non | .bl _ | .scr _ | .ref _ | .ty _ | .ins _ _ | .obj _ _ => 0
def dpL : List D → Nat
  | [] => 0
  | d :: ds => max (dpD d) (dpL ds)
def dpK : List (Key × D) → Nat
  | [] => 0
  | (_, d) :: ds => max (dpD d) (dpK ds)
end
def Shw (w k : Nat) (p : PyData) : Prop := p.showable = true ∧ p.leavesShort 250 = true ∧ p.weight ≤ w ∧ p.depth ≤ k
theorem shw_int {i : Int} (h : i.natAbs.log2 < 200) : Shw 200 0 (.int i) := by
  refine ⟨by unfold PyData.showable; exact decide_eq_true (by omega), ?_, ?_, Nat.le_refl _⟩
  · unfold PyData.leavesShort
    refine decide_eq_true ?_
    show (Str.ofString (toString i)).length ≤ 250
    rw [PySem.ofString_length]
    have := int_text_length_le (k := 200) (by decide) h
    omega
  · unfold PyData.weight
    split <;> omega
theorem shw_str {x : Str} (h : (x.cps.toList.all fun c => decide (c < 1000)) = true) : Shw x.length 0 (.str x) := by
  refine ⟨by unfold PyData.showable; rfl, ?_, by unfold PyData.weight; exact Nat.le_refl _, Nat.le_refl _⟩
  unfold PyData.leavesShort
  refine List.all_eq_true.mpr fun c hc => decide_eq_true ?_
  have := of_decide_eq_true (List.all_eq_true.mp h c hc)
  exact Nat.lt_of_lt_of_le this (by decide)
theorem shw_key {k : Key} (h : okKey k = true) : Shw (wtKey k) 0 (keyP k) := by
  cases k with
  | inl i => exact shw_int (of_decide_eq_true h)
  | inr x => exact shw_str h
mutual
theorem shw_of : ∀ (d : D), okD d = true → ∃ p, toX d = some p ∧ Shw (wtD d) (dpD d) p
  | .non, _ => ⟨_, rfl, rfl, rfl, Nat.le_refl _, Nat.le_refl _⟩
  | .bl b, _ => ⟨_, rfl, rfl, rfl, Nat.le_refl _, Nat.le_refl _⟩
  | .int i, h => ⟨_, rfl, shw_int (of_decide_eq_true (by unfold okD at h; exact h))⟩
  | .str x, h => ⟨_, rfl, shw_str (by unfold okD at h; exact h)⟩
  | .tup ds, h => by
    unfold okD at h
    obtain ⟨ps, e, a, b, c, d⟩ := shw_ofL ds h
    refine ⟨.tuple ps, by unfold toX; rw [e]; rfl, by unfold PyData.showable; exact a, by unfold PyData.leavesShort; exact b, by unfold PyData.weight wtD; exact c, by unfold PyData.depth dpD; omega⟩
  | .lst ds, h => by
    unfold okD at h
    obtain ⟨ps, e, a, b, c, d⟩ := shw_ofL ds h
    refine ⟨.list ps, by unfold toX; rw [e]; rfl, by unfold PyData.showable; exact a, by unfold PyData.leavesShort; exact b, by unfold PyData.weight wtD; exact c, by unfold PyData.depth dpD; omega⟩
  | .dic ks, h => by
    unfold okD at h
    obtain ⟨ps, e, a, b, c, d⟩ := shw_ofK ks h
    refine ⟨.dict ps, by unfold toX; rw [e]; rfl, by unfold PyData.showable; exact a, by unfold PyData.leavesShort; exact b, by unfold PyData.weight wtD; exact c, by unfold PyData.depth dpD; omega⟩
  | .scr _, h => by cases h
  | .ref _, h => by cases h
  | .ty _, h => by cases h
  | .ins _ _, h => by cases h
  | .obj _ _, h => by cases h
theorem shw_ofL : ∀ (ds : List D), okL ds = true → ∃ ps, toXL ds = some ps ∧ PyData.showableAll ps = true ∧ PyData.leavesShortAll 250 ps = true ∧ PyData.weightAll ps ≤ wtL ds ∧ PyData.depthAll ps ≤ dpL ds
  | [], _ => ⟨[], rfl, rfl, rfl, Nat.le_refl _, Nat.le_refl _⟩
  | d :: ds, h => by
    unfold okL at h
    rw [Bool.and_eq_true] at h
    obtain ⟨p, e1, a1, b1, c1, d1⟩ := shw_of d h.1
    obtain ⟨ps, e2, a2, b2, c2, d2⟩ := shw_ofL ds h.2
    refine ⟨p :: ps, by unfold toXL; rw [e1, e2]; rfl, by unfold PyData.showableAll; rw [a1, a2]; rfl, by unfold PyData.leavesShortAll; rw [b1, b2]; rfl, by unfold PyData.weightAll wtL; omega, by unfold PyData.depthAll dpL; omega⟩
theorem shw_ofK : ∀ (ks : List (Key × D)), okK ks = true → ∃ ps, toXK ks = some ps ∧ PyData.showableKv ps = true ∧ PyData.leavesShortKv 250 ps = true ∧ PyData.weightKv ps ≤ wtK ks ∧ PyData.depthKv ps ≤ dpK ks
  | [], _ => ⟨[], rfl, rfl, rfl, Nat.le_refl _, Nat.le_refl _⟩
  | (k, d) :: ds, h => by
    unfold okK at h
    rw [Bool.and_eq_true, Bool.and_eq_true] at h
    obtain ⟨a0, b0, c0, d0⟩ := shw_key h.1
    obtain ⟨p, e1, a1, b1, c1, d1⟩ := shw_of d h.2.1
    obtain ⟨ps, e2, a2, b2, c2, d2⟩ := shw_ofK ds h.2.2
    refine ⟨(keyP k, p) :: ps, by unfold toXK; rw [e1, e2]; rfl, by unfold PyData.showableKv; rw [a0, a1, a2]; rfl, by unfold PyData.leavesShortKv; rw [b0, b1, b2]; rfl, by unfold PyData.weightKv wtK; omega, by unfold PyData.depthKv dpK; omega⟩
end
noncomputable def reprD (d : D) : Str := match toX d with
  | some p => p.shown
  | none => Str.empty
theorem repr_ok {d : D} {G : Gp} {Q : DK} (h : okD d = true) (hw : wtD d ≤ 60000) (hd : dpD d ≤ 60) (q : Q (.str (reprD d)) G) : rRepX [d] G Q := by
  obtain ⟨p, e, a, b, c, z⟩ := shw_of d h
  refine ⟨p, e, a, Nat.le_trans z hd, ?_, ?_⟩
  · have := PyData.shown_le 250 (by decide) p b
    have h2 : (250 + 2) * p.weight ≤ 252 * 60000 := Nat.mul_le_mul (Nat.le_refl _) (Nat.le_trans c hw)
    have e3 : sizeLine = 16777216 := rfl
    omega
  · unfold reprD at q
    rw [e] at q
    exact q
end L3
set_option Elab.async false
set_option linter.all false
set_option maxRecDepth 100000
set_option maxHeartbeats 4000000
namespace OwE
open PySem PySem.Spec PyProof.Rows PySem.W PySem.SeqAt
section
variable {prog : Program} {w : World} {A : Around} {E : Value → Shared → Prop} {s : Shared} {K : Frag} {x C f : Addr} {ox : Obj} {od : Option Obj} {b tb : Value}
end
end OwE
namespace L3
open PySem PySem.Spec PyProof.Rows L2 PySem.Calls
structure EqC (K : PySem.W.Frag) (C : Addr) : Prop where
  c : SlX.SCls K C
  i : SlX.SIsi K C
  ne : PySem.W.findIn K (.ref C) "__ne__" = some (some (.builtin "object.__ne__"))
  nb : ∀ n : String, n ∈ ["NoneType", "bool", "int", "str", "tuple", "list", "dict"] → PySem.W.mroIn K C (.type n) = some false ∧ PySem.W.notFirst K C (.type n) = true
section
variable {X : Cx} {pins : List (Addr × Obj)} {σ : L2.St} {H F : Hp} {G : Gp} {s : Shared} {d : D} {v : V} {u t : Value} {C : Addr}
end
section
variable {X : Cx} {C : Addr} {sp : Sp3} {k j : Nat}
end
end L3
namespace OwE
open PySem PySem.Spec PyProof.Rows PySem.W
end OwE
namespace L3
open PySem PySem.Spec PyProof.Rows L2 PySem.Calls
structure TrC (K : PySem.W.Frag) (C : Addr) : Prop where
  bo : PySem.W.findIn K (.ref C) "__bool__" = some none
  ln : PySem.W.findIn K (.ref C) "__len__" = some none
open He He5
end L3
set_option Elab.async false
set_option linter.all false
set_option maxRecDepth 100000
set_option maxHeartbeats 4000000
namespace L3
open PySem PySem.Spec PyProof.Rows L2 PySem.Calls
structure MetF (P : Program) (w : World) (K : PySem.W.Frag) (mg : Str → Option Value) (base : Heap) (k : Nat) (C : Addr) (m qual : Str) (st : Stmt) (ps : List Str) (sp : Sp3) : Prop where
  c : SlX.SCls K C
  ex : ∃ g fd, Meth K C m g ∧ Fun K m qual st g fd ∧ Binds K fd ps [] ∧ FnOk P w K mg base (L2.CX P w) k g fd ps (dn K sp)
section
variable {P : Program} {w : World} {K : PySem.W.Frag} {mg : Str → Option Value} {base : Heap} {C : Addr} {m qual : Str} {st : Stmt} {N ps : List Str} {sp : Sp3} {k : Nat}
end
section
variable {X : Cx} {CX : CXT} {F0 : Pt} {o e : Expr} {es : List Expr} {kws : List Keyword} {pos apos : Pos} {m qual : Str} {C g : Addr} {fd : FuncData} {ps ks : List Str} {sp : Sp} {E : L2.St → XK} {k n j : Nat} {gg : List Value → List Value → List Value} {gV : List V → List V → List V} {ta : TE} {t tk : TA}
end
section
variable {X : Cx} {F0 : Pt} {o e : Expr} {es : List Expr} {kws : List Keyword} {pos apos : Pos} {m qual : Str} {C : Addr} {st : Stmt} {ps : List Str} {sp : Sp3} {W : WK} {te : TE3} {t tk : TA3} {k j : Nat}
end
structure CMtF (P : Program) (w : World) (K : PySem.W.Frag) (mg : Str → Option Value) (base : Heap) (k : Nat) (C : Addr) (m qual : Str) (st : Stmt) (ps : List Str) (sp : Sp3) : Prop where
  ex : ∃ mc p g fd, ClX.CRead K C mc ∧ ClX.CMet K C mc m p g ∧ Fun K m qual st g fd ∧ Binds K fd ps [] ∧ FnOk P w K mg base (L2.CX P w) k g fd ps (dn K sp)
section
variable {P : Program} {w : World} {K : PySem.W.Frag} {mg : Str → Option Value} {base : Heap} {C : Addr} {m qual : Str} {st : Stmt} {N ps : List Str} {sp : Sp3} {k : Nat}
end
section
variable {X : Cx} {CX : CXT} {F0 : Pt} {o : Expr} {kws : List Keyword} {pos apos : Pos} {m qual : Str} {C g p : Addr} {mc : Value} {fd : FuncData} {ps ks : List Str} {sp : Sp} {E : L2.St → XK} {k j : Nat} {gg : List Value → List Value → List Value} {gV : List V → List V → List V} {ta : TE} {tk : TA}
end
section
variable {X : Cx} {F0 : Pt} {o e : Expr} {es : List Expr} {kws : List Keyword} {pos apos p : Pos} {m qual : Str} {C : Addr} {st : Stmt} {ps : List Str} {sp : Sp3} {W : WK} {te : TE3} {t tk : TA3} {k j : Nat}
end
end L3
set_option Elab.async false
set_option linter.all false
set_option maxRecDepth 100000
set_option maxHeartbeats 4000000
namespace L3
open PySem PySem.Spec PyProof.Rows L2 PySem.Calls
def ascB (x : Str) : Bool := x.cps.toList.all fun c => decide (c < 1000)
theorem ascB_app {x y : Str} (hx : ascB x = true) (hy : ascB y = true) : ascB (x ++ y) = true := by
  unfold ascB at *
  show List.all ((x ++ y).cps.toList) _ = true
  have e : (x ++ y).cps.toList = x.cps.toList ++ y.cps.toList := by
    show (x.cps ++ y.cps).toList = _
    simp
  rw [e, List.all_append, hx, hy]
  rfl
theorem hex_asc : ∀ c ∈ List.range 1000, ((Nat.toDigits 16 c).map Char.toNat).all (fun d => decide (d < 1000)) = true := by decide +kernel
theorem reprChar_asc {q c : Nat} (hc : c < 1000) : (Builtin.Str.reprChar q c).all (fun d => decide (d < 1000)) = true := by
  have hx := hex_asc c (List.mem_range.mpr hc)
  have pad : ∀ n, (List.replicate n 48 ++ (Nat.toDigits 16 c).map Char.toNat).all (fun d => decide (d < 1000)) = true := fun n => by
    rw [List.all_append, hx, Bool.and_true]
    exact List.all_eq_true.mpr fun d hd => by rw [(List.mem_replicate.mp hd).2]; rfl
  have e92 : ∀ d, d < 1000 → ([92, d] : List Nat).all (fun d => decide (d < 1000)) = true := fun d hd => by
    simp
    omega
  unfold Builtin.Str.reprChar
  dsimp only
  split
  · exact e92 c hc
  · split
    · exact e92 _ (by decide)
    · split
      · exact e92 _ (by decide)
      · split
        · exact e92 _ (by decide)
        · split
          · simp
            omega
          · split
            · rw [List.all_append, pad]
              rfl
            · split
              · rw [List.all_append, pad]
                rfl
              · rw [List.all_append, pad]
                rfl
theorem fold_asc (q : Nat) : ∀ (l : List Nat) (acc : Array Nat), (l.all fun c => decide (c < 1000)) = true → (acc.toList.all fun c => decide (c < 1000)) = true → ((l.foldl (fun out c => out ++ (Builtin.Str.reprChar q c).toArray) acc).toList.all fun c => decide (c < 1000)) = true
  | [], acc, _, h => h
  | c :: r, acc, hl, h => by
    rw [List.all_cons, Bool.and_eq_true] at hl
    refine fold_asc q r _ hl.2 ?_
    rw [Array.toList_append, List.all_append, h, reprChar_asc (of_decide_eq_true hl.1)]
    rfl
theorem repr_asc {x : Str} (h : ascB x = true) : ascB (reprText x) = true := by
  have hq : reprQuote x < 1000 := by
    unfold reprQuote
    split <;> decide
  unfold ascB reprText
  rw [Array.toList_push, List.all_append, ← Array.foldl_toList, fold_asc _ _ _ h (by simp; exact hq)]
  simp
  exact hq
theorem int_asc (z : Int) : ascB (Str.ofString (toString z)) = true := by
  unfold ascB
  refine List.all_eq_true.mpr fun c hc => decide_eq_true ?_
  rw [Str.ofString_eq_toList] at hc
  obtain ⟨ch, h1, rfl⟩ := List.mem_map.mp (show c ∈ (toString z).toList.map Char.toNat by simpa using hc)
  have := PySem.int_ascii z ch h1
  omega
theorem join_asc {s : Str} (hs : ascB s = true) : ∀ {ts : List Str}, ts.all ascB = true → ascB (Str.join s ts) = true
  | [], _ => rfl
  | [x], h => by
    rw [List.all_cons, Bool.and_eq_true] at h
    exact h.1
  | x :: y :: r, h => by
    rw [List.all_cons, Bool.and_eq_true] at h
    show ascB (x ++ s ++ Str.join s (y :: r)) = true
    exact ascB_app (ascB_app h.1 hs) (join_asc hs h.2)
theorem from_asc : ∀ {ts : List Str} {k : Nat} {acc : Str}, ts.all ascB = true → ascB acc = true → ascB (textFrom k acc ts) = true
  | [], _, _, _, h => h
  | t :: r, k, acc, ht, h => by
    rw [List.all_cons, Bool.and_eq_true] at ht
    show ascB (textFrom (k + 1) (acc ++ (if k > 0 then ", " else "" : String) ++ t) r) = true
    refine from_asc ht.2 (ascB_app (ascB_app h ?_) ht.1)
    split <;> decide +kernel
theorem asc_consts : ascB "[" = true ∧ ascB "]" = true ∧ ascB "(" = true ∧ ascB ")" = true ∧ ascB ",)" = true ∧ ascB ", " = true ∧ ascB "{" = true ∧ ascB "}" = true ∧ ascB ": " = true ∧ ascB "None" = true ∧ ascB "True" = true ∧ ascB "False" = true := by decide +kernel
theorem list_asc {ts : List Str} (h : ts.all ascB = true) : ascB (listText ts) = true := ascB_app (from_asc h asc_consts.1) asc_consts.2.1
theorem tuple_asc {ts : List Str} (h : ts.all ascB = true) : ascB (tupleText ts) = true := by
  obtain ⟨_, _, c3, c4, c5, c6, _⟩ := asc_consts
  refine ascB_app (ascB_app c3 (join_asc c6 h)) ?_
  split
  · exact c5
  · exact c4
theorem dict_asc {ts : List Str} (h : ts.all ascB = true) : ascB (dictText ts) = true := by
  obtain ⟨_, _, _, _, _, c6, c7, c8, _⟩ := asc_consts
  exact ascB_app (ascB_app c7 (join_asc c6 h)) c8
theorem key_asc {k : Key} (h : okKey k = true) : ascB (keyP k).shown = true := by
  cases k with
  | inl i => unfold keyP PyData.shown; exact int_asc i
  | inr x => unfold keyP PyData.shown; exact repr_asc h
mutual
theorem asc_of : ∀ (d : D) (p : PyData), okD d = true → toX d = some p → ascB p.shown = true
  | .non, _, _, e => by cases e; unfold PyData.shown; exact asc_consts.2.2.2.2.2.2.2.2.2.1
  | .bl b, _, _, e => by cases e; cases b <;> (unfold PyData.shown; decide +kernel)
  | .int i, _, _, e => by cases e; unfold PyData.shown; exact int_asc i
  | .str x, _, h, e => by cases e; unfold okD at h; unfold PyData.shown; exact repr_asc h
  | .tup ds, _, h, e => by
    unfold okD at h
    unfold toX at e
    obtain ⟨ps, e1, e2⟩ := Option.map_eq_some_iff.mp e
    subst e2
    unfold PyData.shown
    exact tuple_asc (asc_ofL ds ps h e1)
  | .lst ds, _, h, e => by
    unfold okD at h
    unfold toX at e
    obtain ⟨ps, e1, e2⟩ := Option.map_eq_some_iff.mp e
    subst e2
    unfold PyData.shown
    exact list_asc (asc_ofL ds ps h e1)
  | .dic ks, _, h, e => by
    unfold okD at h
    unfold toX at e
    obtain ⟨ps, e1, e2⟩ := Option.map_eq_some_iff.mp e
    subst e2
    unfold PyData.shown
    exact dict_asc (asc_ofK ks ps h e1)
  | .scr _, _, h, _ => by cases h
  | .ref _, _, h, _ => by cases h
  | .ty _, _, h, _ => by cases h
  | .ins _ _, _, h, _ => by cases h
  | .obj _ _, _, h, _ => by cases h
theorem asc_ofL : ∀ (ds : List D) (ps : List PyData), okL ds = true → toXL ds = some ps → (PyData.shownAll ps).all ascB = true
  | [], _, _, e => by cases e; rfl
  | d :: ds, _, h, e => by
    unfold okL at h
    rw [Bool.and_eq_true] at h
    unfold toXL at e
    split at e
    · rename_i q eq
      obtain ⟨ps, e1, e2⟩ := Option.map_eq_some_iff.mp e
      subst e2
      unfold PyData.shownAll
      rw [List.all_cons, asc_of d q h.1 eq, asc_ofL ds ps h.2 e1]
      rfl
    · cases e
theorem asc_ofK : ∀ (ks : List (Key × D)) (ps : List (PyData × PyData)), okK ks = true → toXK ks = some ps → (PyData.shownKv ps).all ascB = true
  | [], _, _, e => by cases e; rfl
  | (k, d) :: ds, _, h, e => by
    unfold okK at h
    rw [Bool.and_eq_true, Bool.and_eq_true] at h
    unfold toXK at e
    split at e
    · rename_i q eq
      obtain ⟨ps, e1, e2⟩ := Option.map_eq_some_iff.mp e
      subst e2
      unfold PyData.shownKv
      rw [List.all_cons, ascB_app (ascB_app (key_asc h.1) asc_consts.2.2.2.2.2.2.2.2.1) (asc_of d q h.2.1 eq), asc_ofK ds ps h.2.2 e1]
      rfl
    · cases e
end
theorem repr_ex {d : D} (h : okD d = true) (hw : wtD d ≤ 60000) (hd : dpD d ≤ 60) : ∃ p, toX d = some p ∧ p.showable = true ∧ p.depth ≤ 60 ∧ p.shown.length ≤ sizeLine ∧ ascB p.shown = true := by
  obtain ⟨p, a, b, c, e, _⟩ := (repr_ok (Q := fun _ _ => True) (G := fun _ => none) h hw hd trivial)
  exact ⟨p, a, b, c, e, asc_of d p h a⟩
end L3
set_option Elab.async false
set_option linter.all false
set_option maxRecDepth 100000
set_option maxHeartbeats 4000000
namespace L2
open PySem PySem.Spec PyProof.Rows
section
variable {M : Model} {A : Around} {E : Value → Shared → Prop} {s : Shared} {Z : Obj → Prop} {base : Heap} {env : Env} {outer l : List Env} {L e : Addr}
end
section
variable {X : Cx} {pins : List (Addr × Obj)} {σ : St} {H H3 : Hp} {s s3 : Shared}
end
end L2
namespace L3
open PySem PySem.Spec PyProof.Rows L2
section
variable {X : Cx} {F0 : Pt}
end
end L3
set_option Elab.async false
set_option linter.all false
set_option maxRecDepth 100000
set_option maxHeartbeats 4000000
namespace L2
open PySem PySem.Spec PyProof.Rows
end L2
namespace L3
open PySem PySem.Spec PyProof.Rows L2
structure ERoot.Ok (R : ERoot) : Prop where
  F : ExcBaseFacts R.B R.newId R.initId R.tail
  S : StoreFacts R.B R.tail "object.__setattr__" "object"
end L3
namespace L2
open PySem PySem.Spec PyProof.Rows
open L3 (ERoot rootLE rootAE refsR)
theorem rootLE_ok : rootLE.Ok := ⟨PySem.F.excBase_LookupError, PySem.F.store_LookupError⟩
theorem rootAE_ok : rootAE.Ok := ⟨PySem.F.excBase_ArithmeticError, PySem.F.store_ArithmeticError⟩
theorem refsR_cases (t : List Value) : ∀ l : List Value, refsR t l = true → (∃ c r, l = .ref c :: r ∧ refsR t r = true) ∨ l = t := by
  intro l e
  cases l with
  | nil => exact .inr (beq_iff_eq.mp e)
  | cons a r =>
    cases a with
    | ref c => exact .inl ⟨c, r, rfl, e⟩
    | _ => exact .inr (beq_iff_eq.mp e)
theorem refsR_pass {R : ERoot} (ok : R.Ok) (self : Value) : ∀ l : List Value, refsR R.tail l = true → PySem.refuseLoop self "__setattr__" l = pure ()
  | [], e => by
    rcases refsR_cases _ _ e with ⟨c, r, q, _⟩ | q
    · cases q
    · rw [q]; exact ok.S.passes self
  | a :: r, e => by
    rcases refsR_cases _ _ e with ⟨c, r', q, h⟩ | q
    · obtain ⟨rfl, rfl⟩ := List.cons.inj q
      rw [PySem.refuseLoop_ref]
      exact refsR_pass ok self r h
    · rw [q]; exact ok.S.passes self
theorem refsR_has {t : List Value} (X : String) : ∀ l : List Value, refsR t l = true → l.contains (.type X) = t.contains (.type X)
  | [], e => by
    rcases refsR_cases _ _ e with ⟨c, r, q, _⟩ | q
    · cases q
    · rw [q]
  | a :: r, e => by
    rcases refsR_cases _ _ e with ⟨c, r', q, h⟩ | q
    · obtain ⟨rfl, rfl⟩ := List.cons.inj q
      rw [List.contains_cons, refsR_has X r h]
      rfl
    · rw [q]
section
open Builtin Builtin.ObjectAttr PySem.W PySem.HandSPX
variable {prog : Program} {w : World} {A : Around} {R : Result → Shared → Prop} {hp : Heap} {g : Array GenState} {d : Drawn} {t : Nat} {os : OsState}
theorem exc_osaR {T : ERoot} (ok : T.Ok) {K : PySem.W.Frag} {name : Str} {tk : Tok} {v : Value} {x C : Addr} {fv : Array Value} {cd : ClassData}
    (X : K.In hp) (hx : hp.get? x = some { cls := .ref C, data := .fields fv }) (hcd : PySem.W.clsIn K C = some cd) (hm : refsR T.tail cd.mro = true) (hh : cd.hasDict = true) (ha : PySem.W.findIn K (.ref C) name = some none)
    (hq : ∀ h' tk' dx, (∀ b o, b ≠ x → hp.get? b = some o → h'.get? b = some o) → hp.objs.size ≤ dx → dx ≠ x → h'.get? x = some { cls := .ref C, dict := some dx, data := .fields fv } →
      h'.Ns1 dx (fun y => if y = name then some v else none) → R (.ok (.ret .none)) ⟨h', g, d, tk', os⟩) :
    codeAny (model prog w) A (.call (.builtin "object.__setattr__") ⟨[.ref x, .str name tk, v], []⟩) R ⟨hp, g, d, t, os⟩ := by
  have I : PySem.W.InstAt hp x { cls := .ref C, data := .fields fv } C none := ⟨hx, rfl, rfl, trivial⟩
  have SF := PySem.F.store_object
  have hob : cd.mro.contains (.type "object") = true := (refsR_has "object" _ hm).trans ok.S.hasOwner
  have ne : cd.mro.isEmpty = false := by
    cases e : cd.mro with
    | nil => rw [e] at hob; cases hob
    | cons a b => rfl
  have hxs : x ≠ hp.objs.size := Nat.ne_of_lt (Heap.lt_size hx)
  have sub : PySem.W.Looks (model prog w) hp (isInstance (.ref x) (.type "object")) true := I.type.andThen (PySem.W.looks_mroIn X (by unfold PySem.W.mroIn; rw [hcd, Option.bind_some, if_neg (by rw [ne]; decide), hob]))
  refine codeAny_call_builtin SF.slot.plain SF.entry (@PySem.W.check_slot (model prog w) _ _ ⟨hp, g, d, t, os⟩ "object.__setattr__" "object" "__setattr__" (.ref x) [.str name tk, v] [] _ SF.kind SF.split sub (SF.args (.ref x) (.str name tk) v) ?_)
  have hmr : PySem.W.Looks (model prog w) hp (mroOf (.ref C)) cd.mro := (PySem.W.looks_clsIn X hcd).andThen .now
  have L3 : PySem.W.Looks (model prog w) hp (storeTaker? none) none := .now
  have hcls : PySem.W.Looks (model prog w) hp (classData C) cd := PySem.W.looks_clsIn X hcd
  rw [PySem.W.osa_eq, refuse_eq]
  refine wpAny_bind (wpAny_bind (I.type.at (wpAny_bind (hmr.at ?_))))
  rw [refsR_pass ok _ _ hm]
  refine wpAny_pure (wpAny_bind (I.type.at (wpAny_bind ((PySem.W.looks_findIn X ha).at (wpAny_bind (L3.at ?_))))))
  show wpAny _ _ (storeInOwnDict (.ref x) (.ref C) (.str name tk) name v false) _ _ _
  obtain ⟨nm, bs, mro, ns, qn, hd, sn, sb, ab, col, del⟩ := cd
  dsimp only at hh
  subst hh
  unfold storeInOwnDict ownDictForStores
  repeat (first | with_reducible refine store_in_new ?_ ?_ | with_reducible refine wpAny_loadPart_at hx ?_ | with_reducible refine hcls.at ?_ | wp_step)
  · exact ⟨_, #[], _, (Heap.get?_update_ne _ _ _ _ hxs.symm).trans (Heap.get?_push_at rfl rfl), rfl, fun e he => absurd he (by simp), fun _ => rfl⟩
  · intro h' tk' hn' hs
    have hx₁ : (hp.push { cls := .type "dict", data := .dict #[] }).get? x = some { cls := .ref C, data := .fields fv } := Heap.get?_push_of_some _ hx
    refine hq h' tk' hp.objs.size (fun b o hb ho => ?_) (Nat.le_refl _) hxs.symm ?_ hn'
    · exact (hs.2 b (Nat.ne_of_lt (Heap.lt_size ho))).trans ((Heap.get?_update_ne _ _ _ _ hb).trans (Heap.get?_push_of_some _ ho))
    · exact (hs.2 x hxs).trans (Heap.get?_update_self _ hx₁ rfl)
end
structure OexR (R : ERoot) (K : PySem.W.Frag) (C : Addr) : Prop where
  root : R.Ok
  cls : ∃ nm q N bs bm sn sub ab col dd k0 k1 k2 k3 k5, K.lookup C = some (excClassObj nm q C N bs bm true sn sub ab col dd k0 k1 k2 k3 k5 R.newId) ∧ refsR R.tail bm = true
  sa : PySem.W.findIn K (.ref C) "__setattr__" = some (some (.builtin "object.__setattr__"))
  exC : PySem.W.subIn K (.ref C) (.type "BaseException") = some true
  tyC : PySem.W.typeIn K (.ref C) = some (.type "type")
  kC : PySem.W.keepIn K (.ref C) = true
section
variable {R : ERoot} {X : Cx} {pins : List (Addr × Obj)} {σ : St} {H : Hp} {s : Shared} {a C dx : Addr} {f : Str} {y : V} {u : Value} {Q : Unit → Shared → Prop} {E : Value → Shared → Prop} {A : Around}
theorem ost_newR (T : OexR R X.K C) (I : Inv X pins σ H s) (e : H a = some (exo a C none)) (hno : PySem.W.findIn X.K (.ref C) f = some none) (ry : RelV y u)
    (h : ∀ dx s', H dx = none → dx ≠ a → Inv X pins σ (upd (upd H dx (exd dx [(f, y)])) a (exo a C (some dx))) s' → Q () s') : wpAny (model X.prog X.w) A (setAttr (.ref a) f u) Q E s := by
  obtain ⟨nm, q, N, bs, bm, sn, sub, ab, col, dd, k0, k1, k2, k3, k5, hC, hbm⟩ := T.cls
  have hcl : PySem.W.clsIn X.K C = some { name := nm, bases := bs, mro := .ref C :: bm, ns := N, qualname := q, hasDict := true, slotNames := sn, subclasses := sub, abstract := ab, collection := col, hasDel := false } := by unfold PySem.W.clsIn; rw [hC] <;> rfl
  obtain ⟨t1, ho⟩ := exo_at I.hok e
  obtain ⟨hp, g, d, t, os⟩ := s
  refine PySem.W.set_plain I.kIn (ox := { cls := .ref C, dict := none, data := .fields #[.ref t1, .none, .none, .none, .bool false, .none] }) (od := none) ⟨ho, rfl, rfl, trivial⟩ T.sa ?_
  refine exc_osaR T.root I.kIn ho hcl (show refsR R.tail (.ref C :: bm) = true from hbm) rfl hno (fun h' tk' dx k dn dne hx hn => ?_)
  have hnd : H dx = none := I.hok.fresh dn
  have nd : ∀ {b : Addr} {o : Obj}, hp.get? b = some o → b ≠ dx := fun {b o} q => Nat.ne_of_lt (Nat.lt_of_lt_of_le (Heap.lt_size q) dn)
  have na : ∀ {b : Addr}, H b = none → b ≠ a := fun {b} n z => by
    rw [z, e] at n
    cases n
  have Un1 : Un X.fs [] H (upd (upd H dx (exd dx [(f, y)])) a (exo a C (some dx))) hp h' := {
    keep := fun b o q n _ _ => k b o (na n) q
    slot := fun b o q n _ _ => ⟨o.slots, k b o (na n) q⟩
    free := fun b o q n _ => by rw [upd_ne (na n), upd_ne (nd q)]; exact n
    there := fun b o q _ => by
      by_cases hb : b = a
      · exact ⟨_, by rw [hb]; exact hx⟩
      · exact ⟨o, k b o hb q⟩
    tups := fun b xs q => by rw [upd_ne (at_ne e q exo_tup), upd_ne (ne_of_none q hnd)]; exact q
    frzs := fun b o v q => by rw [upd_ne (at_ne e q exo_frz), upd_ne (ne_of_none q hnd)]; exact q
    tbls := fun b ps q => ⟨#[], by rw [upd_ne (at_ne e q exo_tbl), upd_ne (ne_of_none q hnd), q]; simp⟩ }
  refine h dx _ hnd dne (I.un (t' := tk') Un1 fun b o q => ?_)
  by_cases hb : b = a
  · subst hb
    rw [upd_same] at q
    cases q
    exact exo_ok hx
  · rw [upd_ne hb] at q
    by_cases hd : b = dx
    · subst hd
      rw [upd_same] at q
      cases q
      exact exd_ok hn (relO_put (fs := []) ry fun g => True.intro)
    · rw [upd_ne hd] at q
      exact (I.hok b o q).stay (fun c v hc z => k c v (by
          rcases hc with hc | hc
          · rw [hc]
            exact hb
          · exact at_ne e hc exo_own) z)
        (fun c hc => by rw [upd_ne (at_ne e hc exo_own), upd_ne (ne_of_none hc hnd)]; exact hc) (fun c xs hc => by rw [upd_ne (at_ne e hc exo_tup), upd_ne (ne_of_none hc hnd)]; exact hc)
end
def tOstR (R : ERoot) (K : PySem.W.Frag) (f : Str) (to te : TE) : TS := fun D σ H => te σ H fun y H1 => to σ H1 fun x H2 => ∃ a C : Addr, x = .ref a ∧ OexR R K C ∧ PySem.W.findIn K (.ref C) f = some none ∧
  H2 a = some (exo a C none) ∧ ∀ dx, H2 dx = none → dx ≠ a → D.nx σ (upd (upd H2 dx (exd dx [(f, y)])) a (exo a C (some dx)))
section
variable {R : ERoot} {X : Cx} {o e : Expr} {es : List Expr} {to te : TE} {ta : TA} {f : Str} {p p' p1 p2 pos : Pos}
theorem ps_ostR (ho : PE X o to) (he : PE X e te) (hs : swapsWith e (some (.Attribute o f p')) pos.line X.env = pure false := by rfl) : PS X (.Assign [.Attribute o f p'] e pos) (tOstR R X.K f to te) := by
  refine ⟨fun pins s σ H D I h => ?_⟩
  refine plainObj_wpAny_Assign_Attribute (thn (he.run pins s σ H _ I h) fun v s1 ⟨y, H1, I1, r1, q1⟩ => thn (ho.run pins s1 σ H1 _ I1 q1) fun u s2 ⟨x, H2, I2, r2, a, C, ex, T, hno, ea, q⟩ => ?_) hs
  subst ex
  obtain rfl : u = Value.ref a := r2
  exact ost_newR T I2 ea hno r1 fun dx s' n ne J => ⟨σ, _, J, q dx n ne⟩
end
end L2
namespace L3
open PySem PySem.Spec PyProof.Rows L2
structure ExcAtR (R : ERoot) (K : PySem.W.Frag) (mg : Str → Option Value) (x : Str) (C : Addr) (f qual : Str) (st : Stmt) : Prop where
  oex : OexR R K C
  xf : XfC K C
  g : mg x = some (.ref C)
  no : PySem.W.findIn K (.ref C) f = some none
  fn : ∃ fI fd, PySem.W.findIn K (.ref C) "__init__" = some (some (.ref fI)) ∧ PySem.W.typeIn K (.ref fI) = some (.type "function") ∧ Fun K "__init__" qual st fI fd ∧ Binds K fd ["self", f] []
def spIR (R : ERoot) (K : PySem.W.Frag) (f : Str) : Sp := fun vs H Q _ => ∃ (a C : Addr) (y : V), vs = [.ref a, y] ∧ OexR R K C ∧ PySem.W.findIn K (.ref C) f = some none ∧ H a = some (exo a C none) ∧ ∀ dx, H dx = none → dx ≠ a → Q .non (upd (upd H dx (exd dx [(f, y)])) a (exo a C (some dx)))
section
variable {R : ERoot} {P : Program} {w : World} {K : PySem.W.Frag} {mg : Str → Option Value} {base : Heap}
theorem spIR_ok {f qual : Str} {st : Stmt} {fI : Addr} {fd : FuncData} (F : Fun K "__init__" qual st fI fd) (S : FnScope ["self", f] ["self", f] (defScope st)) (B : InitIs st f) (hdf : (f == ("__debug__" : Str)) = false) (hcf : (f == ("__classdict__" : Str)) = false)
    (hv : Vis (defScope st) "self") (hvf : Vis (defScope st) f) (hsw : ∀ (env : Env) p1 p2 p3 (p4 : Pos), swapsWith (.Name f p3) (some (.Attribute (.Name "self" p1) f p2)) p4.line env = pure false) : FnOk P w K mg base CX0 1 fI fd ["self", f] (spIR R K f) := by
  refine Fun.ok F S (fun vs H Q E ⟨_, _, _, e, _⟩ => by rw [e]; rfl) fun cdv A outer s H vs Q E hr ⟨a, C, y, ev, T, no, ea, q⟩ => ?_
  obtain ⟨p1, p2, p3, p4, eb⟩ := B
  subst ev
  rw [eb]
  refine ⟨_, pss_one (ps_ostR (R := R) (pe_var (i := 0) rfl hv (by decide) (by decide)) (pe_var (i := 1) rfl hvf hdf hcf) (hsw _ _ _ _ _)), ?_⟩
  refine ⟨y, rfl, .ref a, rfl, a, C, rfl, T, no, ea, fun dx n ne => q dx n ne⟩
end
section
variable {R : ERoot} {X : Cx} {F0 : Pt} {e : Expr} {te : TE3} {W : WK} {x f qual : Str} {C : Addr} {st : Stmt} {p pos pos2 : Pos} {j : Nat}
end
open He He5
theorem exc_ofR {R : ERoot} (ok : R.Ok) {K : PySem.W.Frag} {mg : Str → Option Value} {x : Str} {C : Addr} {f qual : Str} {st : Stmt} {fd : FuncData} (h : xcRB R K C f = true) (g : mg x = some (.ref C)) (F : Fun K "__init__" qual st (ma K C "__init__") fd) (b : Binds K fd ["self", f] []) : ExcAtR R K mg x C f qual st := by
  obtain ⟨h1, h⟩ := ba h
  obtain ⟨h2, h⟩ := ba h
  obtain ⟨h3, h⟩ := ba h
  obtain ⟨h4, h⟩ := ba h
  obtain ⟨h5, h⟩ := ba h
  obtain ⟨h6, h⟩ := ba h
  obtain ⟨h7, h⟩ := ba h
  obtain ⟨h8, h9⟩ := ba h
  exact ⟨⟨ok, xsh_of h1, eqO_ok h2, of_decide_eq_true h3, of_decide_eq_true h4, h5⟩, xfB_ok h6, g, of_decide_eq_true h7, _, fd, eqO_ok h8, of_decide_eq_true h9, F, b⟩
end L3
set_option Elab.async false
set_option linter.all false
set_option maxRecDepth 100000
set_option maxHeartbeats 4000000
namespace L3
open PySem PySem.Spec PyProof.Rows L2
section
variable {X : Cx} {K : PySem.W.Frag} {F0 : Pt} {a b o : Expr} {ta tb : TE3} {pos apos : Pos}
end
end L3
set_option Elab.async false
set_option linter.all false
set_option maxRecDepth 100000
set_option maxHeartbeats 4000000
namespace L3
open PySem PySem.Spec PyProof.Rows L2
section
variable {g : TG3} {tk tv : TE3} {sw : St3} {G : Gp} {K : List (Key × D) → Gp → Prop} {acc : List (Key × D)}
end
section
variable {X : Cx} {F0 : Pt}
end
end L3
set_option Elab.async false
set_option linter.all false
set_option maxRecDepth 100000
set_option maxHeartbeats 4000000
namespace L3
open PySem PySem.Spec PyProof.Rows L2
section
variable {K : PySem.W.Frag}
end
section
variable {p : Addr} {all : List D} {g : TG3} {tt : TT3} {te : TE3} {sw : St3} {G : Gp} {K : List D → Gp → Prop}
end
section
variable {X : Cx} {F0 : Pt}
end
section
variable {X : Cx}
end
section
variable {X : Cx} {F0 : Pt} {e : Expr} {te : TE3}
end
end L3
set_option Elab.async false
set_option linter.all false
set_option maxRecDepth 100000
set_option maxHeartbeats 4000000
namespace L3
open PySem PySem.Spec PyProof.Rows L2
section
variable {X : Cx} {K : PySem.W.Frag} {F0 : Pt} {e o : Expr} {ta te : TE3} {pos apos : Pos}
end
end L3
set_option Elab.async false
set_option linter.all false
set_option maxRecDepth 100000
set_option maxHeartbeats 4000000
namespace L3
open PySem PySem.Spec PyProof.Rows L2
section
variable {X : Cx} {e o : Expr} {es : List Expr} {te : TE} {ta : TA} {st : Stmt} {rest : List Stmt} {t u : TS} {pos : Pos}
def PEO (X : Cx) (e : Expr) (t : TE) : Prop :=
  ∀ (pins : List (Addr × Obj)) (s : Shared) (σ : L2.St) (H : Hp) (Q : VK), Inv X pins σ H s → t σ H Q → wpAny (model X.prog X.w) X.A (eval e X.env) (fun v s1 => 1 ≤ s1.toks ∧ EP X pins σ Q v s1) X.xe s
def PAO (X : Cx) (es : List Expr) (t : TA) : Prop :=
  ∀ (pos : Pos) (pins : List (Addr × Obj)) (s : Shared) (σ : L2.St) (H : Hp) (Q : List V → Hp → Prop), Inv X pins σ H s → t σ H Q → wpAny (model X.prog X.w) X.A (spliced (backTo pos (starEach es X.env))) (fun us s1 => 1 ≤ s1.toks ∧ AP X pins σ Q us s1) X.xe s
def PSO (X : Cx) (st : Stmt) (t : TS) : Prop :=
  ∀ (pins : List (Addr × Obj)) (s : Shared) (σ : L2.St) (H : Hp) (D : Ends), Inv X pins σ H s → t D σ H → wpAny (model X.prog X.w) X.A (exec st X.env) (fun f s1 => 1 ≤ s1.toks ∧ SP X pins D f s1) X.xe s
theorem PET.imp {te t : TE} (h : PET X e te) (i : ∀ σ H Q, t σ H Q → te σ H Q) : PET X e t := fun pins s σ H Q h0 I q => h pins s σ H Q h0 I (i σ H Q q)
theorem PAT.imp {te t : TA} (h : PAT X es te) (i : ∀ σ H Q, t σ H Q → te σ H Q) : PAT X es t := fun pos pins s σ H Q h0 I q => h pos pins s σ H Q h0 I (i σ H Q q)
theorem PEO.imp {te t : TE} (h : PEO X e te) (i : ∀ σ H Q, t σ H Q → te σ H Q) : PEO X e t := fun pins s σ H Q I q => h pins s σ H Q I (i σ H Q q)
theorem PAO.imp {te t : TA} (h : PAO X es te) (i : ∀ σ H Q, t σ H Q → te σ H Q) : PAO X es t := fun pos pins s σ H Q I q => h pos pins s σ H Q I (i σ H Q q)
theorem PST.imp {ts t : TS} (h : PST X st ts) (i : ∀ D σ H, t D σ H → ts D σ H) : PST X st t := fun pins s σ H D h0 I q => h pins s σ H D h0 I (i D σ H q)
theorem PSO.imp {ts t : TS} (h : PSO X st ts) (i : ∀ D σ H, t D σ H → ts D σ H) : PSO X st t := fun pins s σ H D I q => h pins s σ H D I (i D σ H q)
theorem PSsT.imp {sts : List Stmt} {ts t : TS} (h : PSsT X sts ts) (i : ∀ D σ H, t D σ H → ts D σ H) : PSsT X sts t := fun pins s σ H D h0 I q => h pins s σ H D h0 I (i D σ H q)
theorem PIT.imp {tg e : Expr} {te t : TI} (h : PIT X tg e te) (i : ∀ σ H R, t σ H R → te σ H R) : PIT X tg e t := fun pins s σ H R h0 I q => h pins s σ H R h0 I (i σ H R q)
end
section
variable {X : Cx} {F0 : Pt} {e o a b : Expr} {es : List Expr} {te ta tb : TE3} {t : TA3} {st : Stmt} {sts : List Stmt} {ts us : TS3} {pos : Pos} {tg : Expr}
end
end L3
set_option Elab.async false
set_option linter.all false
set_option maxRecDepth 100000
set_option maxHeartbeats 4000000
namespace L3
open PySem PySem.Spec PyProof.Rows L2
def putD3 (f : Str) (d : D) : List (Str × D) → List (Str × D)
  | [] => [(f, d)]
  | (g, x) :: r => if g = f then (g, d) :: r else (g, x) :: putD3 f d r
section
variable {K : PySem.W.Frag} {F H : Hp} {G : Gp} {p dx C : Addr} {fs : List (Str × D)}
theorem RepF.len : ∀ {fs : List (Str × D)} {ws : List (Str × V)}, RepF K F fs ws → fs.length = ws.length
  | _, _, .nil => rfl
  | _, _, .cons _ r => congrArg Nat.succ r.len
theorem RepF.get : ∀ {fs : List (Str × D)} {ws : List (Str × V)} {f : Str} {d : D}, RepF K F fs ws → fs.lookup f = some d → ∃ v, ws.lookup f = some v ∧ Rep K F d v
  | _, _, _, _, .nil, e => by cases e
  | (g, x) :: fs, _, f, d, .cons (v := v) (vs := vs) r t, e => by
    by_cases h : f = g
    · subst h
      have e1 : List.lookup f ((f, x) :: fs) = some x := by simp [List.lookup]
      rw [e1] at e
      cases e
      exact ⟨v, by simp [List.lookup], r⟩
    · have hb : (f == g) = false := beq_eq_false_iff_ne.mpr h
      have e1 : List.lookup f ((g, x) :: fs) = List.lookup f fs := by simp only [List.lookup, hb]
      rw [e1] at e
      obtain ⟨v2, h1, h2⟩ := t.get e
      exact ⟨v2, by simp only [List.lookup, hb]; exact h1, h2⟩
theorem RepF.none : ∀ {fs : List (Str × D)} {ws : List (Str × V)} {f : Str}, RepF K F fs ws → fs.lookup f = Option.none → ws.lookup f = Option.none
  | _, _, _, .nil, _ => rfl
  | (g, x) :: fs, _, f, .cons (v := v) (vs := vs) r t, e => by
    by_cases h : f = g
    · subst h
      have e1 : List.lookup f ((f, x) :: fs) = some x := by simp [List.lookup]
      rw [e1] at e
      cases e
    · have hb : (f == g) = false := beq_eq_false_iff_ne.mpr h
      have e1 : List.lookup f ((g, x) :: fs) = List.lookup f fs := by simp only [List.lookup, hb]
      rw [e1] at e
      simp only [List.lookup, hb]
      exact t.none e
theorem RepF.put : ∀ {fs : List (Str × D)} {ws : List (Str × V)} {f : Str} {d : D} {v : V}, RepF K F fs ws → Rep K F d v → RepF K F (putD3 f d fs) (putF f v ws)
  | _, _, _, _, _, .nil, h => .cons h .nil
  | (g, x) :: fs, _, f, d, v, .cons (v := u) (vs := vs) r t, h => by
    show RepF K F (if g = f then (g, d) :: fs else (g, x) :: putD3 f d fs) (if g = f then (g, v) :: vs else (g, u) :: putF f v vs)
    by_cases e : g = f
    · rw [if_pos e, if_pos e]
      exact .cons h t
    · rw [if_neg e, if_neg e]
      exact .cons r (t.put h)
end
structure Fl1 (K : PySem.W.Frag) (C : Addr) (f : Str) : Prop where
  c : Cls K C
  n : NoAttr K C f
section
variable {X : Cx} {K : PySem.W.Frag} {F0 : Pt} {a b e o value : Expr} {es rest : List Expr} {ta tb te tv : TE3} {t : TA3} {pos pos' p apos : Pos} {x f m : Str} {C : Addr} {i : Nat}
end
structure MetO (P : Program) (w : World) (K : PySem.W.Frag) (mg : Str → Option Value) (base : Heap) (k : Nat) (C : Addr) (m : Str) (sp : Sp3) (dds : List D) : Prop where
  c : Cls K C
  ex : ∃ (g : Addr) (fd : FuncData) (ps : List Str) (ds : List Value) (dvs : List V), Meth K C m g ∧ FnOk P w K mg base (L2.CX P w) k g fd ps (dn K sp) ∧ Binds K fd ps ds ∧ Vals dvs ds ∧ ∀ F, RepL K F dds dvs
section
variable {X : Cx} {K : PySem.W.Frag} {F0 : Pt} {a b e o value : Expr} {es rest : List Expr} {te tv : TE3} {t : TA3} {pos pos' p apos : Pos} {x f m : Str} {C : Addr} {i : Nat}
end
structure ProO (P : Program) (w : World) (K : PySem.W.Frag) (mg : Str → Option Value) (base : Heap) (k : Nat) (C : Addr) (f : Str) (sp : Sp3) : Prop where
  c : Cls K C
  ex : ∃ p g fd, PropOf K C f p g ∧ FnOk P w K mg base (L2.CX P w) k g fd ["self"] (dn K sp) ∧ Binds K fd ["self"] []
section
variable {X : Cx} {F0 : Pt} {e : Expr} {te : TE3} {pos : Pos} {f : Str} {C : Addr}
end
section
variable {X : Cx} {K : PySem.W.Frag} {F0 : Pt} {a b e o value : Expr} {es rest : List Expr} {ta tb te tv : TE3} {t tw : TA3} {pos pos' p apos kpos : Pos} {x f m : Str} {C : Addr} {i k j n : Nat} {kws : List Keyword} {nm : Option Str} {qual : Str} {st : Stmt} {ps : List Str} {sp : Sp3} {W : WK}
end
end L3
set_option Elab.async false
set_option linter.all false
set_option maxRecDepth 100000
set_option maxHeartbeats 4000000
namespace L3
open PySem PySem.Spec PyProof.Rows L2 PySem.Calls
section
variable {prog : Program} {w : World} {A : Around} {E : Value → Shared → Prop} {s : Shared} {r : Addr} {a b c : Int} {t u v : Tok} {n : Nat}
end
section
variable {X : Cx} {tg : Expr}
variable {e : Expr} {te : L2.St → Hp → (Int → Int → Hp → Prop) → Prop}
end
section
variable {X : Cx} {F0 : Pt} {tg a b e : Expr} {es : List Expr} {ta tb : TE3} {t : TA3} {p pos p2 : Pos}
end
end L3
set_option Elab.async false
set_option linter.all false
set_option maxRecDepth 100000
set_option maxHeartbeats 4000000
namespace OwO
open PySem PySem.Spec PyProof.Rows PySem.W PySem.SeqAt
section
variable {prog : Program} {w : World} {A : Around} {E : Value → Shared → Prop} {s : Shared} {K : Frag} {x y C f : Addr} {ox oy : Obj} {od od' : Option Obj}
end
end OwO
namespace L3
open PySem PySem.Spec PyProof.Rows L2 PySem.Calls
structure EqOb (K : PySem.W.Frag) (C : Addr) : Prop where
  eq : PySem.W.findIn K (.ref C) "__eq__" = some (some (.builtin "object.__eq__"))
  ne : PySem.W.findIn K (.ref C) "__ne__" = some (some (.builtin "object.__ne__"))
  ob : PySem.W.mroIn K C (.type "object") = some true
section
variable {X : Cx} {K : PySem.W.Frag} {j k : Nat} {C : Addr} {sp : Sp3}
end
end L3
set_option Elab.async false
set_option linter.all false
set_option maxRecDepth 100000
set_option maxHeartbeats 4000000
namespace L3
open PySem PySem.Spec PyProof.Rows L2 PySem.Calls
section
variable {X : Cx} {F0 : Pt} {o : Expr} {to : TE3} {pos : Pos} {f : Str} {C : Addr}
end
structure MetOF (P : Program) (w : World) (K : PySem.W.Frag) (mg : Str → Option Value) (base : Heap) (k : Nat) (C : Addr) (m qual : Str) (st : Stmt) (ps : List Str) (sp : Sp3) : Prop where
  c : Cls K C
  ex : ∃ g fd, Meth K C m g ∧ Fun K m qual st g fd ∧ Binds K fd ps [] ∧ FnOk P w K mg base (L2.CX P w) k g fd ps (dn K sp)
section
variable {P : Program} {w : World} {K : PySem.W.Frag} {mg : Str → Option Value} {base : Heap} {C : Addr} {m qual : Str} {st : Stmt} {N ps : List Str} {sp : Sp3} {k : Nat}
end
section
variable {X : Cx} {CX : CXT} {F0 : Pt} {o e : Expr} {es : List Expr} {kws : List Keyword} {pos apos : Pos} {m qual : Str} {C g : Addr} {fd : FuncData} {ps ks : List Str} {sp : Sp} {E : L2.St → XK} {k n j : Nat} {gg : List Value → List Value → List Value} {gV : List V → List V → List V} {ta : TE} {t tk : TA}
end
section
variable {X : Cx} {F0 : Pt} {o e : Expr} {es : List Expr} {kws : List Keyword} {pos apos : Pos} {m qual : Str} {C : Addr} {st : Stmt} {ps : List Str} {sp : Sp3} {W : WK} {te : TE3} {t tk : TA3} {k j : Nat}
end
section
variable {K : PySem.W.Frag}
end
end L3
set_option Elab.async false
set_option linter.all false
set_option maxRecDepth 100000
set_option maxHeartbeats 4000000
namespace OwO
open PySem PySem.Spec PyProof.Rows PySem.W
end OwO
namespace L3
open PySem PySem.Spec PyProof.Rows L2 PySem.Calls
section
variable {X : Cx} {F0 : Pt} {e : Expr} {te : TE3} {pos : Pos}
end
end L3
set_option Elab.async false
set_option linter.all false
set_option maxRecDepth 100000
set_option maxHeartbeats 4000000
namespace L3
open PySem PySem.Spec PyProof.Rows L2
structure ExcAt0 (R : ERoot) (K : PySem.W.Frag) (mg : Str → Option Value) (x : Str) (C : Addr) : Prop where
  ok : R.Ok
  q : PySem.W.excIn K C R.tail R.newId = true
  g : mg x = some (.ref C)
  kC : PySem.W.keepIn K (.ref C) = true
  exC : PySem.W.subIn K (.ref C) (.type "BaseException") = some true
  tyC : PySem.W.typeIn K (.ref C) = some (.type "type")
section
variable {R : ERoot} {X : Cx} {F0 : Pt} {W : WK} {x : Str} {C : Addr} {p pos pos2 : Pos}
open He He5 in
theorem exc0_of {K : PySem.W.Frag} {mg : Str → Option Value} (ok : R.Ok) (h : xc0B R K C = true) (g : mg x = some (.ref C)) : ExcAt0 R K mg x C := by
  obtain ⟨h1, h⟩ := ba h
  obtain ⟨h2, h⟩ := ba h
  obtain ⟨h3, h4⟩ := ba h
  exact ⟨ok, h1, g, h2, of_decide_eq_true h3, of_decide_eq_true h4⟩
end
end L3
set_option Elab.async false
set_option linter.all false
set_option maxRecDepth 100000
set_option maxHeartbeats 4000000
namespace L3
open PySem PySem.Spec PyProof.Rows L2
section
variable {X : Cx} {F0 : Pt} {o : Expr} {ta : TE3} {pos apos : Pos}
end
end L3
set_option Elab.async false
set_option linter.all false
set_option maxRecDepth 100000
set_option maxHeartbeats 4000000
namespace L3
open PySem PySem.Spec PyProof.Rows L2
section
variable {X : Cx} {F0 : Pt} {o i : Expr} {to ti : TE3} {pos : Pos}
end
section
variable {K : PySem.W.Frag} {G G' : Gp} {Q3 : DK}
end
end L3
set_option Elab.async false
set_option linter.all false
set_option maxRecDepth 100000
set_option maxHeartbeats 4000000
namespace L2
open PySem PySem.Spec PyProof.Rows
section
variable {X : Cx} {pins : List (Addr × Obj)} {σ : St} {H : Hp} {s : Shared} {tk : Bool} {a : Addr}
end
end L2
namespace L3
open PySem PySem.Spec PyProof.Rows L2
section
variable {X : Cx} {F0 : Pt} {e1 e2 e3 : Expr} {t1 t2 t3 : TE3} {pos p tpos : Pos}
end
section
variable {X : Cx} {F0 : Pt} {e1 e2 : Expr} {t1 t2 : TE3} {pos p tpos : Pos}
end
end L3
set_option Elab.async false
set_option linter.all false
set_option maxRecDepth 100000
set_option maxHeartbeats 4000000
namespace L2
open PySem PySem.Spec PyProof.Rows
section
variable {X : Cx}
end
end L2
namespace L3
open PySem PySem.Spec PyProof.Rows L2
section
variable {X : Cx} {F0 : Pt}
end
end L3
set_option Elab.async false
set_option linter.all false
set_option maxRecDepth 100000
set_option maxHeartbeats 4000000
namespace L3
open PySem PySem.Spec PyProof.Rows L2
structure WDct (K : PySem.W.Frag) (w : World) (mg : Str → Option Value) (x : Str) (p : Addr) (ks : List Str) : Prop where
  g : mg x = some (.ref p)
  low : (p == sysModules) = false
  d : ∃ es n, K.lookup p = some ⟨.type "dict", none, .dict es n, #[]⟩ ∧ PySem.W.KeysLit w.params es.toList ∧ es.toList.map He.keyOf = He.keysIn w.params ks
structure WInt (K : PySem.W.Frag) (w : World) (mg : Str → Option Value) (x : Str) (kvs : List (Str × Int)) : Prop where
  ex : ∃ p, WDct K w mg x p (kvs.map (·.1)) ∧ ∀ k i, kvs.lookup k = some i → ∃ t, PySem.W.nsIn K p k = some (some (.int i t))
section
variable {X : Cx} {F0 : Pt} {x : Str} {e f : Expr} {te tf : TE3} {p apos cpos : Pos} {kvs : List (Str × Int)}
end
structure WFn (K : PySem.W.Frag) (w : World) (mg : Str → Option Value) (x key fn : Str) : Prop where
  ex : ∃ p f ks, WDct K w mg x p ks ∧ mg fn = some (.ref f) ∧ PySem.W.nsIn K p key = some (some (.ref f))
section
variable {X : Cx} {F0 : Pt} {x : Str} {e ke func : Expr} {es : List Expr} {tke : TE3} {t : TA3} {p p2 pos : Pos} {W : WK}
inductive Alts (X : Cx) (k : Nat) (x : Str) : List (Str × Sp3) → Prop
  | nil : Alts X k x []
  | cons {key fn : Str} {sp : Sp3} {l : List (Str × Sp3)} (c : Cal3 X.prog X.w X.K X.mg X.base k fn sp []) (w : WFn X.K X.w X.mg x key fn) (r : Alts X k x l) : Alts X k x ((key, sp) :: l)
theorem Alts.get {k : Nat} {key : Str} {sp : Sp3} : ∀ {l : List (Str × Sp3)}, Alts X k x l → l.lookup key = some sp → ∃ fn, Cal3 X.prog X.w X.K X.mg X.base k fn sp [] ∧ WFn X.K X.w X.mg x key fn
  | _, .cons (key := k2) c w r, h => by
    rw [List.lookup_cons] at h
    cases e : (key == k2) with
    | true =>
      rw [e] at h
      cases h
      rw [beq_iff_eq.mp e]
      exact ⟨_, c, w⟩
    | false =>
      rw [e] at h
      exact Alts.get r h
theorem Alts.at {k : Nat} {a : Str × Sp3} {l : List (Str × Sp3)} (h : Alts X k x (a :: l)) : ∃ q, X.mg x = some (.ref q) := by
  cases h with
  | cons c w r =>
    obtain ⟨p, _, _, D, _⟩ := w.ex
    exact ⟨p, D.g⟩
end
end L3
set_option linter.all false
set_option Elab.async false
set_option maxRecDepth 100000
set_option maxHeartbeats 4000000
namespace L3
open PySem PySem.Spec PyProof.Rows L2
end L3
set_option linter.all false
set_option Elab.async false
set_option maxRecDepth 100000
set_option maxHeartbeats 4000000
namespace L2
open PySem PySem.Spec PyProof.Rows
section
variable {X : Cx} {a b c e : Expr} {ta tb tc td : TE} {pos : Pos}
end
end L2
namespace L3
open PySem PySem.Spec PyProof.Rows L2
section
variable {X : Cx} {F0 : Pt} {a b c e : Expr} {ta tb tc td : TE3} {pos : Pos}
end
end L3
set_option Elab.async false
set_option linter.all false
set_option maxRecDepth 100000
set_option maxHeartbeats 4000000
namespace L3
open PySem PySem.Spec PyProof.Rows L2
open PySem.Calls
section
variable {prog : Program} {w : World} {A : Around} {E : Value → Shared → Prop} {s : Shared} {K : PySem.W.Frag} {C : Addr}
end
section
variable {R : ERoot} {X : Cx} {F0 : Pt} {W : WK} {x : Str} {C : Addr} {p pos pos2 : Pos}
structure GTup (K : PySem.W.Frag) (mg : Str → Option Value) (x : Str) (ds : List D) : Prop where
  ex : ∃ p vs, mg x = some (.ref p) ∧ ∀ F, SqT K F p vs ∧ RepL K F ds vs
end
end L3
set_option Elab.async false
set_option linter.all false
set_option maxRecDepth 100000
set_option maxHeartbeats 4000000
namespace L3
open PySem PySem.Spec PyProof.Rows L2
def valT : List (List Key × D) → List Key → Option D
  | [], _ => none
  | (j, d) :: r, k => if j = k then some d else valT r k
section
variable {K : PySem.W.Frag} {F H : Hp} {G : Gp}
theorem valK_pos {α : Type} [DecidableEq α] {j k : α} {v : V} {r : List (α × V)} (h : j = k) : valV ((j, v) :: r) k = some v := by
  unfold valV
  rw [List.find?_cons]
  simp [h]
theorem valK_neg {α : Type} [DecidableEq α] {j k : α} {v : V} {r : List (α × V)} (h : ¬ j = k) : valV ((j, v) :: r) k = valV r k := by
  unfold valV
  rw [List.find?_cons]
  simp [h]
theorem RepT.val {k : List Key} : ∀ {ks : List (List Key × D)} {ws : List (List Key × V)}, RepT K F ks ws → (∀ d, valT ks k = some d → ∃ v, valV ws k = some v ∧ Rep K F d v) ∧ (valT ks k = none → valV ws k = none)
  | _, _, .nil => ⟨fun d h => (by cases h), fun _ => rfl⟩
  | _, _, .cons (f := j) (d := e) (v := v) (ds := r) (vs := vs) h t => by
    have ih := RepT.val (k := k) t
    by_cases hj : j = k
    · refine ⟨fun d hd => ?_, fun hd => ?_⟩
      · unfold valT at hd
        rw [if_pos hj] at hd
        cases hd
        exact ⟨v, valK_pos hj, h⟩
      · unfold valT at hd
        rw [if_pos hj] at hd
        cases hd
    · refine ⟨fun d hd => ?_, fun hd => ?_⟩
      · unfold valT at hd
        rw [if_neg hj] at hd
        rw [valK_neg hj]
        exact ih.1 d hd
      · unfold valT at hd
        rw [if_neg hj] at hd
        rw [valK_neg hj]
        exact ih.2 hd
theorem RepT.length : ∀ {ks : List (List Key × D)} {ws : List (List Key × V)}, RepT K F ks ws → ks.length = ws.length
  | _, _, .nil => rfl
  | _, _, .cons _ r => by rw [List.length_cons, List.length_cons, RepT.length r]
end
section
variable {X : Cx} {F0 : Pt} {o i e : Expr} {to ti te : TE3} {pos : Pos}
end
end L3
set_option linter.all false
set_option Elab.async false
set_option maxRecDepth 100000
set_option maxHeartbeats 4000000
namespace L3
open PySem PySem.Spec PyProof.Rows L2
end L3
set_option linter.all false
set_option Elab.async false
set_option maxRecDepth 100000
set_option maxHeartbeats 4000000
namespace L3
open PySem PySem.Spec PyProof.Rows L2
mutual
theorem Frz.sl : ∀ {G G' : Gp} {d d' : D}, Frz G d d' G' → ∀ {p C dx : Addr} {os : List (Option D)}, G p = some (.sl C dx os) → G' p = some (.sl C dx os)
  | _, _, _, _, .refl _ _, _, _, _, _, h => h
  | _, _, _, _, .lst h q, p, C, dx, os, e => FrzL.sl q (by
    unfold gdel
    rw [if_neg (fun z => by rw [z, h] at e; cases e)]
    exact e)
theorem FrzL.sl : ∀ {G G' : Gp} {d d' : List D}, FrzL G d d' G' → ∀ {p C dx : Addr} {os : List (Option D)}, G p = some (.sl C dx os) → G' p = some (.sl C dx os)
  | _, _, _, _, .nil _, _, _, _, _, h => h
  | _, _, _, _, .cons h q, _, _, _, _, e => FrzL.sl q (Frz.sl h e)
end
section
variable {X : Cx} {F0 : Pt} {e : Expr} {t : TA3} {x : Str} {p pos : Pos} {k j : Nat} {sp : Sp3} {W : WK}
end
end L3
set_option linter.all false
set_option Elab.async false
set_option maxRecDepth 100000
set_option maxHeartbeats 4000000
namespace L3
open PySem PySem.Spec PyProof.Rows L2
def fnA (mg : Str → Option Value) (x : Str) : Addr := match mg x with
  | some (.ref a) => a
  | _ => 0
section
variable {X : Cx} {F0 : Pt} {e : Expr} {es : List Expr} {t : TA3} {x : Str} {p pos : Pos} {k j : Nat} {W : WK}
inductive AltF (X : Cx) (k : Nat) : List (Addr × Sp3) → Prop
  | nil : AltF X k []
  | cons {fn : Str} {sp : Sp3} {l : List (Addr × Sp3)} (c : Cal3 X.prog X.w X.K X.mg X.base k fn sp []) (r : AltF X k l) : AltF X k ((fnA X.mg fn, sp) :: l)
theorem AltF.get {k : Nat} : ∀ {l : List (Addr × Sp3)}, AltF X k l → ∀ {a : Addr} {sp : Sp3}, (a, sp) ∈ l → ∃ fn, fnA X.mg fn = a ∧ Cal3 X.prog X.w X.K X.mg X.base k fn sp []
  | _, .cons c r, a, sp, h => by
    rcases List.mem_cons.mp h with e | h
    · cases e
      exact ⟨_, rfl, c⟩
    · exact AltF.get r h
end
end L3
set_option linter.all false
set_option Elab.async false
set_option maxRecDepth 100000
set_option maxHeartbeats 4000000
namespace L3
open PySem PySem.Spec PyProof.Rows L2 LamX
structure LamAt (K : PySem.W.Frag) (mg : Str → Option Value) (x : Str) (P : Addr) : Prop where
  hd : ∀ (f : Addr) (oc : Value) (od : Option Addr) (fd : FuncData) (osl : Array (Option Value)) (c : Addr), mg x = some (.ref f) → K.lookup f = some ⟨oc, od, .func fd, osl⟩ → fd.code = .ref c → PySem.W.codeHdIn K c P = true
  bm : ∃ (bm : Addr) (ob : Obj), mg "__builtins__" = some (.ref bm) ∧ bm ≠ builtinsNs ∧ bm ≠ mainGlobals ∧ bm ≠ P ∧ K.lookup bm = some ob ∧ ob.cls = .type "module" ∧ ob.dict = some builtinsNs ∧ ob.data = .plain
  gP : mainGlobals ≠ P
structure LamC (X : Cx) (P : Addr) : Prop where
  code : ∃ c, X.env.code = .ref c ∧ PySem.W.codeHdIn X.K c P = true
  bm : ∃ (bm : Addr) (ob : Obj), X.mg "__builtins__" = some (.ref bm) ∧ bm ≠ builtinsNs ∧ bm ≠ mainGlobals ∧ bm ≠ P ∧ X.K.lookup bm = some ob ∧ ob.cls = .type "module" ∧ ob.dict = some builtinsNs ∧ ob.data = .plain
  gP : mainGlobals ≠ P
section
variable {X : Cx} {pins : List (Addr × Obj)} {σ : L2.St} {H : Hp} {s : Shared}
end
abbrev ActT := Gp → DK → EK → Prop
def dAct (i : Nat) (f : Addr) (act : ActT) (W : WK) : TE3 := fun sd G Q => sd[i]? = some (some (.ref f)) ∧ act G Q fun C fs G' => W C fs sd G'
def HasAct (X : Cx) (o : Pt) (i : Nat) (a : Str) (f : Addr) (act : ActT) : Prop :=
  ∀ (o' : Pt) (W : WK) (pn : List (Addr × Obj)) (xe : Value → Shared → Prop) (p1 p2 : Pos), Le o.F o'.F → Takes (X.tr pn xe) (lowW X.K o' W) → DE (X.tr pn xe) o' (.Call (.Name a p1) [] [] p2) (dAct i f act W)
structure CalL (P : Program) (w : World) (K : PySem.W.Frag) (mg : Str → Option Value) (base : Heap) (k : Nat) (x : Str) (sp : ActT → Sp3) : Prop where
  ex : ∃ (st : Stmt) (a : Str) (N : List Str) (g : Addr) (fd : FuncData), Fun K x x st g fd ∧ mg x = some (.ref g) ∧ PySem.W.keepIn K (.ref g) = true ∧ Binds K fd [a] [] ∧ FnScope N [a] (defScope st) ∧ 1 ≤ N.length ∧ N[0]? = some a ∧ Vis (defScope st) a ∧
    ((a == ("__debug__" : Str)) = false ∧ (a == ("__classdict__" : Str)) = false) ∧
    ∀ (g : Addr) (cdv : Value) (A : Around) (outer : List Env) (s : Shared) (H : Hp) (E : XK) (o : Pt) (E3 : EK), A.guards = some [] → Room k (A.deeper (envOfC x (defScope st) s.heap.objs.size g cdv)) →
      Takes (cxOf (L2.CX P w) P w K mg base N x (defScope st) g cdv A outer s H E) (lowW K o fun C fs _ G => E3 C fs G) →
      PassesOwn (model P w) (A.deeper (envOfC x (defScope st) s.heap.objs.size g cdv)) (envOfC x (defScope st) s.heap.objs.size g cdv) (cxOf (L2.CX P w) P w K mg base N x (defScope st) g cdv A outer s H E).xe →
      ∀ (f : Addr) (act : ActT), HasAct (cxOf (L2.CX P w) P w K mg base N x (defScope st) g cdv A outer s H E) o 0 a f act →
        ∃ t : TS3, DSs (cxOf (L2.CX P w) P w K mg base N x (defScope st) g cdv A outer s H E) o (defBody st) t ∧
          ∀ G Q3, sp act [.ref f] G Q3 E3 → t { nx := fun _ G' => Ret K Q3 .non G', rt := Ret K Q3 } (start3 N.length [.ref f]) G
section
variable {X : Cx} {F0 : Pt} {k j : Nat} {x : Str} {sp : ActT → Sp3} {P : Addr} {params : Arguments} {body : Expr} {scope : Scope} {tb : WK → TE3} {W : WK} {p lpos pos : Pos}
end
section
variable {P : Program} {w : World} {K : PySem.W.Frag} {mg : Str → Option Value} {base : Heap} {x : Str} {st : Stmt} {N : List Str} {k : Nat}
end
end L3
set_option Elab.async false
set_option linter.all false
set_option maxRecDepth 100000
set_option maxHeartbeats 4000000
namespace L2
open PySem PySem.Spec PyProof.Rows
section
variable {X : Cx} {body : List Stmt} {pos : Pos} {tb : WX → TS} {Wout : WX} {x1 x2 x3 n : Str} {c1 c2 c3 : Value} {i kk : Nat} {ts : Addr → Value → Option Addr → TS} {b₀ : Stmt} {suite : List Stmt} {p1 p2 p3 tpos pos' : Pos}
end
section
variable {X : Cx}
end
end L2
namespace L3
open PySem PySem.Spec PyProof.Rows L2
section
variable {X : Cx} {F0 : Pt} {e o : Expr} {ta te : TE3} {pos apos : Pos}
end
section
variable {X : Cx} {o : Pt} {a : Addr} {oe : Obj} {cls : Value} {d : Option Addr} {pn : List (Addr × Obj)} {C : Addr} {fs : List (Str × D)} {e : Expr} {te : TE3} {p p2 pos : Pos} {x : Str}
inductive XfL (K : PySem.W.Frag) (mg : Str → Option Value) (f : Str) : List Addr → Prop
  | nil : XfL K mg f []
  | cons {x qual : Str} {C : Addr} {st : Stmt} {l : List Addr} (A : ExcAt K mg x C f qual st) (r : XfL K mg f l) : XfL K mg f (C :: l)
theorem XfL.get {K : PySem.W.Frag} {mg : Str → Option Value} {f : Str} : ∀ {l : List Addr}, XfL K mg f l → ∀ C ∈ l, ∃ x qual st, ExcAt K mg x C f qual st
  | _, .cons A r, C, h => by
    rcases List.mem_cons.mp h with e | h
    · subst e
      exact ⟨_, _, _, A⟩
    · exact r.get C h
end
end L3
set_option Elab.async false
set_option linter.all false
set_option maxRecDepth 100000
set_option maxHeartbeats 4000000
namespace L3
open PySem PySem.Spec PyProof.Rows L2 PySem.Calls LamX
structure StartH (K : PySem.W.Frag) (H : Hp) (a : Addr) (Ts : List Addr) (vs : List Value) (ns : List Int) : Prop where
  tb : ∀ P ∈ Ts, H P = some (.tbl #[])
  out : a ∉ Ts
  rest : ∀ b u, H b = some u → b ∉ Ts → b = a ∧ u = .frz { cls := .type "list", data := .seq vs.toArray } (.lst (ns.map V.int))
  sq : SqL K H a (ns.map V.int)
  away : H a ≠ none → K.lookup a = none
section
variable {P : Program} {w : World} {K : PySem.W.Frag} {mg mb : Str → Option Value} {CX : CXT} {k : Nat} {fa a : Addr} {fd : FuncData} {x : Str} {sp : Sp} {s₁ : Shared} {vs : List Value} {ns : List Int} {Ts : List Addr}
end
section
open He He5
variable {K : PySem.W.Frag} {mg : Str → Option Value} {x : Str}
theorem xis_of {C : Addr} (h : xisB K C = true) : ExcC K C := by
  obtain ⟨h1, h⟩ := ba h
  obtain ⟨h2, h⟩ := ba h
  obtain ⟨h3, h⟩ := ba h
  obtain ⟨h4, h⟩ := ba h
  obtain ⟨h5, h⟩ := ba h
  obtain ⟨h6, h⟩ := ba h
  obtain ⟨h7, h8⟩ := ba h
  exact ⟨eqO_ok h1, of_decide_eq_true h2, of_decide_eq_true h3, h4, eqO_ok h5, eqO_ok h6, of_decide_eq_true h7, of_decide_eq_true h8⟩
end
end L3
set_option Elab.async false
set_option linter.all false
set_option maxRecDepth 100000
set_option maxHeartbeats 4000000
namespace PySem
namespace HandSPX
open PySem.W PySem.Calls PyProof.Rows
section
variable {M : Model} {A : Around} {E : Value → Shared → Prop} {h : Heap} {g : Array GenState} {d : Drawn} {t : Nat} {os : OsState}
variable {nm q : Str} {C N : Addr} {bs bm bmB : List Value} {hdct : Bool} {sn : List Str} {sub : List Value} {ab : Bool} {col : Option Bool} {dd : Option Addr} {k0 k1 k2 k3 k5 : Option Value} {B newId initId : String}
theorem check_new_ownK (F : ExcBaseFacts B newId initId bmB) (hT : ∀ X : String, bm.contains (.type X) = bmB.contains (.type X)) {rest : List Value} {kw : List (Str × Value)} {Q : Unit → Shared → Prop}
    (hC : h.get? C = some (excClassObj nm q C N bs bm hdct sn sub ab col dd k0 k1 k2 k3 k5 newId)) (hq : Q () ⟨h, g, d, t, os⟩) : wpAny M A (checkBuiltinCall newId ⟨.ref C :: rest, kw⟩) Q E ⟨h, g, d, t, os⟩ := by
  have hcont : (Value.ref C :: bm).contains (.type B) = true := by rw [List.contains_cons, hT, F.hasB, Bool.or_true]
  have hstar := F.noStar
  simp only [checkBuiltinCall, F.newKind, F.newSplit, F.newRow]
  repeat (first | refine wpAny_loadPart_at hC ?_ | (refine wpAny_isSubtype_exc hC ?_; rw [hcont]) | refine wpAny_staticBase_exc hC ?_ | refine wpAny_madeBy_exc hC ?_ | simp only [bne_self_eq_false, Bool.false_eq_true, if_false] | wp_step)
  exact hq
end
section
variable {prog : Program} {w : World} {A : Around} {E : Value → Shared → Prop} {R : Result → Shared → Prop} {h : Heap} {g : Array GenState} {d : Drawn} {t : Nat} {os : OsState}
variable {nm q : Str} {C N : Addr} {bs bm bmB : List Value} {hdct : Bool} {sn : List Str} {sub : List Value} {ab : Bool} {col : Option Bool} {dd : Option Addr} {k0 k1 k2 k3 k5 : Option Value} {B newId initId : String}
theorem new_ownK (F : ExcBaseFacts B newId initId bmB) (hT : ∀ X : String, bm.contains (.type X) = bmB.contains (.type X)) {rest : List Value} {kw : List (Str × Value)}
    (hC : h.get? C = some (excClassObj nm q C N bs bm hdct sn sub ab col dd k0 k1 k2 k3 k5 newId))
    (hq : R (.ok (.ret (.ref (h.objs.size + 1)))) ⟨(h.push { cls := .type "tuple", data := .seq rest.toArray }).push
      { cls := .ref C, data := .fields #[.ref h.objs.size, .none, .none, .none, .bool false, .none] }, g, d, t, os⟩) (hrest : rest.length ≤ sizeLine) :
    codeAny (model prog w) A (.builtin newId ⟨.ref C :: rest, kw⟩) R ⟨h, g, d, t, os⟩ := by
  have hends := F.ends
  have hcB : (Value.ref C :: bm).contains (.type B) = true := by rw [List.contains_cons, hT, F.hasB, Bool.or_true]
  have hcA : (Value.ref C :: bm).contains (.type "AttributeError") = false := by rw [List.contains_cons, hT, F.noAttr]; rfl
  have hcN : (Value.ref C :: bm).contains (.type "NameError") = false := by rw [List.contains_cons, hT, F.noName]; rfl
  refine codeAny_builtinAt F.entry ?_
  unfold Builtin.«BaseException.__new__»
  refine wpAt_bind ?_
  show wpAt _ _ _ (stack >>= _) _ _ _
  refine wpAt_bind (wpAt_stack fun p below => wpAt_of_wpAny ?_)
  wp_walk
  refine wpAt_of_wpAny ?_
  rw [F.owner]
  repeat (first | with_reducible refine wpAny_madeHere_exc F.canon hC ?_ | with_reducible refine wpAny_loadPart_at hC ?_ | (with_reducible refine wpAny_isSubtype_exc hC ?_; first | rw [hcB] | rw [hcA] | rw [hcN]) | wp_step)
  show R _ _
  rw [Heap.size_push]
  exact hq
theorem type_call_ownK (F : ExcBaseFacts B newId initId bmB) (hT : ∀ X : String, bm.contains (.type X) = bmB.contains (.type X)) {rest : List Value} {kw : List (Str × Value)} {fI : Addr} {Q : Fin → Shared → Prop}
    (hC : h.get? C = some (excClassObj nm q C N bs bm hdct sn sub ab col dd k0 k1 k2 k3 k5 newId))
    (hi : W.Looks (model prog w) h (typeLookup (.ref C) "__init__") (some (.ref fI))) (hb : ∀ self, W.Looks (model prog w) h (bindSpecial (.ref fI) self) (.ref fI, [self])) (hrest : rest.length ≤ sizeLine)
    (hq : codeAny (model prog w) A (.call (.ref fI) ⟨.ref (h.objs.size + 1) :: rest, kw⟩)
      (fun r s' => match r with | .ok (.ret v) => v = .none ∧ Q (.done (.ret (.ref (h.objs.size + 1)))) s' | .ok _ => False | .error e => E e s')
      ⟨(h.push (W.kdv_tup rest)).push (excO C h.objs.size), g, d, t, os⟩) :
    wpAny (model prog w) A (Builtin.«type.__call__» ⟨.ref C :: rest, kw⟩) Q E ⟨h, g, d, t, os⟩ := by
  repeat (first | with_reducible refine wpAny_loadPart_at hC ?_ | with_reducible refine wpAny_madeBy_exc hC ?_ | wp_step)
  refine codeAny_call_builtin_code (Code.quiet_builtin _ F.quiet) (check_new_ownK F hT hC ?_)
  refine new_ownK F hT hC ?_ hrest
  show wpAny _ _ _ _ _ _
  have k : ∀ b o, h.get? b = some o → ((h.push (W.kdv_tup rest)).push (excO C h.objs.size)).get? b = some o := fun b o e => Heap.get?_push_of_some _ (Heap.get?_push_of_some _ e)
  have hC₁ := k _ _ hC
  have hget : ((h.push (W.kdv_tup rest)).push (excO C h.objs.size)).get? (h.objs.size + 1) = some (excO C h.objs.size) := by heap_get
  have hcC : (Value.ref C :: bm).contains (.ref C) = true := by simp
  have i1 := hi.keeps k
  have b1 := (hb (.ref (h.objs.size + 1))).keeps k
  unfold isInstance
  repeat (first | with_reducible refine wpAny_loadPart_at hget ?_ | (with_reducible refine wpAny_isSubtype_exc hC₁ ?_; rw [hcC]) | wp_step)
  show wpAny _ _ (typeLookup (.ref C) _) _ _ _
  refine i1.at ?_
  refine wpAny_holding (wpAny_bind (b1.at ?_))
  refine wpAny_bind (wpAny_call (codeAny_mono hq fun r s' z => ?_))
  rcases r with e | (v | _ | _ | _) <;> first | exact z | exact z.elim | skip
  obtain ⟨rfl, z⟩ := z
  first
    | exact wpAny_pure (wpAny_pure z)
    | (wp_walk; exact z)
theorem check_tcK {M : Model} {rest : List Value} {kw : List (Str × Value)} {Q : Unit → Shared → Prop} (hC : h.get? C = some (excClassObj nm q C N bs bm hdct sn sub ab col dd k0 k1 k2 k3 k5 newId))
    (hq : Q () ⟨h, g, d, t, os⟩) : wpAny M A (checkBuiltinCall "type.__call__" ⟨.ref C :: rest, kw⟩) Q E ⟨h, g, d, t, os⟩ := by
  have f3 := tc_sub
  have hT : (⟨h, g, d, t, os⟩ : Shared).TypeIs (.ref C) "type" := ⟨_, hC, rfl⟩
  simp only [checkBuiltinCall, tc_kind, tc_split]
  repeat (any_goals (first | assumption | with_reducible refine wpAny_loadPart_at hC ?_ | with_reducible refine wpAny_onRaise ?_ | with_reducible refine wpAny_map ?_ | wp_step))
theorem call_ownK (F : ExcBaseFacts B newId initId bmB) (hT : ∀ X : String, bm.contains (.type X) = bmB.contains (.type X)) {rest : List Value} {kw : List (Str × Value)} {fI : Addr}
    (hC : h.get? C = some (excClassObj nm q C N bs bm hdct sn sub ab col dd k0 k1 k2 k3 k5 newId))
    (hi : W.Looks (model prog w) h (typeLookup (.ref C) "__init__") (some (.ref fI))) (hb : ∀ self, W.Looks (model prog w) h (bindSpecial (.ref fI) self) (.ref fI, [self])) (hrest : rest.length ≤ sizeLine)
    (hq : codeAny (model prog w) (A.under (.builtin "type.__call__" ⟨.ref C :: rest, kw⟩)) (.call (.ref fI) ⟨.ref (h.objs.size + 1) :: rest, kw⟩) (W.InitBack (h.objs.size + 1) R)
      ⟨(h.push (W.kdv_tup rest)).push (excO C h.objs.size), g, d, t, os⟩) :
    codeAny (model prog w) A (.call (.ref C) ⟨rest, kw⟩) R ⟨h, g, d, t, os⟩ := by
  have f1 := tc_lookup
  have f2 := tc_bind (.ref C)
  have hTy : (⟨h, g, d, t, os⟩ : Shared).TypeIs (.ref C) "type" := ⟨_, hC, rfl⟩
  refine codeAny_of_tree ?_
  show wpAny _ _ (callAny (.ref C) _) _ _ _
  repeat (any_goals (first | assumption | with_reducible refine wpAny_loadPart_at hC ?_ | wp_step))
  refine ⟨rfl, ?_⟩
  refine codeAny_call_builtin_at (Code.quiet_builtin _ (by decide +kernel)) entry_typeCall (check_tcK hC (type_call_ownK F hT hC hi hb hrest ?_))
  refine codeAny_mono hq fun r s' z => ?_
  rcases r with e | (v | _ | _ | _) <;> exact z
end
end HandSPX
end PySem
namespace L2
open PySem PySem.Spec PyProof.Rows
structure ExB (K : PySem.W.Frag) (C : Addr) : Prop where
  cls : ∃ (B newId initId : String) (bmB : List Value) (nm q : Str) (N : Addr) (bs bm : List Value) (sn : List Str) (sub : List Value) (ab : Bool) (col : Option Bool) (dd : Option Addr) (k0 k1 k2 k3 k5 : Option Value),
    ExcBaseFacts B newId initId bmB ∧ (∀ Y : String, bm.contains (.type Y) = bmB.contains (.type Y)) ∧ K.lookup C = some (excClassObj nm q C N bs bm true sn sub ab col dd k0 k1 k2 k3 k5 newId)
  kC : PySem.W.keepIn K (.ref C) = true
theorem OexC.exB {K : PySem.W.Frag} {C : Addr} (T : OexC K C) : ExB K C := by
  obtain ⟨nm, q, N, bs, bm, sn, sub, ab, col, dd, k0, k1, k2, k3, k5, hC, hbm⟩ := T.cls
  exact ⟨⟨_, _, _, _, nm, q, N, bs, bm, sn, sub, ab, col, dd, k0, k1, k2, k3, k5, PySem.F.excBase_ValueError, fun Y => PySem.HandSPX.refsVE_contains Y bm hbm, hC⟩, T.kC⟩
theorem OexR.exB {R : L3.ERoot} {K : PySem.W.Frag} {C : Addr} (T : OexR R K C) : ExB K C := by
  obtain ⟨nm, q, N, bs, bm, sn, sub, ab, col, dd, k0, k1, k2, k3, k5, hC, hbm⟩ := T.cls
  exact ⟨⟨_, _, _, _, nm, q, N, bs, bm, sn, sub, ab, col, dd, k0, k1, k2, k3, k5, T.root.F, fun Y => refsR_has Y bm hbm, hC⟩, T.kC⟩
section
variable {X : Cx} {CX : CXT} {k n : Nat} {C fI : Addr} {fd : FuncData} {ps ks : List Str} {sp : Sp} {x f : Str} {p pos : Pos} {e : Expr} {kws : List Keyword} {ta tk : TA} {te : TE} {g : List Value → List Value → List Value} {gV : List V → List V → List V}
theorem run_excV {pins : List (Addr × Obj)} {σ : St} {H : Hp} {s : Shared} {Q : VK} {us ws : List Value} {vs zs : List V} (EB : ExB X.K C) (iC : PySem.W.findIn X.K (.ref C) "__init__" = some (some (.ref fI))) (tI : PySem.W.typeIn X.K (.ref fI) = some (.type "function"))
    (F : FnOk X.prog X.w X.K X.mg X.base CX k fI fd ps sp) (hr : Room (k + 1) X.A) (hb : KBn X.K fd ps (n + 1) ks g gV) (hx : Passes CX X (fun _ _ _ => False)) (I : Inv X pins σ H s) (r : Vals vs us) (rz : Vals zs ws) (l1 : vs.length = n) (l2 : zs.length = ks.length) (hz : vs.length ≤ 1000)
    (h : ∀ a, H a = none → sp (gV (.ref a :: vs) zs) (upd H a (exo a C none)) (fun v H2 => v = .non ∧ Q (.ref a) H2) (fun _ _ _ => False)) :
    wpAny (model X.prog X.w) X.A (call (.ref C) us (ks.zip ws)) (EP X pins σ Q) X.xe s := by
  obtain ⟨B, newId, initId, bmB, nm, q, N, bs, bm, sn, sub, ab, col, dd, k0, k1, k2, k3, k5, FB, hT, hC⟩ := EB.cls
  obtain ⟨hp, gg, dr, tk, os⟩ := s
  have hsz : hp.objs.size ≤ hp.objs.size + 1 := Nat.le_succ _
  have hq := h (hp.objs.size + 1) (I.hok.fresh hsz)
  have kk : ∀ b o, hp.get? b = some o → ((hp.push (PySem.W.kdv_tup us)).push (PySem.HandSPX.excO C hp.objs.size)).get? b = some o := fun b o e => Heap.get?_push_of_some _ (Heap.get?_push_of_some _ e)
  have hget : ((hp.push (PySem.W.kdv_tup us)).push (PySem.HandSPX.excO C hp.objs.size)).get? (hp.objs.size + 1) = some (PySem.HandSPX.excO C hp.objs.size) := by heap_get
  have I2 : Inv X pins σ (upd H (hp.objs.size + 1) (exo (hp.objs.size + 1) C none)) ⟨(hp.push (PySem.W.kdv_tup us)).push (PySem.HandSPX.excO C hp.objs.size), gg, dr, tk, os⟩ :=
    I.laid (t' := tk) (a := hp.objs.size + 1) (o := exo (hp.objs.size + 1) C none) (h' := (hp.push (PySem.W.kdv_tup us)).push (PySem.HandSPX.excO C hp.objs.size)) kk hsz (exo_ok hget)
  have r1 : Vals (V.ref (hp.objs.size + 1) :: vs) (Value.ref (hp.objs.size + 1) :: us) := .cons rfl r
  have r2 := hb.rel r1 rz
  have e1 : (Value.ref (hp.objs.size + 1) :: us).length = n + 1 := r1.length.symm.trans (congrArg Nat.succ l1)
  have e2 : ws.length = ks.length := rz.length.symm.trans l2
  have hus : us.length ≤ sizeLine := by
    rw [← Paired.length r, sizeLine_eq]
    omega
  refine wpAny_call (PySem.HandSPX.call_ownK FB hT (I.kIn _ _ hC) (PySem.W.looks_findIn I.kIn iC) (fun self => PySem.W.bind_fn I.kIn self tI) hus
    (codeAny_mono (F.run _ X.stack _ _ ⟨Value.ref (hp.objs.size + 1) :: us, ks.zip ws⟩ (g (Value.ref (hp.objs.size + 1) :: us) ws) _ _ (fun _ _ _ => False) (hr.make C us (ks.zip ws))
    (I2.env0.make C us (ks.zip ws)) (hb.to _ (Value.ref (hp.objs.size + 1) :: us) ws I2.kIn e1 e2) r2 hq) fun r s' hq' => ?_))
  cases r with
  | error er => exact hx pins σ _ _ er s' I2 hq'
  | ok fl =>
    cases fl with
    | ret u =>
      obtain ⟨v, H', I3, rv, ev, q3⟩ := I2.after hq'
      subst ev
      exact ⟨rv, ⟨V.ref (hp.objs.size + 1), H', I3, rfl, q3⟩⟩
    | next => exact False.elim hq'
    | brk => exact False.elim hq'
    | cont => exact False.elim hq'
def tExV (C : Addr) (n m : Nat) (sp : Sp) (gV : List V → List V → List V) (t tk : TA) : TE := fun σ H Q => t σ H fun vs H1 => tk σ H1 fun zs H2 => vs.length = n ∧ zs.length = m ∧ vs.length ≤ 1000 ∧
  ∀ a, H2 a = none → sp (gV (.ref a :: vs) zs) (upd H2 a (exo a C none)) (fun v H3 => v = .non ∧ Q (.ref a) H3) (fun _ _ _ => False)
theorem pe_excK0 (EB : ExB X.K C) (iC : PySem.W.findIn X.K (.ref C) "__init__" = some (some (.ref fI))) (tI : PySem.W.typeIn X.K (.ref fI) = some (.type "function"))
    (F : FnOk X.prog X.w X.K X.mg X.base CX k fI fd ps sp) (hr : Room (k + 1) X.A) (hg : Gl X x) (hm : X.mg x = some (.ref C)) (hb : KBn X.K fd ps 1 ks g gV) (hx : Passes CX X (fun _ _ _ => False)) (hkw : PK X kws tk)
    (hall : (backToKw pos (keywordEach kws X.env)).all (·.1.isSome) = true := by rfl) (hks : (backToKw pos (keywordEach kws X.env)).filterMap (·.1) = ks := by rfl) (hdb : (x == ("__debug__" : Str)) = false := by decide)
    (hpl : ((backTo pos (starEach [] X.env)).any (·.1) || (backToKw pos (keywordEach kws X.env)).any (·.1.isNone)) = false := by rfl) :
    PE X (.Call (.Name x p) [] kws pos) (tExV C 0 ks.length sp gV tNil tk) := by
  refine ⟨fun pins s σ H Q I h => ?_⟩
  refine wpAny_Call_Name_kw (ld_glob I hg hm ?_ hdb)
  refine PySem.W.callWith_KW0 (h₀ := X.base) I.ok.mod.kin EB.kC hall ?_ hpl
  refine thn (hkw.run pos pins s σ H _ I h) fun ws s2 ⟨zs, H2, I2, rz, l1, l2, l3, q2⟩ => ⟨I2.kIn, ?_⟩
  rw [hks]
  exact run_excV (us := []) (vs := []) EB iC tI F hr hb hx I2 .nil rz rfl l2 l3 q2
theorem pe_exc1V (EB : ExB X.K C) (iC : PySem.W.findIn X.K (.ref C) "__init__" = some (some (.ref fI))) (tI : PySem.W.typeIn X.K (.ref fI) = some (.type "function"))
    (F : FnOk X.prog X.w X.K X.mg X.base CX k fI fd ps sp) (hr : Room (k + 1) X.A) (hg : Gl X x) (hm : X.mg x = some (.ref C)) (hb : KBn X.K fd ps 2 [] g gV) (hx : Passes CX X (fun _ _ _ => False)) (ha : PA X (e :: []) ta)
    (hdb : (x == ("__debug__" : Str)) = false := by decide) (he : starEach (e :: []) X.env = (false, eval e X.env) :: starEach [] X.env := by rfl) (hpl : (backTo pos (starEach [] X.env)).any (·.1) = false := by rfl) :
    PE X (.Call (.Name x p) [e] [] pos) (tExV C 1 0 sp gV ta tNil) := by
  refine ⟨fun pins s σ H Q I h => ?_⟩
  refine wpAny_Call_Name_kw (ld_glob I hg hm ?_ hdb)
  refine PySem.W.callWith_K (h₀ := X.base) I.ok.mod.kin EB.kC (thn (ha.run pos pins s σ H _ I h) fun us s1 ⟨vs, H1, I1, r1, q1⟩ => ⟨I1.kIn, ?_⟩) he hpl
  obtain ⟨l1, l2, l3, q2⟩ := q1
  exact run_excV (ks := []) (ws := []) (zs := []) EB iC tI F hr hb hx I1 r1 .nil l1 l2 l3 q2
end
def heldE (H : Hp) (a C : Addr) : Prop := H a = some (exo a C none) ∨ ∃ dx fs, H a = some (exo a C (some dx)) ∧ H dx = some (exd dx fs)
section
variable {X : Cx} {pins : List (Addr × Obj)} {σ : St} {H : Hp} {s : Shared} {a C : Addr}
theorem held_inst (I : Inv X pins σ H s) (h : heldE H a C) : ∃ ox od, PySem.W.InstAt s.heap a ox C od := by
  rcases h with h | ⟨dx, fs, h, hd⟩
  · obtain ⟨t1, ho⟩ := exo_at I.hok h
    exact ⟨_, none, ho, rfl, rfl, trivial⟩
  · obtain ⟨t1, ho⟩ := exo_at I.hok h
    obtain ⟨mA, hns, rel⟩ := exd_at I.hok hd
    obtain ⟨od, ho2, _⟩ := lookIn_ns hns
    exact ⟨_, some od, ho, rfl, rfl, ho2⟩
end
def rIsV (K : PySem.W.Frag) (Cs : List Addr) : List V → Hp → VK → Prop := fun xs H Q => ∃ (a C : Addr) (c : V) (cv : Value) (b : Bool), xs = [.ref a, c] ∧ C ∈ Cs ∧ heldE H a C ∧ (∀ u, RelV c u → u = cv) ∧ PySem.W.kitOne K (.ref C) cv = some b ∧ Q (.bl b) H
theorem call_isV {X : Cx} {Cs : List Addr} (EC : ∀ C ∈ Cs, ExcC X.K C) : CallR X (.builtin "isinstance") (rIsV X.K Cs) := by
  intro pins s σ H xs us Q I r h
  obtain ⟨a, C, c, cv, b, rfl, hm, hh, hcv, e, q⟩ := h
  cases r with
  | cons rx rr =>
    cases rr with
    | cons rt rr =>
      cases rr
      cases rx
      have ec := hcv _ rt
      subst ec
      have E := EC C hm
      have hcl : (PySem.W.clsIn X.K C).isSome = true := by
        obtain ⟨cd, hc, _⟩ := PySem.W.any_some E.hd
        rw [hc]
        rfl
      obtain ⟨ox, od, J⟩ := held_inst I hh
      exact PySem.W.kia_one (PySem.W.kitx_exc hcl E.hg E.hk E.hs E.ha E.hn E.ht E.hm) I.kIn J e (fun z => nomatch z) fun tk => ⟨.bl b, H, I.kept (t' := tk) fun _ _ z => z, rfl, q⟩
def tXV (K : PySem.W.Frag) (Cs : List Addr) (n : Str) (te : TE) : TE := fun σ H Q => te σ H fun x H1 => ∃ (a C dx : Addr) (fs : List (Str × V)) (v : V), x = .ref a ∧ C ∈ Cs ∧ H1 a = some (exo a C (some dx)) ∧ H1 dx = some (exd dx fs) ∧ fs.lookup n = some v ∧ Q v H1
theorem pe_xV {X : Cx} {Cs : List Addr} {e : Expr} {te : TE} {pos : Pos} {n : Str} (T : ∀ C ∈ Cs, XfC X.K C ∧ PySem.W.findIn X.K (.ref C) n = some none) (he : PE X e te) (hb : attributeBase e n X.env (eval e X.env) = eval e X.env := by rfl) :
    PE X (.Attribute e n pos) (tXV X.K Cs n te) := by
  refine ⟨fun pins s σ H Q I h => ?_⟩
  refine attr_of hb (thn (he.run pins s σ H _ I h) fun u s1 hh => ?_)
  obtain ⟨x, H1, I1, rx, a, C, dx, fs, v, ex, hm, ea, ed, l, q⟩ := hh
  subst ex
  obtain rfl : u = Value.ref a := rx
  obtain ⟨t1, ha⟩ := exo_at I1.hok ea
  obtain ⟨mA, hns, hr⟩ := exd_at I1.hok ed
  obtain ⟨od, ho, hl⟩ := lookIn_ns hns
  obtain ⟨u, hu, ru⟩ := RelO.some_of (v := v) (o := mA n) (by rw [← l]; exact hr n)
  obtain ⟨Tx, hno⟩ := T C hm
  have J : PySem.W.InstAt s1.heap a _ C (some od) := ⟨ha, rfl, rfl, ho⟩
  exact HandSPX.exc_get I1.kIn J Tx.ga Tx.gg Tx.exC (PySem.W.findObj_own Tx.hdC hno rfl (by rw [hl, hu])) (handed_of ru) ⟨v, H1, I1.tok _, ru, q⟩
theorem pe_exc0V {X : Cx} {C : Addr} {B newId initId : String} {bmB : List Value} {x : Str} {p pos : Pos} (F : ExcBaseFacts B newId initId bmB) (q : PySem.W.excIn X.K C bmB newId = true) (gC : X.mg x = some (.ref C)) (kC : PySem.W.keepIn X.K (.ref C) = true) (hg : Gl X x) (hdb : (x == ("__debug__" : Str)) = false := by decide) :
    PE X (.Call (.Name x p) [] [] pos) (fun σ H Q => ∀ a, H a = none → Q (.ref a) (upd H a (exo a C none))) := by
  refine ⟨fun pins s σ H Q I h => ?_⟩
  refine wpAny_Call_Name_kw (ld_glob I hg gC ?_ hdb)
  refine PySem.W.callWith_K0 I.kIn kC ?_
  show wpAny _ _ (call (.ref C) []) _ _ _
  obtain ⟨bm, N, nm, qn, bs, hdct, sn, sub, ab, col, dd, k0, k1, k2, k3, k5, mN, hC, hN, hni, T⟩ := exc_obj I.kIn q
  refine wpAny_call_exc_subT F T hC hN hni (fun h' a hm => ?_) (Nat.zero_le _)
  have hn : H a = none := I.hok.gone hm.new
  obtain ⟨t, ht, _, _⟩ := hm.there
  exact ⟨.ref a, upd H a (exo a C none), I.laidN hm.keeps hm.new hn (exo_ok ht), rfl, h a hn⟩
end L2
namespace L3
open PySem PySem.Spec PyProof.Rows L2
theorem Ext.madeE {K : PySem.W.Frag} {F H : Hp} {G : Gp} {a dx C : Addr} {fs : List (Str × D)} {ws : List (Str × V)} (c : Cp K F G H) (ha : H a = none) (hd : H dx = none) (hne : dx ≠ a) (r : RepF K F fs ws) :
    Ext K F G H (upd F dx (exd dx ws)) (gupd G a (.exc C fs)) (upd (upd H dx (exd dx ws)) a (exo a C (some dx))) := by
  have x := Ext.newF c (exd dx ws) hd
  obtain ⟨fa, ga⟩ := c.free ha
  have fa2 : upd F dx (exd dx ws) a = none := by rw [upd_ne (Ne.symm hne)]; exact fa
  have ha2 : upd H dx (exd dx ws) a = none := by rw [upd_ne (Ne.symm hne)]; exact ha
  refine ⟨x.le, fun b o e g f n => ?_, Cp.put x.cp fa2 (fun y z => by rw [ha2] at z; cases z) (fun z => by rw [ha2] at z; cases z) (fun _ _ _ z => by cases z) ⟨dx, ws, upd_same, upd_same, r.mono x.le⟩⟩
  have hb : b ≠ a := fun z => by rw [z, ha] at e; cases e
  obtain ⟨h1, h2, h3⟩ := x.st b o e g f n
  exact ⟨by rw [upd_ne hb]; exact h1, by rw [gupd_ne hb]; exact h2, h3⟩
structure ExcV (P : Program) (w : World) (K : PySem.W.Frag) (mg : Str → Option Value) (base : Heap) (x : Str) (C : Addr) (f qual : Str) (st : Stmt) : Prop where
  ex : ExB K C
  xf : XfC K C
  g : mg x = some (.ref C)
  no : PySem.W.findIn K (.ref C) f = some none
  fn : ∃ (fI : Addr) (fd : FuncData) (sp : Sp), PySem.W.findIn K (.ref C) "__init__" = some (some (.ref fI)) ∧ PySem.W.typeIn K (.ref fI) = some (.type "function") ∧ Fun K "__init__" qual st fI fd ∧ FnOk P w K mg base CX0 1 fI fd ["self", f] sp ∧
    ∀ (a : Addr) (v : V) (H : Hp) (Q : VK) (E : XK), H a = some (exo a C none) → (∀ dx, H dx = none → dx ≠ a → Q .non (upd (upd H dx (exd dx [(f, v)])) a (exo a C (some dx)))) → sp [.ref a, v] H Q E
section
variable {P : Program} {w : World} {K : PySem.W.Frag} {mg : Str → Option Value} {base : Heap} {x f qual : Str} {C : Addr} {st : Stmt} {R : ERoot}
theorem ExcAt.v (A : ExcAt K mg x C f qual st) (S : FnScope ["self", f] ["self", f] (defScope st)) (B : InitIs st f) (hdf : (f == ("__debug__" : Str)) = false := by decide) (hcf : (f == ("__classdict__" : Str)) = false := by decide)
    (hv : Vis (defScope st) "self" := by first | exact Or.inl rfl | exact Or.inr (Or.inl rfl) | exact Or.inr (Or.inr rfl)) (hvf : Vis (defScope st) f := by first | exact Or.inl rfl | exact Or.inr (Or.inl rfl) | exact Or.inr (Or.inr rfl))
    (hsw : ∀ (env : Env) p1 p2 p3 (p4 : Pos), swapsWith (.Name f p3) (some (.Attribute (.Name "self" p1) f p2)) p4.line env = pure false := by intros; rfl) : ExcV P w K mg base x C f qual st := by
  obtain ⟨fI, fd, iC, tI, F, b⟩ := A.fn
  exact ⟨A.oex.exB, A.xf, A.g, A.no, fI, fd, spI K f, iC, tI, F, spI_ok F S B hdf hcf hv hvf hsw, fun a v H Q E ea q => ⟨a, C, v, rfl, A.oex, A.no, ea, q⟩⟩
theorem ExcAtR.v (A : ExcAtR R K mg x C f qual st) (S : FnScope ["self", f] ["self", f] (defScope st)) (B : InitIs st f) (hdf : (f == ("__debug__" : Str)) = false := by decide) (hcf : (f == ("__classdict__" : Str)) = false := by decide)
    (hv : Vis (defScope st) "self" := by first | exact Or.inl rfl | exact Or.inr (Or.inl rfl) | exact Or.inr (Or.inr rfl)) (hvf : Vis (defScope st) f := by first | exact Or.inl rfl | exact Or.inr (Or.inl rfl) | exact Or.inr (Or.inr rfl))
    (hsw : ∀ (env : Env) p1 p2 p3 (p4 : Pos), swapsWith (.Name f p3) (some (.Attribute (.Name "self" p1) f p2)) p4.line env = pure false := by intros; rfl) : ExcV P w K mg base x C f qual st := by
  obtain ⟨fI, fd, iC, tI, F, b⟩ := A.fn
  exact ⟨A.oex.exB, A.xf, A.g, A.no, fI, fd, spIR R K f, iC, tI, F, spIR_ok F S B hdf hcf hv hvf hsw, fun a v H Q E ea q => ⟨a, C, v, rfl, A.oex, A.no, ea, q⟩⟩
end
def dExc (C : Addr) (f : Str) (te : TE3) : TE3 := fun sd G Q => te sd G fun d G1 => ∀ a, G1 a = none → Q (.ref a) (gupd G1 a (.exc C [(f, d)]))
section
variable {X : Cx} {F0 : Pt} {e : Expr} {te : TE3} {x f qual : Str} {C : Addr} {st : Stmt} {p pos kpos : Pos} {j : Nat}
theorem low_excV {K : PySem.W.Frag} {sp : Sp} {F : Hp} {G : Gp} {H : Hp} {Q : VK} {Q3 : DK} {d : D} {v : V} (c : Cp K F G H) (r : Rep K F d v) (q : ∀ a, G a = none → Q3 (.ref a) (gupd G a (.exc C [(f, d)])))
    (hs : ∀ (a : Addr) (v : V) (H : Hp) (Q : VK) (E : XK), H a = some (exo a C none) → (∀ dx, H dx = none → dx ≠ a → Q .non (upd (upd H dx (exd dx [(f, v)])) a (exo a C (some dx)))) → sp [.ref a, v] H Q E)
    (k : ∀ d v F' G' H', Ext K F G H F' G' H' → Rep K F' d v → Q3 d G' → Q v H') :
    ∀ a, H a = none → sp [.ref a, v] (upd H a (exo a C none)) (fun u H3 => u = .non ∧ Q (.ref a) H3) (fun _ _ _ => False) := fun a ha => by
  refine hs a v _ _ _ upd_same fun dx n ne => ⟨rfl, ?_⟩
  have n1 : H dx = none := by rwa [upd_ne ne] at n
  have eh : upd (upd (upd H a (exo a C none)) dx (exd dx [(f, v)])) a (exo a C (some dx)) = upd (upd H dx (exd dx [(f, v)])) a (exo a C (some dx)) := by
    funext b
    by_cases hb : b = a
    · rw [hb, upd_same, upd_same]
    · rw [upd_ne hb, upd_ne hb]
      by_cases hd : b = dx
      · rw [hd, upd_same, upd_same]
      · rw [upd_ne hd, upd_ne hd, upd_ne hb]
  rw [eh]
  exact k _ _ _ _ _ (Ext.madeE c ha n1 ne (.cons r .nil)) (.ref a) (q a (c.free ha).2)
theorem de_excV (A : ExcV X.prog X.w X.K X.mg X.base x C f qual st) (hr : Room j X.A) (he : DE X F0 e te)
    (hb : ∀ (kV doc pm : Value) (an : Option Addr) (cdv ct : Value) (us ws : List Value), us.length = 2 → ws.length = 0 → bindArgs (PySem.W.fnOf "__init__" qual (defArgs st) (defBody st) (defScope st) .none kV doc pm an cdv ct) ⟨us, ([] : List Str).zip ws⟩ = pure ((["self", f] : List Str).zip (pk [0, 1] (us ++ ws))))
    (hj : 2 ≤ j := by decide) (hg : Gl X x := by rfl) (hdb : (x == ("__debug__" : Str)) = false := by decide)
    (hs : starEach (e :: []) X.env = (false, eval e X.env) :: starEach [] X.env := by rfl) (hpl : (backTo pos (starEach [] X.env)).any (·.1) = false := by rfl) :
    DE X F0 (.Call (.Name x p) [e] [] pos) (dExc C f te) := by
  obtain ⟨fI, fd, sp, iC, tI, F, F1, hsp⟩ := A.fn
  refine PE.imp (pe_exc1V A.ex iC tI F1 (hr.mono hj) hg A.g (kbn (ks := []) (perm := [0, 1]) F hb) pass0 (pa_cons he pa_nil hs) hdb hs hpl) fun σ H Q ⟨sd, F, G, Q3, at_, h, k⟩ => ?_
  refine ⟨sd, F, G, _, at_, h, fun d v F1 G1 H1 l r q => ⟨rfl, rfl, (by decide : 1 ≤ 1000), ?_⟩⟩
  exact low_excV l.cp r q hsp fun d v F' G' H' y ry qy => k _ _ _ _ _ (l.trans y) ry qy
theorem de_excVK (A : ExcV X.prog X.w X.K X.mg X.base x C f qual st) (hr : Room j X.A) (he : DE X F0 e te)
    (hb : ∀ (kV doc pm : Value) (an : Option Addr) (cdv ct : Value) (us ws : List Value), us.length = 1 → ws.length = 1 → bindArgs (PySem.W.fnOf "__init__" qual (defArgs st) (defBody st) (defScope st) .none kV doc pm an cdv ct) ⟨us, ([f] : List Str).zip ws⟩ = pure ((["self", f] : List Str).zip (pk [0, 1] (us ++ ws))))
    (hj : 2 ≤ j := by decide) (hg : Gl X x := by rfl) (hall : (backToKw pos (keywordEach [⟨some f, e, kpos⟩] X.env)).all (·.1.isSome) = true := by rfl) (hks : (backToKw pos (keywordEach [⟨some f, e, kpos⟩] X.env)).filterMap (·.1) = [f] := by rfl) (hdb : (x == ("__debug__" : Str)) = false := by decide)
    (hpl : ((backTo pos (starEach [] X.env)).any (·.1) || (backToKw pos (keywordEach [⟨some f, e, kpos⟩] X.env)).any (·.1.isNone)) = false := by rfl) :
    DE X F0 (.Call (.Name x p) [] [⟨some f, e, kpos⟩] pos) (dExc C f te) := by
  obtain ⟨fI, fd, sp, iC, tI, F, F1, hsp⟩ := A.fn
  refine PE.imp (pe_excK0 A.ex iC tI F1 (hr.mono hj) hg A.g (kbn (ks := [f]) (perm := [0, 1]) F hb) pass0 (dk_cons he dk_nil) hall hks hdb hpl) fun σ H Q ⟨sd, F, G, Q3, at_, h, k⟩ => ?_
  refine ⟨sd, F, G, fun ds G' => match ds with
    | [d] => ∀ a, G' a = none → Q3 (.ref a) (gupd G' a (.exc C [(f, d)]))
    | _ => False, at_, h, fun zs us F1 G1 H1 l r q => ?_⟩
  cases r with
  | nil => exact q.elim
  | cons r t =>
    cases t with
    | nil => exact ⟨rfl, rfl, (by decide : 0 ≤ 1000), low_excV l.cp r q hsp fun d v F' G' H' y ry qy => k _ _ _ _ _ (l.trans y) ry qy⟩
    | cons _ _ => exact q.elim
end
def exF (a C : Addr) : Heap → Prop := fun h => ∃ t1 : Addr, h.get? a = some ({ cls := .ref C, dict := none, data := .fields #[.ref t1, .none, .none, .none, .bool false, .none] } : Obj)
def exK (G : Gp) (a C : Addr) : Prop := (∃ f d, G a = some (.exc C [(f, d)])) ∨ G a = some (.ext (exF a C))
theorem exK.held {K : PySem.W.Frag} {F H : Hp} {G : Gp} {a C : Addr} (c : Cp K F G H) (h : exK G a C) : heldE H a C := by
  rcases h with ⟨f, d, h⟩ | h
  · obtain ⟨_, dx, ws, h1, h2, _⟩ := c.own a _ h
    exact .inr ⟨dx, ws, h1, c.frz _ _ h2⟩
  · exact .inl (c.own a _ h).2
def dExc0 (C : Addr) : TE3 := fun _ G Q => ∀ a, G a = none → Q (.ref a) (gupd G a (.ext (exF a C)))
section
variable {X : Cx} {F0 : Pt} {e : Expr} {te : TE3} {x f : Str} {C : Addr} {p p2 pos : Pos} {R : ERoot} {Cs : List Addr}
theorem de_exc0V (A : ExcAt0 R X.K X.mg x C) (hg : Gl X x := by rfl) (hdb : (x == ("__debug__" : Str)) = false := by decide) : DE X F0 (.Call (.Name x p) [] [] pos) (dExc0 C) :=
  PE.imp (pe_exc0V A.ok.F A.q A.g A.kC hg hdb) fun σ H Q ⟨sd, F, G, Q3, at_, h, k⟩ a ha => by
    obtain ⟨fa, ga⟩ := at_.cp.free ha
    have c := Cp.put (p := a) (o := exo a C none) (u := .ext (exF a C)) at_.cp fa (fun y z => by rw [ha] at z; cases z) (fun z => by rw [ha] at z; cases z) (fun _ _ _ z => by cases z) (show upd H a (exo a C none) a = _ from upd_same)
    refine k _ _ _ _ _ ⟨Le.refl _, fun b o e g f n => ?_, c⟩ (.ref a) (h a ga)
    have hb : b ≠ a := fun z => by rw [z, ha] at e; cases e
    exact ⟨by rw [upd_ne hb]; exact e, by rw [gupd_ne hb]; exact g, f⟩
def dIsV (K : PySem.W.Frag) (Cs : List Addr) (cv : Value) (te : TE3) : TE3 := fun sd G Q => te sd G fun x G1 => ∃ a C b, x = .ref a ∧ C ∈ Cs ∧ exK G1 a C ∧ PySem.W.kitOne K (.ref C) cv = some b ∧ Q (.bl b) G1
theorem de_isV {c : D} {v : V} {cv : Value} (EC : ∀ C' ∈ Cs, ExcC X.K C') (he : DE X F0 e te) (hm : X.mg "isinstance" = none)
    (hc : DE X F0 (.Name x p2) (dC c)) (hr : ∀ F v', Rep X.K F c v' → v' = v) (hv : ∀ u, RelV v u → u = cv) (hg : Gl X "isinstance" := by rfl)
    (s1 : starEach [e, .Name x p2] X.env = (false, eval e X.env) :: starEach [.Name x p2] X.env := by rfl) (s2 : starEach [.Name x p2] X.env = (false, eval (.Name x p2) X.env) :: starEach [] X.env := by rfl) (hpl : (backTo pos (starEach [.Name x p2] X.env)).any (·.1) = false := by rfl) :
    DE X F0 (.Call (.Name "isinstance" p) [e, .Name x p2] [] pos) (dIsV X.K Cs cv te) := by
  refine ⟨fun pins s σ H Q I ⟨sd, F, G, Q3, at_, h, k⟩ => ?_⟩
  refine (pe_callB (call_isV EC) hg hm boot_isinstance (pa_cons he (pa_cons hc pa_nil s2) s1) (by decide) (by decide) s1 hpl).run pins s σ H Q I ?_
  refine ⟨sd, F, G, _, at_, h, fun d1 v1 F1 G1 H1 l1 r1 ⟨a, C, b, ex, hC, hk, eb, q⟩ => ?_⟩
  subst ex
  cases r1
  refine ⟨sd, F1, G1, fun d2 G2 => d2 = c ∧ G2 = G1, at_.step l1, ⟨rfl, rfl⟩, fun d2 v2 F2 G2 H2 l2 r2 ⟨e2, q2⟩ => ?_⟩
  subst e2 q2
  have ev := hr _ _ r2
  subst ev
  exact ⟨a, C, v2, cv, b, rfl, hC, hk.held l2.cp, hv, eb, k _ _ _ _ _ (l1.trans l2) (.bl b) q⟩
def dXV (Cs : List Addr) (f : Str) (te : TE3) : TE3 := fun sd G Q => te sd G fun x G1 => ∃ a C d, x = .ref a ∧ C ∈ Cs ∧ G1 a = some (.exc C [(f, d)]) ∧ Q d G1
theorem de_xV (T : ∀ C ∈ Cs, XfC X.K C ∧ PySem.W.findIn X.K (.ref C) f = some none) (he : DE X F0 e te) (hb : attributeBase e f X.env (eval e X.env) = eval e X.env := by rfl) :
    DE X F0 (.Attribute e f pos) (dXV Cs f te) :=
  PE.imp (pe_xV T he hb) fun σ H Q ⟨sd, F, G, Q3, at_, h, k⟩ => ⟨sd, F, G, _, at_, h, fun y v F1 G1 H1 l r ⟨a, C, d, ex, hC, hG, q⟩ => by
    subst ex
    cases r
    obtain ⟨_, dx, ws, h1, h2, rf⟩ := l.cp.own a _ hG
    obtain ⟨u, eu, ru⟩ := rf.look (f := f) (v := d) (by simp [List.lookup])
    exact ⟨a, C, dx, ws, u, rfl, hC, h1, l.cp.frz _ _ h2, eu, k _ _ _ _ _ l ru q⟩⟩
end
end L3
set_option Elab.async false
set_option linter.all false
set_option maxRecDepth 100000
set_option maxHeartbeats 4000000
namespace TS
open PySem PySem.Spec PyProof.Rows L2 L3
theorem b_InvalidName_init : InitIs s_InvalidName_init "given" := ⟨_, _, _, _, rfl⟩
theorem b_InvalidMinutes_init : InitIs s_InvalidMinutes_init "given" := ⟨_, _, _, _, rfl⟩
theorem b_InvalidText_init : InitIs s_InvalidText_init "given" := ⟨_, _, _, _, rfl⟩
theorem b_InvalidLength_init : InitIs s_InvalidLength_init "given" := ⟨_, _, _, _, rfl⟩
theorem b_InvalidStation_init : InitIs s_InvalidStation_init "given" := ⟨_, _, _, _, rfl⟩
theorem b_InvalidNumber_init : InitIs s_InvalidNumber_init "given" := ⟨_, _, _, _, rfl⟩
theorem b_InvalidWish_init : InitIs s_InvalidWish_init "given" := ⟨_, _, _, _, rfl⟩
theorem b_InvalidIndex_init : InitIs s_InvalidIndex_init "given" := ⟨_, _, _, _, rfl⟩
theorem b_NotBook_init : InitIs s_NotBook_init "given" := ⟨_, _, _, _, rfl⟩
theorem b_InvalidRows_init : InitIs s_InvalidRows_init "index" := ⟨_, _, _, _, rfl⟩
theorem b_InvalidKinds_init : InitIs s_InvalidKinds_init "index" := ⟨_, _, _, _, rfl⟩
theorem b_InvalidChanges_init : InitIs s_InvalidChanges_init "index" := ⟨_, _, _, _, rfl⟩
theorem b_InvalidWishes_init : InitIs s_InvalidWishes_init "index" := ⟨_, _, _, _, rfl⟩
theorem b_UnknownName_init : InitIs s_UnknownName_init "given" := ⟨_, _, _, _, rfl⟩
theorem b_InUse_init : InitIs s_InUse_init "index" := ⟨_, _, _, _, rfl⟩
theorem b_NoStop_init : InitIs s_NoStop_init "given" := ⟨_, _, _, _, rfl⟩
theorem b_Broken_init : InitIs s_Broken_init "index" := ⟨_, _, _, _, rfl⟩
structure Txt (K : PySem.W.Frag) (mg : Str → Option Value) (ax : Str → Addr) : Prop where
  B : Blt mg
  sys : SysM K
  g_MOST_KINDS : ∃ t, mg "MOST_KINDS" = some (.int 4 t)
  g_MOST_ROWS : ∃ t, mg "MOST_ROWS" = some (.int 6 t)
  g_MOST_PERIOD : ∃ t, mg "MOST_PERIOD" = some (.int 6 t)
  g_MOST_CHANGES : ∃ t, mg "MOST_CHANGES" = some (.int 6 t)
  x_InvalidName : ExcAt K mg "InvalidName" (ax "InvalidName") "given" "InvalidName.__init__" s_InvalidName_init
  x_InvalidMinutes : ExcAt K mg "InvalidMinutes" (ax "InvalidMinutes") "given" "InvalidMinutes.__init__" s_InvalidMinutes_init
  x_InvalidText : ExcAt K mg "InvalidText" (ax "InvalidText") "given" "InvalidText.__init__" s_InvalidText_init
  x_InvalidLength : ExcAt K mg "InvalidLength" (ax "InvalidLength") "given" "InvalidLength.__init__" s_InvalidLength_init
  x_InvalidStation : ExcAt K mg "InvalidStation" (ax "InvalidStation") "given" "InvalidStation.__init__" s_InvalidStation_init
  x_InvalidNumber : ExcAt K mg "InvalidNumber" (ax "InvalidNumber") "given" "InvalidNumber.__init__" s_InvalidNumber_init
  x_InvalidWish : ExcAt K mg "InvalidWish" (ax "InvalidWish") "given" "InvalidWish.__init__" s_InvalidWish_init
  x_InvalidIndex : ExcAt K mg "InvalidIndex" (ax "InvalidIndex") "given" "InvalidIndex.__init__" s_InvalidIndex_init
  x_NotBook : ExcAt K mg "NotBook" (ax "NotBook") "given" "NotBook.__init__" s_NotBook_init
  x_InvalidRows : ExcAt K mg "InvalidRows" (ax "InvalidRows") "index" "InvalidRows.__init__" s_InvalidRows_init
  x_InvalidKinds : ExcAt K mg "InvalidKinds" (ax "InvalidKinds") "index" "InvalidKinds.__init__" s_InvalidKinds_init
  x_InvalidChanges : ExcAt K mg "InvalidChanges" (ax "InvalidChanges") "index" "InvalidChanges.__init__" s_InvalidChanges_init
  x_InvalidWishes : ExcAt K mg "InvalidWishes" (ax "InvalidWishes") "index" "InvalidWishes.__init__" s_InvalidWishes_init
  x_UnknownName : ExcAtR rootLE K mg "UnknownName" (ax "UnknownName") "given" "UnknownName.__init__" s_UnknownName_init
  x_InUse : ExcAtR rootLE K mg "InUse" (ax "InUse") "index" "InUse.__init__" s_InUse_init
  x_NoStop : ExcAtR rootAE K mg "NoStop" (ax "NoStop") "given" "NoStop.__init__" s_NoStop_init
  x_Broken : ExcAtR rootAE K mg "Broken" (ax "Broken") "index" "Broken.__init__" s_Broken_init
  x_NothingToUndo : ExcAt0 rootAE K mg "NothingToUndo" (ax "NothingToUndo")
  ec_InvalidName : ExcC K (ax "InvalidName")
  ki_InvalidName : ∀ p ∈ kiL_InvalidName ax, PySem.W.kitOne K (.ref (ax "InvalidName")) p.1 = some p.2
  ec_InvalidMinutes : ExcC K (ax "InvalidMinutes")
  ki_InvalidMinutes : ∀ p ∈ kiL_InvalidMinutes ax, PySem.W.kitOne K (.ref (ax "InvalidMinutes")) p.1 = some p.2
  ec_InvalidText : ExcC K (ax "InvalidText")
  ki_InvalidText : ∀ p ∈ kiL_InvalidText ax, PySem.W.kitOne K (.ref (ax "InvalidText")) p.1 = some p.2
  ec_InvalidLength : ExcC K (ax "InvalidLength")
  ki_InvalidLength : ∀ p ∈ kiL_InvalidLength ax, PySem.W.kitOne K (.ref (ax "InvalidLength")) p.1 = some p.2
  ec_InvalidStation : ExcC K (ax "InvalidStation")
  ki_InvalidStation : ∀ p ∈ kiL_InvalidStation ax, PySem.W.kitOne K (.ref (ax "InvalidStation")) p.1 = some p.2
  ec_InvalidNumber : ExcC K (ax "InvalidNumber")
  ki_InvalidNumber : ∀ p ∈ kiL_InvalidNumber ax, PySem.W.kitOne K (.ref (ax "InvalidNumber")) p.1 = some p.2
  ec_InvalidWish : ExcC K (ax "InvalidWish")
  ki_InvalidWish : ∀ p ∈ kiL_InvalidWish ax, PySem.W.kitOne K (.ref (ax "InvalidWish")) p.1 = some p.2
  ec_InvalidIndex : ExcC K (ax "InvalidIndex")
  ki_InvalidIndex : ∀ p ∈ kiL_InvalidIndex ax, PySem.W.kitOne K (.ref (ax "InvalidIndex")) p.1 = some p.2
  ec_NotBook : ExcC K (ax "NotBook")
  ki_NotBook : ∀ p ∈ kiL_NotBook ax, PySem.W.kitOne K (.ref (ax "NotBook")) p.1 = some p.2
  ec_InvalidRows : ExcC K (ax "InvalidRows")
  ki_InvalidRows : ∀ p ∈ kiL_InvalidRows ax, PySem.W.kitOne K (.ref (ax "InvalidRows")) p.1 = some p.2
  ec_InvalidKinds : ExcC K (ax "InvalidKinds")
  ki_InvalidKinds : ∀ p ∈ kiL_InvalidKinds ax, PySem.W.kitOne K (.ref (ax "InvalidKinds")) p.1 = some p.2
  ec_InvalidChanges : ExcC K (ax "InvalidChanges")
  ki_InvalidChanges : ∀ p ∈ kiL_InvalidChanges ax, PySem.W.kitOne K (.ref (ax "InvalidChanges")) p.1 = some p.2
  ec_InvalidWishes : ExcC K (ax "InvalidWishes")
  ki_InvalidWishes : ∀ p ∈ kiL_InvalidWishes ax, PySem.W.kitOne K (.ref (ax "InvalidWishes")) p.1 = some p.2
  ec_UnknownName : ExcC K (ax "UnknownName")
  ki_UnknownName : ∀ p ∈ kiL_UnknownName ax, PySem.W.kitOne K (.ref (ax "UnknownName")) p.1 = some p.2
  ec_InUse : ExcC K (ax "InUse")
  ki_InUse : ∀ p ∈ kiL_InUse ax, PySem.W.kitOne K (.ref (ax "InUse")) p.1 = some p.2
  ec_NoStop : ExcC K (ax "NoStop")
  ki_NoStop : ∀ p ∈ kiL_NoStop ax, PySem.W.kitOne K (.ref (ax "NoStop")) p.1 = some p.2
  ec_Broken : ExcC K (ax "Broken")
  ki_Broken : ∀ p ∈ kiL_Broken ax, PySem.W.kitOne K (.ref (ax "Broken")) p.1 = some p.2
  ec_NothingToUndo : ExcC K (ax "NothingToUndo")
  ki_NothingToUndo : ∀ p ∈ kiL_NothingToUndo ax, PySem.W.kitOne K (.ref (ax "NothingToUndo")) p.1 = some p.2
  xg_WrongValue : mg "WrongValue" = some (.ref (ax "WrongValue"))
  xg_WrongName : mg "WrongName" = some (.ref (ax "WrongName"))
  xg_NotPossible : mg "NotPossible" = some (.ref (ax "NotPossible"))
  bn_ValueError : mg "ValueError" = none
  bn_LookupError : mg "LookupError" = none
  bn_ArithmeticError : mg "ArithmeticError" = none
  d_law_cell : DefAt K mg "_law_cell" s_law_cell ["_law_script", "_law_spot"]
  d_law_pool : DefAt K mg "_law_pool" s_law_pool ["_law_cell_here"]
  d_law_draw : DefAt K mg "_law_draw" s_law_draw ["_law_pool_here", "_law_many"]
  d_law_pick : DefAt K mg "_law_pick" s_law_pick ["_law_pool_here", "_law_things"]
  d_law_odd : DefAt K mg "_law_odd" s_law_odd ["_law_pool_here"]
  d_law_valued : DefAt K mg "_law_valued" s_law_valued ["_law_k", "_law_thing", "_law_by_position"]
  d_law_further : DefAt K mg "_law_further" s_law_further ["_law_k", "_law_thing", "_law_by_position"]
  d_law_sorts : DefAt K mg "_law_sorts" s_law_sorts ["_law_e"]
  d_law_bases : DefAt K mg "_law_bases" s_law_bases ["_law_e"]
  d_law_is_right : DefAt K mg "_law_is_right" s_law_is_right ["_law_k", "_law_thing", "_law_by_position"]
  d_law_right : DefAt K mg "_law_right" s_law_right ["_law_pool_here"]
  d_law : DefAt K mg "law" s_law ["_law_script"]
variable {P : Program} {w : World} {K : PySem.W.Frag} {mg : Str → Option Value} {base : Heap} {ax : Str → Addr}
theorem bls_all {α : Type} (p : α → Bool) : ∀ l : List α, blsOf (l.map fun a => D.bl (p a)) = some (l.map p)
  | [] => rfl
  | a :: l => by
    show (blsOf (l.map fun a => D.bl (p a))).map (p a :: ·) = _
    rw [bls_all p l]
    rfl
theorem all_map_id {α : Type} (p : α → Bool) (l : List α) : (l.map p).all id = l.all p := by rw [List.all_map]; rfl
theorem log2_lt {a k : Nat} (h : a < 2 ^ k) (hk : 0 < k) : a.log2 < k := by
  by_cases h0 : a = 0
  · subst h0
    simpa using hk
  · exact (Nat.log2_lt h0).mpr h
def sp_law_cell : Sp3 := sp2 fun v s G Q _ => ∃ (ns : List Int) (i : Nat), v = .scr (ns.map D.int) ∧ s = .int (i : Nat) ∧ ∀ r : Int, Q (.int r) G
theorem c_law_cell (T : Txt K mg ax) : Cal3 P w K mg base 1 "_law_cell" sp_law_cell [] := cal3 (T.d_law_cell) sc_law_cell (by decide) len2 fun f cdv A outer s H E o E3 hr tk hp => ⟨_,
    have hN := sc_law_cell.nd
    (dss_cons (ds_if (dt_cmp op_lt dc_lt (de_var 1) (de_callB call_len cd_len rfl T.B.len (by decide +kernel) (da_cons (de_var 0) da_nil)) (nomark _)) (dss_one (ds_ret (de_ix (de_var 0) (de_var 1)))) dss_nil)
      (dss_cons (ds_set 2 hN (de_add (de_mul de_int (de_add (de_var 1) de_int)) de_int))
      (dss_cons (ds_for rfl hp (di_any (de_slice (de_var 0) do_none (do_some de_int))) (dg_name 3 hN) (dss_one (ds_set 2 hN (de_mod (de_callTy call_intA cd_int rfl T.B.int (by decide +kernel) (da_cons (de_add (de_mul (de_var 2) de_int) (de_var 3)) da_nil)) de_int))))
      (dss_one (ds_ret (de_var 2)))))), by
    intro ds G Q h
    obtain ⟨v, s', rfl, ns, i, rfl, rfl, q⟩ := in2 h
    conv => whnf
    refine br_cases (fun e1 => ?_) (fun e1 => ?_)
    · conv => whnf
      have e1 : decide (((i : Nat) : Int) < ((ns.map D.int).length : Nat)) = true := e1
      have e1 := of_decide_eq_true e1
      rw [List.length_map] at e1
      have hi : i < ns.length := by omega
      exact getI_in (d := .int ns[i]) (by rw [List.getElem?_map, List.getElem?_eq_getElem hi]; rfl) (ret_id (q _))
    · conv => whnf
      refine ⟨Or.inl ⟨by decide, by decide⟩, ?_⟩
      conv => whnf
      show forL _ _ _ ((ns.map D.int).take 5) _ _
      rw [← List.map_take]
      refine for_inv (e := D.int) (fun xs sd G' => G' = G ∧ ∃ (k : Int) (y : Option D), sd = [some (.scr (ns.map D.int)), some (.int (i : Nat)), some (.int k), y]) ?_ ?_ _ _ _ ⟨rfl, _, none, rfl⟩
      · rintro sd G' ⟨rfl, k, y, rfl⟩
        conv => whnf
        exact ret_id (q _)
      · rintro x xs sd G' ⟨rfl, k, y, rfl⟩ N hN'
        conv => whnf
        refine ⟨Or.inr ⟨by decide, by decide⟩, ?_⟩
        conv => whnf
        refine ⟨show (0 : Int) < 2147483587 by decide, ?_⟩
        conv => whnf
        exact hN' _ _ ⟨rfl, _, _, rfl⟩⟩
def isPool (ds : List D) : Prop := ∃ a b c : Int, ds = [.int a, .int b, .int c]
def PoolG (G : Gp) (p : Addr) : Prop := G p = some (.lsts isPool)
def sp_law_pool : Sp3 := sp1 fun v G Q _ => ∃ z : Int, v = .int z ∧ ∀ p, G p = none → Q (.ref p) (gupd G p (.lsts isPool))
theorem sub_pool {G : Gp} {p : Addr} {ds : List D} (h : isPool ds) : Sub (gupd G p (.lsts isPool)) (gupd G p (.lst ds)) := fun q o e => by
  by_cases hq : q = p
  · subst hq
    rw [gupd_same] at e
    cases e
    exact ⟨.lst ds, gupd_same, .cl h⟩
  · rw [gupd_ne hq] at e
    exact ⟨o, by rw [gupd_ne hq]; exact e, .refl o⟩
theorem c_law_pool (T : Txt K mg ax) : Cal3 P w K mg base 1 "_law_pool" sp_law_pool [] := cal3 (T.d_law_pool) sc_law_pool (by decide) len1 fun f cdv A outer s H E o E3 hr tk hp => ⟨_,
    have hN := sc_law_pool.nd
    (dss_one (ds_ret (de_lstSO (da_cons (de_mod (de_callTy call_intA cd_int rfl T.B.int (by decide +kernel) (da_cons (de_var 0) da_nil)) de_int) (da_cons (de_if (dt_cmp op_ge dc_ge (de_callB call_abs cd_abs rfl T.B.abs (by decide +kernel) (da_cons (de_var 0) da_nil)) (de_pow de_int de_int) (nomark _)) (de_callB call_abs cd_abs rfl T.B.abs (by decide +kernel) (da_cons (de_var 0) da_nil)) de_int) (da_cons de_int da_nil)))))), by
    intro ds G Q h
    obtain ⟨v, rfl, z, rfl, q⟩ := in1 h
    conv => whnf
    refine ⟨show (0 : Int) < 2147483587 by decide, ?_⟩
    conv => whnf
    refine ⟨⟨by decide, by decide, by decide⟩, ?_⟩
    conv => whnf
    refine br_cases (fun e1 => ?_) (fun e1 => ?_)
    · conv => whnf
      refine ⟨Nat.le_trans (Nat.le_of_ble_eq_true rfl : _ ≤ 100) (by decide), fun p hp' => ?_⟩
      exact ret_sub (sub_pool ⟨_, _, _, rfl⟩) (q p hp')
    · conv => whnf
      refine ⟨Nat.le_trans (Nat.le_of_ble_eq_true rfl : _ ≤ 100) (by decide), fun p hp' => ?_⟩
      exact ret_sub (sub_pool ⟨_, _, _, rfl⟩) (q p hp')⟩
def sp_law_draw : Sp3 := sp2 fun v m G Q _ => ∃ p, ∃ n : Nat, v = .ref p ∧ m = .int (n : Nat) ∧ PoolG G p ∧ 0 < n ∧ n < 2000000 ∧ ∀ r : Nat, r < n → Q (.int (r : Nat)) G
theorem ret_pool {K : PySem.W.Frag} {Q3 : DK} {d : D} {G G' : Gp} {p : Addr} {ds : List D} (h : PoolG G p) (e : G' = gupd G p (.lst ds)) (hf : isPool ds) (q : Q3 d G) : Ret K Q3 d G' := ret_close h e hf q
theorem mod_nat {a : Int} {n : Nat} (h : 0 < n) : ∃ r : Nat, r < n ∧ a % (n : Nat) = (r : Nat) := by
  have h1 := Int.emod_nonneg a (show ((n : Nat) : Int) ≠ 0 by omega)
  have h2 := Int.emod_lt_of_pos a (show (0 : Int) < (n : Nat) by omega)
  exact ⟨(a % (n : Nat)).toNat, by omega, by omega⟩
theorem c_law_draw (T : Txt K mg ax) : Cal3 P w K mg base 1 "_law_draw" sp_law_draw [] := cal3 (T.d_law_draw) sc_law_draw (by decide) len2 fun f cdv A outer s H E o E3 hr tk hp => ⟨_,
    have hN := sc_law_draw.nd
    (dss_open 0 (dss_cons (ds_asg (de_add (de_ix (de_var 0) de_int) de_int) (dg_subL (de_var 0) de_int))
      (dss_cons (ds_if (dt_cmp op_gt dc_gt (de_ix (de_var 0) de_int) de_int (nomark _)) (dss_cons (ds_asg (de_callB call_divmod cd_divmod rfl T.B.divmod (by decide +kernel) (da_cons (de_ix (de_var 0) de_int) (da_cons (de_var 1) da_nil))) (dg_tl (n := 2) rfl (dgs_cons (dg_subL (de_var 0) de_int) (dgs_cons (dg_name 2 hN) dgs_nil))))
      (dss_one (ds_ret (de_var 2)))) dss_nil)
      (dss_cons (ds_set 3 hN (de_callTy call_intA cd_int rfl T.B.int (by decide +kernel) (da_cons (de_ix (de_var 0) de_int) da_nil)))
      (dss_cons (ds_set 3 hN (de_mod (de_callTy call_intA cd_int rfl T.B.int (by decide +kernel) (da_cons (de_add (de_add (de_mul (de_var 3) (de_add (de_mod (de_callTy call_intA cd_int rfl T.B.int (by decide +kernel) (da_cons (de_var 3) da_nil)) de_int) de_int)) (de_mul de_int (de_ix (de_var 0) de_int))) de_int) da_nil)) de_int))
      (dss_cons (ds_asg (de_mod (de_callTy call_intA cd_int rfl T.B.int (by decide +kernel) (da_cons (de_add (de_mul (de_var 3) de_int) (de_mul de_int (de_ix (de_var 0) de_int))) da_nil)) de_int) (dg_subL (de_var 0) de_int))
      (dss_one (ds_ret (de_mod (de_callTy call_intA cd_int rfl T.B.int (by decide +kernel) (da_cons (de_fdiv (de_ix (de_var 0) de_int) de_int) da_nil)) (de_var 1)))))))))), by
    intro ds G Q h
    obtain ⟨v, m, rfl, p, n, rfl, rfl, pg, n0, n1, q⟩ := in2 h
    conv => whnf
    refine ⟨p, isPool, rfl, pg, fun ds hd => ?_⟩
    obtain ⟨a, b, c, rfl⟩ := hd
    conv => whnf
    refine ⟨_, gupd_same, ?_⟩
    conv => whnf
    refine ⟨_, 2, gupd_same, rfl, ?_⟩
    conv => whnf
    refine ⟨_, gupd_same, ?_⟩
    conv => whnf
    refine br_cases (fun e1 => ?_) (fun e1 => ?_)
    · conv => whnf
      refine ⟨_, gupd_same, ?_⟩
      conv => whnf
      refine ⟨⟨by omega, by omega⟩, ?_⟩
      conv => whnf
      refine ⟨_, 1, gupd_same, rfl, ?_⟩
      conv => whnf
      obtain ⟨r, hr', e⟩ := mod_nat (a := b) n0
      rw [e]
      exact ret_pool (ds := [.int a, .int (b / (n : Nat)), .int (c + 1)]) pg (by rw [gupd_gupd, gupd_gupd]; rfl) ⟨_, _, _, rfl⟩ (q r hr')
    · conv => whnf
      refine ⟨_, gupd_same, ?_⟩
      conv => whnf
      refine ⟨show (0 : Int) < 5701 by decide, ?_⟩
      conv => whnf
      refine ⟨Or.inr ?_, ?_⟩
      · have h1 := Int.emod_nonneg a (show (5701 : Int) ≠ 0 by decide)
        have h2 := Int.emod_lt_of_pos a (show (0 : Int) < 5701 by decide)
        exact ⟨by omega, by omega⟩
      conv => whnf
      refine ⟨_, gupd_same, ?_⟩
      conv => whnf
      refine ⟨Or.inl ⟨by decide, by decide⟩, ?_⟩
      conv => whnf
      refine ⟨show (0 : Int) < 2147483587 by decide, ?_⟩
      conv => whnf
      refine ⟨Or.inr ⟨by decide, by decide⟩, ?_⟩
      conv => whnf
      refine ⟨_, gupd_same, ?_⟩
      conv => whnf
      refine ⟨Or.inl ⟨by decide, by decide⟩, ?_⟩
      conv => whnf
      refine ⟨show (0 : Int) < 2147483549 by decide, ?_⟩
      conv => whnf
      refine ⟨_, 0, gupd_same, rfl, ?_⟩
      conv => whnf
      refine ⟨_, gupd_same, ?_⟩
      conv => whnf
      refine ⟨⟨by decide, by decide⟩, ?_⟩
      conv => whnf
      refine ⟨show (0 : Int) < (n : Nat) by omega, ?_⟩
      generalize (Int.emod _ 2147483549 / 128 : Int) = z
      show Ret K Q (.int (z % (n : Nat))) _
      obtain ⟨r, hr', e⟩ := mod_nat (a := z) n0
      rw [e]
      exact ret_pool (ds := [.int (((a * (a % 5701 + 20011) + 67867967 * (c + 1) + 97) % 2147483587 * 39373 + 5 * (c + 1)) % 2147483549), .int b, .int (c + 1)]) pg (by rw [gupd_gupd, gupd_gupd]; rfl) ⟨_, _, _, rfl⟩ (q r hr')⟩
def sp_law_pick : Sp3 := sp2 fun v l G Q _ => ∃ p ds, v = .ref p ∧ l = .lst ds ∧ PoolG G p ∧ 0 < ds.length ∧ ds.length < 1000000 ∧ ∀ d ∈ ds, Q d G
theorem c_law_pick (T : Txt K mg ax) : Cal3 P w K mg base 2 "_law_pick" sp_law_pick [] := cal3 (T.d_law_pick) sc_law_pick (by decide) len2 fun f cdv A outer s H E o E3 hr tk hp => ⟨_,
    have hN := sc_law_pick.nd
    (dss_one (ds_ret (de_ix (de_var 1) (de_call (c_law_draw T) hr tk (da_cons (de_var 0) (da_cons (de_callB call_len cd_len rfl T.B.len (by decide +kernel) (da_cons (de_var 1) da_nil)) da_nil)))))), by
    intro ds G Q h
    obtain ⟨v, l, rfl, p, ds, rfl, rfl, pg, n0, n1, q⟩ := in2 h
    conv => whnf
    refine ⟨p, ds.length, rfl, rfl, pg, n0, by omega, fun r hr' => ?_⟩
    exact getI_in (d := ds[r]) (List.getElem?_eq_getElem hr') (ret_id (q _ (List.getElem_mem _)))⟩
def obD (d : D) : Bool := okD d && (decide (wtD d ≤ 1000) && decide (dpD d ≤ 5))
theorem ob_of {d : D} (h : obD d = true) : okD d = true ∧ wtD d ≤ 1000 ∧ dpD d ≤ 5 := by
  unfold obD at h
  simp only [Bool.and_eq_true, decide_eq_true_eq] at h
  exact h
def asciiS (x : Str) : Bool := x.cps.toList.all fun c => decide (c < 1000)
theorem ob_str {x : Str} (h : x.length ≤ 10) (ha : asciiS x = true) : obD (.str x) = true := by
  unfold obD
  rw [show okD (.str x) = true from ha, decide_eq_true (show wtD (.str x) ≤ 1000 from Nat.le_trans h (by decide)), decide_eq_true (show dpD (.str x) ≤ 5 from Nat.zero_le _)]
  rfl
theorem ob_int {i : Int} (h : i.natAbs.log2 < 200) : obD (.int i) = true := by
  unfold obD
  rw [show okD (.int i) = true from decide_eq_true h, decide_eq_true (show wtD (.int i) ≤ 1000 by show 200 ≤ 1000; decide), decide_eq_true (show dpD (.int i) ≤ 5 from Nat.zero_le _)]
  rfl
theorem ob_one {i : Int} (h : i.natAbs.log2 < 200) : obD (.tup [.int i]) = true := by
  unfold obD
  rw [show okD (.tup [.int i]) = true by show (okD (.int i) && true) = true; rw [show okD (.int i) = true from decide_eq_true h]; rfl]
  rw [decide_eq_true (show wtD (.tup [.int i]) ≤ 1000 by show 200 + 1 + 0 ≤ 1000; decide), decide_eq_true (show dpD (.tup [.int i]) ≤ 5 by show max 0 0 + 1 ≤ 5; decide)]
  rfl
theorem ascii_int (z : Int) : asciiS (Str.ofString (toString z)) = true := by
  unfold asciiS
  refine List.all_eq_true.mpr fun c hc => decide_eq_true ?_
  rw [Str.ofString_eq_toList] at hc
  obtain ⟨ch, h1, rfl⟩ := List.mem_map.mp (show c ∈ (toString z).toList.map Char.toNat by simpa using hc)
  have := PySem.int_ascii z ch h1
  omega
def sp_law_odd : Sp3 := sp1 fun v G Q _ => ∃ p, v = .ref p ∧ PoolG G p ∧ ∀ d, obD d = true → Q d G
theorem c_law_odd (T : Txt K mg ax) : Cal3 P w K mg base 3 "_law_odd" sp_law_odd [] := cal3 (T.d_law_odd) sc_law_odd (by decide) len1 fun f cdv A outer s H E o E3 hr tk hp => ⟨_,
    have hN := sc_law_odd.nd
    (dss_cons (ds_set 1 hN (de_sub (de_call (c_law_draw T) hr tk (da_cons (de_var 0) (da_cons (de_pow de_int de_int) da_nil))) de_int))
      (dss_cons (ds_set 2 hN (de_lstS (da_cons de_non (da_cons de_int (da_cons de_int (da_cons de_bl (da_cons de_bl (da_cons de_str (da_cons de_str (da_cons de_str (da_cons (de_tupS da_nil) (da_cons (de_tupS (da_cons de_str (da_cons de_int da_nil))) (da_cons (de_lstS (da_cons de_int da_nil)) (da_cons (de_lstS da_nil) (da_cons de_emp (da_cons (de_disp (dps_cons de_str (de_tupS (da_cons de_int da_nil)) dps_nil)) (da_cons (de_neg de_int) (da_cons (de_pow de_int de_int) da_nil))))))))))))))))))
      (dss_cons (ds_set 2 hN (de_add (de_var 2) (de_lstS (da_cons (de_tupS (da_cons de_str (da_cons de_non (da_cons (de_lstS (da_cons de_int da_nil)) da_nil)))) (da_cons (de_var 1) (da_cons (de_callTy call_strA cd_str rfl T.B.str (by decide +kernel) (da_cons (de_var 1) da_nil)) (da_cons (de_tupS (da_cons (de_var 1) da_nil)) (da_cons (de_tupS (da_cons (de_tupS (da_cons de_str da_nil)) (da_cons (de_tupS da_nil) da_nil))) (da_cons (de_lstS (da_cons (de_lstS da_nil) (da_cons (de_lstS (da_cons de_non da_nil)) da_nil))) (da_cons de_int (da_cons de_str da_nil)))))))))))
      (dss_one (ds_ret (de_call (c_law_pick T) hr tk (da_cons (de_var 0) (da_cons (de_add (de_var 2) (de_lstS (da_cons (de_tupS (da_cons (de_tupS da_nil) (da_cons (de_lstS da_nil) (da_cons de_emp da_nil)))) (da_cons (de_tupS (da_cons de_str da_nil)) (da_cons de_str da_nil))))) da_nil)))))))), by
    intro ds G Q h
    obtain ⟨v, rfl, p, rfl, pg, q⟩ := in1 h
    have small : (1000 : Nat) < sizeLine := by decide
    conv => whnf
    refine ⟨⟨by decide, by decide, by decide⟩, ?_⟩
    refine ⟨p, 1000000, rfl, congrArg D.int (by decide), pg, by decide, by decide, fun r hr' => ?_⟩
    have hz1 : -400000 ≤ ((r : Nat) : Int) - 400000 ∧ ((r : Nat) : Int) - 400000 < 10000000 := by omega
    have ez : ((fun i j : Int => D.int (i - j)) ((r : Nat) : Int) 400000) = D.int (((r : Nat) : Int) - 400000) := rfl
    generalize ((r : Nat) : Int) - 400000 = z at hz1 ez
    have hs : (Str.ofString (toString z)).length ≤ 10 := by
      rw [PySem.ofString_length]
      exact Nat.le_trans (int_text_length_le10 (k := 8) (by decide) (by omega)) (by decide)
    have hl2 : z.natAbs.log2 < 200 := log2_lt (Nat.lt_of_lt_of_le (show z.natAbs < 2 ^ 25 by omega) (Nat.pow_le_pow_right (by decide) (by decide))) (by decide)
    have hl : z.natAbs.log2 < 1920 := log2_lt (Nat.lt_of_lt_of_le (show z.natAbs < 2 ^ 25 by omega) (Nat.pow_le_pow_right (by decide) (by decide))) (by decide)
    conv => whnf
    rw [ez]
    refine ⟨Nat.le_trans (Nat.le_of_ble_eq_true rfl : _ ≤ 100) (by decide), ?_⟩; conv => whnf
    refine ⟨Nat.le_trans (Nat.le_of_ble_eq_true rfl : _ ≤ 100) (by decide), ?_⟩; conv => whnf
    refine ⟨Nat.le_trans (Nat.le_of_ble_eq_true rfl : _ ≤ 100) (by decide), ?_⟩; conv => whnf
    refine ⟨Nat.le_trans (Nat.le_of_ble_eq_true rfl : _ ≤ 100) (by decide), ?_⟩; conv => whnf
    refine ⟨Nat.le_trans (Nat.le_of_ble_eq_true rfl : _ ≤ 100) (by decide), ?_⟩; conv => whnf
    refine ⟨⟨by decide, by decide, by decide⟩, ?_⟩
    conv => whnf
    refine ⟨Nat.le_trans (Nat.le_of_ble_eq_true rfl : _ ≤ 100) (by decide), ?_⟩; conv => whnf
    refine ⟨Nat.le_trans (Nat.le_of_ble_eq_true rfl : _ ≤ 100) (by decide), ?_⟩; conv => whnf
    refine ⟨Nat.le_trans (Nat.le_of_ble_eq_true rfl : _ ≤ 100) (by decide), ?_⟩; conv => whnf
    refine ⟨hl, ?_⟩
    have ha := ascii_int z
    generalize Str.ofString (toString z) = w at hs ha
    conv => whnf
    refine ⟨Nat.le_trans (Nat.le_of_ble_eq_true rfl : _ ≤ 100) (by decide), ?_⟩; conv => whnf
    refine ⟨Nat.le_trans (Nat.le_of_ble_eq_true rfl : _ ≤ 100) (by decide), ?_⟩; conv => whnf
    refine ⟨Nat.le_trans (Nat.le_of_ble_eq_true rfl : _ ≤ 100) (by decide), ?_⟩; conv => whnf
    refine ⟨Nat.le_trans (Nat.le_of_ble_eq_true rfl : _ ≤ 100) (by decide), ?_⟩; conv => whnf
    refine ⟨Nat.le_trans (Nat.le_of_ble_eq_true rfl : _ ≤ 100) (by decide), ?_⟩; conv => whnf
    refine ⟨Nat.le_trans (Nat.le_of_ble_eq_true rfl : _ ≤ 100) (by decide), ?_⟩; conv => whnf
    refine ⟨Nat.le_trans (Nat.le_of_ble_eq_true rfl : _ ≤ 100) (by decide), ?_⟩; conv => whnf
    refine ⟨Nat.le_trans (Nat.le_of_ble_eq_true rfl : _ ≤ 100) (by decide), ?_⟩; conv => whnf
    refine ⟨Nat.le_trans (Nat.le_of_ble_eq_true rfl : _ ≤ 100) (by decide), ?_⟩; conv => whnf
    refine ⟨Nat.le_trans (Nat.le_of_ble_eq_true rfl : _ ≤ 100) (by decide), ?_⟩; conv => whnf
    refine ⟨Nat.le_trans (Nat.le_of_ble_eq_true rfl : _ ≤ 100) (by decide), ?_⟩; conv => whnf
    refine ⟨Nat.le_trans (Nat.le_of_ble_eq_true rfl : _ ≤ 100) (by decide), ?_⟩; conv => whnf
    refine ⟨Nat.le_trans (Nat.le_of_ble_eq_true rfl : _ ≤ 100) (by decide), ?_⟩; conv => whnf
    refine ⟨Nat.le_trans (Nat.le_of_ble_eq_true rfl : _ ≤ 100) (by decide), ?_⟩; conv => whnf
    refine ⟨Nat.le_trans (Nat.le_of_ble_eq_true rfl : _ ≤ 100) (by decide), ?_⟩; conv => whnf
    have all : ∀ d ∈ (([D.non, D.int 0, D.int 1, D.bl true, D.bl false, D.str "", D.str "a b", D.str "all", D.tup [], D.tup [D.str "a", D.int 0], D.lst [D.int 1], D.lst [], D.dic [], D.dic (mergeD [] ((fun x => (Sum.inr (Str.ofString "a"), D.tup [D.int 1]) :: x) [])), D.int (-1), D.int (10 ^ 39)] ++ [D.tup [D.str "a", D.non, D.lst [D.int 2]], D.int z, D.str w, D.tup [D.int z], D.tup [D.tup [D.str "x"], D.tup []], D.lst [D.lst [], D.lst [D.non]], D.int 7, D.str "stop all"]) ++ [D.tup [D.tup [], D.lst [], D.dic []], D.tup [D.str "stop all"], D.str "kind"]), obD d = true := by
      refine List.forall_mem_append.mpr ⟨List.forall_mem_append.mpr ⟨?_, ?_⟩, ?_⟩
      all_goals simp only [List.forall_mem_cons]
      · exact ⟨by decide +kernel, by decide +kernel, by decide +kernel, by decide +kernel, by decide +kernel, by decide +kernel, by decide +kernel, by decide +kernel, by decide +kernel, by decide +kernel, by decide +kernel, by decide +kernel, by decide +kernel, by decide +kernel, by decide +kernel, by decide +kernel, fun _ h => by cases h⟩
      · refine ⟨by decide +kernel, ob_int hl2, ob_str hs ha, ob_one hl2, by decide +kernel, by decide +kernel, by decide +kernel, by decide +kernel, fun _ h => by cases h⟩
      · exact ⟨by decide +kernel, by decide +kernel, by decide +kernel, fun _ h => by cases h⟩
    conv => whnf
    exact ⟨p, _, rfl, rfl, pg, Nat.zero_lt_succ _, Nat.le_of_ble_eq_true rfl, fun d hd => ret_id (q d (all d hd))⟩⟩
end TS
set_option Elab.async false
set_option linter.all false
set_option maxRecDepth 100000
set_option maxHeartbeats 4000000
namespace TS
open PySem PySem.Spec PyProof.Rows L2 L3
variable {P : Program} {w : World} {K : PySem.W.Frag} {mg : Str → Option Value} {base : Heap} {ax : Str → Addr}
def eNm (i : Nat) : Str := (["InvalidName", "InvalidMinutes", "InvalidText", "InvalidLength", "InvalidStation", "InvalidNumber", "InvalidWish", "InvalidIndex", "NotBook", "InvalidRows", "InvalidKinds", "InvalidChanges", "InvalidWishes", "UnknownName", "InUse", "NoStop", "NothingToUndo", "Broken"] : List Str).getD i ""
def eFl (i : Nat) : Str := (["given", "given", "given", "given", "given", "given", "given", "given", "given", "index", "index", "index", "index", "given", "index", "given", "", "index"] : List Str).getD i ""
def eDO (ax : Str → Addr) (a : Addr) (i : Nat) (th : D) : DO := if i = 16 then .ext (exF a (ax (eNm 16))) else .exc (ax (eNm i)) [(eFl i, th)]
theorem cs18 {i : Nat} (h : i < 18) : i = 0 ∨ i = 1 ∨ i = 2 ∨ i = 3 ∨ i = 4 ∨ i = 5 ∨ i = 6 ∨ i = 7 ∨ i = 8 ∨ i = 9 ∨ i = 10 ∨ i = 11 ∨ i = 12 ∨ i = 13 ∨ i = 14 ∨ i = 15 ∨ i = 16 ∨ i = 17 := by omega
theorem cs6 {i : Nat} (h : i < 6) : i = 0 ∨ i = 1 ∨ i = 2 ∨ i = 3 ∨ i = 4 ∨ i = 5 := by omega
theorem eDO_x {G : Gp} {ax : Str → Addr} {a : Addr} {i : Nat} {th : D} (h : G a = some (eDO ax a i th)) : exK G a (ax (eNm i)) := by
  unfold eDO at h
  by_cases c : i = 16
  · rw [if_pos c] at h
    rw [c]
    exact .inr h
  · rw [if_neg c] at h
    exact .inl ⟨_, _, h⟩
theorem eNm_in (ax : Str → Addr) {i : Nat} (h : i < 18) : ax (eNm i) ∈ ([ax "InvalidName", ax "InvalidMinutes", ax "InvalidText", ax "InvalidLength", ax "InvalidStation", ax "InvalidNumber", ax "InvalidWish", ax "InvalidIndex", ax "NotBook", ax "InvalidRows", ax "InvalidKinds", ax "InvalidChanges", ax "InvalidWishes", ax "UnknownName", ax "InUse", ax "NoStop", ax "Broken", ax "NothingToUndo"] : List Addr) := by
  rcases cs18 h with rfl | rfl | rfl | rfl | rfl | rfl | rfl | rfl | rfl | rfl | rfl | rfl | rfl | rfl | rfl | rfl | rfl | rfl
  · exact List.mem_cons_self
  · exact List.mem_cons_of_mem _ (List.mem_cons_self)
  · exact List.mem_cons_of_mem _ (List.mem_cons_of_mem _ (List.mem_cons_self))
  · exact List.mem_cons_of_mem _ (List.mem_cons_of_mem _ (List.mem_cons_of_mem _ (List.mem_cons_self)))
  · exact List.mem_cons_of_mem _ (List.mem_cons_of_mem _ (List.mem_cons_of_mem _ (List.mem_cons_of_mem _ (List.mem_cons_self))))
  · exact List.mem_cons_of_mem _ (List.mem_cons_of_mem _ (List.mem_cons_of_mem _ (List.mem_cons_of_mem _ (List.mem_cons_of_mem _ (List.mem_cons_self)))))
  · exact List.mem_cons_of_mem _ (List.mem_cons_of_mem _ (List.mem_cons_of_mem _ (List.mem_cons_of_mem _ (List.mem_cons_of_mem _ (List.mem_cons_of_mem _ (List.mem_cons_self))))))
  · exact List.mem_cons_of_mem _ (List.mem_cons_of_mem _ (List.mem_cons_of_mem _ (List.mem_cons_of_mem _ (List.mem_cons_of_mem _ (List.mem_cons_of_mem _ (List.mem_cons_of_mem _ (List.mem_cons_self)))))))
  · exact List.mem_cons_of_mem _ (List.mem_cons_of_mem _ (List.mem_cons_of_mem _ (List.mem_cons_of_mem _ (List.mem_cons_of_mem _ (List.mem_cons_of_mem _ (List.mem_cons_of_mem _ (List.mem_cons_of_mem _ (List.mem_cons_self))))))))
  · exact List.mem_cons_of_mem _ (List.mem_cons_of_mem _ (List.mem_cons_of_mem _ (List.mem_cons_of_mem _ (List.mem_cons_of_mem _ (List.mem_cons_of_mem _ (List.mem_cons_of_mem _ (List.mem_cons_of_mem _ (List.mem_cons_of_mem _ (List.mem_cons_self)))))))))
  · exact List.mem_cons_of_mem _ (List.mem_cons_of_mem _ (List.mem_cons_of_mem _ (List.mem_cons_of_mem _ (List.mem_cons_of_mem _ (List.mem_cons_of_mem _ (List.mem_cons_of_mem _ (List.mem_cons_of_mem _ (List.mem_cons_of_mem _ (List.mem_cons_of_mem _ (List.mem_cons_self))))))))))
  · exact List.mem_cons_of_mem _ (List.mem_cons_of_mem _ (List.mem_cons_of_mem _ (List.mem_cons_of_mem _ (List.mem_cons_of_mem _ (List.mem_cons_of_mem _ (List.mem_cons_of_mem _ (List.mem_cons_of_mem _ (List.mem_cons_of_mem _ (List.mem_cons_of_mem _ (List.mem_cons_of_mem _ (List.mem_cons_self)))))))))))
  · exact List.mem_cons_of_mem _ (List.mem_cons_of_mem _ (List.mem_cons_of_mem _ (List.mem_cons_of_mem _ (List.mem_cons_of_mem _ (List.mem_cons_of_mem _ (List.mem_cons_of_mem _ (List.mem_cons_of_mem _ (List.mem_cons_of_mem _ (List.mem_cons_of_mem _ (List.mem_cons_of_mem _ (List.mem_cons_of_mem _ (List.mem_cons_self))))))))))))
  · exact List.mem_cons_of_mem _ (List.mem_cons_of_mem _ (List.mem_cons_of_mem _ (List.mem_cons_of_mem _ (List.mem_cons_of_mem _ (List.mem_cons_of_mem _ (List.mem_cons_of_mem _ (List.mem_cons_of_mem _ (List.mem_cons_of_mem _ (List.mem_cons_of_mem _ (List.mem_cons_of_mem _ (List.mem_cons_of_mem _ (List.mem_cons_of_mem _ (List.mem_cons_self)))))))))))))
  · exact List.mem_cons_of_mem _ (List.mem_cons_of_mem _ (List.mem_cons_of_mem _ (List.mem_cons_of_mem _ (List.mem_cons_of_mem _ (List.mem_cons_of_mem _ (List.mem_cons_of_mem _ (List.mem_cons_of_mem _ (List.mem_cons_of_mem _ (List.mem_cons_of_mem _ (List.mem_cons_of_mem _ (List.mem_cons_of_mem _ (List.mem_cons_of_mem _ (List.mem_cons_of_mem _ (List.mem_cons_self))))))))))))))
  · exact List.mem_cons_of_mem _ (List.mem_cons_of_mem _ (List.mem_cons_of_mem _ (List.mem_cons_of_mem _ (List.mem_cons_of_mem _ (List.mem_cons_of_mem _ (List.mem_cons_of_mem _ (List.mem_cons_of_mem _ (List.mem_cons_of_mem _ (List.mem_cons_of_mem _ (List.mem_cons_of_mem _ (List.mem_cons_of_mem _ (List.mem_cons_of_mem _ (List.mem_cons_of_mem _ (List.mem_cons_of_mem _ (List.mem_cons_self)))))))))))))))
  · exact List.mem_cons_of_mem _ (List.mem_cons_of_mem _ (List.mem_cons_of_mem _ (List.mem_cons_of_mem _ (List.mem_cons_of_mem _ (List.mem_cons_of_mem _ (List.mem_cons_of_mem _ (List.mem_cons_of_mem _ (List.mem_cons_of_mem _ (List.mem_cons_of_mem _ (List.mem_cons_of_mem _ (List.mem_cons_of_mem _ (List.mem_cons_of_mem _ (List.mem_cons_of_mem _ (List.mem_cons_of_mem _ (List.mem_cons_of_mem _ (List.mem_cons_of_mem _ (List.mem_cons_self)))))))))))))))))
  · exact List.mem_cons_of_mem _ (List.mem_cons_of_mem _ (List.mem_cons_of_mem _ (List.mem_cons_of_mem _ (List.mem_cons_of_mem _ (List.mem_cons_of_mem _ (List.mem_cons_of_mem _ (List.mem_cons_of_mem _ (List.mem_cons_of_mem _ (List.mem_cons_of_mem _ (List.mem_cons_of_mem _ (List.mem_cons_of_mem _ (List.mem_cons_of_mem _ (List.mem_cons_of_mem _ (List.mem_cons_of_mem _ (List.mem_cons_of_mem _ (List.mem_cons_self))))))))))))))))
theorem kit_0 {K : PySem.W.Frag} {mg : Str → Option Value} {ax : Str → Addr} (T : Txt K mg ax) {j : Nat} (h : j < 18) : PySem.W.kitOne K (.ref (ax (eNm 0))) (.ref (ax (eNm j))) = some (decide (j = 0)) := by
  rcases cs18 h with rfl | rfl | rfl | rfl | rfl | rfl | rfl | rfl | rfl | rfl | rfl | rfl | rfl | rfl | rfl | rfl | rfl | rfl
  · exact T.ki_InvalidName (.ref (ax "InvalidName"), true) (List.mem_of_getElem? (i := 0) rfl)
  · exact T.ki_InvalidName (.ref (ax "InvalidMinutes"), false) (List.mem_of_getElem? (i := 1) rfl)
  · exact T.ki_InvalidName (.ref (ax "InvalidText"), false) (List.mem_of_getElem? (i := 2) rfl)
  · exact T.ki_InvalidName (.ref (ax "InvalidLength"), false) (List.mem_of_getElem? (i := 6) rfl)
  · exact T.ki_InvalidName (.ref (ax "InvalidStation"), false) (List.mem_of_getElem? (i := 7) rfl)
  · exact T.ki_InvalidName (.ref (ax "InvalidNumber"), false) (List.mem_of_getElem? (i := 8) rfl)
  · exact T.ki_InvalidName (.ref (ax "InvalidWish"), false) (List.mem_of_getElem? (i := 9) rfl)
  · exact T.ki_InvalidName (.ref (ax "InvalidIndex"), false) (List.mem_of_getElem? (i := 10) rfl)
  · exact T.ki_InvalidName (.ref (ax "NotBook"), false) (List.mem_of_getElem? (i := 11) rfl)
  · exact T.ki_InvalidName (.ref (ax "InvalidRows"), false) (List.mem_of_getElem? (i := 12) rfl)
  · exact T.ki_InvalidName (.ref (ax "InvalidKinds"), false) (List.mem_of_getElem? (i := 13) rfl)
  · exact T.ki_InvalidName (.ref (ax "InvalidChanges"), false) (List.mem_of_getElem? (i := 14) rfl)
  · exact T.ki_InvalidName (.ref (ax "InvalidWishes"), false) (List.mem_of_getElem? (i := 15) rfl)
  · exact T.ki_InvalidName (.ref (ax "UnknownName"), false) (List.mem_of_getElem? (i := 16) rfl)
  · exact T.ki_InvalidName (.ref (ax "InUse"), false) (List.mem_of_getElem? (i := 17) rfl)
  · exact T.ki_InvalidName (.ref (ax "NoStop"), false) (List.mem_of_getElem? (i := 18) rfl)
  · exact T.ki_InvalidName (.ref (ax "NothingToUndo"), false) (List.mem_of_getElem? (i := 19) rfl)
  · exact T.ki_InvalidName (.ref (ax "Broken"), false) (List.mem_of_getElem? (i := 20) rfl)
theorem kit_1 {K : PySem.W.Frag} {mg : Str → Option Value} {ax : Str → Addr} (T : Txt K mg ax) {j : Nat} (h : j < 18) : PySem.W.kitOne K (.ref (ax (eNm 1))) (.ref (ax (eNm j))) = some (decide (j = 1)) := by
  rcases cs18 h with rfl | rfl | rfl | rfl | rfl | rfl | rfl | rfl | rfl | rfl | rfl | rfl | rfl | rfl | rfl | rfl | rfl | rfl
  · exact T.ki_InvalidMinutes (.ref (ax "InvalidName"), false) (List.mem_of_getElem? (i := 0) rfl)
  · exact T.ki_InvalidMinutes (.ref (ax "InvalidMinutes"), true) (List.mem_of_getElem? (i := 1) rfl)
  · exact T.ki_InvalidMinutes (.ref (ax "InvalidText"), false) (List.mem_of_getElem? (i := 2) rfl)
  · exact T.ki_InvalidMinutes (.ref (ax "InvalidLength"), false) (List.mem_of_getElem? (i := 6) rfl)
  · exact T.ki_InvalidMinutes (.ref (ax "InvalidStation"), false) (List.mem_of_getElem? (i := 7) rfl)
  · exact T.ki_InvalidMinutes (.ref (ax "InvalidNumber"), false) (List.mem_of_getElem? (i := 8) rfl)
  · exact T.ki_InvalidMinutes (.ref (ax "InvalidWish"), false) (List.mem_of_getElem? (i := 9) rfl)
  · exact T.ki_InvalidMinutes (.ref (ax "InvalidIndex"), false) (List.mem_of_getElem? (i := 10) rfl)
  · exact T.ki_InvalidMinutes (.ref (ax "NotBook"), false) (List.mem_of_getElem? (i := 11) rfl)
  · exact T.ki_InvalidMinutes (.ref (ax "InvalidRows"), false) (List.mem_of_getElem? (i := 12) rfl)
  · exact T.ki_InvalidMinutes (.ref (ax "InvalidKinds"), false) (List.mem_of_getElem? (i := 13) rfl)
  · exact T.ki_InvalidMinutes (.ref (ax "InvalidChanges"), false) (List.mem_of_getElem? (i := 14) rfl)
  · exact T.ki_InvalidMinutes (.ref (ax "InvalidWishes"), false) (List.mem_of_getElem? (i := 15) rfl)
  · exact T.ki_InvalidMinutes (.ref (ax "UnknownName"), false) (List.mem_of_getElem? (i := 16) rfl)
  · exact T.ki_InvalidMinutes (.ref (ax "InUse"), false) (List.mem_of_getElem? (i := 17) rfl)
  · exact T.ki_InvalidMinutes (.ref (ax "NoStop"), false) (List.mem_of_getElem? (i := 18) rfl)
  · exact T.ki_InvalidMinutes (.ref (ax "NothingToUndo"), false) (List.mem_of_getElem? (i := 19) rfl)
  · exact T.ki_InvalidMinutes (.ref (ax "Broken"), false) (List.mem_of_getElem? (i := 20) rfl)
theorem kit_2 {K : PySem.W.Frag} {mg : Str → Option Value} {ax : Str → Addr} (T : Txt K mg ax) {j : Nat} (h : j < 18) : PySem.W.kitOne K (.ref (ax (eNm 2))) (.ref (ax (eNm j))) = some (decide (j = 2)) := by
  rcases cs18 h with rfl | rfl | rfl | rfl | rfl | rfl | rfl | rfl | rfl | rfl | rfl | rfl | rfl | rfl | rfl | rfl | rfl | rfl
  · exact T.ki_InvalidText (.ref (ax "InvalidName"), false) (List.mem_of_getElem? (i := 0) rfl)
  · exact T.ki_InvalidText (.ref (ax "InvalidMinutes"), false) (List.mem_of_getElem? (i := 1) rfl)
  · exact T.ki_InvalidText (.ref (ax "InvalidText"), true) (List.mem_of_getElem? (i := 2) rfl)
  · exact T.ki_InvalidText (.ref (ax "InvalidLength"), false) (List.mem_of_getElem? (i := 6) rfl)
  · exact T.ki_InvalidText (.ref (ax "InvalidStation"), false) (List.mem_of_getElem? (i := 7) rfl)
  · exact T.ki_InvalidText (.ref (ax "InvalidNumber"), false) (List.mem_of_getElem? (i := 8) rfl)
  · exact T.ki_InvalidText (.ref (ax "InvalidWish"), false) (List.mem_of_getElem? (i := 9) rfl)
  · exact T.ki_InvalidText (.ref (ax "InvalidIndex"), false) (List.mem_of_getElem? (i := 10) rfl)
  · exact T.ki_InvalidText (.ref (ax "NotBook"), false) (List.mem_of_getElem? (i := 11) rfl)
  · exact T.ki_InvalidText (.ref (ax "InvalidRows"), false) (List.mem_of_getElem? (i := 12) rfl)
  · exact T.ki_InvalidText (.ref (ax "InvalidKinds"), false) (List.mem_of_getElem? (i := 13) rfl)
  · exact T.ki_InvalidText (.ref (ax "InvalidChanges"), false) (List.mem_of_getElem? (i := 14) rfl)
  · exact T.ki_InvalidText (.ref (ax "InvalidWishes"), false) (List.mem_of_getElem? (i := 15) rfl)
  · exact T.ki_InvalidText (.ref (ax "UnknownName"), false) (List.mem_of_getElem? (i := 16) rfl)
  · exact T.ki_InvalidText (.ref (ax "InUse"), false) (List.mem_of_getElem? (i := 17) rfl)
  · exact T.ki_InvalidText (.ref (ax "NoStop"), false) (List.mem_of_getElem? (i := 18) rfl)
  · exact T.ki_InvalidText (.ref (ax "NothingToUndo"), false) (List.mem_of_getElem? (i := 19) rfl)
  · exact T.ki_InvalidText (.ref (ax "Broken"), false) (List.mem_of_getElem? (i := 20) rfl)
theorem kit_3 {K : PySem.W.Frag} {mg : Str → Option Value} {ax : Str → Addr} (T : Txt K mg ax) {j : Nat} (h : j < 18) : PySem.W.kitOne K (.ref (ax (eNm 3))) (.ref (ax (eNm j))) = some (decide (j = 3)) := by
  rcases cs18 h with rfl | rfl | rfl | rfl | rfl | rfl | rfl | rfl | rfl | rfl | rfl | rfl | rfl | rfl | rfl | rfl | rfl | rfl
  · exact T.ki_InvalidLength (.ref (ax "InvalidName"), false) (List.mem_of_getElem? (i := 0) rfl)
  · exact T.ki_InvalidLength (.ref (ax "InvalidMinutes"), false) (List.mem_of_getElem? (i := 1) rfl)
  · exact T.ki_InvalidLength (.ref (ax "InvalidText"), false) (List.mem_of_getElem? (i := 2) rfl)
  · exact T.ki_InvalidLength (.ref (ax "InvalidLength"), true) (List.mem_of_getElem? (i := 6) rfl)
  · exact T.ki_InvalidLength (.ref (ax "InvalidStation"), false) (List.mem_of_getElem? (i := 7) rfl)
  · exact T.ki_InvalidLength (.ref (ax "InvalidNumber"), false) (List.mem_of_getElem? (i := 8) rfl)
  · exact T.ki_InvalidLength (.ref (ax "InvalidWish"), false) (List.mem_of_getElem? (i := 9) rfl)
  · exact T.ki_InvalidLength (.ref (ax "InvalidIndex"), false) (List.mem_of_getElem? (i := 10) rfl)
  · exact T.ki_InvalidLength (.ref (ax "NotBook"), false) (List.mem_of_getElem? (i := 11) rfl)
  · exact T.ki_InvalidLength (.ref (ax "InvalidRows"), false) (List.mem_of_getElem? (i := 12) rfl)
  · exact T.ki_InvalidLength (.ref (ax "InvalidKinds"), false) (List.mem_of_getElem? (i := 13) rfl)
  · exact T.ki_InvalidLength (.ref (ax "InvalidChanges"), false) (List.mem_of_getElem? (i := 14) rfl)
  · exact T.ki_InvalidLength (.ref (ax "InvalidWishes"), false) (List.mem_of_getElem? (i := 15) rfl)
  · exact T.ki_InvalidLength (.ref (ax "UnknownName"), false) (List.mem_of_getElem? (i := 16) rfl)
  · exact T.ki_InvalidLength (.ref (ax "InUse"), false) (List.mem_of_getElem? (i := 17) rfl)
  · exact T.ki_InvalidLength (.ref (ax "NoStop"), false) (List.mem_of_getElem? (i := 18) rfl)
  · exact T.ki_InvalidLength (.ref (ax "NothingToUndo"), false) (List.mem_of_getElem? (i := 19) rfl)
  · exact T.ki_InvalidLength (.ref (ax "Broken"), false) (List.mem_of_getElem? (i := 20) rfl)
theorem kit_4 {K : PySem.W.Frag} {mg : Str → Option Value} {ax : Str → Addr} (T : Txt K mg ax) {j : Nat} (h : j < 18) : PySem.W.kitOne K (.ref (ax (eNm 4))) (.ref (ax (eNm j))) = some (decide (j = 4)) := by
  rcases cs18 h with rfl | rfl | rfl | rfl | rfl | rfl | rfl | rfl | rfl | rfl | rfl | rfl | rfl | rfl | rfl | rfl | rfl | rfl
  · exact T.ki_InvalidStation (.ref (ax "InvalidName"), false) (List.mem_of_getElem? (i := 0) rfl)
  · exact T.ki_InvalidStation (.ref (ax "InvalidMinutes"), false) (List.mem_of_getElem? (i := 1) rfl)
  · exact T.ki_InvalidStation (.ref (ax "InvalidText"), false) (List.mem_of_getElem? (i := 2) rfl)
  · exact T.ki_InvalidStation (.ref (ax "InvalidLength"), false) (List.mem_of_getElem? (i := 6) rfl)
  · exact T.ki_InvalidStation (.ref (ax "InvalidStation"), true) (List.mem_of_getElem? (i := 7) rfl)
  · exact T.ki_InvalidStation (.ref (ax "InvalidNumber"), false) (List.mem_of_getElem? (i := 8) rfl)
  · exact T.ki_InvalidStation (.ref (ax "InvalidWish"), false) (List.mem_of_getElem? (i := 9) rfl)
  · exact T.ki_InvalidStation (.ref (ax "InvalidIndex"), false) (List.mem_of_getElem? (i := 10) rfl)
  · exact T.ki_InvalidStation (.ref (ax "NotBook"), false) (List.mem_of_getElem? (i := 11) rfl)
  · exact T.ki_InvalidStation (.ref (ax "InvalidRows"), false) (List.mem_of_getElem? (i := 12) rfl)
  · exact T.ki_InvalidStation (.ref (ax "InvalidKinds"), false) (List.mem_of_getElem? (i := 13) rfl)
  · exact T.ki_InvalidStation (.ref (ax "InvalidChanges"), false) (List.mem_of_getElem? (i := 14) rfl)
  · exact T.ki_InvalidStation (.ref (ax "InvalidWishes"), false) (List.mem_of_getElem? (i := 15) rfl)
  · exact T.ki_InvalidStation (.ref (ax "UnknownName"), false) (List.mem_of_getElem? (i := 16) rfl)
  · exact T.ki_InvalidStation (.ref (ax "InUse"), false) (List.mem_of_getElem? (i := 17) rfl)
  · exact T.ki_InvalidStation (.ref (ax "NoStop"), false) (List.mem_of_getElem? (i := 18) rfl)
  · exact T.ki_InvalidStation (.ref (ax "NothingToUndo"), false) (List.mem_of_getElem? (i := 19) rfl)
  · exact T.ki_InvalidStation (.ref (ax "Broken"), false) (List.mem_of_getElem? (i := 20) rfl)
theorem kit_5 {K : PySem.W.Frag} {mg : Str → Option Value} {ax : Str → Addr} (T : Txt K mg ax) {j : Nat} (h : j < 18) : PySem.W.kitOne K (.ref (ax (eNm 5))) (.ref (ax (eNm j))) = some (decide (j = 5)) := by
  rcases cs18 h with rfl | rfl | rfl | rfl | rfl | rfl | rfl | rfl | rfl | rfl | rfl | rfl | rfl | rfl | rfl | rfl | rfl | rfl
  · exact T.ki_InvalidNumber (.ref (ax "InvalidName"), false) (List.mem_of_getElem? (i := 0) rfl)
  · exact T.ki_InvalidNumber (.ref (ax "InvalidMinutes"), false) (List.mem_of_getElem? (i := 1) rfl)
  · exact T.ki_InvalidNumber (.ref (ax "InvalidText"), false) (List.mem_of_getElem? (i := 2) rfl)
  · exact T.ki_InvalidNumber (.ref (ax "InvalidLength"), false) (List.mem_of_getElem? (i := 6) rfl)
  · exact T.ki_InvalidNumber (.ref (ax "InvalidStation"), false) (List.mem_of_getElem? (i := 7) rfl)
  · exact T.ki_InvalidNumber (.ref (ax "InvalidNumber"), true) (List.mem_of_getElem? (i := 8) rfl)
  · exact T.ki_InvalidNumber (.ref (ax "InvalidWish"), false) (List.mem_of_getElem? (i := 9) rfl)
  · exact T.ki_InvalidNumber (.ref (ax "InvalidIndex"), false) (List.mem_of_getElem? (i := 10) rfl)
  · exact T.ki_InvalidNumber (.ref (ax "NotBook"), false) (List.mem_of_getElem? (i := 11) rfl)
  · exact T.ki_InvalidNumber (.ref (ax "InvalidRows"), false) (List.mem_of_getElem? (i := 12) rfl)
  · exact T.ki_InvalidNumber (.ref (ax "InvalidKinds"), false) (List.mem_of_getElem? (i := 13) rfl)
  · exact T.ki_InvalidNumber (.ref (ax "InvalidChanges"), false) (List.mem_of_getElem? (i := 14) rfl)
  · exact T.ki_InvalidNumber (.ref (ax "InvalidWishes"), false) (List.mem_of_getElem? (i := 15) rfl)
  · exact T.ki_InvalidNumber (.ref (ax "UnknownName"), false) (List.mem_of_getElem? (i := 16) rfl)
  · exact T.ki_InvalidNumber (.ref (ax "InUse"), false) (List.mem_of_getElem? (i := 17) rfl)
  · exact T.ki_InvalidNumber (.ref (ax "NoStop"), false) (List.mem_of_getElem? (i := 18) rfl)
  · exact T.ki_InvalidNumber (.ref (ax "NothingToUndo"), false) (List.mem_of_getElem? (i := 19) rfl)
  · exact T.ki_InvalidNumber (.ref (ax "Broken"), false) (List.mem_of_getElem? (i := 20) rfl)
theorem kit_6 {K : PySem.W.Frag} {mg : Str → Option Value} {ax : Str → Addr} (T : Txt K mg ax) {j : Nat} (h : j < 18) : PySem.W.kitOne K (.ref (ax (eNm 6))) (.ref (ax (eNm j))) = some (decide (j = 6)) := by
  rcases cs18 h with rfl | rfl | rfl | rfl | rfl | rfl | rfl | rfl | rfl | rfl | rfl | rfl | rfl | rfl | rfl | rfl | rfl | rfl
  · exact T.ki_InvalidWish (.ref (ax "InvalidName"), false) (List.mem_of_getElem? (i := 0) rfl)
  · exact T.ki_InvalidWish (.ref (ax "InvalidMinutes"), false) (List.mem_of_getElem? (i := 1) rfl)
  · exact T.ki_InvalidWish (.ref (ax "InvalidText"), false) (List.mem_of_getElem? (i := 2) rfl)
  · exact T.ki_InvalidWish (.ref (ax "InvalidLength"), false) (List.mem_of_getElem? (i := 6) rfl)
  · exact T.ki_InvalidWish (.ref (ax "InvalidStation"), false) (List.mem_of_getElem? (i := 7) rfl)
  · exact T.ki_InvalidWish (.ref (ax "InvalidNumber"), false) (List.mem_of_getElem? (i := 8) rfl)
  · exact T.ki_InvalidWish (.ref (ax "InvalidWish"), true) (List.mem_of_getElem? (i := 9) rfl)
  · exact T.ki_InvalidWish (.ref (ax "InvalidIndex"), false) (List.mem_of_getElem? (i := 10) rfl)
  · exact T.ki_InvalidWish (.ref (ax "NotBook"), false) (List.mem_of_getElem? (i := 11) rfl)
  · exact T.ki_InvalidWish (.ref (ax "InvalidRows"), false) (List.mem_of_getElem? (i := 12) rfl)
  · exact T.ki_InvalidWish (.ref (ax "InvalidKinds"), false) (List.mem_of_getElem? (i := 13) rfl)
  · exact T.ki_InvalidWish (.ref (ax "InvalidChanges"), false) (List.mem_of_getElem? (i := 14) rfl)
  · exact T.ki_InvalidWish (.ref (ax "InvalidWishes"), false) (List.mem_of_getElem? (i := 15) rfl)
  · exact T.ki_InvalidWish (.ref (ax "UnknownName"), false) (List.mem_of_getElem? (i := 16) rfl)
  · exact T.ki_InvalidWish (.ref (ax "InUse"), false) (List.mem_of_getElem? (i := 17) rfl)
  · exact T.ki_InvalidWish (.ref (ax "NoStop"), false) (List.mem_of_getElem? (i := 18) rfl)
  · exact T.ki_InvalidWish (.ref (ax "NothingToUndo"), false) (List.mem_of_getElem? (i := 19) rfl)
  · exact T.ki_InvalidWish (.ref (ax "Broken"), false) (List.mem_of_getElem? (i := 20) rfl)
theorem kit_7 {K : PySem.W.Frag} {mg : Str → Option Value} {ax : Str → Addr} (T : Txt K mg ax) {j : Nat} (h : j < 18) : PySem.W.kitOne K (.ref (ax (eNm 7))) (.ref (ax (eNm j))) = some (decide (j = 7)) := by
  rcases cs18 h with rfl | rfl | rfl | rfl | rfl | rfl | rfl | rfl | rfl | rfl | rfl | rfl | rfl | rfl | rfl | rfl | rfl | rfl
  · exact T.ki_InvalidIndex (.ref (ax "InvalidName"), false) (List.mem_of_getElem? (i := 0) rfl)
  · exact T.ki_InvalidIndex (.ref (ax "InvalidMinutes"), false) (List.mem_of_getElem? (i := 1) rfl)
  · exact T.ki_InvalidIndex (.ref (ax "InvalidText"), false) (List.mem_of_getElem? (i := 2) rfl)
  · exact T.ki_InvalidIndex (.ref (ax "InvalidLength"), false) (List.mem_of_getElem? (i := 6) rfl)
  · exact T.ki_InvalidIndex (.ref (ax "InvalidStation"), false) (List.mem_of_getElem? (i := 7) rfl)
  · exact T.ki_InvalidIndex (.ref (ax "InvalidNumber"), false) (List.mem_of_getElem? (i := 8) rfl)
  · exact T.ki_InvalidIndex (.ref (ax "InvalidWish"), false) (List.mem_of_getElem? (i := 9) rfl)
  · exact T.ki_InvalidIndex (.ref (ax "InvalidIndex"), true) (List.mem_of_getElem? (i := 10) rfl)
  · exact T.ki_InvalidIndex (.ref (ax "NotBook"), false) (List.mem_of_getElem? (i := 11) rfl)
  · exact T.ki_InvalidIndex (.ref (ax "InvalidRows"), false) (List.mem_of_getElem? (i := 12) rfl)
  · exact T.ki_InvalidIndex (.ref (ax "InvalidKinds"), false) (List.mem_of_getElem? (i := 13) rfl)
  · exact T.ki_InvalidIndex (.ref (ax "InvalidChanges"), false) (List.mem_of_getElem? (i := 14) rfl)
  · exact T.ki_InvalidIndex (.ref (ax "InvalidWishes"), false) (List.mem_of_getElem? (i := 15) rfl)
  · exact T.ki_InvalidIndex (.ref (ax "UnknownName"), false) (List.mem_of_getElem? (i := 16) rfl)
  · exact T.ki_InvalidIndex (.ref (ax "InUse"), false) (List.mem_of_getElem? (i := 17) rfl)
  · exact T.ki_InvalidIndex (.ref (ax "NoStop"), false) (List.mem_of_getElem? (i := 18) rfl)
  · exact T.ki_InvalidIndex (.ref (ax "NothingToUndo"), false) (List.mem_of_getElem? (i := 19) rfl)
  · exact T.ki_InvalidIndex (.ref (ax "Broken"), false) (List.mem_of_getElem? (i := 20) rfl)
theorem kit_8 {K : PySem.W.Frag} {mg : Str → Option Value} {ax : Str → Addr} (T : Txt K mg ax) {j : Nat} (h : j < 18) : PySem.W.kitOne K (.ref (ax (eNm 8))) (.ref (ax (eNm j))) = some (decide (j = 8)) := by
  rcases cs18 h with rfl | rfl | rfl | rfl | rfl | rfl | rfl | rfl | rfl | rfl | rfl | rfl | rfl | rfl | rfl | rfl | rfl | rfl
  · exact T.ki_NotBook (.ref (ax "InvalidName"), false) (List.mem_of_getElem? (i := 0) rfl)
  · exact T.ki_NotBook (.ref (ax "InvalidMinutes"), false) (List.mem_of_getElem? (i := 1) rfl)
  · exact T.ki_NotBook (.ref (ax "InvalidText"), false) (List.mem_of_getElem? (i := 2) rfl)
  · exact T.ki_NotBook (.ref (ax "InvalidLength"), false) (List.mem_of_getElem? (i := 6) rfl)
  · exact T.ki_NotBook (.ref (ax "InvalidStation"), false) (List.mem_of_getElem? (i := 7) rfl)
  · exact T.ki_NotBook (.ref (ax "InvalidNumber"), false) (List.mem_of_getElem? (i := 8) rfl)
  · exact T.ki_NotBook (.ref (ax "InvalidWish"), false) (List.mem_of_getElem? (i := 9) rfl)
  · exact T.ki_NotBook (.ref (ax "InvalidIndex"), false) (List.mem_of_getElem? (i := 10) rfl)
  · exact T.ki_NotBook (.ref (ax "NotBook"), true) (List.mem_of_getElem? (i := 11) rfl)
  · exact T.ki_NotBook (.ref (ax "InvalidRows"), false) (List.mem_of_getElem? (i := 12) rfl)
  · exact T.ki_NotBook (.ref (ax "InvalidKinds"), false) (List.mem_of_getElem? (i := 13) rfl)
  · exact T.ki_NotBook (.ref (ax "InvalidChanges"), false) (List.mem_of_getElem? (i := 14) rfl)
  · exact T.ki_NotBook (.ref (ax "InvalidWishes"), false) (List.mem_of_getElem? (i := 15) rfl)
  · exact T.ki_NotBook (.ref (ax "UnknownName"), false) (List.mem_of_getElem? (i := 16) rfl)
  · exact T.ki_NotBook (.ref (ax "InUse"), false) (List.mem_of_getElem? (i := 17) rfl)
  · exact T.ki_NotBook (.ref (ax "NoStop"), false) (List.mem_of_getElem? (i := 18) rfl)
  · exact T.ki_NotBook (.ref (ax "NothingToUndo"), false) (List.mem_of_getElem? (i := 19) rfl)
  · exact T.ki_NotBook (.ref (ax "Broken"), false) (List.mem_of_getElem? (i := 20) rfl)
theorem kit_9 {K : PySem.W.Frag} {mg : Str → Option Value} {ax : Str → Addr} (T : Txt K mg ax) {j : Nat} (h : j < 18) : PySem.W.kitOne K (.ref (ax (eNm 9))) (.ref (ax (eNm j))) = some (decide (j = 9)) := by
  rcases cs18 h with rfl | rfl | rfl | rfl | rfl | rfl | rfl | rfl | rfl | rfl | rfl | rfl | rfl | rfl | rfl | rfl | rfl | rfl
  · exact T.ki_InvalidRows (.ref (ax "InvalidName"), false) (List.mem_of_getElem? (i := 0) rfl)
  · exact T.ki_InvalidRows (.ref (ax "InvalidMinutes"), false) (List.mem_of_getElem? (i := 1) rfl)
  · exact T.ki_InvalidRows (.ref (ax "InvalidText"), false) (List.mem_of_getElem? (i := 2) rfl)
  · exact T.ki_InvalidRows (.ref (ax "InvalidLength"), false) (List.mem_of_getElem? (i := 6) rfl)
  · exact T.ki_InvalidRows (.ref (ax "InvalidStation"), false) (List.mem_of_getElem? (i := 7) rfl)
  · exact T.ki_InvalidRows (.ref (ax "InvalidNumber"), false) (List.mem_of_getElem? (i := 8) rfl)
  · exact T.ki_InvalidRows (.ref (ax "InvalidWish"), false) (List.mem_of_getElem? (i := 9) rfl)
  · exact T.ki_InvalidRows (.ref (ax "InvalidIndex"), false) (List.mem_of_getElem? (i := 10) rfl)
  · exact T.ki_InvalidRows (.ref (ax "NotBook"), false) (List.mem_of_getElem? (i := 11) rfl)
  · exact T.ki_InvalidRows (.ref (ax "InvalidRows"), true) (List.mem_of_getElem? (i := 12) rfl)
  · exact T.ki_InvalidRows (.ref (ax "InvalidKinds"), false) (List.mem_of_getElem? (i := 13) rfl)
  · exact T.ki_InvalidRows (.ref (ax "InvalidChanges"), false) (List.mem_of_getElem? (i := 14) rfl)
  · exact T.ki_InvalidRows (.ref (ax "InvalidWishes"), false) (List.mem_of_getElem? (i := 15) rfl)
  · exact T.ki_InvalidRows (.ref (ax "UnknownName"), false) (List.mem_of_getElem? (i := 16) rfl)
  · exact T.ki_InvalidRows (.ref (ax "InUse"), false) (List.mem_of_getElem? (i := 17) rfl)
  · exact T.ki_InvalidRows (.ref (ax "NoStop"), false) (List.mem_of_getElem? (i := 18) rfl)
  · exact T.ki_InvalidRows (.ref (ax "NothingToUndo"), false) (List.mem_of_getElem? (i := 19) rfl)
  · exact T.ki_InvalidRows (.ref (ax "Broken"), false) (List.mem_of_getElem? (i := 20) rfl)
theorem kit_10 {K : PySem.W.Frag} {mg : Str → Option Value} {ax : Str → Addr} (T : Txt K mg ax) {j : Nat} (h : j < 18) : PySem.W.kitOne K (.ref (ax (eNm 10))) (.ref (ax (eNm j))) = some (decide (j = 10)) := by
  rcases cs18 h with rfl | rfl | rfl | rfl | rfl | rfl | rfl | rfl | rfl | rfl | rfl | rfl | rfl | rfl | rfl | rfl | rfl | rfl
  · exact T.ki_InvalidKinds (.ref (ax "InvalidName"), false) (List.mem_of_getElem? (i := 0) rfl)
  · exact T.ki_InvalidKinds (.ref (ax "InvalidMinutes"), false) (List.mem_of_getElem? (i := 1) rfl)
  · exact T.ki_InvalidKinds (.ref (ax "InvalidText"), false) (List.mem_of_getElem? (i := 2) rfl)
  · exact T.ki_InvalidKinds (.ref (ax "InvalidLength"), false) (List.mem_of_getElem? (i := 6) rfl)
  · exact T.ki_InvalidKinds (.ref (ax "InvalidStation"), false) (List.mem_of_getElem? (i := 7) rfl)
  · exact T.ki_InvalidKinds (.ref (ax "InvalidNumber"), false) (List.mem_of_getElem? (i := 8) rfl)
  · exact T.ki_InvalidKinds (.ref (ax "InvalidWish"), false) (List.mem_of_getElem? (i := 9) rfl)
  · exact T.ki_InvalidKinds (.ref (ax "InvalidIndex"), false) (List.mem_of_getElem? (i := 10) rfl)
  · exact T.ki_InvalidKinds (.ref (ax "NotBook"), false) (List.mem_of_getElem? (i := 11) rfl)
  · exact T.ki_InvalidKinds (.ref (ax "InvalidRows"), false) (List.mem_of_getElem? (i := 12) rfl)
  · exact T.ki_InvalidKinds (.ref (ax "InvalidKinds"), true) (List.mem_of_getElem? (i := 13) rfl)
  · exact T.ki_InvalidKinds (.ref (ax "InvalidChanges"), false) (List.mem_of_getElem? (i := 14) rfl)
  · exact T.ki_InvalidKinds (.ref (ax "InvalidWishes"), false) (List.mem_of_getElem? (i := 15) rfl)
  · exact T.ki_InvalidKinds (.ref (ax "UnknownName"), false) (List.mem_of_getElem? (i := 16) rfl)
  · exact T.ki_InvalidKinds (.ref (ax "InUse"), false) (List.mem_of_getElem? (i := 17) rfl)
  · exact T.ki_InvalidKinds (.ref (ax "NoStop"), false) (List.mem_of_getElem? (i := 18) rfl)
  · exact T.ki_InvalidKinds (.ref (ax "NothingToUndo"), false) (List.mem_of_getElem? (i := 19) rfl)
  · exact T.ki_InvalidKinds (.ref (ax "Broken"), false) (List.mem_of_getElem? (i := 20) rfl)
theorem kit_11 {K : PySem.W.Frag} {mg : Str → Option Value} {ax : Str → Addr} (T : Txt K mg ax) {j : Nat} (h : j < 18) : PySem.W.kitOne K (.ref (ax (eNm 11))) (.ref (ax (eNm j))) = some (decide (j = 11)) := by
  rcases cs18 h with rfl | rfl | rfl | rfl | rfl | rfl | rfl | rfl | rfl | rfl | rfl | rfl | rfl | rfl | rfl | rfl | rfl | rfl
  · exact T.ki_InvalidChanges (.ref (ax "InvalidName"), false) (List.mem_of_getElem? (i := 0) rfl)
  · exact T.ki_InvalidChanges (.ref (ax "InvalidMinutes"), false) (List.mem_of_getElem? (i := 1) rfl)
  · exact T.ki_InvalidChanges (.ref (ax "InvalidText"), false) (List.mem_of_getElem? (i := 2) rfl)
  · exact T.ki_InvalidChanges (.ref (ax "InvalidLength"), false) (List.mem_of_getElem? (i := 6) rfl)
  · exact T.ki_InvalidChanges (.ref (ax "InvalidStation"), false) (List.mem_of_getElem? (i := 7) rfl)
  · exact T.ki_InvalidChanges (.ref (ax "InvalidNumber"), false) (List.mem_of_getElem? (i := 8) rfl)
  · exact T.ki_InvalidChanges (.ref (ax "InvalidWish"), false) (List.mem_of_getElem? (i := 9) rfl)
  · exact T.ki_InvalidChanges (.ref (ax "InvalidIndex"), false) (List.mem_of_getElem? (i := 10) rfl)
  · exact T.ki_InvalidChanges (.ref (ax "NotBook"), false) (List.mem_of_getElem? (i := 11) rfl)
  · exact T.ki_InvalidChanges (.ref (ax "InvalidRows"), false) (List.mem_of_getElem? (i := 12) rfl)
  · exact T.ki_InvalidChanges (.ref (ax "InvalidKinds"), false) (List.mem_of_getElem? (i := 13) rfl)
  · exact T.ki_InvalidChanges (.ref (ax "InvalidChanges"), true) (List.mem_of_getElem? (i := 14) rfl)
  · exact T.ki_InvalidChanges (.ref (ax "InvalidWishes"), false) (List.mem_of_getElem? (i := 15) rfl)
  · exact T.ki_InvalidChanges (.ref (ax "UnknownName"), false) (List.mem_of_getElem? (i := 16) rfl)
  · exact T.ki_InvalidChanges (.ref (ax "InUse"), false) (List.mem_of_getElem? (i := 17) rfl)
  · exact T.ki_InvalidChanges (.ref (ax "NoStop"), false) (List.mem_of_getElem? (i := 18) rfl)
  · exact T.ki_InvalidChanges (.ref (ax "NothingToUndo"), false) (List.mem_of_getElem? (i := 19) rfl)
  · exact T.ki_InvalidChanges (.ref (ax "Broken"), false) (List.mem_of_getElem? (i := 20) rfl)
theorem kit_12 {K : PySem.W.Frag} {mg : Str → Option Value} {ax : Str → Addr} (T : Txt K mg ax) {j : Nat} (h : j < 18) : PySem.W.kitOne K (.ref (ax (eNm 12))) (.ref (ax (eNm j))) = some (decide (j = 12)) := by
  rcases cs18 h with rfl | rfl | rfl | rfl | rfl | rfl | rfl | rfl | rfl | rfl | rfl | rfl | rfl | rfl | rfl | rfl | rfl | rfl
  · exact T.ki_InvalidWishes (.ref (ax "InvalidName"), false) (List.mem_of_getElem? (i := 0) rfl)
  · exact T.ki_InvalidWishes (.ref (ax "InvalidMinutes"), false) (List.mem_of_getElem? (i := 1) rfl)
  · exact T.ki_InvalidWishes (.ref (ax "InvalidText"), false) (List.mem_of_getElem? (i := 2) rfl)
  · exact T.ki_InvalidWishes (.ref (ax "InvalidLength"), false) (List.mem_of_getElem? (i := 6) rfl)
  · exact T.ki_InvalidWishes (.ref (ax "InvalidStation"), false) (List.mem_of_getElem? (i := 7) rfl)
  · exact T.ki_InvalidWishes (.ref (ax "InvalidNumber"), false) (List.mem_of_getElem? (i := 8) rfl)
  · exact T.ki_InvalidWishes (.ref (ax "InvalidWish"), false) (List.mem_of_getElem? (i := 9) rfl)
  · exact T.ki_InvalidWishes (.ref (ax "InvalidIndex"), false) (List.mem_of_getElem? (i := 10) rfl)
  · exact T.ki_InvalidWishes (.ref (ax "NotBook"), false) (List.mem_of_getElem? (i := 11) rfl)
  · exact T.ki_InvalidWishes (.ref (ax "InvalidRows"), false) (List.mem_of_getElem? (i := 12) rfl)
  · exact T.ki_InvalidWishes (.ref (ax "InvalidKinds"), false) (List.mem_of_getElem? (i := 13) rfl)
  · exact T.ki_InvalidWishes (.ref (ax "InvalidChanges"), false) (List.mem_of_getElem? (i := 14) rfl)
  · exact T.ki_InvalidWishes (.ref (ax "InvalidWishes"), true) (List.mem_of_getElem? (i := 15) rfl)
  · exact T.ki_InvalidWishes (.ref (ax "UnknownName"), false) (List.mem_of_getElem? (i := 16) rfl)
  · exact T.ki_InvalidWishes (.ref (ax "InUse"), false) (List.mem_of_getElem? (i := 17) rfl)
  · exact T.ki_InvalidWishes (.ref (ax "NoStop"), false) (List.mem_of_getElem? (i := 18) rfl)
  · exact T.ki_InvalidWishes (.ref (ax "NothingToUndo"), false) (List.mem_of_getElem? (i := 19) rfl)
  · exact T.ki_InvalidWishes (.ref (ax "Broken"), false) (List.mem_of_getElem? (i := 20) rfl)
theorem kit_13 {K : PySem.W.Frag} {mg : Str → Option Value} {ax : Str → Addr} (T : Txt K mg ax) {j : Nat} (h : j < 18) : PySem.W.kitOne K (.ref (ax (eNm 13))) (.ref (ax (eNm j))) = some (decide (j = 13)) := by
  rcases cs18 h with rfl | rfl | rfl | rfl | rfl | rfl | rfl | rfl | rfl | rfl | rfl | rfl | rfl | rfl | rfl | rfl | rfl | rfl
  · exact T.ki_UnknownName (.ref (ax "InvalidName"), false) (List.mem_of_getElem? (i := 0) rfl)
  · exact T.ki_UnknownName (.ref (ax "InvalidMinutes"), false) (List.mem_of_getElem? (i := 1) rfl)
  · exact T.ki_UnknownName (.ref (ax "InvalidText"), false) (List.mem_of_getElem? (i := 2) rfl)
  · exact T.ki_UnknownName (.ref (ax "InvalidLength"), false) (List.mem_of_getElem? (i := 6) rfl)
  · exact T.ki_UnknownName (.ref (ax "InvalidStation"), false) (List.mem_of_getElem? (i := 7) rfl)
  · exact T.ki_UnknownName (.ref (ax "InvalidNumber"), false) (List.mem_of_getElem? (i := 8) rfl)
  · exact T.ki_UnknownName (.ref (ax "InvalidWish"), false) (List.mem_of_getElem? (i := 9) rfl)
  · exact T.ki_UnknownName (.ref (ax "InvalidIndex"), false) (List.mem_of_getElem? (i := 10) rfl)
  · exact T.ki_UnknownName (.ref (ax "NotBook"), false) (List.mem_of_getElem? (i := 11) rfl)
  · exact T.ki_UnknownName (.ref (ax "InvalidRows"), false) (List.mem_of_getElem? (i := 12) rfl)
  · exact T.ki_UnknownName (.ref (ax "InvalidKinds"), false) (List.mem_of_getElem? (i := 13) rfl)
  · exact T.ki_UnknownName (.ref (ax "InvalidChanges"), false) (List.mem_of_getElem? (i := 14) rfl)
  · exact T.ki_UnknownName (.ref (ax "InvalidWishes"), false) (List.mem_of_getElem? (i := 15) rfl)
  · exact T.ki_UnknownName (.ref (ax "UnknownName"), true) (List.mem_of_getElem? (i := 16) rfl)
  · exact T.ki_UnknownName (.ref (ax "InUse"), false) (List.mem_of_getElem? (i := 17) rfl)
  · exact T.ki_UnknownName (.ref (ax "NoStop"), false) (List.mem_of_getElem? (i := 18) rfl)
  · exact T.ki_UnknownName (.ref (ax "NothingToUndo"), false) (List.mem_of_getElem? (i := 19) rfl)
  · exact T.ki_UnknownName (.ref (ax "Broken"), false) (List.mem_of_getElem? (i := 20) rfl)
theorem kit_14 {K : PySem.W.Frag} {mg : Str → Option Value} {ax : Str → Addr} (T : Txt K mg ax) {j : Nat} (h : j < 18) : PySem.W.kitOne K (.ref (ax (eNm 14))) (.ref (ax (eNm j))) = some (decide (j = 14)) := by
  rcases cs18 h with rfl | rfl | rfl | rfl | rfl | rfl | rfl | rfl | rfl | rfl | rfl | rfl | rfl | rfl | rfl | rfl | rfl | rfl
  · exact T.ki_InUse (.ref (ax "InvalidName"), false) (List.mem_of_getElem? (i := 0) rfl)
  · exact T.ki_InUse (.ref (ax "InvalidMinutes"), false) (List.mem_of_getElem? (i := 1) rfl)
  · exact T.ki_InUse (.ref (ax "InvalidText"), false) (List.mem_of_getElem? (i := 2) rfl)
  · exact T.ki_InUse (.ref (ax "InvalidLength"), false) (List.mem_of_getElem? (i := 6) rfl)
  · exact T.ki_InUse (.ref (ax "InvalidStation"), false) (List.mem_of_getElem? (i := 7) rfl)
  · exact T.ki_InUse (.ref (ax "InvalidNumber"), false) (List.mem_of_getElem? (i := 8) rfl)
  · exact T.ki_InUse (.ref (ax "InvalidWish"), false) (List.mem_of_getElem? (i := 9) rfl)
  · exact T.ki_InUse (.ref (ax "InvalidIndex"), false) (List.mem_of_getElem? (i := 10) rfl)
  · exact T.ki_InUse (.ref (ax "NotBook"), false) (List.mem_of_getElem? (i := 11) rfl)
  · exact T.ki_InUse (.ref (ax "InvalidRows"), false) (List.mem_of_getElem? (i := 12) rfl)
  · exact T.ki_InUse (.ref (ax "InvalidKinds"), false) (List.mem_of_getElem? (i := 13) rfl)
  · exact T.ki_InUse (.ref (ax "InvalidChanges"), false) (List.mem_of_getElem? (i := 14) rfl)
  · exact T.ki_InUse (.ref (ax "InvalidWishes"), false) (List.mem_of_getElem? (i := 15) rfl)
  · exact T.ki_InUse (.ref (ax "UnknownName"), false) (List.mem_of_getElem? (i := 16) rfl)
  · exact T.ki_InUse (.ref (ax "InUse"), true) (List.mem_of_getElem? (i := 17) rfl)
  · exact T.ki_InUse (.ref (ax "NoStop"), false) (List.mem_of_getElem? (i := 18) rfl)
  · exact T.ki_InUse (.ref (ax "NothingToUndo"), false) (List.mem_of_getElem? (i := 19) rfl)
  · exact T.ki_InUse (.ref (ax "Broken"), false) (List.mem_of_getElem? (i := 20) rfl)
theorem kit_15 {K : PySem.W.Frag} {mg : Str → Option Value} {ax : Str → Addr} (T : Txt K mg ax) {j : Nat} (h : j < 18) : PySem.W.kitOne K (.ref (ax (eNm 15))) (.ref (ax (eNm j))) = some (decide (j = 15)) := by
  rcases cs18 h with rfl | rfl | rfl | rfl | rfl | rfl | rfl | rfl | rfl | rfl | rfl | rfl | rfl | rfl | rfl | rfl | rfl | rfl
  · exact T.ki_NoStop (.ref (ax "InvalidName"), false) (List.mem_of_getElem? (i := 0) rfl)
  · exact T.ki_NoStop (.ref (ax "InvalidMinutes"), false) (List.mem_of_getElem? (i := 1) rfl)
  · exact T.ki_NoStop (.ref (ax "InvalidText"), false) (List.mem_of_getElem? (i := 2) rfl)
  · exact T.ki_NoStop (.ref (ax "InvalidLength"), false) (List.mem_of_getElem? (i := 6) rfl)
  · exact T.ki_NoStop (.ref (ax "InvalidStation"), false) (List.mem_of_getElem? (i := 7) rfl)
  · exact T.ki_NoStop (.ref (ax "InvalidNumber"), false) (List.mem_of_getElem? (i := 8) rfl)
  · exact T.ki_NoStop (.ref (ax "InvalidWish"), false) (List.mem_of_getElem? (i := 9) rfl)
  · exact T.ki_NoStop (.ref (ax "InvalidIndex"), false) (List.mem_of_getElem? (i := 10) rfl)
  · exact T.ki_NoStop (.ref (ax "NotBook"), false) (List.mem_of_getElem? (i := 11) rfl)
  · exact T.ki_NoStop (.ref (ax "InvalidRows"), false) (List.mem_of_getElem? (i := 12) rfl)
  · exact T.ki_NoStop (.ref (ax "InvalidKinds"), false) (List.mem_of_getElem? (i := 13) rfl)
  · exact T.ki_NoStop (.ref (ax "InvalidChanges"), false) (List.mem_of_getElem? (i := 14) rfl)
  · exact T.ki_NoStop (.ref (ax "InvalidWishes"), false) (List.mem_of_getElem? (i := 15) rfl)
  · exact T.ki_NoStop (.ref (ax "UnknownName"), false) (List.mem_of_getElem? (i := 16) rfl)
  · exact T.ki_NoStop (.ref (ax "InUse"), false) (List.mem_of_getElem? (i := 17) rfl)
  · exact T.ki_NoStop (.ref (ax "NoStop"), true) (List.mem_of_getElem? (i := 18) rfl)
  · exact T.ki_NoStop (.ref (ax "NothingToUndo"), false) (List.mem_of_getElem? (i := 19) rfl)
  · exact T.ki_NoStop (.ref (ax "Broken"), false) (List.mem_of_getElem? (i := 20) rfl)
theorem kit_16 {K : PySem.W.Frag} {mg : Str → Option Value} {ax : Str → Addr} (T : Txt K mg ax) {j : Nat} (h : j < 18) : PySem.W.kitOne K (.ref (ax (eNm 16))) (.ref (ax (eNm j))) = some (decide (j = 16)) := by
  rcases cs18 h with rfl | rfl | rfl | rfl | rfl | rfl | rfl | rfl | rfl | rfl | rfl | rfl | rfl | rfl | rfl | rfl | rfl | rfl
  · exact T.ki_NothingToUndo (.ref (ax "InvalidName"), false) (List.mem_of_getElem? (i := 0) rfl)
  · exact T.ki_NothingToUndo (.ref (ax "InvalidMinutes"), false) (List.mem_of_getElem? (i := 1) rfl)
  · exact T.ki_NothingToUndo (.ref (ax "InvalidText"), false) (List.mem_of_getElem? (i := 2) rfl)
  · exact T.ki_NothingToUndo (.ref (ax "InvalidLength"), false) (List.mem_of_getElem? (i := 6) rfl)
  · exact T.ki_NothingToUndo (.ref (ax "InvalidStation"), false) (List.mem_of_getElem? (i := 7) rfl)
  · exact T.ki_NothingToUndo (.ref (ax "InvalidNumber"), false) (List.mem_of_getElem? (i := 8) rfl)
  · exact T.ki_NothingToUndo (.ref (ax "InvalidWish"), false) (List.mem_of_getElem? (i := 9) rfl)
  · exact T.ki_NothingToUndo (.ref (ax "InvalidIndex"), false) (List.mem_of_getElem? (i := 10) rfl)
  · exact T.ki_NothingToUndo (.ref (ax "NotBook"), false) (List.mem_of_getElem? (i := 11) rfl)
  · exact T.ki_NothingToUndo (.ref (ax "InvalidRows"), false) (List.mem_of_getElem? (i := 12) rfl)
  · exact T.ki_NothingToUndo (.ref (ax "InvalidKinds"), false) (List.mem_of_getElem? (i := 13) rfl)
  · exact T.ki_NothingToUndo (.ref (ax "InvalidChanges"), false) (List.mem_of_getElem? (i := 14) rfl)
  · exact T.ki_NothingToUndo (.ref (ax "InvalidWishes"), false) (List.mem_of_getElem? (i := 15) rfl)
  · exact T.ki_NothingToUndo (.ref (ax "UnknownName"), false) (List.mem_of_getElem? (i := 16) rfl)
  · exact T.ki_NothingToUndo (.ref (ax "InUse"), false) (List.mem_of_getElem? (i := 17) rfl)
  · exact T.ki_NothingToUndo (.ref (ax "NoStop"), false) (List.mem_of_getElem? (i := 18) rfl)
  · exact T.ki_NothingToUndo (.ref (ax "NothingToUndo"), true) (List.mem_of_getElem? (i := 19) rfl)
  · exact T.ki_NothingToUndo (.ref (ax "Broken"), false) (List.mem_of_getElem? (i := 20) rfl)
theorem kit_17 {K : PySem.W.Frag} {mg : Str → Option Value} {ax : Str → Addr} (T : Txt K mg ax) {j : Nat} (h : j < 18) : PySem.W.kitOne K (.ref (ax (eNm 17))) (.ref (ax (eNm j))) = some (decide (j = 17)) := by
  rcases cs18 h with rfl | rfl | rfl | rfl | rfl | rfl | rfl | rfl | rfl | rfl | rfl | rfl | rfl | rfl | rfl | rfl | rfl | rfl
  · exact T.ki_Broken (.ref (ax "InvalidName"), false) (List.mem_of_getElem? (i := 0) rfl)
  · exact T.ki_Broken (.ref (ax "InvalidMinutes"), false) (List.mem_of_getElem? (i := 1) rfl)
  · exact T.ki_Broken (.ref (ax "InvalidText"), false) (List.mem_of_getElem? (i := 2) rfl)
  · exact T.ki_Broken (.ref (ax "InvalidLength"), false) (List.mem_of_getElem? (i := 6) rfl)
  · exact T.ki_Broken (.ref (ax "InvalidStation"), false) (List.mem_of_getElem? (i := 7) rfl)
  · exact T.ki_Broken (.ref (ax "InvalidNumber"), false) (List.mem_of_getElem? (i := 8) rfl)
  · exact T.ki_Broken (.ref (ax "InvalidWish"), false) (List.mem_of_getElem? (i := 9) rfl)
  · exact T.ki_Broken (.ref (ax "InvalidIndex"), false) (List.mem_of_getElem? (i := 10) rfl)
  · exact T.ki_Broken (.ref (ax "NotBook"), false) (List.mem_of_getElem? (i := 11) rfl)
  · exact T.ki_Broken (.ref (ax "InvalidRows"), false) (List.mem_of_getElem? (i := 12) rfl)
  · exact T.ki_Broken (.ref (ax "InvalidKinds"), false) (List.mem_of_getElem? (i := 13) rfl)
  · exact T.ki_Broken (.ref (ax "InvalidChanges"), false) (List.mem_of_getElem? (i := 14) rfl)
  · exact T.ki_Broken (.ref (ax "InvalidWishes"), false) (List.mem_of_getElem? (i := 15) rfl)
  · exact T.ki_Broken (.ref (ax "UnknownName"), false) (List.mem_of_getElem? (i := 16) rfl)
  · exact T.ki_Broken (.ref (ax "InUse"), false) (List.mem_of_getElem? (i := 17) rfl)
  · exact T.ki_Broken (.ref (ax "NoStop"), false) (List.mem_of_getElem? (i := 18) rfl)
  · exact T.ki_Broken (.ref (ax "NothingToUndo"), false) (List.mem_of_getElem? (i := 19) rfl)
  · exact T.ki_Broken (.ref (ax "Broken"), true) (List.mem_of_getElem? (i := 20) rfl)
theorem kit_all {K : PySem.W.Frag} {mg : Str → Option Value} {ax : Str → Addr} (T : Txt K mg ax) {i j : Nat} (hi : i < 18) (h : j < 18) : PySem.W.kitOne K (.ref (ax (eNm i))) (.ref (ax (eNm j))) = some (decide (j = i)) := by
  rcases cs18 hi with rfl | rfl | rfl | rfl | rfl | rfl | rfl | rfl | rfl | rfl | rfl | rfl | rfl | rfl | rfl | rfl | rfl | rfl
  · exact kit_0 T h
  · exact kit_1 T h
  · exact kit_2 T h
  · exact kit_3 T h
  · exact kit_4 T h
  · exact kit_5 T h
  · exact kit_6 T h
  · exact kit_7 T h
  · exact kit_8 T h
  · exact kit_9 T h
  · exact kit_10 T h
  · exact kit_11 T h
  · exact kit_12 T h
  · exact kit_13 T h
  · exact kit_14 T h
  · exact kit_15 T h
  · exact kit_16 T h
  · exact kit_17 T h
def grp (i : Nat) : Nat := if i < 13 then 0 else if i < 15 then 1 else 2
def bsV (ax : Str → Addr) (j : Nat) : Value := ([.ref (ax "WrongValue"), .ref (ax "WrongName"), .ref (ax "NotPossible"), .type "ValueError", .type "LookupError", .type "ArithmeticError"] : List Value).getD j .none
theorem bas_all {K : PySem.W.Frag} {mg : Str → Option Value} {ax : Str → Addr} (T : Txt K mg ax) {i j : Nat} (hi : i < 18) (h : j < 6) : PySem.W.kitOne K (.ref (ax (eNm i))) (bsV ax j) = some (decide (j % 3 = grp i)) := by
  rcases cs18 hi with rfl | rfl | rfl | rfl | rfl | rfl | rfl | rfl | rfl | rfl | rfl | rfl | rfl | rfl | rfl | rfl | rfl | rfl
  · rcases cs6 h with rfl | rfl | rfl | rfl | rfl | rfl
    · exact T.ki_InvalidName (.ref (ax "WrongValue"), true) (List.mem_of_getElem? (i := 3) rfl)
    · exact T.ki_InvalidName (.ref (ax "WrongName"), false) (List.mem_of_getElem? (i := 4) rfl)
    · exact T.ki_InvalidName (.ref (ax "NotPossible"), false) (List.mem_of_getElem? (i := 5) rfl)
    · exact T.ki_InvalidName (.type "ValueError", true) (List.mem_of_getElem? (i := 21) rfl)
    · exact T.ki_InvalidName (.type "LookupError", false) (List.mem_of_getElem? (i := 22) rfl)
    · exact T.ki_InvalidName (.type "ArithmeticError", false) (List.mem_of_getElem? (i := 23) rfl)
  · rcases cs6 h with rfl | rfl | rfl | rfl | rfl | rfl
    · exact T.ki_InvalidMinutes (.ref (ax "WrongValue"), true) (List.mem_of_getElem? (i := 3) rfl)
    · exact T.ki_InvalidMinutes (.ref (ax "WrongName"), false) (List.mem_of_getElem? (i := 4) rfl)
    · exact T.ki_InvalidMinutes (.ref (ax "NotPossible"), false) (List.mem_of_getElem? (i := 5) rfl)
    · exact T.ki_InvalidMinutes (.type "ValueError", true) (List.mem_of_getElem? (i := 21) rfl)
    · exact T.ki_InvalidMinutes (.type "LookupError", false) (List.mem_of_getElem? (i := 22) rfl)
    · exact T.ki_InvalidMinutes (.type "ArithmeticError", false) (List.mem_of_getElem? (i := 23) rfl)
  · rcases cs6 h with rfl | rfl | rfl | rfl | rfl | rfl
    · exact T.ki_InvalidText (.ref (ax "WrongValue"), true) (List.mem_of_getElem? (i := 3) rfl)
    · exact T.ki_InvalidText (.ref (ax "WrongName"), false) (List.mem_of_getElem? (i := 4) rfl)
    · exact T.ki_InvalidText (.ref (ax "NotPossible"), false) (List.mem_of_getElem? (i := 5) rfl)
    · exact T.ki_InvalidText (.type "ValueError", true) (List.mem_of_getElem? (i := 21) rfl)
    · exact T.ki_InvalidText (.type "LookupError", false) (List.mem_of_getElem? (i := 22) rfl)
    · exact T.ki_InvalidText (.type "ArithmeticError", false) (List.mem_of_getElem? (i := 23) rfl)
  · rcases cs6 h with rfl | rfl | rfl | rfl | rfl | rfl
    · exact T.ki_InvalidLength (.ref (ax "WrongValue"), true) (List.mem_of_getElem? (i := 3) rfl)
    · exact T.ki_InvalidLength (.ref (ax "WrongName"), false) (List.mem_of_getElem? (i := 4) rfl)
    · exact T.ki_InvalidLength (.ref (ax "NotPossible"), false) (List.mem_of_getElem? (i := 5) rfl)
    · exact T.ki_InvalidLength (.type "ValueError", true) (List.mem_of_getElem? (i := 21) rfl)
    · exact T.ki_InvalidLength (.type "LookupError", false) (List.mem_of_getElem? (i := 22) rfl)
    · exact T.ki_InvalidLength (.type "ArithmeticError", false) (List.mem_of_getElem? (i := 23) rfl)
  · rcases cs6 h with rfl | rfl | rfl | rfl | rfl | rfl
    · exact T.ki_InvalidStation (.ref (ax "WrongValue"), true) (List.mem_of_getElem? (i := 3) rfl)
    · exact T.ki_InvalidStation (.ref (ax "WrongName"), false) (List.mem_of_getElem? (i := 4) rfl)
    · exact T.ki_InvalidStation (.ref (ax "NotPossible"), false) (List.mem_of_getElem? (i := 5) rfl)
    · exact T.ki_InvalidStation (.type "ValueError", true) (List.mem_of_getElem? (i := 21) rfl)
    · exact T.ki_InvalidStation (.type "LookupError", false) (List.mem_of_getElem? (i := 22) rfl)
    · exact T.ki_InvalidStation (.type "ArithmeticError", false) (List.mem_of_getElem? (i := 23) rfl)
  · rcases cs6 h with rfl | rfl | rfl | rfl | rfl | rfl
    · exact T.ki_InvalidNumber (.ref (ax "WrongValue"), true) (List.mem_of_getElem? (i := 3) rfl)
    · exact T.ki_InvalidNumber (.ref (ax "WrongName"), false) (List.mem_of_getElem? (i := 4) rfl)
    · exact T.ki_InvalidNumber (.ref (ax "NotPossible"), false) (List.mem_of_getElem? (i := 5) rfl)
    · exact T.ki_InvalidNumber (.type "ValueError", true) (List.mem_of_getElem? (i := 21) rfl)
    · exact T.ki_InvalidNumber (.type "LookupError", false) (List.mem_of_getElem? (i := 22) rfl)
    · exact T.ki_InvalidNumber (.type "ArithmeticError", false) (List.mem_of_getElem? (i := 23) rfl)
  · rcases cs6 h with rfl | rfl | rfl | rfl | rfl | rfl
    · exact T.ki_InvalidWish (.ref (ax "WrongValue"), true) (List.mem_of_getElem? (i := 3) rfl)
    · exact T.ki_InvalidWish (.ref (ax "WrongName"), false) (List.mem_of_getElem? (i := 4) rfl)
    · exact T.ki_InvalidWish (.ref (ax "NotPossible"), false) (List.mem_of_getElem? (i := 5) rfl)
    · exact T.ki_InvalidWish (.type "ValueError", true) (List.mem_of_getElem? (i := 21) rfl)
    · exact T.ki_InvalidWish (.type "LookupError", false) (List.mem_of_getElem? (i := 22) rfl)
    · exact T.ki_InvalidWish (.type "ArithmeticError", false) (List.mem_of_getElem? (i := 23) rfl)
  · rcases cs6 h with rfl | rfl | rfl | rfl | rfl | rfl
    · exact T.ki_InvalidIndex (.ref (ax "WrongValue"), true) (List.mem_of_getElem? (i := 3) rfl)
    · exact T.ki_InvalidIndex (.ref (ax "WrongName"), false) (List.mem_of_getElem? (i := 4) rfl)
    · exact T.ki_InvalidIndex (.ref (ax "NotPossible"), false) (List.mem_of_getElem? (i := 5) rfl)
    · exact T.ki_InvalidIndex (.type "ValueError", true) (List.mem_of_getElem? (i := 21) rfl)
    · exact T.ki_InvalidIndex (.type "LookupError", false) (List.mem_of_getElem? (i := 22) rfl)
    · exact T.ki_InvalidIndex (.type "ArithmeticError", false) (List.mem_of_getElem? (i := 23) rfl)
  · rcases cs6 h with rfl | rfl | rfl | rfl | rfl | rfl
    · exact T.ki_NotBook (.ref (ax "WrongValue"), true) (List.mem_of_getElem? (i := 3) rfl)
    · exact T.ki_NotBook (.ref (ax "WrongName"), false) (List.mem_of_getElem? (i := 4) rfl)
    · exact T.ki_NotBook (.ref (ax "NotPossible"), false) (List.mem_of_getElem? (i := 5) rfl)
    · exact T.ki_NotBook (.type "ValueError", true) (List.mem_of_getElem? (i := 21) rfl)
    · exact T.ki_NotBook (.type "LookupError", false) (List.mem_of_getElem? (i := 22) rfl)
    · exact T.ki_NotBook (.type "ArithmeticError", false) (List.mem_of_getElem? (i := 23) rfl)
  · rcases cs6 h with rfl | rfl | rfl | rfl | rfl | rfl
    · exact T.ki_InvalidRows (.ref (ax "WrongValue"), true) (List.mem_of_getElem? (i := 3) rfl)
    · exact T.ki_InvalidRows (.ref (ax "WrongName"), false) (List.mem_of_getElem? (i := 4) rfl)
    · exact T.ki_InvalidRows (.ref (ax "NotPossible"), false) (List.mem_of_getElem? (i := 5) rfl)
    · exact T.ki_InvalidRows (.type "ValueError", true) (List.mem_of_getElem? (i := 21) rfl)
    · exact T.ki_InvalidRows (.type "LookupError", false) (List.mem_of_getElem? (i := 22) rfl)
    · exact T.ki_InvalidRows (.type "ArithmeticError", false) (List.mem_of_getElem? (i := 23) rfl)
  · rcases cs6 h with rfl | rfl | rfl | rfl | rfl | rfl
    · exact T.ki_InvalidKinds (.ref (ax "WrongValue"), true) (List.mem_of_getElem? (i := 3) rfl)
    · exact T.ki_InvalidKinds (.ref (ax "WrongName"), false) (List.mem_of_getElem? (i := 4) rfl)
    · exact T.ki_InvalidKinds (.ref (ax "NotPossible"), false) (List.mem_of_getElem? (i := 5) rfl)
    · exact T.ki_InvalidKinds (.type "ValueError", true) (List.mem_of_getElem? (i := 21) rfl)
    · exact T.ki_InvalidKinds (.type "LookupError", false) (List.mem_of_getElem? (i := 22) rfl)
    · exact T.ki_InvalidKinds (.type "ArithmeticError", false) (List.mem_of_getElem? (i := 23) rfl)
  · rcases cs6 h with rfl | rfl | rfl | rfl | rfl | rfl
    · exact T.ki_InvalidChanges (.ref (ax "WrongValue"), true) (List.mem_of_getElem? (i := 3) rfl)
    · exact T.ki_InvalidChanges (.ref (ax "WrongName"), false) (List.mem_of_getElem? (i := 4) rfl)
    · exact T.ki_InvalidChanges (.ref (ax "NotPossible"), false) (List.mem_of_getElem? (i := 5) rfl)
    · exact T.ki_InvalidChanges (.type "ValueError", true) (List.mem_of_getElem? (i := 21) rfl)
    · exact T.ki_InvalidChanges (.type "LookupError", false) (List.mem_of_getElem? (i := 22) rfl)
    · exact T.ki_InvalidChanges (.type "ArithmeticError", false) (List.mem_of_getElem? (i := 23) rfl)
  · rcases cs6 h with rfl | rfl | rfl | rfl | rfl | rfl
    · exact T.ki_InvalidWishes (.ref (ax "WrongValue"), true) (List.mem_of_getElem? (i := 3) rfl)
    · exact T.ki_InvalidWishes (.ref (ax "WrongName"), false) (List.mem_of_getElem? (i := 4) rfl)
    · exact T.ki_InvalidWishes (.ref (ax "NotPossible"), false) (List.mem_of_getElem? (i := 5) rfl)
    · exact T.ki_InvalidWishes (.type "ValueError", true) (List.mem_of_getElem? (i := 21) rfl)
    · exact T.ki_InvalidWishes (.type "LookupError", false) (List.mem_of_getElem? (i := 22) rfl)
    · exact T.ki_InvalidWishes (.type "ArithmeticError", false) (List.mem_of_getElem? (i := 23) rfl)
  · rcases cs6 h with rfl | rfl | rfl | rfl | rfl | rfl
    · exact T.ki_UnknownName (.ref (ax "WrongValue"), false) (List.mem_of_getElem? (i := 3) rfl)
    · exact T.ki_UnknownName (.ref (ax "WrongName"), true) (List.mem_of_getElem? (i := 4) rfl)
    · exact T.ki_UnknownName (.ref (ax "NotPossible"), false) (List.mem_of_getElem? (i := 5) rfl)
    · exact T.ki_UnknownName (.type "ValueError", false) (List.mem_of_getElem? (i := 21) rfl)
    · exact T.ki_UnknownName (.type "LookupError", true) (List.mem_of_getElem? (i := 22) rfl)
    · exact T.ki_UnknownName (.type "ArithmeticError", false) (List.mem_of_getElem? (i := 23) rfl)
  · rcases cs6 h with rfl | rfl | rfl | rfl | rfl | rfl
    · exact T.ki_InUse (.ref (ax "WrongValue"), false) (List.mem_of_getElem? (i := 3) rfl)
    · exact T.ki_InUse (.ref (ax "WrongName"), true) (List.mem_of_getElem? (i := 4) rfl)
    · exact T.ki_InUse (.ref (ax "NotPossible"), false) (List.mem_of_getElem? (i := 5) rfl)
    · exact T.ki_InUse (.type "ValueError", false) (List.mem_of_getElem? (i := 21) rfl)
    · exact T.ki_InUse (.type "LookupError", true) (List.mem_of_getElem? (i := 22) rfl)
    · exact T.ki_InUse (.type "ArithmeticError", false) (List.mem_of_getElem? (i := 23) rfl)
  · rcases cs6 h with rfl | rfl | rfl | rfl | rfl | rfl
    · exact T.ki_NoStop (.ref (ax "WrongValue"), false) (List.mem_of_getElem? (i := 3) rfl)
    · exact T.ki_NoStop (.ref (ax "WrongName"), false) (List.mem_of_getElem? (i := 4) rfl)
    · exact T.ki_NoStop (.ref (ax "NotPossible"), true) (List.mem_of_getElem? (i := 5) rfl)
    · exact T.ki_NoStop (.type "ValueError", false) (List.mem_of_getElem? (i := 21) rfl)
    · exact T.ki_NoStop (.type "LookupError", false) (List.mem_of_getElem? (i := 22) rfl)
    · exact T.ki_NoStop (.type "ArithmeticError", true) (List.mem_of_getElem? (i := 23) rfl)
  · rcases cs6 h with rfl | rfl | rfl | rfl | rfl | rfl
    · exact T.ki_NothingToUndo (.ref (ax "WrongValue"), false) (List.mem_of_getElem? (i := 3) rfl)
    · exact T.ki_NothingToUndo (.ref (ax "WrongName"), false) (List.mem_of_getElem? (i := 4) rfl)
    · exact T.ki_NothingToUndo (.ref (ax "NotPossible"), true) (List.mem_of_getElem? (i := 5) rfl)
    · exact T.ki_NothingToUndo (.type "ValueError", false) (List.mem_of_getElem? (i := 21) rfl)
    · exact T.ki_NothingToUndo (.type "LookupError", false) (List.mem_of_getElem? (i := 22) rfl)
    · exact T.ki_NothingToUndo (.type "ArithmeticError", true) (List.mem_of_getElem? (i := 23) rfl)
  · rcases cs6 h with rfl | rfl | rfl | rfl | rfl | rfl
    · exact T.ki_Broken (.ref (ax "WrongValue"), false) (List.mem_of_getElem? (i := 3) rfl)
    · exact T.ki_Broken (.ref (ax "WrongName"), false) (List.mem_of_getElem? (i := 4) rfl)
    · exact T.ki_Broken (.ref (ax "NotPossible"), true) (List.mem_of_getElem? (i := 5) rfl)
    · exact T.ki_Broken (.type "ValueError", false) (List.mem_of_getElem? (i := 21) rfl)
    · exact T.ki_Broken (.type "LookupError", false) (List.mem_of_getElem? (i := 22) rfl)
    · exact T.ki_Broken (.type "ArithmeticError", true) (List.mem_of_getElem? (i := 23) rfl)
def sp_law_valued (ax : Str → Addr) : Sp3 := sp3 fun k th bp G Q _ => ∃ (i : Nat) (y : Bool), k = .int (i : Nat) ∧ 0 ≤ i ∧ i < 9 ∧ bp = .bl y ∧ ∀ a, G a = none → Q (.ref a) (gupd G a (eDO ax a i th))
theorem c_law_valued (T : Txt K mg ax) : Cal3 P w K mg base 3 "_law_valued" (sp_law_valued ax) [] := cal3 (T.d_law_valued) sc_law_valued (by decide) len3 fun f cdv A outer s H E o E3 hr tk hp => ⟨_,
    have hN := sc_law_valued.nd
    (dss_cons (ds_if (dt_cmp (op_eqA hr) dc_eq (de_var 0) de_int (nomark _)) (dss_one (ds_ret (de_if (dt_val (de_var 2)) (de_excV (ExcAt.v T.x_InvalidName sc_InvalidName_init b_InvalidName_init) hr (de_var 1) (fun _ _ _ _ _ _ us ws hu hw => match us, ws, hu, hw with | [_, _], [], _, _ => rfl)) (de_excVK (ExcAt.v T.x_InvalidName sc_InvalidName_init b_InvalidName_init) hr (de_var 1) (fun _ _ _ _ _ _ us ws hu hw => match us, ws, hu, hw with | [_], [_], _, _ => rfl))))) dss_nil)
      (dss_cons (ds_if (dt_cmp (op_eqA hr) dc_eq (de_var 0) de_int (nomark _)) (dss_one (ds_ret (de_if (dt_val (de_var 2)) (de_excV (ExcAt.v T.x_InvalidMinutes sc_InvalidMinutes_init b_InvalidMinutes_init) hr (de_var 1) (fun _ _ _ _ _ _ us ws hu hw => match us, ws, hu, hw with | [_, _], [], _, _ => rfl)) (de_excVK (ExcAt.v T.x_InvalidMinutes sc_InvalidMinutes_init b_InvalidMinutes_init) hr (de_var 1) (fun _ _ _ _ _ _ us ws hu hw => match us, ws, hu, hw with | [_], [_], _, _ => rfl))))) dss_nil)
      (dss_cons (ds_if (dt_cmp (op_eqA hr) dc_eq (de_var 0) de_int (nomark _)) (dss_one (ds_ret (de_if (dt_val (de_var 2)) (de_excV (ExcAt.v T.x_InvalidText sc_InvalidText_init b_InvalidText_init) hr (de_var 1) (fun _ _ _ _ _ _ us ws hu hw => match us, ws, hu, hw with | [_, _], [], _, _ => rfl)) (de_excVK (ExcAt.v T.x_InvalidText sc_InvalidText_init b_InvalidText_init) hr (de_var 1) (fun _ _ _ _ _ _ us ws hu hw => match us, ws, hu, hw with | [_], [_], _, _ => rfl))))) dss_nil)
      (dss_cons (ds_if (dt_cmp (op_eqA hr) dc_eq (de_var 0) de_int (nomark _)) (dss_one (ds_ret (de_if (dt_val (de_var 2)) (de_excV (ExcAt.v T.x_InvalidLength sc_InvalidLength_init b_InvalidLength_init) hr (de_var 1) (fun _ _ _ _ _ _ us ws hu hw => match us, ws, hu, hw with | [_, _], [], _, _ => rfl)) (de_excVK (ExcAt.v T.x_InvalidLength sc_InvalidLength_init b_InvalidLength_init) hr (de_var 1) (fun _ _ _ _ _ _ us ws hu hw => match us, ws, hu, hw with | [_], [_], _, _ => rfl))))) dss_nil)
      (dss_cons (ds_if (dt_cmp (op_eqA hr) dc_eq (de_var 0) de_int (nomark _)) (dss_one (ds_ret (de_if (dt_val (de_var 2)) (de_excV (ExcAt.v T.x_InvalidStation sc_InvalidStation_init b_InvalidStation_init) hr (de_var 1) (fun _ _ _ _ _ _ us ws hu hw => match us, ws, hu, hw with | [_, _], [], _, _ => rfl)) (de_excVK (ExcAt.v T.x_InvalidStation sc_InvalidStation_init b_InvalidStation_init) hr (de_var 1) (fun _ _ _ _ _ _ us ws hu hw => match us, ws, hu, hw with | [_], [_], _, _ => rfl))))) dss_nil)
      (dss_cons (ds_if (dt_cmp (op_eqA hr) dc_eq (de_var 0) de_int (nomark _)) (dss_one (ds_ret (de_if (dt_val (de_var 2)) (de_excV (ExcAt.v T.x_InvalidNumber sc_InvalidNumber_init b_InvalidNumber_init) hr (de_var 1) (fun _ _ _ _ _ _ us ws hu hw => match us, ws, hu, hw with | [_, _], [], _, _ => rfl)) (de_excVK (ExcAt.v T.x_InvalidNumber sc_InvalidNumber_init b_InvalidNumber_init) hr (de_var 1) (fun _ _ _ _ _ _ us ws hu hw => match us, ws, hu, hw with | [_], [_], _, _ => rfl))))) dss_nil)
      (dss_cons (ds_if (dt_cmp (op_eqA hr) dc_eq (de_var 0) de_int (nomark _)) (dss_one (ds_ret (de_if (dt_val (de_var 2)) (de_excV (ExcAt.v T.x_InvalidWish sc_InvalidWish_init b_InvalidWish_init) hr (de_var 1) (fun _ _ _ _ _ _ us ws hu hw => match us, ws, hu, hw with | [_, _], [], _, _ => rfl)) (de_excVK (ExcAt.v T.x_InvalidWish sc_InvalidWish_init b_InvalidWish_init) hr (de_var 1) (fun _ _ _ _ _ _ us ws hu hw => match us, ws, hu, hw with | [_], [_], _, _ => rfl))))) dss_nil)
      (dss_cons (ds_if (dt_cmp (op_eqA hr) dc_eq (de_var 0) de_int (nomark _)) (dss_one (ds_ret (de_if (dt_val (de_var 2)) (de_excV (ExcAt.v T.x_InvalidIndex sc_InvalidIndex_init b_InvalidIndex_init) hr (de_var 1) (fun _ _ _ _ _ _ us ws hu hw => match us, ws, hu, hw with | [_, _], [], _, _ => rfl)) (de_excVK (ExcAt.v T.x_InvalidIndex sc_InvalidIndex_init b_InvalidIndex_init) hr (de_var 1) (fun _ _ _ _ _ _ us ws hu hw => match us, ws, hu, hw with | [_], [_], _, _ => rfl))))) dss_nil)
      (dss_one (ds_ret (de_if (dt_val (de_var 2)) (de_excV (ExcAt.v T.x_NotBook sc_NotBook_init b_NotBook_init) hr (de_var 1) (fun _ _ _ _ _ _ us ws hu hw => match us, ws, hu, hw with | [_, _], [], _, _ => rfl)) (de_excVK (ExcAt.v T.x_NotBook sc_NotBook_init b_NotBook_init) hr (de_var 1) (fun _ _ _ _ _ _ us ws hu hw => match us, ws, hu, hw with | [_], [_], _, _ => rfl))))))))))))), by
    intro ds G Q h
    obtain ⟨k, th, bp, rfl, i, y, rfl, h0, hi, rfl, q⟩ := in3 h
    have hc : i = 0 ∨ i = 1 ∨ i = 2 ∨ i = 3 ∨ i = 4 ∨ i = 5 ∨ i = 6 ∨ i = 7 ∨ i = 8 := by omega
    rcases hc with rfl | rfl | rfl | rfl | rfl | rfl | rfl | rfl | rfl
    · cases y <;> (conv => whnf) <;> exact fun a ha => ret_id (q a ha)
    · cases y <;> (conv => whnf) <;> exact fun a ha => ret_id (q a ha)
    · cases y <;> (conv => whnf) <;> exact fun a ha => ret_id (q a ha)
    · cases y <;> (conv => whnf) <;> exact fun a ha => ret_id (q a ha)
    · cases y <;> (conv => whnf) <;> exact fun a ha => ret_id (q a ha)
    · cases y <;> (conv => whnf) <;> exact fun a ha => ret_id (q a ha)
    · cases y <;> (conv => whnf) <;> exact fun a ha => ret_id (q a ha)
    · cases y <;> (conv => whnf) <;> exact fun a ha => ret_id (q a ha)
    · cases y <;> (conv => whnf) <;> exact fun a ha => ret_id (q a ha)⟩
def sp_law_further (ax : Str → Addr) : Sp3 := sp3 fun k th bp G Q _ => ∃ (i : Nat) (y : Bool), k = .int (i : Nat) ∧ 9 ≤ i ∧ i < 18 ∧ bp = .bl y ∧ ∀ a, G a = none → Q (.ref a) (gupd G a (eDO ax a i th))
theorem c_law_further (T : Txt K mg ax) : Cal3 P w K mg base 3 "_law_further" (sp_law_further ax) [] := cal3 (T.d_law_further) sc_law_further (by decide) len3 fun f cdv A outer s H E o E3 hr tk hp => ⟨_,
    have hN := sc_law_further.nd
    (dss_cons (ds_if (dt_cmp (op_eqA hr) dc_eq (de_var 0) de_int (nomark _)) (dss_one (ds_ret (de_if (dt_val (de_var 2)) (de_excV (ExcAt.v T.x_InvalidRows sc_InvalidRows_init b_InvalidRows_init) hr (de_var 1) (fun _ _ _ _ _ _ us ws hu hw => match us, ws, hu, hw with | [_, _], [], _, _ => rfl)) (de_excVK (ExcAt.v T.x_InvalidRows sc_InvalidRows_init b_InvalidRows_init) hr (de_var 1) (fun _ _ _ _ _ _ us ws hu hw => match us, ws, hu, hw with | [_], [_], _, _ => rfl))))) dss_nil)
      (dss_cons (ds_if (dt_cmp (op_eqA hr) dc_eq (de_var 0) de_int (nomark _)) (dss_one (ds_ret (de_if (dt_val (de_var 2)) (de_excV (ExcAt.v T.x_InvalidKinds sc_InvalidKinds_init b_InvalidKinds_init) hr (de_var 1) (fun _ _ _ _ _ _ us ws hu hw => match us, ws, hu, hw with | [_, _], [], _, _ => rfl)) (de_excVK (ExcAt.v T.x_InvalidKinds sc_InvalidKinds_init b_InvalidKinds_init) hr (de_var 1) (fun _ _ _ _ _ _ us ws hu hw => match us, ws, hu, hw with | [_], [_], _, _ => rfl))))) dss_nil)
      (dss_cons (ds_if (dt_cmp (op_eqA hr) dc_eq (de_var 0) de_int (nomark _)) (dss_one (ds_ret (de_if (dt_val (de_var 2)) (de_excV (ExcAt.v T.x_InvalidChanges sc_InvalidChanges_init b_InvalidChanges_init) hr (de_var 1) (fun _ _ _ _ _ _ us ws hu hw => match us, ws, hu, hw with | [_, _], [], _, _ => rfl)) (de_excVK (ExcAt.v T.x_InvalidChanges sc_InvalidChanges_init b_InvalidChanges_init) hr (de_var 1) (fun _ _ _ _ _ _ us ws hu hw => match us, ws, hu, hw with | [_], [_], _, _ => rfl))))) dss_nil)
      (dss_cons (ds_if (dt_cmp (op_eqA hr) dc_eq (de_var 0) de_int (nomark _)) (dss_one (ds_ret (de_if (dt_val (de_var 2)) (de_excV (ExcAt.v T.x_InvalidWishes sc_InvalidWishes_init b_InvalidWishes_init) hr (de_var 1) (fun _ _ _ _ _ _ us ws hu hw => match us, ws, hu, hw with | [_, _], [], _, _ => rfl)) (de_excVK (ExcAt.v T.x_InvalidWishes sc_InvalidWishes_init b_InvalidWishes_init) hr (de_var 1) (fun _ _ _ _ _ _ us ws hu hw => match us, ws, hu, hw with | [_], [_], _, _ => rfl))))) dss_nil)
      (dss_cons (ds_if (dt_cmp (op_eqA hr) dc_eq (de_var 0) de_int (nomark _)) (dss_one (ds_ret (de_if (dt_val (de_var 2)) (de_excV (ExcAtR.v T.x_UnknownName sc_UnknownName_init b_UnknownName_init) hr (de_var 1) (fun _ _ _ _ _ _ us ws hu hw => match us, ws, hu, hw with | [_, _], [], _, _ => rfl)) (de_excVK (ExcAtR.v T.x_UnknownName sc_UnknownName_init b_UnknownName_init) hr (de_var 1) (fun _ _ _ _ _ _ us ws hu hw => match us, ws, hu, hw with | [_], [_], _, _ => rfl))))) dss_nil)
      (dss_cons (ds_if (dt_cmp (op_eqA hr) dc_eq (de_var 0) de_int (nomark _)) (dss_one (ds_ret (de_if (dt_val (de_var 2)) (de_excV (ExcAtR.v T.x_InUse sc_InUse_init b_InUse_init) hr (de_var 1) (fun _ _ _ _ _ _ us ws hu hw => match us, ws, hu, hw with | [_, _], [], _, _ => rfl)) (de_excVK (ExcAtR.v T.x_InUse sc_InUse_init b_InUse_init) hr (de_var 1) (fun _ _ _ _ _ _ us ws hu hw => match us, ws, hu, hw with | [_], [_], _, _ => rfl))))) dss_nil)
      (dss_cons (ds_if (dt_cmp (op_eqA hr) dc_eq (de_var 0) de_int (nomark _)) (dss_one (ds_ret (de_if (dt_val (de_var 2)) (de_excV (ExcAtR.v T.x_NoStop sc_NoStop_init b_NoStop_init) hr (de_var 1) (fun _ _ _ _ _ _ us ws hu hw => match us, ws, hu, hw with | [_, _], [], _, _ => rfl)) (de_excVK (ExcAtR.v T.x_NoStop sc_NoStop_init b_NoStop_init) hr (de_var 1) (fun _ _ _ _ _ _ us ws hu hw => match us, ws, hu, hw with | [_], [_], _, _ => rfl))))) dss_nil)
      (dss_cons (ds_if (dt_cmp (op_eqA hr) dc_eq (de_var 0) de_int (nomark _)) (dss_one (ds_ret (de_exc0V T.x_NothingToUndo))) dss_nil)
      (dss_one (ds_ret (de_if (dt_val (de_var 2)) (de_excV (ExcAtR.v T.x_Broken sc_Broken_init b_Broken_init) hr (de_var 1) (fun _ _ _ _ _ _ us ws hu hw => match us, ws, hu, hw with | [_, _], [], _, _ => rfl)) (de_excVK (ExcAtR.v T.x_Broken sc_Broken_init b_Broken_init) hr (de_var 1) (fun _ _ _ _ _ _ us ws hu hw => match us, ws, hu, hw with | [_], [_], _, _ => rfl))))))))))))), by
    intro ds G Q h
    obtain ⟨k, th, bp, rfl, i, y, rfl, h0, hi, rfl, q⟩ := in3 h
    have hc : i = 9 ∨ i = 10 ∨ i = 11 ∨ i = 12 ∨ i = 13 ∨ i = 14 ∨ i = 15 ∨ i = 16 ∨ i = 17 := by omega
    rcases hc with rfl | rfl | rfl | rfl | rfl | rfl | rfl | rfl | rfl
    · cases y <;> (conv => whnf) <;> exact fun a ha => ret_id (q a ha)
    · cases y <;> (conv => whnf) <;> exact fun a ha => ret_id (q a ha)
    · cases y <;> (conv => whnf) <;> exact fun a ha => ret_id (q a ha)
    · cases y <;> (conv => whnf) <;> exact fun a ha => ret_id (q a ha)
    · cases y <;> (conv => whnf) <;> exact fun a ha => ret_id (q a ha)
    · cases y <;> (conv => whnf) <;> exact fun a ha => ret_id (q a ha)
    · cases y <;> (conv => whnf) <;> exact fun a ha => ret_id (q a ha)
    · cases y <;> (conv => whnf) <;> exact fun a ha => ret_id (q a ha)
    · cases y <;> (conv => whnf) <;> exact fun a ha => ret_id (q a ha)⟩
def sp_law_sorts (ax : Str → Addr) : Sp3 := sp1 fun e G Q _ => ∃ (a : Addr) (i : Nat) (th : D), e = .ref a ∧ i < 18 ∧ G a = some (eDO ax a i th) ∧ Q (.lst ((List.range 18).map fun j => D.bl (decide (j = i)))) G
theorem c_law_sorts (T : Txt K mg ax) : Cal3 P w K mg base 1 "_law_sorts" (sp_law_sorts ax) [] := cal3 (T.d_law_sorts) sc_law_sorts (by decide) len1 fun f cdv A outer s H E o E3 hr tk hp => ⟨_,
    have hN := sc_law_sorts.nd
    (dss_cons (ds_set 1 hN (de_lstS (da_cons (de_isV (Cs := [ax "InvalidName", ax "InvalidMinutes", ax "InvalidText", ax "InvalidLength", ax "InvalidStation", ax "InvalidNumber", ax "InvalidWish", ax "InvalidIndex", ax "NotBook", ax "InvalidRows", ax "InvalidKinds", ax "InvalidChanges", ax "InvalidWishes", ax "UnknownName", ax "InUse", ax "NoStop", ax "Broken", ax "NothingToUndo"]) (v := .ref (ax "InvalidName")) (fun C hm => by simp only [List.mem_cons, List.not_mem_nil, or_false] at hm; rcases hm with rfl | hm; exact T.ec_InvalidName; rcases hm with rfl | hm; exact T.ec_InvalidMinutes; rcases hm with rfl | hm; exact T.ec_InvalidText; rcases hm with rfl | hm; exact T.ec_InvalidLength; rcases hm with rfl | hm; exact T.ec_InvalidStation; rcases hm with rfl | hm; exact T.ec_InvalidNumber; rcases hm with rfl | hm; exact T.ec_InvalidWish; rcases hm with rfl | hm; exact T.ec_InvalidIndex; rcases hm with rfl | hm; exact T.ec_NotBook; rcases hm with rfl | hm; exact T.ec_InvalidRows; rcases hm with rfl | hm; exact T.ec_InvalidKinds; rcases hm with rfl | hm; exact T.ec_InvalidChanges; rcases hm with rfl | hm; exact T.ec_InvalidWishes; rcases hm with rfl | hm; exact T.ec_UnknownName; rcases hm with rfl | hm; exact T.ec_InUse; rcases hm with rfl | hm; exact T.ec_NoStop; rcases hm with rfl | hm; exact T.ec_Broken; subst hm; exact T.ec_NothingToUndo) (de_var 0) T.B.isinstance (de_gref rfl T.x_InvalidName.g) (fun F v r => by cases r; rfl) (fun u r => r)) (da_cons (de_isV (Cs := [ax "InvalidName", ax "InvalidMinutes", ax "InvalidText", ax "InvalidLength", ax "InvalidStation", ax "InvalidNumber", ax "InvalidWish", ax "InvalidIndex", ax "NotBook", ax "InvalidRows", ax "InvalidKinds", ax "InvalidChanges", ax "InvalidWishes", ax "UnknownName", ax "InUse", ax "NoStop", ax "Broken", ax "NothingToUndo"]) (v := .ref (ax "InvalidMinutes")) (fun C hm => by simp only [List.mem_cons, List.not_mem_nil, or_false] at hm; rcases hm with rfl | hm; exact T.ec_InvalidName; rcases hm with rfl | hm; exact T.ec_InvalidMinutes; rcases hm with rfl | hm; exact T.ec_InvalidText; rcases hm with rfl | hm; exact T.ec_InvalidLength; rcases hm with rfl | hm; exact T.ec_InvalidStation; rcases hm with rfl | hm; exact T.ec_InvalidNumber; rcases hm with rfl | hm; exact T.ec_InvalidWish; rcases hm with rfl | hm; exact T.ec_InvalidIndex; rcases hm with rfl | hm; exact T.ec_NotBook; rcases hm with rfl | hm; exact T.ec_InvalidRows; rcases hm with rfl | hm; exact T.ec_InvalidKinds; rcases hm with rfl | hm; exact T.ec_InvalidChanges; rcases hm with rfl | hm; exact T.ec_InvalidWishes; rcases hm with rfl | hm; exact T.ec_UnknownName; rcases hm with rfl | hm; exact T.ec_InUse; rcases hm with rfl | hm; exact T.ec_NoStop; rcases hm with rfl | hm; exact T.ec_Broken; subst hm; exact T.ec_NothingToUndo) (de_var 0) T.B.isinstance (de_gref rfl T.x_InvalidMinutes.g) (fun F v r => by cases r; rfl) (fun u r => r)) (da_cons (de_isV (Cs := [ax "InvalidName", ax "InvalidMinutes", ax "InvalidText", ax "InvalidLength", ax "InvalidStation", ax "InvalidNumber", ax "InvalidWish", ax "InvalidIndex", ax "NotBook", ax "InvalidRows", ax "InvalidKinds", ax "InvalidChanges", ax "InvalidWishes", ax "UnknownName", ax "InUse", ax "NoStop", ax "Broken", ax "NothingToUndo"]) (v := .ref (ax "InvalidText")) (fun C hm => by simp only [List.mem_cons, List.not_mem_nil, or_false] at hm; rcases hm with rfl | hm; exact T.ec_InvalidName; rcases hm with rfl | hm; exact T.ec_InvalidMinutes; rcases hm with rfl | hm; exact T.ec_InvalidText; rcases hm with rfl | hm; exact T.ec_InvalidLength; rcases hm with rfl | hm; exact T.ec_InvalidStation; rcases hm with rfl | hm; exact T.ec_InvalidNumber; rcases hm with rfl | hm; exact T.ec_InvalidWish; rcases hm with rfl | hm; exact T.ec_InvalidIndex; rcases hm with rfl | hm; exact T.ec_NotBook; rcases hm with rfl | hm; exact T.ec_InvalidRows; rcases hm with rfl | hm; exact T.ec_InvalidKinds; rcases hm with rfl | hm; exact T.ec_InvalidChanges; rcases hm with rfl | hm; exact T.ec_InvalidWishes; rcases hm with rfl | hm; exact T.ec_UnknownName; rcases hm with rfl | hm; exact T.ec_InUse; rcases hm with rfl | hm; exact T.ec_NoStop; rcases hm with rfl | hm; exact T.ec_Broken; subst hm; exact T.ec_NothingToUndo) (de_var 0) T.B.isinstance (de_gref rfl T.x_InvalidText.g) (fun F v r => by cases r; rfl) (fun u r => r)) da_nil)))))
      (dss_cons (ds_set 1 hN (de_add (de_var 1) (de_lstS (da_cons (de_isV (Cs := [ax "InvalidName", ax "InvalidMinutes", ax "InvalidText", ax "InvalidLength", ax "InvalidStation", ax "InvalidNumber", ax "InvalidWish", ax "InvalidIndex", ax "NotBook", ax "InvalidRows", ax "InvalidKinds", ax "InvalidChanges", ax "InvalidWishes", ax "UnknownName", ax "InUse", ax "NoStop", ax "Broken", ax "NothingToUndo"]) (v := .ref (ax "InvalidLength")) (fun C hm => by simp only [List.mem_cons, List.not_mem_nil, or_false] at hm; rcases hm with rfl | hm; exact T.ec_InvalidName; rcases hm with rfl | hm; exact T.ec_InvalidMinutes; rcases hm with rfl | hm; exact T.ec_InvalidText; rcases hm with rfl | hm; exact T.ec_InvalidLength; rcases hm with rfl | hm; exact T.ec_InvalidStation; rcases hm with rfl | hm; exact T.ec_InvalidNumber; rcases hm with rfl | hm; exact T.ec_InvalidWish; rcases hm with rfl | hm; exact T.ec_InvalidIndex; rcases hm with rfl | hm; exact T.ec_NotBook; rcases hm with rfl | hm; exact T.ec_InvalidRows; rcases hm with rfl | hm; exact T.ec_InvalidKinds; rcases hm with rfl | hm; exact T.ec_InvalidChanges; rcases hm with rfl | hm; exact T.ec_InvalidWishes; rcases hm with rfl | hm; exact T.ec_UnknownName; rcases hm with rfl | hm; exact T.ec_InUse; rcases hm with rfl | hm; exact T.ec_NoStop; rcases hm with rfl | hm; exact T.ec_Broken; subst hm; exact T.ec_NothingToUndo) (de_var 0) T.B.isinstance (de_gref rfl T.x_InvalidLength.g) (fun F v r => by cases r; rfl) (fun u r => r)) (da_cons (de_isV (Cs := [ax "InvalidName", ax "InvalidMinutes", ax "InvalidText", ax "InvalidLength", ax "InvalidStation", ax "InvalidNumber", ax "InvalidWish", ax "InvalidIndex", ax "NotBook", ax "InvalidRows", ax "InvalidKinds", ax "InvalidChanges", ax "InvalidWishes", ax "UnknownName", ax "InUse", ax "NoStop", ax "Broken", ax "NothingToUndo"]) (v := .ref (ax "InvalidStation")) (fun C hm => by simp only [List.mem_cons, List.not_mem_nil, or_false] at hm; rcases hm with rfl | hm; exact T.ec_InvalidName; rcases hm with rfl | hm; exact T.ec_InvalidMinutes; rcases hm with rfl | hm; exact T.ec_InvalidText; rcases hm with rfl | hm; exact T.ec_InvalidLength; rcases hm with rfl | hm; exact T.ec_InvalidStation; rcases hm with rfl | hm; exact T.ec_InvalidNumber; rcases hm with rfl | hm; exact T.ec_InvalidWish; rcases hm with rfl | hm; exact T.ec_InvalidIndex; rcases hm with rfl | hm; exact T.ec_NotBook; rcases hm with rfl | hm; exact T.ec_InvalidRows; rcases hm with rfl | hm; exact T.ec_InvalidKinds; rcases hm with rfl | hm; exact T.ec_InvalidChanges; rcases hm with rfl | hm; exact T.ec_InvalidWishes; rcases hm with rfl | hm; exact T.ec_UnknownName; rcases hm with rfl | hm; exact T.ec_InUse; rcases hm with rfl | hm; exact T.ec_NoStop; rcases hm with rfl | hm; exact T.ec_Broken; subst hm; exact T.ec_NothingToUndo) (de_var 0) T.B.isinstance (de_gref rfl T.x_InvalidStation.g) (fun F v r => by cases r; rfl) (fun u r => r)) (da_cons (de_isV (Cs := [ax "InvalidName", ax "InvalidMinutes", ax "InvalidText", ax "InvalidLength", ax "InvalidStation", ax "InvalidNumber", ax "InvalidWish", ax "InvalidIndex", ax "NotBook", ax "InvalidRows", ax "InvalidKinds", ax "InvalidChanges", ax "InvalidWishes", ax "UnknownName", ax "InUse", ax "NoStop", ax "Broken", ax "NothingToUndo"]) (v := .ref (ax "InvalidNumber")) (fun C hm => by simp only [List.mem_cons, List.not_mem_nil, or_false] at hm; rcases hm with rfl | hm; exact T.ec_InvalidName; rcases hm with rfl | hm; exact T.ec_InvalidMinutes; rcases hm with rfl | hm; exact T.ec_InvalidText; rcases hm with rfl | hm; exact T.ec_InvalidLength; rcases hm with rfl | hm; exact T.ec_InvalidStation; rcases hm with rfl | hm; exact T.ec_InvalidNumber; rcases hm with rfl | hm; exact T.ec_InvalidWish; rcases hm with rfl | hm; exact T.ec_InvalidIndex; rcases hm with rfl | hm; exact T.ec_NotBook; rcases hm with rfl | hm; exact T.ec_InvalidRows; rcases hm with rfl | hm; exact T.ec_InvalidKinds; rcases hm with rfl | hm; exact T.ec_InvalidChanges; rcases hm with rfl | hm; exact T.ec_InvalidWishes; rcases hm with rfl | hm; exact T.ec_UnknownName; rcases hm with rfl | hm; exact T.ec_InUse; rcases hm with rfl | hm; exact T.ec_NoStop; rcases hm with rfl | hm; exact T.ec_Broken; subst hm; exact T.ec_NothingToUndo) (de_var 0) T.B.isinstance (de_gref rfl T.x_InvalidNumber.g) (fun F v r => by cases r; rfl) (fun u r => r)) da_nil))))))
      (dss_cons (ds_set 1 hN (de_add (de_var 1) (de_lstS (da_cons (de_isV (Cs := [ax "InvalidName", ax "InvalidMinutes", ax "InvalidText", ax "InvalidLength", ax "InvalidStation", ax "InvalidNumber", ax "InvalidWish", ax "InvalidIndex", ax "NotBook", ax "InvalidRows", ax "InvalidKinds", ax "InvalidChanges", ax "InvalidWishes", ax "UnknownName", ax "InUse", ax "NoStop", ax "Broken", ax "NothingToUndo"]) (v := .ref (ax "InvalidWish")) (fun C hm => by simp only [List.mem_cons, List.not_mem_nil, or_false] at hm; rcases hm with rfl | hm; exact T.ec_InvalidName; rcases hm with rfl | hm; exact T.ec_InvalidMinutes; rcases hm with rfl | hm; exact T.ec_InvalidText; rcases hm with rfl | hm; exact T.ec_InvalidLength; rcases hm with rfl | hm; exact T.ec_InvalidStation; rcases hm with rfl | hm; exact T.ec_InvalidNumber; rcases hm with rfl | hm; exact T.ec_InvalidWish; rcases hm with rfl | hm; exact T.ec_InvalidIndex; rcases hm with rfl | hm; exact T.ec_NotBook; rcases hm with rfl | hm; exact T.ec_InvalidRows; rcases hm with rfl | hm; exact T.ec_InvalidKinds; rcases hm with rfl | hm; exact T.ec_InvalidChanges; rcases hm with rfl | hm; exact T.ec_InvalidWishes; rcases hm with rfl | hm; exact T.ec_UnknownName; rcases hm with rfl | hm; exact T.ec_InUse; rcases hm with rfl | hm; exact T.ec_NoStop; rcases hm with rfl | hm; exact T.ec_Broken; subst hm; exact T.ec_NothingToUndo) (de_var 0) T.B.isinstance (de_gref rfl T.x_InvalidWish.g) (fun F v r => by cases r; rfl) (fun u r => r)) (da_cons (de_isV (Cs := [ax "InvalidName", ax "InvalidMinutes", ax "InvalidText", ax "InvalidLength", ax "InvalidStation", ax "InvalidNumber", ax "InvalidWish", ax "InvalidIndex", ax "NotBook", ax "InvalidRows", ax "InvalidKinds", ax "InvalidChanges", ax "InvalidWishes", ax "UnknownName", ax "InUse", ax "NoStop", ax "Broken", ax "NothingToUndo"]) (v := .ref (ax "InvalidIndex")) (fun C hm => by simp only [List.mem_cons, List.not_mem_nil, or_false] at hm; rcases hm with rfl | hm; exact T.ec_InvalidName; rcases hm with rfl | hm; exact T.ec_InvalidMinutes; rcases hm with rfl | hm; exact T.ec_InvalidText; rcases hm with rfl | hm; exact T.ec_InvalidLength; rcases hm with rfl | hm; exact T.ec_InvalidStation; rcases hm with rfl | hm; exact T.ec_InvalidNumber; rcases hm with rfl | hm; exact T.ec_InvalidWish; rcases hm with rfl | hm; exact T.ec_InvalidIndex; rcases hm with rfl | hm; exact T.ec_NotBook; rcases hm with rfl | hm; exact T.ec_InvalidRows; rcases hm with rfl | hm; exact T.ec_InvalidKinds; rcases hm with rfl | hm; exact T.ec_InvalidChanges; rcases hm with rfl | hm; exact T.ec_InvalidWishes; rcases hm with rfl | hm; exact T.ec_UnknownName; rcases hm with rfl | hm; exact T.ec_InUse; rcases hm with rfl | hm; exact T.ec_NoStop; rcases hm with rfl | hm; exact T.ec_Broken; subst hm; exact T.ec_NothingToUndo) (de_var 0) T.B.isinstance (de_gref rfl T.x_InvalidIndex.g) (fun F v r => by cases r; rfl) (fun u r => r)) (da_cons (de_isV (Cs := [ax "InvalidName", ax "InvalidMinutes", ax "InvalidText", ax "InvalidLength", ax "InvalidStation", ax "InvalidNumber", ax "InvalidWish", ax "InvalidIndex", ax "NotBook", ax "InvalidRows", ax "InvalidKinds", ax "InvalidChanges", ax "InvalidWishes", ax "UnknownName", ax "InUse", ax "NoStop", ax "Broken", ax "NothingToUndo"]) (v := .ref (ax "NotBook")) (fun C hm => by simp only [List.mem_cons, List.not_mem_nil, or_false] at hm; rcases hm with rfl | hm; exact T.ec_InvalidName; rcases hm with rfl | hm; exact T.ec_InvalidMinutes; rcases hm with rfl | hm; exact T.ec_InvalidText; rcases hm with rfl | hm; exact T.ec_InvalidLength; rcases hm with rfl | hm; exact T.ec_InvalidStation; rcases hm with rfl | hm; exact T.ec_InvalidNumber; rcases hm with rfl | hm; exact T.ec_InvalidWish; rcases hm with rfl | hm; exact T.ec_InvalidIndex; rcases hm with rfl | hm; exact T.ec_NotBook; rcases hm with rfl | hm; exact T.ec_InvalidRows; rcases hm with rfl | hm; exact T.ec_InvalidKinds; rcases hm with rfl | hm; exact T.ec_InvalidChanges; rcases hm with rfl | hm; exact T.ec_InvalidWishes; rcases hm with rfl | hm; exact T.ec_UnknownName; rcases hm with rfl | hm; exact T.ec_InUse; rcases hm with rfl | hm; exact T.ec_NoStop; rcases hm with rfl | hm; exact T.ec_Broken; subst hm; exact T.ec_NothingToUndo) (de_var 0) T.B.isinstance (de_gref rfl T.x_NotBook.g) (fun F v r => by cases r; rfl) (fun u r => r)) da_nil))))))
      (dss_cons (ds_set 1 hN (de_add (de_var 1) (de_lstS (da_cons (de_isV (Cs := [ax "InvalidName", ax "InvalidMinutes", ax "InvalidText", ax "InvalidLength", ax "InvalidStation", ax "InvalidNumber", ax "InvalidWish", ax "InvalidIndex", ax "NotBook", ax "InvalidRows", ax "InvalidKinds", ax "InvalidChanges", ax "InvalidWishes", ax "UnknownName", ax "InUse", ax "NoStop", ax "Broken", ax "NothingToUndo"]) (v := .ref (ax "InvalidRows")) (fun C hm => by simp only [List.mem_cons, List.not_mem_nil, or_false] at hm; rcases hm with rfl | hm; exact T.ec_InvalidName; rcases hm with rfl | hm; exact T.ec_InvalidMinutes; rcases hm with rfl | hm; exact T.ec_InvalidText; rcases hm with rfl | hm; exact T.ec_InvalidLength; rcases hm with rfl | hm; exact T.ec_InvalidStation; rcases hm with rfl | hm; exact T.ec_InvalidNumber; rcases hm with rfl | hm; exact T.ec_InvalidWish; rcases hm with rfl | hm; exact T.ec_InvalidIndex; rcases hm with rfl | hm; exact T.ec_NotBook; rcases hm with rfl | hm; exact T.ec_InvalidRows; rcases hm with rfl | hm; exact T.ec_InvalidKinds; rcases hm with rfl | hm; exact T.ec_InvalidChanges; rcases hm with rfl | hm; exact T.ec_InvalidWishes; rcases hm with rfl | hm; exact T.ec_UnknownName; rcases hm with rfl | hm; exact T.ec_InUse; rcases hm with rfl | hm; exact T.ec_NoStop; rcases hm with rfl | hm; exact T.ec_Broken; subst hm; exact T.ec_NothingToUndo) (de_var 0) T.B.isinstance (de_gref rfl T.x_InvalidRows.g) (fun F v r => by cases r; rfl) (fun u r => r)) (da_cons (de_isV (Cs := [ax "InvalidName", ax "InvalidMinutes", ax "InvalidText", ax "InvalidLength", ax "InvalidStation", ax "InvalidNumber", ax "InvalidWish", ax "InvalidIndex", ax "NotBook", ax "InvalidRows", ax "InvalidKinds", ax "InvalidChanges", ax "InvalidWishes", ax "UnknownName", ax "InUse", ax "NoStop", ax "Broken", ax "NothingToUndo"]) (v := .ref (ax "InvalidKinds")) (fun C hm => by simp only [List.mem_cons, List.not_mem_nil, or_false] at hm; rcases hm with rfl | hm; exact T.ec_InvalidName; rcases hm with rfl | hm; exact T.ec_InvalidMinutes; rcases hm with rfl | hm; exact T.ec_InvalidText; rcases hm with rfl | hm; exact T.ec_InvalidLength; rcases hm with rfl | hm; exact T.ec_InvalidStation; rcases hm with rfl | hm; exact T.ec_InvalidNumber; rcases hm with rfl | hm; exact T.ec_InvalidWish; rcases hm with rfl | hm; exact T.ec_InvalidIndex; rcases hm with rfl | hm; exact T.ec_NotBook; rcases hm with rfl | hm; exact T.ec_InvalidRows; rcases hm with rfl | hm; exact T.ec_InvalidKinds; rcases hm with rfl | hm; exact T.ec_InvalidChanges; rcases hm with rfl | hm; exact T.ec_InvalidWishes; rcases hm with rfl | hm; exact T.ec_UnknownName; rcases hm with rfl | hm; exact T.ec_InUse; rcases hm with rfl | hm; exact T.ec_NoStop; rcases hm with rfl | hm; exact T.ec_Broken; subst hm; exact T.ec_NothingToUndo) (de_var 0) T.B.isinstance (de_gref rfl T.x_InvalidKinds.g) (fun F v r => by cases r; rfl) (fun u r => r)) (da_cons (de_isV (Cs := [ax "InvalidName", ax "InvalidMinutes", ax "InvalidText", ax "InvalidLength", ax "InvalidStation", ax "InvalidNumber", ax "InvalidWish", ax "InvalidIndex", ax "NotBook", ax "InvalidRows", ax "InvalidKinds", ax "InvalidChanges", ax "InvalidWishes", ax "UnknownName", ax "InUse", ax "NoStop", ax "Broken", ax "NothingToUndo"]) (v := .ref (ax "InvalidChanges")) (fun C hm => by simp only [List.mem_cons, List.not_mem_nil, or_false] at hm; rcases hm with rfl | hm; exact T.ec_InvalidName; rcases hm with rfl | hm; exact T.ec_InvalidMinutes; rcases hm with rfl | hm; exact T.ec_InvalidText; rcases hm with rfl | hm; exact T.ec_InvalidLength; rcases hm with rfl | hm; exact T.ec_InvalidStation; rcases hm with rfl | hm; exact T.ec_InvalidNumber; rcases hm with rfl | hm; exact T.ec_InvalidWish; rcases hm with rfl | hm; exact T.ec_InvalidIndex; rcases hm with rfl | hm; exact T.ec_NotBook; rcases hm with rfl | hm; exact T.ec_InvalidRows; rcases hm with rfl | hm; exact T.ec_InvalidKinds; rcases hm with rfl | hm; exact T.ec_InvalidChanges; rcases hm with rfl | hm; exact T.ec_InvalidWishes; rcases hm with rfl | hm; exact T.ec_UnknownName; rcases hm with rfl | hm; exact T.ec_InUse; rcases hm with rfl | hm; exact T.ec_NoStop; rcases hm with rfl | hm; exact T.ec_Broken; subst hm; exact T.ec_NothingToUndo) (de_var 0) T.B.isinstance (de_gref rfl T.x_InvalidChanges.g) (fun F v r => by cases r; rfl) (fun u r => r)) da_nil))))))
      (dss_cons (ds_set 1 hN (de_add (de_var 1) (de_lstS (da_cons (de_isV (Cs := [ax "InvalidName", ax "InvalidMinutes", ax "InvalidText", ax "InvalidLength", ax "InvalidStation", ax "InvalidNumber", ax "InvalidWish", ax "InvalidIndex", ax "NotBook", ax "InvalidRows", ax "InvalidKinds", ax "InvalidChanges", ax "InvalidWishes", ax "UnknownName", ax "InUse", ax "NoStop", ax "Broken", ax "NothingToUndo"]) (v := .ref (ax "InvalidWishes")) (fun C hm => by simp only [List.mem_cons, List.not_mem_nil, or_false] at hm; rcases hm with rfl | hm; exact T.ec_InvalidName; rcases hm with rfl | hm; exact T.ec_InvalidMinutes; rcases hm with rfl | hm; exact T.ec_InvalidText; rcases hm with rfl | hm; exact T.ec_InvalidLength; rcases hm with rfl | hm; exact T.ec_InvalidStation; rcases hm with rfl | hm; exact T.ec_InvalidNumber; rcases hm with rfl | hm; exact T.ec_InvalidWish; rcases hm with rfl | hm; exact T.ec_InvalidIndex; rcases hm with rfl | hm; exact T.ec_NotBook; rcases hm with rfl | hm; exact T.ec_InvalidRows; rcases hm with rfl | hm; exact T.ec_InvalidKinds; rcases hm with rfl | hm; exact T.ec_InvalidChanges; rcases hm with rfl | hm; exact T.ec_InvalidWishes; rcases hm with rfl | hm; exact T.ec_UnknownName; rcases hm with rfl | hm; exact T.ec_InUse; rcases hm with rfl | hm; exact T.ec_NoStop; rcases hm with rfl | hm; exact T.ec_Broken; subst hm; exact T.ec_NothingToUndo) (de_var 0) T.B.isinstance (de_gref rfl T.x_InvalidWishes.g) (fun F v r => by cases r; rfl) (fun u r => r)) (da_cons (de_isV (Cs := [ax "InvalidName", ax "InvalidMinutes", ax "InvalidText", ax "InvalidLength", ax "InvalidStation", ax "InvalidNumber", ax "InvalidWish", ax "InvalidIndex", ax "NotBook", ax "InvalidRows", ax "InvalidKinds", ax "InvalidChanges", ax "InvalidWishes", ax "UnknownName", ax "InUse", ax "NoStop", ax "Broken", ax "NothingToUndo"]) (v := .ref (ax "UnknownName")) (fun C hm => by simp only [List.mem_cons, List.not_mem_nil, or_false] at hm; rcases hm with rfl | hm; exact T.ec_InvalidName; rcases hm with rfl | hm; exact T.ec_InvalidMinutes; rcases hm with rfl | hm; exact T.ec_InvalidText; rcases hm with rfl | hm; exact T.ec_InvalidLength; rcases hm with rfl | hm; exact T.ec_InvalidStation; rcases hm with rfl | hm; exact T.ec_InvalidNumber; rcases hm with rfl | hm; exact T.ec_InvalidWish; rcases hm with rfl | hm; exact T.ec_InvalidIndex; rcases hm with rfl | hm; exact T.ec_NotBook; rcases hm with rfl | hm; exact T.ec_InvalidRows; rcases hm with rfl | hm; exact T.ec_InvalidKinds; rcases hm with rfl | hm; exact T.ec_InvalidChanges; rcases hm with rfl | hm; exact T.ec_InvalidWishes; rcases hm with rfl | hm; exact T.ec_UnknownName; rcases hm with rfl | hm; exact T.ec_InUse; rcases hm with rfl | hm; exact T.ec_NoStop; rcases hm with rfl | hm; exact T.ec_Broken; subst hm; exact T.ec_NothingToUndo) (de_var 0) T.B.isinstance (de_gref rfl T.x_UnknownName.g) (fun F v r => by cases r; rfl) (fun u r => r)) (da_cons (de_isV (Cs := [ax "InvalidName", ax "InvalidMinutes", ax "InvalidText", ax "InvalidLength", ax "InvalidStation", ax "InvalidNumber", ax "InvalidWish", ax "InvalidIndex", ax "NotBook", ax "InvalidRows", ax "InvalidKinds", ax "InvalidChanges", ax "InvalidWishes", ax "UnknownName", ax "InUse", ax "NoStop", ax "Broken", ax "NothingToUndo"]) (v := .ref (ax "InUse")) (fun C hm => by simp only [List.mem_cons, List.not_mem_nil, or_false] at hm; rcases hm with rfl | hm; exact T.ec_InvalidName; rcases hm with rfl | hm; exact T.ec_InvalidMinutes; rcases hm with rfl | hm; exact T.ec_InvalidText; rcases hm with rfl | hm; exact T.ec_InvalidLength; rcases hm with rfl | hm; exact T.ec_InvalidStation; rcases hm with rfl | hm; exact T.ec_InvalidNumber; rcases hm with rfl | hm; exact T.ec_InvalidWish; rcases hm with rfl | hm; exact T.ec_InvalidIndex; rcases hm with rfl | hm; exact T.ec_NotBook; rcases hm with rfl | hm; exact T.ec_InvalidRows; rcases hm with rfl | hm; exact T.ec_InvalidKinds; rcases hm with rfl | hm; exact T.ec_InvalidChanges; rcases hm with rfl | hm; exact T.ec_InvalidWishes; rcases hm with rfl | hm; exact T.ec_UnknownName; rcases hm with rfl | hm; exact T.ec_InUse; rcases hm with rfl | hm; exact T.ec_NoStop; rcases hm with rfl | hm; exact T.ec_Broken; subst hm; exact T.ec_NothingToUndo) (de_var 0) T.B.isinstance (de_gref rfl T.x_InUse.g) (fun F v r => by cases r; rfl) (fun u r => r)) da_nil))))))
      (dss_one (ds_ret (de_add (de_var 1) (de_lstS (da_cons (de_isV (Cs := [ax "InvalidName", ax "InvalidMinutes", ax "InvalidText", ax "InvalidLength", ax "InvalidStation", ax "InvalidNumber", ax "InvalidWish", ax "InvalidIndex", ax "NotBook", ax "InvalidRows", ax "InvalidKinds", ax "InvalidChanges", ax "InvalidWishes", ax "UnknownName", ax "InUse", ax "NoStop", ax "Broken", ax "NothingToUndo"]) (v := .ref (ax "NoStop")) (fun C hm => by simp only [List.mem_cons, List.not_mem_nil, or_false] at hm; rcases hm with rfl | hm; exact T.ec_InvalidName; rcases hm with rfl | hm; exact T.ec_InvalidMinutes; rcases hm with rfl | hm; exact T.ec_InvalidText; rcases hm with rfl | hm; exact T.ec_InvalidLength; rcases hm with rfl | hm; exact T.ec_InvalidStation; rcases hm with rfl | hm; exact T.ec_InvalidNumber; rcases hm with rfl | hm; exact T.ec_InvalidWish; rcases hm with rfl | hm; exact T.ec_InvalidIndex; rcases hm with rfl | hm; exact T.ec_NotBook; rcases hm with rfl | hm; exact T.ec_InvalidRows; rcases hm with rfl | hm; exact T.ec_InvalidKinds; rcases hm with rfl | hm; exact T.ec_InvalidChanges; rcases hm with rfl | hm; exact T.ec_InvalidWishes; rcases hm with rfl | hm; exact T.ec_UnknownName; rcases hm with rfl | hm; exact T.ec_InUse; rcases hm with rfl | hm; exact T.ec_NoStop; rcases hm with rfl | hm; exact T.ec_Broken; subst hm; exact T.ec_NothingToUndo) (de_var 0) T.B.isinstance (de_gref rfl T.x_NoStop.g) (fun F v r => by cases r; rfl) (fun u r => r)) (da_cons (de_isV (Cs := [ax "InvalidName", ax "InvalidMinutes", ax "InvalidText", ax "InvalidLength", ax "InvalidStation", ax "InvalidNumber", ax "InvalidWish", ax "InvalidIndex", ax "NotBook", ax "InvalidRows", ax "InvalidKinds", ax "InvalidChanges", ax "InvalidWishes", ax "UnknownName", ax "InUse", ax "NoStop", ax "Broken", ax "NothingToUndo"]) (v := .ref (ax "NothingToUndo")) (fun C hm => by simp only [List.mem_cons, List.not_mem_nil, or_false] at hm; rcases hm with rfl | hm; exact T.ec_InvalidName; rcases hm with rfl | hm; exact T.ec_InvalidMinutes; rcases hm with rfl | hm; exact T.ec_InvalidText; rcases hm with rfl | hm; exact T.ec_InvalidLength; rcases hm with rfl | hm; exact T.ec_InvalidStation; rcases hm with rfl | hm; exact T.ec_InvalidNumber; rcases hm with rfl | hm; exact T.ec_InvalidWish; rcases hm with rfl | hm; exact T.ec_InvalidIndex; rcases hm with rfl | hm; exact T.ec_NotBook; rcases hm with rfl | hm; exact T.ec_InvalidRows; rcases hm with rfl | hm; exact T.ec_InvalidKinds; rcases hm with rfl | hm; exact T.ec_InvalidChanges; rcases hm with rfl | hm; exact T.ec_InvalidWishes; rcases hm with rfl | hm; exact T.ec_UnknownName; rcases hm with rfl | hm; exact T.ec_InUse; rcases hm with rfl | hm; exact T.ec_NoStop; rcases hm with rfl | hm; exact T.ec_Broken; subst hm; exact T.ec_NothingToUndo) (de_var 0) T.B.isinstance (de_gref rfl T.x_NothingToUndo.g) (fun F v r => by cases r; rfl) (fun u r => r)) (da_cons (de_isV (Cs := [ax "InvalidName", ax "InvalidMinutes", ax "InvalidText", ax "InvalidLength", ax "InvalidStation", ax "InvalidNumber", ax "InvalidWish", ax "InvalidIndex", ax "NotBook", ax "InvalidRows", ax "InvalidKinds", ax "InvalidChanges", ax "InvalidWishes", ax "UnknownName", ax "InUse", ax "NoStop", ax "Broken", ax "NothingToUndo"]) (v := .ref (ax "Broken")) (fun C hm => by simp only [List.mem_cons, List.not_mem_nil, or_false] at hm; rcases hm with rfl | hm; exact T.ec_InvalidName; rcases hm with rfl | hm; exact T.ec_InvalidMinutes; rcases hm with rfl | hm; exact T.ec_InvalidText; rcases hm with rfl | hm; exact T.ec_InvalidLength; rcases hm with rfl | hm; exact T.ec_InvalidStation; rcases hm with rfl | hm; exact T.ec_InvalidNumber; rcases hm with rfl | hm; exact T.ec_InvalidWish; rcases hm with rfl | hm; exact T.ec_InvalidIndex; rcases hm with rfl | hm; exact T.ec_NotBook; rcases hm with rfl | hm; exact T.ec_InvalidRows; rcases hm with rfl | hm; exact T.ec_InvalidKinds; rcases hm with rfl | hm; exact T.ec_InvalidChanges; rcases hm with rfl | hm; exact T.ec_InvalidWishes; rcases hm with rfl | hm; exact T.ec_UnknownName; rcases hm with rfl | hm; exact T.ec_InUse; rcases hm with rfl | hm; exact T.ec_NoStop; rcases hm with rfl | hm; exact T.ec_Broken; subst hm; exact T.ec_NothingToUndo) (de_var 0) T.B.isinstance (de_gref rfl T.x_Broken.g) (fun F v r => by cases r; rfl) (fun u r => r)) da_nil)))))))))))), by
    intro ds G Q h
    obtain ⟨e, rfl, a, i, th, rfl, hi, ha, q⟩ := in1 h
    have hm := eNm_in ax hi
    have hx := eDO_x ha
    conv => whnf
    refine ⟨a, _, _, rfl, hm, hx, kit_all (j := 0) T hi (by decide), ?_⟩
    conv => whnf
    refine ⟨a, _, _, rfl, hm, hx, kit_all (j := 1) T hi (by decide), ?_⟩
    conv => whnf
    refine ⟨a, _, _, rfl, hm, hx, kit_all (j := 2) T hi (by decide), ?_⟩
    conv => whnf
    refine ⟨Nat.le_trans (Nat.le_of_ble_eq_true rfl : _ ≤ 100) (by decide), ?_⟩; conv => whnf
    refine ⟨a, _, _, rfl, hm, hx, kit_all (j := 3) T hi (by decide), ?_⟩
    conv => whnf
    refine ⟨a, _, _, rfl, hm, hx, kit_all (j := 4) T hi (by decide), ?_⟩
    conv => whnf
    refine ⟨a, _, _, rfl, hm, hx, kit_all (j := 5) T hi (by decide), ?_⟩
    conv => whnf
    refine ⟨Nat.le_trans (Nat.le_of_ble_eq_true rfl : _ ≤ 100) (by decide), ?_⟩; conv => whnf
    refine ⟨Nat.le_trans (Nat.le_of_ble_eq_true rfl : _ ≤ 100) (by decide), ?_⟩; conv => whnf
    refine ⟨a, _, _, rfl, hm, hx, kit_all (j := 6) T hi (by decide), ?_⟩
    conv => whnf
    refine ⟨a, _, _, rfl, hm, hx, kit_all (j := 7) T hi (by decide), ?_⟩
    conv => whnf
    refine ⟨a, _, _, rfl, hm, hx, kit_all (j := 8) T hi (by decide), ?_⟩
    conv => whnf
    refine ⟨Nat.le_trans (Nat.le_of_ble_eq_true rfl : _ ≤ 100) (by decide), ?_⟩; conv => whnf
    refine ⟨Nat.le_trans (Nat.le_of_ble_eq_true rfl : _ ≤ 100) (by decide), ?_⟩; conv => whnf
    refine ⟨a, _, _, rfl, hm, hx, kit_all (j := 9) T hi (by decide), ?_⟩
    conv => whnf
    refine ⟨a, _, _, rfl, hm, hx, kit_all (j := 10) T hi (by decide), ?_⟩
    conv => whnf
    refine ⟨a, _, _, rfl, hm, hx, kit_all (j := 11) T hi (by decide), ?_⟩
    conv => whnf
    refine ⟨Nat.le_trans (Nat.le_of_ble_eq_true rfl : _ ≤ 100) (by decide), ?_⟩; conv => whnf
    refine ⟨Nat.le_trans (Nat.le_of_ble_eq_true rfl : _ ≤ 100) (by decide), ?_⟩; conv => whnf
    refine ⟨a, _, _, rfl, hm, hx, kit_all (j := 12) T hi (by decide), ?_⟩
    conv => whnf
    refine ⟨a, _, _, rfl, hm, hx, kit_all (j := 13) T hi (by decide), ?_⟩
    conv => whnf
    refine ⟨a, _, _, rfl, hm, hx, kit_all (j := 14) T hi (by decide), ?_⟩
    conv => whnf
    refine ⟨Nat.le_trans (Nat.le_of_ble_eq_true rfl : _ ≤ 100) (by decide), ?_⟩; conv => whnf
    refine ⟨Nat.le_trans (Nat.le_of_ble_eq_true rfl : _ ≤ 100) (by decide), ?_⟩; conv => whnf
    refine ⟨a, _, _, rfl, hm, hx, kit_all (j := 15) T hi (by decide), ?_⟩
    conv => whnf
    refine ⟨a, _, _, rfl, hm, hx, kit_all (j := 16) T hi (by decide), ?_⟩
    conv => whnf
    refine ⟨a, _, _, rfl, hm, hx, kit_all (j := 17) T hi (by decide), ?_⟩
    conv => whnf
    refine ⟨Nat.le_trans (Nat.le_of_ble_eq_true rfl : _ ≤ 100) (by decide), ?_⟩; conv => whnf
    refine ⟨Nat.le_trans (Nat.le_of_ble_eq_true rfl : _ ≤ 100) (by decide), ?_⟩; conv => whnf
    exact ret_id q⟩
def sp_law_bases (ax : Str → Addr) : Sp3 := sp1 fun e G Q _ => ∃ (a : Addr) (i : Nat) (th : D), e = .ref a ∧ i < 18 ∧ G a = some (eDO ax a i th) ∧ Q (.lst ((List.range 6).map fun j => D.bl (decide (j % 3 = grp i)))) G
theorem c_law_bases (T : Txt K mg ax) : Cal3 P w K mg base 1 "_law_bases" (sp_law_bases ax) [] := cal3 (T.d_law_bases) sc_law_bases (by decide) len1 fun f cdv A outer s H E o E3 hr tk hp => ⟨_,
    have hN := sc_law_bases.nd
    (dss_cons (ds_set 1 hN (de_lstS (da_cons (de_isV (Cs := [ax "InvalidName", ax "InvalidMinutes", ax "InvalidText", ax "InvalidLength", ax "InvalidStation", ax "InvalidNumber", ax "InvalidWish", ax "InvalidIndex", ax "NotBook", ax "InvalidRows", ax "InvalidKinds", ax "InvalidChanges", ax "InvalidWishes", ax "UnknownName", ax "InUse", ax "NoStop", ax "Broken", ax "NothingToUndo"]) (v := .ref (ax "WrongValue")) (fun C hm => by simp only [List.mem_cons, List.not_mem_nil, or_false] at hm; rcases hm with rfl | hm; exact T.ec_InvalidName; rcases hm with rfl | hm; exact T.ec_InvalidMinutes; rcases hm with rfl | hm; exact T.ec_InvalidText; rcases hm with rfl | hm; exact T.ec_InvalidLength; rcases hm with rfl | hm; exact T.ec_InvalidStation; rcases hm with rfl | hm; exact T.ec_InvalidNumber; rcases hm with rfl | hm; exact T.ec_InvalidWish; rcases hm with rfl | hm; exact T.ec_InvalidIndex; rcases hm with rfl | hm; exact T.ec_NotBook; rcases hm with rfl | hm; exact T.ec_InvalidRows; rcases hm with rfl | hm; exact T.ec_InvalidKinds; rcases hm with rfl | hm; exact T.ec_InvalidChanges; rcases hm with rfl | hm; exact T.ec_InvalidWishes; rcases hm with rfl | hm; exact T.ec_UnknownName; rcases hm with rfl | hm; exact T.ec_InUse; rcases hm with rfl | hm; exact T.ec_NoStop; rcases hm with rfl | hm; exact T.ec_Broken; subst hm; exact T.ec_NothingToUndo) (de_var 0) T.B.isinstance (de_gref rfl T.xg_WrongValue) (fun F v r => by cases r; rfl) (fun u r => r)) (da_cons (de_isV (Cs := [ax "InvalidName", ax "InvalidMinutes", ax "InvalidText", ax "InvalidLength", ax "InvalidStation", ax "InvalidNumber", ax "InvalidWish", ax "InvalidIndex", ax "NotBook", ax "InvalidRows", ax "InvalidKinds", ax "InvalidChanges", ax "InvalidWishes", ax "UnknownName", ax "InUse", ax "NoStop", ax "Broken", ax "NothingToUndo"]) (v := .ref (ax "WrongName")) (fun C hm => by simp only [List.mem_cons, List.not_mem_nil, or_false] at hm; rcases hm with rfl | hm; exact T.ec_InvalidName; rcases hm with rfl | hm; exact T.ec_InvalidMinutes; rcases hm with rfl | hm; exact T.ec_InvalidText; rcases hm with rfl | hm; exact T.ec_InvalidLength; rcases hm with rfl | hm; exact T.ec_InvalidStation; rcases hm with rfl | hm; exact T.ec_InvalidNumber; rcases hm with rfl | hm; exact T.ec_InvalidWish; rcases hm with rfl | hm; exact T.ec_InvalidIndex; rcases hm with rfl | hm; exact T.ec_NotBook; rcases hm with rfl | hm; exact T.ec_InvalidRows; rcases hm with rfl | hm; exact T.ec_InvalidKinds; rcases hm with rfl | hm; exact T.ec_InvalidChanges; rcases hm with rfl | hm; exact T.ec_InvalidWishes; rcases hm with rfl | hm; exact T.ec_UnknownName; rcases hm with rfl | hm; exact T.ec_InUse; rcases hm with rfl | hm; exact T.ec_NoStop; rcases hm with rfl | hm; exact T.ec_Broken; subst hm; exact T.ec_NothingToUndo) (de_var 0) T.B.isinstance (de_gref rfl T.xg_WrongName) (fun F v r => by cases r; rfl) (fun u r => r)) (da_cons (de_isV (Cs := [ax "InvalidName", ax "InvalidMinutes", ax "InvalidText", ax "InvalidLength", ax "InvalidStation", ax "InvalidNumber", ax "InvalidWish", ax "InvalidIndex", ax "NotBook", ax "InvalidRows", ax "InvalidKinds", ax "InvalidChanges", ax "InvalidWishes", ax "UnknownName", ax "InUse", ax "NoStop", ax "Broken", ax "NothingToUndo"]) (v := .ref (ax "NotPossible")) (fun C hm => by simp only [List.mem_cons, List.not_mem_nil, or_false] at hm; rcases hm with rfl | hm; exact T.ec_InvalidName; rcases hm with rfl | hm; exact T.ec_InvalidMinutes; rcases hm with rfl | hm; exact T.ec_InvalidText; rcases hm with rfl | hm; exact T.ec_InvalidLength; rcases hm with rfl | hm; exact T.ec_InvalidStation; rcases hm with rfl | hm; exact T.ec_InvalidNumber; rcases hm with rfl | hm; exact T.ec_InvalidWish; rcases hm with rfl | hm; exact T.ec_InvalidIndex; rcases hm with rfl | hm; exact T.ec_NotBook; rcases hm with rfl | hm; exact T.ec_InvalidRows; rcases hm with rfl | hm; exact T.ec_InvalidKinds; rcases hm with rfl | hm; exact T.ec_InvalidChanges; rcases hm with rfl | hm; exact T.ec_InvalidWishes; rcases hm with rfl | hm; exact T.ec_UnknownName; rcases hm with rfl | hm; exact T.ec_InUse; rcases hm with rfl | hm; exact T.ec_NoStop; rcases hm with rfl | hm; exact T.ec_Broken; subst hm; exact T.ec_NothingToUndo) (de_var 0) T.B.isinstance (de_gref rfl T.xg_NotPossible) (fun F v r => by cases r; rfl) (fun u r => r)) da_nil)))))
      (dss_one (ds_ret (de_add (de_var 1) (de_lstS (da_cons (de_isV (Cs := [ax "InvalidName", ax "InvalidMinutes", ax "InvalidText", ax "InvalidLength", ax "InvalidStation", ax "InvalidNumber", ax "InvalidWish", ax "InvalidIndex", ax "NotBook", ax "InvalidRows", ax "InvalidKinds", ax "InvalidChanges", ax "InvalidWishes", ax "UnknownName", ax "InUse", ax "NoStop", ax "Broken", ax "NothingToUndo"]) (v := .ty "ValueError") (fun C hm => by simp only [List.mem_cons, List.not_mem_nil, or_false] at hm; rcases hm with rfl | hm; exact T.ec_InvalidName; rcases hm with rfl | hm; exact T.ec_InvalidMinutes; rcases hm with rfl | hm; exact T.ec_InvalidText; rcases hm with rfl | hm; exact T.ec_InvalidLength; rcases hm with rfl | hm; exact T.ec_InvalidStation; rcases hm with rfl | hm; exact T.ec_InvalidNumber; rcases hm with rfl | hm; exact T.ec_InvalidWish; rcases hm with rfl | hm; exact T.ec_InvalidIndex; rcases hm with rfl | hm; exact T.ec_NotBook; rcases hm with rfl | hm; exact T.ec_InvalidRows; rcases hm with rfl | hm; exact T.ec_InvalidKinds; rcases hm with rfl | hm; exact T.ec_InvalidChanges; rcases hm with rfl | hm; exact T.ec_InvalidWishes; rcases hm with rfl | hm; exact T.ec_UnknownName; rcases hm with rfl | hm; exact T.ec_InUse; rcases hm with rfl | hm; exact T.ec_NoStop; rcases hm with rfl | hm; exact T.ec_Broken; subst hm; exact T.ec_NothingToUndo) (de_var 0) T.B.isinstance (de_ty (n := "ValueError") rfl T.bn_ValueError (by decide +kernel)) (fun F v r => by cases r; rfl) (fun u r => r)) (da_cons (de_isV (Cs := [ax "InvalidName", ax "InvalidMinutes", ax "InvalidText", ax "InvalidLength", ax "InvalidStation", ax "InvalidNumber", ax "InvalidWish", ax "InvalidIndex", ax "NotBook", ax "InvalidRows", ax "InvalidKinds", ax "InvalidChanges", ax "InvalidWishes", ax "UnknownName", ax "InUse", ax "NoStop", ax "Broken", ax "NothingToUndo"]) (v := .ty "LookupError") (fun C hm => by simp only [List.mem_cons, List.not_mem_nil, or_false] at hm; rcases hm with rfl | hm; exact T.ec_InvalidName; rcases hm with rfl | hm; exact T.ec_InvalidMinutes; rcases hm with rfl | hm; exact T.ec_InvalidText; rcases hm with rfl | hm; exact T.ec_InvalidLength; rcases hm with rfl | hm; exact T.ec_InvalidStation; rcases hm with rfl | hm; exact T.ec_InvalidNumber; rcases hm with rfl | hm; exact T.ec_InvalidWish; rcases hm with rfl | hm; exact T.ec_InvalidIndex; rcases hm with rfl | hm; exact T.ec_NotBook; rcases hm with rfl | hm; exact T.ec_InvalidRows; rcases hm with rfl | hm; exact T.ec_InvalidKinds; rcases hm with rfl | hm; exact T.ec_InvalidChanges; rcases hm with rfl | hm; exact T.ec_InvalidWishes; rcases hm with rfl | hm; exact T.ec_UnknownName; rcases hm with rfl | hm; exact T.ec_InUse; rcases hm with rfl | hm; exact T.ec_NoStop; rcases hm with rfl | hm; exact T.ec_Broken; subst hm; exact T.ec_NothingToUndo) (de_var 0) T.B.isinstance (de_ty (n := "LookupError") rfl T.bn_LookupError (by decide +kernel)) (fun F v r => by cases r; rfl) (fun u r => r)) (da_cons (de_isV (Cs := [ax "InvalidName", ax "InvalidMinutes", ax "InvalidText", ax "InvalidLength", ax "InvalidStation", ax "InvalidNumber", ax "InvalidWish", ax "InvalidIndex", ax "NotBook", ax "InvalidRows", ax "InvalidKinds", ax "InvalidChanges", ax "InvalidWishes", ax "UnknownName", ax "InUse", ax "NoStop", ax "Broken", ax "NothingToUndo"]) (v := .ty "ArithmeticError") (fun C hm => by simp only [List.mem_cons, List.not_mem_nil, or_false] at hm; rcases hm with rfl | hm; exact T.ec_InvalidName; rcases hm with rfl | hm; exact T.ec_InvalidMinutes; rcases hm with rfl | hm; exact T.ec_InvalidText; rcases hm with rfl | hm; exact T.ec_InvalidLength; rcases hm with rfl | hm; exact T.ec_InvalidStation; rcases hm with rfl | hm; exact T.ec_InvalidNumber; rcases hm with rfl | hm; exact T.ec_InvalidWish; rcases hm with rfl | hm; exact T.ec_InvalidIndex; rcases hm with rfl | hm; exact T.ec_NotBook; rcases hm with rfl | hm; exact T.ec_InvalidRows; rcases hm with rfl | hm; exact T.ec_InvalidKinds; rcases hm with rfl | hm; exact T.ec_InvalidChanges; rcases hm with rfl | hm; exact T.ec_InvalidWishes; rcases hm with rfl | hm; exact T.ec_UnknownName; rcases hm with rfl | hm; exact T.ec_InUse; rcases hm with rfl | hm; exact T.ec_NoStop; rcases hm with rfl | hm; exact T.ec_Broken; subst hm; exact T.ec_NothingToUndo) (de_var 0) T.B.isinstance (de_ty (n := "ArithmeticError") rfl T.bn_ArithmeticError (by decide +kernel)) (fun F v r => by cases r; rfl) (fun u r => r)) da_nil)))))))), by
    intro ds G Q h
    obtain ⟨e, rfl, a, i, th, rfl, hi, ha, q⟩ := in1 h
    have hm := eNm_in ax hi
    have hx := eDO_x ha
    conv => whnf
    refine ⟨a, _, _, rfl, hm, hx, bas_all (j := 0) T hi (by decide), ?_⟩
    conv => whnf
    refine ⟨a, _, _, rfl, hm, hx, bas_all (j := 1) T hi (by decide), ?_⟩
    conv => whnf
    refine ⟨a, _, _, rfl, hm, hx, bas_all (j := 2) T hi (by decide), ?_⟩
    conv => whnf
    refine ⟨Nat.le_trans (Nat.le_of_ble_eq_true rfl : _ ≤ 100) (by decide), ?_⟩; conv => whnf
    refine ⟨a, _, _, rfl, hm, hx, bas_all (j := 3) T hi (by decide), ?_⟩
    conv => whnf
    refine ⟨a, _, _, rfl, hm, hx, bas_all (j := 4) T hi (by decide), ?_⟩
    conv => whnf
    refine ⟨a, _, _, rfl, hm, hx, bas_all (j := 5) T hi (by decide), ?_⟩
    conv => whnf
    refine ⟨Nat.le_trans (Nat.le_of_ble_eq_true rfl : _ ≤ 100) (by decide), ?_⟩; conv => whnf
    refine ⟨Nat.le_trans (Nat.le_of_ble_eq_true rfl : _ ≤ 100) (by decide), ?_⟩; conv => whnf
    exact ret_id q⟩
def sp_law_is_right (ax : Str → Addr) : Sp3 := sp3 fun k th bp G Q _ => ∃ (i : Nat) (y : Bool), k = .int (i : Nat) ∧ i < 18 ∧ bp = .bl y ∧ obD th = true ∧ Q (.bl true) G
theorem bls_d (l : List Bool) : toData (.lst (l.map D.bl)) = some (.list (l.map PyData.bool)) ∧ SeqAt.shaped (.list (l.map PyData.bool)) = true ∧ PyData.eqv (.list (l.map PyData.bool)) (.list (l.map PyData.bool)) = true := by
  refine ⟨toD_lst (toDataL_map D.bl PyData.bool (fun _ => rfl) l), sh_list fun p hp => ?_, ?_⟩
  · obtain ⟨x, _, rfl⟩ := List.mem_map.mp hp
    exact ⟨rfl, Nat.zero_le _⟩
  · show PyData.eqvAll _ _ = true
    rw [L3.eqvAll_map PyData.bool L3.eqv_bool, decide_eq_true rfl]
theorem c_law_is_right (T : Txt K mg ax) : Cal3G P w K mg base 4 "_law_is_right" (sp_law_is_right ax) [] := cal3G (T.d_law_is_right) sc_law_is_right (by decide) len3 fun f cdv A outer s H E o E3 hgu hr tk hp => ⟨_,
    have hN := sc_law_is_right.nd
    (dss_cons (ds_set 3 hN (de_if (dt_cmp op_lt dc_lt (de_var 0) de_int (nomark _)) (de_call (c_law_valued T) hr tk (da_cons (de_var 0) (da_cons (de_var 1) (da_cons (de_var 2) da_nil)))) (de_call (c_law_further T) hr tk (da_cons (de_var 0) (da_cons (de_var 1) (da_cons (de_var 2) da_nil))))))
      (dss_cons (ds_set 4 hN (de_if (dt_cmp op_lt dc_lt (de_var 0) de_int (nomark _)) de_int (de_if (dt_cmp op_lt dc_lt (de_var 0) de_int (nomark _)) de_int de_int)))
      (dss_cons (ds_if (dt_cmp (op_neA hr) dc_ne (de_call (c_law_sorts T) hr tk (da_cons (de_var 3) da_nil)) (de_lc [("_law_at", 6)] rfl hN (tgt_name (i := 6) (by decide)) (di_range1 de_int T.B.range) (blkOk_by (N := N_law_is_right) (sc := (defScope s_law_is_right)) (own := [("_law_at", 6)]) (by decide +kernel)) (fun _ _ _ _ _ => (pg_name (i := 6) hN rfl (by first | exact Or.inl rfl | exact Or.inr rfl))) (fun _ _ _ _ _ => dts_nil) (fun _ _ _ _ _ => (de_cmp (op_eqA hr) dc_eq (de_var 6) (de_var 0) (nomark _)))) (nomark _)) (dss_one (ds_ret de_bl)) dss_nil)
      (dss_cons (ds_if (dt_cmp (op_neA hr) dc_ne (de_call (c_law_bases T) hr tk (da_cons (de_var 3) da_nil)) (de_lc [("_law_at", 6)] rfl hN (tgt_name (i := 6) (by decide)) (di_range1 de_int T.B.range) (blkOk_by (N := N_law_is_right) (sc := (defScope s_law_is_right)) (own := [("_law_at", 6)]) (by decide +kernel)) (fun _ _ _ _ _ => (pg_name (i := 6) hN rfl (by first | exact Or.inl rfl | exact Or.inr rfl))) (fun _ _ _ _ _ => dts_nil) (fun _ _ _ _ _ => (de_cmp (op_eqA hr) dc_eq (de_mod (de_callTy call_intA cd_int rfl T.B.int (by decide +kernel) (da_cons (de_var 6) da_nil)) de_int) (de_var 4) (nomark _)))) (nomark _)) (dss_one (ds_ret de_bl)) dss_nil)
      (dss_cons (ds_if (dt_cmp (op_eqA hr) dc_eq (de_var 0) de_int (nomark _)) (dss_one (ds_ret de_bl)) dss_nil)
      (dss_cons (ds_set 5 hN (de_if (dt_bool (dw_or (dt_cmp op_lt dc_lt (de_var 0) de_int (nomark _)) (dw_or1 (dt_cmp op_inA dc_in (de_var 0) (de_lstS (da_cons de_int (da_cons de_int da_nil))) rfl)))) (de_xV (Cs := [ax "InvalidName", ax "InvalidMinutes", ax "InvalidText", ax "InvalidLength", ax "InvalidStation", ax "InvalidNumber", ax "InvalidWish", ax "InvalidIndex", ax "NotBook", ax "UnknownName", ax "NoStop"]) (fun C hm => by simp only [List.mem_cons, List.not_mem_nil, or_false] at hm; rcases hm with rfl | hm; exact ⟨T.x_InvalidName.xf, T.x_InvalidName.no⟩; rcases hm with rfl | hm; exact ⟨T.x_InvalidMinutes.xf, T.x_InvalidMinutes.no⟩; rcases hm with rfl | hm; exact ⟨T.x_InvalidText.xf, T.x_InvalidText.no⟩; rcases hm with rfl | hm; exact ⟨T.x_InvalidLength.xf, T.x_InvalidLength.no⟩; rcases hm with rfl | hm; exact ⟨T.x_InvalidStation.xf, T.x_InvalidStation.no⟩; rcases hm with rfl | hm; exact ⟨T.x_InvalidNumber.xf, T.x_InvalidNumber.no⟩; rcases hm with rfl | hm; exact ⟨T.x_InvalidWish.xf, T.x_InvalidWish.no⟩; rcases hm with rfl | hm; exact ⟨T.x_InvalidIndex.xf, T.x_InvalidIndex.no⟩; rcases hm with rfl | hm; exact ⟨T.x_NotBook.xf, T.x_NotBook.no⟩; rcases hm with rfl | hm; exact ⟨T.x_UnknownName.xf, T.x_UnknownName.no⟩; subst hm; exact ⟨T.x_NoStop.xf, T.x_NoStop.no⟩) (de_var 3)) (de_xV (Cs := [ax "InvalidRows", ax "InvalidKinds", ax "InvalidChanges", ax "InvalidWishes", ax "InUse", ax "Broken"]) (fun C hm => by simp only [List.mem_cons, List.not_mem_nil, or_false] at hm; rcases hm with rfl | hm; exact ⟨T.x_InvalidRows.xf, T.x_InvalidRows.no⟩; rcases hm with rfl | hm; exact ⟨T.x_InvalidKinds.xf, T.x_InvalidKinds.no⟩; rcases hm with rfl | hm; exact ⟨T.x_InvalidChanges.xf, T.x_InvalidChanges.no⟩; rcases hm with rfl | hm; exact ⟨T.x_InvalidWishes.xf, T.x_InvalidWishes.no⟩; rcases hm with rfl | hm; exact ⟨T.x_InUse.xf, T.x_InUse.no⟩; subst hm; exact ⟨T.x_Broken.xf, T.x_Broken.no⟩) (de_var 3))))
      (dss_one (ds_ret (de_cmp (op_eqA hr) dc_eq (de_callB (call_reprX T.sys hgu hr) cd_reprX rfl T.B.repr (by decide +kernel) (da_cons (de_lstS (da_cons (de_var 5) da_nil)) da_nil)) (de_callB (call_reprX T.sys hgu hr) cd_reprX rfl T.B.repr (by decide +kernel) (da_cons (de_lstS (da_cons (de_var 1) da_nil)) da_nil)) (nomark _)))))))))), by
    intro ds G Q h
    obtain ⟨k, th, bp, rfl, i, y, rfl, hi, rfl, ob, q⟩ := in3 h
    obtain ⟨o1, o2, o3⟩ := ob_of ob
    have small : (1000 : Nat) < sizeLine := by decide
    obtain ⟨pd, e1, e2, e3, e4⟩ := repr_ex (d := .lst [th]) (by show (okD th && true) = true; rw [o1]; rfl) (by show wtD th + 1 + 0 ≤ 60000; omega) (by show max (dpD th) 0 + 1 ≤ 60; omega)
    rcases cs18 hi with rfl | rfl | rfl | rfl | rfl | rfl | rfl | rfl | rfl | rfl | rfl | rfl | rfl | rfl | rfl | rfl | rfl | rfl
    · conv => whnf
      refine ⟨0, y, rfl, by decide, by decide, rfl, fun a ha => ?_⟩
      have hg : gupd G a (eDO ax a 0 th) a = some (eDO ax a 0 th) := gupd_same
      conv => whnf
      refine ⟨a, 0, th, rfl, by decide, hg, ?_⟩
      conv => whnf
      refine ⟨⟨by decide, by decide⟩, ?_⟩
      conv => whnf
      refine ⟨by decide, ?_⟩
      refine swp_go _ rfl ?_
      refine lc_map (e := fun j : Nat => D.int ((0 : Int) + (j : Nat))) (fun j => D.bl (decide (j = 0))) (List.range 18) (fun j hj K' kk => ?_) ?_
      · conv => whnf
        rw [decide_eq_decide.mpr (show (0 : Int) + (j : Nat) = (0 : Nat) ↔ j = 0 by omega)]
        exact kk
      obtain ⟨b1, b2, b3⟩ := bls_d ((List.range 18).map fun j => decide (j = 0))
      rw [List.map_map] at b1
      conv => whnf
      refine ⟨_, _, b1, b1, b2, b2, ?_⟩
      rw [b3]
      conv => whnf
      refine ⟨a, 0, th, rfl, by decide, hg, ?_⟩
      conv => whnf
      refine ⟨⟨by decide, by decide⟩, ?_⟩
      conv => whnf
      refine ⟨by decide, ?_⟩
      refine swp_go _ rfl ?_
      refine lc_map (e := fun j : Nat => D.int ((0 : Int) + (j : Nat))) (fun j => D.bl (decide (j % 3 = grp 0))) (List.range 6) (fun j hj K' kk => ?_) ?_
      · conv => whnf
        refine ⟨show (0 : Int) < 3 by decide, ?_⟩
        conv => whnf
        rw [decide_eq_decide.mpr (show ((0 : Int) + (j : Nat)) % 3 = 0 ↔ j % 3 = grp 0 from (by show _ ↔ j % 3 = 0; omega))]
        exact kk
      obtain ⟨c1, c2, c3⟩ := bls_d ((List.range 6).map fun j => decide (j % 3 = grp 0))
      rw [List.map_map] at c1
      conv => whnf
      refine ⟨_, _, c1, c1, c2, c2, ?_⟩
      rw [c3]
      conv => whnf
      refine ⟨a, _, _, rfl, List.mem_cons_self, hg, ?_⟩
      conv => whnf
      refine ⟨Nat.le_trans (Nat.le_of_ble_eq_true rfl : _ ≤ 100) (by decide), ?_⟩; conv => whnf
      refine ⟨pd, e1, e2, e3, e4.1, ?_⟩
      conv => whnf
      refine ⟨Nat.le_trans (Nat.le_of_ble_eq_true rfl : _ ≤ 100) (by decide), ?_⟩; conv => whnf
      refine ⟨pd, e1, e2, e3, e4.1, ?_⟩
      conv => whnf
      rw [decide_eq_true rfl]
      exact ret_sub (Sub.new ha) q
    · conv => whnf
      refine ⟨1, y, rfl, by decide, by decide, rfl, fun a ha => ?_⟩
      have hg : gupd G a (eDO ax a 1 th) a = some (eDO ax a 1 th) := gupd_same
      conv => whnf
      refine ⟨a, 1, th, rfl, by decide, hg, ?_⟩
      conv => whnf
      refine ⟨⟨by decide, by decide⟩, ?_⟩
      conv => whnf
      refine ⟨by decide, ?_⟩
      refine swp_go _ rfl ?_
      refine lc_map (e := fun j : Nat => D.int ((0 : Int) + (j : Nat))) (fun j => D.bl (decide (j = 1))) (List.range 18) (fun j hj K' kk => ?_) ?_
      · conv => whnf
        rw [decide_eq_decide.mpr (show (0 : Int) + (j : Nat) = (1 : Nat) ↔ j = 1 by omega)]
        exact kk
      obtain ⟨b1, b2, b3⟩ := bls_d ((List.range 18).map fun j => decide (j = 1))
      rw [List.map_map] at b1
      conv => whnf
      refine ⟨_, _, b1, b1, b2, b2, ?_⟩
      rw [b3]
      conv => whnf
      refine ⟨a, 1, th, rfl, by decide, hg, ?_⟩
      conv => whnf
      refine ⟨⟨by decide, by decide⟩, ?_⟩
      conv => whnf
      refine ⟨by decide, ?_⟩
      refine swp_go _ rfl ?_
      refine lc_map (e := fun j : Nat => D.int ((0 : Int) + (j : Nat))) (fun j => D.bl (decide (j % 3 = grp 1))) (List.range 6) (fun j hj K' kk => ?_) ?_
      · conv => whnf
        refine ⟨show (0 : Int) < 3 by decide, ?_⟩
        conv => whnf
        rw [decide_eq_decide.mpr (show ((0 : Int) + (j : Nat)) % 3 = 0 ↔ j % 3 = grp 1 from (by show _ ↔ j % 3 = 0; omega))]
        exact kk
      obtain ⟨c1, c2, c3⟩ := bls_d ((List.range 6).map fun j => decide (j % 3 = grp 1))
      rw [List.map_map] at c1
      conv => whnf
      refine ⟨_, _, c1, c1, c2, c2, ?_⟩
      rw [c3]
      conv => whnf
      refine ⟨a, _, _, rfl, List.mem_cons_of_mem _ (List.mem_cons_self), hg, ?_⟩
      conv => whnf
      refine ⟨Nat.le_trans (Nat.le_of_ble_eq_true rfl : _ ≤ 100) (by decide), ?_⟩; conv => whnf
      refine ⟨pd, e1, e2, e3, e4.1, ?_⟩
      conv => whnf
      refine ⟨Nat.le_trans (Nat.le_of_ble_eq_true rfl : _ ≤ 100) (by decide), ?_⟩; conv => whnf
      refine ⟨pd, e1, e2, e3, e4.1, ?_⟩
      conv => whnf
      rw [decide_eq_true rfl]
      exact ret_sub (Sub.new ha) q
    · conv => whnf
      refine ⟨2, y, rfl, by decide, by decide, rfl, fun a ha => ?_⟩
      have hg : gupd G a (eDO ax a 2 th) a = some (eDO ax a 2 th) := gupd_same
      conv => whnf
      refine ⟨a, 2, th, rfl, by decide, hg, ?_⟩
      conv => whnf
      refine ⟨⟨by decide, by decide⟩, ?_⟩
      conv => whnf
      refine ⟨by decide, ?_⟩
      refine swp_go _ rfl ?_
      refine lc_map (e := fun j : Nat => D.int ((0 : Int) + (j : Nat))) (fun j => D.bl (decide (j = 2))) (List.range 18) (fun j hj K' kk => ?_) ?_
      · conv => whnf
        rw [decide_eq_decide.mpr (show (0 : Int) + (j : Nat) = (2 : Nat) ↔ j = 2 by omega)]
        exact kk
      obtain ⟨b1, b2, b3⟩ := bls_d ((List.range 18).map fun j => decide (j = 2))
      rw [List.map_map] at b1
      conv => whnf
      refine ⟨_, _, b1, b1, b2, b2, ?_⟩
      rw [b3]
      conv => whnf
      refine ⟨a, 2, th, rfl, by decide, hg, ?_⟩
      conv => whnf
      refine ⟨⟨by decide, by decide⟩, ?_⟩
      conv => whnf
      refine ⟨by decide, ?_⟩
      refine swp_go _ rfl ?_
      refine lc_map (e := fun j : Nat => D.int ((0 : Int) + (j : Nat))) (fun j => D.bl (decide (j % 3 = grp 2))) (List.range 6) (fun j hj K' kk => ?_) ?_
      · conv => whnf
        refine ⟨show (0 : Int) < 3 by decide, ?_⟩
        conv => whnf
        rw [decide_eq_decide.mpr (show ((0 : Int) + (j : Nat)) % 3 = 0 ↔ j % 3 = grp 2 from (by show _ ↔ j % 3 = 0; omega))]
        exact kk
      obtain ⟨c1, c2, c3⟩ := bls_d ((List.range 6).map fun j => decide (j % 3 = grp 2))
      rw [List.map_map] at c1
      conv => whnf
      refine ⟨_, _, c1, c1, c2, c2, ?_⟩
      rw [c3]
      conv => whnf
      refine ⟨a, _, _, rfl, List.mem_cons_of_mem _ (List.mem_cons_of_mem _ (List.mem_cons_self)), hg, ?_⟩
      conv => whnf
      refine ⟨Nat.le_trans (Nat.le_of_ble_eq_true rfl : _ ≤ 100) (by decide), ?_⟩; conv => whnf
      refine ⟨pd, e1, e2, e3, e4.1, ?_⟩
      conv => whnf
      refine ⟨Nat.le_trans (Nat.le_of_ble_eq_true rfl : _ ≤ 100) (by decide), ?_⟩; conv => whnf
      refine ⟨pd, e1, e2, e3, e4.1, ?_⟩
      conv => whnf
      rw [decide_eq_true rfl]
      exact ret_sub (Sub.new ha) q
    · conv => whnf
      refine ⟨3, y, rfl, by decide, by decide, rfl, fun a ha => ?_⟩
      have hg : gupd G a (eDO ax a 3 th) a = some (eDO ax a 3 th) := gupd_same
      conv => whnf
      refine ⟨a, 3, th, rfl, by decide, hg, ?_⟩
      conv => whnf
      refine ⟨⟨by decide, by decide⟩, ?_⟩
      conv => whnf
      refine ⟨by decide, ?_⟩
      refine swp_go _ rfl ?_
      refine lc_map (e := fun j : Nat => D.int ((0 : Int) + (j : Nat))) (fun j => D.bl (decide (j = 3))) (List.range 18) (fun j hj K' kk => ?_) ?_
      · conv => whnf
        rw [decide_eq_decide.mpr (show (0 : Int) + (j : Nat) = (3 : Nat) ↔ j = 3 by omega)]
        exact kk
      obtain ⟨b1, b2, b3⟩ := bls_d ((List.range 18).map fun j => decide (j = 3))
      rw [List.map_map] at b1
      conv => whnf
      refine ⟨_, _, b1, b1, b2, b2, ?_⟩
      rw [b3]
      conv => whnf
      refine ⟨a, 3, th, rfl, by decide, hg, ?_⟩
      conv => whnf
      refine ⟨⟨by decide, by decide⟩, ?_⟩
      conv => whnf
      refine ⟨by decide, ?_⟩
      refine swp_go _ rfl ?_
      refine lc_map (e := fun j : Nat => D.int ((0 : Int) + (j : Nat))) (fun j => D.bl (decide (j % 3 = grp 3))) (List.range 6) (fun j hj K' kk => ?_) ?_
      · conv => whnf
        refine ⟨show (0 : Int) < 3 by decide, ?_⟩
        conv => whnf
        rw [decide_eq_decide.mpr (show ((0 : Int) + (j : Nat)) % 3 = 0 ↔ j % 3 = grp 3 from (by show _ ↔ j % 3 = 0; omega))]
        exact kk
      obtain ⟨c1, c2, c3⟩ := bls_d ((List.range 6).map fun j => decide (j % 3 = grp 3))
      rw [List.map_map] at c1
      conv => whnf
      refine ⟨_, _, c1, c1, c2, c2, ?_⟩
      rw [c3]
      conv => whnf
      refine ⟨a, _, _, rfl, List.mem_cons_of_mem _ (List.mem_cons_of_mem _ (List.mem_cons_of_mem _ (List.mem_cons_self))), hg, ?_⟩
      conv => whnf
      refine ⟨Nat.le_trans (Nat.le_of_ble_eq_true rfl : _ ≤ 100) (by decide), ?_⟩; conv => whnf
      refine ⟨pd, e1, e2, e3, e4.1, ?_⟩
      conv => whnf
      refine ⟨Nat.le_trans (Nat.le_of_ble_eq_true rfl : _ ≤ 100) (by decide), ?_⟩; conv => whnf
      refine ⟨pd, e1, e2, e3, e4.1, ?_⟩
      conv => whnf
      rw [decide_eq_true rfl]
      exact ret_sub (Sub.new ha) q
    · conv => whnf
      refine ⟨4, y, rfl, by decide, by decide, rfl, fun a ha => ?_⟩
      have hg : gupd G a (eDO ax a 4 th) a = some (eDO ax a 4 th) := gupd_same
      conv => whnf
      refine ⟨a, 4, th, rfl, by decide, hg, ?_⟩
      conv => whnf
      refine ⟨⟨by decide, by decide⟩, ?_⟩
      conv => whnf
      refine ⟨by decide, ?_⟩
      refine swp_go _ rfl ?_
      refine lc_map (e := fun j : Nat => D.int ((0 : Int) + (j : Nat))) (fun j => D.bl (decide (j = 4))) (List.range 18) (fun j hj K' kk => ?_) ?_
      · conv => whnf
        rw [decide_eq_decide.mpr (show (0 : Int) + (j : Nat) = (4 : Nat) ↔ j = 4 by omega)]
        exact kk
      obtain ⟨b1, b2, b3⟩ := bls_d ((List.range 18).map fun j => decide (j = 4))
      rw [List.map_map] at b1
      conv => whnf
      refine ⟨_, _, b1, b1, b2, b2, ?_⟩
      rw [b3]
      conv => whnf
      refine ⟨a, 4, th, rfl, by decide, hg, ?_⟩
      conv => whnf
      refine ⟨⟨by decide, by decide⟩, ?_⟩
      conv => whnf
      refine ⟨by decide, ?_⟩
      refine swp_go _ rfl ?_
      refine lc_map (e := fun j : Nat => D.int ((0 : Int) + (j : Nat))) (fun j => D.bl (decide (j % 3 = grp 4))) (List.range 6) (fun j hj K' kk => ?_) ?_
      · conv => whnf
        refine ⟨show (0 : Int) < 3 by decide, ?_⟩
        conv => whnf
        rw [decide_eq_decide.mpr (show ((0 : Int) + (j : Nat)) % 3 = 0 ↔ j % 3 = grp 4 from (by show _ ↔ j % 3 = 0; omega))]
        exact kk
      obtain ⟨c1, c2, c3⟩ := bls_d ((List.range 6).map fun j => decide (j % 3 = grp 4))
      rw [List.map_map] at c1
      conv => whnf
      refine ⟨_, _, c1, c1, c2, c2, ?_⟩
      rw [c3]
      conv => whnf
      refine ⟨a, _, _, rfl, List.mem_cons_of_mem _ (List.mem_cons_of_mem _ (List.mem_cons_of_mem _ (List.mem_cons_of_mem _ (List.mem_cons_self)))), hg, ?_⟩
      conv => whnf
      refine ⟨Nat.le_trans (Nat.le_of_ble_eq_true rfl : _ ≤ 100) (by decide), ?_⟩; conv => whnf
      refine ⟨pd, e1, e2, e3, e4.1, ?_⟩
      conv => whnf
      refine ⟨Nat.le_trans (Nat.le_of_ble_eq_true rfl : _ ≤ 100) (by decide), ?_⟩; conv => whnf
      refine ⟨pd, e1, e2, e3, e4.1, ?_⟩
      conv => whnf
      rw [decide_eq_true rfl]
      exact ret_sub (Sub.new ha) q
    · conv => whnf
      refine ⟨5, y, rfl, by decide, by decide, rfl, fun a ha => ?_⟩
      have hg : gupd G a (eDO ax a 5 th) a = some (eDO ax a 5 th) := gupd_same
      conv => whnf
      refine ⟨a, 5, th, rfl, by decide, hg, ?_⟩
      conv => whnf
      refine ⟨⟨by decide, by decide⟩, ?_⟩
      conv => whnf
      refine ⟨by decide, ?_⟩
      refine swp_go _ rfl ?_
      refine lc_map (e := fun j : Nat => D.int ((0 : Int) + (j : Nat))) (fun j => D.bl (decide (j = 5))) (List.range 18) (fun j hj K' kk => ?_) ?_
      · conv => whnf
        rw [decide_eq_decide.mpr (show (0 : Int) + (j : Nat) = (5 : Nat) ↔ j = 5 by omega)]
        exact kk
      obtain ⟨b1, b2, b3⟩ := bls_d ((List.range 18).map fun j => decide (j = 5))
      rw [List.map_map] at b1
      conv => whnf
      refine ⟨_, _, b1, b1, b2, b2, ?_⟩
      rw [b3]
      conv => whnf
      refine ⟨a, 5, th, rfl, by decide, hg, ?_⟩
      conv => whnf
      refine ⟨⟨by decide, by decide⟩, ?_⟩
      conv => whnf
      refine ⟨by decide, ?_⟩
      refine swp_go _ rfl ?_
      refine lc_map (e := fun j : Nat => D.int ((0 : Int) + (j : Nat))) (fun j => D.bl (decide (j % 3 = grp 5))) (List.range 6) (fun j hj K' kk => ?_) ?_
      · conv => whnf
        refine ⟨show (0 : Int) < 3 by decide, ?_⟩
        conv => whnf
        rw [decide_eq_decide.mpr (show ((0 : Int) + (j : Nat)) % 3 = 0 ↔ j % 3 = grp 5 from (by show _ ↔ j % 3 = 0; omega))]
        exact kk
      obtain ⟨c1, c2, c3⟩ := bls_d ((List.range 6).map fun j => decide (j % 3 = grp 5))
      rw [List.map_map] at c1
      conv => whnf
      refine ⟨_, _, c1, c1, c2, c2, ?_⟩
      rw [c3]
      conv => whnf
      refine ⟨a, _, _, rfl, List.mem_cons_of_mem _ (List.mem_cons_of_mem _ (List.mem_cons_of_mem _ (List.mem_cons_of_mem _ (List.mem_cons_of_mem _ (List.mem_cons_self))))), hg, ?_⟩
      conv => whnf
      refine ⟨Nat.le_trans (Nat.le_of_ble_eq_true rfl : _ ≤ 100) (by decide), ?_⟩; conv => whnf
      refine ⟨pd, e1, e2, e3, e4.1, ?_⟩
      conv => whnf
      refine ⟨Nat.le_trans (Nat.le_of_ble_eq_true rfl : _ ≤ 100) (by decide), ?_⟩; conv => whnf
      refine ⟨pd, e1, e2, e3, e4.1, ?_⟩
      conv => whnf
      rw [decide_eq_true rfl]
      exact ret_sub (Sub.new ha) q
    · conv => whnf
      refine ⟨6, y, rfl, by decide, by decide, rfl, fun a ha => ?_⟩
      have hg : gupd G a (eDO ax a 6 th) a = some (eDO ax a 6 th) := gupd_same
      conv => whnf
      refine ⟨a, 6, th, rfl, by decide, hg, ?_⟩
      conv => whnf
      refine ⟨⟨by decide, by decide⟩, ?_⟩
      conv => whnf
      refine ⟨by decide, ?_⟩
      refine swp_go _ rfl ?_
      refine lc_map (e := fun j : Nat => D.int ((0 : Int) + (j : Nat))) (fun j => D.bl (decide (j = 6))) (List.range 18) (fun j hj K' kk => ?_) ?_
      · conv => whnf
        rw [decide_eq_decide.mpr (show (0 : Int) + (j : Nat) = (6 : Nat) ↔ j = 6 by omega)]
        exact kk
      obtain ⟨b1, b2, b3⟩ := bls_d ((List.range 18).map fun j => decide (j = 6))
      rw [List.map_map] at b1
      conv => whnf
      refine ⟨_, _, b1, b1, b2, b2, ?_⟩
      rw [b3]
      conv => whnf
      refine ⟨a, 6, th, rfl, by decide, hg, ?_⟩
      conv => whnf
      refine ⟨⟨by decide, by decide⟩, ?_⟩
      conv => whnf
      refine ⟨by decide, ?_⟩
      refine swp_go _ rfl ?_
      refine lc_map (e := fun j : Nat => D.int ((0 : Int) + (j : Nat))) (fun j => D.bl (decide (j % 3 = grp 6))) (List.range 6) (fun j hj K' kk => ?_) ?_
      · conv => whnf
        refine ⟨show (0 : Int) < 3 by decide, ?_⟩
        conv => whnf
        rw [decide_eq_decide.mpr (show ((0 : Int) + (j : Nat)) % 3 = 0 ↔ j % 3 = grp 6 from (by show _ ↔ j % 3 = 0; omega))]
        exact kk
      obtain ⟨c1, c2, c3⟩ := bls_d ((List.range 6).map fun j => decide (j % 3 = grp 6))
      rw [List.map_map] at c1
      conv => whnf
      refine ⟨_, _, c1, c1, c2, c2, ?_⟩
      rw [c3]
      conv => whnf
      refine ⟨a, _, _, rfl, List.mem_cons_of_mem _ (List.mem_cons_of_mem _ (List.mem_cons_of_mem _ (List.mem_cons_of_mem _ (List.mem_cons_of_mem _ (List.mem_cons_of_mem _ (List.mem_cons_self)))))), hg, ?_⟩
      conv => whnf
      refine ⟨Nat.le_trans (Nat.le_of_ble_eq_true rfl : _ ≤ 100) (by decide), ?_⟩; conv => whnf
      refine ⟨pd, e1, e2, e3, e4.1, ?_⟩
      conv => whnf
      refine ⟨Nat.le_trans (Nat.le_of_ble_eq_true rfl : _ ≤ 100) (by decide), ?_⟩; conv => whnf
      refine ⟨pd, e1, e2, e3, e4.1, ?_⟩
      conv => whnf
      rw [decide_eq_true rfl]
      exact ret_sub (Sub.new ha) q
    · conv => whnf
      refine ⟨7, y, rfl, by decide, by decide, rfl, fun a ha => ?_⟩
      have hg : gupd G a (eDO ax a 7 th) a = some (eDO ax a 7 th) := gupd_same
      conv => whnf
      refine ⟨a, 7, th, rfl, by decide, hg, ?_⟩
      conv => whnf
      refine ⟨⟨by decide, by decide⟩, ?_⟩
      conv => whnf
      refine ⟨by decide, ?_⟩
      refine swp_go _ rfl ?_
      refine lc_map (e := fun j : Nat => D.int ((0 : Int) + (j : Nat))) (fun j => D.bl (decide (j = 7))) (List.range 18) (fun j hj K' kk => ?_) ?_
      · conv => whnf
        rw [decide_eq_decide.mpr (show (0 : Int) + (j : Nat) = (7 : Nat) ↔ j = 7 by omega)]
        exact kk
      obtain ⟨b1, b2, b3⟩ := bls_d ((List.range 18).map fun j => decide (j = 7))
      rw [List.map_map] at b1
      conv => whnf
      refine ⟨_, _, b1, b1, b2, b2, ?_⟩
      rw [b3]
      conv => whnf
      refine ⟨a, 7, th, rfl, by decide, hg, ?_⟩
      conv => whnf
      refine ⟨⟨by decide, by decide⟩, ?_⟩
      conv => whnf
      refine ⟨by decide, ?_⟩
      refine swp_go _ rfl ?_
      refine lc_map (e := fun j : Nat => D.int ((0 : Int) + (j : Nat))) (fun j => D.bl (decide (j % 3 = grp 7))) (List.range 6) (fun j hj K' kk => ?_) ?_
      · conv => whnf
        refine ⟨show (0 : Int) < 3 by decide, ?_⟩
        conv => whnf
        rw [decide_eq_decide.mpr (show ((0 : Int) + (j : Nat)) % 3 = 0 ↔ j % 3 = grp 7 from (by show _ ↔ j % 3 = 0; omega))]
        exact kk
      obtain ⟨c1, c2, c3⟩ := bls_d ((List.range 6).map fun j => decide (j % 3 = grp 7))
      rw [List.map_map] at c1
      conv => whnf
      refine ⟨_, _, c1, c1, c2, c2, ?_⟩
      rw [c3]
      conv => whnf
      refine ⟨a, _, _, rfl, List.mem_cons_of_mem _ (List.mem_cons_of_mem _ (List.mem_cons_of_mem _ (List.mem_cons_of_mem _ (List.mem_cons_of_mem _ (List.mem_cons_of_mem _ (List.mem_cons_of_mem _ (List.mem_cons_self))))))), hg, ?_⟩
      conv => whnf
      refine ⟨Nat.le_trans (Nat.le_of_ble_eq_true rfl : _ ≤ 100) (by decide), ?_⟩; conv => whnf
      refine ⟨pd, e1, e2, e3, e4.1, ?_⟩
      conv => whnf
      refine ⟨Nat.le_trans (Nat.le_of_ble_eq_true rfl : _ ≤ 100) (by decide), ?_⟩; conv => whnf
      refine ⟨pd, e1, e2, e3, e4.1, ?_⟩
      conv => whnf
      rw [decide_eq_true rfl]
      exact ret_sub (Sub.new ha) q
    · conv => whnf
      refine ⟨8, y, rfl, by decide, by decide, rfl, fun a ha => ?_⟩
      have hg : gupd G a (eDO ax a 8 th) a = some (eDO ax a 8 th) := gupd_same
      conv => whnf
      refine ⟨a, 8, th, rfl, by decide, hg, ?_⟩
      conv => whnf
      refine ⟨⟨by decide, by decide⟩, ?_⟩
      conv => whnf
      refine ⟨by decide, ?_⟩
      refine swp_go _ rfl ?_
      refine lc_map (e := fun j : Nat => D.int ((0 : Int) + (j : Nat))) (fun j => D.bl (decide (j = 8))) (List.range 18) (fun j hj K' kk => ?_) ?_
      · conv => whnf
        rw [decide_eq_decide.mpr (show (0 : Int) + (j : Nat) = (8 : Nat) ↔ j = 8 by omega)]
        exact kk
      obtain ⟨b1, b2, b3⟩ := bls_d ((List.range 18).map fun j => decide (j = 8))
      rw [List.map_map] at b1
      conv => whnf
      refine ⟨_, _, b1, b1, b2, b2, ?_⟩
      rw [b3]
      conv => whnf
      refine ⟨a, 8, th, rfl, by decide, hg, ?_⟩
      conv => whnf
      refine ⟨⟨by decide, by decide⟩, ?_⟩
      conv => whnf
      refine ⟨by decide, ?_⟩
      refine swp_go _ rfl ?_
      refine lc_map (e := fun j : Nat => D.int ((0 : Int) + (j : Nat))) (fun j => D.bl (decide (j % 3 = grp 8))) (List.range 6) (fun j hj K' kk => ?_) ?_
      · conv => whnf
        refine ⟨show (0 : Int) < 3 by decide, ?_⟩
        conv => whnf
        rw [decide_eq_decide.mpr (show ((0 : Int) + (j : Nat)) % 3 = 0 ↔ j % 3 = grp 8 from (by show _ ↔ j % 3 = 0; omega))]
        exact kk
      obtain ⟨c1, c2, c3⟩ := bls_d ((List.range 6).map fun j => decide (j % 3 = grp 8))
      rw [List.map_map] at c1
      conv => whnf
      refine ⟨_, _, c1, c1, c2, c2, ?_⟩
      rw [c3]
      conv => whnf
      refine ⟨a, _, _, rfl, List.mem_cons_of_mem _ (List.mem_cons_of_mem _ (List.mem_cons_of_mem _ (List.mem_cons_of_mem _ (List.mem_cons_of_mem _ (List.mem_cons_of_mem _ (List.mem_cons_of_mem _ (List.mem_cons_of_mem _ (List.mem_cons_self)))))))), hg, ?_⟩
      conv => whnf
      refine ⟨Nat.le_trans (Nat.le_of_ble_eq_true rfl : _ ≤ 100) (by decide), ?_⟩; conv => whnf
      refine ⟨pd, e1, e2, e3, e4.1, ?_⟩
      conv => whnf
      refine ⟨Nat.le_trans (Nat.le_of_ble_eq_true rfl : _ ≤ 100) (by decide), ?_⟩; conv => whnf
      refine ⟨pd, e1, e2, e3, e4.1, ?_⟩
      conv => whnf
      rw [decide_eq_true rfl]
      exact ret_sub (Sub.new ha) q
    · conv => whnf
      refine ⟨9, y, rfl, by decide, by decide, rfl, fun a ha => ?_⟩
      have hg : gupd G a (eDO ax a 9 th) a = some (eDO ax a 9 th) := gupd_same
      conv => whnf
      refine ⟨a, 9, th, rfl, by decide, hg, ?_⟩
      conv => whnf
      refine ⟨⟨by decide, by decide⟩, ?_⟩
      conv => whnf
      refine ⟨by decide, ?_⟩
      refine swp_go _ rfl ?_
      refine lc_map (e := fun j : Nat => D.int ((0 : Int) + (j : Nat))) (fun j => D.bl (decide (j = 9))) (List.range 18) (fun j hj K' kk => ?_) ?_
      · conv => whnf
        rw [decide_eq_decide.mpr (show (0 : Int) + (j : Nat) = (9 : Nat) ↔ j = 9 by omega)]
        exact kk
      obtain ⟨b1, b2, b3⟩ := bls_d ((List.range 18).map fun j => decide (j = 9))
      rw [List.map_map] at b1
      conv => whnf
      refine ⟨_, _, b1, b1, b2, b2, ?_⟩
      rw [b3]
      conv => whnf
      refine ⟨a, 9, th, rfl, by decide, hg, ?_⟩
      conv => whnf
      refine ⟨⟨by decide, by decide⟩, ?_⟩
      conv => whnf
      refine ⟨by decide, ?_⟩
      refine swp_go _ rfl ?_
      refine lc_map (e := fun j : Nat => D.int ((0 : Int) + (j : Nat))) (fun j => D.bl (decide (j % 3 = grp 9))) (List.range 6) (fun j hj K' kk => ?_) ?_
      · conv => whnf
        refine ⟨show (0 : Int) < 3 by decide, ?_⟩
        conv => whnf
        rw [decide_eq_decide.mpr (show ((0 : Int) + (j : Nat)) % 3 = 0 ↔ j % 3 = grp 9 from (by show _ ↔ j % 3 = 0; omega))]
        exact kk
      obtain ⟨c1, c2, c3⟩ := bls_d ((List.range 6).map fun j => decide (j % 3 = grp 9))
      rw [List.map_map] at c1
      conv => whnf
      refine ⟨_, _, c1, c1, c2, c2, ?_⟩
      rw [c3]
      conv => whnf
      refine ⟨Nat.le_trans (Nat.le_of_ble_eq_true rfl : _ ≤ 100) (by decide), ?_⟩; conv => whnf
      refine ⟨_, _, rfl, rfl, ?_⟩
      conv => whnf
      refine ⟨a, _, _, rfl, List.mem_cons_self, hg, ?_⟩
      conv => whnf
      refine ⟨Nat.le_trans (Nat.le_of_ble_eq_true rfl : _ ≤ 100) (by decide), ?_⟩; conv => whnf
      refine ⟨pd, e1, e2, e3, e4.1, ?_⟩
      conv => whnf
      refine ⟨Nat.le_trans (Nat.le_of_ble_eq_true rfl : _ ≤ 100) (by decide), ?_⟩; conv => whnf
      refine ⟨pd, e1, e2, e3, e4.1, ?_⟩
      conv => whnf
      rw [decide_eq_true rfl]
      exact ret_sub (Sub.new ha) q
    · conv => whnf
      refine ⟨10, y, rfl, by decide, by decide, rfl, fun a ha => ?_⟩
      have hg : gupd G a (eDO ax a 10 th) a = some (eDO ax a 10 th) := gupd_same
      conv => whnf
      refine ⟨a, 10, th, rfl, by decide, hg, ?_⟩
      conv => whnf
      refine ⟨⟨by decide, by decide⟩, ?_⟩
      conv => whnf
      refine ⟨by decide, ?_⟩
      refine swp_go _ rfl ?_
      refine lc_map (e := fun j : Nat => D.int ((0 : Int) + (j : Nat))) (fun j => D.bl (decide (j = 10))) (List.range 18) (fun j hj K' kk => ?_) ?_
      · conv => whnf
        rw [decide_eq_decide.mpr (show (0 : Int) + (j : Nat) = (10 : Nat) ↔ j = 10 by omega)]
        exact kk
      obtain ⟨b1, b2, b3⟩ := bls_d ((List.range 18).map fun j => decide (j = 10))
      rw [List.map_map] at b1
      conv => whnf
      refine ⟨_, _, b1, b1, b2, b2, ?_⟩
      rw [b3]
      conv => whnf
      refine ⟨a, 10, th, rfl, by decide, hg, ?_⟩
      conv => whnf
      refine ⟨⟨by decide, by decide⟩, ?_⟩
      conv => whnf
      refine ⟨by decide, ?_⟩
      refine swp_go _ rfl ?_
      refine lc_map (e := fun j : Nat => D.int ((0 : Int) + (j : Nat))) (fun j => D.bl (decide (j % 3 = grp 10))) (List.range 6) (fun j hj K' kk => ?_) ?_
      · conv => whnf
        refine ⟨show (0 : Int) < 3 by decide, ?_⟩
        conv => whnf
        rw [decide_eq_decide.mpr (show ((0 : Int) + (j : Nat)) % 3 = 0 ↔ j % 3 = grp 10 from (by show _ ↔ j % 3 = 0; omega))]
        exact kk
      obtain ⟨c1, c2, c3⟩ := bls_d ((List.range 6).map fun j => decide (j % 3 = grp 10))
      rw [List.map_map] at c1
      conv => whnf
      refine ⟨_, _, c1, c1, c2, c2, ?_⟩
      rw [c3]
      conv => whnf
      refine ⟨Nat.le_trans (Nat.le_of_ble_eq_true rfl : _ ≤ 100) (by decide), ?_⟩; conv => whnf
      refine ⟨_, _, rfl, rfl, ?_⟩
      conv => whnf
      refine ⟨a, _, _, rfl, List.mem_cons_of_mem _ (List.mem_cons_self), hg, ?_⟩
      conv => whnf
      refine ⟨Nat.le_trans (Nat.le_of_ble_eq_true rfl : _ ≤ 100) (by decide), ?_⟩; conv => whnf
      refine ⟨pd, e1, e2, e3, e4.1, ?_⟩
      conv => whnf
      refine ⟨Nat.le_trans (Nat.le_of_ble_eq_true rfl : _ ≤ 100) (by decide), ?_⟩; conv => whnf
      refine ⟨pd, e1, e2, e3, e4.1, ?_⟩
      conv => whnf
      rw [decide_eq_true rfl]
      exact ret_sub (Sub.new ha) q
    · conv => whnf
      refine ⟨11, y, rfl, by decide, by decide, rfl, fun a ha => ?_⟩
      have hg : gupd G a (eDO ax a 11 th) a = some (eDO ax a 11 th) := gupd_same
      conv => whnf
      refine ⟨a, 11, th, rfl, by decide, hg, ?_⟩
      conv => whnf
      refine ⟨⟨by decide, by decide⟩, ?_⟩
      conv => whnf
      refine ⟨by decide, ?_⟩
      refine swp_go _ rfl ?_
      refine lc_map (e := fun j : Nat => D.int ((0 : Int) + (j : Nat))) (fun j => D.bl (decide (j = 11))) (List.range 18) (fun j hj K' kk => ?_) ?_
      · conv => whnf
        rw [decide_eq_decide.mpr (show (0 : Int) + (j : Nat) = (11 : Nat) ↔ j = 11 by omega)]
        exact kk
      obtain ⟨b1, b2, b3⟩ := bls_d ((List.range 18).map fun j => decide (j = 11))
      rw [List.map_map] at b1
      conv => whnf
      refine ⟨_, _, b1, b1, b2, b2, ?_⟩
      rw [b3]
      conv => whnf
      refine ⟨a, 11, th, rfl, by decide, hg, ?_⟩
      conv => whnf
      refine ⟨⟨by decide, by decide⟩, ?_⟩
      conv => whnf
      refine ⟨by decide, ?_⟩
      refine swp_go _ rfl ?_
      refine lc_map (e := fun j : Nat => D.int ((0 : Int) + (j : Nat))) (fun j => D.bl (decide (j % 3 = grp 11))) (List.range 6) (fun j hj K' kk => ?_) ?_
      · conv => whnf
        refine ⟨show (0 : Int) < 3 by decide, ?_⟩
        conv => whnf
        rw [decide_eq_decide.mpr (show ((0 : Int) + (j : Nat)) % 3 = 0 ↔ j % 3 = grp 11 from (by show _ ↔ j % 3 = 0; omega))]
        exact kk
      obtain ⟨c1, c2, c3⟩ := bls_d ((List.range 6).map fun j => decide (j % 3 = grp 11))
      rw [List.map_map] at c1
      conv => whnf
      refine ⟨_, _, c1, c1, c2, c2, ?_⟩
      rw [c3]
      conv => whnf
      refine ⟨Nat.le_trans (Nat.le_of_ble_eq_true rfl : _ ≤ 100) (by decide), ?_⟩; conv => whnf
      refine ⟨_, _, rfl, rfl, ?_⟩
      conv => whnf
      refine ⟨a, _, _, rfl, List.mem_cons_of_mem _ (List.mem_cons_of_mem _ (List.mem_cons_self)), hg, ?_⟩
      conv => whnf
      refine ⟨Nat.le_trans (Nat.le_of_ble_eq_true rfl : _ ≤ 100) (by decide), ?_⟩; conv => whnf
      refine ⟨pd, e1, e2, e3, e4.1, ?_⟩
      conv => whnf
      refine ⟨Nat.le_trans (Nat.le_of_ble_eq_true rfl : _ ≤ 100) (by decide), ?_⟩; conv => whnf
      refine ⟨pd, e1, e2, e3, e4.1, ?_⟩
      conv => whnf
      rw [decide_eq_true rfl]
      exact ret_sub (Sub.new ha) q
    · conv => whnf
      refine ⟨12, y, rfl, by decide, by decide, rfl, fun a ha => ?_⟩
      have hg : gupd G a (eDO ax a 12 th) a = some (eDO ax a 12 th) := gupd_same
      conv => whnf
      refine ⟨a, 12, th, rfl, by decide, hg, ?_⟩
      conv => whnf
      refine ⟨⟨by decide, by decide⟩, ?_⟩
      conv => whnf
      refine ⟨by decide, ?_⟩
      refine swp_go _ rfl ?_
      refine lc_map (e := fun j : Nat => D.int ((0 : Int) + (j : Nat))) (fun j => D.bl (decide (j = 12))) (List.range 18) (fun j hj K' kk => ?_) ?_
      · conv => whnf
        rw [decide_eq_decide.mpr (show (0 : Int) + (j : Nat) = (12 : Nat) ↔ j = 12 by omega)]
        exact kk
      obtain ⟨b1, b2, b3⟩ := bls_d ((List.range 18).map fun j => decide (j = 12))
      rw [List.map_map] at b1
      conv => whnf
      refine ⟨_, _, b1, b1, b2, b2, ?_⟩
      rw [b3]
      conv => whnf
      refine ⟨a, 12, th, rfl, by decide, hg, ?_⟩
      conv => whnf
      refine ⟨⟨by decide, by decide⟩, ?_⟩
      conv => whnf
      refine ⟨by decide, ?_⟩
      refine swp_go _ rfl ?_
      refine lc_map (e := fun j : Nat => D.int ((0 : Int) + (j : Nat))) (fun j => D.bl (decide (j % 3 = grp 12))) (List.range 6) (fun j hj K' kk => ?_) ?_
      · conv => whnf
        refine ⟨show (0 : Int) < 3 by decide, ?_⟩
        conv => whnf
        rw [decide_eq_decide.mpr (show ((0 : Int) + (j : Nat)) % 3 = 0 ↔ j % 3 = grp 12 from (by show _ ↔ j % 3 = 0; omega))]
        exact kk
      obtain ⟨c1, c2, c3⟩ := bls_d ((List.range 6).map fun j => decide (j % 3 = grp 12))
      rw [List.map_map] at c1
      conv => whnf
      refine ⟨_, _, c1, c1, c2, c2, ?_⟩
      rw [c3]
      conv => whnf
      refine ⟨Nat.le_trans (Nat.le_of_ble_eq_true rfl : _ ≤ 100) (by decide), ?_⟩; conv => whnf
      refine ⟨_, _, rfl, rfl, ?_⟩
      conv => whnf
      refine ⟨a, _, _, rfl, List.mem_cons_of_mem _ (List.mem_cons_of_mem _ (List.mem_cons_of_mem _ (List.mem_cons_self))), hg, ?_⟩
      conv => whnf
      refine ⟨Nat.le_trans (Nat.le_of_ble_eq_true rfl : _ ≤ 100) (by decide), ?_⟩; conv => whnf
      refine ⟨pd, e1, e2, e3, e4.1, ?_⟩
      conv => whnf
      refine ⟨Nat.le_trans (Nat.le_of_ble_eq_true rfl : _ ≤ 100) (by decide), ?_⟩; conv => whnf
      refine ⟨pd, e1, e2, e3, e4.1, ?_⟩
      conv => whnf
      rw [decide_eq_true rfl]
      exact ret_sub (Sub.new ha) q
    · conv => whnf
      refine ⟨13, y, rfl, by decide, by decide, rfl, fun a ha => ?_⟩
      have hg : gupd G a (eDO ax a 13 th) a = some (eDO ax a 13 th) := gupd_same
      conv => whnf
      refine ⟨a, 13, th, rfl, by decide, hg, ?_⟩
      conv => whnf
      refine ⟨⟨by decide, by decide⟩, ?_⟩
      conv => whnf
      refine ⟨by decide, ?_⟩
      refine swp_go _ rfl ?_
      refine lc_map (e := fun j : Nat => D.int ((0 : Int) + (j : Nat))) (fun j => D.bl (decide (j = 13))) (List.range 18) (fun j hj K' kk => ?_) ?_
      · conv => whnf
        rw [decide_eq_decide.mpr (show (0 : Int) + (j : Nat) = (13 : Nat) ↔ j = 13 by omega)]
        exact kk
      obtain ⟨b1, b2, b3⟩ := bls_d ((List.range 18).map fun j => decide (j = 13))
      rw [List.map_map] at b1
      conv => whnf
      refine ⟨_, _, b1, b1, b2, b2, ?_⟩
      rw [b3]
      conv => whnf
      refine ⟨a, 13, th, rfl, by decide, hg, ?_⟩
      conv => whnf
      refine ⟨⟨by decide, by decide⟩, ?_⟩
      conv => whnf
      refine ⟨by decide, ?_⟩
      refine swp_go _ rfl ?_
      refine lc_map (e := fun j : Nat => D.int ((0 : Int) + (j : Nat))) (fun j => D.bl (decide (j % 3 = grp 13))) (List.range 6) (fun j hj K' kk => ?_) ?_
      · conv => whnf
        refine ⟨show (0 : Int) < 3 by decide, ?_⟩
        conv => whnf
        rw [decide_eq_decide.mpr (show ((0 : Int) + (j : Nat)) % 3 = 1 ↔ j % 3 = grp 13 from (by show _ ↔ j % 3 = 1; omega))]
        exact kk
      obtain ⟨c1, c2, c3⟩ := bls_d ((List.range 6).map fun j => decide (j % 3 = grp 13))
      rw [List.map_map] at c1
      conv => whnf
      refine ⟨_, _, c1, c1, c2, c2, ?_⟩
      rw [c3]
      conv => whnf
      refine ⟨Nat.le_trans (Nat.le_of_ble_eq_true rfl : _ ≤ 100) (by decide), ?_⟩; conv => whnf
      refine ⟨_, _, rfl, rfl, ?_⟩
      conv => whnf
      refine ⟨a, _, _, rfl, List.mem_cons_of_mem _ (List.mem_cons_of_mem _ (List.mem_cons_of_mem _ (List.mem_cons_of_mem _ (List.mem_cons_of_mem _ (List.mem_cons_of_mem _ (List.mem_cons_of_mem _ (List.mem_cons_of_mem _ (List.mem_cons_of_mem _ (List.mem_cons_self))))))))), hg, ?_⟩
      conv => whnf
      refine ⟨Nat.le_trans (Nat.le_of_ble_eq_true rfl : _ ≤ 100) (by decide), ?_⟩; conv => whnf
      refine ⟨pd, e1, e2, e3, e4.1, ?_⟩
      conv => whnf
      refine ⟨Nat.le_trans (Nat.le_of_ble_eq_true rfl : _ ≤ 100) (by decide), ?_⟩; conv => whnf
      refine ⟨pd, e1, e2, e3, e4.1, ?_⟩
      conv => whnf
      rw [decide_eq_true rfl]
      exact ret_sub (Sub.new ha) q
    · conv => whnf
      refine ⟨14, y, rfl, by decide, by decide, rfl, fun a ha => ?_⟩
      have hg : gupd G a (eDO ax a 14 th) a = some (eDO ax a 14 th) := gupd_same
      conv => whnf
      refine ⟨a, 14, th, rfl, by decide, hg, ?_⟩
      conv => whnf
      refine ⟨⟨by decide, by decide⟩, ?_⟩
      conv => whnf
      refine ⟨by decide, ?_⟩
      refine swp_go _ rfl ?_
      refine lc_map (e := fun j : Nat => D.int ((0 : Int) + (j : Nat))) (fun j => D.bl (decide (j = 14))) (List.range 18) (fun j hj K' kk => ?_) ?_
      · conv => whnf
        rw [decide_eq_decide.mpr (show (0 : Int) + (j : Nat) = (14 : Nat) ↔ j = 14 by omega)]
        exact kk
      obtain ⟨b1, b2, b3⟩ := bls_d ((List.range 18).map fun j => decide (j = 14))
      rw [List.map_map] at b1
      conv => whnf
      refine ⟨_, _, b1, b1, b2, b2, ?_⟩
      rw [b3]
      conv => whnf
      refine ⟨a, 14, th, rfl, by decide, hg, ?_⟩
      conv => whnf
      refine ⟨⟨by decide, by decide⟩, ?_⟩
      conv => whnf
      refine ⟨by decide, ?_⟩
      refine swp_go _ rfl ?_
      refine lc_map (e := fun j : Nat => D.int ((0 : Int) + (j : Nat))) (fun j => D.bl (decide (j % 3 = grp 14))) (List.range 6) (fun j hj K' kk => ?_) ?_
      · conv => whnf
        refine ⟨show (0 : Int) < 3 by decide, ?_⟩
        conv => whnf
        rw [decide_eq_decide.mpr (show ((0 : Int) + (j : Nat)) % 3 = 1 ↔ j % 3 = grp 14 from (by show _ ↔ j % 3 = 1; omega))]
        exact kk
      obtain ⟨c1, c2, c3⟩ := bls_d ((List.range 6).map fun j => decide (j % 3 = grp 14))
      rw [List.map_map] at c1
      conv => whnf
      refine ⟨_, _, c1, c1, c2, c2, ?_⟩
      rw [c3]
      conv => whnf
      refine ⟨Nat.le_trans (Nat.le_of_ble_eq_true rfl : _ ≤ 100) (by decide), ?_⟩; conv => whnf
      refine ⟨_, _, rfl, rfl, ?_⟩
      conv => whnf
      refine ⟨a, _, _, rfl, List.mem_cons_of_mem _ (List.mem_cons_of_mem _ (List.mem_cons_of_mem _ (List.mem_cons_of_mem _ (List.mem_cons_self)))), hg, ?_⟩
      conv => whnf
      refine ⟨Nat.le_trans (Nat.le_of_ble_eq_true rfl : _ ≤ 100) (by decide), ?_⟩; conv => whnf
      refine ⟨pd, e1, e2, e3, e4.1, ?_⟩
      conv => whnf
      refine ⟨Nat.le_trans (Nat.le_of_ble_eq_true rfl : _ ≤ 100) (by decide), ?_⟩; conv => whnf
      refine ⟨pd, e1, e2, e3, e4.1, ?_⟩
      conv => whnf
      rw [decide_eq_true rfl]
      exact ret_sub (Sub.new ha) q
    · conv => whnf
      refine ⟨15, y, rfl, by decide, by decide, rfl, fun a ha => ?_⟩
      have hg : gupd G a (eDO ax a 15 th) a = some (eDO ax a 15 th) := gupd_same
      conv => whnf
      refine ⟨a, 15, th, rfl, by decide, hg, ?_⟩
      conv => whnf
      refine ⟨⟨by decide, by decide⟩, ?_⟩
      conv => whnf
      refine ⟨by decide, ?_⟩
      refine swp_go _ rfl ?_
      refine lc_map (e := fun j : Nat => D.int ((0 : Int) + (j : Nat))) (fun j => D.bl (decide (j = 15))) (List.range 18) (fun j hj K' kk => ?_) ?_
      · conv => whnf
        rw [decide_eq_decide.mpr (show (0 : Int) + (j : Nat) = (15 : Nat) ↔ j = 15 by omega)]
        exact kk
      obtain ⟨b1, b2, b3⟩ := bls_d ((List.range 18).map fun j => decide (j = 15))
      rw [List.map_map] at b1
      conv => whnf
      refine ⟨_, _, b1, b1, b2, b2, ?_⟩
      rw [b3]
      conv => whnf
      refine ⟨a, 15, th, rfl, by decide, hg, ?_⟩
      conv => whnf
      refine ⟨⟨by decide, by decide⟩, ?_⟩
      conv => whnf
      refine ⟨by decide, ?_⟩
      refine swp_go _ rfl ?_
      refine lc_map (e := fun j : Nat => D.int ((0 : Int) + (j : Nat))) (fun j => D.bl (decide (j % 3 = grp 15))) (List.range 6) (fun j hj K' kk => ?_) ?_
      · conv => whnf
        refine ⟨show (0 : Int) < 3 by decide, ?_⟩
        conv => whnf
        rw [decide_eq_decide.mpr (show ((0 : Int) + (j : Nat)) % 3 = 2 ↔ j % 3 = grp 15 from (by show _ ↔ j % 3 = 2; omega))]
        exact kk
      obtain ⟨c1, c2, c3⟩ := bls_d ((List.range 6).map fun j => decide (j % 3 = grp 15))
      rw [List.map_map] at c1
      conv => whnf
      refine ⟨_, _, c1, c1, c2, c2, ?_⟩
      rw [c3]
      conv => whnf
      refine ⟨Nat.le_trans (Nat.le_of_ble_eq_true rfl : _ ≤ 100) (by decide), ?_⟩; conv => whnf
      refine ⟨_, _, rfl, rfl, ?_⟩
      conv => whnf
      refine ⟨a, _, _, rfl, List.mem_cons_of_mem _ (List.mem_cons_of_mem _ (List.mem_cons_of_mem _ (List.mem_cons_of_mem _ (List.mem_cons_of_mem _ (List.mem_cons_of_mem _ (List.mem_cons_of_mem _ (List.mem_cons_of_mem _ (List.mem_cons_of_mem _ (List.mem_cons_of_mem _ (List.mem_cons_self)))))))))), hg, ?_⟩
      conv => whnf
      refine ⟨Nat.le_trans (Nat.le_of_ble_eq_true rfl : _ ≤ 100) (by decide), ?_⟩; conv => whnf
      refine ⟨pd, e1, e2, e3, e4.1, ?_⟩
      conv => whnf
      refine ⟨Nat.le_trans (Nat.le_of_ble_eq_true rfl : _ ≤ 100) (by decide), ?_⟩; conv => whnf
      refine ⟨pd, e1, e2, e3, e4.1, ?_⟩
      conv => whnf
      rw [decide_eq_true rfl]
      exact ret_sub (Sub.new ha) q
    · conv => whnf
      refine ⟨16, y, rfl, by decide, by decide, rfl, fun a ha => ?_⟩
      have hg : gupd G a (eDO ax a 16 th) a = some (eDO ax a 16 th) := gupd_same
      conv => whnf
      refine ⟨a, 16, th, rfl, by decide, hg, ?_⟩
      conv => whnf
      refine ⟨⟨by decide, by decide⟩, ?_⟩
      conv => whnf
      refine ⟨by decide, ?_⟩
      refine swp_go _ rfl ?_
      refine lc_map (e := fun j : Nat => D.int ((0 : Int) + (j : Nat))) (fun j => D.bl (decide (j = 16))) (List.range 18) (fun j hj K' kk => ?_) ?_
      · conv => whnf
        rw [decide_eq_decide.mpr (show (0 : Int) + (j : Nat) = (16 : Nat) ↔ j = 16 by omega)]
        exact kk
      obtain ⟨b1, b2, b3⟩ := bls_d ((List.range 18).map fun j => decide (j = 16))
      rw [List.map_map] at b1
      conv => whnf
      refine ⟨_, _, b1, b1, b2, b2, ?_⟩
      rw [b3]
      conv => whnf
      refine ⟨a, 16, th, rfl, by decide, hg, ?_⟩
      conv => whnf
      refine ⟨⟨by decide, by decide⟩, ?_⟩
      conv => whnf
      refine ⟨by decide, ?_⟩
      refine swp_go _ rfl ?_
      refine lc_map (e := fun j : Nat => D.int ((0 : Int) + (j : Nat))) (fun j => D.bl (decide (j % 3 = grp 16))) (List.range 6) (fun j hj K' kk => ?_) ?_
      · conv => whnf
        refine ⟨show (0 : Int) < 3 by decide, ?_⟩
        conv => whnf
        rw [decide_eq_decide.mpr (show ((0 : Int) + (j : Nat)) % 3 = 2 ↔ j % 3 = grp 16 from (by show _ ↔ j % 3 = 2; omega))]
        exact kk
      obtain ⟨c1, c2, c3⟩ := bls_d ((List.range 6).map fun j => decide (j % 3 = grp 16))
      rw [List.map_map] at c1
      conv => whnf
      refine ⟨_, _, c1, c1, c2, c2, ?_⟩
      rw [c3]
      conv => whnf
      exact ret_sub (Sub.new ha) q
    · conv => whnf
      refine ⟨17, y, rfl, by decide, by decide, rfl, fun a ha => ?_⟩
      have hg : gupd G a (eDO ax a 17 th) a = some (eDO ax a 17 th) := gupd_same
      conv => whnf
      refine ⟨a, 17, th, rfl, by decide, hg, ?_⟩
      conv => whnf
      refine ⟨⟨by decide, by decide⟩, ?_⟩
      conv => whnf
      refine ⟨by decide, ?_⟩
      refine swp_go _ rfl ?_
      refine lc_map (e := fun j : Nat => D.int ((0 : Int) + (j : Nat))) (fun j => D.bl (decide (j = 17))) (List.range 18) (fun j hj K' kk => ?_) ?_
      · conv => whnf
        rw [decide_eq_decide.mpr (show (0 : Int) + (j : Nat) = (17 : Nat) ↔ j = 17 by omega)]
        exact kk
      obtain ⟨b1, b2, b3⟩ := bls_d ((List.range 18).map fun j => decide (j = 17))
      rw [List.map_map] at b1
      conv => whnf
      refine ⟨_, _, b1, b1, b2, b2, ?_⟩
      rw [b3]
      conv => whnf
      refine ⟨a, 17, th, rfl, by decide, hg, ?_⟩
      conv => whnf
      refine ⟨⟨by decide, by decide⟩, ?_⟩
      conv => whnf
      refine ⟨by decide, ?_⟩
      refine swp_go _ rfl ?_
      refine lc_map (e := fun j : Nat => D.int ((0 : Int) + (j : Nat))) (fun j => D.bl (decide (j % 3 = grp 17))) (List.range 6) (fun j hj K' kk => ?_) ?_
      · conv => whnf
        refine ⟨show (0 : Int) < 3 by decide, ?_⟩
        conv => whnf
        rw [decide_eq_decide.mpr (show ((0 : Int) + (j : Nat)) % 3 = 2 ↔ j % 3 = grp 17 from (by show _ ↔ j % 3 = 2; omega))]
        exact kk
      obtain ⟨c1, c2, c3⟩ := bls_d ((List.range 6).map fun j => decide (j % 3 = grp 17))
      rw [List.map_map] at c1
      conv => whnf
      refine ⟨_, _, c1, c1, c2, c2, ?_⟩
      rw [c3]
      conv => whnf
      refine ⟨Nat.le_trans (Nat.le_of_ble_eq_true rfl : _ ≤ 100) (by decide), ?_⟩; conv => whnf
      refine ⟨_, _, rfl, rfl, ?_⟩
      conv => whnf
      refine ⟨a, _, _, rfl, List.mem_cons_of_mem _ (List.mem_cons_of_mem _ (List.mem_cons_of_mem _ (List.mem_cons_of_mem _ (List.mem_cons_of_mem _ (List.mem_cons_self))))), hg, ?_⟩
      conv => whnf
      refine ⟨Nat.le_trans (Nat.le_of_ble_eq_true rfl : _ ≤ 100) (by decide), ?_⟩; conv => whnf
      refine ⟨pd, e1, e2, e3, e4.1, ?_⟩
      conv => whnf
      refine ⟨Nat.le_trans (Nat.le_of_ble_eq_true rfl : _ ≤ 100) (by decide), ?_⟩; conv => whnf
      refine ⟨pd, e1, e2, e3, e4.1, ?_⟩
      conv => whnf
      rw [decide_eq_true rfl]
      exact ret_sub (Sub.new ha) q⟩
def sp_law_right (ax : Str → Addr) : Sp3 := sp1 fun v G Q _ => ∃ p G0, v = .ref p ∧ PoolG G p ∧ L3.Sub G0 G ∧ Q (.bl true) G0
theorem c_law_right (T : Txt K mg ax) : Cal3G P w K mg base 5 "_law_right" (sp_law_right ax) [] := cal3G (T.d_law_right) sc_law_right (by decide) len1 fun f cdv A outer s H E o E3 hgu hr tk hp => ⟨_,
    have hN := sc_law_right.nd
    (dss_cons (ds_for rfl hp (di_range1 de_int T.B.range) (dg_name 1 hN) (dss_cons (ds_set 2 hN (de_call (c_law_odd T) hr tk (da_cons (de_var 0) da_nil)))
      (dss_one (ds_if (dt_bool (dw_or (dt_not (dt_val (de_callG (c_law_is_right T) hgu hr tk (da_cons (de_var 1) (da_cons (de_var 2) (da_cons de_bl da_nil)))))) (dw_or1 (dt_not (dt_val (de_callG (c_law_is_right T) hgu hr tk (da_cons (de_var 1) (da_cons (de_var 2) (da_cons de_bl da_nil))))))))) (dss_one (ds_ret de_bl)) dss_nil))))
      (dss_one (ds_ret de_bl))), by
    intro ds G Q h
    obtain ⟨v, rfl, p, G0, rfl, pg, sb, q⟩ := in1 h
    conv => whnf
    refine ⟨⟨by decide, by decide⟩, ?_⟩
    conv => whnf
    have eR : intsD 0 (18 : Int).toNat = (List.range 18).map fun p : Nat => D.int (p : Nat) := by
      show (List.range 18).map _ = _
      exact List.map_congr_left fun p _ => by rw [Int.zero_add]
    rw [eR]
    refine for_inv (e := fun p : Nat => D.int (p : Nat)) (fun ss sd G' => ∃ (y1 y2 : Option D), G' = G ∧ (∀ j ∈ ss, j < 18) ∧ sd = [some (.ref p), y1, y2]) ?_ ?_ (List.range 18) _ _ ⟨_, _, rfl, fun j hj => List.mem_range.mp hj, rfl⟩
    · rintro sd G' ⟨y1, y2, rfl, _, rfl⟩
      conv => whnf
      exact ret_sub sb q
    · rintro j ss sd G' ⟨y1, y2, rfl, hj, rfl⟩ N hN
      have j18 := hj j List.mem_cons_self
      conv => whnf
      refine ⟨p, rfl, pg, fun th ob => ?_⟩
      conv => whnf
      refine ⟨j, true, rfl, j18, rfl, ob, ?_⟩
      conv => whnf
      refine ⟨j, false, rfl, j18, rfl, ob, ?_⟩
      conv => whnf
      exact hN _ _ ⟨_, _, rfl, fun k hk => hj k (List.mem_cons_of_mem _ hk), rfl⟩⟩
end TS
set_option Elab.async false
set_option linter.all false
set_option maxRecDepth 100000
set_option maxHeartbeats 4000000
namespace TS
open PySem PySem.Spec PyProof.Rows L2 L3
variable {P : Program} {w : World} {K : PySem.W.Frag} {mg : Str → Option Value} {base : Heap} {ax : Str → Addr}
def sp_law : Sp3 := sp1 fun v G Q _ => ∃ ns : List Int, v = .scr (ns.map D.int) ∧ ns.length ≤ 63 ∧ Q (.bl true) G
theorem law_end (ns : List Int) (G : Gp) (Q : DK) (l63 : ns.length ≤ 63) (_ : ∀ z ∈ ns, Builtin.Int.intBits z ≤ 1048576) (q : Q (.bl true) G) : sp_law [.scr (ns.map D.int)] G Q NoE := ⟨ns, rfl, l63, q⟩
theorem g_law (T : Txt K mg ax) {fa : Addr} {fd : FuncData} (F : Fun K "law" "law" s_law fa fd) : FnG P w K mg base (L2.CX P w) 6 fa fd ["_law_script"] (dn K sp_law) := fnG3 F sc_law (by decide) len1 fun f cdv A outer s H E o E3 hgu hr tk hp => ⟨_,
    have hN := sc_law.nd
    (dss_cons (ds_if (dt_cmp (op_neA hr) dc_ne (de_callB (call_reprX T.sys hgu hr) cd_reprX rfl T.B.repr (by decide +kernel) (da_cons (de_lstS (da_cons (de_gint rfl T.g_MOST_KINDS) (da_cons (de_gint rfl T.g_MOST_ROWS) (da_cons (de_gint rfl T.g_MOST_PERIOD) (da_cons (de_gint rfl T.g_MOST_CHANGES) da_nil))))) da_nil)) (de_callB (call_reprX T.sys hgu hr) cd_reprX rfl T.B.repr (by decide +kernel) (da_cons (de_lstS (da_cons de_int (da_cons de_int (da_cons de_int (da_cons de_int da_nil))))) da_nil)) (nomark _)) (dss_one (ds_ret de_bl)) dss_nil)
      (dss_one (ds_ret (de_callB (cr_all rfl) cd_all rfl T.B.all (by decide +kernel) (da_cons (de_lc [("_law_spot", 1)] rfl hN (tgt_name (i := 1) (by decide)) (di_range1 (de_callB (call_max2 rfl) cd_max2 rfl T.B.max (by decide +kernel) (da_cons de_int (da_cons (de_callB (call_min2 rfl) cd_min2 rfl T.B.min (by decide +kernel) (da_cons (de_callB call_len cd_len rfl T.B.len (by decide +kernel) (da_cons (de_var 0) da_nil)) (da_cons de_int da_nil))) da_nil))) T.B.range) (blkOk_by (N := N_law) (sc := (defScope s_law)) (own := [("_law_spot", 1)]) (by decide +kernel)) (fun _ _ _ _ _ => (pg_name (i := 1) hN rfl (by first | exact Or.inl rfl | exact Or.inr rfl))) (fun _ _ _ _ _ => dts_nil) (fun _ _ _ _ _ => (de_callG (c_law_right T) hgu hr takesN (da_cons (de_call (c_law_pool T) hr takesN (da_cons (de_call (c_law_cell T) hr takesN (da_cons (de_var 0) (da_cons (de_var 1) da_nil))) da_nil)) da_nil)))) da_nil))))), by
    intro ds G Q h
    obtain ⟨v, rfl, ns, rfl, l63, q⟩ := in1 h
    have small : (100 : Nat) < sizeLine := by decide
    obtain ⟨pd, e1, e2, e3, e4⟩ := repr_ex (d := .lst [.int 4, .int 6, .int 6, .int 6]) (by decide) (by decide) (by decide)
    conv => whnf
    refine ⟨Nat.le_trans (Nat.le_of_ble_eq_true rfl : _ ≤ 100) (by decide), ?_⟩; conv => whnf
    refine ⟨pd, e1, e2, e3, e4.1, ?_⟩
    conv => whnf
    refine ⟨Nat.le_trans (Nat.le_of_ble_eq_true rfl : _ ≤ 100) (by decide), ?_⟩; conv => whnf
    refine ⟨pd, e1, e2, e3, e4.1, ?_⟩
    conv => whnf
    rw [decide_eq_true rfl]
    conv => whnf
    have hn : ∃ n : Nat, n ≤ 8 ∧ (if (if (8 : Int) < (((ns.map D.int).length : Nat) : Int) then (8 : Int) else (((ns.map D.int).length : Nat) : Int)) > 3 then (if (8 : Int) < (((ns.map D.int).length : Nat) : Int) then (8 : Int) else (((ns.map D.int).length : Nat) : Int)) else 3) = (n : Nat) := by
      rw [List.length_map]
      by_cases h1 : (8 : Int) < ((ns.length : Nat) : Int)
      · rw [if_pos h1]
        exact ⟨8, by decide, by decide⟩
      · rw [if_neg h1]
        by_cases h2 : ((ns.length : Nat) : Int) > 3
        · rw [if_pos h2]
          exact ⟨ns.length, by omega, rfl⟩
        · rw [if_neg h2]
          exact ⟨3, by decide, rfl⟩
    obtain ⟨n, n6, en⟩ := hn
    rw [en]
    refine ⟨⟨by omega, by omega⟩, ?_⟩
    conv => whnf
    refine ⟨by simp [intsD]; omega, ?_⟩
    conv => whnf
    refine lc_map (e := fun i : Nat => D.int ((0 : Int) + (i : Nat))) (fun _ : Nat => D.bl true) _ (fun i hi K' kk => ?_) ?_
    · have hi := List.mem_range.mp hi
      have ei : (0 : Int) + (i : Nat) = (i : Nat) := by omega
      rw [ei]
      conv => whnf
      refine ⟨ns, i, rfl, rfl, fun zc => ?_⟩
      conv => whnf
      refine ⟨zc, rfl, fun p hp' => ?_⟩
      conv => whnf
      exact ⟨p, G, rfl, gupd_same, Sub.new hp', kk⟩
    · show (match blsOf _ with | some bs => _ | none => False)
      rw [bls_all (fun _ : Nat => true)]
      refine ret_id ?_
      rw [all_map_id]
      have e : (List.all (List.range ((n : Nat) : Int).toNat) fun _ => true) = true := List.all_eq_true.mpr fun _ _ => rfl
      rw [e]
      exact q⟩
end TS
set_option Elab.async false
set_option linter.all false
set_option maxRecDepth 100000
set_option maxHeartbeats 0
namespace TS
open PySem PySem.Spec PyProof.Rows L2 L3
theorem txt {K : PySem.W.Frag} {h : Heap} {mg : Str → Option Value} (X : K.In h) (G : h.Ns mainGlobals mg) (c : SaysM fam fnm exm K) : Txt K mg (fun n => He.ga K n) := by
  have E : ∀ b ∈ exl K, b = true := fun b hb => List.all_eq_true.mp c.all.2.2.1 b hb
  exact {
  B := ⟨He.free_ok X G (c.all.1 _ (List.mem_of_getElem? (i := 0) rfl)), He.free_ok X G (c.all.1 _ (List.mem_of_getElem? (i := 1) rfl)), He.free_ok X G (c.all.1 _ (List.mem_of_getElem? (i := 2) rfl)), He.free_ok X G (c.all.1 _ (List.mem_of_getElem? (i := 3) rfl)), He.free_ok X G (c.all.1 _ (List.mem_of_getElem? (i := 4) rfl)), He.free_ok X G (c.all.1 _ (List.mem_of_getElem? (i := 5) rfl)), He.free_ok X G (c.all.1 _ (List.mem_of_getElem? (i := 6) rfl)), He.free_ok X G (c.all.1 _ (List.mem_of_getElem? (i := 7) rfl)), He.free_ok X G (c.all.1 _ (List.mem_of_getElem? (i := 8) rfl)), He.free_ok X G (c.all.1 _ (List.mem_of_getElem? (i := 9) rfl)), He.free_ok X G (c.all.1 _ (List.mem_of_getElem? (i := 10) rfl)), He.free_ok X G (c.all.1 _ (List.mem_of_getElem? (i := 11) rfl)), He.free_ok X G (c.all.1 _ (List.mem_of_getElem? (i := 12) rfl)), He.free_ok X G (c.all.1 _ (List.mem_of_getElem? (i := 13) rfl)), He.free_ok X G (c.all.1 _ (List.mem_of_getElem? (i := 14) rfl)), He.free_ok X G (c.all.1 _ (List.mem_of_getElem? (i := 15) rfl)), He.free_ok X G (c.all.1 _ (List.mem_of_getElem? (i := 16) rfl)), He.free_ok X G (c.all.1 _ (List.mem_of_getElem? (i := 17) rfl)), He.free_ok X G (c.all.1 _ (List.mem_of_getElem? (i := 18) rfl)), He.free_ok X G (c.all.1 _ (List.mem_of_getElem? (i := 19) rfl))⟩
  sys := sys_of (E _ (List.mem_of_getElem? (i := 0) rfl))
  g_MOST_KINDS := He.int_ok X G (c.all.1 _ (List.mem_of_getElem? (i := 20) rfl))
  g_MOST_ROWS := He.int_ok X G (c.all.1 _ (List.mem_of_getElem? (i := 21) rfl))
  g_MOST_PERIOD := He.int_ok X G (c.all.1 _ (List.mem_of_getElem? (i := 22) rfl))
  g_MOST_CHANGES := He.int_ok X G (c.all.1 _ (List.mem_of_getElem? (i := 23) rfl))
  x_InvalidName := by
      obtain ⟨fd, F⟩ := c.fun_ (List.mem_of_getElem? (i := 0) rfl)
      exact exc_of (E _ (List.mem_of_getElem? (i := 1) rfl)) (He.glo_ok X G (c.all.1 _ (List.mem_of_getElem? (i := 24) rfl))) F (F.binds fun _ _ _ _ _ _ us hl => match us, hl with | [_, _], _ => rfl)
  x_InvalidMinutes := by
      obtain ⟨fd, F⟩ := c.fun_ (List.mem_of_getElem? (i := 1) rfl)
      exact exc_of (E _ (List.mem_of_getElem? (i := 2) rfl)) (He.glo_ok X G (c.all.1 _ (List.mem_of_getElem? (i := 25) rfl))) F (F.binds fun _ _ _ _ _ _ us hl => match us, hl with | [_, _], _ => rfl)
  x_InvalidText := by
      obtain ⟨fd, F⟩ := c.fun_ (List.mem_of_getElem? (i := 2) rfl)
      exact exc_of (E _ (List.mem_of_getElem? (i := 3) rfl)) (He.glo_ok X G (c.all.1 _ (List.mem_of_getElem? (i := 26) rfl))) F (F.binds fun _ _ _ _ _ _ us hl => match us, hl with | [_, _], _ => rfl)
  x_InvalidLength := by
      obtain ⟨fd, F⟩ := c.fun_ (List.mem_of_getElem? (i := 3) rfl)
      exact exc_of (E _ (List.mem_of_getElem? (i := 4) rfl)) (He.glo_ok X G (c.all.1 _ (List.mem_of_getElem? (i := 27) rfl))) F (F.binds fun _ _ _ _ _ _ us hl => match us, hl with | [_, _], _ => rfl)
  x_InvalidStation := by
      obtain ⟨fd, F⟩ := c.fun_ (List.mem_of_getElem? (i := 4) rfl)
      exact exc_of (E _ (List.mem_of_getElem? (i := 5) rfl)) (He.glo_ok X G (c.all.1 _ (List.mem_of_getElem? (i := 28) rfl))) F (F.binds fun _ _ _ _ _ _ us hl => match us, hl with | [_, _], _ => rfl)
  x_InvalidNumber := by
      obtain ⟨fd, F⟩ := c.fun_ (List.mem_of_getElem? (i := 5) rfl)
      exact exc_of (E _ (List.mem_of_getElem? (i := 6) rfl)) (He.glo_ok X G (c.all.1 _ (List.mem_of_getElem? (i := 29) rfl))) F (F.binds fun _ _ _ _ _ _ us hl => match us, hl with | [_, _], _ => rfl)
  x_InvalidWish := by
      obtain ⟨fd, F⟩ := c.fun_ (List.mem_of_getElem? (i := 6) rfl)
      exact exc_of (E _ (List.mem_of_getElem? (i := 7) rfl)) (He.glo_ok X G (c.all.1 _ (List.mem_of_getElem? (i := 30) rfl))) F (F.binds fun _ _ _ _ _ _ us hl => match us, hl with | [_, _], _ => rfl)
  x_InvalidIndex := by
      obtain ⟨fd, F⟩ := c.fun_ (List.mem_of_getElem? (i := 7) rfl)
      exact exc_of (E _ (List.mem_of_getElem? (i := 8) rfl)) (He.glo_ok X G (c.all.1 _ (List.mem_of_getElem? (i := 31) rfl))) F (F.binds fun _ _ _ _ _ _ us hl => match us, hl with | [_, _], _ => rfl)
  x_NotBook := by
      obtain ⟨fd, F⟩ := c.fun_ (List.mem_of_getElem? (i := 8) rfl)
      exact exc_of (E _ (List.mem_of_getElem? (i := 9) rfl)) (He.glo_ok X G (c.all.1 _ (List.mem_of_getElem? (i := 32) rfl))) F (F.binds fun _ _ _ _ _ _ us hl => match us, hl with | [_, _], _ => rfl)
  x_InvalidRows := by
      obtain ⟨fd, F⟩ := c.fun_ (List.mem_of_getElem? (i := 9) rfl)
      exact exc_of (E _ (List.mem_of_getElem? (i := 10) rfl)) (He.glo_ok X G (c.all.1 _ (List.mem_of_getElem? (i := 33) rfl))) F (F.binds fun _ _ _ _ _ _ us hl => match us, hl with | [_, _], _ => rfl)
  x_InvalidKinds := by
      obtain ⟨fd, F⟩ := c.fun_ (List.mem_of_getElem? (i := 10) rfl)
      exact exc_of (E _ (List.mem_of_getElem? (i := 11) rfl)) (He.glo_ok X G (c.all.1 _ (List.mem_of_getElem? (i := 34) rfl))) F (F.binds fun _ _ _ _ _ _ us hl => match us, hl with | [_, _], _ => rfl)
  x_InvalidChanges := by
      obtain ⟨fd, F⟩ := c.fun_ (List.mem_of_getElem? (i := 11) rfl)
      exact exc_of (E _ (List.mem_of_getElem? (i := 12) rfl)) (He.glo_ok X G (c.all.1 _ (List.mem_of_getElem? (i := 35) rfl))) F (F.binds fun _ _ _ _ _ _ us hl => match us, hl with | [_, _], _ => rfl)
  x_InvalidWishes := by
      obtain ⟨fd, F⟩ := c.fun_ (List.mem_of_getElem? (i := 12) rfl)
      exact exc_of (E _ (List.mem_of_getElem? (i := 13) rfl)) (He.glo_ok X G (c.all.1 _ (List.mem_of_getElem? (i := 36) rfl))) F (F.binds fun _ _ _ _ _ _ us hl => match us, hl with | [_, _], _ => rfl)
  x_UnknownName := by
      obtain ⟨fd, F⟩ := c.fun_ (List.mem_of_getElem? (i := 13) rfl)
      exact exc_ofR rootLE_ok (E _ (List.mem_of_getElem? (i := 14) rfl)) (He.glo_ok X G (c.all.1 _ (List.mem_of_getElem? (i := 37) rfl))) F (F.binds fun _ _ _ _ _ _ us hl => match us, hl with | [_, _], _ => rfl)
  x_InUse := by
      obtain ⟨fd, F⟩ := c.fun_ (List.mem_of_getElem? (i := 14) rfl)
      exact exc_ofR rootLE_ok (E _ (List.mem_of_getElem? (i := 15) rfl)) (He.glo_ok X G (c.all.1 _ (List.mem_of_getElem? (i := 38) rfl))) F (F.binds fun _ _ _ _ _ _ us hl => match us, hl with | [_, _], _ => rfl)
  x_NoStop := by
      obtain ⟨fd, F⟩ := c.fun_ (List.mem_of_getElem? (i := 15) rfl)
      exact exc_ofR rootAE_ok (E _ (List.mem_of_getElem? (i := 16) rfl)) (He.glo_ok X G (c.all.1 _ (List.mem_of_getElem? (i := 39) rfl))) F (F.binds fun _ _ _ _ _ _ us hl => match us, hl with | [_, _], _ => rfl)
  x_Broken := by
      obtain ⟨fd, F⟩ := c.fun_ (List.mem_of_getElem? (i := 16) rfl)
      exact exc_ofR rootAE_ok (E _ (List.mem_of_getElem? (i := 17) rfl)) (He.glo_ok X G (c.all.1 _ (List.mem_of_getElem? (i := 40) rfl))) F (F.binds fun _ _ _ _ _ _ us hl => match us, hl with | [_, _], _ => rfl)
  x_NothingToUndo := exc0_of rootAE_ok (E _ (List.mem_of_getElem? (i := 18) rfl)) (He.glo_ok X G (c.all.1 _ (List.mem_of_getElem? (i := 41) rfl)))
  ec_InvalidName := xis_of (E _ (List.mem_of_getElem? (i := 19) rfl))
  ki_InvalidName := fun p hp => of_decide_eq_true (List.all_eq_true.mp (E _ (List.mem_of_getElem? (i := 20) rfl)) p hp)
  ec_InvalidMinutes := xis_of (E _ (List.mem_of_getElem? (i := 21) rfl))
  ki_InvalidMinutes := fun p hp => of_decide_eq_true (List.all_eq_true.mp (E _ (List.mem_of_getElem? (i := 22) rfl)) p hp)
  ec_InvalidText := xis_of (E _ (List.mem_of_getElem? (i := 23) rfl))
  ki_InvalidText := fun p hp => of_decide_eq_true (List.all_eq_true.mp (E _ (List.mem_of_getElem? (i := 24) rfl)) p hp)
  ec_InvalidLength := xis_of (E _ (List.mem_of_getElem? (i := 25) rfl))
  ki_InvalidLength := fun p hp => of_decide_eq_true (List.all_eq_true.mp (E _ (List.mem_of_getElem? (i := 26) rfl)) p hp)
  ec_InvalidStation := xis_of (E _ (List.mem_of_getElem? (i := 27) rfl))
  ki_InvalidStation := fun p hp => of_decide_eq_true (List.all_eq_true.mp (E _ (List.mem_of_getElem? (i := 28) rfl)) p hp)
  ec_InvalidNumber := xis_of (E _ (List.mem_of_getElem? (i := 29) rfl))
  ki_InvalidNumber := fun p hp => of_decide_eq_true (List.all_eq_true.mp (E _ (List.mem_of_getElem? (i := 30) rfl)) p hp)
  ec_InvalidWish := xis_of (E _ (List.mem_of_getElem? (i := 31) rfl))
  ki_InvalidWish := fun p hp => of_decide_eq_true (List.all_eq_true.mp (E _ (List.mem_of_getElem? (i := 32) rfl)) p hp)
  ec_InvalidIndex := xis_of (E _ (List.mem_of_getElem? (i := 33) rfl))
  ki_InvalidIndex := fun p hp => of_decide_eq_true (List.all_eq_true.mp (E _ (List.mem_of_getElem? (i := 34) rfl)) p hp)
  ec_NotBook := xis_of (E _ (List.mem_of_getElem? (i := 35) rfl))
  ki_NotBook := fun p hp => of_decide_eq_true (List.all_eq_true.mp (E _ (List.mem_of_getElem? (i := 36) rfl)) p hp)
  ec_InvalidRows := xis_of (E _ (List.mem_of_getElem? (i := 37) rfl))
  ki_InvalidRows := fun p hp => of_decide_eq_true (List.all_eq_true.mp (E _ (List.mem_of_getElem? (i := 38) rfl)) p hp)
  ec_InvalidKinds := xis_of (E _ (List.mem_of_getElem? (i := 39) rfl))
  ki_InvalidKinds := fun p hp => of_decide_eq_true (List.all_eq_true.mp (E _ (List.mem_of_getElem? (i := 40) rfl)) p hp)
  ec_InvalidChanges := xis_of (E _ (List.mem_of_getElem? (i := 41) rfl))
  ki_InvalidChanges := fun p hp => of_decide_eq_true (List.all_eq_true.mp (E _ (List.mem_of_getElem? (i := 42) rfl)) p hp)
  ec_InvalidWishes := xis_of (E _ (List.mem_of_getElem? (i := 43) rfl))
  ki_InvalidWishes := fun p hp => of_decide_eq_true (List.all_eq_true.mp (E _ (List.mem_of_getElem? (i := 44) rfl)) p hp)
  ec_UnknownName := xis_of (E _ (List.mem_of_getElem? (i := 45) rfl))
  ki_UnknownName := fun p hp => of_decide_eq_true (List.all_eq_true.mp (E _ (List.mem_of_getElem? (i := 46) rfl)) p hp)
  ec_InUse := xis_of (E _ (List.mem_of_getElem? (i := 47) rfl))
  ki_InUse := fun p hp => of_decide_eq_true (List.all_eq_true.mp (E _ (List.mem_of_getElem? (i := 48) rfl)) p hp)
  ec_NoStop := xis_of (E _ (List.mem_of_getElem? (i := 49) rfl))
  ki_NoStop := fun p hp => of_decide_eq_true (List.all_eq_true.mp (E _ (List.mem_of_getElem? (i := 50) rfl)) p hp)
  ec_Broken := xis_of (E _ (List.mem_of_getElem? (i := 51) rfl))
  ki_Broken := fun p hp => of_decide_eq_true (List.all_eq_true.mp (E _ (List.mem_of_getElem? (i := 52) rfl)) p hp)
  ec_NothingToUndo := xis_of (E _ (List.mem_of_getElem? (i := 53) rfl))
  ki_NothingToUndo := fun p hp => of_decide_eq_true (List.all_eq_true.mp (E _ (List.mem_of_getElem? (i := 54) rfl)) p hp)
  xg_WrongValue := He.glo_ok X G (c.all.1 _ (List.mem_of_getElem? (i := 42) rfl))
  xg_WrongName := He.glo_ok X G (c.all.1 _ (List.mem_of_getElem? (i := 43) rfl))
  xg_NotPossible := He.glo_ok X G (c.all.1 _ (List.mem_of_getElem? (i := 44) rfl))
  bn_ValueError := He.free_ok X G (c.all.1 _ (List.mem_of_getElem? (i := 45) rfl))
  bn_LookupError := He.free_ok X G (c.all.1 _ (List.mem_of_getElem? (i := 46) rfl))
  bn_ArithmeticError := He.free_ok X G (c.all.1 _ (List.mem_of_getElem? (i := 47) rfl))
  d_law_cell := by
      obtain ⟨fd, F⟩ := c.fun_ (List.mem_of_getElem? (i := 17) rfl)
      exact ⟨_, fd, F, He.glo_ok X G (c.all.1 _ (List.mem_of_getElem? (i := 48) rfl)), F.kp, (F.binds fun _ _ _ _ _ _ us hl => match us, hl with | [_, _], _ => rfl)⟩
  d_law_pool := by
      obtain ⟨fd, F⟩ := c.fun_ (List.mem_of_getElem? (i := 18) rfl)
      exact ⟨_, fd, F, He.glo_ok X G (c.all.1 _ (List.mem_of_getElem? (i := 49) rfl)), F.kp, (F.binds fun _ _ _ _ _ _ us hl => match us, hl with | [_], _ => rfl)⟩
  d_law_draw := by
      obtain ⟨fd, F⟩ := c.fun_ (List.mem_of_getElem? (i := 19) rfl)
      exact ⟨_, fd, F, He.glo_ok X G (c.all.1 _ (List.mem_of_getElem? (i := 50) rfl)), F.kp, (F.binds fun _ _ _ _ _ _ us hl => match us, hl with | [_, _], _ => rfl)⟩
  d_law_pick := by
      obtain ⟨fd, F⟩ := c.fun_ (List.mem_of_getElem? (i := 20) rfl)
      exact ⟨_, fd, F, He.glo_ok X G (c.all.1 _ (List.mem_of_getElem? (i := 51) rfl)), F.kp, (F.binds fun _ _ _ _ _ _ us hl => match us, hl with | [_, _], _ => rfl)⟩
  d_law_odd := by
      obtain ⟨fd, F⟩ := c.fun_ (List.mem_of_getElem? (i := 21) rfl)
      exact ⟨_, fd, F, He.glo_ok X G (c.all.1 _ (List.mem_of_getElem? (i := 52) rfl)), F.kp, (F.binds fun _ _ _ _ _ _ us hl => match us, hl with | [_], _ => rfl)⟩
  d_law_valued := by
      obtain ⟨fd, F⟩ := c.fun_ (List.mem_of_getElem? (i := 22) rfl)
      exact ⟨_, fd, F, He.glo_ok X G (c.all.1 _ (List.mem_of_getElem? (i := 53) rfl)), F.kp, (F.binds fun _ _ _ _ _ _ us hl => match us, hl with | [_, _, _], _ => rfl)⟩
  d_law_further := by
      obtain ⟨fd, F⟩ := c.fun_ (List.mem_of_getElem? (i := 23) rfl)
      exact ⟨_, fd, F, He.glo_ok X G (c.all.1 _ (List.mem_of_getElem? (i := 54) rfl)), F.kp, (F.binds fun _ _ _ _ _ _ us hl => match us, hl with | [_, _, _], _ => rfl)⟩
  d_law_sorts := by
      obtain ⟨fd, F⟩ := c.fun_ (List.mem_of_getElem? (i := 24) rfl)
      exact ⟨_, fd, F, He.glo_ok X G (c.all.1 _ (List.mem_of_getElem? (i := 55) rfl)), F.kp, (F.binds fun _ _ _ _ _ _ us hl => match us, hl with | [_], _ => rfl)⟩
  d_law_bases := by
      obtain ⟨fd, F⟩ := c.fun_ (List.mem_of_getElem? (i := 25) rfl)
      exact ⟨_, fd, F, He.glo_ok X G (c.all.1 _ (List.mem_of_getElem? (i := 56) rfl)), F.kp, (F.binds fun _ _ _ _ _ _ us hl => match us, hl with | [_], _ => rfl)⟩
  d_law_is_right := by
      obtain ⟨fd, F⟩ := c.fun_ (List.mem_of_getElem? (i := 26) rfl)
      exact ⟨_, fd, F, He.glo_ok X G (c.all.1 _ (List.mem_of_getElem? (i := 57) rfl)), F.kp, (F.binds fun _ _ _ _ _ _ us hl => match us, hl with | [_, _, _], _ => rfl)⟩
  d_law_right := by
      obtain ⟨fd, F⟩ := c.fun_ (List.mem_of_getElem? (i := 27) rfl)
      exact ⟨_, fd, F, He.glo_ok X G (c.all.1 _ (List.mem_of_getElem? (i := 58) rfl)), F.kp, (F.binds fun _ _ _ _ _ _ us hl => match us, hl with | [_], _ => rfl)⟩
  d_law := by
      obtain ⟨fd, F⟩ := c.fun_ (List.mem_of_getElem? (i := 28) rfl)
      exact ⟨_, fd, F, He.glo_ok X G (c.all.1 _ (List.mem_of_getElem? (i := 59) rfl)), F.kp, (F.binds fun _ _ _ _ _ _ us hl => match us, hl with | [_], _ => rfl)⟩ }
end TS
open PySem PySem.W PySem.Calls PyProof.Rows
theorem PySem.Challenge.cw_turnstops_k01_constants_and_errors_holds : PySem.Challenge.rw_turnstops_k01_constants_and_errors.Holds := by
  w_on; o_law
  refine HandSHeadRun.head_any (r := OpenLaw.row PySem.Challenge.rw_turnstops_k01_constants_and_errors) (q := view (OpenLaw.row PySem.Challenge.rw_turnstops_k01_constants_and_errors).prog [38]) (H := TS.hkm) (ob := TS.obm) (M := 40000) (loose := TS.loo) (d := HandSHeadRun.topDef (OpenLaw.row PySem.Challenge.rw_turnstops_k01_constants_and_errors).prog 38) (kwd := []) TS.obm_eq
    (by kernel_rfl) (fun s => by kernel_rfl) TS.runm (by kernel_rfl) (by kernel_rfl) (by kernel_rfl) (by rfl) (by first | assumption | decide +kernel) (by decide +kernel) ⟨rfl, rfl, rfl, rfl, rfl, by decide +kernel⟩ ?hw ?hc
  case hw => w_witness2
  case hc =>
    refine L3.walk_ofG (l := PySem.Challenge.rw_turnstops_k01_constants_and_errors) (n := 63) (k := 6) (x := "_law_script") rfl (by decide) (by kernel_rfl) ⟨rfl, by decide, by decide⟩ ?F
    intro w mg fa h Y G hmg0
    obtain ⟨K, KX, c⟩ := Y
    have hmg : mg ("law" : PySem.Str) = some (.ref fa) := by
      have e : (HandSHeadRun.topDef (OpenLaw.row PySem.Challenge.rw_turnstops_k01_constants_and_errors).prog 38).name = ("law" : PySem.Str) := by kernel_rfl
      rw [← e]
      exact hmg0
    obtain ⟨fd, F0⟩ := c.def_ (d := L3.dfA (fun K => He.ga K "law") "law" "law" TS.s_law) (List.mem_of_getElem? (i := 28) rfl)
    have F0 : L2.FunD K "law" "law" (L2.defArgs TS.s_law) (L2.defBody TS.s_law) (L2.defScope TS.s_law) [] [] (He.ga K "law") fd := F0
    have F : L2.Fun K "law" "law" TS.s_law (He.ga K "law") fd := He5.fun_of F0
    have e := hmg.symm.trans (He.glo_ok KX G (c.all.1 (.glo "law") (List.mem_of_getElem? (i := 59) rfl)))
    cases e
    have b := L2.FunD.bindsA (ps := ["_law_script"]) F0 fun _ _ _ _ _ _ us hl => match us, hl with | [_], _ => rfl
    exact ⟨K, fd, TS.sp_law, KX, fun s v => b s [v] rfl, TS.law_end, fun base _ _ => TS.g_law (TS.txt KX G c) F⟩
