import PyProof.Rows.All
import Wide.All
import OpenK.AllK
import Wide.FinOn
import HandS.Base
import HandS.Call
import HandS.List
import HandS.Exc
import HandS.ExcOwn
import HandS.Comp
import HandS.Words
import KE.DataEq
import HandS.Text
import HandS.TupAny
import HandS.WordsExc
import HandS.Defaults
import HandS.Iter
import HandS.Conv
import HandS.More
import HandS.Replace
import HandS.Small
import HandS.IsInst
import HandS.SortInts
import HandS.HeadHook4
import HandS.HeadEnd
import HandS.Head2
import HandS.Deep
import HandS.ExcInit
import HandS.TryMany
import HandS.NoneIn
import HandS.Steps
import HandS.ExcField
import HandS.ExcIs
import KE.KExcIs
import HandS.Property
import HandS.OwnEq
import KE.GoesMore
import HandS.Wide
import HandS.Strs
import KE.GoesSet
import PyProof.EvalArms
import HandS.SetFor
import PyProof.Rows.SetFrom
import HandS.Dict
import HandS.DictComp
import KE.KDictDisplayH
import HandS.Style
import HandS.CallLocal
import HandS.Star
import KE.GoesNew
import KE.KDictKeyed
import KE.KDictZip
import PyProof.ListNew
import HandS.FStr
import HandS.RaiseMore
import HandS.Zip
import HandS.HotCalls
import PySem.Challenge.RW_codetables_k36_errors_are_apart
set_option Elab.async false
set_option linter.all false
set_option maxRecDepth 100000
set_option maxHeartbeats 4000000
/-! FRONT: the head of the law run, ahead of all, where least memory is taken. -/
namespace Pv
open PySem PySem.Spec PyProof.Rows L2
def excB (K : PySem.W.Frag) (x : Str) : Bool := He.Fa.ok K (.exc x) && He.Fa.ok K (.glo x)
def exmB (K : PySem.W.Frag) (y : Str) (tbl : List (Str × Bool)) : Bool := He.Fa.ok K (.glo y) && tbl.all fun p => He.Fa.ok K (.exm p.1 y p.2) && He.Fa.ok K (.glo p.1)
/-- an error class with its own __init__ over one field f, which the class itself doesn't name -/
def oexO (C : Addr) (o : Option Obj) : Bool := match o with
  | some ⟨.type "type", _, .cls cd, sl⟩ => (match cd.mro, sl.toList with
    | .ref C' :: bm, [_, _, _, _, some (.builtin n), _] => decide (C' = C) && (decide (n = "ValueError.__new__") && (cd.hasDict && (!cd.hasDel && PySem.HandSPX.refsVE bm)))
    | _, _ => false)
  | _ => false
def oexB (K : PySem.W.Frag) (x f : Str) : Bool := oexO (He.ga K x) (K.lookup (He.ga K x)) && (He.Fa.ok K (.glo x) && (He.Fa.ok K (.noat x f) && (He.Fa.ok K (.meth x "__init__") && (PySem.W.keepIn K (.ref (He.ga K x)) &&
  (decide (PySem.W.findIn K (.ref (He.ga K x)) "__setattr__" = some (some (.builtin "object.__setattr__"))) && (decide (PySem.W.subIn K (.ref (He.ga K x)) (.type "BaseException") = some true) && (decide (PySem.W.typeIn K (.ref (He.ga K x)) = some (.type "type")) && decide (PySem.W.typeIn K (.ref (He.ma K (He.ga K x) "__init__")) = some (.type "function")))))))))
/-- the j-th row of a class -/
def clsS (s : Stmt) (j : Nat) : Stmt := match s with
  | .ClassDef (body := b) .. => b.getD j (.Pass ⟨0, 0, 0, 0⟩)
  | _ => .Pass ⟨0, 0, 0, 0⟩
def attB (K : PySem.W.Frag) (c f : Str) : Bool := He.Fa.ok K (.glo c) && (He.Fa.ok K (.cls c) && He.Fa.ok K (.noat c f))
def xisB (K : PySem.W.Frag) (D : Addr) : Bool :=
  (PySem.W.clsIn K D).isSome && (decide (PySem.W.findIn K (.ref D) "__getattribute__" = some (some (.builtin "BaseException.__getattribute__"))) &&
  (decide (PySem.W.findIn K (.ref D) "__getattr__" = some none) && (decide (PySem.W.subIn K (.ref D) (.type "BaseException") = some true) &&
  (decide (PySem.W.findIn K (.ref D) "__class__" = some (some (.builtin "object.__class__"))) && (decide (PySem.W.specialIn K (.builtin "object.__class__") "__get__" = some (some (.builtin "getset_descriptor.__get__"))) &&
  (decide (PySem.W.takesIn K (.builtin "object.__class__") = some true) && decide (PySem.W.mroIn K D (.type "object") = some true)))))))
def xisaB (K : PySem.W.Frag) (cs : List Str) : Bool := cs.all fun c => He.Fa.ok K (.glo c) && xisB K (He.ga K c)
def xkB (K : PySem.W.Frag) (y : Str) (tbl : List (Str × Bool)) : Bool := He.Fa.ok K (.glo y) && tbl.all fun p => decide (PySem.W.kitOne K (.ref (He.ga K p.1)) (.ref (He.ga K y)) = some p.2)
def xkyB (K : PySem.W.Frag) (n : String) (tbl : List (Str × Bool)) : Bool := tbl.all fun p => decide (PySem.W.kitOne K (.ref (He.ga K p.1)) (.type n) = some p.2)
/-- the check of such a dict -/
def relK : List DictEntry → List (Str × Int) → Bool
  | [], [] => true
  | e :: es, (k, i) :: kvs => (match e.key with | .str x _ => decide (x = k) | _ => false) && ((match e.val with | .int j _ => decide (j = i) | _ => false) && relK es kvs)
  | _, _ => false
def mapB (K : PySem.W.Frag) (x : Str) (kvs : List (Str × Int)) : Bool := match K.lookup (He.ga K x) with
  | some ⟨_, _, .dict es _, _⟩ => relK es.toList kvs
  | _ => false
/-- a default that is an empty tuple -/
def dfTB (K : PySem.W.Frag) (f : Str × Option Str) (i : Nat) : Bool := match K.lookup (He.dflAt f i K) with
  | some ⟨.type c, _, .seq its _, _⟩ => decide (c = "tuple") && its.isEmpty
  | _ => false
def pa (K : PySem.W.Frag) (C : Addr) (f : Str) : Addr := match PySem.W.findIn K (.ref C) f with
  | some (some (.ref p)) => p
  | _ => 0
def pg (K : PySem.W.Frag) (C : Addr) (f : Str) : Addr := match PySem.W.recIn K (pa K C f) "property" with
  | some (.ref g :: _) => g
  | _ => 0
end Pv
namespace Law
open PySem PySem.Spec PyProof.Rows L2 Pv
def c_LETTERS : Str := "abcdefghijklmnopqrstuvwxyz"
def c_PLAIN : List Str := ["pop", "copy", "add", "sub", "div", "less", "not", "print", "skip", "end"]
def c_NAMED : List Str := ["load", "store", "fail"]
def c_JUMPS : List Str := ["jump", "jumpif"]
def c_LAST : List Str := ["fail", "jump", "end"]
def c_REMOVED : List (Str × Int) := [("store", 1), ("pop", 1), ("copy", 1), ("add", 2), ("sub", 2), ("div", 2), ("less", 2), ("not", 1), ("print", 1), ("jumpif", 1)]
def c_PUSHED : List (Str × Int) := [("const", 1), ("load", 1), ("copy", 2), ("add", 1), ("sub", 1), ("div", 1), ("less", 1), ("not", 1)]
def c_GREATEST : Int := 1000000000000000000000000000000
def c_LINES : Int := 1000000
def c_MOST : Int := 200
def c_NAMES : List Str := ["unreachable", "skips", "simplify", "thread", "fold", "optimize"]
def c_GROUP : Int := 128
def c_MOST_LINES : Int := 10000
def c_FIGURES : Str := "0123456789"
def topS (i : Nat) : Stmt := PySem.Challenge.pw_codetables_k36_errors_are_apart.main.body.getD i (.Pass ⟨0, 0, 0, 0⟩)
end Law
namespace Law
open PySem PySem.Spec PyProof.Rows L2 Pv
def dd_in_range : He.DefD := ⟨("in_range", none), "in_range", "in_range", defArgs (topS 28), defBody (topS 28), defScope (topS 28), [], []⟩
def dd_is_word : He.DefD := ⟨("is_word", none), "is_word", "is_word", defArgs (topS 29), defBody (topS 29), defScope (topS 29), [], []⟩
def dd_fits_form : He.DefD := ⟨("fits_form", none), "fits_form", "fits_form", defArgs (topS 30), defBody (topS 30), defScope (topS 30), [], []⟩
def dd_is_handler : He.DefD := ⟨("is_handler", none), "is_handler", "is_handler", defArgs (topS 31), defBody (topS 31), defScope (topS 31), [], []⟩
def dd_raised_kind : He.DefD := ⟨("raised_kind", none), "raised_kind", "raised_kind", defArgs (topS 32), defBody (topS 32), defScope (topS 32), [], []⟩
def dd_receiver : He.DefD := ⟨("receiver", none), "receiver", "receiver", defArgs (topS 33), defBody (topS 33), defScope (topS 33), [], []⟩
def dd_moves : He.DefD := ⟨("moves", none), "moves", "moves", defArgs (topS 35), defBody (topS 35), defScope (topS 35), [], []⟩
def dd_check_parts : He.DefD := ⟨("check_parts", none), "check_parts", "check_parts", defArgs (topS 36), defBody (topS 36), defScope (topS 36), [], []⟩
def dd_depths_of : He.DefD := ⟨("depths_of", none), "depths_of", "depths_of", defArgs (topS 37), defBody (topS 37), defScope (topS 37), [], []⟩
def dd_Unit_init : He.DefD := ⟨("Unit", some "__init__"), "__init__", "Unit.__init__", defArgs (clsS (topS 38) 0), defBody (clsS (topS 38) 0), defScope (clsS (topS 38) 0), [.adr (He.dflAt ("Unit", some "__init__") 0)], []⟩
def dd_exits : He.DefD := ⟨("exits", none), "exits", "exits", defArgs (topS 39), defBody (topS 39), defScope (topS 39), [], []⟩
def dd_line_after : He.DefD := ⟨("line_after", none), "line_after", "line_after", defArgs (topS 41), defBody (topS 41), defScope (topS 41), [], []⟩
def dd_arrivals : He.DefD := ⟨("arrivals", none), "arrivals", "arrivals", defArgs (topS 42), defBody (topS 42), defScope (topS 42), [], []⟩
def dd_witness : He.DefD := ⟨("witness", none), "witness", "witness", defArgs (topS 44), defBody (topS 44), defScope (topS 44), [], []⟩
def dd_check_names : He.DefD := ⟨("check_names", none), "check_names", "check_names", defArgs (topS 65), defBody (topS 65), defScope (topS 65), [], []⟩
def dd_Bench_init : He.DefD := ⟨("Bench", some "__init__"), "__init__", "Bench.__init__", defArgs (clsS (topS 66) 0), defBody (clsS (topS 66) 0), defScope (clsS (topS 66) 0), [], []⟩
def dd_Bench_after : He.DefD := ⟨("Bench", some "after"), "after", "Bench.after", defArgs (clsS (topS 66) 4), defBody (clsS (topS 66) 4), defScope (clsS (topS 66) 4), [], []⟩
def dd_Bench_apply : He.DefD := ⟨("Bench", some "apply"), "apply", "Bench.apply", defArgs (clsS (topS 66) 5), defBody (clsS (topS 66) 5), defScope (clsS (topS 66) 5), [], []⟩
def dd_Bench_undo : He.DefD := ⟨("Bench", some "undo"), "undo", "Bench.undo", defArgs (clsS (topS 66) 6), defBody (clsS (topS 66) 6), defScope (clsS (topS 66) 6), [], []⟩
def dd_blocks : He.DefD := ⟨("blocks", none), "blocks", "blocks", defArgs (topS 68), defBody (topS 68), defScope (topS 68), [], []⟩
def dd_check_order : He.DefD := ⟨("check_order", none), "check_order", "check_order", defArgs (topS 69), defBody (topS 69), defScope (topS 69), [], []⟩
def dd_reorder : He.DefD := ⟨("reorder", none), "reorder", "reorder", defArgs (topS 72), defBody (topS 72), defScope (topS 72), [], []⟩
def dd_unfolded : He.DefD := ⟨("unfolded", none), "unfolded", "unfolded", defArgs (topS 76), defBody (topS 76), defScope (topS 76), [], []⟩
def dd_unpacked : He.DefD := ⟨("unpacked", none), "unpacked", "unpacked", defArgs (topS 77), defBody (topS 77), defScope (topS 77), [], []⟩
def dd_read_stretches : He.DefD := ⟨("read_stretches", none), "read_stretches", "read_stretches", defArgs (topS 78), defBody (topS 78), defScope (topS 78), [], []⟩
def dd_unpack_lines : He.DefD := ⟨("unpack_lines", none), "unpack_lines", "unpack_lines", defArgs (topS 79), defBody (topS 79), defScope (topS 79), [], []⟩
def dd_line_at : He.DefD := ⟨("line_at", none), "line_at", "line_at", defArgs (topS 80), defBody (topS 80), defScope (topS 80), [], []⟩
def dd_number_of : He.DefD := ⟨("number_of", none), "number_of", "number_of", defArgs (topS 83), defBody (topS 83), defScope (topS 83), [], []⟩
def dd_instruction_of : He.DefD := ⟨("instruction_of", none), "instruction_of", "instruction_of", defArgs (topS 85), defBody (topS 85), defScope (topS 85), [], []⟩
def dd_read : He.DefD := ⟨("read", none), "read", "read", defArgs (topS 87), defBody (topS 87), defScope (topS 87), [], []⟩
def dd_law_begin : He.DefD := ⟨("_law_begin", none), "_law_begin", "_law_begin", defArgs (topS 89), defBody (topS 89), defScope (topS 89), [], []⟩
def dd_law_draw : He.DefD := ⟨("_law_draw", none), "_law_draw", "_law_draw", defArgs (topS 90), defBody (topS 90), defScope (topS 90), [], []⟩
def dd_law_first : He.DefD := ⟨("_law_first", none), "_law_first", "_law_first", defArgs (topS 91), defBody (topS 91), defScope (topS 91), [], []⟩
def dd_law_second : He.DefD := ⟨("_law_second", none), "_law_second", "_law_second", defArgs (topS 92), defBody (topS 92), defScope (topS 92), [], []⟩
def dd_law_kinds : He.DefD := ⟨("_law_kinds", none), "_law_kinds", "_law_kinds", defArgs (topS 93), defBody (topS 93), defScope (topS 93), [], []⟩
def dd_law : He.DefD := ⟨("law", none), "law", "law", defArgs (topS 94), defBody (topS 94), defScope (topS 94), [], []⟩
abbrev ini_BadInstruction : Stmt := clsS (topS 10) 0
def dd_ini_BadInstruction : He.DefD := ⟨("BadInstruction", some "__init__"), "__init__", "BadInstruction.__init__", defArgs ini_BadInstruction, defBody ini_BadInstruction, defScope ini_BadInstruction, [], []⟩
abbrev ini_BadTarget : Stmt := clsS (topS 11) 0
def dd_ini_BadTarget : He.DefD := ⟨("BadTarget", some "__init__"), "__init__", "BadTarget.__init__", defArgs ini_BadTarget, defBody ini_BadTarget, defScope ini_BadTarget, [], []⟩
abbrev ini_BadLine : Stmt := clsS (topS 12) 0
def dd_ini_BadLine : He.DefD := ⟨("BadLine", some "__init__"), "__init__", "BadLine.__init__", defArgs ini_BadLine, defBody ini_BadLine, defScope ini_BadLine, [], []⟩
abbrev ini_BadHandler : Stmt := clsS (topS 13) 0
def dd_ini_BadHandler : He.DefD := ⟨("BadHandler", some "__init__"), "__init__", "BadHandler.__init__", defArgs ini_BadHandler, defBody ini_BadHandler, defScope ini_BadHandler, [], []⟩
abbrev ini_BadPass : Stmt := clsS (topS 15) 0
def dd_ini_BadPass : He.DefD := ⟨("BadPass", some "__init__"), "__init__", "BadPass.__init__", defArgs ini_BadPass, defBody ini_BadPass, defScope ini_BadPass, [], []⟩
abbrev ini_BadData : Stmt := clsS (topS 14) 0
def dd_ini_BadData : He.DefD := ⟨("BadData", some "__init__"), "__init__", "BadData.__init__", defArgs ini_BadData, defBody ini_BadData, defScope ini_BadData, [], []⟩
abbrev ini_BadText : Stmt := clsS (topS 16) 0
def dd_ini_BadText : He.DefD := ⟨("BadText", some "__init__"), "__init__", "BadText.__init__", defArgs ini_BadText, defBody ini_BadText, defScope ini_BadText, [], []⟩
def fnL : List He.DefD := [dd_in_range, dd_is_word, dd_fits_form, dd_is_handler, dd_raised_kind, dd_receiver, dd_moves, dd_check_parts, dd_depths_of, dd_Unit_init, dd_exits, dd_line_after, dd_arrivals, dd_witness, dd_check_names, dd_Bench_init, dd_Bench_after, dd_Bench_apply, dd_Bench_undo, dd_blocks, dd_check_order, dd_reorder, dd_unfolded, dd_unpacked, dd_read_stretches, dd_unpack_lines, dd_line_at, dd_number_of, dd_instruction_of, dd_read, dd_law_begin, dd_law_draw, dd_law_first, dd_law_second, dd_law_kinds, dd_law, dd_ini_BadInstruction, dd_ini_BadTarget, dd_ini_BadLine, dd_ini_BadHandler, dd_ini_BadPass, dd_ini_BadData, dd_ini_BadText]
def faL : List He.Fa := ([.glo "in_range", .glo "is_word", .glo "fits_form", .glo "is_handler", .glo "raised_kind", .glo "receiver", .glo "moves", .glo "check_parts", .glo "depths_of", .glo "Unit", .glo "exits", .glo "line_after", .glo "arrivals", .glo "witness", .glo "check_names", .glo "Bench", .glo "Bench", .glo "Bench", .glo "Bench", .glo "blocks", .glo "check_order", .glo "reorder", .glo "unfolded", .glo "unpacked", .glo "read_stretches", .glo "unpack_lines", .glo "line_at", .glo "number_of", .glo "instruction_of", .glo "read"] : List He.Fa) ++ ([.glo "_law_begin", .glo "_law_draw", .glo "_law_first", .glo "_law_second", .glo "_law_kinds", .glo "law", .free "bool", .free "isinstance", .free "int", .free "len", .free "str", .free "tuple", .free "enumerate", .free "max", .free "range", .free "sorted", .free "list", .free "zip", .free "divmod", .free "ValueError", .str "LETTERS" c_LETTERS, .glo "PLAIN", .glo "NAMED", .glo "JUMPS", .glo "LAST", .int "GREATEST" c_GREATEST, .int "LINES" c_LINES, .int "MOST" c_MOST, .glo "NAMES", .int "GROUP" c_GROUP] : List He.Fa) ++ ([.int "MOST_LINES" c_MOST_LINES, .str "FIGURES" c_FIGURES] : List He.Fa)
def tsL : List He.Tab := [(fun K => He.ga K "REMOVED", ["store", "pop", "copy", "add", "sub", "div", "less", "not", "print", "jumpif"]), (fun K => He.ga K "PUSHED", ["const", "load", "copy", "add", "sub", "div", "less", "not"])]
def exB (K : PySem.W.Frag) : Bool := (He.tupB K "PLAIN" (c_PLAIN.map fun s => .str s) && (He.tupB K "NAMED" (c_NAMED.map fun s => .str s) && (He.tupB K "JUMPS" (c_JUMPS.map fun s => .str s) && (He.tupB K "LAST" (c_LAST.map fun s => .str s) && (He.tupB K "NAMES" (c_NAMES.map fun s => .str s) && (excB K "BadCode" && (excB K "FallsOff" && (excB K "BadDepth" && (excB K "NoPath" && (excB K "NothingToUndo" && (excB K "BadOrder" && (excB K "BadIndex" && (oexB K "BadInstruction" "index" && (oexB K "BadTarget" "index" && (oexB K "BadLine" "index" && (oexB K "BadHandler" "index" && (oexB K "BadPass" "index" && (oexB K "BadData" "index" && (oexB K "BadText" "row" && (oexB K "BadText" "word" && (exmB K "TableError" [("BadCode", true), ("FallsOff", true), ("BadDepth", true), ("BadOrder", true), ("NoPath", true), ("BadIndex", true), ("NothingToUndo", true), ("BadInstruction", true), ("BadTarget", true), ("BadLine", true), ("BadHandler", true), ("BadData", true), ("BadPass", true), ("BadText", true)] && (xisaB K ["BadCode", "FallsOff", "BadDepth", "BadOrder", "NoPath", "BadIndex", "NothingToUndo", "BadInstruction", "BadTarget", "BadLine", "BadHandler", "BadData", "BadPass", "BadText"] && (xkB K "BadLine" [("BadCode", false), ("FallsOff", false), ("BadDepth", false), ("BadOrder", false), ("NoPath", false), ("BadIndex", false), ("NothingToUndo", false), ("BadInstruction", false), ("BadTarget", false), ("BadLine", true), ("BadHandler", false), ("BadData", false), ("BadPass", false), ("BadText", false)] && (xkB K "BadTarget" [("BadCode", false), ("FallsOff", false), ("BadDepth", false), ("BadOrder", false), ("NoPath", false), ("BadIndex", false), ("NothingToUndo", false), ("BadInstruction", false), ("BadTarget", true), ("BadLine", false), ("BadHandler", false), ("BadData", false), ("BadPass", false), ("BadText", false)] && (xkB K "BadInstruction" [("BadCode", false), ("FallsOff", false), ("BadDepth", false), ("BadOrder", false), ("NoPath", false), ("BadIndex", false), ("NothingToUndo", false), ("BadInstruction", true), ("BadTarget", false), ("BadLine", false), ("BadHandler", false), ("BadData", false), ("BadPass", false), ("BadText", false)] && (xkB K "BadCode" [("BadCode", true), ("FallsOff", false), ("BadDepth", false), ("BadOrder", false), ("NoPath", false), ("BadIndex", false), ("NothingToUndo", false), ("BadInstruction", false), ("BadTarget", false), ("BadLine", false), ("BadHandler", false), ("BadData", false), ("BadPass", false), ("BadText", false)] && (xkB K "BadOrder" [("BadCode", false), ("FallsOff", false), ("BadDepth", false), ("BadOrder", true), ("NoPath", false), ("BadIndex", false), ("NothingToUndo", false), ("BadInstruction", false), ("BadTarget", false), ("BadLine", false), ("BadHandler", false), ("BadData", false), ("BadPass", false), ("BadText", false)] && (xkB K "BadDepth" [("BadCode", false), ("FallsOff", false), ("BadDepth", true), ("BadOrder", false), ("NoPath", false), ("BadIndex", false), ("NothingToUndo", false), ("BadInstruction", false), ("BadTarget", false), ("BadLine", false), ("BadHandler", false), ("BadData", false), ("BadPass", false), ("BadText", false)] && (xkB K "FallsOff" [("BadCode", false), ("FallsOff", true), ("BadDepth", false), ("BadOrder", false), ("NoPath", false), ("BadIndex", false), ("NothingToUndo", false), ("BadInstruction", false), ("BadTarget", false), ("BadLine", false), ("BadHandler", false), ("BadData", false), ("BadPass", false), ("BadText", false)] && (xkB K "BadHandler" [("BadCode", false), ("FallsOff", false), ("BadDepth", false), ("BadOrder", false), ("NoPath", false), ("BadIndex", false), ("NothingToUndo", false), ("BadInstruction", false), ("BadTarget", false), ("BadLine", false), ("BadHandler", true), ("BadData", false), ("BadPass", false), ("BadText", false)] && (xkB K "BadData" [("BadCode", false), ("FallsOff", false), ("BadDepth", false), ("BadOrder", false), ("NoPath", false), ("BadIndex", false), ("NothingToUndo", false), ("BadInstruction", false), ("BadTarget", false), ("BadLine", false), ("BadHandler", false), ("BadData", true), ("BadPass", false), ("BadText", false)] && (xkB K "BadIndex" [("BadCode", false), ("FallsOff", false), ("BadDepth", false), ("BadOrder", false), ("NoPath", false), ("BadIndex", true), ("NothingToUndo", false), ("BadInstruction", false), ("BadTarget", false), ("BadLine", false), ("BadHandler", false), ("BadData", false), ("BadPass", false), ("BadText", false)] && (xkB K "NoPath" [("BadCode", false), ("FallsOff", false), ("BadDepth", false), ("BadOrder", false), ("NoPath", true), ("BadIndex", false), ("NothingToUndo", false), ("BadInstruction", false), ("BadTarget", false), ("BadLine", false), ("BadHandler", false), ("BadData", false), ("BadPass", false), ("BadText", false)] && (xkB K "BadText" [("BadCode", false), ("FallsOff", false), ("BadDepth", false), ("BadOrder", false), ("NoPath", false), ("BadIndex", false), ("NothingToUndo", false), ("BadInstruction", false), ("BadTarget", false), ("BadLine", false), ("BadHandler", false), ("BadData", false), ("BadPass", false), ("BadText", true)] && (xkB K "BadPass" [("BadCode", false), ("FallsOff", false), ("BadDepth", false), ("BadOrder", false), ("NoPath", false), ("BadIndex", false), ("NothingToUndo", false), ("BadInstruction", false), ("BadTarget", false), ("BadLine", false), ("BadHandler", false), ("BadData", false), ("BadPass", true), ("BadText", false)] && (xkB K "NothingToUndo" [("BadCode", false), ("FallsOff", false), ("BadDepth", false), ("BadOrder", false), ("NoPath", false), ("BadIndex", false), ("NothingToUndo", true), ("BadInstruction", false), ("BadTarget", false), ("BadLine", false), ("BadHandler", false), ("BadData", false), ("BadPass", false), ("BadText", false)] && (xkyB K "ValueError" [("BadCode", true), ("FallsOff", true), ("BadDepth", true), ("BadOrder", true), ("NoPath", true), ("BadIndex", true), ("NothingToUndo", true), ("BadInstruction", true), ("BadTarget", true), ("BadLine", true), ("BadHandler", true), ("BadData", true), ("BadPass", true), ("BadText", true)] && (He.Fa.ok K (.glo "REMOVED") && (mapB K "REMOVED" c_REMOVED && (He.Fa.ok K (.glo "PUSHED") && (mapB K "PUSHED" c_PUSHED && (attB K "Unit" "code" && (attB K "Unit" "lines" && (attB K "Unit" "handlers" && (attB K "Unit" "found_depths" && (attB K "Bench" "present" && (attB K "Bench" "places" && (attB K "Bench" "applied" && (attB K "Bench" "past" && (He.Fa.ok K (.glo "Bench") && (He.Fa.ok K (.cls "Bench") && (He.Fa.ok K (.mkr "Bench") && (He.Fa.ok K (.meth "Bench" "after") && (He.Fa.ok K (.meth "Bench" "undo") && (He.Fa.ok K (.meth "Bench" "apply") && (He.Fa.ok K (.glo "Unit") && (He.Fa.ok K (.mkr "Unit") && (dfTB K ("Unit", some "__init__") 0 && true))))))))))))))))))))))))))))))))))))))))))))))))))))))))))
def looseL : List PySem.Str := (["_wall", "TableError", "BadCode", "FallsOff", "BadDepth", "BadOrder", "NoPath", "BadIndex", "NothingToUndo", "BadInstruction", "BadTarget", "BadLine", "BadHandler", "BadData", "BadPass", "BadText", "LETTERS", "PLAIN", "NAMED", "JUMPS", "LAST", "REMOVED", "PUSHED", "GREATEST", "LINES", "MOST", "in_range", "is_word", "fits_form", "is_handler"] : List PySem.Str) ++ (["raised_kind", "receiver", "moves", "check_parts", "depths_of", "Unit", "exits", "line_after", "arrivals", "line_sets", "witness", "arithmetic", "aimed", "kept_only", "remove_unreachable", "needless", "remove_skips", "unchanged", "simplify_jumps", "last_target", "thread_jumps", "folded_pair", "folded_three", "folded_at", "fold_constants", "optimize", "NAMES", "changed", "check_names", "Bench"] : List PySem.Str) ++ (["blocks", "check_order", "laid", "stretches", "reorder", "GROUP", "MOST_LINES", "unfolded", "unpacked", "read_stretches", "unpack_lines", "line_at", "FIGURES", "number_of", "item_of", "instruction_of", "handler_of", "read", "_law_begin", "_law_draw", "_law_first", "_law_second", "_law_kinds"] : List PySem.Str)
/-- what is looked at: every object that stands behind the top, up to the n-th address -/
def obsR (n : Nat) (fa : List He.Fa) (fn : List He.DefD) (ts : List He.Tab) (ex : PySem.W.Frag → Bool) (g : Addr → Option Obj) : He.AlX := (He.obsT fa fn ts (He.frT g (List.range n)), ex (He.frT g (List.range n)))
theorem saysR {n : Nat} {fa : List He.Fa} {fn : List He.DefD} {ts : List He.Tab} {ex : PySem.W.Frag → Bool} {w : World} {h : Heap} (e : obsR n fa fn ts ex h.get? = He.valX fn ts w) : He.SaysX fa fn ts [] ex w h (He.frT h.get? (List.range n)) :=
  ⟨congrArg Prod.fst e, congrArg Prod.snd e, fun _ z => absurd z List.not_mem_nil, fun _ z => absurd z List.not_mem_nil, fun _ z => absurd z List.not_mem_nil⟩
def hookR (n : Nat) (fa : List He.Fa) (fn : List He.DefD) (ts : List He.Tab) (ex : PySem.W.Frag → Bool) : PySem.W.Hook where
  α := He.AlX
  obs := fun s => obsR n fa fn ts ex s.heap.get?
  val := fun w => He.valX fn ts w
  says := fun w h => ∃ K : PySem.W.Frag, K.In h ∧ He.SaysX fa fn ts [] ex w h K
  of := fun _ _ e => ⟨_, He.frT_in, saysR e⟩
  keeps := fun _ _ _ z k => z.elim fun K c => ⟨K, PySem.W.Frag.In.keeps c.1 k, ⟨c.2.t, c.2.more, c.2.hd, c.2.out, fun p hp => k _ _ (c.2.empty p hp)⟩⟩
abbrev RR : PySem.W.OpenRow := PySem.W.OpenLaw.row PySem.Challenge.rw_codetables_k36_errors_are_apart
abbrev hk : PySem.W.Hook := hookR 2000 faL fnL tsL exB
def ob (s : PySem.W.SharedT) : He.AlX := obsR 2000 faL fnL tsL exB (HandSHeadRun.getT s)
theorem ob_eq (s : PySem.W.SharedT) : ob s = hk.obs s.abs := congrArg (obsR 2000 faL fnL tsL exB) (funext (HandSHeadRun.getT_eq s))
theorem run_t (w : World) : HandSHeadRun.RunEq RR (PySem.W.view RR.prog [94]) hk ob 9000 looseL (w.withFollow "special-get-raises" true) := by
  intro os
  kernel_rfl
theorem run_f (w : World) : HandSHeadRun.RunEq RR (PySem.W.view RR.prog [94]) hk ob 9000 looseL (w.withFollow "special-get-raises" false) := by
  intro os
  kernel_rfl
theorem run (w : World) : HandSHeadRun.RunEq RR (PySem.W.view RR.prog [94]) hk ob 9000 looseL w := by
  have h : ∀ b, HandSHeadRun.RunEq RR (PySem.W.view RR.prog [94]) hk ob 9000 looseL (w.withFollow "special-get-raises" b) := fun b => by
    cases b with
    | true => exact run_t w
    | false => exact run_f w
  have := h (w.params.followText "special-get-raises")
  rwa [World.withFollow_self] at this
end Law
/-! Pv1: plain values, the store of changing objects, what stands for what, readings by functions. -/
namespace Pv
open PySem PySem.Spec PyProof.Rows L2
/-- kinds of objects with parts -/
inductive Kd where
  | tup | lst | ins (c : Str) (ns : List Str) | dk (ks : List Key) | dt (ks : List (List Key)) | dm (hs : List (Bool × Int))
  deriving DecidableEq
/-- how an object stands that doesn't change while it is looked at: for good, lent for a call, or outside (locked, or written by the text's top) -/
inductive Md where
  | own | lent | out
  deriving DecidableEq
/-- plain values: con m k xs stands for an object that doesn't change while it is looked at; ref n for the n-th changing object -/
inductive PV where
  | non | bl (b : Bool) | int (i : Int) | str (s : Str) | con (m : Md) (k : Kd) (xs : List PV) | ref (n : Nat) | fn (x : Str) | ty (n : String)
abbrev Sto := List (Option (Kd × List PV))
abbrev Gam := List (Option PV)
inductive R (α : Type) where
  | ok (a : α) (S : Sto) | ex (c : Str) (fs : List (Str × PV)) (S : Sto) | bad
def R.bind {α β : Type} (r : R α) (k : α → Sto → R β) : R β := match r with
  | .ok a S => k a S
  | .ex c fs S => .ex c fs S
  | .bad => .bad
structure G where
  F : Addr → Prop
  T : Addr → Prop
  r : Nat → Addr
/-- the entries of a dict whose keys are ints (true) and other things (false), by their hashes -/
def MixE (hs : List (Bool × Int)) (vs : List V) (es : List DictEntry) : Prop :=
  es.length = hs.length ∧ es.length = vs.length ∧ ∀ (j : Nat) (e : DictEntry), es[j]? = some e → ∃ p v, hs[j]? = some p ∧ vs[j]? = some v ∧ e.hash = p.2 ∧ RelV v e.val ∧ (p.1 = true → ∃ t, e.key = .int p.2 t) ∧ (p.1 = false → ∃ a, e.key = .ref a)
def HOof (mg : Str → Option Value) : Kd → List V → HO → Prop
  | .tup, vs, o => o = .tup vs
  | .lst, vs, o => o = .lst vs
  | .ins c ns, vs, o => ∃ C dx, mg c = some (.ref C) ∧ ns.length = vs.length ∧ o = .ins C dx (ns.zip vs)
  | .dk ks, vs, o => ks.length = vs.length ∧ o = .dK (ks.zip vs)
  | .dt ks, vs, o => ks.length = vs.length ∧ o = .dT (ks.zip vs)
  | .dm hs, vs, o => ∃ (D : Addr) (es : Array DictEntry) (ep : Nat), o = .ext (fun h => h.get? D = some { cls := .type "dict", dict := none, data := .dict es ep }) ∧ MixE hs vs es.toList
/-- the written part and what the module's names hold -/
structure Kx where
  K : PySem.W.Frag
  mg : Str → Option Value
def kx (X : Cx) : Kx := ⟨X.K, X.mg⟩
instance : Coe Cx Kx := ⟨kx⟩
/-- an object of the written part -/
def Wr (K : PySem.W.Frag) (a : Addr) : Kd → List V → Prop
  | .lst, xs => ∃ (o : Obj) (its : Array Value) (n : Nat), K.lookup a = some o ∧ o.cls = .type "list" ∧ o.dict = none ∧ o.data = .seq its n ∧ its.size ≤ sizeLine ∧ Vals xs its.toList
  | .tup, xs => ∃ (o : Obj) (its : Array Value) (n : Nat), K.lookup a = some o ∧ o.cls = .type "tuple" ∧ o.data = .seq its n ∧ its.size ≤ sizeLine ∧ Vals xs its.toList
  | _, _ => False
/-- what may be read at a as (k, vs) -/
def At (X : Kx) (H : Hp) (g : G) (m : Md) (a : Addr) (k : Kd) (vs : List V) : Prop := match m with
  | .own => ∃ o, HOof X.mg k vs o ∧ H a = some o ∧ (Mut (some o) → g.F a)
  | .lent => ∃ o, HOof X.mg k vs o ∧ H a = some o ∧ (Mut (some o) → g.T a)
  | .out => (∃ ob o, HOof X.mg k vs o ∧ H a = some (.frz ob o)) ∨ Wr X.K a k vs
mutual
def RV (X : Kx) (H : Hp) (g : G) (L : Nat) : PV → V → Prop
  | .non, v => v = .non
  | .bl b, v => v = .bl b
  | .int i, v => v = .int i
  | .str s, v => v = .str s
  | .con m k xs, v => ∃ a vs, v = .ref a ∧ At X H g m a k vs ∧ RVs X H g L xs vs
  | .ref n, v => n < L ∧ v = .ref (g.r n)
  | .fn x, v => ∃ a, X.mg x = some (.ref a) ∧ v = .ref a
  | .ty n, v => v = .ty n
def RVs (X : Kx) (H : Hp) (g : G) (L : Nat) : List PV → List V → Prop
  | [], vs => vs = []
  | x :: xs, vs => ∃ v r, vs = v :: r ∧ RV X H g L x v ∧ RVs X H g L xs r
end
/-- alive in the store -/
def Al (S : Sto) (n : Nat) : Prop := ∃ q, S[n]? = some (some q)
structure Rel (X : Kx) (H : Hp) (g : G) (S : Sto) : Prop where
  ob : ∀ n k xs, S[n]? = some (some (k, xs)) → ∃ o vs, H (g.r n) = some o ∧ HOof X.mg k vs o ∧ k ≠ .tup ∧ RVs X H g S.length xs vs
  inj : ∀ n m, Al S n → Al S m → g.r n = g.r m → n = m
  fF : ∀ n, Al S n → ¬ g.F (g.r n)
  fT : ∀ n, Al S n → ¬ g.T (g.r n)
  tr : ∀ a, g.F a ∨ g.T a → ∃ o, H a = some o
structure Ext (X : Kx) (H : Hp) (g : G) (S : Sto) (H' : Hp) (g' : G) (S' : Sto) : Prop where
  rel : Rel X H' g' S'
  frame : ∀ a o, H a = some o → (∀ n, Al S n → g.r n ≠ a) → H' a = some o
  old : ∀ n, Al S' n → (Al S n ∧ g'.r n = g.r n) ∨ H (g'.r n) = none
  rho : ∀ n, n < S.length → g'.r n = g.r n
  len : S.length ≤ S'.length
  fr : ∀ a, g.F a → g'.F a
  tt : g'.T = g.T
  trk : ∀ a o, H a = some o → ∃ o', H' a = some o'
  nf : ∀ a, g'.F a → g.F a ∨ H a = none ∨ ∃ n, Al S n ∧ g.r n = a
section
variable {X : Kx} {H H' H'' : Hp} {g g' g'' : G} {S S' S'' : Sto}
theorem HOof.mut {mg : Str → Option Value} {k : Kd} {vs : List V} {o : HO} (h : HOof mg k vs o) (hk : k ≠ .tup) : Mut (some o) := by
  cases k with
  | tup => exact absurd rfl hk
  | lst => cases h; exact trivial
  | ins c ns => obtain ⟨_, _, _, _, rfl⟩ := h; exact trivial
  | dk ks => obtain ⟨_, rfl⟩ := h; exact trivial
  | dt ks => obtain ⟨_, rfl⟩ := h; exact trivial
  | dm hs => obtain ⟨_, _, _, rfl, _⟩ := h; exact trivial
theorem Rel.mut (x : Rel X H g S) {n : Nat} (h : Al S n) : Mut (H (g.r n)) := by
  obtain ⟨⟨k, xs⟩, e⟩ := h
  obtain ⟨o, vs, e1, ho, hk, _⟩ := x.ob n k xs e
  rw [e1]
  exact ho.mut hk
/-- what is read stays -/
structure Up (H : Hp) (g : G) (L : Nat) (H' : Hp) (g' : G) (L' : Nat) : Prop where
  keep : ∀ a o, H a = some o → (Mut (some o) → g.F a ∨ g.T a) → H' a = some o
  fr : ∀ a, g.F a → g'.F a
  tt : ∀ a, g.T a → g'.T a
  rho : ∀ n, n < L → g'.r n = g.r n
  len : L ≤ L'
theorem At.mono {L L' : Nat} {m : Md} {a : Addr} {k : Kd} {vs : List V} (u : Up H g L H' g' L') (h : At X H g m a k vs) : At X H' g' m a k vs := by
  cases m with
  | own => obtain ⟨o, h1, h2, h3⟩ := h; exact ⟨o, h1, u.keep a o h2 fun z => Or.inl (h3 z), fun z => u.fr a (h3 z)⟩
  | lent => obtain ⟨o, h1, h2, h3⟩ := h; exact ⟨o, h1, u.keep a o h2 fun z => Or.inr (h3 z), fun z => u.tt a (h3 z)⟩
  | out =>
    rcases h with ⟨ob, o, h1, h2⟩ | h
    · exact Or.inl ⟨ob, o, h1, u.keep a _ h2 fun z => False.elim z⟩
    · exact Or.inr h
mutual
theorem RV.mono {L L' : Nat} (u : Up H g L H' g' L') : ∀ (p : PV) (v : V), RV X H g L p v → RV X H' g' L' p v
  | .non, _, h => h
  | .bl _, _, h => h
  | .int _, _, h => h
  | .str _, _, h => h
  | .fn _, _, h => h
  | .ty _, _, h => h
  | .ref n, v, h => by
    simp only [RV] at h ⊢
    obtain ⟨h1, h2⟩ := h
    exact ⟨Nat.lt_of_lt_of_le h1 u.len, by rw [u.rho n h1]; exact h2⟩
  | .con m k xs, v, h => by
    simp only [RV] at h ⊢
    obtain ⟨a, vs, h1, h2, h3⟩ := h
    exact ⟨a, vs, h1, h2.mono u, RVs.mono u xs vs h3⟩
theorem RVs.mono {L L' : Nat} (u : Up H g L H' g' L') : ∀ (p : List PV) (v : List V), RVs X H g L p v → RVs X H' g' L' p v
  | [], _, h => h
  | x :: xs, vs, h => by
    simp only [RVs] at h ⊢
    obtain ⟨v, r, h1, h2, h3⟩ := h
    exact ⟨v, r, h1, RV.mono u x v h2, RVs.mono u xs r h3⟩
end
theorem Ext.up (rel : Rel X H g S) (e : Ext X H g S H' g' S') : Up H g S.length H' g' S'.length where
  keep := fun a o h k => e.frame a o h fun n hn z => by
    subst z
    have m := rel.mut hn
    rw [h] at m
    rcases k m with q | q
    · exact rel.fF n hn q
    · exact rel.fT n hn q
  fr := e.fr
  tt := fun a h => by rw [e.tt]; exact h
  rho := e.rho
  len := e.len
theorem RV.up (rel : Rel X H g S) (e : Ext X H g S H' g' S') (p : PV) (v : V) (h : RV X H g S.length p v) : RV X H' g' S'.length p v := RV.mono (e.up rel) p v h
theorem RVs.up (rel : Rel X H g S) (e : Ext X H g S H' g' S') (p : List PV) (v : List V) (h : RVs X H g S.length p v) : RVs X H' g' S'.length p v := RVs.mono (e.up rel) p v h
theorem Ext.refl (rel : Rel X H g S) : Ext X H g S H g S := ⟨rel, fun _ _ h _ => h, fun _ h => Or.inl ⟨h, rfl⟩, fun _ _ => rfl, Nat.le_refl _, fun _ h => h, rfl, fun _ o h => ⟨o, h⟩, fun _ h => Or.inl h⟩
theorem Ext.trans (a : Ext X H g S H' g' S') (b : Ext X H' g' S' H'' g'' S'') : Ext X H g S H'' g'' S'' where
  rel := b.rel
  frame := fun x o h hn => b.frame x o (a.frame x o h hn) fun n hn' z => by
    rcases a.old n hn' with ⟨h1, h2⟩ | h1
    · exact hn n h1 (h2.symm.trans z)
    · rw [z, h] at h1; cases h1
  old := fun n hn => by
    rcases b.old n hn with ⟨h1, h2⟩ | h1
    · rw [h2]
      exact a.old n h1
    · cases q : H (g''.r n) with
      | none => exact Or.inr rfl
      | some o =>
        obtain ⟨o', h2⟩ := a.trk _ o q
        rw [h1] at h2; cases h2
  rho := fun n h => (b.rho n (Nat.lt_of_lt_of_le h a.len)).trans (a.rho n h)
  len := Nat.le_trans a.len b.len
  fr := fun x h => b.fr x (a.fr x h)
  tt := b.tt.trans a.tt
  trk := fun x o h => by
    obtain ⟨o', h'⟩ := a.trk x o h
    exact b.trk x o' h'
  nf := fun x h => by
    rcases b.nf x h with h | h | ⟨n, hn, rfl⟩
    · exact a.nf x h
    · cases q : H x with
      | none => exact Or.inr (Or.inl rfl)
      | some o =>
        obtain ⟨o', h2⟩ := a.trk x o q
        rw [h] at h2; cases h2
    · rcases a.old n hn with ⟨h1, h2⟩ | h1
      · exact Or.inr (Or.inr ⟨n, h1, h2.symm⟩)
      · exact Or.inr (Or.inl h1)
/-! ### slots -/
structure RG (X : Kx) (H : Hp) (g : G) (L : Nat) (Γ : Gam) (σ : L2.St) : Prop where
  len : Γ.length = σ.length
  at_ : ∀ (i : Nat) (p : PV), Γ[i]? = some (some p) → ∃ v, σ[i]? = some (some v) ∧ RV X H g L p v
theorem RG.up {Γ : Gam} {σ : L2.St} (rel : Rel X H g S) (e : Ext X H g S H' g' S') (h : RG X H g S.length Γ σ) : RG X H' g' S'.length Γ σ :=
  ⟨h.len, fun i p q => by
    obtain ⟨v, h1, h2⟩ := h.at_ i p q
    exact ⟨v, h1, RV.up rel e p v h2⟩⟩
theorem RG.set {Γ : Gam} {σ : L2.St} {L : Nat} {i : Nat} {p : PV} {v : V} (h : RG X H g L Γ σ) (r : RV X H g L p v) : RG X H g L (Γ.set i (some p)) (σ.set i (some v)) := by
  refine ⟨by rw [List.length_set, List.length_set]; exact h.len, fun j q e => ?_⟩
  by_cases hij : i = j
  · subst hij
    rw [List.getElem?_set] at e ⊢
    rw [if_pos rfl] at e ⊢
    by_cases hl : i < Γ.length
    · rw [if_pos hl] at e
      rw [if_pos (h.len ▸ hl)]
      cases e
      exact ⟨v, rfl, r⟩
    · rw [if_neg hl] at e; cases e
  · rw [List.getElem?_set_ne hij] at e ⊢
    exact h.at_ j q e
theorem RG.unset {Γ : Gam} {σ : L2.St} {L : Nat} {i : Nat} (h : RG X H g L Γ σ) : RG X H g L (Γ.set i none) (σ.set i none) := by
  refine ⟨by rw [List.length_set, List.length_set]; exact h.len, fun j q e => ?_⟩
  by_cases hij : i = j
  · subst hij
    rw [List.getElem?_set] at e
    rw [if_pos rfl] at e
    by_cases hl : i < Γ.length
    · rw [if_pos hl] at e; cases e
    · rw [if_neg hl] at e; cases e
  · rw [List.getElem?_set_ne hij] at e ⊢
    exact h.at_ j q e
/-! ### an exception, as plain data -/
def RX (X : Kx) (H : Hp) (g : G) (L : Nat) (c : Str) (fs : List (Str × PV)) (cls : Value) (d : Option Addr) : Prop :=
  X.mg c = some cls ∧ ((fs = [] ∧ d = none) ∨ ∃ dx vs, d = some dx ∧ H dx = some (.xd ((fs.map (·.1)).zip vs)) ∧ RVs X H g L (fs.map (·.2)) vs)
/-! ### what a result is worth, from (H, g, S) on; σ: the slots at a raise -/
def OKw {α : Type} (X : Kx) (W : WX) (σ : L2.St) (H : Hp) (g : G) (S : Sto) (r : R α) (P : α → Sto → G → Hp → Prop) : Prop := match r with
  | .ok v S' => ∀ g' H', Ext X H g S H' g' S' → P v S' g' H'
  | .ex c fs S' => ∀ g' H' cls d, Ext X H g S H' g' S' → RX X H' g' S'.length c fs cls d → W cls d σ H'
  | .bad => False
theorem OKw.bind {α β : Type} {W : WX} {σ : L2.St} {r : R α} {k : α → Sto → R β} {P : β → Sto → G → Hp → Prop} (h : OKw X W σ H g S (r.bind k) P) :
    OKw X W σ H g S r fun v S1 g1 H1 => OKw X W σ H1 g1 S1 (k v S1) P := by
  cases r with
  | ok v S1 =>
    intro g1 H1 e1
    have h : OKw X W σ H g S (k v S1) P := h
    show OKw X W σ H1 g1 S1 (k v S1) P
    cases q : k v S1 with
    | ok w S2 =>
      rw [q] at h
      exact fun g2 H2 e2 => h g2 H2 (e1.trans e2)
    | ex c fs S2 =>
      rw [q] at h
      exact fun g2 H2 cls d e2 rx => h g2 H2 cls d (e1.trans e2) rx
    | bad => rw [q] at h; exact h
  | ex c fs S1 => exact h
  | bad => exact h
theorem OKw.mono {α : Type} {W : WX} {σ : L2.St} {r : R α} {P P' : α → Sto → G → Hp → Prop} (h : OKw X W σ H g S r P) (hP : ∀ v S' g' H', r = .ok v S' → Ext X H g S H' g' S' → P v S' g' H' → P' v S' g' H') : OKw X W σ H g S r P' := by
  cases r with
  | ok v S1 => exact fun g1 H1 e1 => hP v S1 g1 H1 rfl e1 (h g1 H1 e1)
  | ex c fs S1 => exact h
  | bad => exact h
end
section
variable {X : Cx} {H H' H'' : Hp} {g g' g'' : G} {S S' S'' : Sto}
/-! ### readings by functions -/
abbrev EF := Gam → Sto → R PV
abbrev BF := Gam → Sto → R Bool
abbrev AF := Gam → Sto → R (List PV)
def lift (X : Cx) (W : WX) (t : EF) : TE := fun σ H Q => ∃ g Γ S, Rel X H g S ∧ RG X H g S.length Γ σ ∧ OKw X W σ H g S (t Γ S) fun v S' g' H' => ∀ x, RV X H' g' S'.length v x → Q x H'
def liftB (X : Cx) (W : WX) (t : BF) : TT := fun σ H Q => ∃ g Γ S, Rel X H g S ∧ RG X H g S.length Γ σ ∧ OKw X W σ H g S (t Γ S) fun b _ _ H' => Q b H'
def liftA (X : Cx) (W : WX) (t : AF) : TA := fun σ H Q => ∃ g Γ S, Rel X H g S ∧ RG X H g S.length Γ σ ∧ OKw X W σ H g S (t Γ S) fun vs S' g' H' => ∀ xs, RVs X H' g' S'.length vs xs → Q xs H'
/-- an expression computes t -/
def E (X : Cx) (W : WX) (e : Expr) (t : EF) : Prop := PE X e (lift X W t)
def B (X : Cx) (W : WX) (e : Expr) (t : BF) : Prop := PT X e (liftB X W t)
def A (X : Cx) (W : WX) (es : List Expr) (t : AF) : Prop := PA X es (liftA X W t)
theorem pe_imp {e : Expr} {t t' : TE} (h : PE X e t) (k : ∀ σ H Q, t' σ H Q → t σ H Q) : PE X e t' := ⟨fun pins s σ H Q I q => h.run pins s σ H Q I (k σ H Q q)⟩
theorem pt_imp {e : Expr} {t t' : TT} (h : PT X e t) (k : ∀ σ H Q, t' σ H Q → t σ H Q) : PT X e t' := ⟨fun pins s σ H Q I q => h.run pins s σ H Q I (k σ H Q q)⟩
theorem pa_imp {e : List Expr} {t t' : TA} (h : PA X e t) (k : ∀ σ H Q, t' σ H Q → t σ H Q) : PA X e t' := ⟨fun pos pins s σ H Q I q => h.run pos pins s σ H Q I (k σ H Q q)⟩
/-! names and constants -/
def eV (i : Nat) : EF := fun Γ S => match Γ[i]? with
  | some (some v) => .ok v S
  | _ => .bad
def eC (v : PV) : EF := fun _ S => .ok v S
variable {W : WX}
theorem OKw.ok {α : Type} {W : WX} {σ : L2.St} {v : α} {P : α → Sto → G → Hp → Prop} (rel : Rel X H g S) (h : OKw X W σ H g S (.ok v S) P) : P v S g H := h g H (Ext.refl rel)
theorem E.var {i : Nat} {x : Str} {pos : Pos} (h : PE X (.Name x pos) (tVar i)) : E X W (.Name x pos) (eV i) := pe_imp h fun σ H Q ⟨g, Γ, S, rel, rg, ok⟩ => by
  unfold eV at ok
  split at ok
  · rename_i v e
    obtain ⟨x, h1, h2⟩ := rg.at_ i v e
    exact ⟨x, h1, OKw.ok rel ok x h2⟩
  · exact ok.elim
theorem E.const {e : Expr} {v : V} {p : PV} (h : PE X e (tC v)) (hp : ∀ H g L, RV X H g L p v) : E X W e (eC p) := pe_imp h fun σ H Q ⟨g, Γ, S, rel, rg, ok⟩ => OKw.ok rel ok v (hp H g S.length)
theorem E.int {i : Int} {j pos} : E X W (.Constant (.int i) j pos) (eC (.int i)) := E.const pe_int fun _ _ _ => rfl
theorem E.bl {b : Bool} {j pos} : E X W (.Constant (.bool b) j pos) (eC (.bl b)) := E.const pe_bl fun _ _ _ => rfl
theorem E.non {j pos} : E X W (.Constant .none j pos) (eC .non) := E.const pe_non fun _ _ _ => rfl
theorem E.str {x : Str} {j pos} : E X W (.Constant (.str x) j pos) (eC (.str x)) := E.const pe_str fun _ _ _ => rfl
/-! two-place operations, by values -/
abbrev OF := PV → PV → Sto → Option (PV × Sto)
def R.of {α : Type} : Option (α × Sto) → R α
  | some (v, S) => .ok v S
  | none => .bad
def eOp (f : OF) (a b : EF) : EF := fun Γ S => (a Γ S).bind fun x S1 => (b Γ S1).bind fun y S2 => R.of (f x y S2)
/-- r may be asked where f gives a value -/
def OpF (X : Kx) (r : R2) (f : OF) : Prop := ∀ (H : Hp) (g : G) (S : Sto) (p q : PV) (x y : V) (w : PV) (S' : Sto) (Q : VK), Rel X H g S → RV X H g S.length p x → RV X H g S.length q y → f p q S = some (w, S') →
  (∀ g' H' z, Ext X H g S H' g' S' → RV X H' g' S'.length w z → Q z H') → r x y H Q
theorem lift_op {r : R2} {f : OF} {a b : EF} (hf : OpF X r f) {σ : L2.St} {H : Hp} {Q : VK} (h : lift X W (eOp f a b) σ H Q) : tOp r (lift X W a) (lift X W b) σ H Q := by
  obtain ⟨g, Γ, S, rel, rg, ok⟩ := h
  refine ⟨g, Γ, S, rel, rg, OKw.mono (OKw.bind ok) fun p S1 g1 H1 _ e1 h1 x rx => ?_⟩
  refine ⟨g1, Γ, S1, e1.rel, rg.up rel e1, OKw.mono (OKw.bind h1) fun q S2 g2 H2 _ e2 h2 y ry => ?_⟩
  cases hw : f p q S2 with
  | none => rw [hw] at h2; exact h2.elim
  | some z =>
    obtain ⟨w, S3⟩ := z
    rw [hw] at h2
    exact hf H2 g2 S2 p q x y w S3 Q e2.rel (RV.up e1.rel e2 p x rx) ry hw fun g' H' z e3 rz => h2 g' H' e3 z rz
theorem E.op {op : Operator} {r : R2} {f : OF} {a b : Expr} {ta tb : EF} {pos : Pos} (ho : OpR X (binaryOp op) r) (hf : OpF X r f) (ha : E X W a ta) (hb : E X W b tb) : E X W (.BinOp a op b pos) (eOp f ta tb) :=
  pe_imp (pe_op ho ha hb) fun _ _ _ h => lift_op hf h
end
end Pv
/-! Pv2: objects laid, changed, read; operations by values. -/
namespace Pv
open PySem PySem.Spec PyProof.Rows L2
section
variable {X : Kx} {H H' H'' : Hp} {g g' g'' : G} {S S' S'' : Sto} {W : WX}
theorem Al.lt {n : Nat} (h : Al S n) : n < S.length := by
  obtain ⟨q, e⟩ := h
  exact (List.getElem?_eq_some_iff.mp e).1
theorem Rel.tracked (rel : Rel X H g S) {n : Nat} (h : Al S n) : ∃ o, H (g.r n) = some o := by
  obtain ⟨⟨k, xs⟩, e⟩ := h
  obtain ⟨o, vs, e1, _⟩ := rel.ob n k xs e
  exact ⟨o, e1⟩
/-! ### a new object -/
def newP (m : Bool) (k : Kd) (xs : List PV) (S : Sto) : PV × Sto := if m then (.ref S.length, S ++ [some (k, xs)]) else (.con .own k xs, S)
def G.addF (g : G) (p : Addr) : G := { g with F := fun a => g.F a ∨ a = p }
def G.addR (g : G) (n : Nat) (p : Addr) : G := { g with r := fun i => if i = n then p else g.r i }
theorem up_addF {p : Addr} {o : HO} {L : Nat} (hp : H p = none) : Up H g L (upd H p o) (g.addF p) L :=
  ⟨fun a u h _ => by rw [upd_ne (ne_of_none h hp)]; exact h, fun _ h => Or.inl h, fun _ h => h, fun _ _ => rfl, Nat.le_refl _⟩
theorem up_addR {p : Addr} {o : HO} {L : Nat} (hp : H p = none) : Up H g L (upd H p o) (g.addR L p) (L + 1) :=
  ⟨fun a u h _ => by rw [upd_ne (ne_of_none h hp)]; exact h, fun _ h => h, fun _ h => h, fun n h => if_neg (Nat.ne_of_lt h), Nat.le_succ _⟩
theorem newF_ok {k : Kd} {xs : List PV} {vs : List V} {p : Addr} {o : HO} (rel : Rel X H g S) (hp : H p = none) (ho : HOof X.mg k vs o) (hr : RVs X H g S.length xs vs) :
    Ext X H g S (upd H p o) (g.addF p) S ∧ RV X (upd H p o) (g.addF p) S.length (.con .own k xs) (.ref p) := by
  have hne : ∀ n, Al S n → g.r n ≠ p := fun n hn z => by
    obtain ⟨u, e⟩ := rel.tracked hn
    rw [z, hp] at e; cases e
  refine ⟨⟨⟨fun n k' xs' e => ?_, rel.inj, fun n hn z => ?_, rel.fT, fun a z => ?_⟩, fun a u h _ => by rw [upd_ne (ne_of_none h hp)]; exact h, fun n hn => Or.inl ⟨hn, rfl⟩, fun _ _ => rfl, Nat.le_refl _, fun _ h => Or.inl h, rfl, fun a u h => ⟨u, by rw [upd_ne (ne_of_none h hp)]; exact h⟩, fun a h => h.elim Or.inl fun z => Or.inr (Or.inl (z ▸ hp))⟩, ?_⟩
  · obtain ⟨u, ws, h1, h2, h3, h4⟩ := rel.ob n k' xs' e
    exact ⟨u, ws, by show upd H p o (g.r n) = _; rw [upd_ne (hne n ⟨_, e⟩)]; exact h1, h2, h3, RVs.mono (up_addF hp) _ _ h4⟩
  · rcases z with z | z
    · exact rel.fF n hn z
    · exact hne n hn z
  · by_cases e : a = p
    · exact ⟨o, by rw [e, upd_same]⟩
    · rw [upd_ne e]
      refine rel.tr a ?_
      rcases z with (z | z) | z
      · exact Or.inl z
      · exact absurd z e
      · exact Or.inr z
  · simp only [RV]
    exact ⟨p, vs, rfl, ⟨o, ho, upd_same, fun _ => Or.inr rfl⟩, RVs.mono (up_addF hp) _ _ hr⟩
theorem newM_ok {k : Kd} {xs : List PV} {vs : List V} {p : Addr} {o : HO} (rel : Rel X H g S) (hp : H p = none) (ho : HOof X.mg k vs o) (hk : k ≠ .tup) (hr : RVs X H g S.length xs vs) :
    Ext X H g S (upd H p o) (g.addR S.length p) (S ++ [some (k, xs)]) ∧ RV X (upd H p o) (g.addR S.length p) (S ++ [some (k, xs)]).length (.ref S.length) (.ref p) := by
  have hne : ∀ n, Al S n → g.r n ≠ p := fun n hn z => by
    obtain ⟨u, e⟩ := rel.tracked hn
    rw [z, hp] at e; cases e
  have hlen : (S ++ [some (k, xs)]).length = S.length + 1 := by simp
  have hal : ∀ n, Al (S ++ [some (k, xs)]) n → (Al S n ∧ (g.addR S.length p).r n = g.r n) ∨ (n = S.length ∧ (g.addR S.length p).r n = p) := fun n hn => by
    obtain ⟨q, e⟩ := hn
    by_cases hl : n < S.length
    · rw [List.getElem?_append_left hl] at e
      exact Or.inl ⟨⟨q, e⟩, if_neg (Nat.ne_of_lt hl)⟩
    · have : n = S.length := by
        have := (List.getElem?_eq_some_iff.mp e).1
        rw [hlen] at this
        omega
      exact Or.inr ⟨this, if_pos this⟩
  refine ⟨⟨⟨fun n k' xs' e => ?_, fun n m hn hm e => ?_, fun n hn z => ?_, fun n hn z => ?_, fun a z => ?_⟩, fun a u h _ => by rw [upd_ne (ne_of_none h hp)]; exact h, fun n hn => ?_, fun n hn => if_neg (Nat.ne_of_lt hn), by rw [hlen]; exact Nat.le_succ _, fun _ h => h, rfl, fun a u h => ⟨u, by rw [upd_ne (ne_of_none h hp)]; exact h⟩, fun _ h => Or.inl h⟩, ?_⟩
  · rw [hlen]
    rcases hal n ⟨_, e⟩ with ⟨h1, h2⟩ | ⟨h1, h2⟩
    · rw [List.getElem?_append_left h1.lt] at e
      obtain ⟨u, ws, q1, q2, q3, q4⟩ := rel.ob n k' xs' e
      exact ⟨u, ws, by rw [h2, upd_ne (hne n h1)]; exact q1, q2, q3, RVs.mono (up_addR hp) _ _ q4⟩
    · subst h1
      rw [List.getElem?_append_right (Nat.le_refl _)] at e
      simp only [Nat.sub_self, List.getElem?_cons_zero, Option.some.injEq, Prod.mk.injEq] at e
      obtain ⟨e1, e2⟩ := e
      subst e1 e2
      exact ⟨o, vs, by rw [h2, upd_same], ho, hk, RVs.mono (up_addR hp) _ _ hr⟩
  · rcases hal n hn with ⟨h1, h2⟩ | ⟨h1, h2⟩
    · rcases hal m hm with ⟨h3, h4⟩ | ⟨h3, h4⟩
      · rw [h2, h4] at e
        exact rel.inj n m h1 h3 e
      · rw [h2, h4] at e
        exact absurd e (hne n h1)
    · rcases hal m hm with ⟨h3, h4⟩ | ⟨h3, h4⟩
      · rw [h2, h4] at e
        exact absurd e.symm (hne m h3)
      · exact h1.trans h3.symm
  · have z : g.F ((g.addR S.length p).r n) := z
    rcases hal n hn with ⟨h1, h2⟩ | ⟨h1, h2⟩
    · rw [h2] at z
      exact rel.fF n h1 z
    · rw [h2] at z
      obtain ⟨u, q⟩ := rel.tr p (Or.inl z)
      rw [hp] at q; cases q
  · have z : g.T ((g.addR S.length p).r n) := z
    rcases hal n hn with ⟨h1, h2⟩ | ⟨h1, h2⟩
    · rw [h2] at z
      exact rel.fT n h1 z
    · rw [h2] at z
      obtain ⟨u, q⟩ := rel.tr p (Or.inr z)
      rw [hp] at q; cases q
  · by_cases e : a = p
    · exact ⟨o, by rw [e, upd_same]⟩
    · rw [upd_ne e]
      exact rel.tr a z
  · rcases hal n hn with ⟨h1, h2⟩ | ⟨h1, h2⟩
    · exact Or.inl ⟨h1, h2⟩
    · exact Or.inr (by rw [h2]; exact hp)
  · simp only [RV]
    exact ⟨by rw [hlen]; exact Nat.lt_succ_self _, by show V.ref p = V.ref ((g.addR S.length p).r S.length); rw [show (g.addR S.length p).r S.length = p from if_pos rfl]⟩
theorem new_ok {m : Bool} {k : Kd} {xs : List PV} {vs : List V} {p : Addr} {o : HO} (rel : Rel X H g S) (hp : H p = none) (ho : HOof X.mg k vs o) (hk : k ≠ .tup) (hr : RVs X H g S.length xs vs) :
    ∃ g', Ext X H g S (upd H p o) g' (newP m k xs S).2 ∧ RV X (upd H p o) g' (newP m k xs S).2.length (newP m k xs S).1 (.ref p) := by
  cases m with
  | true => exact ⟨_, newM_ok rel hp ho hk hr⟩
  | false => exact ⟨_, newF_ok rel hp ho hr⟩
/-! ### a changing object gets another content -/
theorem set_ok {n : Nat} {k k' : Kd} {xs xs' : List PV} {vs' : List V} {o' : HO} (rel : Rel X H g S) (hn : S[n]? = some (some (k, xs))) (ho : HOof X.mg k' vs' o') (hk : k' ≠ .tup) (hr : RVs X H g S.length xs' vs') :
    Ext X H g S (upd H (g.r n) o') g (S.set n (some (k', xs'))) := by
  have an : Al S n := ⟨_, hn⟩
  have hlen : (S.set n (some (k', xs'))).length = S.length := List.length_set
  have hal : ∀ i, Al (S.set n (some (k', xs'))) i → Al S i := fun i ⟨q, e⟩ => by
    by_cases z : n = i
    · subst z; exact an
    · rw [List.getElem?_set_ne z] at e; exact ⟨q, e⟩
  have mu := rel.mut an
  have up : Up H g S.length (upd H (g.r n) o') g S.length := ⟨fun a u h z => by
    refine (upd_ne fun e => ?_).trans h
    subst e
    rw [h] at mu
    rcases z mu with z | z
    · exact rel.fF n an z
    · exact rel.fT n an z, fun _ h => h, fun _ h => h, fun _ _ => rfl, Nat.le_refl _⟩
  refine ⟨⟨fun i k2 xs2 e => ?_, fun i j hi hj e => rel.inj i j (hal i hi) (hal j hj) e, fun i hi => rel.fF i (hal i hi), fun i hi => rel.fT i (hal i hi), fun a z => ?_⟩, fun a u h z => ?_, fun i hi => Or.inl ⟨hal i hi, rfl⟩, fun _ _ => rfl, Nat.le_of_eq hlen.symm, fun _ h => h, rfl, fun a u h => ?_, fun _ h => Or.inl h⟩
  · rw [hlen]
    by_cases z : n = i
    · subst z
      rw [List.getElem?_set_self (Al.lt an)] at e
      simp only [Option.some.injEq, Prod.mk.injEq] at e
      obtain ⟨e1, e2⟩ := e
      subst e1 e2
      exact ⟨o', vs', upd_same, ho, hk, RVs.mono up _ _ hr⟩
    · rw [List.getElem?_set_ne z] at e
      obtain ⟨u, ws, q1, q2, q3, q4⟩ := rel.ob i k2 xs2 e
      exact ⟨u, ws, by rw [upd_ne fun q => z (rel.inj i n ⟨_, e⟩ an q).symm]; exact q1, q2, q3, RVs.mono up _ _ q4⟩
  · by_cases e : a = g.r n
    · exact ⟨o', by rw [e, upd_same]⟩
    · rw [upd_ne e]; exact rel.tr a z
  · rw [upd_ne fun e => z n an e.symm]; exact h
  · by_cases e : a = g.r n
    · exact ⟨o', by rw [e, upd_same]⟩
    · exact ⟨u, by rw [upd_ne e]; exact h⟩
/-! ### reading -/
def deref (S : Sto) : PV → Option (Kd × List PV)
  | .con _ k xs => some (k, xs)
  | .ref n => S[n]?.join
  | _ => none
/-- what may be read at a -/
def Rdd (X : Kx) (H : Hp) (k : Kd) (vs : List V) (a : Addr) : Prop := (∃ o, HOof X.mg k vs o ∧ Rd H a o) ∨ Wr X.K a k vs
theorem At.rdd {m : Md} {a : Addr} {k : Kd} {vs : List V} (h : At X H g m a k vs) : Rdd X H k vs a := by
  cases m with
  | own => obtain ⟨o, h1, h2, _⟩ := h; exact Or.inl ⟨o, h1, Or.inl h2⟩
  | lent => obtain ⟨o, h1, h2, _⟩ := h; exact Or.inl ⟨o, h1, Or.inl h2⟩
  | out =>
    rcases h with ⟨ob, o, h1, h2⟩ | h
    · exact Or.inl ⟨o, h1, Or.inr ⟨ob, h2⟩⟩
    · exact Or.inr h
theorem join_some {n : Nat} {q : Kd × List PV} (h : S[n]?.join = some q) : S[n]? = some (some q) := by
  cases e : S[n]? with
  | none => rw [e] at h; cases h
  | some o =>
    rw [e] at h
    cases o with
    | none => cases h
    | some z => cases h; rfl
theorem deref_ok {p : PV} {x : V} {k : Kd} {xs : List PV} (rel : Rel X H g S) (rv : RV X H g S.length p x) (h : deref S p = some (k, xs)) : ∃ a vs, x = .ref a ∧ RVs X H g S.length xs vs ∧ Rdd X H k vs a := by
  cases p with
  | con m k' xs' =>
    have h : some (k', xs') = some (k, xs) := h
    cases h
    simp only [RV] at rv
    obtain ⟨a, vs, h1, h2, h3⟩ := rv
    exact ⟨a, vs, h1, h3, h2.rdd⟩
  | ref n =>
    have e := join_some h
    obtain ⟨o, vs, h1, h2, h3, h4⟩ := rel.ob n k xs e
    simp only [RV] at rv
    exact ⟨_, vs, rv.2, h4, Or.inl ⟨o, h2, Or.inl h1⟩⟩
  | non => cases h
  | bl _ => cases h
  | int _ => cases h
  | str _ => cases h
  | fn _ => cases h
  | ty _ => cases h
theorem Rdd.lst {vs : List V} {a : Addr} (h : Rdd X H .lst vs a) : SqL X.K H a vs := by
  rcases h with ⟨o, h1, h2⟩ | h
  · cases h1; exact Or.inl h2
  · exact Or.inr h
theorem Rdd.tup {vs : List V} {a : Addr} (h : Rdd X H .tup vs a) : SqT X.K H a vs := by
  rcases h with ⟨o, h1, h2⟩ | h
  · cases h1; exact Or.inl h2
  · exact Or.inr h
/-- tracked by itself -/
def derefH (S : Sto) : PV → Option (Kd × List PV)
  | .con .own k xs => some (k, xs)
  | .con .lent k xs => some (k, xs)
  | .ref n => S[n]?.join
  | _ => none
theorem derefH_ok {p : PV} {x : V} {k : Kd} {xs : List PV} (rel : Rel X H g S) (rv : RV X H g S.length p x) (h : derefH S p = some (k, xs)) : ∃ a vs o, x = .ref a ∧ RVs X H g S.length xs vs ∧ HOof X.mg k vs o ∧ H a = some o := by
  cases p with
  | con m k' xs' =>
    simp only [RV] at rv
    obtain ⟨a, vs, h1, h2, h3⟩ := rv
    cases m with
    | own => cases h; obtain ⟨o, q1, q2, _⟩ := h2; exact ⟨a, vs, o, h1, h3, q1, q2⟩
    | lent => cases h; obtain ⟨o, q1, q2, _⟩ := h2; exact ⟨a, vs, o, h1, h3, q1, q2⟩
    | out => cases h
  | ref n =>
    have e := join_some h
    obtain ⟨o, vs, h1, h2, h3, h4⟩ := rel.ob n k xs e
    simp only [RV] at rv
    exact ⟨_, vs, o, rv.2, h4, h2, h1⟩
  | non => cases h
  | bl _ => cases h
  | int _ => cases h
  | str _ => cases h
  | fn _ => cases h
  | ty _ => cases h
/-! ### rows of values -/
theorem RVs.len {L : Nat} : ∀ {xs : List PV} {vs : List V}, RVs X H g L xs vs → xs.length = vs.length
  | [], _, h => by simp only [RVs] at h; subst h; rfl
  | x :: xs, _, h => by
    simp only [RVs] at h
    obtain ⟨v, r, rfl, _, h3⟩ := h
    simp only [List.length_cons, RVs.len h3]
theorem RVs.get {L : Nat} : ∀ {xs : List PV} {vs : List V} {i : Nat} {p : PV}, RVs X H g L xs vs → xs[i]? = some p → ∃ v, vs[i]? = some v ∧ RV X H g L p v
  | [], _, _, _, _, e => by simp at e
  | x :: xs, _, i, p, h, e => by
    simp only [RVs] at h
    obtain ⟨v, r, rfl, h2, h3⟩ := h
    cases i with
    | zero => simp at e; subst e; exact ⟨v, rfl, h2⟩
    | succ i =>
      obtain ⟨w, q1, q2⟩ := RVs.get (i := i) (p := p) h3 (by simpa using e)
      exact ⟨w, by simpa using q1, q2⟩
theorem RVs.of_get {L : Nat} : ∀ {xs : List PV} {vs : List V}, xs.length = vs.length → (∀ (i : Nat) (p : PV) (v : V), xs[i]? = some p → vs[i]? = some v → RV X H g L p v) → RVs X H g L xs vs
  | [], vs, hl, _ => by
    simp only [RVs]
    cases vs with
    | nil => rfl
    | cons _ _ => simp at hl
  | x :: xs, vs, hl, h => by
    cases vs with
    | nil => simp at hl
    | cons v r =>
      simp only [RVs]
      exact ⟨v, r, rfl, h 0 x v rfl rfl, RVs.of_get (by simpa using hl) fun i p w e1 e2 => h (i + 1) p w (by simpa using e1) (by simpa using e2)⟩
theorem RVs.append {L : Nat} : ∀ {xs ys : List PV} {vs ws : List V}, RVs X H g L xs vs → RVs X H g L ys ws → RVs X H g L (xs ++ ys) (vs ++ ws)
  | [], ys, vs, ws, h, k => by simp only [RVs] at h; subst h; exact k
  | x :: xs, ys, _, ws, h, k => by
    simp only [RVs] at h
    obtain ⟨v, r, rfl, h2, h3⟩ := h
    simp only [List.cons_append, RVs]
    exact ⟨v, _, rfl, h2, RVs.append h3 k⟩
theorem RVs.nil {L : Nat} : RVs X H g L [] [] := by simp only [RVs]
theorem RVs.cons {L : Nat} {x : PV} {v : V} {xs : List PV} {vs : List V} (h : RV X H g L x v) (k : RVs X H g L xs vs) : RVs X H g L (x :: xs) (v :: vs) := by
  simp only [RVs]; exact ⟨v, vs, rfl, h, k⟩
theorem RVs.set {L : Nat} {xs : List PV} {vs : List V} {i : Nat} {p : PV} {v : V} (h : RVs X H g L xs vs) (k : RV X H g L p v) : RVs X H g L (xs.set i p) (vs.set i v) := by
  refine RVs.of_get (by simp [h.len]) fun j q w e1 e2 => ?_
  by_cases z : i = j
  · subst z
    have l1 := (List.getElem?_eq_some_iff.mp e1).1
    have l2 := (List.getElem?_eq_some_iff.mp e2).1
    rw [List.length_set] at l1 l2
    rw [List.getElem?_set_self l1] at e1
    rw [List.getElem?_set_self l2] at e2
    cases e1; cases e2; exact k
  · rw [List.getElem?_set_ne z] at e1 e2
    obtain ⟨w', q1, q2⟩ := h.get e1
    rw [e2] at q1; cases q1; exact q2
theorem RVs.take {L : Nat} {xs : List PV} {vs : List V} (n : Nat) (h : RVs X H g L xs vs) : RVs X H g L (xs.take n) (vs.take n) := by
  refine RVs.of_get (by simp [h.len]) fun j q w e1 e2 => ?_
  rw [List.getElem?_take] at e1 e2
  split at e1
  · rename_i hlt
    rw [if_pos hlt] at e2
    obtain ⟨w', q1, q2⟩ := h.get e1
    rw [e2] at q1; cases q1; exact q2
  · cases e1
theorem RVs.drop {L : Nat} {xs : List PV} {vs : List V} (n : Nat) (h : RVs X H g L xs vs) : RVs X H g L (xs.drop n) (vs.drop n) := by
  refine RVs.of_get (by simp [h.len]) fun j q w e1 e2 => ?_
  rw [List.getElem?_drop] at e1 e2
  obtain ⟨w', q1, q2⟩ := h.get e1
  rw [e2] at q1; cases q1; exact q2
theorem RVs.mk_ints {L : Nat} : ∀ (ns : List Int), RVs X H g L (ns.map PV.int) (ns.map V.int)
  | [] => RVs.nil
  | n :: ns => RVs.cons (by simp only [RV]) (RVs.mk_ints ns)
theorem RVs.mk_strs {L : Nat} : ∀ (ns : List Str), RVs X H g L (ns.map PV.str) (ns.map V.str)
  | [] => RVs.nil
  | n :: ns => RVs.cons (by simp only [RV]) (RVs.mk_strs ns)
end
end Pv
/-! Pv3: operators, comparisons, tests. -/
namespace Pv
open PySem PySem.Spec PyProof.Rows L2
section
variable {X : Cx} {Y : Kx} {H H' H'' : Hp} {g g' g'' : G} {S S' S'' : Sto} {W : WX}
theorem OpR.or {f : Value → Value → Sem Value} {r r' : R2} (h : OpR X f r) (h' : OpR X f r') : OpR X f (fun x y H Q => r x y H Q ∨ r' x y H Q) := by
  intro pins s σ H x y v u Q I rx ry q
  rcases q with q | q
  · exact h pins s σ H x y v u Q I rx ry q
  · exact h' pins s σ H x y v u Q I rx ry q
theorem RV.int_inv {L : Nat} {i : Int} {x : V} (h : RV Y H g L (.int i) x) : x = .int i := by simpa only [RV] using h
theorem RV.str_inv {L : Nat} {i : Str} {x : V} (h : RV Y H g L (.str i) x) : x = .str i := by simpa only [RV] using h
theorem RV.bl_inv {L : Nat} {i : Bool} {x : V} (h : RV Y H g L (.bl i) x) : x = .bl i := by simpa only [RV] using h
theorem RV.non_inv {L : Nat} {x : V} (h : RV Y H g L .non x) : x = .non := by simpa only [RV] using h
theorem RV.int {L : Nat} {i : Int} : RV Y H g L (.int i) (.int i) := by simp only [RV]
theorem RV.str {L : Nat} {i : Str} : RV Y H g L (.str i) (.str i) := by simp only [RV]
theorem RV.bl {L : Nat} {i : Bool} : RV Y H g L (.bl i) (.bl i) := by simp only [RV]
theorem RV.non {L : Nat} : RV Y H g L .non .non := by simp only [RV]
/-! ### arithmetic -/
def iOp (C : Int → Int → Prop) [∀ i j, Decidable (C i j)] (f : Int → Int → PV) : OF := fun p q S => match p, q with
  | .int i, .int j => if C i j then some (f i j, S) else none
  | _, _ => none
def iOp0 (f : Int → Int → PV) : OF := fun p q S => match p, q with
  | .int i, .int j => some (f i j, S)
  | _, _ => none
theorem iOp0_inv {f : Int → Int → PV} {p q : PV} {w : PV} (h : iOp0 f p q S = some (w, S')) : ∃ i j, p = .int i ∧ q = .int j ∧ w = f i j ∧ S' = S := by
  unfold iOp0 at h
  split at h
  · simp only [Option.some.injEq, Prod.mk.injEq] at h; exact ⟨_, _, rfl, rfl, h.1.symm, h.2.symm⟩
  · cases h
theorem iOp_inv {C : Int → Int → Prop} [∀ i j, Decidable (C i j)] {f : Int → Int → PV} {p q : PV} {w : PV} (h : iOp C f p q S = some (w, S')) : ∃ i j, p = .int i ∧ q = .int j ∧ C i j ∧ w = f i j ∧ S' = S := by
  unfold iOp at h
  split at h
  · split at h
    · simp only [Option.some.injEq, Prod.mk.injEq] at h; exact ⟨_, _, rfl, rfl, by assumption, h.1.symm, h.2.symm⟩
    · cases h
  · cases h
theorem opf_I0 {f : Int → Int → Int} : OpF X (rI0 fun i j => .int (f i j)) (iOp0 fun i j => .int (f i j)) := by
  intro H g S p q x y w S' Q rel rx ry h k
  obtain ⟨i, j, rfl, rfl, rfl, rfl⟩ := iOp0_inv h
  exact ⟨i, j, rx.int_inv, ry.int_inv, k g H _ (Ext.refl rel) RV.int⟩
theorem opf_B0 {f : Int → Int → Bool} : OpF X (rI0 fun i j => .bl (f i j)) (iOp0 fun i j => .bl (f i j)) := by
  intro H g S p q x y w S' Q rel rx ry h k
  obtain ⟨i, j, rfl, rfl, rfl, rfl⟩ := iOp0_inv h
  exact ⟨i, j, rx.int_inv, ry.int_inv, k g H _ (Ext.refl rel) RV.bl⟩
theorem opf_I {C : Int → Int → Prop} [∀ i j, Decidable (C i j)] {f : Int → Int → Int} : OpF X (rI C fun i j => .int (f i j)) (iOp C fun i j => .int (f i j)) := by
  intro H g S p q x y w S' Q rel rx ry h k
  obtain ⟨i, j, rfl, rfl, c, rfl, rfl⟩ := iOp_inv h
  exact ⟨i, j, rx.int_inv, ry.int_inv, c, k g H _ (Ext.refl rel) RV.int⟩
instance (i j : Int) : Decidable (CDiv i j) := inferInstanceAs (Decidable (_ ∧ _))
instance (i j : Int) : Decidable (CPow i j) := inferInstanceAs (Decidable (_ ∧ _ ∧ _))
instance (i j : Int) : Decidable (CMul i j) := inferInstanceAs (Decidable (_ ∨ _))
abbrev subF : OF := iOp0 fun i j => .int (i - j)
abbrev fdivF : OF := iOp CDiv fun i j => .int (i / j)
abbrev modF : OF := iOp (fun _ j => 0 < j) fun i j => .int (i % j)
abbrev powF : OF := iOp CPow fun i j => .int (i ^ j.toNat)
abbrev ltF : OF := iOp0 fun i j => .bl (decide (i < j))
abbrev leF : OF := iOp0 fun i j => .bl (decide (i ≤ j))
abbrev gtF : OF := iOp0 fun i j => .bl (decide (j < i))
abbrev geF : OF := iOp0 fun i j => .bl (decide (j ≤ i))
def mulF (m : Bool) : OF := fun p q S => match p, q with
  | .int i, .int j => if CMul i j then some (.int (i * j), S) else none
  | p, .int k => match derefH S p with
    | some (.lst, xs) => if -(2 ^ 63) ≤ k ∧ k < 2 ^ 63 ∧ xs.length * k.toNat ≤ sizeLine then some (newP m .lst (List.replicate k.toNat xs).flatten S) else none
    | _ => none
  | _, _ => none
theorem RVs.rep {L : Nat} {xs : List PV} {vs : List V} (h : RVs Y H g L xs vs) : ∀ n, RVs Y H g L (List.replicate n xs).flatten (List.replicate n vs).flatten
  | 0 => RVs.nil
  | n + 1 => by
    rw [List.replicate_succ, List.replicate_succ, List.flatten_cons, List.flatten_cons]
    exact h.append (h.rep n)
theorem opf_mul {m : Bool} : OpF X (fun x y H Q => rI CMul (fun i j => .int (i * j)) x y H Q ∨ rRep x y H Q) (mulF m) := by
  intro H g S p q x y w S' Q rel rx ry h k
  unfold mulF at h
  split at h
  · split at h
    · simp only [Option.some.injEq, Prod.mk.injEq] at h
      obtain ⟨rfl, rfl⟩ := h
      exact Or.inl ⟨_, _, rx.int_inv, ry.int_inv, by assumption, k g H _ (Ext.refl rel) RV.int⟩
    · cases h
  · split at h
    · rename_i xs e
      split at h
      · rename_i c
        obtain ⟨a, vs, o, rfl, h2, h3, h4⟩ := derefH_ok rel rx e
        cases h3
        refine Or.inr ⟨a, _, vs, rfl, ry.int_inv, h4, c.1, c.2.1, by rw [← h2.len]; exact c.2.2, fun l hl => ?_⟩
        obtain ⟨g', e1, e2⟩ := new_ok (m := m) rel hl (k := .lst) (o := .lst _) rfl (by decide) (h2.rep _)
        simp only [Option.some.injEq] at h
        rw [h] at e1 e2
        exact k g' _ _ e1 e2
      · cases h
    · cases h
  · cases h
theorem or_mul : OpR X (binaryOp .Mult) (fun x y H Q => rI CMul (fun i j => .int (i * j)) x y H Q ∨ rRep x y H Q) := OpR.or op_mul op_rep
def addF (m : Bool) : OF := fun p q S => match p, q with
  | .int i, .int j => some (.int (i + j), S)
  | .str a, .str b => if a.length + b.length ≤ sizeLine then some (.str (a ++ b), S) else none
  | p, q => match derefH S p, derefH S q with
    | some (.lst, xs), some (.lst, ys) => if xs.length + ys.length ≤ sizeLine then some (newP m .lst (xs ++ ys) S) else none
    | some (.tup, xs), some (.tup, ys) => if xs ≠ [] ∧ xs.length + ys.length ≤ sizeLine then some (.con .own .tup (xs ++ ys), S) else none
    | _, _ => none
theorem opf_add {m : Bool} : OpF X (fun x y H Q => (rI0 (fun i j => .int (i + j)) x y H Q ∨ ∃ i j, x = .str i ∧ y = .str j ∧ i.length + j.length ≤ sizeLine ∧ Q (.str (i ++ j)) H) ∨ (rCat x y H Q ∨ rCatT X.K x y H Q)) (addF m) := by
  intro H g S p q x y w S' Q rel rx ry h k
  unfold addF at h
  split at h
  · simp only [Option.some.injEq, Prod.mk.injEq] at h
    obtain ⟨rfl, rfl⟩ := h
    exact Or.inl (Or.inl ⟨_, _, rx.int_inv, ry.int_inv, k g H _ (Ext.refl rel) RV.int⟩)
  · split at h
    · simp only [Option.some.injEq, Prod.mk.injEq] at h
      obtain ⟨rfl, rfl⟩ := h
      exact Or.inl (Or.inr ⟨_, _, rx.str_inv, ry.str_inv, by assumption, k g H _ (Ext.refl rel) RV.str⟩)
    · cases h
  · split at h
    · rename_i xs ys e1 e2
      split at h
      · rename_i c
        obtain ⟨a, vs, o, rfl, h2, h3, h4⟩ := derefH_ok rel rx e1
        obtain ⟨b, ws, o', rfl, q2, q3, q4⟩ := derefH_ok rel ry e2
        cases h3
        cases q3
        refine Or.inr (Or.inl ⟨a, b, vs, ws, rfl, rfl, h4, q4, by rw [← h2.len, ← q2.len]; exact c, fun l hl => ?_⟩)
        obtain ⟨g', z1, z2⟩ := new_ok (m := m) rel hl (k := .lst) (o := .lst _) rfl (by decide) (h2.append q2)
        simp only [Option.some.injEq] at h
        rw [h] at z1 z2
        exact k g' _ _ z1 z2
      · cases h
    · rename_i xs ys e1 e2
      split at h
      · rename_i c
        obtain ⟨a, vs, o, rfl, h2, h3, h4⟩ := derefH_ok rel rx e1
        obtain ⟨b, ws, o', rfl, q2, q3, q4⟩ := derefH_ok rel ry e2
        cases h3
        cases q3
        simp only [Option.some.injEq, Prod.mk.injEq] at h
        obtain ⟨rfl, rfl⟩ := h
        refine Or.inr (Or.inr ⟨a, b, vs, ws, rfl, rfl, SqT.of h4, SqT.of q4, fun z => c.1 ?_, by rw [← h2.len, ← q2.len]; exact c.2, fun z => ?_, fun _ l hl => ?_⟩)
        · have := h2.len
          rw [z] at this
          exact List.eq_nil_of_length_eq_zero this
        · have : ys = [] := List.eq_nil_of_length_eq_zero (by rw [q2.len, z]; rfl)
          subst this z
          refine k g H _ (Ext.refl rel) ?_
          simp only [RV, List.append_nil]
          exact ⟨a, vs, rfl, ⟨_, rfl, h4, fun z => False.elim z⟩, h2⟩
        · obtain ⟨z1, z2⟩ := newF_ok rel hl (k := .tup) (o := .tup _) rfl (h2.append q2)
          exact k _ _ _ z1 z2
      · cases h
    · cases h
theorem or_add : OpR X (binaryOp .Add) (fun x y H Q => (rI0 (fun i j => .int (i + j)) x y H Q ∨ ∃ i j, x = .str i ∧ y = .str j ∧ i.length + j.length ≤ sizeLine ∧ Q (.str (i ++ j)) H) ∨ (rCat x y H Q ∨ rCatT X.K x y H Q)) :=
  OpR.or (OpR.or op_add op_add_str) (OpR.or op_cat op_catT)
section
variable {a b c : Expr} {ta tb tc : EF} {pos : Pos}
theorem E.add (m : Bool) (ha : E X W a ta) (hb : E X W b tb) : E X W (.BinOp a .Add b pos) (eOp (addF m) ta tb) := E.op or_add opf_add ha hb
theorem E.mul (m : Bool) (ha : E X W a ta) (hb : E X W b tb) : E X W (.BinOp a .Mult b pos) (eOp (mulF m) ta tb) := E.op or_mul opf_mul ha hb
theorem E.sub (ha : E X W a ta) (hb : E X W b tb) : E X W (.BinOp a .Sub b pos) (eOp subF ta tb) := E.op op_sub opf_I0 ha hb
theorem E.fdiv (ha : E X W a ta) (hb : E X W b tb) : E X W (.BinOp a .FloorDiv b pos) (eOp fdivF ta tb) := E.op op_fdiv opf_I ha hb
theorem E.mod (ha : E X W a ta) (hb : E X W b tb) : E X W (.BinOp a .Mod b pos) (eOp modF ta tb) := E.op op_mod opf_I ha hb
theorem E.pow (ha : E X W a ta) (hb : E X W b tb) : E X W (.BinOp a .Pow b pos) (eOp powF ta tb) := E.op op_pow opf_I ha hb
end
/-! ### data at any depth -/
def toPD : Nat → Sto → PV → Option PyData
  | 0, _, _ => none
  | n + 1, S, p => match p with
    | .non => some .none
    | .bl b => some (.bool b)
    | .int i => some (.int i)
    | .str s => some (.str s)
    | p => match deref S p with
      | some (.lst, xs) => (xs.mapM (toPD n S)).map .list
      | some (.tup, xs) => (xs.mapM (toPD n S)).map .tuple
      | _ => none
theorem dp_all {f : PV → Option PyData} (rel : Rel X H g S) (hf : ∀ p x d, RV X H g S.length p x → f p = some d → Dp X.K H x d) : ∀ {xs : List PV} {vs : List V} {ds : List PyData}, RVs X H g S.length xs vs → xs.mapM f = some ds → DpAll X.K H vs ds
  | [], vs, ds, h, e => by
    simp only [RVs] at h
    subst h
    simp at e
    subst e
    exact .nil
  | x :: xs, vs, ds, h, e => by
    simp only [RVs] at h
    obtain ⟨v, r, rfl, h2, h3⟩ := h
    simp only [List.mapM_cons, Option.bind_eq_bind, Option.bind_eq_some_iff, Option.pure_def, Option.some.injEq] at e
    obtain ⟨d, e1, es, e2, rfl⟩ := e
    exact .cons (hf x v d h2 e1) (dp_all rel hf h3 e2)
theorem toPD_ok (rel : Rel X H g S) : ∀ (n : Nat) (p : PV) (x : V) (d : PyData), RV X H g S.length p x → toPD n S p = some d → Dp X.K H x d
  | 0, _, _, _, _, e => by simp [toPD] at e
  | n + 1, p, x, d, h, e => by
    simp only [toPD] at e
    split at e
    · cases e; rw [h.non_inv]; exact .non
    · cases e; rw [h.bl_inv]; exact .bl _
    · cases e; rw [h.int_inv]; exact .int _
    · cases e; rw [h.str_inv]; exact .str _
    · split at e
      · rename_i xs hd
        obtain ⟨a, vs, rfl, h2, h3⟩ := deref_ok rel h hd
        simp only [Option.map_eq_some_iff] at e
        obtain ⟨ds, e1, rfl⟩ := e
        exact .lst h3.lst (dp_all rel (toPD_ok rel n) h2 e1)
      · rename_i xs hd
        obtain ⟨a, vs, rfl, h2, h3⟩ := deref_ok rel h hd
        simp only [Option.map_eq_some_iff] at e
        obtain ⟨ds, e1, rfl⟩ := e
        exact .tup h3.tup (dp_all rel (toPD_ok rel n) h2 e1)
      · cases e
/-- == -/
def eqB (S : Sto) (p q : PV) : Option Bool := match p, q with
  | .int i, .int j => some (decide (i = j))
  | .str i, .str j => some (decide (i = j))
  | .non, .non => some true
  | .bl i, .bl j => some (decide (i = j))
  | p, q => match toPD 9 S p, toPD 9 S q with
    | some d, some e => some (PyData.eqv d e)
    | _, _ => none
/-- data as toPD gives it -/
def Pl (d : PyData) : Prop := d.plain = true ∧ d.depth ≤ 9
theorem plain_all : ∀ {n : Nat} {f : PV → Option PyData}, (∀ p d, f p = some d → d.plain = true ∧ d.depth ≤ n) → ∀ {xs : List PV} {ds : List PyData}, xs.mapM f = some ds → PyData.plainAll ds = true ∧ PyData.depthAll ds ≤ n
  | n, f, hf, [], ds, e => by
    simp at e
    subst e
    exact ⟨rfl, Nat.zero_le _⟩
  | n, f, hf, x :: xs, ds, e => by
    simp only [List.mapM_cons, Option.bind_eq_bind, Option.bind_eq_some_iff, Option.pure_def, Option.some.injEq] at e
    obtain ⟨d, e1, es, e2, rfl⟩ := e
    obtain ⟨h1, h2⟩ := hf x d e1
    obtain ⟨h3, h4⟩ := plain_all hf e2
    exact ⟨by simp only [PyData.plainAll, h1, h3, Bool.and_self], by simp only [PyData.depthAll]; omega⟩
theorem toPD_plain : ∀ (n : Nat) (p : PV) (d : PyData), toPD n S p = some d → d.plain = true ∧ d.depth ≤ n
  | 0, _, _, e => by simp [toPD] at e
  | n + 1, p, d, e => by
    simp only [toPD] at e
    split at e
    · cases e; exact ⟨rfl, Nat.zero_le _⟩
    · cases e; exact ⟨rfl, Nat.zero_le _⟩
    · cases e; exact ⟨rfl, Nat.zero_le _⟩
    · cases e; exact ⟨rfl, Nat.zero_le _⟩
    · split at e
      · simp only [Option.map_eq_some_iff] at e
        obtain ⟨ds, e1, rfl⟩ := e
        obtain ⟨h1, h2⟩ := plain_all (toPD_plain n) e1
        exact ⟨h1, by simp only [PyData.depth]; omega⟩
      · simp only [Option.map_eq_some_iff] at e
        obtain ⟨ds, e1, rfl⟩ := e
        obtain ⟨h1, h2⟩ := plain_all (toPD_plain n) e1
        exact ⟨h1, by simp only [PyData.depth]; omega⟩
      · cases e
def rEqP (K : PySem.W.Frag) : R2 := fun x y H Q => ∃ d e, Dp K H x d ∧ Dp K H y e ∧ Pl d ∧ Pl e ∧ Q (.bl (PyData.eqv d e)) H
def rNeP (K : PySem.W.Frag) : R2 := fun x y H Q => ∃ d e, Dp K H x d ∧ Dp K H y e ∧ Pl d ∧ Pl e ∧ Q (.bl (!PyData.eqv d e)) H
theorem op_eqP (hu : X.A.units + 64 < cLine) : OpR X (compareOp .Eq) (rEqP X.K) := by
  intro pins s σ H x y v u Q I rx ry h
  obtain ⟨d, e, hd, he, sd, se, q⟩ := h
  obtain ⟨as, r1⟩ := Dp.reads I d x v hd rx
  obtain ⟨bs, r2⟩ := Dp.reads I e y u he ry
  have := sd.2
  exact SeqAt.eq_plain r1 r2 sd.1 se.1 (by omega) ⟨.bl _, H, I, rfl, q⟩
theorem op_neP (hu : X.A.units + 64 < cLine) : OpR X (compareOp .NotEq) (rNeP X.K) := by
  intro pins s σ H x y v u Q I rx ry h
  obtain ⟨d, e, hd, he, sd, se, q⟩ := h
  obtain ⟨as, r1⟩ := Dp.reads I d x v hd rx
  obtain ⟨bs, r2⟩ := Dp.reads I e y u he ry
  have := sd.2
  exact SeqAt.ne_plain r1 r2 sd.1 se.1 (by omega) ⟨.bl _, H, I, rfl, q⟩
def eqF : OF := fun p q S => (eqB S p q).map fun b => (.bl b, S)
def neF : OF := fun p q S => (eqB S p q).map fun b => (.bl (!b), S)
theorem eqB_ok {r : R2} {fb : Bool → Bool} (hs : ∀ x y H Q, scal x y = true → Q (.bl (fb (decide (x = y)))) H → r x y H Q) (hd : ∀ x y d e H Q, Dp X.K H x d → Dp X.K H y e → Pl d → Pl e → Q (.bl (fb (PyData.eqv d e))) H → r x y H Q) :
    OpF X r (fun p q S => (eqB S p q).map fun b => (.bl (fb b), S)) := by
  intro H g S p q x y w S' Q rel rx ry h k
  simp only [Option.map_eq_some_iff, Prod.mk.injEq] at h
  obtain ⟨b, h, rfl, rfl⟩ := h
  have q0 := k g H _ (Ext.refl rel) RV.bl
  unfold eqB at h
  split at h
  · cases h
    rw [rx.int_inv, ry.int_inv]
    refine hs _ _ _ _ rfl ?_
    rw [dec_int, Bool.beq_eq_decide_eq]
    exact q0
  · cases h
    rw [rx.str_inv, ry.str_inv]
    refine hs _ _ _ _ rfl ?_
    rw [dec_str, Bool.beq_eq_decide_eq]
    exact q0
  · cases h
    rw [rx.non_inv, ry.non_inv]
    refine hs _ _ _ _ rfl ?_
    rw [decide_eq_true rfl]
    exact q0
  · cases h
    rw [rx.bl_inv, ry.bl_inv]
    refine hs _ _ _ _ rfl ?_
    rw [dec_bl, Bool.beq_eq_decide_eq]
    exact q0
  · split at h
    · rename_i d e hd1 he1
      cases h
      exact hd _ _ d e _ _ (toPD_ok rel 9 _ _ _ rx hd1) (toPD_ok rel 9 _ _ _ ry he1) (toPD_plain 9 _ _ hd1) (toPD_plain 9 _ _ he1) q0
    · cases h
theorem opf_eq : OpF X (fun x y H Q => rEq x y H Q ∨ rEqP X.K x y H Q) eqF :=
  eqB_ok (fb := fun b => b) (fun x y H Q h q => Or.inl ⟨h, q⟩) fun x y d e H Q h1 h2 h3 h4 q => Or.inr ⟨d, e, h1, h2, h3, h4, q⟩
theorem opf_ne : OpF X (fun x y H Q => rNe x y H Q ∨ rNeP X.K x y H Q) neF :=
  eqB_ok (fb := fun b => !b) (fun x y H Q h q => Or.inl ⟨h, q⟩) fun x y d e H Q h1 h2 h3 h4 q => Or.inr ⟨d, e, h1, h2, h3, h4, q⟩
theorem or_eq (hu : X.A.units + 64 < cLine) : OpR X (compareOp .Eq) (fun x y H Q => rEq x y H Q ∨ rEqP X.K x y H Q) := OpR.or op_eq (op_eqP hu)
theorem or_ne (hu : X.A.units + 64 < cLine) : OpR X (compareOp .NotEq) (fun x y H Q => rNe x y H Q ∨ rNeP X.K x y H Q) := OpR.or op_ne (op_neP hu)
/-! ### in -/
def flatP : PV → Bool
  | .non => true
  | .bl _ => true
  | .int _ => true
  | .str _ => true
  | _ => false
def eqP : PV → PV → Bool
  | .non, .non => true
  | .bl a, .bl b => a == b
  | .bl a, .int b => (if a then 1 else 0) == b
  | .int a, .bl b => a == (if b then 1 else 0)
  | .int a, .int b => a == b
  | .str a, .str b => a == b
  | _, _ => false
theorem flat_rv {L : Nat} {p : PV} {x : V} (h : RV X H g L p x) (f : flatP p = true) : flatV x = true := by
  cases p with
  | non => rw [h.non_inv] <;> rfl
  | bl _ => rw [h.bl_inv] <;> rfl
  | int _ => rw [h.int_inv] <;> rfl
  | str _ => rw [h.str_inv] <;> rfl
  | con _ _ _ => cases f
  | ref _ => cases f
  | fn _ => cases f
  | ty _ => cases f
theorem eqP_rv {L : Nat} {p q : PV} {x y : V} (h : RV X H g L p x) (h' : RV X H g L q y) (f : flatP p = true) (f' : flatP q = true) : L2.eqV x y = eqP p q := by
  cases p <;> cases q <;> first
    | (simp [flatP] at f; done)
    | (simp [flatP] at f'; done)
    | (simp only [RV] at h h'; subst h h'; simp only [L2.eqV, eqP])
theorem inP_rv {L : Nat} {p : PV} {x : V} (h : RV X H g L p x) (f : flatP p = true) : ∀ {xs : List PV} {vs : List V}, RVs X H g L xs vs → xs.all flatP = true → vs.all flatV = true ∧ inV x vs = xs.any (fun y => eqP y p)
  | [], vs, k, _ => by
    simp only [RVs] at k
    subst k
    exact ⟨rfl, rfl⟩
  | q :: xs, vs, k, fs => by
    simp only [RVs] at k
    obtain ⟨v, r, rfl, k2, k3⟩ := k
    simp only [List.all_cons, Bool.and_eq_true] at fs
    obtain ⟨i1, i2⟩ := inP_rv h f k3 fs.2
    refine ⟨by simp only [List.all_cons, Bool.and_eq_true]; exact ⟨flat_rv k2 fs.1, i1⟩, ?_⟩
    unfold inV at i2 ⊢
    rw [List.any_cons, List.any_cons, i2, eqP_rv k2 h fs.1 f]
def inB (S : Sto) (p q : PV) : Option Bool := match p, q with
  | .str c, .str z => match c.cps.toList with
    | [n] => some (decide (n ∈ z.cps.toList))
    | _ => none
  | p, q => match deref S q with
    | some (k, ys) => if (k = .lst ∨ k = .tup) ∧ flatP p = true ∧ ys.all flatP = true then some (ys.any fun y => eqP y p)
      else if k = .lst ∨ k = .tup then match toPD 9 S p, ys.mapM (toPD 8 S) with
        | some d, some ds => some (ds.any fun z => PyData.eqv z d)
        | _, _ => none
      else none
    | _ => none
def inF : OF := fun p q S => (inB S p q).map fun b => (.bl b, S)
def ninF : OF := fun p q S => (inB S p q).map fun b => (.bl (!b), S)
theorem one_sign {c : Str} {n : Nat} (h : c.cps.toList = [n]) : c = ⟨#[n]⟩ := by
  obtain ⟨a⟩ := c
  have : a = #[n] := by
    have h : a.toList = [n] := h
    rw [← Array.toArray_toList (xs := a), h]
  rw [this]
theorem inB_ok {r : R2} {fb : Bool → Bool} (hs : ∀ c z H Q, Q (.bl (fb (decide (c ∈ z.cps.toList)))) H → r (.str ⟨#[c]⟩) (.str z) H Q)
    (hf : ∀ x p ys H Q, (SqL X.K H p ys ∨ SqT X.K H p ys) → flatV x = true → ys.all flatV = true → Q (.bl (fb (inV x ys))) H → r x (.ref p) H Q)
    (hd : ∀ x y d ds H Q, Dp X.K H x d → (Dp X.K H y (.list ds) ∨ Dp X.K H y (.tuple ds)) → Pl d → PyData.plainAll ds = true → Q (.bl (fb (ds.any fun z => PyData.eqv z d))) H → r x y H Q) :
    OpF X r (fun p q S => (inB S p q).map fun b => (.bl (fb b), S)) := by
  intro H g S p q x y w S' Q rel rx ry h k
  simp only [Option.map_eq_some_iff, Prod.mk.injEq] at h
  obtain ⟨b, h, rfl, rfl⟩ := h
  have q0 := k g H _ (Ext.refl rel) RV.bl
  unfold inB at h
  split at h
  · split at h
    · rename_i n e
      cases h
      rw [rx.str_inv, ry.str_inv, one_sign e]
      exact hs _ _ _ _ q0
    · cases h
  · split at h
    · rename_i k ys e
      obtain ⟨a, vs, rfl, h2, h3⟩ := deref_ok rel ry e
      split at h
      · rename_i c
        cases h
        obtain ⟨i1, i2⟩ := inP_rv rx c.2.1 h2 c.2.2
        refine hf _ a vs _ _ ?_ (flat_rv rx c.2.1) i1 (by rw [i2]; exact q0)
        rcases c.1 with rfl | rfl
        · exact Or.inl h3.lst
        · exact Or.inr h3.tup
      · split at h
        · rename_i hk
          split at h
          · rename_i d ds e1 e2
            cases h
            refine hd _ _ d ds _ _ (toPD_ok rel 9 _ _ _ rx e1) ?_ (toPD_plain 9 _ _ e1) (plain_all (toPD_plain 8) e2).1 q0
            rcases hk with rfl | rfl
            · exact Or.inl (.lst h3.lst (dp_all rel (toPD_ok rel 8) h2 e2))
            · exact Or.inr (.tup h3.tup (dp_all rel (toPD_ok rel 8) h2 e2))
          · cases h
        · cases h
    · cases h
end
end Pv
/-! Pv4: expressions. -/
namespace Pv
open PySem PySem.Spec PyProof.Rows L2
section
variable {X : Cx} {H H' H'' : Hp} {g g' g'' : G} {S S' S'' : Sto} {W : WX} {a b c e o : Expr} {es rest : List Expr} {ta tb tc to : EF} {pos : Pos}
/-! ### comparisons -/
theorem E.cmp {op : CmpOp} {r : R2} {f : OF} (ho : OpR X (compareOp op) r) (hf : OpF X r f) (ha : E X W a ta) (hb : E X W b tb) (hm : behindInMarks op b = false) : E X W (.Compare a [op] [b] pos) (eOp f ta tb) :=
  pe_imp (pe_cmpR ho ha hb hm) fun _ _ _ h => lift_op hf h
theorem E.lt (ha : E X W a ta) (hb : E X W b tb) : E X W (.Compare a [.Lt] [b] pos) (eOp ltF ta tb) := E.cmp op_lt opf_B0 ha hb (nomark _)
theorem E.gt (ha : E X W a ta) (hb : E X W b tb) : E X W (.Compare a [.Gt] [b] pos) (eOp gtF ta tb) := E.cmp op_gt opf_B0 ha hb (nomark _)
theorem E.ge (ha : E X W a ta) (hb : E X W b tb) : E X W (.Compare a [.GtE] [b] pos) (eOp geF ta tb) := E.cmp op_ge opf_B0 ha hb (nomark _)
theorem E.eq (hu : X.A.units + 64 < cLine) (ha : E X W a ta) (hb : E X W b tb) : E X W (.Compare a [.Eq] [b] pos) (eOp eqF ta tb) := E.cmp (or_eq hu) opf_eq ha hb (nomark _)
theorem E.ne (hu : X.A.units + 64 < cLine) (ha : E X W a ta) (hb : E X W b tb) : E X W (.Compare a [.NotEq] [b] pos) (eOp neF ta tb) := E.cmp (or_ne hu) opf_ne ha hb (nomark _)
/-- is None, is not None -/
def isNP : PV → Bool
  | .non => true
  | _ => false
theorem isNP_rv {L : Nat} {p : PV} {x : V} (h : RV X H g L p x) : decide (x = V.non) = isNP p := by
  cases p with
  | con m k xs => simp only [RV] at h; obtain ⟨a, vs, rfl, _⟩ := h; rfl
  | ref n => simp only [RV] at h; obtain ⟨_, rfl⟩ := h; rfl
  | fn x => simp only [RV] at h; obtain ⟨a, _, rfl⟩ := h; rfl
  | ty x => simp only [RV] at h; subst h; rfl
  | non => rw [h.non_inv] <;> rfl
  | bl _ => rw [h.bl_inv] <;> rfl
  | int _ => rw [h.int_inv] <;> rfl
  | str _ => rw [h.str_inv] <;> rfl
def eU (f : PV → PV) (t : EF) : EF := fun Γ S => (t Γ S).bind fun p S1 => .ok (f p) S1
/-- chains -/
def eChain (f f' : OF) (ta tb tc : EF) : EF := fun Γ S => (ta Γ S).bind fun x S1 => (tb Γ S1).bind fun y S2 => (R.of (f x y S2)).bind fun z S3 => match z with
  | .bl true => (tc Γ S3).bind fun w S4 => R.of (f' y w S4)
  | .bl false => .ok (.bl false) S3
  | _ => .bad
/-! ### tests -/
def bE (t : EF) : BF := fun Γ S => (t Γ S).bind fun v S1 => match v with
  | .bl b => .ok b S1
  | _ => .bad
theorem liftB_E {t : EF} {σ : L2.St} {H : Hp} {Q : Bool → Hp → Prop} (h : liftB X W (bE t) σ H Q) : lift X W t σ H fun x H' => ∃ k, x = .bl k ∧ Q k H' := by
  obtain ⟨g, Γ, S, rel, rg, ok⟩ := h
  refine ⟨g, Γ, S, rel, rg, OKw.mono (OKw.bind ok) fun p S1 g1 H1 _ e1 h1 x rx => ?_⟩
  split at h1
  · exact ⟨_, rx.bl_inv, OKw.ok e1.rel h1⟩
  · exact h1.elim
theorem B.cmp {op : CmpOp} {r : R2} {f : OF} (ho : OpR X (compareOp op) r) (hf : OpF X r f) (ha : E X W a ta) (hb : E X W b tb) (hm : behindInMarks op b = false) : B X W (.Compare a [op] [b] pos) (bE (eOp f ta tb)) :=
  pt_imp (pt_cmpR ho ha hb hm) fun σ H Q h => lift_op hf (liftB_E h)
theorem B.lt (ha : E X W a ta) (hb : E X W b tb) : B X W (.Compare a [.Lt] [b] pos) (bE (eOp ltF ta tb)) := B.cmp op_lt opf_B0 ha hb (nomark _)
theorem B.gt (ha : E X W a ta) (hb : E X W b tb) : B X W (.Compare a [.Gt] [b] pos) (bE (eOp gtF ta tb)) := B.cmp op_gt opf_B0 ha hb (nomark _)
theorem B.ge (ha : E X W a ta) (hb : E X W b tb) : B X W (.Compare a [.GtE] [b] pos) (bE (eOp geF ta tb)) := B.cmp op_ge opf_B0 ha hb (nomark _)
theorem B.eq (hu : X.A.units + 64 < cLine) (ha : E X W a ta) (hb : E X W b tb) : B X W (.Compare a [.Eq] [b] pos) (bE (eOp eqF ta tb)) := B.cmp (or_eq hu) opf_eq ha hb (nomark _)
theorem B.ne (hu : X.A.units + 64 < cLine) (ha : E X W a ta) (hb : E X W b tb) : B X W (.Compare a [.NotEq] [b] pos) (bE (eOp neF ta tb)) := B.cmp (or_ne hu) opf_ne ha hb (nomark _)
/-- a comparison's reading as a test -/
theorem B.ofPC {op : CmpOp} {t : TE} {te : EF} (h : PC X op a b t) (k : ∀ σ H Q, lift X W te σ H Q → t σ H Q) (h1 : behindInMarks op b = false) : B X W (.Compare a [op] [b] pos) (bE te) :=
  pt_imp (pt_cmp h h1) fun σ H Q q => k _ _ _ (liftB_E q)
theorem isN_imp {σ : L2.St} {H : Hp} {Q : VK} (h : lift X W (eU (fun p => .bl (isNP p)) ta) σ H Q) : tIsN (lift X W ta) σ H Q := by
  obtain ⟨g, Γ, S, rel, rg, ok⟩ := h
  exact ⟨g, Γ, S, rel, rg, OKw.mono (OKw.bind ok) fun p S1 g1 H1 _ e1 h1 x rx => by
    show Q (.bl (decide (x = V.non))) H1
    rw [isNP_rv rx]
    exact OKw.ok e1.rel h1 _ RV.bl⟩
theorem notN_imp {σ : L2.St} {H : Hp} {Q : VK} (h : lift X W (eU (fun p => .bl (!isNP p)) ta) σ H Q) : tNotN (lift X W ta) σ H Q := by
  obtain ⟨g, Γ, S, rel, rg, ok⟩ := h
  exact ⟨g, Γ, S, rel, rg, OKw.mono (OKw.bind ok) fun p S1 g1 H1 _ e1 h1 x rx => by
    show Q (.bl (!decide (x = V.non))) H1
    rw [isNP_rv rx]
    exact OKw.ok e1.rel h1 _ RV.bl⟩
theorem E.isN {j pos'} (ha : E X W a ta) : E X W (.Compare a [.Is] [.Constant .none j pos'] pos) (eU (fun p => .bl (isNP p)) ta) := pe_imp (pe_cmp (pc_isN ha) (nomark _)) fun _ _ _ h => isN_imp h
theorem E.notN {j pos'} (ha : E X W a ta) : E X W (.Compare a [.IsNot] [.Constant .none j pos'] pos) (eU (fun p => .bl (!isNP p)) ta) := pe_imp (pe_cmp (pc_notN ha) (nomark _)) fun _ _ _ h => notN_imp h
theorem B.isN {j pos'} (ha : E X W a ta) : B X W (.Compare a [.Is] [.Constant .none j pos'] pos) (bE (eU (fun p => .bl (isNP p)) ta)) := B.ofPC (pc_isN ha) (fun _ _ _ h => isN_imp h) (nomark _)
theorem B.notN {j pos'} (ha : E X W a ta) : B X W (.Compare a [.IsNot] [.Constant .none j pos'] pos) (bE (eU (fun p => .bl (!isNP p)) ta)) := B.ofPC (pc_notN ha) (fun _ _ _ h => notN_imp h) (nomark _)
theorem chain_imp {r r' : R2} {f f' : OF} (hf : OpF X r f) (hf' : OpF X r' f') {σ : L2.St} {H : Hp} {Q : VK} (h : lift X W (eChain f f' ta tb tc) σ H Q) : tChain r r' (lift X W ta) (lift X W tb) (lift X W tc) σ H Q := by
  obtain ⟨g, Γ, S, rel, rg, ok⟩ := h
  refine ⟨g, Γ, S, rel, rg, OKw.mono (OKw.bind ok) fun p S1 g1 H1 _ e1 h1 x rx => ?_⟩
  refine ⟨g1, Γ, S1, e1.rel, rg.up rel e1, OKw.mono (OKw.bind h1) fun q S2 g2 H2 _ e2 h2 y ry => ?_⟩
  have rx2 := RV.up e1.rel e2 p x rx
  cases hw : f p q S2 with
  | none => rw [hw] at h2; exact h2.elim
  | some z =>
    obtain ⟨w, S3⟩ := z
    rw [hw] at h2
    refine hf H2 g2 S2 p q x y w S3 _ e2.rel rx2 ry hw fun g3 H3 z e3 rz => ?_
    have h2 : OKw X W σ H2 g2 S2 (match w with
      | .bl true => (tc Γ S3).bind fun w S4 => R.of (f' q w S4)
      | .bl false => .ok (.bl false) S3
      | _ => .bad) _ := h2
    split at h2
    · refine ⟨true, rz.bl_inv, ?_⟩
      rw [if_pos rfl]
      refine ⟨g3, Γ, S3, e3.rel, ((rg.up rel e1).up e1.rel e2).up e2.rel e3, ?_⟩
      have h3 : OKw X W σ H3 g3 S3 ((tc Γ S3).bind fun w S4 => R.of (f' q w S4)) (fun v S' g' H' => ∀ x, RV X H' g' S'.length v x → Q x H') := by
        cases hr : (tc Γ S3).bind fun w S4 => R.of (f' q w S4) with
        | ok v S' => rw [hr] at h2; exact fun g' H' e' => h2 g' H' (e3.trans e')
        | ex c fs S' => rw [hr] at h2; exact fun g' H' cls d e' => h2 g' H' cls d (e3.trans e')
        | bad => rw [hr] at h2; exact h2
      refine OKw.mono (OKw.bind h3) fun w4 S4 g4 H4 _ e4 h4 z4 r4 => ?_
      cases hv : f' q w4 S4 with
      | none => rw [hv] at h4; exact h4.elim
      | some z =>
        obtain ⟨w5, S5⟩ := z
        rw [hv] at h4
        exact hf' H4 g4 S4 q w4 y z4 w5 S5 Q e4.rel (RV.up e3.rel e4 _ _ (RV.up e2.rel e3 _ _ ry)) r4 hv fun g' H' z e5 rz => h4 g' H' e5 z rz
    · refine ⟨false, rz.bl_inv, ?_⟩
      rw [if_neg Bool.false_ne_true]
      exact h2 g3 H3 e3 _ RV.bl
    · exact h2.elim
theorem E.chain {op op' : CmpOp} {r r' : R2} {f f' : OF} (ho : OpR X (compareOp op) r) (ho' : OpR X (compareOp op') r') (hf : OpF X r f) (hf' : OpF X r' f') (ha : E X W a ta) (hb : E X W b tb) (hc : E X W c tc)
    (hm : lastMarks [op, op'] [b, c] = false := by with_unfolding_all rfl) : E X W (.Compare a [op, op'] [b, c] pos) (eChain f f' ta tb tc) :=
  pe_imp (pe_chain ho ho' ha hb hc hm) fun σ H Q h => chain_imp hf hf' h
theorem B.chain {op op' : CmpOp} {r r' : R2} {f f' : OF} (ho : OpR X (compareOp op) r) (ho' : OpR X (compareOp op') r') (hf : OpF X r f) (hf' : OpF X r' f') (ha : E X W a ta) (hb : E X W b tb) (hc : E X W c tc)
    (hm : lastMarks [op, op'] [b, c] = false := by with_unfolding_all rfl) : B X W (.Compare a [op, op'] [b, c] pos) (bE (eChain f f' ta tb tc)) :=
  pt_imp (pt_chain ho ho' ha hb hc hm) fun σ H Q h => chain_imp hf hf' (liftB_E h)
/-- truth -/
def truB (S : Sto) (p : PV) : Option Bool := match p with
  | .non => some false
  | .bl b => some b
  | .int i => some (decide (i ≠ 0))
  | p => match deref S p with
    | some (.lst, xs) => some (!xs.isEmpty)
    | some (.tup, xs) => some (!xs.isEmpty)
    | _ => none
def bT (t : EF) : BF := fun Γ S => (t Γ S).bind fun v S1 => match truB S1 v with
  | some b => .ok b S1
  | none => .bad
theorem RVs.isEmpty {L : Nat} {xs : List PV} {vs : List V} (h : RVs X H g L xs vs) : (!xs.isEmpty) = !vs.isEmpty := by
  have := h.len
  cases xs <;> cases vs <;> simp_all
theorem truB_ok {p : PV} {x : V} {b : Bool} (rel : Rel X H g S) (rx : RV X H g S.length p x) (h : truB S p = some b) : TruV X.K x H b := by
  unfold truB at h
  split at h
  · cases h; rw [rx.non_inv]; exact rfl
  · cases h; rw [rx.bl_inv]; exact rfl
  · rename_i i
    cases h; rw [rx.int_inv]
    show decide (i ≠ 0) = (i != 0)
    by_cases z : i = 0 <;> simp [z]
  · split at h
    · rename_i xs e
      obtain ⟨a, vs, rfl, h2, h3⟩ := deref_ok rel rx e
      cases h
      exact Or.inl ⟨vs, h3.lst, h2.isEmpty⟩
    · rename_i xs e
      obtain ⟨a, vs, rfl, h2, h3⟩ := deref_ok rel rx e
      cases h
      exact Or.inr (Or.inl ⟨vs, h3.tup, h2.isEmpty⟩)
    · cases h
theorem B.tru (ha : E X W a ta) (he : ∀ whole, isTrue a X.env whole = (do let v ← whole; standAt a.pos; holding [v] (truthy v)) := by intro _; rfl) : B X W a (bT ta) :=
  pt_imp (pt_truth ha he) fun σ H Q ⟨g, Γ, S, rel, rg, ok⟩ => ⟨g, Γ, S, rel, rg, OKw.mono (OKw.bind ok) fun p S1 g1 H1 _ e1 h1 x rx => by
    split at h1
    · rename_i b hb
      exact ⟨b, truB_ok e1.rel rx hb, OKw.ok e1.rel h1⟩
    · exact h1.elim⟩
/-- and, or, not -/
def BW (X : Cx) (W : WX) (e : Expr) (t : BF) : Prop := PW X e (liftB X W t)
def bAnd (s t : BF) : BF := fun Γ S => (s Γ S).bind fun k S1 => if k = true then t Γ S1 else .ok false S1
def bOr (s t : BF) : BF := fun Γ S => (s Γ S).bind fun k S1 => if k = true then .ok true S1 else t Γ S1
def bNot (s : BF) : BF := fun Γ S => (s Γ S).bind fun k S1 => .ok (!k) S1
variable {sa sb : BF}
theorem pw_imp {e : Expr} {t t' : TT} (h : PW X e t) (k : ∀ σ H Q, t' σ H Q → t σ H Q) : PW X e t' := ⟨fun whole pins s σ H Q I q => h.run whole pins s σ H Q I (k σ H Q q)⟩
theorem BW.and1 (ha : B X W a sa) : BW X W (.BoolOp .And [a] pos) sa := pw_and1 ha
theorem BW.or1 (ha : B X W a sa) : BW X W (.BoolOp .Or [a] pos) sa := pw_or1 ha
theorem BW.and (ha : B X W a sa) (hb : BW X W (.BoolOp .And (b :: rest) pos) sb) : BW X W (.BoolOp .And (a :: b :: rest) pos) (bAnd sa sb) :=
  pw_imp (pw_and ha hb) fun σ H Q ⟨g, Γ, S, rel, rg, ok⟩ => ⟨g, Γ, S, rel, rg, OKw.mono (OKw.bind ok) fun k S1 g1 H1 _ e1 h1 => by
    cases k with
    | true => rw [if_pos rfl] at h1 ⊢; exact ⟨g1, Γ, S1, e1.rel, rg.up rel e1, h1⟩
    | false => rw [if_neg Bool.false_ne_true] at h1 ⊢; exact OKw.ok e1.rel h1⟩
theorem BW.or (ha : B X W a sa) (hb : BW X W (.BoolOp .Or (b :: rest) pos) sb) : BW X W (.BoolOp .Or (a :: b :: rest) pos) (bOr sa sb) :=
  pw_imp (pw_or ha hb) fun σ H Q ⟨g, Γ, S, rel, rg, ok⟩ => ⟨g, Γ, S, rel, rg, OKw.mono (OKw.bind ok) fun k S1 g1 H1 _ e1 h1 => by
    cases k with
    | true => rw [if_pos rfl] at h1 ⊢; exact OKw.ok e1.rel h1
    | false => rw [if_neg Bool.false_ne_true] at h1 ⊢; exact ⟨g1, Γ, S1, e1.rel, rg.up rel e1, h1⟩⟩
theorem BW.t (h : BW X W e sa) : B X W e sa := PW.pt h
theorem B.not (ha : B X W a sa) : B X W (.UnaryOp .Not a pos) (bNot sa) :=
  pt_imp (pt_not ha) fun σ H Q ⟨g, Γ, S, rel, rg, ok⟩ => ⟨g, Γ, S, rel, rg, OKw.mono (OKw.bind ok) fun k S1 g1 H1 _ e1 h1 => OKw.ok e1.rel h1⟩
/-- as values -/
def eAnd (s t : EF) : EF := fun Γ S => (s Γ S).bind fun v S1 => match v with
  | .bl true => t Γ S1
  | .bl false => .ok (.bl false) S1
  | _ => .bad
def eOr (s t : EF) : EF := fun Γ S => (s Γ S).bind fun v S1 => match v with
  | .bl true => .ok (.bl true) S1
  | .bl false => t Γ S1
  | _ => .bad
def eNot (s : EF) : EF := fun Γ S => (s Γ S).bind fun v S1 => match v with
  | .bl k => .ok (.bl (!k)) S1
  | _ => .bad
theorem E.one {op} (h : E X W a ta) : E X W (.BoolOp op [a] pos) ta := pe_one h
theorem E.and (ha : E X W a ta) (hb : E X W (.BoolOp .And (b :: rest) pos) tb) : E X W (.BoolOp .And (a :: b :: rest) pos) (eAnd ta tb) :=
  pe_imp (pe_and ha hb) fun σ H Q ⟨g, Γ, S, rel, rg, ok⟩ => ⟨g, Γ, S, rel, rg, OKw.mono (OKw.bind ok) fun p S1 g1 H1 _ e1 h1 x rx => by
    split at h1
    · exact ⟨true, rx.bl_inv, by rw [if_pos rfl]; exact ⟨g1, Γ, S1, e1.rel, rg.up rel e1, h1⟩⟩
    · exact ⟨false, rx.bl_inv, by rw [if_neg Bool.false_ne_true]; exact OKw.ok e1.rel h1 _ RV.bl⟩
    · exact h1.elim⟩
theorem E.or (ha : E X W a ta) (hb : E X W (.BoolOp .Or (b :: rest) pos) tb) : E X W (.BoolOp .Or (a :: b :: rest) pos) (eOr ta tb) :=
  pe_imp (pe_or ha hb) fun σ H Q ⟨g, Γ, S, rel, rg, ok⟩ => ⟨g, Γ, S, rel, rg, OKw.mono (OKw.bind ok) fun p S1 g1 H1 _ e1 h1 x rx => by
    split at h1
    · exact ⟨true, rx.bl_inv, by rw [if_pos rfl]; exact OKw.ok e1.rel h1 _ RV.bl⟩
    · exact ⟨false, rx.bl_inv, by rw [if_neg Bool.false_ne_true]; exact ⟨g1, Γ, S1, e1.rel, rg.up rel e1, h1⟩⟩
    · exact h1.elim⟩
theorem E.not (ha : E X W a ta) : E X W (.UnaryOp .Not a pos) (eNot ta) :=
  pe_imp (pe_not ha) fun σ H Q ⟨g, Γ, S, rel, rg, ok⟩ => ⟨g, Γ, S, rel, rg, OKw.mono (OKw.bind ok) fun p S1 g1 H1 _ e1 h1 x rx => by
    split at h1
    · exact ⟨_, rx.bl_inv, OKw.ok e1.rel h1 _ RV.bl⟩
    · exact h1.elim⟩
def eIf (s : BF) (ta tb : EF) : EF := fun Γ S => (s Γ S).bind fun k S1 => if k = true then ta Γ S1 else tb Γ S1
/-- - a -/
def eNeg (s : EF) : EF := fun Γ S => (s Γ S).bind fun v S1 => match v with
  | .int i => .ok (.int (-i)) S1
  | _ => .bad
theorem E.neg (hn : UnR X (unaryOp .USub) (rU fun i => .int (-i))) (ha : E X W a ta) : E X W (.UnaryOp .USub a pos) (eNeg ta) :=
  pe_imp (pe_un hn ha) fun σ H Q ⟨g, Γ, S, rel, rg, ok⟩ => ⟨g, Γ, S, rel, rg, OKw.mono (OKw.bind ok) fun p S1 g1 H1 _ e1 h1 x rx => by
    split at h1
    · exact ⟨_, rx.int_inv, OKw.ok e1.rel h1 _ RV.int⟩
    · exact h1.elim⟩
/-! ### rows of arguments, displays -/
def aNil : AF := fun _ S => .ok [] S
def aCons (t : EF) (r : AF) : AF := fun Γ S => (t Γ S).bind fun v S1 => (r Γ S1).bind fun vs S2 => .ok (v :: vs) S2
variable {tr : AF}
theorem A.nil : A X W [] aNil := pa_imp pa_nil fun σ H Q ⟨g, Γ, S, rel, rg, ok⟩ => OKw.ok rel ok [] RVs.nil
theorem A.cons (ha : E X W e ta) (hr : A X W es tr) (hs : starEach (e :: es) X.env = (false, eval e X.env) :: starEach es X.env := by rfl) : A X W (e :: es) (aCons ta tr) :=
  pa_imp (pa_cons ha hr hs) fun σ H Q ⟨g, Γ, S, rel, rg, ok⟩ => ⟨g, Γ, S, rel, rg, OKw.mono (OKw.bind ok) fun p S1 g1 H1 _ e1 h1 x rx =>
    ⟨g1, Γ, S1, e1.rel, rg.up rel e1, OKw.mono (OKw.bind h1) fun ps S2 g2 H2 _ e2 h2 xs rxs => OKw.ok e2.rel h2 _ (RVs.cons (RV.up e1.rel e2 _ _ rx) rxs)⟩⟩
def eTup (t : AF) : EF := fun Γ S => (t Γ S).bind fun vs S1 => if vs.length ≤ sizeLine then .ok (.con .own .tup vs) S1 else .bad
def eLst (m : Bool) (t : AF) : EF := fun Γ S => (t Γ S).bind fun vs S1 => if vs.length ≤ sizeLine then .ok (newP m .lst vs S1).1 (newP m .lst vs S1).2 else .bad
theorem E.tup {x1} (h : A X W es tr) : E X W (.Tuple es x1 pos) (eTup tr) :=
  pe_imp (pe_tup h) fun σ H Q ⟨g, Γ, S, rel, rg, ok⟩ => ⟨g, Γ, S, rel, rg, OKw.mono (OKw.bind ok) fun ps S1 g1 H1 _ e1 h1 xs rxs => by
    split at h1
    · refine ⟨by rw [← rxs.len]; assumption, fun p hp => ?_⟩
      obtain ⟨z1, z2⟩ := newF_ok e1.rel hp (k := .tup) (o := .tup _) rfl rxs
      exact h1 _ _ z1 _ z2
    · exact h1.elim⟩
theorem E.lst (m : Bool) (h : A X W es tr) : E X W (.List es pos) (eLst m tr) :=
  pe_imp (pe_lst h) fun σ H Q ⟨g, Γ, S, rel, rg, ok⟩ => ⟨g, Γ, S, rel, rg, OKw.mono (OKw.bind ok) fun ps S1 g1 H1 _ e1 h1 xs rxs => by
    split at h1
    · refine ⟨by rw [← rxs.len]; assumption, fun p hp => ?_⟩
      obtain ⟨g', z1, z2⟩ := new_ok (m := m) e1.rel hp (k := .lst) (o := .lst _) rfl (by decide) rxs
      exact h1 _ _ z1 _ z2
    · exact h1.elim⟩
/-! ### subscripts -/
def ixB (S : Sto) (p q : PV) : Option PV := match q with
  | .int i => match p with
    | .str z => if z.length ≤ sizeLine then (atI z.cps.toList i).map fun c => .str ⟨#[c]⟩ else none
    | p => match deref S p with
      | some (.lst, xs) => atI xs i
      | some (.tup, xs) => atI xs i
      | _ => none
  | _ => none
def ixF : OF := fun p q S => (ixB S p q).map fun v => (v, S)
theorem RVs.atI {L : Nat} {xs : List PV} {vs : List V} {i : Int} {p : PV} (h : RVs X H g L xs vs) (e : L2.atI xs i = some p) : ∃ v, L2.atI vs i = some v ∧ RV X H g L p v := by
  unfold L2.atI at e ⊢
  rw [← h.len]
  cases q : ixN xs.length i with
  | none => rw [q] at e; cases e
  | some j =>
    rw [q] at e
    exact h.get (i := j) e
theorem opf_ix : OpF X (rIx X.K) ixF := by
  intro H g S p q x y w S' Q rel rx ry h k
  simp only [ixF, Option.map_eq_some_iff, Prod.mk.injEq] at h
  obtain ⟨v, h, rfl, rfl⟩ := h
  unfold ixB at h
  split at h
  · split at h
    · split at h
      · rename_i hz
        simp only [Option.map_eq_some_iff] at h
        obtain ⟨c, h, rfl⟩ := h
        exact Or.inr (Or.inr ⟨_, _, c, rx.str_inv, ry.int_inv, hz, h, k g H _ (Ext.refl rel) RV.str⟩)
      · cases h
    · split at h
      · rename_i xs e
        obtain ⟨a, vs, rfl, h2, h3⟩ := deref_ok rel rx e
        obtain ⟨z, q1, q2⟩ := h2.atI h
        exact Or.inl ⟨a, vs, _, z, rfl, ry.int_inv, h3.lst, q1, k g H _ (Ext.refl rel) q2⟩
      · rename_i xs e
        obtain ⟨a, vs, rfl, h2, h3⟩ := deref_ok rel rx e
        obtain ⟨z, q1, q2⟩ := h2.atI h
        exact Or.inr (Or.inl ⟨a, vs, _, z, rfl, ry.int_inv, h3.tup, q1, k g H _ (Ext.refl rel) q2⟩)
      · cases h
  · cases h
theorem E.ix (ha : E X W a ta) (hb : E X W b tb) (hs : PlainIx b := by exact fun _ _ => rfl) : E X W (.Subscript a b pos) (eOp ixF ta tb) :=
  pe_imp (pe_ix ix_seq ha hb hs) fun _ _ _ h => lift_op opf_ix h
/-! ### calls of what is built in -/
abbrev CF := List PV → Sto → Option (PV × Sto)
def eCall (f : CF) (t : AF) : EF := fun Γ S => (t Γ S).bind fun ps S1 => R.of (f ps S1)
def CallF (X : Kx) (r : List V → Hp → VK → Prop) (f : CF) : Prop := ∀ (H : Hp) (g : G) (S : Sto) (ps : List PV) (xs : List V) (w : PV) (S' : Sto) (Q : VK), Rel X H g S → RVs X H g S.length ps xs → f ps S = some (w, S') →
  (∀ g' H' z, Ext X H g S H' g' S' → RV X H' g' S'.length w z → Q z H') → r xs H Q
theorem lift_call {r : List V → Hp → VK → Prop} {f : CF} (hf : CallF X r f) {σ : L2.St} {H : Hp} {Q : VK} (h : lift X W (eCall f tr) σ H Q) : liftA X W tr σ H fun xs H1 => r xs H1 Q := by
  obtain ⟨g, Γ, S, rel, rg, ok⟩ := h
  refine ⟨g, Γ, S, rel, rg, OKw.mono (OKw.bind ok) fun ps S1 g1 H1 _ e1 h1 xs rxs => ?_⟩
  cases hw : f ps S1 with
  | none => rw [hw] at h1; exact h1.elim
  | some z =>
    obtain ⟨w, S2⟩ := z
    rw [hw] at h1
    exact hf H1 g1 S1 ps xs w S2 Q e1.rel rxs hw fun g' H' z e2 rz => h1 g' H' e2 z rz
variable {x : Str} {p : Pos} {id T : String}
theorem E.callB {r : List V → Hp → VK → Prop} {f : CF} (hc : CallR X (.builtin id) r) (hf : CallF X r f) (hg : Gl X x) (hm : X.mg x = none) (hv : bootBuiltins x = some (.builtin id)) (ha : A X W (e :: es) tr) (hn : x ≠ "__name__" := by decide) (hdb : (x == ("__debug__" : Str)) = false := by decide)
    (he : starEach (e :: es) X.env = (false, eval e X.env) :: starEach es X.env := by rfl) (hpl : (backTo pos (starEach es X.env)).any (·.1) = false := by rfl) : E X W (.Call (.Name x p) (e :: es) [] pos) (eCall f tr) :=
  pe_imp (pe_callB hc hg hm hv ha hn hdb he hpl) fun _ _ _ h => lift_call hf h
theorem E.callTy {r : List V → Hp → VK → Prop} {f : CF} (hc : CallR X (.type T) r) (hf : CallF X r f) (hg : Gl X x) (hm : X.mg x = none) (hv : bootBuiltins x = some (.type T)) (ha : A X W (e :: es) tr) (hn : x ≠ "__name__" := by decide) (hdb : (x == ("__debug__" : Str)) = false := by decide)
    (he : starEach (e :: es) X.env = (false, eval e X.env) :: starEach es X.env := by rfl) (hpl : (backTo pos (starEach es X.env)).any (·.1) = false := by rfl) : E X W (.Call (.Name x p) (e :: es) [] pos) (eCall f tr) :=
  pe_imp (pe_callTy hc hg hm hv ha hn hdb he hpl) fun _ _ _ h => lift_call hf h
end
end Pv
/-! Pv5: statements, loops. -/
namespace Pv
open PySem PySem.Spec PyProof.Rows L2
inductive RS where
  | nx (Γ : Gam) (S : Sto) | rt (v : PV) (S : Sto) | bk (Γ : Gam) (S : Sto) | ct (Γ : Gam) (S : Sto) | ex (c : Str) (fs : List (Str × PV)) (Γ : Gam) (S : Sto) | bad
abbrev SF := Gam → Sto → RS
abbrev GF := PV → Gam → Sto → R Gam
def R.st {α : Type} (r : R α) (Γ : Gam) (k : α → Sto → RS) : RS := match r with
  | .ok a S => k a S
  | .ex c fs S => .ex c fs Γ S
  | .bad => .bad
section
variable {X : Cx} {H H' H'' : Hp} {g g' g'' : G} {S S' S'' : Sto} {W : WX} {a b c e o : Expr} {es rest : List Expr} {ta tb tc to : EF} {pos : Pos} {D : Ends} {sts : List Stmt} {s1 s2 : Stmt} {t u : SF} {Γ : Gam} {σ : L2.St}
def OKs (X : Kx) (W : WX) (D : Ends) (H : Hp) (g : G) (S : Sto) (r : RS) : Prop := match r with
  | .nx Γ' S' => ∀ g' H' σ', Ext X H g S H' g' S' → RG X H' g' S'.length Γ' σ' → D.nx σ' H'
  | .bk Γ' S' => ∀ g' H' σ', Ext X H g S H' g' S' → RG X H' g' S'.length Γ' σ' → D.bk σ' H'
  | .ct Γ' S' => ∀ g' H' σ', Ext X H g S H' g' S' → RG X H' g' S'.length Γ' σ' → D.ct σ' H'
  | .rt v S' => ∀ g' H' x, Ext X H g S H' g' S' → RV X H' g' S'.length v x → D.rt x H'
  | .ex c fs Γ' S' => ∀ g' H' σ' cls d, Ext X H g S H' g' S' → RG X H' g' S'.length Γ' σ' → RX X H' g' S'.length c fs cls d → W cls d σ' H'
  | .bad => False
theorem OKs.cont {r : RS} (e : Ext X H g S H' g' S') (h : OKs X W D H g S r) : OKs X W D H' g' S' r := by
  cases r with
  | nx Γ1 S1 => exact fun g1 H1 σ1 e1 => h g1 H1 σ1 (e.trans e1)
  | bk Γ1 S1 => exact fun g1 H1 σ1 e1 => h g1 H1 σ1 (e.trans e1)
  | ct Γ1 S1 => exact fun g1 H1 σ1 e1 => h g1 H1 σ1 (e.trans e1)
  | rt v S1 => exact fun g1 H1 x e1 => h g1 H1 x (e.trans e1)
  | ex c fs Γ1 S1 => exact fun g1 H1 σ1 cls d e1 => h g1 H1 σ1 cls d (e.trans e1)
  | bad => exact h
def liftS (X : Cx) (W : WX) (t : SF) : TS := fun D σ H => ∃ g Γ S, Rel X H g S ∧ RG X H g S.length Γ σ ∧ OKs X W D H g S (t Γ S)
def liftG (X : Cx) (W : WX) (t : GF) : TG := fun v σ H Q => ∃ g Γ S p, Rel X H g S ∧ RG X H g S.length Γ σ ∧ RV X H g S.length p v ∧ OKw X W σ H g S (t p Γ S) fun Γ' S' g' H' => ∀ σ', RG X H' g' S'.length Γ' σ' → Q σ' H'
/-- a statement does t; a block; a target takes by t -/
def St (X : Cx) (W : WX) (s : Stmt) (t : SF) : Prop := PS X s (liftS X W t)
def Ss (X : Cx) (W : WX) (s : List Stmt) (t : SF) : Prop := PSs X s (liftS X W t)
def Tg (X : Cx) (W : WX) (e : Expr) (t : GF) : Prop := PG X e (liftG X W t)
theorem ps_imp {s : Stmt} {t t' : TS} (h : PS X s t) (k : ∀ D σ H, t' D σ H → t D σ H) : PS X s t' := ⟨fun pins s σ H D I q => h.run pins s σ H D I (k D σ H q)⟩
theorem pss_imp {s : List Stmt} {t t' : TS} (h : PSs X s t) (k : ∀ D σ H, t' D σ H → t D σ H) : PSs X s t' := ⟨fun pins s σ H D I q => h.run pins s σ H D I (k D σ H q)⟩
theorem pg_imp {e : Expr} {t t' : TG} (h : PG X e t) (k : ∀ v σ H Q, t' v σ H Q → t v σ H Q) : PG X e t' := ⟨fun pins s σ H v u Q I r q => h.run pins s σ H v u Q I r (k v σ H Q q)⟩
theorem OKs.st {α : Type} {r : R α} {k : α → Sto → RS} (rel : Rel X H g S) (rg : RG X H g S.length Γ σ) (h : OKs X W D H g S (r.st Γ k)) : OKw X W σ H g S r fun v S1 g1 H1 => OKs X W D H1 g1 S1 (k v S1) := by
  cases r with
  | ok v S1 => exact fun g1 H1 e1 => OKs.cont e1 h
  | ex c fs S1 => exact fun g1 H1 cls d e1 rx => h g1 H1 σ cls d e1 (rg.up rel e1) rx
  | bad => exact h
def sSeq (t u : SF) : SF := fun Γ S => match t Γ S with
  | .nx Γ1 S1 => u Γ1 S1
  | r => r
def sNext : SF := fun Γ S => .nx Γ S
theorem Ss.nil : Ss X W [] sNext := pss_imp pss_nil fun D σ H ⟨g, Γ, S, rel, rg, ok⟩ => ok g H σ (Ext.refl rel) rg
theorem Ss.one (h : St X W s1 t) : Ss X W [s1] t := pss_one h
theorem Ss.cons (h : St X W s1 t) (k : Ss X W sts u) : Ss X W (s1 :: sts) (sSeq t u) :=
  pss_imp (pss_cons h k) fun D σ H ⟨g, Γ, S, rel, rg, ok⟩ => ⟨g, Γ, S, rel, rg, by
    unfold sSeq at ok
    cases q : t Γ S with
    | nx Γ1 S1 =>
      rw [q] at ok
      exact fun g1 H1 σ1 e1 rg1 => ⟨g1, Γ1, S1, e1.rel, rg1, OKs.cont e1 ok⟩
    | bk Γ1 S1 => rw [q] at ok; exact ok
    | ct Γ1 S1 => rw [q] at ok; exact ok
    | rt v S1 => rw [q] at ok; exact ok
    | ex c fs Γ1 S1 => rw [q] at ok; exact ok
    | bad => rw [q] at ok; exact ok⟩
def sBreak : SF := fun Γ S => .bk Γ S
def sExpr (t : EF) : SF := fun Γ S => (t Γ S).st Γ fun _ S1 => .nx Γ S1
theorem St.expr (h : E X W e ta) (hs : swapsWith e none pos.line X.env = pure false := by rfl) : St X W (.Expr e pos) (sExpr ta) :=
  ps_imp (ps_expr h hs) fun D σ H ⟨g, Γ, S, rel, rg, ok⟩ => ⟨g, Γ, S, rel, rg, OKw.mono (OKs.st rel rg ok) fun v S1 g1 H1 _ e1 h1 x _ => h1 g1 H1 σ (Ext.refl e1.rel) (rg.up rel e1)⟩
def sRet (t : EF) : SF := fun Γ S => (t Γ S).st Γ fun v S1 => .rt v S1
theorem St.ret (h : E X W e ta) : St X W (.Return (some e) pos) (sRet ta) :=
  ps_imp (ps_ret h) fun D σ H ⟨g, Γ, S, rel, rg, ok⟩ => ⟨g, Γ, S, rel, rg, OKw.mono (OKs.st rel rg ok) fun v S1 g1 H1 _ e1 h1 x rx => h1 g1 H1 x (Ext.refl e1.rel) rx⟩
def sIf (s : BF) (t u : SF) : SF := fun Γ S => (s Γ S).st Γ fun k S1 => if k = true then t Γ S1 else u Γ S1
theorem St.ite {sa : BF} {as bs : List Stmt} (hc : B X W c sa) (ha : Ss X W as t) (hb : Ss X W bs u) : St X W (.If c as bs pos) (sIf sa t u) :=
  ps_imp (ps_if hc ha hb) fun D σ H ⟨g, Γ, S, rel, rg, ok⟩ => ⟨g, Γ, S, rel, rg, OKw.mono (OKs.st rel rg ok) fun k S1 g1 H1 _ e1 h1 => by
    cases k with
    | true => rw [if_pos rfl] at h1 ⊢; exact ⟨g1, Γ, S1, e1.rel, rg.up rel e1, h1⟩
    | false => rw [if_neg Bool.false_ne_true] at h1 ⊢; exact ⟨g1, Γ, S1, e1.rel, rg.up rel e1, h1⟩⟩
/-! ### targets -/
def gN (i : Nat) : GF := fun p Γ S => .ok (Γ.set i (some p)) S
theorem Tg.name {i : Nat} {x : Str} (h : PG X (.Name x pos) (gName i)) : Tg X W (.Name x pos) (gN i) :=
  pg_imp h fun v σ H Q ⟨g, Γ, S, p, rel, rg, rv, ok⟩ => OKw.ok rel ok _ (rg.set rv)
abbrev GsF := List PV → Gam → Sto → R Gam
def liftGs (X : Cx) (W : WX) (t : GsF) : TGs := fun vs σ H Q => ∃ g Γ S ps, Rel X H g S ∧ RG X H g S.length Γ σ ∧ RVs X H g S.length ps vs ∧ OKw X W σ H g S (t ps Γ S) fun Γ' S' g' H' => ∀ σ', RG X H' g' S'.length Γ' σ' → Q σ' H'
/-- plain names -/
def gNs : List Nat → GsF
  | [], ps, Γ, S => match ps with
    | [] => .ok Γ S
    | _ => .bad
  | i :: is, ps, Γ, S => match ps with
    | p :: r => gNs is r (Γ.set i (some p)) S
    | [] => .bad
theorem gNs_ok : ∀ (is : List Nat) (ps : List PV) (Γ : Gam) (S : Sto), (∃ Γ' , gNs is ps Γ S = .ok Γ' S) ∨ gNs is ps Γ S = .bad
  | [], [], Γ, S => Or.inl ⟨Γ, rfl⟩
  | [], _ :: _, _, _ => Or.inr rfl
  | _ :: _, [], _, _ => Or.inr rfl
  | i :: is, p :: r, Γ, S => gNs_ok is r (Γ.set i (some p)) S
theorem gns_nil : PGs X [] (liftGs X W (gNs [])) := ⟨fun pins s σ H vs us Q I r ⟨g, Γ, S, ps, rel, rg, rv, ok⟩ => pgs_nil.run pins s σ H vs us Q I r (by
  cases ps with
  | nil => simp only [RVs] at rv; exact ⟨rv, OKw.ok rel ok _ rg⟩
  | cons _ _ => exact ok.elim)⟩
theorem gns_cons {i : Nat} {is : List Nat} {x : Str} (h : PG X (.Name x pos) (gName i)) (k : PGs X es (liftGs X W (gNs is)))
    (hs : (assignEach (.Name x pos :: es) X.env).map (·.2) = assign (.Name x pos) X.env :: (assignEach es X.env).map (·.2) := by rfl) : PGs X (.Name x pos :: es) (liftGs X W (gNs (i :: is))) :=
  ⟨fun pins s σ H vs us Q I r ⟨g, Γ, S, ps, rel, rg, rv, ok⟩ => (pgs_cons h k hs).run pins s σ H vs us Q I r (by
    cases ps with
    | nil => exact ok.elim
    | cons p ps =>
      simp only [RVs] at rv
      obtain ⟨v, w, rfl, h1, h2⟩ := rv
      refine ⟨v, w, rfl, g, _, S, ps, rel, rg.set h1, h2, ?_⟩
      have ok : OKw X W σ H g S (gNs is ps (Γ.set i (some p)) S) _ := ok
      rcases gNs_ok is ps (Γ.set i (some p)) S with ⟨Γ', q⟩ | q
      · rw [q] at ok ⊢; exact ok
      · rw [q] at ok; exact ok.elim)⟩
/-- a, b, .. = a tuple -/
def gT (is : List Nat) : GF := fun p Γ S => match deref S p with
  | some (.tup, xs) => gNs is xs Γ S
  | _ => .bad
theorem gNs_len : ∀ {is : List Nat} {ps : List PV} {Γ : Gam} {S : Sto}, (∃ Γ' S', gNs is ps Γ S = .ok Γ' S') → ps.length = is.length
  | [], [], _, _, _ => rfl
  | [], _ :: _, _, _, ⟨_, _, h⟩ => by cases h
  | _ :: _, [], _, _, ⟨_, _, h⟩ => by cases h
  | i :: is, p :: r, Γ, S, ⟨Γ', S', h⟩ => by
    simp only [List.length_cons, gNs_len (is := is) (ps := r) (Γ := Γ.set i (some p)) (S := S) ⟨Γ', S', h⟩]
theorem Tg.tup {is : List Nat} {k n : Nat} (hc : X.calm = true) (h : PGs X es (liftGs X W (gNs is))) (hi : is.length = n := by rfl) (hn : (assignEach es X.env).length = n := by rfl) (hst : (assignEach es X.env).findIdx? (·.1) = none := by rfl) :
    Tg X W (.Tuple es k pos) (gT is) :=
  pg_imp (pg_tup hc h hn hst) fun v σ H Q ⟨g, Γ, S, p, rel, rg, rv, ok⟩ => by
    unfold gT at ok
    split at ok
    · rename_i xs e
      obtain ⟨a, vs, rfl, h2, h3⟩ := deref_ok rel rv e
      have hl : xs.length = is.length := by
        rcases gNs_ok is xs Γ S with ⟨Γ', q⟩ | q
        · exact gNs_len ⟨Γ', S, q⟩
        · rw [q] at ok; exact ok.elim
      exact ⟨a, vs, rfl, h3.tup, by rw [← h2.len, hl, hi], g, Γ, S, xs, rel, rg, h2, ok⟩
    · exact ok.elim
def sAsg (t : EF) (gt : GF) : SF := fun Γ S => (t Γ S).st Γ fun v S1 => (gt v Γ S1).st Γ fun Γ1 S2 => .nx Γ1 S2
theorem asg_imp {gt : GF} (h : liftS X W (sAsg ta gt) D σ H) : tAsg (lift X W ta) (liftG X W gt) D σ H := by
  obtain ⟨g, Γ, S, rel, rg, ok⟩ := h
  refine ⟨g, Γ, S, rel, rg, OKw.mono (OKs.st rel rg ok) fun v S1 g1 H1 _ e1 h1 x rx => ?_⟩
  refine ⟨g1, Γ, S1, v, e1.rel, rg.up rel e1, rx, OKw.mono (OKs.st e1.rel (rg.up rel e1) h1) fun Γ2 S2 g2 H2 _ e2 h2 σ2 rg2 => h2 g2 H2 σ2 (Ext.refl e2.rel) rg2⟩
theorem St.asg {tg : Expr} {gt : GF} (he : E X W e ta) (hg : Tg X W tg gt) (hs : swapsWithSole [tg] e pos.line X.env = pure false := by rfl) (hw : swappedStores [tg] e X.env = pure none := by rfl)
    (h1 : (assignEach [tg] X.env).map (·.2) = [assign tg X.env] := by rfl) : St X W (.Assign [tg] e pos) (sAsg ta gt) :=
  ps_imp (ps_asg he hg hs hw h1) fun D σ H h => asg_imp h
/-- name = e -/
def sSet (i : Nat) (t : EF) : SF := fun Γ S => (t Γ S).st Γ fun v S1 => .nx (Γ.set i (some v)) S1
theorem set_imp {i : Nat} (h : liftS X W (sSet i ta) D σ H) : tAsg (lift X W ta) (gName i) D σ H := by
  obtain ⟨g, Γ, S, rel, rg, ok⟩ := h
  exact ⟨g, Γ, S, rel, rg, OKw.mono (OKs.st rel rg ok) fun v S1 g1 H1 _ e1 h1 x rx => h1 g1 H1 _ (Ext.refl e1.rel) ((rg.up rel e1).set rx)⟩
theorem St.set {i : Nat} {x : Str} {pos' : Pos} (h : ∀ {te : TE}, PE X e te → PS X (.Assign [.Name x pos'] e pos) (tAsg te (gName i))) (he : E X W e ta) : St X W (.Assign [.Name x pos'] e pos) (sSet i ta) :=
  ps_imp (h he) fun D σ H q => set_imp q
/-- name op= e, intsF -/
def sAug (i : Nat) (f : OF) (t : EF) : SF := fun Γ S => match Γ[i]? with
  | some (some p) => (t Γ S).st Γ fun q S1 => match f p q S1 with
    | some (v, S2) => .nx (Γ.set i (some v)) S2
    | none => .bad
  | _ => .bad
theorem aug_imp {i : Nat} {f : OF} {r : R2} (hf : OpF X r f) (h : liftS X W (sAug i f ta) D σ H) : tAug i (lift X W ta) r D σ H := by
  obtain ⟨g, Γ, S, rel, rg, ok⟩ := h
  unfold sAug at ok
  split at ok
  · rename_i p hp
    obtain ⟨x, h1, h2⟩ := rg.at_ i p hp
    refine ⟨x, h1, g, Γ, S, rel, rg, OKw.mono (OKs.st rel rg ok) fun q S1 g1 H1 _ e1 k1 y ry => ?_⟩
    cases hw : f p q S1 with
    | none => rw [hw] at k1; exact k1.elim
    | some z =>
      obtain ⟨w, S2⟩ := z
      rw [hw] at k1
      exact hf H1 g1 S1 p q x y w S2 _ e1.rel (RV.up rel e1 _ _ h2) ry hw fun g2 H2 z e2 rz => k1 g2 H2 _ e2 (((rg.up rel e1).up e1.rel e2).set rz)
  · exact ok.elim
/-! ### for, over what stands still -/
def forL (body : PV → SF) : List PV → SF
  | [], Γ, S => .nx Γ S
  | x :: xs, Γ, S => match body x Γ S with
    | .nx Γ1 S1 => forL body xs Γ1 S1
    | .ct Γ1 S1 => forL body xs Γ1 S1
    | .bk Γ1 S1 => .nx Γ1 S1
    | r => r
/-- what is walked, item by item: none: it is not a thing that may be walked; some none: the end -/
abbrev Stp := Sto → Nat → Option (Option PV)
def forI (st : Stp) (body : PV → SF) : Nat → Nat → SF
  | 0, _, _, _ => .bad
  | m + 1, i, Γ, S => match st S i with
    | none => .bad
    | some none => .nx Γ S
    | some (some x) => match body x Γ S with
      | .nx Γ1 S1 => forI st body m (i + 1) Γ1 S1
      | .ct Γ1 S1 => forI st body m (i + 1) Γ1 S1
      | .bk Γ1 S1 => .nx Γ1 S1
      | r => r
/-- a row that stands still -/
def stL (ps : List PV) : Stp := fun _ i => some ps[i]?
/-- a list that may change -/
def stR (n : Nat) : Stp := fun S i => match S[n]?.join with
  | some (.lst, xs) => some xs[i]?
  | _ => none
theorem forI_L {body : PV → SF} : ∀ (ps qs : List PV) (Γ : Gam) (S : Sto), forI (stL (qs ++ ps)) body (ps.length + 1) qs.length Γ S = forL body ps Γ S
  | [], qs, Γ, S => by
    simp only [List.append_nil, List.length_nil, forI, stL, forL]
    rw [List.getElem?_eq_none (Nat.le_refl _)]
  | p :: ps, qs, Γ, S => by
    have ih := fun Γ S => forI_L (body := body) ps (qs ++ [p]) Γ S
    simp only [List.append_assoc, List.singleton_append, List.length_append, List.length_singleton] at ih
    have e : (qs ++ p :: ps)[qs.length]? = some p := by
      rw [List.getElem?_append_right (Nat.le_refl _), Nat.sub_self] <;> rfl
    simp only [List.length_cons]
    rw [forI]
    simp only [stL] at ih ⊢
    rw [e]
    simp only [forL]
    cases body p Γ S <;> simp only [ih]
def sTurn (gt : GF) (t : SF) : PV → SF := fun p Γ S => (gt p Γ S).st Γ fun Γ1 S1 => t Γ1 S1
/-- one turn: the body's ends are the loop's -/
theorem turn_ok {gt : GF} {p : PV} {v : V} {k : SF} {N : L2.St → Hp → Prop} (rel : Rel X H g S) (rg : RG X H g S.length Γ σ) (rv : RV X H g S.length p v)
    (hN : ∀ g' H' σ' Γ' S', Ext X H g S H' g' S' → RG X H' g' S'.length Γ' σ' → OKs X W D H' g' S' (k Γ' S') → N σ' H')
    (ok : OKs X W D H g S (match sTurn gt t p Γ S with
      | .nx Γ1 S1 => k Γ1 S1
      | .ct Γ1 S1 => k Γ1 S1
      | .bk Γ1 S1 => .nx Γ1 S1
      | r => r)) : liftG X W gt v σ H fun σ2 H2 => liftS X W t { D with nx := N, ct := N, bk := D.nx } σ2 H2 := by
  refine ⟨g, Γ, S, p, rel, rg, rv, ?_⟩
  unfold sTurn at ok
  cases q : gt p Γ S with
  | bad => rw [q] at ok; exact ok.elim
  | ex c fs S1 =>
    rw [q] at ok
    exact fun g1 H1 cls d e1 rx => ok g1 H1 σ cls d e1 (rg.up rel e1) rx
  | ok Γ1 S1 =>
    rw [q] at ok
    intro g1 H1 e1 σ1 rg1
    refine ⟨g1, Γ1, S1, e1.rel, rg1, ?_⟩
    have ok : OKs X W D H g S (match t Γ1 S1 with
      | .nx Γ1 S1 => k Γ1 S1
      | .ct Γ1 S1 => k Γ1 S1
      | .bk Γ1 S1 => .nx Γ1 S1
      | r => r) := ok
    cases z : t Γ1 S1 with
    | nx Γ2 S2 =>
      rw [z] at ok
      exact fun g2 H2 σ2 e2 rg2 => hN g2 H2 σ2 Γ2 S2 (e1.trans e2) rg2 (OKs.cont (e1.trans e2) ok)
    | ct Γ2 S2 =>
      rw [z] at ok
      exact fun g2 H2 σ2 e2 rg2 => hN g2 H2 σ2 Γ2 S2 (e1.trans e2) rg2 (OKs.cont (e1.trans e2) ok)
    | bk Γ2 S2 =>
      rw [z] at ok
      exact fun g2 H2 σ2 e2 rg2 => ok g2 H2 σ2 (e1.trans e2) rg2
    | rt w S2 =>
      rw [z] at ok
      exact fun g2 H2 x e2 rx => ok g2 H2 x (e1.trans e2) rx
    | ex c fs Γ2 S2 =>
      rw [z] at ok
      exact fun g2 H2 σ2 cls d e2 rg2 rx => ok g2 H2 σ2 cls d (e1.trans e2) rg2 rx
    | bad => rw [z] at ok; exact ok.elim
/-- the walker J does what st says, from the state (H, g, S) on -/
def JOK (X : Kx) (J : It) (st : Stp) (H : Hp) (g : G) (S : Sto) : Prop := ∀ g' H' S' i, Ext X H g S H' g' S' →
  (∀ p, st S' i = some (some p) → J.go i H' ∧ ∀ x H2, J.yld i H' x H2 → ∃ g2, Ext X H' g' S' H2 g2 S' ∧ RV X H2 g2 S'.length p x) ∧ (st S' i = some none → J.stop i H')
theorem forI_ok {gt : GF} {J : It} {st : Stp} {n : Nat} (rel : Rel X H g S) (rg : RG X H g S.length Γ σ) (hJ : JOK X J st H g S) (ok : OKs X W D H g S (forI st (sTurn gt t) n 0 Γ S)) :
    ∃ Wv : Nat → Nat → L2.St → Hp → Prop, (∃ m, Wv 0 m σ H) ∧ ∀ i m σ H, Wv i m σ H →
      (J.stop i H ∧ D.nx σ H) ∨ (J.go i H ∧ ∃ N : L2.St → Hp → Prop, (∀ σ' H', N σ' H' → ∃ m', m' < m ∧ Wv (i + 1) m' σ' H') ∧ ∀ x H', J.yld i H x H' → liftG X W gt x σ H' fun σ2 H2 => liftS X W t { D with nx := N, ct := N, bk := D.nx } σ2 H2) := by
  refine ⟨fun i m σ1 H1 => ∃ g1 Γ1 S1, Ext X H g S H1 g1 S1 ∧ RG X H1 g1 S1.length Γ1 σ1 ∧ OKs X W D H1 g1 S1 (forI st (sTurn gt t) m i Γ1 S1), ⟨n, g, Γ, S, Ext.refl rel, rg, ok⟩, ?_⟩
  rintro i m σ1 H1 ⟨g1, Γ1, S1, e1, rg1, ok1⟩
  obtain ⟨j1, j2⟩ := hJ g1 H1 S1 i e1
  cases m with
  | zero => exact ok1.elim
  | succ m =>
    rw [forI] at ok1
    cases q : st S1 i with
    | none => rw [q] at ok1; exact ok1.elim
    | some z =>
      rw [q] at ok1
      cases z with
      | none => exact Or.inl ⟨j2 q, ok1 g1 H1 σ1 (Ext.refl e1.rel) rg1⟩
      | some p =>
        obtain ⟨j3, j4⟩ := j1 p q
        refine Or.inr ⟨j3, fun σ2 H2 => ∃ g2 Γ2 S2, Ext X H g S H2 g2 S2 ∧ RG X H2 g2 S2.length Γ2 σ2 ∧ OKs X W D H2 g2 S2 (forI st (sTurn gt t) m (i + 1) Γ2 S2), fun σ2 H2 h2 => ⟨m, Nat.lt_succ_self m, h2⟩, fun x H2 y => ?_⟩
        obtain ⟨g2, e2, rv⟩ := j4 x H2 y
        exact turn_ok (k := fun Γ S => forI st (sTurn gt t) m (i + 1) Γ S) e2.rel (rg1.up e1.rel e2) rv (fun g' H' σ' Γ' S' e' rg' ok' => ⟨g', Γ', S', (e1.trans e2).trans e', rg', ok'⟩) (OKs.cont e2 ok1)
/-! ### while -/
def whlN (c : BF) (t : SF) : Nat → SF
  | 0, _, _ => .bad
  | n + 1, Γ, S => (c Γ S).st Γ fun k S1 => if k = true then (match t Γ S1 with
      | .nx Γ2 S2 => whlN c t n Γ2 S2
      | .ct Γ2 S2 => whlN c t n Γ2 S2
      | .bk Γ2 S2 => .nx Γ2 S2
      | r => r) else .nx Γ S1
def fuel : Nat := 1000000000000
def sWhl (c : BF) (t : SF) : SF := whlN c t fuel
theorem St.whl {sa : BF} {body : List Stmt} (hp : PassesOwn (model X.prog X.w) X.A X.env X.xe) (hc : B X W c sa) (hb : Ss X W body t) : St X W (.While c body [] pos) (sWhl sa t) :=
  ps_imp (ps_while hp hc hb) fun D σ H ⟨g, Γ, S, rel, rg, ok⟩ => by
    refine ⟨fun m σ1 H1 => ∃ g1 Γ1 S1, Rel X H1 g1 S1 ∧ RG X H1 g1 S1.length Γ1 σ1 ∧ OKs X W D H1 g1 S1 (whlN sa t m Γ1 S1), ⟨fuel, g, Γ, S, rel, rg, ok⟩, ?_⟩
    rintro m σ1 H1 ⟨g1, Γ1, S1, rel1, rg1, ok1⟩
    cases m with
    | zero => exact ok1.elim
    | succ m =>
      refine ⟨g1, Γ1, S1, rel1, rg1, OKw.mono (OKs.st rel1 rg1 ok1) fun k S2 g2 H2 _ e2 h2 => ?_⟩
      cases k with
      | false => rw [if_neg Bool.false_ne_true] at h2 ⊢; exact h2 g2 H2 σ1 (Ext.refl e2.rel) (rg1.up rel1 e2)
      | true =>
        rw [if_pos rfl] at h2 ⊢
        refine ⟨fun σ3 H3 => ∃ g3 Γ3 S3, Rel X H3 g3 S3 ∧ RG X H3 g3 S3.length Γ3 σ3 ∧ OKs X W D H3 g3 S3 (whlN sa t m Γ3 S3), fun σ3 H3 h3 => ⟨m, Nat.lt_succ_self m, h3⟩, g2, Γ1, S2, e2.rel, rg1.up rel1 e2, ?_⟩
        cases z : t Γ1 S2 with
        | nx Γ3 S3 => rw [z] at h2; exact fun g3 H3 σ3 e3 rg3 => ⟨g3, Γ3, S3, e3.rel, rg3, OKs.cont e3 h2⟩
        | ct Γ3 S3 => rw [z] at h2; exact fun g3 H3 σ3 e3 rg3 => ⟨g3, Γ3, S3, e3.rel, rg3, OKs.cont e3 h2⟩
        | bk Γ3 S3 => rw [z] at h2; exact h2
        | rt v S3 => rw [z] at h2; exact h2
        | ex c fs Γ3 S3 => rw [z] at h2; exact h2
        | bad => rw [z] at h2; exact h2.elim
/-! ### what may be walked -/
def strs1 (z : Str) : List PV := z.cps.toList.map fun c => .str ⟨#[c]⟩
def intsF (lo : Int) (n : Nat) : List PV := (List.range n).map fun i => .int (lo + (i : Nat))
abbrev IF := Gam → Sto → R (Stp × Nat)
def SrcOK (X : Cx) (W : WX) (wi : TI) (it : IF) : Prop := ∀ (σ : L2.St) (H : Hp) (g : G) (Γ : Gam) (S : Sto) (Rr : It → Hp → Prop), Rel X H g S → RG X H g S.length Γ σ →
  OKw X W σ H g S (it Γ S) (fun q S1 g1 H1 => ∀ J, JOK X J q.1 H1 g1 S1 → Rr J H1) → wi σ H Rr
/-- iter walks as it says -/
def I (X : Cx) (W : WX) (tg iter : Expr) (it : IF) : Prop := ∃ wi, PI X tg iter wi ∧ SrcOK X W wi it
def sFor (it : IF) (gt : GF) (t : SF) : SF := fun Γ S => (it Γ S).st Γ fun q S1 => forI q.1 (sTurn gt t) q.2 0 Γ S1
variable {tg : Expr} {gt : GF} {body : List Stmt} {tn : AF} {it : IF} {iter : Expr}
theorem St.for (hp : PassesOwn (model X.prog X.w) X.A X.env X.xe) (hc : X.calm = true) (hi : I X W tg iter it) (ht : Tg X W tg gt) (hb : Ss X W body t) (hf : ∀ x, foldedSetIterable iter X.env x = pure x := by intro _; rfl) :
    St X W (.For tg iter body [] pos) (sFor it gt t) := by
  obtain ⟨wi, pi, src⟩ := hi
  refine ps_imp (ps_for hp hc pi ht hb hf) fun D σ H ⟨g, Γ, S, rel, rg, ok⟩ => ?_
  exact src σ H g Γ S _ rel rg (OKw.mono (OKs.st rel rg ok) fun q S1 g1 H1 _ e1 h1 J hJ => forI_ok e1.rel (rg.up rel e1) hJ h1)
theorem jok_L {J : It} {ps : List PV} {vs : List V} (rel : Rel X H g S) (rv : RVs X H g S.length ps vs)
    (hJ : ∀ H' i, (∀ x, vs[i]? = some x → J.go i H' ∧ ∀ y H2, J.yld i H' y H2 → y = x ∧ H2 = H') ∧ (vs.length ≤ i → J.stop i H')) : JOK X J (stL ps) H g S := by
  intro g' H' S' i e
  refine ⟨fun p q => ?_, fun q => ?_⟩
  · obtain ⟨x, q1, q2⟩ := rv.get (i := i) (p := p) (Option.some.inj q)
    obtain ⟨j1, j2⟩ := (hJ H' i).1 x q1
    refine ⟨j1, fun y H2 z => ?_⟩
    obtain ⟨rfl, rfl⟩ := j2 y H2 z
    exact ⟨g', Ext.refl e.rel, RV.up rel e _ _ q2⟩
  · have q : ps[i]? = none := Option.some.inj q
    exact (hJ H' i).2 (by rw [← rv.len]; exact List.getElem?_eq_none_iff.mp q)
theorem RVs.ofints {Y : Kx} {L : Nat} {lo : Int} {n : Nat} : RVs Y H g L (intsF lo n) ((List.range n).map fun i => V.int (lo + (i : Nat))) := by
  unfold intsF
  generalize List.range n = l
  induction l with
  | nil => exact RVs.nil
  | cons i l ih => exact RVs.cons RV.int ih
theorem jok_r {lo : Int} {n : Nat} (rel : Rel X H g S) : JOK X (Itr lo n) (stL (intsF lo n)) H g S :=
  jok_L rel RVs.ofints fun H' i => ⟨fun x h => by
    rw [List.getElem?_map] at h
    obtain ⟨j, h1, h2⟩ := Option.map_eq_some_iff.mp h
    have hi := (List.getElem?_eq_some_iff.mp h1).1
    rw [List.length_range] at hi
    rw [List.getElem?_range hi] at h1
    cases h1
    exact ⟨hi, fun y H2 z => ⟨z.2.trans h2, z.1⟩⟩, fun h => by
    rw [List.length_map, List.length_range] at h
    exact h⟩
def iR1 (tn : AF) : IF := fun Γ S => (tn Γ S).bind fun ps S1 => match ps with
  | [.int n] => if -(2 ^ 62) ≤ n ∧ n < 2 ^ 62 then .ok (stL (intsF 0 n.toNat), n.toNat + 1) S1 else .bad
  | _ => .bad
def iR2 (tn : AF) : IF := fun Γ S => (tn Γ S).bind fun ps S1 => match ps with
  | [.int i, .int j] => if -(2 ^ 62) ≤ i ∧ i < 2 ^ 62 ∧ -(2 ^ 62) ≤ j ∧ j < 2 ^ 62 then .ok (stL (intsF i (j - i).toNat), (j - i).toNat + 1) S1 else .bad
  | _ => .bad
theorem I.r1 {p : Pos} (hg : Gl X "range") (hm : X.mg "range" = none) (ha : A X W [a] tn) (hs : starEach [a] X.env = [(false, eval a X.env)] := by rfl) : I X W tg (.Call (.Name "range" p) [a] [] pos) (iR1 tn) :=
  ⟨_, pi_range1 hg hm ha hs, fun σ H g Γ S Rr rel rg ok => ⟨g, Γ, S, rel, rg, OKw.mono (OKw.bind ok) fun ps S1 g1 H1 _ e1 h1 xs rxs => by
    split at h1
    · rename_i n _
      simp only [RVs, RV] at rxs
      obtain ⟨v, r, rfl, rfl, rfl⟩ := rxs
      split at h1
      · rename_i hn
        exact ⟨n, rfl, hn.1, hn.2, OKw.ok e1.rel h1 _ (jok_r e1.rel)⟩
      · exact h1.elim
    · exact h1.elim⟩⟩
end
end Pv
/-! Pv6: defs of data: promises by functions, calls, bodies. -/
namespace Pv
open PySem PySem.Spec PyProof.Rows L2
/-! ### data without changing or lent parts -/
mutual
def clean : PV → Bool
  | .con .lent _ _ => false
  | .con _ _ xs => cleans xs
  | .ref _ => false
  | _ => true
def cleans : List PV → Bool
  | [] => true
  | x :: xs => clean x && cleans xs
end
inductive RP where
  | ok (v : PV) | ex (c : Str) (fs : List (Str × PV)) | bad
/-- a local value handed out: what changed until now stands for good -/
def frzV : Nat → Sto → PV → Option PV
  | 0, _, p => if clean p = true then some p else none
  | n + 1, S, p => if clean p = true then some p else match p with
    | .con .own k xs => (xs.mapM (frzV n S)).map (.con .own k)
    | .con .out k xs => (xs.mapM (frzV n S)).map (.con .out k)
    | .ref i => match S[i]?.join with
      | some (k, xs) => (xs.mapM (frzV n S)).map (.con .own k)
      | none => none
    | _ => none
/-- a value lent to a callee -/
def lendV (S : Sto) (p : PV) : Option PV := if clean p = true then some p else match p with
  | .con .lent k xs => if cleans xs = true then some (.con .lent k xs) else none
  | .ref i => match S[i]?.join with
    | some (k, xs) => if cleans xs = true then some (.con .lent k xs) else none
    | none => none
  | _ => none
def resP (S : Sto) (p : PV) : RP := match frzV 9 S p with
  | some q => .ok q
  | none => .bad
/-- a def of np parameters and n slots, as a function of data -/
def runP (np n : Nat) (body : SF) (args : List PV) : RP := if args.length = np then (match body (args.map some ++ List.replicate (n - args.length) none) [] with
  | .nx _ _ => .ok .non
  | .rt v S => resP S v
  | .ex c fs _ S => if cleans (fs.map (·.2)) = true then .ex c fs else .bad
  | _ => .bad) else .bad
section
variable {Y : Kx} {H H' H'' : Hp} {g g' g'' : G} {S S' S'' : Sto} {L L' : Nat}
structure CUp (H : Hp) (g : G) (H' : Hp) (g' : G) : Prop where
  keep : ∀ a o, H a = some o → (Mut (some o) → g.F a) → H' a = some o
  fr : ∀ a, g.F a → g'.F a
mutual
theorem RV.clean (u : CUp H g H' g') : ∀ (p : PV) (v : V), clean p = true → RV Y H g L p v → RV Y H' g' L' p v
  | .non, _, _, h => h
  | .bl _, _, _, h => h
  | .int _, _, _, h => h
  | .str _, _, _, h => h
  | .fn _, _, _, h => h
  | .ty _, _, _, h => h
  | .ref n, v, c, _ => by simp [Pv.clean] at c
  | .con .lent k xs, v, c, _ => by simp [Pv.clean] at c
  | .con .own k xs, v, c, h => by
    simp only [Pv.clean] at c
    simp only [RV] at h ⊢
    obtain ⟨a, vs, h1, ⟨o, h2, h3, h4⟩, h5⟩ := h
    exact ⟨a, vs, h1, ⟨o, h2, u.keep a o h3 h4, fun z => u.fr a (h4 z)⟩, RVs.clean u xs vs c h5⟩
  | .con .out k xs, v, c, h => by
    simp only [Pv.clean] at c
    simp only [RV] at h ⊢
    obtain ⟨a, vs, h1, h2, h5⟩ := h
    refine ⟨a, vs, h1, ?_, RVs.clean u xs vs c h5⟩
    rcases h2 with ⟨ob, o, q1, q2⟩ | h2
    · exact Or.inl ⟨ob, o, q1, u.keep a _ q2 fun z => False.elim z⟩
    · exact Or.inr h2
theorem RVs.clean (u : CUp H g H' g') : ∀ (p : List PV) (v : List V), cleans p = true → RVs Y H g L p v → RVs Y H' g' L' p v
  | [], _, _, h => h
  | x :: xs, vs, c, h => by
    simp only [Pv.cleans, Bool.and_eq_true] at c
    simp only [RVs] at h ⊢
    obtain ⟨v, r, h1, h2, h3⟩ := h
    exact ⟨v, r, h1, RV.clean u x v c.1 h2, RVs.clean u xs r c.2 h3⟩
end
theorem mapM_rv {f : PV → Option PV} (hf : ∀ p x q, RV Y H g L p x → f p = some q → RV Y H' g' L' q x) : ∀ {xs ys : List PV} {vs : List V}, RVs Y H g L xs vs → xs.mapM f = some ys → RVs Y H' g' L' ys vs
  | [], ys, vs, h, e => by
    simp only [RVs] at h
    subst h
    simp at e
    subst e
    exact RVs.nil
  | x :: xs, ys, vs, h, e => by
    simp only [RVs] at h
    obtain ⟨v, r, rfl, h2, h3⟩ := h
    simp only [List.mapM_cons, Option.bind_eq_bind, Option.bind_eq_some_iff, Option.pure_def, Option.some.injEq] at e
    obtain ⟨d, e1, es, e2, rfl⟩ := e
    exact RVs.cons (hf x v d h2 e1) (mapM_rv hf h3 e2)
/-- what stands for good behind a def: what did, and its own objects -/
def endF (g : G) (S : Sto) : Addr → Prop := fun a => g.F a ∨ ∃ n, Al S n ∧ g.r n = a
def Gp (F : Addr → Prop) : G := ⟨F, fun _ => False, fun _ => 0⟩
theorem frzV_ok (rel : Rel Y H g S) : ∀ (n : Nat) (p : PV) (x : V) (q : PV), RV Y H g S.length p x → frzV n S p = some q → RV Y H (Gp (endF g S)) 0 q x
  | 0, p, x, q, h, e => by
    unfold frzV at e
    split at e
    · rename_i c
      cases e
      exact RV.clean ⟨fun _ _ h _ => h, fun _ h => Or.inl h⟩ p x c h
    · cases e
  | n + 1, p, x, q, h, e => by
    unfold frzV at e
    split at e
    · rename_i c
      cases e
      exact RV.clean ⟨fun _ _ h _ => h, fun _ h => Or.inl h⟩ p x c h
    · split at e
      · simp only [Option.map_eq_some_iff] at e
        obtain ⟨ys, e, rfl⟩ := e
        simp only [RV] at h ⊢
        obtain ⟨a, vs, h1, ⟨o, h2, h3, h4⟩, h5⟩ := h
        exact ⟨a, vs, h1, ⟨o, h2, h3, fun z => Or.inl (h4 z)⟩, mapM_rv (frzV_ok rel n) h5 e⟩
      · simp only [Option.map_eq_some_iff] at e
        obtain ⟨ys, e, rfl⟩ := e
        simp only [RV] at h ⊢
        obtain ⟨a, vs, h1, h2, h5⟩ := h
        exact ⟨a, vs, h1, h2, mapM_rv (frzV_ok rel n) h5 e⟩
      · split at e
        · rename_i i _ _ k xs ej
          simp only [Option.map_eq_some_iff] at e
          obtain ⟨ys, e, rfl⟩ := e
          have hn := join_some ej
          obtain ⟨o, vs, q1, q2, q3, q4⟩ := rel.ob i k xs hn
          simp only [RV] at h ⊢
          exact ⟨_, vs, h.2, ⟨o, q2, q1, fun _ => Or.inr ⟨i, ⟨_, hn⟩, rfl⟩⟩, mapM_rv (frzV_ok rel n) q4 e⟩
        · cases e
      · cases e
def lendG (g : G) (S : Sto) : G := ⟨g.F, fun a => g.T a ∨ ∃ n, Al S n ∧ g.r n = a, fun _ => 0⟩
theorem lendV_ok (rel : Rel Y H g S) {p : PV} {x : V} {q : PV} (h : RV Y H g S.length p x) (e : lendV S p = some q) : RV Y H (lendG g S) 0 q x := by
  have cu : CUp H g H (lendG g S) := ⟨fun _ _ h _ => h, fun _ h => h⟩
  unfold lendV at e
  split at e
  · rename_i c
    cases e
    exact RV.clean cu p x c h
  · split at e
    · split at e
      · rename_i c
        cases e
        simp only [RV] at h ⊢
        obtain ⟨a, vs, h1, ⟨o, h2, h3, h4⟩, h5⟩ := h
        exact ⟨a, vs, h1, ⟨o, h2, h3, fun z => Or.inl (h4 z)⟩, RVs.clean cu _ _ c h5⟩
      · cases e
    · split at e
      · rename_i i _ _ k xs ej
        split at e
        · rename_i c
          cases e
          have hn := join_some ej
          obtain ⟨o, vs, q1, q2, q3, q4⟩ := rel.ob i k xs hn
          simp only [RV] at h ⊢
          exact ⟨_, vs, h.2, ⟨o, q2, q1, fun _ => Or.inr ⟨i, ⟨_, hn⟩, rfl⟩⟩, RVs.clean cu _ _ c q4⟩
        · cases e
      · cases e
    · cases e
/-! ### a promise by a function of data -/
structure Gro (H : Hp) (g : G) (H' : Hp) (F' : Addr → Prop) : Prop where
  fr : ∀ a, g.F a → F' a
  keep : ∀ a o, H a = some o → H' a = some o
  tr : ∀ a, F' a → ∃ o, H' a = some o
  new : ∀ a, F' a → g.F a ∨ H a = none
def OKp (Y : Kx) (H : Hp) (g : G) (r : RP) (Q : VK) (E : XK) : Prop := match r with
  | .ok v => ∀ H' F' x, Gro H g H' F' → RV Y H' (Gp F') 0 v x → Q x H'
  | .ex c fs => ∀ H' F' cls d, Gro H g H' F' → RX Y H' (Gp F') 0 c fs cls d → E cls d H'
  | .bad => False
def spP (Y : Kx) (f : List PV → RP) : Sp := fun vs H Q E => ∃ (g : G) (ps : List PV), RVs Y H g 0 ps vs ∧ (∀ a, g.F a ∨ g.T a → ∃ o, H a = some o) ∧ OKp Y H g (f ps) Q E
/-- a def that may be called by its name -/
structure Cal (P : Program) (w : World) (K : PySem.W.Frag) (mg : Str → Option Value) (base : Heap) (k : Nat) (x : Str) (sp : Sp) : Prop where
  ex : ∃ (f : Addr) (fd : FuncData) (ps : List Str), FnOk P w K mg base (L2.CX P w) k f fd ps sp ∧ mg x = some (.ref f) ∧ PySem.W.keepIn K (.ref f) = true ∧ Binds K fd ps []
end
def eCallP (f : List PV → RP) (t : AF) : EF := fun Γ S => (t Γ S).bind fun ps S1 => match ps.mapM (lendV S1) with
  | some qs => match f qs with
    | .ok v => .ok v S1
    | .ex c fs => .ex c fs S1
    | .bad => .bad
  | none => .bad
section
variable {X : Cx} {H H' H'' : Hp} {g g' g'' : G} {S S' S'' : Sto} {W : WX} {a b c e o : Expr} {es rest : List Expr} {ta tb tc to : EF} {tr : AF} {pos p : Pos} {Γ : Gam} {σ : L2.St} {x : Str} {k j : Nat} {f : List PV → RP}
theorem Gro.ext {F' : Addr → Prop} (rel : Rel X H g S) (u : Gro H (lendG g S) H' F') : Ext X H g S H' ⟨F', g.T, g.r⟩ S := by
  have up : Up H g S.length H' ⟨F', g.T, g.r⟩ S.length := ⟨fun a o h _ => u.keep a o h, fun a h => u.fr a h, fun _ h => h, fun _ _ => rfl, Nat.le_refl _⟩
  refine ⟨⟨fun n k xs e => ?_, rel.inj, fun n hn z => ?_, rel.fT, fun a z => ?_⟩, fun a o h _ => u.keep a o h, fun n hn => Or.inl ⟨hn, rfl⟩, fun _ _ => rfl, Nat.le_refl _, fun a h => u.fr a h, rfl, fun a o h => ⟨o, u.keep a o h⟩, fun a h => (u.new a h).elim Or.inl fun z => Or.inr (Or.inl z)⟩
  · obtain ⟨o, vs, h1, h2, h3, h4⟩ := rel.ob n k xs e
    exact ⟨o, vs, u.keep _ _ h1, h2, h3, RVs.mono up _ _ h4⟩
  · rcases u.new _ z with z | z
    · exact rel.fF n hn z
    · obtain ⟨o, q⟩ := rel.tracked hn
      have z : H (g.r n) = none := z
      rw [q] at z; cases z
  · rcases z with z | z
    · exact u.tr a z
    · obtain ⟨o, q⟩ := rel.tr a (Or.inr z)
      exact ⟨o, u.keep a o q⟩
theorem RX.mono {Y : Kx} {L L' : Nat} {c : Str} {fs : List (Str × PV)} {cls : Value} {d : Option Addr} (u : Up H g L H' g' L') (h : RX Y H g L c fs cls d) : RX Y H' g' L' c fs cls d := by
  obtain ⟨h1, h2⟩ := h
  refine ⟨h1, ?_⟩
  rcases h2 with h2 | ⟨dx, vs, q1, q2, q3⟩
  · exact Or.inl h2
  · exact Or.inr ⟨dx, vs, q1, u.keep _ _ q2 fun z => False.elim z, RVs.mono u _ _ q3⟩
theorem callP_imp {σ : L2.St} {H : Hp} {Q : VK} (h : lift X W (eCallP f tr) σ H Q) : tCallS (spP X f) (WE W) (liftA X W tr) σ H Q := by
  obtain ⟨g, Γ, S, rel, rg, ok⟩ := h
  refine ⟨g, Γ, S, rel, rg, OKw.mono (OKw.bind ok) fun ps S1 g1 H1 _ e1 h1 xs rxs => ?_⟩
  split at h1
  · rename_i qs eq
    refine ⟨lendG g1 S1, qs, mapM_rv (fun p x q h e => lendV_ok e1.rel h e) rxs eq, fun a z => ?_, ?_⟩
    · rcases z with z | z | ⟨n, hn, rfl⟩
      · exact e1.rel.tr a (Or.inl z)
      · exact e1.rel.tr a (Or.inr z)
      · exact e1.rel.tracked hn
    · have cu : ∀ {H' : Hp} {F' : Addr → Prop}, Up H' (Gp F') 0 H' ⟨F', g1.T, g1.r⟩ S1.length := fun {H' F'} => ⟨fun _ _ h _ => h, fun _ h => h, fun _ h => False.elim h, fun n h => absurd h (Nat.not_lt_zero n), Nat.zero_le _⟩
      split at h1
      · rename_i v ev
        rw [ev]
        exact fun H' F' x u rv => h1 _ _ (u.ext e1.rel) x (RV.mono cu _ _ rv)
      · rename_i c fs ev
        rw [ev]
        exact fun H' F' cls d u rx => h1 _ _ cls d (u.ext e1.rel) (rx.mono cu)
      · exact h1.elim
  · exact h1.elim
theorem E.call (c : Cal X.prog X.w X.K X.mg X.base k x (spP X f)) (hr : Room j X.A) (tk : Takes X W) (hg : Gl X x) (ha : A X W (e :: es) tr) (hk : k ≤ j := by decide)
    (hdb : (x == ("__debug__" : Str)) = false := by decide) (he : starEach (e :: es) X.env = (false, eval e X.env) :: starEach es X.env := by rfl) (hpl : (backTo pos (starEach es X.env)).any (·.1) = false := by rfl) :
    E X W (.Call (.Name x p) (e :: es) [] pos) (eCallP f tr) := by
  obtain ⟨fa, fd, ps, F, hm, kp, b⟩ := c.ex
  exact pe_imp (pe_callS F (hr.mono hk) hg hm kp b (passAt tk) ha hdb he hpl) fun _ _ _ h => callP_imp h
end
/-! ### a def's body -/
/-- what is known within a def's body -/
structure Body (X : Cx) (W : WX) (N : List Str) (sc : Scope) (k : Nat) : Prop where
  hN : X.N = N
  sc : X.env.scope = sc
  calm : X.calm = true
  fn : ∀ x, X.fn x = true
  room : Room k X.A
  tk : Takes X W
  po : PassesOwn (model X.prog X.w) X.A X.env X.xe
  hs : X.stack = X.env :: X.outer
  hf : X.env.frame = some X.env.locals
section
variable {P : Program} {w : World} {K : PySem.W.Frag} {mg : Str → Option Value} {base : Heap}
theorem start_rg {Y : Kx} {H : Hp} {g : G} {L n : Nat} {ps : List PV} {vs : List V} {N : List Str} (h : RVs Y H g L ps vs) : RG Y H g L (ps.map some ++ List.replicate (N.length - ps.length) none) (L2.start N vs) := by
  have hl := h.len
  refine ⟨by unfold L2.start; simp [hl], fun i p e => ?_⟩
  unfold L2.start
  by_cases hi : i < ps.length
  · rw [List.getElem?_append_left (by simpa using hi), List.getElem?_map] at e
    obtain ⟨q, e1, e2⟩ := Option.map_eq_some_iff.mp e
    cases e2
    obtain ⟨v, q1, q2⟩ := h.get e1
    exact ⟨v, by rw [List.getElem?_append_left (by simpa [hl] using hi), List.getElem?_map, q1] <;> rfl, q2⟩
  · rw [List.getElem?_append_right (by simpa using hi)] at e
    rw [List.getElem?_replicate] at e
    split at e <;> cases e
theorem fnP {x qual : Str} {st : Stmt} {dvs : List V} {kws : List (Str × V)} {f : Addr} {fd : FuncData} {N ps : List Str} {k np n : Nat} {body : SF} (F : FunD K x qual (defArgs st) (defBody st) (defScope st) dvs kws f fd) (S : FnScope N ps (defScope st)) (hnp : ps.length = np) (hn : N.length = n)
    (hbody : ∀ (X : Cx) (W : WX), X.prog = P → X.w = w → X.K = K → X.mg = mg → X.base = base → Body X W N (defScope st) k → Ss X W (defBody st) body) : FnOk P w K mg base (L2.CX P w) (k + 1) f fd ps (spP ⟨K, mg⟩ (runP np n body)) := by
  refine F.ok S (fun vs H Q E ⟨g, qs, h1, h2, h3⟩ => ?_) (fun cdv A outer s H vs Q E hr ⟨g, qs, h1, h2, h3⟩ => ?_)
  · unfold runP at h3
    split at h3
    · rename_i e
      rw [← h1.len, e, hnp]
    · exact h3.elim
  · unfold runP at h3
    split at h3
    · rename_i elen
      subst hn
      let X := cxOf (L2.CX P w) P w K mg base N qual (defScope st) f cdv A outer s H E
      have tk : Takes X (fun cls d _ H => E cls d H) := takes_of rfl rfl rfl rfl
      have hb := hbody X (fun cls d _ H => E cls d H) rfl rfl rfl rfl rfl ⟨rfl, rfl, rfl, fun _ => rfl, hr, tk, passes_of rfl, rfl, rfl⟩
      refine ⟨_, hb, g, _, [], ⟨fun n k xs e => by simp at e, fun n m ⟨_, hn⟩ => by simp at hn, fun n ⟨_, hn⟩ => by simp at hn, fun n ⟨_, hn⟩ => by simp at hn, h2⟩, start_rg (n := 0) h1, ?_⟩
      have gro : ∀ {H' : Hp} {g' : G} {S' : Sto}, Ext ⟨K, mg⟩ H g [] H' g' S' → Gro H g H' (endF g' S') := fun {H' g' S'} e => by
        refine ⟨fun a h => Or.inl (e.fr a h), fun a o h => e.frame a o h fun n ⟨_, hn⟩ => by simp at hn, fun a h => ?_, fun a h => ?_⟩
        · rcases h with h | ⟨n, hn, rfl⟩
          · exact e.rel.tr a (Or.inl h)
          · exact e.rel.tracked hn
        · rcases h with h | ⟨n, hn, rfl⟩
          · rcases e.nf a h with z | z | ⟨n, ⟨_, q⟩, _⟩
            · exact Or.inl z
            · exact Or.inr z
            · simp at q
          · rcases e.old n hn with ⟨⟨_, q⟩, _⟩ | q
            · simp at q
            · exact Or.inr q
      have cu : ∀ {H' : Hp} {g' : G} {S' : Sto}, CUp H' g' H' (Gp (endF g' S')) := fun {H' g' S'} => ⟨fun _ _ h _ => h, fun _ h => Or.inl h⟩
      generalize eb : body (qs.map some ++ List.replicate (N.length - qs.length) none) [] = r at h3
      cases r with
      | nx Γ' S' => exact fun g' H' σ' e1 _ => h3 H' _ .non (gro e1) RV.non
      | rt v S' =>
        intro g' H' x e1 rv
        have h3 : OKp ⟨K, mg⟩ H g (resP S' v) Q E := h3
        unfold resP at h3
        split at h3
        · rename_i q eq
          exact h3 H' _ x (gro e1) (frzV_ok e1.rel 9 v x q rv eq)
        · exact h3.elim
      | ex c fs Γ' S' =>
        intro g' H' σ' cls d e1 _ rx
        have h3 : OKp ⟨K, mg⟩ H g (if cleans (fs.map (·.2)) = true then .ex c fs else .bad) Q E := h3
        split at h3
        · rename_i cl
          refine h3 H' _ cls d (gro e1) ?_
          obtain ⟨q1, q2⟩ := rx
          refine ⟨q1, ?_⟩
          rcases q2 with q2 | ⟨dx, vs, z1, z2, z3⟩
          · exact Or.inl q2
          · exact Or.inr ⟨dx, vs, z1, z2, RVs.clean cu _ _ cl z3⟩
        · exact h3.elim
      | bk Γ' S' => exact h3.elim
      | ct Γ' S' => exact h3.elim
      | bad => exact h3.elim
    · exact h3.elim
theorem Cal.mkP {x qual : Str} {st : Stmt} {dvs : List V} {kws : List (Str × V)} {f : Addr} {fd : FuncData} {N ps : List Str} {k np n : Nat} {body : SF} (F : FunD K x qual (defArgs st) (defBody st) (defScope st) dvs kws f fd) (hm : mg x = some (.ref f)) (S : FnScope N ps (defScope st)) (b : Binds K fd ps []) (hnp : ps.length = np) (hn : N.length = n)
    (hbody : ∀ (X : Cx) (W : WX), X.prog = P → X.w = w → X.K = K → X.mg = mg → X.base = base → Body X W N (defScope st) k → Ss X W (defBody st) body) : Cal P w K mg base (k + 1) x (spP ⟨K, mg⟩ (runP np n body)) :=
  ⟨f, fd, ps, fnP F S hnp hn hbody, hm, F.kp, b⟩
end
end Pv
/-! Pv7: walks over lists, tuples, texts; comprehensions; defs that change what they are handed; lists changed. -/
namespace Pv
open PySem PySem.Spec PyProof.Rows L2
section
variable {X : Cx} {H H' H'' H0 : Hp} {g g' g'' g0 : G} {S S' S'' S0 : Sto} {W : WX} {a b c e o l tg elt : Expr} {es rest ifs : List Expr} {ta tb tc to te : EF} {tr : AF} {pos p apos cpos : Pos} {Γ : Gam} {σ : L2.St} {x : Str} {k j : Nat}
/-! ### walks -/
def walkB (S : Sto) : PV → Option (Stp × Nat)
  | .con _ .lst xs => some (stL xs, xs.length + 1)
  | .ref n => match S[n]?.join with
    | some (.lst, xs) => some (stR n, xs.length + 1)
    | _ => none
  | _ => none
def iL (t : EF) : IF := fun Γ S => (t Γ S).bind fun p S1 => match walkB S1 p with
  | some q => .ok q S1
  | none => .bad
def iT (t : EF) : IF := fun Γ S => (t Γ S).bind fun p S1 => match p with
  | .con _ .tup xs => .ok (stL xs, xs.length + 1) S1
  | _ => .bad
def iS (t : EF) : IF := fun Γ S => (t Γ S).bind fun p S1 => match p with
  | .str z => .ok (stL (strs1 z), z.cps.toList.length + 1) S1
  | _ => .bad
theorem walk_lst {Y : Kx} {p : PV} {v : V} {q : Stp × Nat} (rel : Rel Y H g S) (rv : RV Y H g S.length p v) (h : walkB S p = some q) : ∃ a, v = .ref a ∧ (∃ vs, SqL Y.K H a vs) ∧ JOK Y (Itl Y.K a) q.1 H g S := by
  cases p with
  | con m k xs =>
    cases k with
    | lst =>
      cases h
      have rv0 := rv
      simp only [RV] at rv
      obtain ⟨a, vs, rfl, h2, h3⟩ := rv
      refine ⟨a, rfl, ⟨vs, h2.rdd.lst⟩, fun g' H' S' i e => ?_⟩
      have rv2 := RV.up rel e _ _ rv0
      simp only [RV] at rv2
      obtain ⟨b, ws, eb, q2, q3⟩ := rv2
      cases eb
      have sq := q2.rdd.lst
      refine ⟨fun p hp => ?_, fun hp => ?_⟩
      · obtain ⟨y, z1, z2⟩ := q3.get (i := i) (p := p) (Option.some.inj hp)
        exact ⟨⟨ws, y, sq, z1⟩, fun u H2 ⟨u1, u2⟩ => by
          subst u1
          have := u2 ws sq
          rw [z1] at this; cases this
          exact ⟨g', Ext.refl e.rel, z2⟩⟩
      · exact ⟨ws, sq, by rw [← q3.len]; exact List.getElem?_eq_none_iff.mp (Option.some.inj hp)⟩
    | _ => cases h
  | ref n =>
    simp only [walkB] at h
    split at h
    · rename_i xs ej
      cases h
      have hn := join_some ej
      obtain ⟨o, vs, h1, h2, _, h4⟩ := rel.ob n _ _ hn
      simp only [RV] at rv
      obtain ⟨hl, rfl⟩ := rv
      cases h2
      refine ⟨_, rfl, ⟨vs, SqL.of h1⟩, fun g' H' S' i e => ?_⟩
      have hr : g'.r n = g.r n := e.rho n hl
      have get : ∀ z, stR n S' i = some z → ∃ ys ws, S'[n]? = some (some (.lst, ys)) ∧ H' (g.r n) = some (.lst ws) ∧ RVs Y H' g' S'.length ys ws ∧ z = ys[i]? := fun z hz => by
        unfold stR at hz
        split at hz
        · rename_i ys ej2
          have hn2 := join_some ej2
          obtain ⟨o, ws, z1, z2, _, z4⟩ := e.rel.ob n _ _ hn2
          cases z2
          rw [hr] at z1
          cases hz
          exact ⟨ys, ws, hn2, z1, z4, rfl⟩
        · cases hz
      refine ⟨fun p hp => ?_, fun hp => ?_⟩
      · obtain ⟨ys, ws, _, z1, z4, z5⟩ := get _ hp
        obtain ⟨y, u1, u2⟩ := z4.get (i := i) (p := p) z5.symm
        exact ⟨⟨ws, y, SqL.of z1, u1⟩, fun u H2 ⟨w1, w2⟩ => by
          subst w1
          have := w2 ws (SqL.of z1)
          rw [u1] at this; cases this
          exact ⟨g', Ext.refl e.rel, u2⟩⟩
      · obtain ⟨ys, ws, _, z1, z4, z5⟩ := get _ hp
        exact ⟨ws, SqL.of z1, by rw [← z4.len]; exact List.getElem?_eq_none_iff.mp z5.symm⟩
    · cases h
  | non => cases h
  | bl _ => cases h
  | int _ => cases h
  | str _ => cases h
  | fn _ => cases h
  | ty _ => cases h
theorem I.lst (hl : E X W l ta) : I X W tg l (iL ta) :=
  ⟨_, pi_list hl, fun σ H g Γ S Rr rel rg ok => ⟨g, Γ, S, rel, rg, OKw.mono (OKw.bind ok) fun p S1 g1 H1 _ e1 h1 x rx => by
    split at h1
    · rename_i q hq
      obtain ⟨a, rfl, hs, hJ⟩ := walk_lst e1.rel rx hq
      exact ⟨a, rfl, hs, OKw.ok e1.rel h1 _ hJ⟩
    · exact h1.elim⟩⟩
theorem jok_tup {Y : Kx} {m : Md} {xs : List PV} {v : V} (rel : Rel Y H g S) (rv : RV Y H g S.length (.con m .tup xs) v) : ∃ a, v = .ref a ∧ (∃ vs, SqT Y.K H a vs) ∧ JOK Y (Itt Y.K a) (stL xs) H g S := by
  have rv0 := rv
  simp only [RV] at rv
  obtain ⟨a, vs, rfl, h2, h3⟩ := rv
  refine ⟨a, rfl, ⟨vs, h2.rdd.tup⟩, fun g' H' S' i e => ?_⟩
  have rv2 := RV.up rel e _ _ rv0
  simp only [RV] at rv2
  obtain ⟨b, ws, eb, q2, q3⟩ := rv2
  cases eb
  have sq := q2.rdd.tup
  refine ⟨fun p hp => ?_, fun hp => ?_⟩
  · obtain ⟨y, z1, z2⟩ := q3.get (i := i) (p := p) (Option.some.inj hp)
    exact ⟨⟨ws, y, sq, z1⟩, fun u H2 ⟨u1, u2⟩ => by
      subst u1
      have := u2 ws sq
      rw [z1] at this; cases this
      exact ⟨g', Ext.refl e.rel, z2⟩⟩
  · exact ⟨ws, sq, by rw [← q3.len]; exact List.getElem?_eq_none_iff.mp (Option.some.inj hp)⟩
theorem I.tup (hl : E X W l ta) : I X W tg l (iT ta) :=
  ⟨_, pi_tup hl, fun σ H g Γ S Rr rel rg ok => ⟨g, Γ, S, rel, rg, OKw.mono (OKw.bind ok) fun p S1 g1 H1 _ e1 h1 x rx => by
    split at h1
    · obtain ⟨a, rfl, hs, hJ⟩ := jok_tup e1.rel rx
      exact ⟨a, rfl, hs, OKw.ok e1.rel h1 _ hJ⟩
    · exact h1.elim⟩⟩
theorem RVs.ofstrs {Y : Kx} {L : Nat} (l : List Nat) : RVs Y H g L (l.map fun c => .str ⟨#[c]⟩) (l.map fun c => V.str ⟨#[c]⟩) := by
  induction l with
  | nil => exact RVs.nil
  | cons i l ih => exact RVs.cons RV.str ih
theorem I.str (hl : E X W l ta) : I X W tg l (iS ta) :=
  ⟨_, pi_str hl, fun σ H g Γ S Rr rel rg ok => ⟨g, Γ, S, rel, rg, OKw.mono (OKw.bind ok) fun p S1 g1 H1 _ e1 h1 x rx => by
    split at h1
    · rename_i z _
      refine ⟨z, rx.str_inv, OKw.ok e1.rel h1 _ (jok_L e1.rel (RVs.ofstrs _) fun H' i => ⟨fun y h => ?_, fun h => ?_⟩)⟩
      · rw [List.getElem?_map] at h
        obtain ⟨c, q1, q2⟩ := Option.map_eq_some_iff.mp h
        have q3 : z.cps[i]? = some c := by simpa using q1
        refine ⟨(Array.getElem?_eq_some_iff.mp q3).1, fun y' H2 w => ?_⟩
        obtain ⟨w1, c', w2, w3⟩ := w
        rw [q3] at w2
        cases w2
        exact ⟨w3.trans q2, w1⟩
      · simp only [List.length_map, Array.length_toList] at h
        exact h
    · exact h1.elim⟩⟩
/-- what a walk reads, whichever it is (chosen by the value) -/
def iAny (t : EF) : IF := fun Γ S => (t Γ S).bind fun p S1 => match p with
  | .con _ .tup xs => .ok (stL xs, xs.length + 1) S1
  | .str z => .ok (stL (strs1 z), z.cps.toList.length + 1) S1
  | p => match walkB S1 p with
    | some q => .ok q S1
    | none => .bad
theorem pi_or {tg iter : Expr} {wi wi' : TI} (h : PI X tg iter wi) (h' : PI X tg iter wi') : PI X tg iter (fun σ H R => wi σ H R ∨ wi' σ H R) := ⟨fun pins s σ H R I q => by
  rcases q with q | q
  · exact h.run pins s σ H R I q
  · exact h'.run pins s σ H R I q⟩
theorem I.any (hl : E X W l ta) : I X W tg l (iAny ta) := by
  obtain ⟨w1, p1, s1⟩ := I.lst (tg := tg) hl
  obtain ⟨w2, p2, s2⟩ := I.tup (tg := tg) hl
  obtain ⟨w3, p3, s3⟩ := I.str (tg := tg) hl
  refine ⟨_, pi_or p1 (pi_or p2 p3), fun σ H g Γ S Rr rel rg ok => ?_⟩
  cases q : ta Γ S with
  | bad => simp only [iAny, q] at ok; exact ok.elim
  | ex c fs S1 => exact Or.inl (s1 σ H g Γ S Rr rel rg (by simp only [iAny, iL, q] at ok ⊢; exact ok))
  | ok v S1 =>
    have ok : OKw X W σ H g S (match v with
      | .con _ .tup xs => .ok (stL xs, xs.length + 1) S1
      | .str z => .ok (stL (strs1 z), z.cps.toList.length + 1) S1
      | p => match walkB S1 p with
        | some q => .ok q S1
        | none => .bad) (fun q S1 g1 H1 => ∀ (J : It), JOK (kx X) J q.1 H1 g1 S1 → Rr J H1) := by simp only [iAny, q] at ok; exact ok
    split at ok
    · exact Or.inr (Or.inl (s2 σ H g Γ S Rr rel rg (by simp only [iT, q]; exact ok)))
    · exact Or.inr (Or.inr (s3 σ H g Γ S Rr rel rg (by simp only [iS, q]; exact ok)))
    · exact Or.inl (s1 σ H g Γ S Rr rel rg (by simp only [iL, q]; exact ok))
/-! ### comprehensions -/
def wipeG (Γ : Gam) : List Nat → Gam
  | [] => Γ
  | v :: vs => (wipeG Γ vs).set v none
theorem RG.wipe {Y : Kx} {L : Nat} (h : RG Y H g L Γ σ) : ∀ vs, RG Y H g L (wipeG Γ vs) (L2.wipe σ vs)
  | [] => h
  | v :: vs => (RG.wipe h vs).unset
/-- the walk of a comprehension: what is kept, in order -/
def lcI (st : Stp) (gt : GF) (tt : BF) (te : EF) (Γ : Gam) : Nat → Nat → List PV → Sto → R (List PV)
  | 0, _, _, _ => .bad
  | m + 1, i, acc, S => match st S i with
    | none => .bad
    | some none => .ok acc S
    | some (some p) => match gt p Γ S with
      | .ok Γ1 S1 => match tt Γ1 S1 with
        | .ok true S2 => match te Γ1 S2 with
          | .ok v S3 => if acc.length < sizeLine then lcI st gt tt te Γ m (i + 1) (acc ++ [v]) S3 else .bad
          | _ => .bad
        | .ok false S2 => lcI st gt tt te Γ m (i + 1) acc S2
        | _ => .bad
      | _ => .bad
def eLc (mu : Bool) (it : IF) (gt : GF) (tt : BF) (te : EF) (vs : List Nat) : EF := fun Γ S => (it Γ S).bind fun q S1 => (lcI q.1 gt tt te (wipeG Γ vs) q.2 0 [] S1).bind fun acc S2 => .ok (newP mu .lst acc S2).1 (newP mu .lst acc S2).2
/-- the list that grows, beside the store -/
structure Grw (Y : Kx) (H0 : Hp) (g0 : G) (S0 : Sto) (D : Addr) (H : Hp) (g : G) (S : Sto) : Prop where
  ext : Ext Y H0 g0 S0 H g S
  no : H0 D = none
  own : ∀ n, Al S n → g.r n ≠ D
  fF : ¬ g.F D
  fT : ¬ g.T D
theorem Grw.step {Y : Kx} {D : Addr} {o : HO} (w : Grw Y H0 g0 S0 D H g S) (hD : H D = some o) (e : Ext Y H g S H' g' S') : Grw Y H0 g0 S0 D H' g' S' ∧ H' D = some o := by
  refine ⟨⟨w.ext.trans e, w.no, fun n hn z => ?_, fun z => ?_, fun z => ?_⟩, e.frame D o hD fun n hn => w.own n hn⟩
  · rcases e.old n hn with ⟨h1, h2⟩ | h1
    · exact w.own n h1 (h2.symm.trans z)
    · rw [z, hD] at h1; cases h1
  · rcases e.nf D z with z | z | ⟨n, hn, z⟩
    · exact w.fF z
    · rw [hD] at z; cases z
    · exact w.own n hn z
  · rw [e.tt] at z; exact w.fT z
theorem Grw.put {Y : Kx} {D : Addr} {o o' : HO} (w : Grw Y H0 g0 S0 D H g S) (hD : H D = some o) (hm : Mut (some o)) : Grw Y H0 g0 S0 D (upd H D o') g S ∧ Up H g S.length (upd H D o') g S.length := by
  have up : Up H g S.length (upd H D o') g S.length := ⟨fun a u h z => by
    refine (upd_ne fun e => ?_).trans h
    subst e
    rw [hD] at h
    cases h
    rcases z hm with z | z
    · exact w.fF z
    · exact w.fT z, fun _ h => h, fun _ h => h, fun _ _ => rfl, Nat.le_refl _⟩
  have r := w.ext.rel
  refine ⟨⟨⟨⟨fun n k xs q => ?_, r.inj, r.fF, r.fT, fun a z => ?_⟩, fun a u h z => ?_, w.ext.old, w.ext.rho, w.ext.len, w.ext.fr, w.ext.tt, fun a u h => ?_, w.ext.nf⟩, w.no, w.own, w.fF, w.fT⟩, up⟩
  · obtain ⟨u, vs, h1, h2, h3, h4⟩ := r.ob n k xs q
    exact ⟨u, vs, by rw [upd_ne (w.own n ⟨_, q⟩)]; exact h1, h2, h3, RVs.mono up _ _ h4⟩
  · by_cases z2 : a = D
    · exact ⟨o', by rw [z2, upd_same]⟩
    · rw [upd_ne z2]; exact r.tr a z
  · rw [upd_ne (ne_of_none h w.no)]; exact w.ext.frame a u h z
  · rw [upd_ne (ne_of_none h w.no)]; exact w.ext.trk a u h
theorem Grw.fin {Y : Kx} {D : Addr} {mu : Bool} {acc : List PV} {vs : List V} (w : Grw Y H0 g0 S0 D H g S) (hD : H D = some (.lst vs)) (hv : RVs Y H g S.length acc vs) :
    ∃ g', Ext Y H0 g0 S0 H g' (newP mu .lst acc S).2 ∧ RV Y H g' (newP mu .lst acc S).2.length (newP mu .lst acc S).1 (.ref D) := by
  have r := w.ext.rel
  cases mu with
  | false =>
    have up : Up H g S.length H (g.addF D) S.length := ⟨fun _ _ h _ => h, fun _ h => Or.inl h, fun _ h => h, fun _ _ => rfl, Nat.le_refl _⟩
    refine ⟨g.addF D, ⟨⟨fun n k xs q => ?_, r.inj, fun n hn z => ?_, r.fT, fun a z => ?_⟩, w.ext.frame, w.ext.old, w.ext.rho, w.ext.len, fun a h => Or.inl (w.ext.fr a h), w.ext.tt, w.ext.trk, fun a z => ?_⟩, ?_⟩
    · obtain ⟨u, ws, h1, h2, h3, h4⟩ := r.ob n k xs q
      exact ⟨u, ws, h1, h2, h3, RVs.mono up _ _ h4⟩
    · rcases z with z | z
      · exact r.fF n hn z
      · exact w.own n hn z
    · rcases z with (z | z) | z
      · exact r.tr a (Or.inl z)
      · exact ⟨_, z ▸ hD⟩
      · exact r.tr a (Or.inr z)
    · rcases z with z | z
      · exact w.ext.nf a z
      · exact Or.inr (Or.inl (z ▸ w.no))
    · show RV Y H (g.addF D) S.length (.con .own .lst acc) (.ref D)
      simp only [RV]
      exact ⟨D, vs, rfl, ⟨_, rfl, hD, fun _ => Or.inr rfl⟩, RVs.mono up _ _ hv⟩
  | true =>
    have up : Up H g S.length H (g.addR S.length D) (S.length + 1) := ⟨fun _ _ h _ => h, fun _ h => h, fun _ h => h, fun n h => if_neg (Nat.ne_of_lt h), Nat.le_succ _⟩
    have hlen : (S ++ [some (Kd.lst, acc)]).length = S.length + 1 := by simp
    have hal : ∀ n, Al (S ++ [some (Kd.lst, acc)]) n → (Al S n ∧ (g.addR S.length D).r n = g.r n) ∨ (n = S.length ∧ (g.addR S.length D).r n = D) := fun n hn => by
      obtain ⟨q, e⟩ := hn
      by_cases hl : n < S.length
      · rw [List.getElem?_append_left hl] at e
        exact Or.inl ⟨⟨q, e⟩, if_neg (Nat.ne_of_lt hl)⟩
      · have : n = S.length := by
          have := (List.getElem?_eq_some_iff.mp e).1
          rw [hlen] at this
          omega
        exact Or.inr ⟨this, if_pos this⟩
    refine ⟨g.addR S.length D, ⟨⟨fun n k xs q => ?_, fun n m hn hm e => ?_, fun n hn z => ?_, fun n hn z => ?_, fun a z => r.tr a z⟩, w.ext.frame, fun n hn => ?_, fun n hn => ?_, Nat.le_trans w.ext.len (by show S.length ≤ (S ++ [some (Kd.lst, acc)]).length; rw [hlen]; exact Nat.le_succ _), w.ext.fr, w.ext.tt, w.ext.trk, w.ext.nf⟩, ?_⟩
    · have q : (S ++ [some (Kd.lst, acc)])[n]? = some (some (k, xs)) := q
      show ∃ o vs, _ ∧ _ ∧ _ ∧ RVs Y H (g.addR S.length D) (S ++ [some (Kd.lst, acc)]).length xs vs
      rw [hlen]
      rcases hal n ⟨_, q⟩ with ⟨h1, h2⟩ | ⟨h1, h2⟩
      · rw [List.getElem?_append_left h1.lt] at q
        obtain ⟨u, ws, q1, q2, q3, q4⟩ := r.ob n k xs q
        exact ⟨u, ws, by rw [h2]; exact q1, q2, q3, RVs.mono up _ _ q4⟩
      · subst h1
        rw [List.getElem?_append_right (Nat.le_refl _)] at q
        simp only [Nat.sub_self, List.getElem?_cons_zero, Option.some.injEq, Prod.mk.injEq] at q
        obtain ⟨rfl, rfl⟩ := q
        exact ⟨_, vs, by rw [h2]; exact hD, rfl, by decide, RVs.mono up _ _ hv⟩
    · rcases hal n hn with ⟨h1, h2⟩ | ⟨h1, h2⟩
      · rcases hal m hm with ⟨h3, h4⟩ | ⟨h3, h4⟩
        · rw [h2, h4] at e
          exact r.inj n m h1 h3 e
        · rw [h2, h4] at e
          exact absurd e (w.own n h1)
      · rcases hal m hm with ⟨h3, h4⟩ | ⟨h3, h4⟩
        · rw [h2, h4] at e
          exact absurd e.symm (w.own m h3)
        · exact h1.trans h3.symm
    · have z : g.F ((g.addR S.length D).r n) := z
      rcases hal n hn with ⟨h1, h2⟩ | ⟨h1, h2⟩
      · rw [h2] at z; exact r.fF n h1 z
      · rw [h2] at z; exact w.fF z
    · have z : g.T ((g.addR S.length D).r n) := z
      rcases hal n hn with ⟨h1, h2⟩ | ⟨h1, h2⟩
      · rw [h2] at z; exact r.fT n h1 z
      · rw [h2] at z; exact w.fT z
    · rcases hal n hn with ⟨h1, h2⟩ | ⟨h1, h2⟩
      · rw [h2]; exact w.ext.old n h1
      · exact Or.inr (by rw [h2]; exact w.no)
    · exact (if_neg (Nat.ne_of_lt (Nat.lt_of_lt_of_le hn w.ext.len))).trans (w.ext.rho n hn)
    · show RV Y H (g.addR S.length D) (S ++ [some (Kd.lst, acc)]).length (.ref S.length) (.ref D)
      simp only [RV]
      exact ⟨by rw [hlen]; exact Nat.lt_succ_self _, by rw [show (g.addR S.length D).r S.length = D from if_pos rfl]⟩
/-- the targets of a comprehension: what they store are the block's own slots -/
structure CG (X : Cx) (gV : TG) (gt : GF) (vs : List Nat) : Prop where
  ok : ∀ (W : WX) (v : V) (σ0 : L2.St) (H : Hp) (g : G) (S : Sto) (Γ : Gam) (p : PV) (Q : L2.St → Hp → Prop), Rel X H g S → RG X H g S.length Γ (L2.wipe σ0 vs) → RV X H g S.length p v → ∀ Γ1 S1, gt p Γ S = .ok Γ1 S1 →
    (∀ σ2, S1 = S → RG X H g S.length Γ1 σ2 → L2.wipe σ2 vs = L2.wipe σ0 vs → Q σ2 H) → gV v (L2.wipe σ0 vs) H Q
theorem wipe_set {σ0 : L2.St} {i : Nat} {z : Option V} {vs : List Nat} (h : i ∈ vs) : L2.wipe (σ0.set i z) vs = L2.wipe σ0 vs := by
  induction vs with
  | nil => cases h
  | cons v vs ih =>
    unfold L2.wipe
    by_cases e : i ∈ vs
    · rw [ih e]
    · have e2 : i = v := by
        rcases List.mem_cons.mp h with h | h
        · exact h
        · exact absurd h e
      subst e2
      have : ∀ (vs : List Nat), i ∉ vs → L2.wipe (σ0.set i z) vs = (L2.wipe σ0 vs).set i z := fun vs => by
        induction vs with
        | nil => intro _; rfl
        | cons v vs ih =>
          intro h
          unfold L2.wipe
          have h1 : i ≠ v := fun e => h (by rw [e]; exact List.mem_cons_self)
          rw [ih fun e => h (List.mem_cons_of_mem _ e), List.set_comm _ _ h1]
      rw [this vs e, List.set_set]
theorem wipe_wipe (σ0 : L2.St) : ∀ (us vs : List Nat), (∀ i ∈ vs, i ∈ us) → L2.wipe (L2.wipe σ0 vs) us = L2.wipe σ0 us
  | us, [], _ => rfl
  | us, v :: vs, h => by
    show L2.wipe ((L2.wipe σ0 vs).set v none) us = _
    rw [wipe_set (h v List.mem_cons_self)]
    exact wipe_wipe σ0 us vs fun i hi => h i (List.mem_cons_of_mem _ hi)
theorem CG.name {i : Nat} {vs : List Nat} (hi : i ∈ vs) : CG X (gName i) (gN i) vs := ⟨fun W v σ0 H g S Γ p Q rel rg rv Γ1 S1 e k => by
  cases e
  exact k _ rfl (rg.set rv) (by rw [wipe_set hi]; exact wipe_wipe σ0 vs vs fun _ h => h)⟩
/-- names, for a tuple -/
def gNamesV : List Nat → TGs
  | [] => gNil
  | i :: is => gCons (gName i) (gNamesV is)
theorem cg_names : ∀ (is : List Nat) {vs : List Nat} {ps : List PV} {ws : List V} {σ1 σ0 : L2.St} {H : Hp} {g : G} {L : Nat} {Γ Γ1 : Gam} {S S1 : Sto} {Q : L2.St → Hp → Prop} {Y : Kx}, (∀ i ∈ is, i ∈ vs) → RG Y H g L Γ σ1 → L2.wipe σ1 vs = L2.wipe σ0 vs → RVs Y H g L ps ws → gNs is ps Γ S = .ok Γ1 S1 →
    (∀ σ2, S1 = S → RG Y H g L Γ1 σ2 → L2.wipe σ2 vs = L2.wipe σ0 vs → Q σ2 H) → gNamesV is ws σ1 H Q
  | [], vs, ps, ws, σ1, σ0, H, g, L, Γ, Γ1, S, S1, Q, Y, _, rg, hw, rv, e, k => by
    cases ps with
    | nil =>
      simp only [RVs] at rv
      cases e
      exact ⟨rv, k σ1 rfl rg hw⟩
    | cons _ _ => cases e
  | i :: is, vs, ps, ws, σ1, σ0, H, g, L, Γ, Γ1, S, S1, Q, Y, hi, rg, hw, rv, e, k => by
    cases ps with
    | nil => cases e
    | cons p ps =>
      simp only [RVs] at rv
      obtain ⟨v, r, rfl, h2, h3⟩ := rv
      exact ⟨v, r, rfl, cg_names is (fun i h => hi i (List.mem_cons_of_mem _ h)) (rg.set h2) (by rw [wipe_set (hi i List.mem_cons_self)]; exact hw) h3 e k⟩
theorem CG.tup {is : List Nat} {n : Nat} {vs : List Nat} (hi : ∀ i ∈ is, i ∈ vs) (hn : is.length = n) : CG X (gTup X.K n (gNamesV is)) (gT is) vs := ⟨fun W v σ0 H g S Γ p Q rel rg rv Γ1 S1 e k => by
  unfold gT at e
  split at e
  · rename_i xs hd
    obtain ⟨a, ws, rfl, h2, h3⟩ := deref_ok rel rv hd
    exact ⟨a, ws, rfl, h3.tup, by rw [← h2.len, gNs_len ⟨_, _, e⟩, hn], cg_names is hi rg (wipe_wipe σ0 vs vs fun _ h => h) h2 e k⟩
  · cases e⟩
abbrev W0 : WX := fun _ _ _ _ => False
theorem lc_imp {wi : TI} {gV : TG} {gt : GF} {tt : BF} {te : EF} {it : IF} {vs : List Nat} {mu : Bool} {X' : Cx} {W' : WX} (src : SrcOK X W wi it) (cg : CG X gV gt vs) {σ : L2.St} {H : Hp} {Q : VK} (hX : kx X' = kx X) (h : lift X W (eLc mu it gt tt te vs) σ H Q) :
    tLc wi gV (liftB X' W' tt) (lift X' W' te) vs σ H Q := by
  obtain ⟨g, Γ, S, rel, rg, ok⟩ := h
  refine src σ H g Γ S _ rel rg (OKw.mono (OKw.bind ok) fun q S1 g1 H1 _ e1 h1 J hJ D hD => ?_)
  have h1 : OKw X W σ H1 g1 S1 ((lcI q.1 gt tt te (wipeG Γ vs) q.2 0 [] S1).bind fun acc S2 => .ok (newP mu .lst acc S2).1 (newP mu .lst acc S2).2) (fun v S' g' H' => ∀ x, RV X H' g' S'.length v x → Q x H') := h1
  have noex : ∀ m i acc S, (∃ acc' S', lcI q.1 gt tt te (wipeG Γ vs) m i acc S = .ok acc' S') ∨ lcI q.1 gt tt te (wipeG Γ vs) m i acc S = .bad := fun m => by
    induction m with
    | zero => intro i acc S; exact Or.inr rfl
    | succ m ih =>
      intro i acc S
      unfold lcI
      split
      · exact Or.inr rfl
      · exact Or.inl ⟨_, _, rfl⟩
      · split
        · split
          · split
            · split
              · exact ih _ _ _
              · exact Or.inr rfl
            · exact Or.inr rfl
          · exact ih _ _ _
          · exact Or.inr rfl
        · exact Or.inr rfl
  obtain ⟨res, Sr, hres⟩ : ∃ res Sr, lcI q.1 gt tt te (wipeG Γ vs) q.2 0 [] S1 = .ok res Sr := by
    rcases noex q.2 0 [] S1 with h | h
    · exact h
    · rw [h] at h1; exact h1.elim
  rw [hres] at h1
  have fin : ∀ g' H', Ext X H1 g1 S1 H' g' (newP mu .lst res Sr).2 → ∀ x, RV X H' g' (newP mu .lst res Sr).2.length (newP mu .lst res Sr).1 x → Q x H' := fun g' H' e x rx => h1 g' H' e x rx
  have w0 : Grw X H1 g1 S1 D (upd H1 D (.lst [])) g1 S1 := by
    have r := e1.rel
    have up : Up H1 g1 S1.length (upd H1 D (.lst [])) g1 S1.length := ⟨fun a u h _ => by rw [upd_ne (ne_of_none h hD)]; exact h, fun _ h => h, fun _ h => h, fun _ _ => rfl, Nat.le_refl _⟩
    have own : ∀ n, Al S1 n → g1.r n ≠ D := fun n hn z => by
      obtain ⟨u, e⟩ := r.tracked hn
      rw [z, hD] at e; cases e
    refine ⟨⟨⟨fun n k xs q => ?_, r.inj, r.fF, r.fT, fun a z => ?_⟩, fun a u h _ => by rw [upd_ne (ne_of_none h hD)]; exact h, fun n hn => Or.inl ⟨hn, rfl⟩, fun _ _ => rfl, Nat.le_refl _, fun _ h => h, rfl, fun a u h => ⟨u, by rw [upd_ne (ne_of_none h hD)]; exact h⟩, fun _ h => Or.inl h⟩, hD, own, fun z => ?_, fun z => ?_⟩
    · obtain ⟨u, ws, q1, q2, q3, q4⟩ := r.ob n k xs q
      exact ⟨u, ws, by rw [upd_ne (own n ⟨_, q⟩)]; exact q1, q2, q3, RVs.mono up _ _ q4⟩
    · by_cases z2 : a = D
      · exact ⟨_, by rw [z2, upd_same]⟩
      · rw [upd_ne z2]; exact r.tr a z
    · obtain ⟨u, q⟩ := r.tr D (Or.inl z); rw [hD] at q; cases q
    · obtain ⟨u, q⟩ := r.tr D (Or.inr z); rw [hD] at q; cases q
  refine ⟨fun i m H2 => ∃ g2 S2 acc ws, Grw X H1 g1 S1 D H2 g2 S2 ∧ H2 D = some (.lst ws) ∧ RVs X H2 g2 S2.length acc ws ∧ lcI q.1 gt tt te (wipeG Γ vs) m i acc S2 = .ok res Sr, ⟨q.2, g1, S1, [], [], w0, upd_same, RVs.nil, hres⟩, ?_⟩
  rintro i m H2 ⟨g2, S2, acc, ws, w2, hD2, ra, hl⟩
  cases m with
  | zero => cases hl
  | succ m =>
    obtain ⟨j1, j2⟩ := hJ g2 H2 S2 i w2.ext
    unfold lcI at hl
    cases hst : q.1 S2 i with
    | none => rw [hst] at hl; cases hl
    | some z =>
      rw [hst] at hl
      cases z with
      | none =>
        cases hl
        obtain ⟨g', q1, q2⟩ := w2.fin (mu := mu) hD2 ra
        exact Or.inl ⟨j2 hst, fin g' H2 q1 _ q2⟩
      | some p =>
        obtain ⟨j3, j4⟩ := j1 p hst
        refine Or.inr ⟨j3, fun H3 => ∃ g3 S3 acc ws, Grw X H1 g1 S1 D H3 g3 S3 ∧ H3 D = some (.lst ws) ∧ RVs X H3 g3 S3.length acc ws ∧ lcI q.1 gt tt te (wipeG Γ vs) m (i + 1) acc S3 = .ok res Sr, fun H3 h3 => ⟨m, Nat.lt_succ_self m, h3⟩, fun x H3 y => ?_⟩
        obtain ⟨g3, e3, rvx⟩ := j4 x H3 y
        obtain ⟨w3, hD3⟩ := w2.step hD2 e3
        have ra3 := RVs.up w2.ext.rel e3 _ _ ra
        have rg3 : RG X H3 g3 S2.length (wipeG Γ vs) (L2.wipe σ vs) := RG.wipe ((rg.up rel e1).up e1.rel w3.ext) vs
        cases hgt : gt p (wipeG Γ vs) S2 with
        | bad => simp only [hgt] at hl; cases hl
        | ex c fs S => simp only [hgt] at hl; cases hl
        | ok Γ4 S4 =>
          simp only [hgt] at hl
          refine cg.ok W x σ H3 g3 S2 _ p _ w3.ext.rel rg3 rvx Γ4 S4 hgt fun σ4 eS rg4 hw => ?_
          subst eS
          refine ⟨hw, ?_⟩
          cases htt : tt Γ4 S4 with
          | bad => simp only [htt] at hl; cases hl
          | ex c fs S => simp only [htt] at hl; cases hl
          | ok bv S5 =>
            simp only [htt] at hl
            have hT : liftB X' W' tt σ4 H3 = fun Q => ∃ g Γ S, Rel (kx X) H3 g S ∧ RG (kx X) H3 g S.length Γ σ4 ∧ OKw (kx X) W' σ4 H3 g S (tt Γ S) fun b _ _ H' => Q b H' := by
              funext Q
              show (∃ g Γ S, Rel (kx X') H3 g S ∧ RG (kx X') H3 g S.length Γ σ4 ∧ OKw (kx X') W' σ4 H3 g S (tt Γ S) fun b _ _ H' => Q b H') = _
              rw [hX]
            rw [hT]
            refine ⟨g3, Γ4, S4, w3.ext.rel, rg4, ?_⟩
            rw [htt]
            intro g5 H5 e5
            obtain ⟨w5, hD5⟩ := w3.step hD3 e5
            have ra5 := RVs.up w3.ext.rel e5 _ _ ra3
            cases bv with
            | false =>
              rw [if_neg Bool.false_ne_true]
              exact ⟨g5, S5, acc, ws, w5, hD5, ra5, hl⟩
            | true =>
              rw [if_pos rfl]
              cases hte : te Γ4 S5 with
              | bad => simp only [hte] at hl; cases hl
              | ex c fs S => simp only [hte] at hl; cases hl
              | ok v S6 =>
                simp only [hte] at hl
                split at hl
                · rename_i hlen
                  have hE : ∀ Q, lift X' W' te σ4 H5 Q = ∃ g Γ S, Rel (kx X) H5 g S ∧ RG (kx X) H5 g S.length Γ σ4 ∧ OKw (kx X) W' σ4 H5 g S (te Γ S) fun v S' g' H' => ∀ x, RV (kx X) H' g' S'.length v x → Q x H' := by
                    intro Q
                    show (∃ g Γ S, Rel (kx X') H5 g S ∧ RG (kx X') H5 g S.length Γ σ4 ∧ OKw (kx X') W' σ4 H5 g S (te Γ S) fun v S' g' H' => ∀ x, RV (kx X') H' g' S'.length v x → Q x H') = _
                    rw [hX]
                  rw [hE]
                  refine ⟨g5, Γ4, S5, w5.ext.rel, rg4.up w3.ext.rel e5, ?_⟩
                  rw [hte]
                  intro g6 H6 e6 x6 rv6
                  obtain ⟨w6, hD6⟩ := w5.step hD5 e6
                  have ra6 := RVs.up w5.ext.rel e6 _ _ ra5
                  obtain ⟨w7, up7⟩ := w6.put (o' := .lst (ws ++ [x6])) hD6 trivial
                  refine ⟨ws, hD6, by rw [← ra6.len]; exact hlen, g6, S6, acc ++ [v], ws ++ [x6], w7, upd_same, (RVs.mono up7 _ _ ra6).append (RVs.cons (RV.mono up7 _ _ rv6) RVs.nil), hl⟩
                · cases hl
end
end Pv
/-! Pv8: comprehensions as expressions; defs over the store; lists changed; what is built in. -/
namespace Pv
open PySem PySem.Spec PyProof.Rows L2
section
variable {X : Cx} {H H' H'' H0 : Hp} {g g' g'' g0 : G} {S S' S'' S0 : Sto} {W : WX} {a b c e o l tg elt iter : Expr} {es rest ifs : List Expr} {ta tb tc to te : EF} {tr : AF} {pos p apos cpos spos : Pos} {Γ : Gam} {σ : L2.St} {x m : Str} {k j : Nat}
/-! ### comprehensions -/
def Ts (X : Cx) (W : WX) (ifs : List Expr) (t : BF) : Prop := PTs X ifs (liftB X W t)
def bYes : BF := fun _ S => .ok true S
theorem Ts.nil : Ts X W [] bYes := ⟨fun pins s σ H Q I ⟨g, Γ, S, rel, rg, ok⟩ => pts_nil.run pins s σ H Q I (OKw.ok rel ok)⟩
theorem Ts.one {t : BF} (h : B X W c t) : Ts X W [c] t := pts_one h
section
variable {scope : Scope} {own : List (Str × Nat)} {it : IF} {gV : TG} {gt : GF} {tt : BF}
theorem E.lc (mu : Bool) (hc : X.calm = true) (hN : X.N.Nodup) (hi : I X W tg iter it) (ok : BlkOk X.N X.env.scope scope own) (cg : CG X gV gt (own.map (·.2)))
    (hg : ∀ (s : Shared) (H : Hp) (C : Addr) (cl : List (Str × Addr)) (fp : List Addr), PG (X.blk s H scope (compEnvC scope cl C X.env) fp) tg gV)
    (ht : ∀ (s : Shared) (H : Hp) (C : Addr) (cl : List (Str × Addr)) (fp : List Addr), Ts (X.blk s H scope (compEnvC scope cl C X.env) fp) W0 ifs tt)
    (he : ∀ (s : Shared) (H : Hp) (C : Addr) (cl : List (Str × Addr)) (fp : List Addr), E (X.blk s H scope (compEnvC scope cl C X.env) fp) W0 elt te) (hs : ∀ x, foldedSetIterable iter X.env x = pure x := by intro _; rfl) :
    E X W (.ListComp elt [⟨tg, iter, ifs, 0⟩] scope pos) (eLc mu it gt tt te (own.map (·.2))) := by
  obtain ⟨wi, pi, src⟩ := hi
  exact pe_imp (pe_lc (tt := liftB X W0 tt) (te := lift X W0 te) hc hN pi ok hg ht he hs) fun σ H Q h => lc_imp (X' := X) (W' := W0) src cg rfl h
end
/-! ### a def over the store -/
def runW (np n : Nat) (body : SF) (args : List PV) (S : Sto) : R PV := if args.length = np then (match body (args.map some ++ List.replicate (n - args.length) none) S with
  | .nx _ S' => .ok .non S'
  | .rt v S' => .ok v S'
  | .ex c fs _ S' => .ex c fs S'
  | _ => .bad) else .bad
def OKc (Y : Kx) (H : Hp) (g : G) (S : Sto) (r : R PV) (Q : VK) (E : XK) : Prop := match r with
  | .ok v S' => ∀ g' H' x, Ext Y H g S H' g' S' → RV Y H' g' S'.length v x → Q x H'
  | .ex c fs S' => ∀ g' H' cls d, Ext Y H g S H' g' S' → RX Y H' g' S'.length c fs cls d → E cls d H'
  | .bad => False
def spW (Y : Kx) (f : List PV → Sto → R PV) : Sp := fun vs H Q E => ∃ (g : G) (S : Sto) (ps : List PV), Rel Y H g S ∧ RVs Y H g S.length ps vs ∧ OKc Y H g S (f ps S) Q E
def eCallW (f : List PV → Sto → R PV) (t : AF) : EF := fun Γ S => (t Γ S).bind fun ps S1 => f ps S1
theorem E.callW {f : List PV → Sto → R PV} (c : Cal X.prog X.w X.K X.mg X.base k x (spW X f)) (hr : Room j X.A) (tk : Takes X W) (hg : Gl X x) (ha : A X W (e :: es) tr) (hk : k ≤ j := by decide)
    (hdb : (x == ("__debug__" : Str)) = false := by decide) (he : starEach (e :: es) X.env = (false, eval e X.env) :: starEach es X.env := by rfl) (hpl : (backTo pos (starEach es X.env)).any (·.1) = false := by rfl) :
    E X W (.Call (.Name x p) (e :: es) [] pos) (eCallW f tr) := by
  obtain ⟨fa, fd, ps, F, hm, kp, b⟩ := c.ex
  refine pe_imp (pe_callS F (hr.mono hk) hg hm kp b (passAt tk) ha hdb he hpl) fun σ H Q ⟨g, Γ, S, rel, rg, ok⟩ => ?_
  refine ⟨g, Γ, S, rel, rg, OKw.mono (OKw.bind ok) fun ps S1 g1 H1 _ e1 h1 xs rxs => ⟨g1, S1, ps, e1.rel, rxs, ?_⟩⟩
  cases q : f ps S1 with
  | ok v S2 => rw [q] at h1; exact fun g' H' x e2 rv => h1 g' H' e2 x rv
  | ex c fs S2 => rw [q] at h1; exact fun g' H' cls d e2 rx => h1 g' H' cls d e2 rx
  | bad => rw [q] at h1; exact h1
section
variable {P : Program} {w : World} {K : PySem.W.Frag} {mg : Str → Option Value} {base : Heap}
theorem Cal.mkW {x qual : Str} {st : Stmt} {dvs : List V} {kws : List (Str × V)} {f : Addr} {fd : FuncData} {N ps : List Str} {k np n : Nat} {body : SF} (F : FunD K x qual (defArgs st) (defBody st) (defScope st) dvs kws f fd) (hm : mg x = some (.ref f)) (S : FnScope N ps (defScope st)) (b : Binds K fd ps []) (hnp : ps.length = np) (hn : N.length = n)
    (hbody : ∀ (X : Cx) (W : WX), X.prog = P → X.w = w → X.K = K → X.mg = mg → X.base = base → Body X W N (defScope st) k → Ss X W (defBody st) body) : Cal P w K mg base (k + 1) x (spW ⟨K, mg⟩ (runW np n body)) := by
  refine ⟨f, fd, ps, F.ok S (fun vs H Q E ⟨g, S, qs, h0, h1, h3⟩ => ?_) (fun cdv A outer s H vs Q E hr ⟨g, S, qs, h0, h1, h3⟩ => ?_), hm, F.kp, b⟩
  · unfold runW at h3
    split at h3
    · rename_i e
      rw [← h1.len, e, hnp]
    · exact h3.elim
  · unfold runW at h3
    split at h3
    · rename_i elen
      subst hn
      let X := cxOf (L2.CX P w) P w K mg base N qual (defScope st) f cdv A outer s H E
      have tk : Takes X (fun cls d _ H => E cls d H) := takes_of rfl rfl rfl rfl
      have hb := hbody X (fun cls d _ H => E cls d H) rfl rfl rfl rfl rfl ⟨rfl, rfl, rfl, fun _ => rfl, hr, tk, passes_of rfl, rfl, rfl⟩
      refine ⟨_, hb, g, _, S, h0, start_rg (n := 0) h1, ?_⟩
      generalize eb : body (qs.map some ++ List.replicate (N.length - qs.length) none) S = r at h3
      cases r with
      | nx Γ' S' => exact fun g' H' σ' e1 _ => h3 g' H' .non e1 RV.non
      | rt v S' => exact fun g' H' x e1 rv => h3 g' H' x e1 rv
      | ex c fs Γ' S' => exact fun g' H' σ' cls d e1 _ rx => h3 g' H' cls d e1 rx
      | bk Γ' S' => exact h3.elim
      | ct Γ' S' => exact h3.elim
      | bad => exact h3.elim
    · exact h3.elim
end
/-! ### methods of what is built in -/
abbrev MF := PV → List PV → Sto → Option (PV × Sto)
/-- the receiver is of the type T -/
def tyP (T : String) (S : Sto) (p : PV) : Bool := match p with
  | .str _ => T == "str"
  | p => match deref S p with
    | some (.lst, _) => T == "list"
    | _ => false
def eM (T : String) (f : MF) (t : EF) (r : AF) : EF := fun Γ S => (t Γ S).bind fun p S1 => if tyP T S1 p = true then (r Γ S1).bind fun ps S2 => R.of (f p ps S2) else .bad
def MtF (X : Kx) (r : V → List V → Hp → VK → Prop) (f : MF) : Prop := ∀ (H : Hp) (g : G) (S : Sto) (p : PV) (ps : List PV) (x : V) (xs : List V) (w : PV) (S' : Sto) (Q : VK), Rel X H g S → RV X H g S.length p x → RVs X H g S.length ps xs → f p ps S = some (w, S') →
  (∀ g' H' z, Ext X H g S H' g' S' → RV X H' g' S'.length w z → Q z H') → r x xs H Q
theorem tyP_ok {Y : Kx} {T : String} {p : PV} {x : V} (rel : Rel Y H g S) (rv : RV Y H g S.length p x) (h : tyP T S p = true) : tyV Y.K T x H := by
  unfold tyP at h
  split at h
  · rw [rv.str_inv]
    exact beq_iff_eq.mp h
  · split at h
    · rename_i xs e
      obtain ⟨a, vs, rfl, h2, h3⟩ := deref_ok rel rv e
      exact Or.inl ⟨beq_iff_eq.mp h, vs, h3.lst⟩
    · cases h
theorem bm_imp {T : String} {r : V → List V → Hp → VK → Prop} {f : MF} (hf : MtF X r f) {σ : L2.St} {H : Hp} {Q : VK} (h : lift X W (eM T f to tr) σ H Q) : tBM X.K T r (lift X W to) (liftA X W tr) σ H Q := by
  obtain ⟨g, Γ, S, rel, rg, ok⟩ := h
  refine ⟨g, Γ, S, rel, rg, OKw.mono (OKw.bind ok) fun p S1 g1 H1 _ e1 h1 x rx => ?_⟩
  split at h1
  · rename_i ht
    refine ⟨tyP_ok e1.rel rx ht, g1, Γ, S1, e1.rel, rg.up rel e1, OKw.mono (OKw.bind h1) fun ps S2 g2 H2 _ e2 h2 xs rxs => ?_⟩
    cases hw : f p ps S2 with
    | none => rw [hw] at h2; exact h2.elim
    | some z =>
      obtain ⟨w, S3⟩ := z
      rw [hw] at h2
      exact hf H2 g2 S2 p ps x xs w S3 Q e2.rel (RV.up e1.rel e2 _ _ rx) rxs hw fun g' H' z e3 rz => h2 g' H' e3 z rz
  · exact h1.elim
section
variable {T id : String} {r : V → List V → Hp → VK → Prop} {f : MF}
theorem E.bm (pa : PlainAttrs T) (slot : Slot T m id) (hty : typeOf (.builtin id) = pure (.type "method_descriptor")) (hm : MtR X id r) (hf : MtF X r f) (ho : E X W o to) (ha : A X W (e :: es) tr)
    (hbase : attributeBase o m X.env (eval o X.env) = eval o X.env := by rfl)
    (hfew : ((backTo cpos (starEach (e :: es) X.env)).all (fun x => !x.1) && (backToKw cpos (keywordEach [] X.env)).all (fun x => x.1.isSome)
      && decide ((e :: es).length + ([] : List Keyword).length + (if ([] : List Keyword).isEmpty then 0 else 1) < 30)) = true := by rfl)
    (hline : (apos.endLine == cpos.line) = true := by rfl) (hs : starEach (e :: es) X.env = (false, eval e X.env) :: starEach es X.env := by rfl) (hplain : (backTo cpos (starEach es X.env)).any (·.1) = false := by rfl) :
    E X W (.Call (.Attribute o m apos) (e :: es) [] cpos) (eM T f to tr) :=
  pe_imp (pe_bm pa slot hty hm ho ha hbase hfew hline hs hplain) fun _ _ _ h => bm_imp hf h
theorem E.bm0 (pa : PlainAttrs T) (slot : Slot T m id) (hty : typeOf (.builtin id) = pure (.type "method_descriptor")) (hm : MtR X id r) (hf : MtF X r f) (h : ∀ {to : TE}, PE X o to → PE X (.Call (.Attribute o m apos) [] [] cpos) (tBM X.K T r to tNil)) (ho : E X W o to) :
    E X W (.Call (.Attribute o m apos) [] [] cpos) (eM T f to aNil) :=
  pe_imp (h ho) fun σ H Q ⟨g, Γ, S, rel, rg, ok⟩ => ⟨g, Γ, S, rel, rg, OKw.mono (OKw.bind ok) fun p S1 g1 H1 _ e1 h1 x rx => by
    split at h1
    · rename_i ht
      refine ⟨tyP_ok e1.rel rx ht, ?_⟩
      have h1 : OKw X W σ H1 g1 S1 (R.of (f p [] S1)) _ := h1
      cases hw : f p [] S1 with
      | none => rw [hw] at h1; exact h1.elim
      | some z =>
        obtain ⟨w, S3⟩ := z
        rw [hw] at h1
        exact hf H1 g1 S1 p [] x [] w S3 Q e1.rel rx RVs.nil hw fun g' H' z e3 rz => h1 g' H' e3 z rz
    · exact h1.elim⟩
end
/-! lists changed -/
def lstF (f : List PV → List PV → Option (PV × List PV)) : MF := fun p ps S => match p with
  | .ref n => match S[n]?.join with
    | some (.lst, xs) => (f xs ps).map fun q => (q.1, S.set n (some (.lst, q.2)))
    | _ => none
  | _ => none
theorem lstF_inv {f : List PV → List PV → Option (PV × List PV)} {Y : Kx} {p : PV} {ps : List PV} {x : V} {w : PV} (rel : Rel Y H g S) (rv : RV Y H g S.length p x) (h : lstF f p ps S = some (w, S')) :
    ∃ n xs vs xs', p = .ref n ∧ x = .ref (g.r n) ∧ S[n]? = some (some (.lst, xs)) ∧ H (g.r n) = some (.lst vs) ∧ RVs Y H g S.length xs vs ∧ f xs ps = some (w, xs') ∧ S' = S.set n (some (.lst, xs')) := by
  unfold lstF at h
  split at h
  · rename_i n
    split at h
    · rename_i xs ej
      simp only [Option.map_eq_some_iff] at h
      obtain ⟨q, h1, h2⟩ := h
      cases h2
      have hn := join_some ej
      obtain ⟨o, vs, q1, q2, _, q4⟩ := rel.ob n _ _ hn
      cases q2
      simp only [RV] at rv
      exact ⟨n, xs, vs, q.2, rfl, rv.2, hn, q1, q4, h1, rfl⟩
    · cases h
  · cases h
def appendF : MF := lstF fun xs ps => match ps with
  | [v] => if xs.length < sizeLine then some (.non, xs ++ [v]) else none
  | _ => none
theorem mtf_append : MtF X rAppend appendF := by
  intro H g S p ps x xs w S' Q rel rx rxs h k
  obtain ⟨n, ys, vs, ys', rfl, rfl, hn, hH, hr, hf, rfl⟩ := lstF_inv rel rx h
  split at hf
  · split at hf
    · rename_i v hl
      cases hf
      simp only [RVs] at rxs
      obtain ⟨u, r, rfl, h2, rfl⟩ := rxs
      exact ⟨g.r n, vs, u, rfl, rfl, hH, by rw [← hr.len]; exact hl, k g _ _ (set_ok rel hn (o' := .lst (vs ++ [u])) rfl (by decide) (hr.append (RVs.cons h2 RVs.nil))) RV.non⟩
    · cases hf
  · cases hf
def popF : MF := lstF fun xs ps => match ps with
  | [] => (xs[xs.length - 1]?).map fun v => (v, xs.dropLast)
  | _ => none
theorem RVs.dropLast {Y : Kx} {L : Nat} {xs : List PV} {vs : List V} (h : RVs Y H g L xs vs) : RVs Y H g L xs.dropLast vs.dropLast := by
  rw [List.dropLast_eq_take, List.dropLast_eq_take, ← h.len]
  exact h.take _
theorem mtf_pop : MtF X rPop popF := by
  intro H g S p ps x xs w S' Q rel rx rxs h k
  obtain ⟨n, ys, vs, ys', rfl, rfl, hn, hH, hr, hf, rfl⟩ := lstF_inv rel rx h
  split at hf
  · simp only [Option.map_eq_some_iff] at hf
    obtain ⟨v, h1, h2⟩ := hf
    cases h2
    simp only [RVs] at rxs
    subst rxs
    obtain ⟨u, q1, q2⟩ := hr.get h1
    have e := set_ok (k' := .lst) rel hn (o' := .lst vs.dropLast) rfl (by decide) hr.dropLast
    exact ⟨g.r n, vs, u, rfl, rfl, hH, by rw [← hr.len]; exact q1, k g _ _ e (RV.up rel e _ _ q2)⟩
  · cases hf
theorem RVs.reverse {Y : Kx} {L : Nat} : ∀ {xs : List PV} {vs : List V}, RVs Y H g L xs vs → RVs Y H g L xs.reverse vs.reverse
  | [], _, h => by simp only [RVs] at h; subst h; exact RVs.nil
  | x :: xs, _, h => by
    simp only [RVs] at h
    obtain ⟨v, r, rfl, h2, h3⟩ := h
    rw [List.reverse_cons, List.reverse_cons]
    exact (RVs.reverse h3).append (RVs.cons h2 RVs.nil)
/-! ### o[i] = v -/
abbrev SetF := PV → PV → PV → Sto → Option Sto
def gSubF (f : SetF) (to ti : EF) : GF := fun v Γ S => (to Γ S).bind fun o S1 => (ti Γ S1).bind fun i S2 => match f o i v S2 with
  | some S3 => .ok Γ S3
  | none => .bad
def SetOK (X : Kx) (t : TSet) (f : SetF) : Prop := ∀ (H : Hp) (g : G) (S : Sto) (o i v : PV) (x y z : V) (S' : Sto) (Q : Hp → Prop), Rel X H g S → RV X H g S.length o x → RV X H g S.length i y → RV X H g S.length v z → f o i v S = some S' → (∀ g' H', Ext X H g S H' g' S' → Q H') → t x y z H Q
theorem Tg.sub {t : TSet} {f : SetF} (ho : E X W o to) (hi : E X W a ta) (hs : PSet X t) (hf : SetOK X t f)
    (ha : ∀ v, assign (.Subscript o a pos) X.env v = (do
      let ov ← holding [v] (eval o X.env)
      let iv ← holding [v, ov] (eval a X.env)
      standAt pos
      holding [v, ov, iv] (setItem ov iv v)
      release [v, ov, iv] []) := by intro _; rfl) : Tg X W (.Subscript o a pos) (gSubF f to ta) :=
  pg_imp (pg_sub ho hi hs ha) fun v σ H Q ⟨g, Γ, S, p, rel, rg, rv, ok⟩ => by
    refine ⟨g, Γ, S, rel, rg, OKw.mono (OKw.bind ok) fun o' S1 g1 H1 _ e1 h1 x rx => ?_⟩
    refine ⟨g1, Γ, S1, e1.rel, rg.up rel e1, OKw.mono (OKw.bind h1) fun i' S2 g2 H2 _ e2 h2 y ry => ?_⟩
    split at h2
    · rename_i S3 hw
      exact hf H2 g2 S2 o' i' p x y v S3 _ e2.rel (RV.up e1.rel e2 _ _ rx) ry (RV.up e1.rel e2 _ _ (RV.up rel e1 _ _ rv)) hw fun g' H' e3 => h2 g' H' e3 _ (((rg.up rel e1).up e1.rel e2).up e2.rel e3)
    · exact h2.elim
def setLF : SetF := fun o i v S => match o, i with
  | .ref n, .int k => match S[n]?.join with
    | some (.lst, xs) => (ixN xs.length k).map fun j => S.set n (some (.lst, xs.set j v))
    | _ => none
  | _, _ => none
theorem set_lst : SetOK X rSetL setLF := by
  intro H g S o i v x y z S' Q rel rx ry rz h k
  unfold setLF at h
  split at h
  · rename_i n i
    split at h
    · rename_i xs ej
      simp only [Option.map_eq_some_iff] at h
      obtain ⟨j, h1, rfl⟩ := h
      have hn := join_some ej
      obtain ⟨o, vs, q1, q2, _, q4⟩ := rel.ob n _ _ hn
      cases q2
      simp only [RV] at rx ry
      exact ⟨g.r n, vs, i, j, rx.2, ry, q1, by rw [← q4.len]; exact h1, k g _ (set_ok rel hn (o' := .lst (vs.set j z)) rfl (by decide) (q4.set rz))⟩
    · cases h
  · cases h
/-! ### what is built in, called by name -/
def lenF : CF := fun ps S => match ps with
  | [.str z] => if z.length ≤ sizeLine then some (.int z.length, S) else none
  | [p] => match deref S p with
    | some (.lst, xs) => some (.int xs.length, S)
    | some (.tup, xs) => some (.int xs.length, S)
    | _ => none
  | _ => none
theorem CallR.or {f : Value} {r r' : List V → Hp → VK → Prop} (h : CallR X f r) (h' : CallR X f r') : CallR X f (fun xs H Q => r xs H Q ∨ r' xs H Q) := by
  intro pins s σ H xs us Q I rs q
  rcases q with q | q
  · exact h pins s σ H xs us Q I rs q
  · exact h' pins s σ H xs us Q I rs q
theorem cf_len : CallF X (fun xs H Q => (∃ p ys, xs = [.ref p] ∧ (SqL X.K H p ys ∨ SqT X.K H p ys) ∧ Q (.int ys.length) H) ∨ ∃ z, xs = [.str z] ∧ z.length ≤ sizeLine ∧ Q (.int z.length) H) lenF := by
  intro H g S ps xs w S' Q rel rxs h k
  unfold lenF at h
  split at h
  · split at h
    · cases h
      simp only [RVs, RV] at rxs
      obtain ⟨_, _, rfl, rfl, rfl⟩ := rxs
      exact Or.inr ⟨_, rfl, by assumption, k g H _ (Ext.refl rel) RV.int⟩
    · cases h
  · rename_i p _
    simp only [RVs] at rxs
    obtain ⟨v, _, rfl, h2, rfl⟩ := rxs
    split at h
    · rename_i ys e
      obtain ⟨a, vs, rfl, h4, h5⟩ := deref_ok rel h2 e
      cases h
      exact Or.inl ⟨a, vs, rfl, Or.inl h5.lst, by rw [← h4.len]; exact k g H _ (Ext.refl rel) RV.int⟩
    · rename_i ys e
      obtain ⟨a, vs, rfl, h4, h5⟩ := deref_ok rel h2 e
      cases h
      exact Or.inl ⟨a, vs, rfl, Or.inr h5.tup, by rw [← h4.len]; exact k g H _ (Ext.refl rel) RV.int⟩
    · cases h
  · cases h
theorem cr_len : CallR X (.builtin "len") (fun xs H Q => (∃ p ys, xs = [.ref p] ∧ (SqL X.K H p ys ∨ SqT X.K H p ys) ∧ Q (.int ys.length) H) ∨ ∃ z, xs = [.str z] ∧ z.length ≤ sizeLine ∧ Q (.int z.length) H) := CallR.or call_len_seq call_len_str
def listF (mu : Bool) : CF := fun ps S => match ps with
  | [p] => match deref S p with
    | some (.lst, xs) => some (newP mu .lst xs S)
    | some (.tup, xs) => some (newP mu .lst xs S)
    | _ => none
  | _ => none
theorem cf_list {mu : Bool} : CallF X (fun xs H Q => ∃ p ys, xs = [.ref p] ∧ (SqL X.K H p ys ∨ SqT X.K H p ys) ∧ ∀ l, H l = none → Q (.ref l) (upd H l (.lst ys))) (listF mu) := by
  intro H g S ps xs w S' Q rel rxs h k
  unfold listF at h
  split at h
  · simp only [RVs] at rxs
    obtain ⟨v, _, rfl, h2, rfl⟩ := rxs
    split at h
    · rename_i ys e
      obtain ⟨a, vs, rfl, h4, h5⟩ := deref_ok rel h2 e
      refine ⟨a, vs, rfl, Or.inl h5.lst, fun l hl => ?_⟩
      obtain ⟨g', z1, z2⟩ := new_ok (m := mu) rel hl (k := .lst) (o := .lst _) rfl (by decide) h4
      simp only [Option.some.injEq] at h
      rw [h] at z1 z2
      exact k g' _ _ z1 z2
    · rename_i ys e
      obtain ⟨a, vs, rfl, h4, h5⟩ := deref_ok rel h2 e
      refine ⟨a, vs, rfl, Or.inr h5.tup, fun l hl => ?_⟩
      obtain ⟨g', z1, z2⟩ := new_ok (m := mu) rel hl (k := .lst) (o := .lst _) rfl (by decide) h4
      simp only [Option.some.injEq] at h
      rw [h] at z1 z2
      exact k g' _ _ z1 z2
    · cases h
  · cases h
def tupleF : CF := fun ps S => match ps with
  | [.con m .tup xs] => some (.con m .tup xs, S)
  | [p] => match deref S p with
    | some (.lst, xs) => some (.con .own .tup xs, S)
    | _ => none
  | _ => none
theorem cf_tuple : CallF X (fun xs H Q => ∃ p ys, xs = [.ref p] ∧ ((SqL X.K H p ys ∧ ∀ l, H l = none → Q (.ref l) (upd H l (.tup ys))) ∨ (SqT X.K H p ys ∧ Q (.ref p) H))) tupleF := by
  intro H g S ps xs w S' Q rel rxs h k
  unfold tupleF at h
  split at h
  · cases h
    simp only [RVs] at rxs
    obtain ⟨v, _, rfl, h2, rfl⟩ := rxs
    have h2' := h2
    simp only [RV] at h2
    obtain ⟨a, vs, rfl, h4, h5⟩ := h2
    exact ⟨a, vs, rfl, Or.inr ⟨h4.rdd.tup, k g H _ (Ext.refl rel) h2'⟩⟩
  · simp only [RVs] at rxs
    obtain ⟨v, _, rfl, h2, rfl⟩ := rxs
    split at h
    · rename_i ys e
      obtain ⟨a, vs, rfl, h4, h5⟩ := deref_ok rel h2 e
      cases h
      refine ⟨a, vs, rfl, Or.inl ⟨h5.lst, fun l hl => ?_⟩⟩
      obtain ⟨z1, z2⟩ := newF_ok rel hl (k := .tup) (o := .tup _) rfl h4
      exact k _ _ _ z1 z2
    · cases h
  · cases h
def int1F : CF := fun ps S => match ps with
  | [.int i] => some (.int i, S)
  | [.bl b] => some (.int (if b then 1 else 0), S)
  | _ => none
theorem cf_int1 : CallF X (fun xs H Q => (∃ i, xs = [.int i] ∧ Q (.int i) H) ∨ ∃ k, xs = [.bl k] ∧ Q (.int (if k then 1 else 0)) H) int1F := by
  intro H g S ps xs w S' Q rel rxs h k
  unfold int1F at h
  split at h
  · cases h
    simp only [RVs, RV] at rxs
    obtain ⟨_, _, rfl, rfl, rfl⟩ := rxs
    exact Or.inl ⟨_, rfl, k g H _ (Ext.refl rel) RV.int⟩
  · cases h
    simp only [RVs, RV] at rxs
    obtain ⟨_, _, rfl, rfl, rfl⟩ := rxs
    exact Or.inr ⟨_, rfl, k g H _ (Ext.refl rel) RV.int⟩
  · cases h
def absF : CF := fun ps S => match ps with
  | [.int i] => some (.int (if i < 0 then -i else i), S)
  | _ => none
def ii2F (f : Int → Int → Int) : CF := fun ps S => match ps with
  | [.int i, .int j] => some (.int (f i j), S)
  | _ => none
theorem cf_ii2 {f : Int → Int → Int} : CallF X (fun xs H Q => ∃ i j, xs = [.int i, .int j] ∧ Q (.int (f i j)) H) (ii2F f) := by
  intro H g S ps xs w S' Q rel rxs h k
  unfold ii2F at h
  split at h
  · cases h
    simp only [RVs, RV] at rxs
    obtain ⟨_, _, rfl, rfl, _, _, rfl, rfl, rfl⟩ := rxs
    exact ⟨_, _, rfl, k g H _ (Ext.refl rel) RV.int⟩
  · cases h
def divmodF : CF := fun ps S => match ps with
  | [.int i, .int j] => if CDiv i j then some (.con .own .tup [.int (i / j), .int (i % j)], S) else none
  | _ => none
theorem cf_divmod : CallF X (fun xs H Q => ∃ i j, xs = [.int i, .int j] ∧ CDiv i j ∧ ∀ p, H p = none → Q (.ref p) (upd H p (.tup [.int (i / j), .int (i % j)]))) divmodF := by
  intro H g S ps xs w S' Q rel rxs h k
  unfold divmodF at h
  split at h
  · split at h
    · cases h
      simp only [RVs, RV] at rxs
      obtain ⟨_, _, rfl, rfl, _, _, rfl, rfl, rfl⟩ := rxs
      refine ⟨_, _, rfl, by assumption, fun p hp => ?_⟩
      obtain ⟨z1, z2⟩ := newF_ok rel hp (k := .tup) (o := .tup _) rfl (RVs.mk_ints [_, _])
      exact k _ _ _ z1 z2
    · cases h
  · cases h
/-- isinstance of a built-in type -/
def tyName (S : Sto) : PV → Option String
  | .non => some "NoneType"
  | .bl _ => some "bool"
  | .int _ => some "int"
  | .str _ => some "str"
  | p => match deref S p with
    | some (.lst, _) => some "list"
    | some (.tup, _) => some "tuple"
    | _ => none
def isiB (a b : String) : Bool := a == b || (a == "bool" && b == "int")
def isiF : CF := fun ps S => match ps with
  | [p, .ty n] => match tyName S p with
    | some t => if kitB t n = some (isiB t n) then some (.bl (isiB t n), S) else none
    | none => none
  | _ => none
theorem tyName_ok {Y : Kx} {p : PV} {x : V} {t : String} (rel : Rel Y H g S) (rv : RV Y H g S.length p x) (h : tyName S p = some t) : TyX Y.K H x (.type t) := by
  unfold tyName at h
  split at h
  · cases h; rw [rv.non_inv]; exact .base .non
  · cases h; rw [rv.bl_inv]; exact .base (.bl _)
  · cases h; rw [rv.int_inv]; exact .base (.int _)
  · cases h; rw [rv.str_inv]; exact .base (.str _)
  · split at h
    · rename_i ys e
      obtain ⟨a, vs, rfl, h4, h5⟩ := deref_ok rel rv e
      cases h
      rcases h5 with ⟨o, q1, q2⟩ | q
      · cases q1
        rcases q2 with q2 | ⟨ob, q2⟩
        · exact .base (.lst q2)
        · exact .base (.frz q2)
      · obtain ⟨o, its, n, z1, z2, _⟩ := q
        exact .kList z1 z2
    · rename_i ys e
      obtain ⟨a, vs, rfl, h4, h5⟩ := deref_ok rel rv e
      cases h
      rcases h5 with ⟨o, q1, q2⟩ | q
      · cases q1
        rcases q2 with q2 | ⟨ob, q2⟩
        · exact .base (.tup q2)
        · exact .fTuple q2
      · obtain ⟨o, its, n, z1, z2, _⟩ := q
        exact .kTuple z1 z2
    · cases h
theorem cf_isi : CallF X (rIsi X.K) isiF := by
  intro H g S ps xs w S' Q rel rxs h k
  unfold isiF at h
  split at h
  · rename_i p n
    split at h
    · rename_i t et
      split at h
      · rename_i hk
        cases h
        simp only [RVs, RV] at rxs
        obtain ⟨v, _, rfl, h2, _, _, rfl, rfl, rfl⟩ := rxs
        exact ⟨v, .ty n, .type t, .type n, _, rfl, .ty n, tyName_ok rel h2 et, kit_ty hk, k g H _ (Ext.refl rel) RV.bl⟩
      · cases h
    · cases h
  · cases h
/-- a built-in's name as a value -/
theorem E.ty {x : Str} {n : String} (hg : Gl X x) (hm : X.mg x = none) (hv : bootBuiltins x = some (.type n)) (hn : x ≠ "__name__" := by decide) (hd : (x == ("__debug__" : Str)) = false := by decide) : E X W (.Name x pos) (eC (.ty n)) :=
  E.const (pe_bltn (v := .ty n) hg hm hv rfl hn hd) fun H g L => by simp only [RV]
end
end Pv
/-! Pv9: within a def's body; the end. -/
namespace Pv
open PySem PySem.Spec PyProof.Rows L2
section
variable {X : Cx} {W : WX} {N : List Str} {sc : Scope} {k : Nat} {pos pos' : Pos} {e : Expr} {te : EF}
/-- a name of the def in slot i, to be read -/
def slC (N : List Str) (sc : Scope) (i : Nat) (x : Str) : Bool := decide (N[i]? = some x) && (match sc.names.lookup x with
  | some .local => true
  | some .cell => true
  | some .free => true
  | _ => false) && !(x == ("__debug__" : Str)) && !(x == ("__classdict__" : Str))
/-- .. to be stored -/
def slT (N : List Str) (sc : Scope) (i : Nat) (x : Str) : Bool := decide (N[i]? = some x) && (match sc.names.lookup x with
  | some .local => true
  | some .cell => true
  | _ => false)
theorem slC_ok {i : Nat} {x : Str} (h : slC N sc i x = true) : N[i]? = some x ∧ Vis sc x ∧ (x == ("__debug__" : Str)) = false ∧ (x == ("__classdict__" : Str)) = false := by
  unfold slC at h
  simp only [Bool.and_eq_true, decide_eq_true_eq, Bool.not_eq_true'] at h
  obtain ⟨⟨⟨h1, h2⟩, h3⟩, h4⟩ := h
  refine ⟨h1, ?_, h3, h4⟩
  split at h2
  · exact Or.inl (by assumption)
  · exact Or.inr (Or.inl (by assumption))
  · exact Or.inr (Or.inr (by assumption))
  · cases h2
theorem slT_ok {i : Nat} {x : Str} (h : slT N sc i x = true) : N[i]? = some x ∧ Loc sc x := by
  unfold slT at h
  simp only [Bool.and_eq_true, decide_eq_true_eq] at h
  obtain ⟨h1, h2⟩ := h
  refine ⟨h1, ?_⟩
  split at h2
  · exact Or.inl (by assumption)
  · exact Or.inr (by assumption)
  · cases h2
theorem E.vr (hN : X.N = N) (hs : X.env.scope = sc) (i : Nat) (x : Str) (h : slC N sc i x = true) : E X W (.Name x pos) (eV i) := by
  subst hN hs
  obtain ⟨h1, h2, h3, h4⟩ := slC_ok h
  exact E.var (pe_var h1 h2 h3 h4)
theorem Body.v (b : Body X W N sc k) (i : Nat) (x : Str) (h : slC N sc i x = true) : E X W (.Name x pos) (eV i) := E.vr b.hN b.sc i x h
theorem Body.pg (b : Body X W N sc k) (nd : N.Nodup) (i : Nat) (x : Str) (h : slT N sc i x = true) : PG X (.Name x pos) (gName i) := by
  have b1 := b.hN
  have b2 := b.sc
  subst b1 b2
  obtain ⟨h1, h2⟩ := slT_ok h
  exact pg_name nd h1 h2 (.inl (b.fn x))
theorem Body.t (b : Body X W N sc k) (nd : N.Nodup) (i : Nat) (x : Str) (h : slT N sc i x = true) : Tg X W (.Name x pos) (gN i) := Tg.name (b.pg nd i x h)
theorem Body.set (b : Body X W N sc k) (nd : N.Nodup) (i : Nat) (x : Str) (h : slT N sc i x = true) (he : E X W e te) (hs : swapsWith e (some (.Name x pos')) pos.line X.env = pure false := by rfl) : St X W (.Assign [.Name x pos'] e pos) (sSet i te) := by
  have b1 := b.hN
  have b2 := b.sc
  subst b1 b2
  obtain ⟨h1, h2⟩ := slT_ok h
  exact St.set (fun he => ps_set nd h1 h2 he hs (.inl (b.fn x))) he
theorem Body.aug (b : Body X W N sc k) (nd : N.Nodup) (i : Nat) (x : Str) (h : slT N sc i x = true) {op : Operator} {r : R2} {f : OF} (ho : PIp X op r) (hf : OpF X r f) (he : E X W e te) : St X W (.AugAssign (.Name x pos') op e pos) (sAug i f te) := by
  have b1 := b.hN
  have b2 := b.sc
  subst b1 b2
  obtain ⟨h1, h2⟩ := slT_ok h
  exact ps_imp (ps_aug nd h1 h2 he ho (.inl (b.fn x))) fun D σ H q => aug_imp hf q
theorem gl_of (hs : X.env.scope = sc) (x : Str) (h : sc.names.lookup x = some .globalImplicit) : Gl X x := by subst hs; exact h
theorem Body.gl (b : Body X W N sc k) (x : Str) (h : sc.names.lookup x = some .globalImplicit) : Gl X x := gl_of b.sc x h
theorem Body.hu (b : Body X W N sc k) : X.A.units + 64 < cLine := b.room.units
/-! within a comprehension's block -/
theorem blk_sc {s : Shared} {H : Hp} {scope : Scope} {C : Addr} {cl : List (Str × Addr)} {fp : List Addr} (hs : X.env.scope = sc) : (X.blk s H scope (compEnvC scope cl C X.env) fp).env.scope = relS scope sc := by subst hs; rfl
theorem blk_pg {s : Shared} {H : Hp} {scope : Scope} {C : Addr} {cl : List (Str × Addr)} {fp : List Addr} (hN : X.N = N) (hs : X.env.scope = sc) (nd : N.Nodup) (i : Nat) (x : Str)
    (h : (decide (N[i]? = some x) && (decide ((relS scope sc).names.lookup x = some .local) || (decide ((relS scope sc).names.lookup x = some .cell) && (scope.names.lookup x == some .cell)))) = true) : PG (X.blk s H scope (compEnvC scope cl C X.env) fp) (.Name x pos) (gName i) := by
  subst hN hs
  simp only [Bool.and_eq_true, Bool.or_eq_true, decide_eq_true_eq] at h
  obtain ⟨h1, h2⟩ := h
  rcases h2 with h2 | ⟨h2, h3⟩
  · exact pg_name nd h1 (Or.inl h2) (Or.inr h2)
  · exact pg_name nd h1 (Or.inr h2) (Or.inl h3)
theorem Body.blk (b : Body X W N sc k) {scope : Scope} {own : List (Str × Nat)} (h : blkC N sc scope own = true) : BlkOk X.N X.env.scope scope own := by
  have b1 := b.hN
  have b2 := b.sc
  subst b1 b2
  exact blkOk_by h
end
/-- a module's name that holds a number, a text, a tuple of the top -/
theorem E.gint {X : Cx} {W : WX} {x : Str} {i : Int} {pos : Pos} (hg : Gl X x) (hm : ∃ t, X.mg x = some (.int i t)) (hd : (x == ("__debug__" : Str)) = false := by decide) : E X W (.Name x pos) (eC (.int i)) := by
  obtain ⟨t, hm⟩ := hm
  exact E.const (pe_glob (v := .int i) hg hm ⟨t, rfl⟩ hd) fun H g L => RV.int
theorem E.gstr {X : Cx} {W : WX} {x : Str} {i : Str} {pos : Pos} (hg : Gl X x) (hm : ∃ t, X.mg x = some (.str i t)) (hd : (x == ("__debug__" : Str)) = false := by decide) : E X W (.Name x pos) (eC (.str i)) := by
  obtain ⟨t, hm⟩ := hm
  exact E.const (pe_glob (v := .str i) hg hm ⟨t, rfl⟩ hd) fun H g L => RV.str
/-- a tuple of texts that the top has written -/
def WTup (K : PySem.W.Frag) (mg : Str → Option Value) (x : Str) (ss : List Str) : Prop := ∃ a, mg x = some (.ref a) ∧ Wr K a .tup (ss.map V.str)
theorem E.gtup {X : Cx} {W : WX} {x : Str} {ss : List Str} {pos : Pos} (hg : Gl X x) (hm : WTup X.K X.mg x ss) (hd : (x == ("__debug__" : Str)) = false := by decide) : E X W (.Name x pos) (eC (.con .out .tup (ss.map PV.str))) := by
  obtain ⟨a, h1, h2⟩ := hm
  exact E.const (pe_glob (v := .ref a) hg h1 rfl hd) fun H g L => by
    simp only [RV]
    exact ⟨a, _, rfl, Or.inr h2, RVs.mk_strs _⟩
theorem wtup_of {K : PySem.W.Frag} {h : Heap} {mg : Str → Option Value} {x : Str} {ss : List Str} (X : K.In h) (G : h.Ns mainGlobals mg) (c : (He.Fa.glo x).ok K = true) (d : He.tupB K x (ss.map fun s => .str s) = true) : WTup K mg x ss := by
  refine ⟨_, He.glo_ok X G c, ?_⟩
  have q := He.tupB_ok d (fun _ => none)
  rcases q with (q | ⟨o, q⟩) | q
  · cases q
  · cases q
  · obtain ⟨o, its, n, h1, h2, h3, h4, h5⟩ := q
    refine ⟨o, its, n, h1, h2, h3, h4, ?_⟩
    have e : (ss.map fun s => He.Dv.str s).map (He.Dv.v K) = ss.map V.str := by
      rw [List.map_map]; rfl
    rw [e] at h5
    exact h5
end Pv
/-! Pv10: in; defs by their place; the end of a law. -/
namespace Pv
open PySem PySem.Spec PyProof.Rows L2
section
variable {X : Cx} {W : WX} {N : List Str} {sc : Scope} {k : Nat}
def rInP (K : PySem.W.Frag) : R2 := fun x y H Q => ∃ d ds, Dp K H x d ∧ (Dp K H y (.list ds) ∨ Dp K H y (.tuple ds)) ∧ Pl d ∧ PyData.plainAll ds = true ∧ Q (.bl (ds.any fun z => PyData.eqv z d)) H
def rNinP (K : PySem.W.Frag) : R2 := fun x y H Q => ∃ d ds, Dp K H x d ∧ (Dp K H y (.list ds) ∨ Dp K H y (.tuple ds)) ∧ Pl d ∧ PyData.plainAll ds = true ∧ Q (.bl (!ds.any fun z => PyData.eqv z d)) H
theorem op_inP (hu : X.A.units + 65 < cLine) : OpR X (compareOp .In) (rInP X.K) := by
  intro pins s σ H x y v u Q I rx ry h
  obtain ⟨d, ds, hd, he, sd, se, q⟩ := h
  obtain ⟨as, r1⟩ := Dp.reads I d x v hd rx
  have := sd.2
  rcases he with he | he
  · obtain ⟨bs, r2⟩ := Dp.reads I (.list ds) y u he ry
    exact SeqAt.in_list_data r2 r1 se sd.1 (by omega) ⟨.bl _, H, I, rfl, q⟩
  · obtain ⟨bs, r2⟩ := Dp.reads I (.tuple ds) y u he ry
    exact SeqAt.in_tuple_data r2 r1 se sd.1 (by omega) ⟨.bl _, H, I, rfl, q⟩
theorem op_ninP (hu : X.A.units + 65 < cLine) : OpR X (compareOp .NotIn) (rNinP X.K) := by
  intro pins s σ H x y v u Q I rx ry h
  obtain ⟨d, ds, hd, he, sd, se, q⟩ := h
  obtain ⟨as, r1⟩ := Dp.reads I d x v hd rx
  have := sd.2
  rcases he with he | he
  · obtain ⟨bs, r2⟩ := Dp.reads I (.list ds) y u he ry
    exact SeqAt.notIn_list_data r2 r1 se sd.1 (by omega) ⟨.bl _, H, I, rfl, q⟩
  · obtain ⟨bs, r2⟩ := Dp.reads I (.tuple ds) y u he ry
    exact SeqAt.notIn_tuple_data r2 r1 se sd.1 (by omega) ⟨.bl _, H, I, rfl, q⟩
abbrev rInA (K : PySem.W.Frag) : R2 := fun x y H Q => (∃ (c : Nat) (z : Str), x = .str ⟨#[c]⟩ ∧ y = .str z ∧ Q (.bl (decide (c ∈ z.cps.toList))) H) ∨ (rIn K false x y H Q ∨ rInP K x y H Q)
abbrev rNinA (K : PySem.W.Frag) : R2 := fun x y H Q => (∃ (c : Nat) (z : Str), x = .str ⟨#[c]⟩ ∧ y = .str z ∧ Q (.bl (!decide (c ∈ z.cps.toList))) H) ∨ (rIn K true x y H Q ∨ rNinP K x y H Q)
theorem or_in (hu : X.A.units + 65 < cLine) : OpR X (compareOp .In) (rInA X.K) := OpR.or op_in_sign (OpR.or op_in_seq (op_inP hu))
theorem or_nin (hu : X.A.units + 65 < cLine) : OpR X (compareOp .NotIn) (rNinA X.K) := OpR.or op_notIn_sign (OpR.or op_notIn_seq (op_ninP hu))
theorem opf_in : OpF X (rInA X.K) inF :=
  inB_ok (fb := fun b => b) (fun c z H Q q => Or.inl ⟨c, z, rfl, rfl, q⟩) (fun x p ys H Q h1 h2 h3 q => Or.inr (Or.inl ⟨p, ys, rfl, h1, h2, h3, q⟩)) fun x y d ds H Q h1 h2 h3 h4 q => Or.inr (Or.inr ⟨d, ds, h1, h2, h3, h4, q⟩)
theorem opf_nin : OpF X (rNinA X.K) ninF :=
  inB_ok (fb := fun b => !b) (fun c z H Q q => Or.inl ⟨c, z, rfl, rfl, q⟩) (fun x p ys H Q h1 h2 h3 q => Or.inr (Or.inl ⟨p, ys, rfl, h1, h2, h3, q⟩)) fun x y d ds H Q h1 h2 h3 h4 q => Or.inr (Or.inr ⟨d, ds, h1, h2, h3, h4, q⟩)
theorem Body.hu65 (b : Body X W N sc k) : X.A.units + 65 < cLine := by have := b.room.un; omega
theorem pip_sub : PIp X .Sub (rI0 fun i j => .int (i - j)) := fun pins s σ H x y v u Q I rx ry ⟨i, j, e1, e2, q⟩ => ip_sub pins s σ H x y v u Q I rx ry ⟨i, j, e1, e2, q⟩
end
/-- a def of the text, where it stands, and how its arguments bind -/
def DefAt (K : PySem.W.Frag) (mg : Str → Option Value) (x : Str) (st : Stmt) (ps : List Str) : Prop :=
  ∃ (f : Addr) (fd : FuncData), FunD K x x (defArgs st) (defBody st) (defScope st) [] [] f fd ∧ mg x = some (.ref f) ∧ Binds K fd ps []
/-- the script as data -/
def scr (ns : List Int) : PV := .con .out .lst (ns.map PV.int)
/-- the end of a law row: the law's def, as a function of data, gives True -/
theorem law_end {l : PySem.W.OpenLaw} {n k : Nat} {q : Program} {loose : List Str} {XP : (Str → Option Value) → Heap → Prop} {YP : World → Heap → Prop} {d : DefRec} {x : Str}
    (hn : l.most = some n) (hn2 : n ≤ sizeLine) (hdf : d.params.defaults = []) (hr : Room k callerA)
    (F : ∀ (w : World) (mg : Str → Option Value) (fa : Addr) (h : Heap), YP w h → h.Ns mainGlobals mg → mg d.name = some (.ref fa) →
      ∃ (K : PySem.W.Frag) (f : List PV → RP) (fd : FuncData), K.In h ∧ (∀ (s : Shared) (u : Value), BindsTo s fd ⟨[u], []⟩ [(x, u)]) ∧ (∀ ns : List Int, ns.length ≤ n → f [scr ns] = .ok (.bl true)) ∧
        ∀ base : Heap, K.In base → base.Ns mainGlobals mg → FnOk l.prog w K mg base (L2.CX l.prog w) k fa fd [x] (spP ⟨K, mg⟩ f)) :
    PySem.W.WalkO q loose XP YP l.row.toRowW d [] (fun f vs => PySem.call f vs) := by
  refine Att.attach_call hn hdf fun w s₀ s₁ mg mb fa o pm cd doc a vs ns G Y ho hd hcd hmg hobj hints hlen hg => ?_
  obtain ⟨K, f, fd, KX, hb, hlaw, hF⟩ := F w mg fa _ Y G.T.g hmg
  refine law_call KX G.T.g G.T.b G.T.builtins G.T.nolimit hg hobj hints (Nat.le_trans hlen hn2) hr hF hb (fun H hO hS => ?_) fun H e s' hc => ?_
  · refine ⟨⟨fun _ => False, fun _ => False, fun _ => 0⟩, [scr ns], ?_, fun a z => ?_, ?_⟩
    · simp only [RVs, RV, scr]
      refine ⟨_, _, rfl, ⟨a, ns.map V.int, rfl, ?_, RVs.mk_ints ns⟩, rfl⟩
      rcases hS with (hS | ⟨ob, hS⟩) | hS
      · rcases hO a with e | ⟨o, xs, e⟩ <;> (rw [hS] at e; cases e)
      · exact Or.inl ⟨ob, _, rfl, hS⟩
      · exact Or.inr hS
    · rcases z with z | z <;> exact z.elim
    · rw [hlaw ns hlen]
      intro H' F' x _ rv
      simp only [RV] at rv
      exact rv
  · obtain ⟨_, _, _, _, _, _, _, _, _, _, _, _, z⟩ := hc
    exact z
end Pv
/-! Pv11: how the mirrors are reckoned: rules for simp, from the inside out. -/
namespace Pv
open PySem PySem.Spec PyProof.Rows L2
section
variable {Γ Γ' : Gam} {S S' : Sto} {a b c e : EF} {f f' : OF} {x y z : PV} {p q : PV} {i n m : Nat} {k : Bool} {t u : SF}
@[simp] theorem rbind_ok {α β : Type} {v : α} {k : α → Sto → R β} : (R.ok v S).bind k = k v S := (rfl)
@[simp] theorem rof_some {α : Type} {v : α} : R.of (some (v, S)) = .ok v S := (rfl)
@[simp] theorem rst_ok {α : Type} {v : α} {k : α → Sto → RS} : (R.ok v S).st Γ k = k v S := (rfl)
@[simp] theorem rbind_ex {α β : Type} {c : Str} {fs : List (Str × PV)} {k : α → Sto → R β} : (R.ex c fs S).bind k = .ex c fs S := (rfl)
@[simp] theorem rst_ex {α : Type} {c : Str} {fs : List (Str × PV)} {k : α → Sto → RS} : (R.ex (α := α) c fs S).st Γ k = .ex c fs Γ S := (rfl)
/-! names, constants -/
@[simp] theorem eC_eq : eC p Γ S = .ok p S := (rfl)
@[simp] theorem eV_0 {o : Gam} : eV 0 (some p :: o) S = .ok p S := (rfl)
@[simp] theorem eV_s {o : Gam} {z : Option PV} : eV (n + 1) (z :: o) S = eV n o S := (rfl)
@[simp] theorem eV_1 {o : Gam} {z : Option PV} : eV 1 (z :: o) S = eV 0 o S := (rfl)
/-! operators -/
def opK (f : OF) (b : EF) (Γ : Gam) (r : R PV) : R PV := r.bind fun x S1 => (b Γ S1).bind fun y S2 => R.of (f x y S2)
def opK2 (f : OF) (x : PV) (r : R PV) : R PV := r.bind fun y S2 => R.of (f x y S2)
@[simp] theorem eOp_eq : eOp f a b Γ S = opK f b Γ (a Γ S) := (rfl)
@[simp] theorem opK_ok : opK f b Γ (.ok x S) = opK2 f x (b Γ S) := (rfl)
@[simp] theorem opK2_ok : opK2 f x (.ok y S) = R.of (f x y S) := (rfl)
def chK (f f' : OF) (tb tc : EF) (Γ : Gam) (r : R PV) : R PV := r.bind fun x S1 => (tb Γ S1).bind fun y S2 => (R.of (f x y S2)).bind fun z S3 => match z with
  | .bl true => (tc Γ S3).bind fun w S4 => R.of (f' y w S4)
  | .bl false => .ok (.bl false) S3
  | _ => .bad
def chK2 (f f' : OF) (x : PV) (tc : EF) (Γ : Gam) (r : R PV) : R PV := r.bind fun y S2 => (R.of (f x y S2)).bind fun z S3 => match z with
  | .bl true => (tc Γ S3).bind fun w S4 => R.of (f' y w S4)
  | .bl false => .ok (.bl false) S3
  | _ => .bad
def chK3 (f' : OF) (y : PV) (tc : EF) (Γ : Gam) (r : R PV) : R PV := r.bind fun z S3 => match z with
  | .bl true => (tc Γ S3).bind fun w S4 => R.of (f' y w S4)
  | .bl false => .ok (.bl false) S3
  | _ => .bad
@[simp] theorem eChain_eq : eChain f f' a b c Γ S = chK f f' b c Γ (a Γ S) := (rfl)
@[simp] theorem chK_ok : chK f f' b c Γ (.ok x S) = chK2 f f' x c Γ (b Γ S) := (rfl)
@[simp] theorem chK2_ok : chK2 f f' x c Γ (.ok y S) = chK3 f' y c Γ (R.of (f x y S)) := (rfl)
@[simp] theorem chK3_t : chK3 f' y c Γ (.ok (.bl true) S) = opK2 f' y (c Γ S) := (rfl)
@[simp] theorem chK3_f : chK3 f' y c Γ (.ok (.bl false) S) = .ok (.bl false) S := (rfl)
def uK (f : PV → PV) (r : R PV) : R PV := r.bind fun p S1 => .ok (f p) S1
@[simp] theorem eU_eq {f : PV → PV} : eU f a Γ S = uK f (a Γ S) := (rfl)
@[simp] theorem uK_ok {f : PV → PV} : uK f (.ok p S) = .ok (f p) S := (rfl)
def negK (r : R PV) : R PV := r.bind fun v S1 => match v with
  | .int i => .ok (.int (-i)) S1
  | _ => .bad
@[simp] theorem eNeg_eq : eNeg a Γ S = negK (a Γ S) := (rfl)
@[simp] theorem negK_ok {i : Int} : negK (.ok (.int i) S) = .ok (.int (-i)) S := (rfl)
/-! tests -/
def beK (r : R PV) : R Bool := r.bind fun v S1 => match v with
  | .bl b => .ok b S1
  | _ => .bad
@[simp] theorem bE_eq : bE a Γ S = beK (a Γ S) := (rfl)
@[simp] theorem beK_ok : beK (.ok (.bl k) S) = .ok k S := (rfl)
def btK (r : R PV) : R Bool := r.bind fun v S1 => match truB S1 v with
  | some b => .ok b S1
  | none => .bad
def btK2 (S : Sto) : Option Bool → R Bool
  | some b => .ok b S
  | none => .bad
@[simp] theorem bT_eq : bT a Γ S = btK (a Γ S) := (rfl)
@[simp] theorem btK_ok : btK (.ok p S) = btK2 S (truB S p) := by unfold btK btK2; simp only [rbind_ok]
@[simp] theorem btK2_some : btK2 S (some k) = .ok k S := (rfl)
@[simp] theorem truB_bl : truB S (.bl k) = some k := (rfl)
@[simp] theorem truB_non : truB S .non = some false := (rfl)
@[simp] theorem truB_int {i : Int} : truB S (.int i) = some (decide (i ≠ 0)) := (rfl)
variable {s r : BF}
def andK (t : BF) (Γ : Gam) (r : R Bool) : R Bool := r.bind fun k S1 => if k = true then t Γ S1 else .ok false S1
def orK (t : BF) (Γ : Gam) (r : R Bool) : R Bool := r.bind fun k S1 => if k = true then .ok true S1 else t Γ S1
def notK (r : R Bool) : R Bool := r.bind fun k S1 => .ok (!k) S1
@[simp] theorem bAnd_eq : bAnd s r Γ S = andK r Γ (s Γ S) := (rfl)
@[simp] theorem bOr_eq : bOr s r Γ S = orK r Γ (s Γ S) := (rfl)
@[simp] theorem bNot_eq : bNot s Γ S = notK (s Γ S) := (rfl)
@[simp] theorem andK_t : andK r Γ (.ok true S) = r Γ S := (rfl)
@[simp] theorem andK_f : andK r Γ (.ok false S) = .ok false S := (rfl)
@[simp] theorem orK_t : orK r Γ (.ok true S) = .ok true S := (rfl)
@[simp] theorem orK_f : orK r Γ (.ok false S) = r Γ S := (rfl)
@[simp] theorem notK_ok : notK (.ok k S) = .ok (!k) S := (rfl)
def eandK (t : EF) (Γ : Gam) (r : R PV) : R PV := r.bind fun v S1 => match v with
  | .bl true => t Γ S1
  | .bl false => .ok (.bl false) S1
  | _ => .bad
def eorK (t : EF) (Γ : Gam) (r : R PV) : R PV := r.bind fun v S1 => match v with
  | .bl true => .ok (.bl true) S1
  | .bl false => t Γ S1
  | _ => .bad
def enotK (r : R PV) : R PV := r.bind fun v S1 => match v with
  | .bl k => .ok (.bl (!k)) S1
  | _ => .bad
@[simp] theorem eAnd_eq : eAnd a b Γ S = eandK b Γ (a Γ S) := (rfl)
@[simp] theorem eOr_eq : eOr a b Γ S = eorK b Γ (a Γ S) := (rfl)
@[simp] theorem eNot_eq : eNot a Γ S = enotK (a Γ S) := (rfl)
@[simp] theorem eandK_t : eandK b Γ (.ok (.bl true) S) = b Γ S := (rfl)
@[simp] theorem eandK_f : eandK b Γ (.ok (.bl false) S) = .ok (.bl false) S := (rfl)
@[simp] theorem eorK_t : eorK b Γ (.ok (.bl true) S) = .ok (.bl true) S := (rfl)
@[simp] theorem eorK_f : eorK b Γ (.ok (.bl false) S) = b Γ S := (rfl)
@[simp] theorem enotK_ok : enotK (.ok (.bl k) S) = .ok (.bl (!k)) S := (rfl)
def eifK (ta tb : EF) (Γ : Gam) (r : R Bool) : R PV := r.bind fun k S1 => if k = true then ta Γ S1 else tb Γ S1
@[simp] theorem eIf_eq : eIf s a b Γ S = eifK a b Γ (s Γ S) := (rfl)
@[simp] theorem eifK_ok : eifK a b Γ (.ok k S) = if k = true then a Γ S else b Γ S := (rfl)
/-! rows, displays, calls -/
variable {tr : AF} {ps : List PV}
def consK (r : AF) (Γ : Gam) (x : R PV) : R (List PV) := x.bind fun v S1 => (r Γ S1).bind fun vs S2 => .ok (v :: vs) S2
def consK2 (v : PV) (x : R (List PV)) : R (List PV) := x.bind fun vs S2 => .ok (v :: vs) S2
@[simp] theorem aNil_eq : aNil Γ S = .ok [] S := (rfl)
@[simp] theorem aCons_eq : aCons a tr Γ S = consK tr Γ (a Γ S) := (rfl)
@[simp] theorem consK_ok : consK tr Γ (.ok p S) = consK2 p (tr Γ S) := (rfl)
@[simp] theorem consK2_ok : consK2 p (.ok ps S) = .ok (p :: ps) S := (rfl)
def tupK (x : R (List PV)) : R PV := x.bind fun vs S1 => if vs.length ≤ sizeLine then .ok (.con .own .tup vs) S1 else .bad
def lstK (m : Bool) (x : R (List PV)) : R PV := x.bind fun vs S1 => if vs.length ≤ sizeLine then .ok (newP m .lst vs S1).1 (newP m .lst vs S1).2 else .bad
@[simp] theorem eTup_eq : eTup tr Γ S = tupK (tr Γ S) := (rfl)
@[simp] theorem eLst_eq : eLst k tr Γ S = lstK k (tr Γ S) := (rfl)
@[simp] theorem tupK_ok : tupK (.ok ps S) = if ps.length ≤ sizeLine then .ok (.con .own .tup ps) S else .bad := (rfl)
@[simp] theorem lstK_f : lstK false (.ok ps S) = if ps.length ≤ sizeLine then .ok (.con .own .lst ps) S else .bad := (rfl)
@[simp] theorem lstK_t : lstK true (.ok ps S) = if ps.length ≤ sizeLine then .ok (.ref S.length) (S ++ [some (.lst, ps)]) else .bad := (rfl)
def calK (f : CF) (x : R (List PV)) : R PV := x.bind fun ps S1 => R.of (f ps S1)
@[simp] theorem eCall_eq {f : CF} : eCall f tr Γ S = calK f (tr Γ S) := (rfl)
@[simp] theorem calK_ok {f : CF} : calK f (.ok ps S) = R.of (f ps S) := (rfl)
def calPK (f : List PV → RP) (x : R (List PV)) : R PV := x.bind fun ps S1 => match ps.mapM (lendV S1) with
  | some qs => match f qs with
    | .ok v => .ok v S1
    | .ex c fs => .ex c fs S1
    | .bad => .bad
  | none => .bad
def calPK2 (f : List PV → RP) (S : Sto) : Option (List PV) → R PV
  | some qs => match f qs with
    | .ok v => .ok v S
    | .ex c fs => .ex c fs S
    | .bad => .bad
  | none => .bad
def calPK3 (S : Sto) : RP → R PV
  | .ok v => .ok v S
  | .ex c fs => .ex c fs S
  | .bad => .bad
@[simp] theorem eCallP_eq {f : List PV → RP} : eCallP f tr Γ S = calPK f (tr Γ S) := (rfl)
@[simp] theorem calPK_ok {f : List PV → RP} : calPK f (.ok ps S) = calPK2 f S (ps.mapM (lendV S)) := by unfold calPK calPK2; simp only [rbind_ok]
@[simp] theorem calPK2_some {f : List PV → RP} {qs : List PV} : calPK2 f S (some qs) = calPK3 S (f qs) := by unfold calPK2 calPK3; rfl
@[simp] theorem calPK3_ok : calPK3 S (.ok p) = .ok p S := (rfl)
@[simp] theorem calPK3_ex {c : Str} {fs : List (Str × PV)} : calPK3 S (.ex c fs) = .ex c fs S := (rfl)
def calWK (f : List PV → Sto → R PV) (x : R (List PV)) : R PV := x.bind fun ps S1 => f ps S1
@[simp] theorem eCallW_eq {f : List PV → Sto → R PV} : eCallW f tr Γ S = calWK f (tr Γ S) := (rfl)
@[simp] theorem calWK_ok {f : List PV → Sto → R PV} : calWK f (.ok ps S) = f ps S := (rfl)
def emK (T : String) (f : MF) (r : AF) (Γ : Gam) (x : R PV) : R PV := x.bind fun p S1 => if tyP T S1 p = true then (r Γ S1).bind fun ps S2 => R.of (f p ps S2) else .bad
def emK2 (f : MF) (p : PV) (x : R (List PV)) : R PV := x.bind fun ps S2 => R.of (f p ps S2)
@[simp] theorem eM_eq {T : String} {f : MF} : eM T f a tr Γ S = emK T f tr Γ (a Γ S) := (rfl)
@[simp] theorem emK_ok {T : String} {f : MF} : emK T f tr Γ (.ok p S) = if tyP T S p = true then emK2 f p (tr Γ S) else .bad := (rfl)
@[simp] theorem emK2_ok {f : MF} : emK2 f p (.ok ps S) = R.of (f p ps S) := (rfl)
/-! statements -/
def seqK (u : SF) : RS → RS
  | .nx Γ1 S1 => u Γ1 S1
  | r => r
@[simp] theorem sSeq_eq : sSeq t u Γ S = seqK u (t Γ S) := by unfold sSeq seqK; rfl
@[simp] theorem seqK_nx : seqK u (.nx Γ S) = u Γ S := (rfl)
@[simp] theorem seqK_rt : seqK u (.rt p S) = .rt p S := (rfl)
@[simp] theorem seqK_bk : seqK u (.bk Γ S) = .bk Γ S := (rfl)
@[simp] theorem seqK_ct : seqK u (.ct Γ S) = .ct Γ S := (rfl)
@[simp] theorem seqK_ex {c : Str} {fs : List (Str × PV)} : seqK u (.ex c fs Γ S) = .ex c fs Γ S := (rfl)
@[simp] theorem sNext_eq : sNext Γ S = .nx Γ S := (rfl)
@[simp] theorem sBreak_eq : sBreak Γ S = .bk Γ S := (rfl)
def exprK (Γ : Gam) (r : R PV) : RS := r.st Γ fun _ S1 => .nx Γ S1
def retK (Γ : Gam) (r : R PV) : RS := r.st Γ fun v S1 => .rt v S1
def setK (i : Nat) (Γ : Gam) (r : R PV) : RS := r.st Γ fun v S1 => .nx (Γ.set i (some v)) S1
def ifK (t u : SF) (Γ : Gam) (r : R Bool) : RS := r.st Γ fun k S1 => if k = true then t Γ S1 else u Γ S1
@[simp] theorem sExpr_eq : sExpr a Γ S = exprK Γ (a Γ S) := (rfl)
@[simp] theorem exprK_ok : exprK Γ (.ok p S) = .nx Γ S := (rfl)
@[simp] theorem exprK_ex {c : Str} {fs : List (Str × PV)} : exprK Γ (.ex c fs S) = .ex c fs Γ S := (rfl)
@[simp] theorem sRet_eq : sRet a Γ S = retK Γ (a Γ S) := (rfl)
@[simp] theorem retK_ok : retK Γ (.ok p S) = .rt p S := (rfl)
@[simp] theorem retK_ex {c : Str} {fs : List (Str × PV)} : retK Γ (.ex c fs S) = .ex c fs Γ S := (rfl)
@[simp] theorem sSet_eq : sSet i a Γ S = setK i Γ (a Γ S) := (rfl)
@[simp] theorem setK_ok : setK i Γ (.ok p S) = .nx (Γ.set i (some p)) S := (rfl)
@[simp] theorem setK_ex {c : Str} {fs : List (Str × PV)} : setK i Γ (.ex c fs S) = .ex c fs Γ S := (rfl)
@[simp] theorem sIf_eq : sIf s t u Γ S = ifK t u Γ (s Γ S) := (rfl)
@[simp] theorem ifK_t : ifK t u Γ (.ok true S) = t Γ S := (rfl)
@[simp] theorem ifK_f : ifK t u Γ (.ok false S) = u Γ S := (rfl)
@[simp] theorem ifK_ex {c : Str} {fs : List (Str × PV)} : ifK t u Γ (.ex c fs S) = .ex c fs Γ S := (rfl)
def asgK (gt : GF) (Γ : Gam) (r : R PV) : RS := r.st Γ fun v S1 => (gt v Γ S1).st Γ fun Γ1 S2 => .nx Γ1 S2
def asgK2 (Γ : Gam) (r : R Gam) : RS := r.st Γ fun Γ1 S2 => .nx Γ1 S2
variable {gt : GF}
@[simp] theorem sAsg_eq : sAsg a gt Γ S = asgK gt Γ (a Γ S) := (rfl)
@[simp] theorem asgK_ok : asgK gt Γ (.ok p S) = asgK2 Γ (gt p Γ S) := (rfl)
@[simp] theorem asgK_ex {c : Str} {fs : List (Str × PV)} : asgK gt Γ (.ex c fs S) = .ex c fs Γ S := (rfl)
@[simp] theorem asgK2_ok : asgK2 Γ (.ok Γ' S) = .nx Γ' S := (rfl)
@[simp] theorem gN_eq : gN i p Γ S = .ok (Γ.set i (some p)) S := (rfl)
@[simp] theorem gNs_nil : gNs [] [] Γ S = .ok Γ S := (rfl)
@[simp] theorem gNs_cons {is : List Nat} : gNs (i :: is) (p :: ps) Γ S = gNs is ps (Γ.set i (some p)) S := (rfl)
@[simp] theorem gT_tup {is : List Nat} {m : Md} : gT is (.con m .tup ps) Γ S = gNs is ps Γ S := (rfl)
def subK (f : SetF) (v : PV) (ti : EF) (Γ : Gam) (r : R PV) : R Gam := r.bind fun o S1 => (ti Γ S1).bind fun i S2 => match f o i v S2 with
  | some S3 => .ok Γ S3
  | none => .bad
def subK2 (f : SetF) (v o : PV) (Γ : Gam) (r : R PV) : R Gam := r.bind fun i S2 => match f o i v S2 with
  | some S3 => .ok Γ S3
  | none => .bad
def subK3 (Γ : Gam) : Option Sto → R Gam
  | some S3 => .ok Γ S3
  | none => .bad
@[simp] theorem gSub_eq {f : SetF} : gSubF f a b p Γ S = subK f p b Γ (a Γ S) := (rfl)
@[simp] theorem subK_ok {f : SetF} : subK f p b Γ (.ok q S) = subK2 f p q Γ (b Γ S) := (rfl)
@[simp] theorem subK2_ok {f : SetF} : subK2 f p q Γ (.ok x S) = subK3 Γ (f q x p S) := by unfold subK2 subK3; simp only [rbind_ok]
@[simp] theorem subK3_some : subK3 Γ (some S) = .ok Γ S := (rfl)
def augK (i : Nat) (f : OF) (p : PV) (Γ : Gam) (r : R PV) : RS := r.st Γ fun q S1 => match f p q S1 with
  | some (v, S2) => .nx (Γ.set i (some v)) S2
  | none => .bad
def augK2 (i : Nat) (Γ : Gam) : Option (PV × Sto) → RS
  | some (v, S2) => .nx (Γ.set i (some v)) S2
  | none => .bad
@[simp] theorem augK_ok : augK i f p Γ (.ok q S) = augK2 i Γ (f p q S) := (rfl)
@[simp] theorem augK2_some : augK2 i Γ (some (p, S)) = .nx (Γ.set i (some p)) S := (rfl)
/-! loops -/
def forK (gt : GF) (t : SF) (Γ : Gam) (r : R (Stp × Nat)) : RS := r.st Γ fun q S1 => forI q.1 (sTurn gt t) q.2 0 Γ S1
@[simp] theorem sFor_eq {it : IF} : sFor it gt t Γ S = forK gt t Γ (it Γ S) := (rfl)
theorem forK_L : forK gt t Γ (.ok (stL ps, ps.length + 1) S) = forL (sTurn gt t) ps Γ S := by
  show forI (stL ps) (sTurn gt t) (ps.length + 1) 0 Γ S = _
  have := forI_L (body := sTurn gt t) ps [] Γ S
  simpa using this
def r1K (r : R (List PV)) : R (Stp × Nat) := r.bind fun ps S1 => match ps with
  | [.int n] => if -(2 ^ 62) ≤ n ∧ n < 2 ^ 62 then .ok (stL (intsF 0 n.toNat), n.toNat + 1) S1 else .bad
  | _ => .bad
@[simp] theorem iR1_eq : iR1 tr Γ S = r1K (tr Γ S) := (rfl)
def anyK (r : R PV) : R (Stp × Nat) := r.bind fun p S1 => match p with
  | .con _ .tup xs => .ok (stL xs, xs.length + 1) S1
  | .str z => .ok (stL (strs1 z), z.cps.toList.length + 1) S1
  | p => match walkB S1 p with
    | some q => .ok q S1
    | none => .bad
@[simp] theorem iAny_eq : iAny a Γ S = anyK (a Γ S) := (rfl)
@[simp] theorem anyK_tup {m : Md} : anyK (.ok (.con m .tup ps) S) = .ok (stL ps, ps.length + 1) S := (rfl)
@[simp] theorem anyK_lst {m : Md} : anyK (.ok (.con m .lst ps) S) = .ok (stL ps, ps.length + 1) S := (rfl)
@[simp] theorem anyK_str {z : Str} : anyK (.ok (.str z) S) = .ok (stL (strs1 z), (strs1 z).length + 1) S := by
  show R.ok _ _ = _
  rw [show (strs1 z).length = z.cps.toList.length from List.length_map ..]
@[simp] theorem sTurn_N {i : Nat} : sTurn (gN i) t p Γ S = t (Γ.set i (some p)) S := (rfl)
@[simp] theorem forL_nil {body : PV → SF} : forL body [] Γ S = .nx Γ S := (rfl)
def forK2 (body : PV → SF) (ps : List PV) : RS → RS
  | .nx Γ1 S1 => forL body ps Γ1 S1
  | .ct Γ1 S1 => forL body ps Γ1 S1
  | .bk Γ1 S1 => .nx Γ1 S1
  | r => r
@[simp] theorem forK2_nx {body : PV → SF} : forK2 body ps (.nx Γ S) = forL body ps Γ S := (rfl)
@[simp] theorem forK2_ct {body : PV → SF} : forK2 body ps (.ct Γ S) = forL body ps Γ S := (rfl)
@[simp] theorem forK2_bk {body : PV → SF} : forK2 body ps (.bk Γ S) = .nx Γ S := (rfl)
@[simp] theorem forK2_rt {body : PV → SF} : forK2 body ps (.rt p S) = .rt p S := (rfl)
@[simp] theorem forK2_ex {body : PV → SF} {c : Str} {fs : List (Str × PV)} : forK2 body ps (.ex c fs Γ S) = .ex c fs Γ S := (rfl)
/-! by values -/
@[simp] theorem deref_con {m : Md} {k : Kd} : deref S (.con m k ps) = some (k, ps) := (rfl)
@[simp] theorem deref_ref : deref S (.ref n) = S[n]?.join := (rfl)
@[simp] theorem derefH_own {k : Kd} : derefH S (.con .own k ps) = some (k, ps) := (rfl)
@[simp] theorem derefH_lent {k : Kd} : derefH S (.con .lent k ps) = some (k, ps) := (rfl)
@[simp] theorem derefH_ref : derefH S (.ref n) = S[n]?.join := (rfl)
@[simp] theorem iOp0_int {f : Int → Int → PV} {i j : Int} : iOp0 f (.int i) (.int j) S = some (f i j, S) := (rfl)
@[simp] theorem iOp_int {C : Int → Int → Prop} [∀ i j, Decidable (C i j)] {f : Int → Int → PV} {i j : Int} : iOp C f (.int i) (.int j) S = if C i j then some (f i j, S) else none := (rfl)
@[simp] theorem addF_int {i j : Int} : addF k (.int i) (.int j) S = some (.int (i + j), S) := (rfl)
@[simp] theorem addF_str {i j : Str} : addF k (.str i) (.str j) S = if i.length + j.length ≤ sizeLine then some (.str (i ++ j), S) else none := (rfl)
@[simp] theorem mulF_int {i j : Int} : mulF k (.int i) (.int j) S = if CMul i j then some (.int (i * j), S) else none := (rfl)
@[simp] theorem eqF_int {i j : Int} : eqF (.int i) (.int j) S = some (.bl (decide (i = j)), S) := (rfl)
@[simp] theorem eqF_str {i j : Str} : eqF (.str i) (.str j) S = some (.bl (decide (i = j)), S) := (rfl)
@[simp] theorem eqF_bl {i j : Bool} : eqF (.bl i) (.bl j) S = some (.bl (decide (i = j)), S) := (rfl)
@[simp] theorem neF_int {i j : Int} : neF (.int i) (.int j) S = some (.bl (!decide (i = j)), S) := (rfl)
@[simp] theorem neF_str {i j : Str} : neF (.str i) (.str j) S = some (.bl (!decide (i = j)), S) := (rfl)
@[simp] theorem neF_bl {i j : Bool} : neF (.bl i) (.bl j) S = some (.bl (!decide (i = j)), S) := (rfl)
def ofO (S : Sto) : Option PV → Option (PV × Sto)
  | some v => some (v, S)
  | none => none
@[simp] theorem ofO_some : ofO S (some p) = some (p, S) := (rfl)
@[simp] theorem ixF_eq : ixF p q S = ofO S (ixB S p q) := by unfold ixF ofO <;> cases ixB S p q <;> rfl
@[simp] theorem ixB_lst {i : Int} {m : Md} : ixB S (.con m .lst ps) (.int i) = atI ps i := (rfl)
@[simp] theorem ixB_tup {i : Int} {m : Md} : ixB S (.con m .tup ps) (.int i) = atI ps i := (rfl)
def ixD (i : Int) : Option (Kd × List PV) → Option PV
  | some (.lst, xs) => atI xs i
  | some (.tup, xs) => atI xs i
  | _ => none
@[simp] theorem ixB_refD {i : Int} : ixB S (.ref n) (.int i) = ixD i S[n]?.join := by unfold ixB ixD; simp only [deref_ref] <;> rcases S[n]?.join with _ | ⟨k', xs'⟩ <;> first | rfl | (cases k' <;> rfl)
@[simp] theorem ixD_lst {i : Int} : ixD i (some (.lst, ps)) = atI ps i := (rfl)
def lenD (S : Sto) : Option (Kd × List PV) → Option (PV × Sto)
  | some (.lst, xs) => some (.int xs.length, S)
  | some (.tup, xs) => some (.int xs.length, S)
  | _ => none
@[simp] theorem lenF_refD : lenF [.ref n] S = lenD S S[n]?.join := by unfold lenF lenD; simp only [deref_ref] <;> rcases S[n]?.join with _ | ⟨k', xs'⟩ <;> first | rfl | (cases k' <;> rfl)
@[simp] theorem lenD_lst : lenD S (some (.lst, ps)) = some (.int ps.length, S) := (rfl)
def setD (n : Nat) (k : Int) (v : PV) (S : Sto) : Option (Kd × List PV) → Option Sto
  | some (.lst, xs) => (ixN xs.length k).map fun j => S.set n (some (.lst, xs.set j v))
  | _ => none
@[simp] theorem setLF_refD {i : Int} : setLF (.ref n) (.int i) p S = setD n i p S S[n]?.join := by unfold setLF setD; dsimp only <;> rcases S[n]?.join with _ | ⟨k', xs'⟩ <;> first | rfl | (cases k' <;> rfl)
@[simp] theorem setD_lst {i : Int} : setD n i p S (some (.lst, ps)) = (ixN ps.length i).map fun j => S.set n (some (.lst, ps.set j p)) := (rfl)
def lstD (f : List PV → List PV → Option (PV × List PV)) (n : Nat) (qs : List PV) (S : Sto) : Option (Kd × List PV) → Option (PV × Sto)
  | some (.lst, xs) => (f xs qs).map fun q => (q.1, S.set n (some (.lst, q.2)))
  | _ => none
@[simp] theorem lstF_refD {f : List PV → List PV → Option (PV × List PV)} {qs : List PV} : lstF f (.ref n) qs S = lstD f n qs S S[n]?.join := by unfold lstF lstD; dsimp only <;> rcases S[n]?.join with _ | ⟨k', xs'⟩ <;> first | rfl | (cases k' <;> rfl)
@[simp] theorem lstD_lst {f : List PV → List PV → Option (PV × List PV)} {qs : List PV} : lstD f n qs S (some (.lst, ps)) = (f ps qs).map fun q => (q.1, S.set n (some (.lst, q.2))) := (rfl)
@[simp] theorem appendF_eq : appendF = lstF fun xs ps => match ps with
  | [v] => if xs.length < sizeLine then some (.non, xs ++ [v]) else none
  | _ => none := rfl
@[simp] theorem popF_eq : popF = lstF fun xs ps => match ps with
  | [] => (xs[xs.length - 1]?).map fun v => (v, xs.dropLast)
  | _ => none := rfl
def tyD (T : String) : Option (Kd × List PV) → Bool
  | some (.lst, _) => T == "list"
  | _ => false
@[simp] theorem tyP_refD {T : String} : tyP T S (.ref n) = tyD T S[n]?.join := by unfold tyP tyD; simp only [deref_ref] <;> rcases S[n]?.join with _ | ⟨k', xs'⟩ <;> first | rfl | (cases k' <;> rfl)
@[simp] theorem tyD_lst {T : String} : tyD T (some (.lst, ps)) = (T == "list") := (rfl)
@[simp] theorem lenF_lst {m : Md} : lenF [.con m .lst ps] S = some (.int ps.length, S) := (rfl)
@[simp] theorem lenF_tup {m : Md} : lenF [.con m .tup ps] S = some (.int ps.length, S) := (rfl)
@[simp] theorem lenF_str {z : Str} : lenF [.str z] S = if z.length ≤ sizeLine then some (.int z.length, S) else none := (rfl)
@[simp] theorem int1F_int {i : Int} : int1F [.int i] S = some (.int i, S) := (rfl)
@[simp] theorem absF_int {i : Int} : absF [.int i] S = some (.int (if i < 0 then -i else i), S) := (rfl)
@[simp] theorem tyP_str {z : Str} : tyP "str" S (.str z) = true := (rfl)
/-! the ends of defs -/
def ruwK : RS → R PV
  | .nx _ S' => .ok .non S'
  | .rt v S' => .ok v S'
  | .ex c fs _ S' => .ex c fs S'
  | _ => .bad
theorem runW_eq {np n : Nat} {body : SF} (h : ps.length = np) : runW np n body ps S = ruwK (body (ps.map some ++ List.replicate (n - ps.length) none) S) := by
  unfold runW ruwK; rw [if_pos h] <;> cases body (ps.map some ++ List.replicate (n - ps.length) none) S <;> rfl
@[simp] theorem ruwK_nx : ruwK (.nx Γ S) = .ok .non S := (rfl)
@[simp] theorem ruwK_rt : ruwK (.rt p S) = .ok p S := (rfl)
@[simp] theorem ruwK_ex {c : Str} {fs : List (Str × PV)} : ruwK (.ex c fs Γ S) = .ex c fs S := (rfl)
def rupK : RS → RP
  | .nx _ _ => .ok .non
  | .rt v S => resP S v
  | .ex c fs _ S => if cleans (fs.map (·.2)) = true then .ex c fs else .bad
  | _ => .bad
@[simp] theorem rupK_nx : rupK (.nx Γ S) = .ok .non := (rfl)
@[simp] theorem rupK_rt : rupK (.rt p S) = resP S p := (rfl)
@[simp] theorem rupK_ex {c : Str} {fs : List (Str × PV)} : rupK (.ex c fs Γ S) = if cleans (fs.map (·.2)) = true then .ex c fs else .bad := (rfl)
@[simp] theorem resP_bl : resP S (.bl k) = .ok (.bl k) := (rfl)
@[simp] theorem resP_int {i : Int} : resP S (.int i) = .ok (.int i) := (rfl)
@[simp] theorem resP_str {z : Str} : resP S (.str z) = .ok (.str z) := (rfl)
@[simp] theorem resP_non : resP S .non = .ok .non := (rfl)
@[simp] theorem lend_int {i : Int} : lendV S (.int i) = some (.int i) := (rfl)
@[simp] theorem lend_str {z : Str} : lendV S (.str z) = some (.str z) := (rfl)
@[simp] theorem lend_bl : lendV S (.bl k) = some (.bl k) := (rfl)
@[simp] theorem lend_non : lendV S .non = some .non := (rfl)
theorem szl : (sizeLine : Nat) = 16777216 := rfl
end
end Pv
namespace Pv
open PySem PySem.Spec PyProof.Rows L2
/-! Plain tools: comprehensions as folds, the frames of a store. -/
/-- one turn of a comprehension: what is kept -/
def lcT (gt : GF) (tt : BF) (te : EF) (Γ : Gam) (p : PV) (S : Sto) : R (Option PV) := match gt p Γ S with
  | .ok Γ1 S1 => match tt Γ1 S1 with
    | .ok true S2 => match te Γ1 S2 with
      | .ok v S3 => .ok (some v) S3
      | _ => .bad
    | .ok false S2 => .ok none S2
    | _ => .bad
  | _ => .bad
def lcL (f : PV → Sto → R (Option PV)) : List PV → List PV → Sto → R (List PV)
  | [], acc, S => .ok acc S
  | p :: ps, acc, S => match f p S with
    | .ok (some v) S1 => if acc.length < sizeLine then lcL f ps (acc ++ [v]) S1 else .bad
    | .ok none S1 => lcL f ps acc S1
    | _ => .bad
theorem lcI_L {gt : GF} {tt : BF} {te : EF} {Γ : Gam} : ∀ (ps qs acc : List PV) (S : Sto), lcI (stL (qs ++ ps)) gt tt te Γ (ps.length + 1) qs.length acc S = lcL (lcT gt tt te Γ) ps acc S
  | [], qs, acc, S => by
    simp only [List.append_nil, List.length_nil, lcI, stL, lcL]
    rw [List.getElem?_eq_none (Nat.le_refl _)]
  | p :: ps, qs, acc, S => by
    have hd : (qs ++ p :: ps)[qs.length]? = some p := by simp
    have ih := fun a S' => lcI_L (gt := gt) (tt := tt) (te := te) (Γ := Γ) ps (qs ++ [p]) a S'
    simp only [List.append_assoc, List.cons_append, List.nil_append, List.length_append, List.length_cons, List.length_nil, Nat.zero_add] at ih
    rw [List.length_cons, lcI, lcL]
    simp only [stL]
    rw [hd]
    simp only [lcT]
    rcases gt p Γ S with ⟨Γ1, S1⟩ | _ | _ <;> try rfl
    dsimp only
    rcases tt Γ1 S1 with ⟨b, S2⟩ | _ | _ <;> try rfl
    cases b with
    | false => exact ih acc S2
    | true =>
      dsimp only
      rcases te Γ1 S2 with ⟨v, S3⟩ | _ | _ <;> try rfl
      dsimp only
      split
      · exact ih _ _
      · rfl
def lcK (mu : Bool) (gt : GF) (tt : BF) (te : EF) (Γ : Gam) (r : R (Stp × Nat)) : R PV := r.bind fun q S1 => (lcI q.1 gt tt te Γ q.2 0 [] S1).bind fun acc S2 => .ok (newP mu .lst acc S2).1 (newP mu .lst acc S2).2
def lcK2 (mu : Bool) : R (List PV) → R PV
  | .ok acc S2 => .ok (newP mu .lst acc S2).1 (newP mu .lst acc S2).2
  | .ex c fs S => .ex c fs S
  | .bad => .bad
variable {mu : Bool} {it : IF} {gt : GF} {tt : BF} {te : EF} {vs : List Nat} {Γ : Gam} {S : Sto} {ps acc : List PV}
@[simp] theorem eLc_eq : eLc mu it gt tt te vs Γ S = lcK mu gt tt te (wipeG Γ vs) (it Γ S) := (rfl)
@[simp] theorem lcK_L : lcK mu gt tt te Γ (.ok (stL ps, ps.length + 1) S) = lcK2 mu (lcL (lcT gt tt te Γ) ps [] S) := by
  have := lcI_L (gt := gt) (tt := tt) (te := te) (Γ := Γ) ps [] [] S
  simp only [List.nil_append, List.length_nil] at this
  unfold lcK lcK2
  simp only [rbind_ok]
  rw [this]
  cases lcL (lcT gt tt te Γ) ps [] S <;> rfl
@[simp] theorem lcK_L2 {m : Nat} (h : m = ps.length + 1) : lcK mu gt tt te Γ (.ok (stL ps, m) S) = lcK2 mu (lcL (lcT gt tt te Γ) ps [] S) := by subst h; exact lcK_L
@[simp] theorem forK_L2 {t : SF} {m : Nat} (h : m = ps.length + 1) : forK gt t Γ (.ok (stL ps, m) S) = forL (sTurn gt t) ps Γ S := by subst h; exact forK_L
@[simp] theorem lcK2_f : lcK2 false (.ok acc S) = .ok (.con .own .lst acc) S := (rfl)
@[simp] theorem lcK2_t : lcK2 true (.ok acc S) = .ok (.ref S.length) (S ++ [some (.lst, acc)]) := (rfl)
@[simp] theorem wipeG_nil : wipeG Γ [] = Γ := (rfl)
@[simp] theorem wipeG_cons {v : Nat} : wipeG Γ (v :: vs) = (wipeG Γ vs).set v none := (rfl)
@[simp] theorem newP_f {k : Kd} : newP false k ps S = (.con .own k ps, S) := (rfl)
@[simp] theorem newP_t {k : Kd} : newP true k ps S = (.ref S.length, S ++ [some (k, ps)]) := (rfl)
end Pv
namespace Pv
open PySem PySem.Spec PyProof.Rows L2
/-! Exceptions: raise, try. -/
variable {X : Cx} {W : WX} {K : PySem.W.Frag} {mg : Str → Option Value}
/-- an exception class of the program over ValueError, without an own __init__ -/
structure ExcC (K : PySem.W.Frag) (mg : Str → Option Value) (x : Str) (C : Addr) : Prop where
  g : mg x = some (.ref C)
  q : PySem.W.excIn K C He.veBase "ValueError.__new__" = true
  k : PySem.W.keepIn K (.ref C) = true
  b : PySem.W.subIn K (.ref C) (.type "BaseException") = some true
  t : PySem.W.typeIn K (.ref C) = some (.type "type")
theorem pmk_own0 {x : Str} {C : Addr} {p pos : Pos} (T : ExcC X.K X.mg x C) (hg : Gl X x) (hdb : (x == ("__debug__" : Str)) = false := by decide) :
    PMk X (.Call (.Name x p) [] [] pos) (fun _ H Q => Q (.ref C) none H) := by
  intro pins s σ H Q I h
  refine wpAny_Call_Name_kw (ld_glob I hg T.g ?_ hdb)
  refine PySem.W.callWith_K0 I.kIn T.k ?_
  show wpAny _ _ (call (.ref C) []) _ _ _
  obtain ⟨bm, N, nm, qn, bs, hdct, sn, sub, ab, col, dd, k0, k1, k2, k3, k5, mN, hC, hN, hni, T'⟩ := exc_obj I.kIn T.q
  refine wpAny_call_exc_subT F.excBase_ValueError T' hC hN hni (fun h' e hm => ?_) (Nat.zero_le _)
  exact mk_of I hm (raises_own T.b T.t) h (I.hok.gone hm.new)
def sRaise0 (x : Str) : SF := fun Γ S => .ex x [] Γ S
theorem St.raise0 {x : Str} {C : Addr} {p pos pos2 : Pos} (hc : X.calm = true) (tk : Takes X W) (T : ExcC X.K X.mg x C) (hg : Gl X x) (hdb : (x == ("__debug__" : Str)) = false := by decide) :
    St X W (.Raise (some (.Call (.Name x p) [] [] pos)) none pos2) (sRaise0 x) :=
  ps_imp (ps_raise hc tk (pmk_own0 T hg hdb)) fun D σ H ⟨g, Γ, S, rel, rg, ok⟩ => ok g H σ (.ref C) none (Ext.refl rel) rg ⟨T.g, Or.inl ⟨rfl, rfl⟩⟩
/-- what __init__ leaves: its arguments as fields -/
def spIni1 (C : Addr) (f : Str) : Sp := fun vs H Q _ => ∃ a w, vs = [.ref a, w] ∧ H a = some (exo a C none) ∧ ∀ d, H d = none → d ≠ a → Q .non (upd (upd H d (exd d [(f, w)])) a (exo a C (some d)))
/-- an exception class whose __init__ keeps its argument in field f -/
structure ExcI (P : Program) (w : World) (K : PySem.W.Frag) (mg : Str → Option Value) (base : Heap) (x f : Str) (C : Addr) : Prop where
  g : mg x = some (.ref C)
  o : OexC K C
  i : ∃ fI fd ps, PySem.W.findIn K (.ref C) "__init__" = some (some (.ref fI)) ∧ PySem.W.typeIn K (.ref fI) = some (.type "function") ∧ FnOk P w K mg base CX0 1 fI fd ps (spIni1 C f) ∧ Binds K fd ps []
theorem Ext.laid {Y : Kx} {H : Hp} {g : G} {S : Sto} {d : Addr} {o : HO} (rel : Rel Y H g S) (hd : H d = none) : Ext Y H g S (upd H d o) g S := by
  have ne : ∀ {a u}, H a = some u → a ≠ d := fun h z => by rw [z, hd] at h; cases h
  have fr : ∀ a u, H a = some u → upd H d o a = some u := fun a u h => by rw [upd_ne (ne h)]; exact h
  have up : Up H g S.length (upd H d o) g S.length := ⟨fun a u h _ => fr a u h, fun _ h => h, fun _ h => h, fun _ _ => rfl, Nat.le_refl _⟩
  refine ⟨⟨fun n k xs e => ?_, rel.inj, rel.fF, rel.fT, fun a h => ?_⟩, fun a u h _ => fr a u h, fun n h => Or.inl ⟨h, rfl⟩, fun _ _ => rfl, Nat.le_refl _, fun _ h => h, rfl, fun a u h => ⟨u, fr a u h⟩, fun _ h => Or.inl h⟩
  · obtain ⟨u, vs, h1, h2, h3, h4⟩ := rel.ob n k xs e
    exact ⟨u, vs, fr _ _ h1, h2, h3, RVs.mono up _ _ h4⟩
  · obtain ⟨u, h1⟩ := rel.tr a h
    exact ⟨u, fr _ _ h1⟩
def sRaise1 (x f : Str) (tr : AF) : SF := fun Γ S => (tr Γ S).st Γ fun vs S1 => match vs with
  | [v] => .ex x [(f, v)] Γ S1
  | _ => .bad
theorem St.raise1 {x f : Str} {C : Addr} {k : Nat} {e : Expr} {tr : AF} {p pos pos2 : Pos} (hc : X.calm = true) (tk : Takes X W) (T : ExcI X.prog X.w X.K X.mg X.base x f C) (hr : Room k X.A) (hk : 2 ≤ k) (hg : Gl X x) (ha : A X W [e] tr) (hdb : (x == ("__debug__" : Str)) = false := by decide)
    (hs : starEach (e :: []) X.env = (false, eval e X.env) :: starEach [] X.env := by rfl) (hpl : (backTo pos (starEach [] X.env)).any (·.1) = false := by rfl) :
    St X W (.Raise (some (.Call (.Name x p) [e] [] pos)) none pos2) (sRaise1 x f tr) := by
  obtain ⟨fI, fd, ps, i1, i2, F1, hb⟩ := T.i
  refine ps_imp (ps_raise hc tk (pmk_oex T.o i1 i2 F1 (hr.mono hk) hb (.nil) pass0 hg T.g ha hdb hs hpl)) fun D σ H q => ?_
  obtain ⟨g, Γ, S, rel, rg, ok⟩ := q
  refine ⟨g, Γ, S, rel, rg, OKw.mono (OKs.st rel rg ok) fun vs S1 g1 H1 _ e1 h1 xs rx => ?_⟩
  split at h1
  · rename_i v
    simp only [RVs] at rx
    obtain ⟨x1, _, rfl, h2, rfl⟩ := rx
    refine ⟨by simp, fun a ha => ⟨a, x1, rfl, upd_same, fun d hd hda => ⟨rfl, d, [(f, x1)], upd_same, ?_, ?_, ?_⟩⟩⟩
    · rw [upd_ne hda, upd_same]
    · rw [upd_ne hda] at hd; exact hd
    · have hd1 : H1 d = none := by rw [upd_ne hda] at hd; exact hd
      have eH : upd (del (upd (upd (upd H1 a (exo a C none)) d (exd d [(f, x1)])) a (exo a C (some d))) a) d (.xd [(f, x1)]) = upd H1 d (.xd [(f, x1)]) := by
        funext b
        by_cases hb : b = d
        · subst hb; rw [upd_same, upd_same]
        · rw [upd_ne hb, upd_ne hb]
          by_cases hba : b = a
          · subst hba; rw [del_same, ha]
          · rw [del_ne hba, upd_ne hba, upd_ne hb, upd_ne hba]
      rw [eH]
      have e2 : Ext X H1 g1 S1 (upd H1 d (.xd [(f, x1)])) g1 S1 := Ext.laid e1.rel hd1
      refine h1 g1 _ σ (.ref C) (some d) e2 ((rg.up rel e1).up e1.rel e2) ⟨T.g, Or.inr ⟨d, [x1], rfl, upd_same, ?_⟩⟩
      simp only [List.map_cons, List.map_nil, RVs]
      exact ⟨x1, [], rfl, RV.up e1.rel e2 _ _ h2, rfl⟩
  · exact h1.elim
/-- the def __init__ that keeps its argument -/
theorem ini1_ok {P : Program} {w : World} {base : Heap} {qual : Str} {st : Stmt} {dvs : List V} {kws : List (Str × V)} {fI : Addr} {fd : FuncData} {f : Str} {C : Addr} {p1 p2 p3 p4 p5 p6 : Pos}
    (F : FunD K "__init__" qual (defArgs st) (defBody st) (defScope st) dvs kws fI fd) (S : FnScope ["self", f] ["self", f] (defScope st)) (hb : defBody st = [.Assign [.Attribute (.Name "self" p1) f p2] (.Name f p3) p4])
    (l1 : slC ["self", f] (defScope st) 0 "self" = true) (l2 : slC ["self", f] (defScope st) 1 f = true) (o : OexC K C) (no : PySem.W.findIn K (.ref C) f = some none) : FnOk P w K mg base CX0 1 fI fd ["self", f] (spIni1 C f) := by
  refine F.ok S (fun vs H Q E ⟨a, x, e, _⟩ => by rw [e]; rfl) (fun cdv A outer s H vs Q E hr ⟨a, x, e, h1, h2⟩ => ?_)
  subst e
  refine ⟨tOst K f (tVar 0) (tVar 1), ?_, ?_⟩
  · rw [hb]
    obtain ⟨a1, a2, a3, a4⟩ := slC_ok l1
    obtain ⟨b1, b2, b3, b4⟩ := slC_ok l2
    exact pss_one (ps_ost (pe_var (i := 0) a1 a2 a3 a4) (pe_var (i := 1) b1 b2 b3 b4))
  · exact ⟨_, rfl, _, rfl, a, C, rfl, o, no, Or.inl ⟨h1, fun dx k1 k2 => h2 dx k1 k2⟩⟩
/-! try -/
/-- nothing may be raised -/
abbrev WN : WX := fun _ _ _ _ => False
def sPick : List (List (Str × Bool) × SF) → Str → Option (Option SF)
  | [], _ => some none
  | (t, u) :: r, c => match t.lookup c with
    | none => none
    | some true => some (some u)
    | some false => sPick r c
def sTry (t : SF) (l : List (List (Str × Bool) × SF)) : SF := fun Γ S => match t Γ S with
  | .ex c fs Γ1 S1 => match sPick l c with
    | none => .bad
    | some none => .ex c fs Γ1 S1
    | some (some u) => match u Γ1 S1 with
      | .ex _ _ _ _ => .bad
      | r => r
  | r => r
/-- the clauses: the classes that each one knows -/
inductive Hds (X : Cx) : List ExceptHandler → List (List (Str × Bool) × SF) → Prop
  | nil : Hds X [] []
  | cons {x : Str} {C : Addr} {tbl : List (Str × Bool)} {t : SF} {b₀ : Stmt} {suite : List Stmt} {np pos' : Pos} {hds : List ExceptHandler} {l : List (List (Str × Bool) × SF)} (hg : Gl X x) (hdb : (x == ("__debug__" : Str)) = false) (hm : X.mg x = some (.ref C))
      (ht : ∀ c b cls, tbl.lookup c = some b → X.mg c = some cls → PySem.W.exmOne X.K cls (.ref C) = some b)
      (hs : ∀ a oe pn, Ss (X.suite a ((a, oe) :: pn)) WN (b₀ :: suite) t) (r : Hds X hds l) :
      Hds X (.ExceptHandler (some (.Name x np)) none (b₀ :: suite) pos' :: hds) ((tbl, t) :: l)
theorem Hds.ok {hds : List ExceptHandler} {l : List (List (Str × Bool) × SF)} (h : Hds X hds l) : ∃ l', HdsOk X hds l' ∧ ∀ (c : Str) (fs : List (Str × PV)) (Γ : Gam) (S : Sto) (D : Ends) (H : Hp) (g : G) (σ : L2.St) (cls : Value) (d : Option Addr),
    Rel X H g S → RG X H g S.length Γ σ → RX X H g S.length c fs cls d → (match sPick l c with
      | none => False
      | some none => W cls d σ H
      | some (some u) => OKs X WN D H g S (u Γ S)) → wMany X.K W D l' cls d σ H := by
  induction h with
  | nil => exact ⟨[], .nil, fun c fs Γ S D H g σ cls d rel rg rx k => k⟩
  | cons hg hdb hm ht hs r ih =>
    rename_i x C tbl t b₀ suite np pos' hds l
    obtain ⟨l', h1, h2⟩ := ih
    refine ⟨(.ref C, fun a cls d => liftS X WN t) :: l', .cons ⟨hg, hdb, Or.inl hm⟩ (fun a oe cls d pn _ _ => hs a oe pn) h1, fun c fs Γ S D H g σ cls d rel rg rx k => ?_⟩
    unfold sPick at k
    cases e : tbl.lookup c with
    | none => rw [e] at k; exact k.elim
    | some b =>
      rw [e] at k
      refine ⟨b, ht c b cls e rx.1, fun hb a ha => ?_, fun hb => ?_⟩
      · subst hb; exact ⟨g, Γ, S, rel, rg, k⟩
      · subst hb; exact h2 c fs Γ S D H g σ cls d rel rg rx k
theorem Body.tr {N : List Str} {sc : Scope} {k : Nat} (b : Body X W N sc k) {W' : WX} {pn : List (Addr × Obj)} {xe : Value → Shared → Prop} (tk : Takes (X.tr pn xe) W') (po : PassesOwn (model X.prog X.w) X.A X.env xe) : Body (X.tr pn xe) W' N sc k :=
  ⟨b.hN, b.sc, b.calm, b.fn, b.room, tk, po, b.hs, b.hf⟩
end Pv
namespace Pv
open PySem PySem.Spec PyProof.Rows L2
/-! what the head says of exception classes -/
theorem excB_ok {K : PySem.W.Frag} {h : Heap} {mg : Str → Option Value} {x : Str} (Y : K.In h) (G : h.Ns mainGlobals mg) (c : excB K x = true) : ExcC K mg x (He.ga K x) := by
  obtain ⟨c1, c2⟩ := He.ba c
  obtain ⟨e1, e2, e3, e4⟩ := He.exc_ok c1
  exact ⟨He.glo_ok Y G c2, e1, e2, e3, e4⟩
/-- the clause «except y»: what it says of errors of the named classes -/
def ExmT (K : PySem.W.Frag) (mg : Str → Option Value) (y : Str) (tbl : List (Str × Bool)) : Prop := mg y = some (.ref (He.ga K y)) ∧ ∀ c b cls, tbl.lookup c = some b → mg c = some cls → PySem.W.exmOne K cls (.ref (He.ga K y)) = some b
theorem exmB_ok {K : PySem.W.Frag} {h : Heap} {mg : Str → Option Value} {y : Str} {tbl : List (Str × Bool)} (Y : K.In h) (G : h.Ns mainGlobals mg) (c : exmB K y tbl = true) : ExmT K mg y tbl := by
  obtain ⟨c1, c2⟩ := He.ba c
  refine ⟨He.glo_ok Y G c1, fun x b cls e m => ?_⟩
  have hm : (x, b) ∈ tbl := by
    clear c c2
    induction tbl with
    | nil => cases e
    | cons q r ih =>
      obtain ⟨q1, q2⟩ := q
      rw [List.lookup_cons] at e
      split at e
      · rename_i z
        cases e
        rw [eq_of_beq z]
        exact List.mem_cons_self
      · exact List.mem_cons_of_mem _ (ih e)
  obtain ⟨z1, z2⟩ := He.ba (List.all_eq_true.mp c2 _ hm)
  have := He.glo_ok Y G z2
  rw [this] at m
  cases m
  exact He.exm_ok z1
structure OexF (K : PySem.W.Frag) (mg : Str → Option Value) (x f : Str) : Prop where
  g : mg x = some (.ref (He.ga K x))
  o : OexC K (He.ga K x)
  no : PySem.W.findIn K (.ref (He.ga K x)) f = some none
  i : PySem.W.findIn K (.ref (He.ga K x)) "__init__" = some (some (.ref (He.ma K (He.ga K x) "__init__")))
  t : PySem.W.typeIn K (.ref (He.ma K (He.ga K x) "__init__")) = some (.type "function")
theorem oexB_ok {K : PySem.W.Frag} {h : Heap} {mg : Str → Option Value} {x f : Str} (Y : K.In h) (G : h.Ns mainGlobals mg) (c : oexB K x f = true) : OexF K mg x f := by
  obtain ⟨c1, c⟩ := He.ba c
  obtain ⟨c2, c⟩ := He.ba c
  obtain ⟨c3, c⟩ := He.ba c
  obtain ⟨c4, c⟩ := He.ba c
  obtain ⟨c5, c⟩ := He.ba c
  obtain ⟨c6, c⟩ := He.ba c
  obtain ⟨c7, c⟩ := He.ba c
  obtain ⟨c8, c9⟩ := He.ba c
  refine ⟨He.glo_ok Y G c2, ⟨?_, of_decide_eq_true c6, of_decide_eq_true c7, of_decide_eq_true c8, c5⟩, He.noat_ok c3, (He.meth_ok c4).1, of_decide_eq_true c9⟩
  unfold oexO at c1
  split at c1
  · rename_i dd cd sl ho
    split at c1
    · rename_i C' bm k0 k1 k2 k3 n k5 hm hs
      simp only [Bool.and_eq_true, decide_eq_true_eq, Bool.not_eq_true'] at c1
      obtain ⟨hc, hn, hd', hdel, ht⟩ := c1
      subst hc hn
      obtain ⟨nm, bs, mro, ns, qn, hd, sn, sub, ab, col, del⟩ := cd
      dsimp only at hm hdel hd'
      subst hm hdel hd'
      have hsl : sl = #[k0, k1, k2, k3, some (.builtin "ValueError.__new__"), k5] := by
        obtain ⟨l⟩ := sl
        simp only at hs
        rw [hs]
      subst hsl
      exact ⟨nm, qn, ns, bs, bm, sn, sub, ab, col, dd, k0, k1, k2, k3, k5, ho, ht⟩
    · cases c1
  · cases c1
/-- the whole of it, with the def __init__ -/
theorem OexF.ok {P : Program} {w : World} {K : PySem.W.Frag} {mg : Str → Option Value} {base : Heap} {x f qual : Str} (T : OexF K mg x f) {st : Stmt} {dvs : List V} {kws : List (Str × V)} {fd : FuncData} {p1 p2 p3 p4 : Pos}
    (F : FunD K "__init__" qual (defArgs st) (defBody st) (defScope st) dvs kws (He.ma K (He.ga K x) "__init__") fd) (bn : Binds K fd ["self", f] []) (S : FnScope ["self", f] ["self", f] (defScope st)) (hb : defBody st = [.Assign [.Attribute (.Name "self" p1) f p2] (.Name f p3) p4])
    (l1 : slC ["self", f] (defScope st) 0 "self" = true) (l2 : slC ["self", f] (defScope st) 1 f = true) : ExcI P w K mg base x f (He.ga K x) :=
  ⟨T.g, T.o, _, fd, ["self", f], T.i, T.t, ini1_ok (p1 := p1) (p2 := p2) (p3 := p3) (p4 := p4) (p5 := p1) (p6 := p1) F S hb l1 l2 T.o T.no, bn⟩
end Pv
namespace Pv
open PySem
end Pv
namespace Pv
open PySem PySem.Spec PyProof.Rows L2
/-! Taking a list apart; slices; o[i] op= e. -/
variable {X : Cx} {W : WX} {K : PySem.W.Frag} {mg : Str → Option Value}
/-- a, b, .. = a tuple or a list -/
def gU (is : List Nat) : GF := fun p Γ S => match deref S p with
  | some (.tup, xs) => gNs is xs Γ S
  | some (.lst, xs) => gNs is xs Γ S
  | _ => .bad
theorem Tg.un {es : List Expr} {pos : Pos} {is : List Nat} {k n : Nat} (hc : X.calm = true) (h : PGs X es (liftGs X W (gNs is))) (hi : is.length = n := by rfl) (hn : (assignEach es X.env).length = n := by rfl) (hst : (assignEach es X.env).findIdx? (·.1) = none := by rfl) :
    Tg X W (.Tuple es k pos) (gU is) := by
  refine ⟨fun pins s σ H v u Q I r hw => ?_⟩
  obtain ⟨g, Γ, S, p, rel, rg, rv, ok⟩ := hw
  unfold gU at ok
  have hlen : ∀ {xs : List PV}, OKw X W σ H g S (gNs is xs Γ S) (fun Γ' S' g' H' => ∀ σ', RG X H' g' S'.length Γ' σ' → Q σ' H') → xs.length = is.length := fun {xs} ok => by
    rcases gNs_ok is xs Γ S with ⟨Γ', q⟩ | q
    · exact gNs_len ⟨Γ', S, q⟩
    · rw [q] at ok; exact ok.elim
  split at ok
  · rename_i xs e
    obtain ⟨a, vs, rfl, h2, h3⟩ := deref_ok rel rv e
    exact (pg_tup hc h hn hst).run pins s σ H _ u Q I r ⟨a, vs, rfl, h3.tup, by rw [← h2.len, hlen ok, hi], g, Γ, S, xs, rel, rg, h2, ok⟩
  · rename_i xs e
    obtain ⟨a, vs, rfl, h2, h3⟩ := deref_ok rel rv e
    exact (pg_unl hc h hn hst).run pins s σ H _ u Q I r ⟨a, vs, rfl, h3.lst, by rw [← h2.len, hlen ok, hi], g, Γ, S, xs, rel, rg, h2, ok⟩
  · exact ok.elim
/-! slices -/
abbrev OFn := Gam → Sto → R (Option Int)
def oN : OFn := fun _ S => .ok none S
def oS (t : EF) : OFn := fun Γ S => (t Γ S).bind fun p S1 => match p with
  | .int i => .ok (some i) S1
  | _ => .bad
def liftO (X : Cx) (W : WX) (t : OFn) : TO := fun σ H Q => ∃ g Γ S, Rel X H g S ∧ RG X H g S.length Γ σ ∧ OKw X W σ H g S (t Γ S) fun o _ _ H' => Q o H'
def Po (X : Cx) (W : WX) (e : Option Expr) (t : OFn) : Prop := PO X e (liftO X W t)
theorem po_imp {e : Option Expr} {t t' : TO} (h : PO X e t) (k : ∀ σ H Q, t' σ H Q → t σ H Q) : PO X e t' := ⟨fun pins s σ H Q I q => h.run pins s σ H Q I (k σ H Q q)⟩
theorem Po.none : Po X W none oN := po_imp po_none fun σ H Q ⟨g, Γ, S, rel, rg, ok⟩ => OKw.ok rel ok
theorem Po.some {e : Expr} {t : EF} (h : E X W e t) : Po X W (some e) (oS t) := po_imp (po_some h) fun σ H Q ⟨g, Γ, S, rel, rg, ok⟩ => by
  refine ⟨g, Γ, S, rel, rg, OKw.mono (OKw.bind ok) fun p S1 g1 H1 _ e1 h1 x rx => ?_⟩
  split at h1
  · exact ⟨_, rx.int_inv, OKw.ok e1.rel h1⟩
  · exact h1.elim
def cutP (xs : List PV) (lo hi : Option Int) : List PV := (xs.drop (HT.sIx xs.length 0 lo)).take (HT.sIx xs.length xs.length hi - HT.sIx xs.length 0 lo)
theorem RVs.cut {Y : Kx} {H : Hp} {g : G} {L : Nat} {ps : List PV} {vs : List V} {lo hi : Option Int} (h : RVs Y H g L ps vs) : RVs Y H g L (cutP ps lo hi) (cutV vs lo hi) := by
  unfold cutP cutV
  rw [h.len]
  exact (h.drop _).take _
def slF (mu : Bool) (p : PV) (lo hi : Option Int) (S : Sto) : Option (PV × Sto) := match p with
  | .str z => if z.length ≤ sizeLine then some (.str (cutS z lo hi), S) else none
  | p => match deref S p with
    | some (.lst, xs) => some (newP mu .lst (cutP xs lo hi) S)
    | some (.tup, xs) => if HT.sIx xs.length 0 lo = 0 ∧ HT.sIx xs.length xs.length hi = xs.length then some (p, S) else some (.con .own .tup (cutP xs lo hi), S)
    | _ => none
def eSl (mu : Bool) (t : EF) (lo hi : OFn) : EF := fun Γ S => (t Γ S).bind fun p S1 => (lo Γ S1).bind fun l S2 => (hi Γ S2).bind fun u S3 => R.of (slF mu p l u S3)
def rSlAny (K : PySem.W.Frag) (x : V) (lo hi : Option Int) (H : Hp) (Q : VK) : Prop := rSlS x lo hi H Q ∨ rSlL K x lo hi H Q ∨ rSlA K x lo hi H Q
theorem sl_any : SlR X (rSlAny X.K) := SlR.or sl_str (SlR.or sl_list sl_tupA)
theorem E.sl (mu : Bool) {e : Expr} {lo hi : Option Expr} {t : EF} {tl th : OFn} {pos p2 : Pos} (he : E X W e t) (hl : Po X W lo tl) (hh : Po X W hi th) : E X W (.Subscript e (.Slice lo hi none p2) pos) (eSl mu t tl th) :=
  pe_imp (pe_slice sl_any he hl hh) fun σ H Q ⟨g, Γ, S, rel, rg, ok⟩ => by
    refine ⟨g, Γ, S, rel, rg, OKw.mono (OKw.bind ok) fun p S1 g1 H1 _ e1 h1 x rx => ?_⟩
    refine ⟨g1, Γ, S1, e1.rel, rg.up rel e1, OKw.mono (OKw.bind h1) fun l S2 g2 H2 _ e2 h2 => ?_⟩
    refine ⟨g2, Γ, S2, e2.rel, (rg.up rel e1).up e1.rel e2, OKw.mono (OKw.bind h2) fun u S3 g3 H3 _ e3 h3 => ?_⟩
    have rx3 := RV.up e2.rel e3 _ _ (RV.up e1.rel e2 _ _ rx)
    cases hw : slF mu p l u S3 with
    | none => rw [hw] at h3; exact h3.elim
    | some z =>
      obtain ⟨w, S4⟩ := z
      rw [hw] at h3
      unfold slF at hw
      split at hw
      · split at hw
        · rename_i hz
          cases hw
          exact Or.inl ⟨_, rx3.str_inv, hz, h3 g3 H3 (Ext.refl e3.rel) _ RV.str⟩
        · cases hw
      · split at hw
        · rename_i xs e
          obtain ⟨a, vs, rfl, k2, k3⟩ := deref_ok e3.rel rx3 e
          refine Or.inr (Or.inl ⟨a, vs, rfl, k3.lst, fun q hq => ?_⟩)
          obtain ⟨g4, n1, n2⟩ := new_ok (m := mu) (k := .lst) e3.rel hq (show HOof X.mg .lst _ _ from rfl) (by decide) (RVs.cut (lo := l) (hi := u) k2)
          simp only [Option.some.injEq] at hw
          rw [hw] at n1 n2
          exact h3 g4 _ n1 _ n2
        · rename_i xs e
          obtain ⟨a, vs, rfl, k2, k3⟩ := deref_ok e3.rel rx3 e
          refine Or.inr (Or.inr ⟨a, vs, rfl, k3.tup, ?_⟩)
          rw [← k2.len]
          split at hw
          · rename_i c
            cases hw
            exact ⟨fun _ => h3 g3 H3 (Ext.refl e3.rel) _ rx3, fun n => absurd c n⟩
          · rename_i c
            cases hw
            refine ⟨fun n => absurd n c, fun _ q hq => ?_⟩
            obtain ⟨n1, n2⟩ := newF_ok (k := .tup) e3.rel hq (show HOof X.mg .tup _ _ from rfl) (RVs.cut (lo := l) (hi := u) k2)
            exact h3 _ _ n1 _ n2
        · cases hw
/-! o[i] op= e -/
end Pv
namespace Pv
open PySem PySem.Spec PyProof.Rows L2
/-! More rules of evaluation; loops by what holds. -/
section
variable {Γ Γ' : Gam} {S S' : Sto} {p q : PV} {ps qs : List PV} {f : OF} {a b : EF} {tr : AF} {t u : SF} {c : BF} {k : Bool} {n i : Nat}
@[simp] theorem gU_tup {is : List Nat} {m : Md} : gU is (.con m .tup ps) Γ S = gNs is ps Γ S := (rfl)
@[simp] theorem gU_lst {is : List Nat} {m : Md} : gU is (.con m .lst ps) Γ S = gNs is ps Γ S := (rfl)
@[simp] theorem sTurn_U {is : List Nat} : sTurn (gU is) t p Γ S = (match gU is p Γ S with | .ok Γ1 S1 => t Γ1 S1 | .ex c fs S1 => .ex c fs Γ S1 | .bad => .bad) := by
  unfold sTurn; cases gU is p Γ S <;> rfl
def slK (mu : Bool) (lo hi : OFn) (Γ : Gam) (r : R PV) : R PV := r.bind fun p S1 => (lo Γ S1).bind fun l S2 => (hi Γ S2).bind fun u S3 => R.of (slF mu p l u S3)
@[simp] theorem eSl_eq {mu : Bool} {lo hi : OFn} : eSl mu a lo hi Γ S = slK mu lo hi Γ (a Γ S) := (rfl)
def slK2 (mu : Bool) (p : PV) (hi : OFn) (Γ : Gam) (r : R (Option Int)) : R PV := r.bind fun l S2 => (hi Γ S2).bind fun u S3 => R.of (slF mu p l u S3)
def slK3 (mu : Bool) (p : PV) (l : Option Int) (r : R (Option Int)) : R PV := r.bind fun u S3 => R.of (slF mu p l u S3)
@[simp] theorem slK_ok {mu : Bool} {lo hi : OFn} : slK mu lo hi Γ (.ok p S) = slK2 mu p hi Γ (lo Γ S) := (rfl)
@[simp] theorem slK2_ok {mu : Bool} {hi : OFn} {l : Option Int} : slK2 mu p hi Γ (.ok l S) = slK3 mu p l (hi Γ S) := (rfl)
@[simp] theorem slK3_ok {mu : Bool} {l h : Option Int} : slK3 mu p l (.ok h S) = R.of (slF mu p l h S) := (rfl)
@[simp] theorem oN_eq : oN Γ S = .ok none S := (rfl)
def oK (r : R PV) : R (Option Int) := r.bind fun p S1 => match p with
  | .int i => .ok (some i) S1
  | _ => .bad
@[simp] theorem oS_eq : oS a Γ S = oK (a Γ S) := (rfl)
@[simp] theorem oK_ok {j : Int} : oK (.ok (.int j) S) = .ok (some j) S := (rfl)
@[simp] theorem slF_lst {mu : Bool} {m : Md} {l h : Option Int} : slF mu (.con m .lst ps) l h S = some (newP mu .lst (cutP ps l h) S) := (rfl)
def augG (i : Nat) (f : OF) (a : EF) (Γ : Gam) (S : Sto) : Option (Option PV) → RS
  | some (some p) => augK i f p Γ (a Γ S)
  | _ => .bad
@[simp] theorem sAug_g : sAug i f a Γ S = augG i f a Γ S Γ[i]? := by
  unfold sAug augG
  rcases Γ[i]? with _ | _ | p <;> rfl
@[simp] theorem augG_some : augG i f a Γ S (some (some p)) = augK i f p Γ (a Γ S) := (rfl)
@[simp] theorem sRaise0_eq {x : Str} : sRaise0 x Γ S = .ex x [] Γ S := (rfl)
def rsK (x f : Str) (Γ : Gam) (r : R (List PV)) : RS := r.st Γ fun vs S1 => match vs with
  | [v] => .ex x [(f, v)] Γ S1
  | _ => .bad
@[simp] theorem sRaise1_eq {x f : Str} : sRaise1 x f tr Γ S = rsK x f Γ (tr Γ S) := (rfl)
@[simp] theorem rsK_ok {x f : Str} : rsK x f Γ (.ok [p] S) = .ex x [(f, p)] Γ S := (rfl)
def tryK (l : List (List (Str × Bool) × SF)) : RS → RS
  | .ex c fs Γ1 S1 => match sPick l c with
    | none => .bad
    | some none => .ex c fs Γ1 S1
    | some (some u) => match u Γ1 S1 with
      | .ex _ _ _ _ => .bad
      | r => r
  | r => r
@[simp] theorem sTry_eq {l : List (List (Str × Bool) × SF)} : sTry t l Γ S = tryK l (t Γ S) := by unfold sTry tryK; cases t Γ S <;> rfl
@[simp] theorem tryK_nx {l : List (List (Str × Bool) × SF)} : tryK l (.nx Γ S) = .nx Γ S := (rfl)
@[simp] theorem tryK_rt {l : List (List (Str × Bool) × SF)} : tryK l (.rt p S) = .rt p S := (rfl)
@[simp] theorem divmodF_int {x y : Int} : divmodF [.int x, .int y] S = if CDiv x y then some (.con .own .tup [.int (x / y), .int (x % y)], S) else none := (rfl)
@[simp] theorem tupleF_lst {m : Md} : tupleF [.con m .lst ps] S = some (.con .own .tup ps, S) := (rfl)
@[simp] theorem tupleF_tup {m : Md} : tupleF [.con m .tup ps] S = some (.con m .tup ps, S) := (rfl)
@[simp] theorem truB_lst {m : Md} : truB S (.con m .lst ps) = some (!ps.isEmpty) := (rfl)
@[simp] theorem truB_tup {m : Md} : truB S (.con m .tup ps) = some (!ps.isEmpty) := (rfl)
def truD : Option (Kd × List PV) → Option Bool
  | some (.lst, xs) => some (!xs.isEmpty)
  | some (.tup, xs) => some (!xs.isEmpty)
  | _ => none
@[simp] theorem truB_refD : truB S (.ref n) = truD S[n]?.join := by
  unfold truB truD; simp only [deref_ref] <;>
  rcases S[n]?.join with _ | ⟨k', xs'⟩ <;> first | rfl | (cases k' <;> rfl)
@[simp] theorem truD_lst : truD (some (.lst, ps)) = some (!ps.isEmpty) := (rfl)
end
end Pv
namespace Pv
open PySem PySem.Spec PyProof.Rows L2
/-! Loops by index, by items. -/
/-- how a turn may end, by what is asked -/
def Trn (r : RS) (N : Gam → Sto → Prop) (R : RS → Prop) : Prop := match r with
  | .nx Γ S => N Γ S
  | .ct Γ S => N Γ S
  | .bk Γ S => R (.nx Γ S)
  | .rt v S => R (.rt v S)
  | .ex c fs Γ S => R (.ex c fs Γ S)
  | .bad => False
theorem Trn.mono {r : RS} {N N' : Gam → Sto → Prop} {R : RS → Prop} (h : Trn r N R) (k : ∀ Γ S, N Γ S → N' Γ S) : Trn r N' R := by
  cases r <;> first | exact k _ _ h | exact h
@[simp] theorem Trn_nx {Γ : Gam} {S : Sto} {N : Gam → Sto → Prop} {R : RS → Prop} : Trn (.nx Γ S) N R = N Γ S := (rfl)
@[simp] theorem Trn_ct {Γ : Gam} {S : Sto} {N : Gam → Sto → Prop} {R : RS → Prop} : Trn (.ct Γ S) N R = N Γ S := (rfl)
@[simp] theorem Trn_bk {Γ : Gam} {S : Sto} {N : Gam → Sto → Prop} {R : RS → Prop} : Trn (.bk Γ S) N R = R (.nx Γ S) := (rfl)
@[simp] theorem Trn_rt {v : PV} {S : Sto} {N : Gam → Sto → Prop} {R : RS → Prop} : Trn (.rt v S) N R = R (.rt v S) := (rfl)
@[simp] theorem Trn_ex {c : Str} {fs : List (Str × PV)} {Γ : Gam} {S : Sto} {N : Gam → Sto → Prop} {R : RS → Prop} : Trn (.ex c fs Γ S) N R = R (.ex c fs Γ S) := (rfl)
/-! isinstance of built-in types -/
@[simp] theorem isi_non_int {S : Sto}  : isiF [.non, .ty "int"] S = some (.bl false, S) := by
  show (if kitB "NoneType" "int" = some (isiB "NoneType" "int") then some (PV.bl (isiB "NoneType" "int"), S) else none) = _
  rw [if_pos (by decide)]; rfl
@[simp] theorem isi_non_bool {S : Sto}  : isiF [.non, .ty "bool"] S = some (.bl false, S) := by
  show (if kitB "NoneType" "bool" = some (isiB "NoneType" "bool") then some (PV.bl (isiB "NoneType" "bool"), S) else none) = _
  rw [if_pos (by decide)]; rfl
@[simp] theorem isi_non_str {S : Sto}  : isiF [.non, .ty "str"] S = some (.bl false, S) := by
  show (if kitB "NoneType" "str" = some (isiB "NoneType" "str") then some (PV.bl (isiB "NoneType" "str"), S) else none) = _
  rw [if_pos (by decide)]; rfl
@[simp] theorem isi_non_tuple {S : Sto}  : isiF [.non, .ty "tuple"] S = some (.bl false, S) := by
  show (if kitB "NoneType" "tuple" = some (isiB "NoneType" "tuple") then some (PV.bl (isiB "NoneType" "tuple"), S) else none) = _
  rw [if_pos (by decide)]; rfl
@[simp] theorem isi_non_list {S : Sto}  : isiF [.non, .ty "list"] S = some (.bl false, S) := by
  show (if kitB "NoneType" "list" = some (isiB "NoneType" "list") then some (PV.bl (isiB "NoneType" "list"), S) else none) = _
  rw [if_pos (by decide)]; rfl
@[simp] theorem isi_bl_int {S : Sto} {k : Bool} : isiF [.bl k, .ty "int"] S = some (.bl true, S) := by
  show (if kitB "bool" "int" = some (isiB "bool" "int") then some (PV.bl (isiB "bool" "int"), S) else none) = _
  rw [if_pos (by decide)]; rfl
@[simp] theorem isi_bl_bool {S : Sto} {k : Bool} : isiF [.bl k, .ty "bool"] S = some (.bl true, S) := by
  show (if kitB "bool" "bool" = some (isiB "bool" "bool") then some (PV.bl (isiB "bool" "bool"), S) else none) = _
  rw [if_pos (by decide)]; rfl
@[simp] theorem isi_bl_str {S : Sto} {k : Bool} : isiF [.bl k, .ty "str"] S = some (.bl false, S) := by
  show (if kitB "bool" "str" = some (isiB "bool" "str") then some (PV.bl (isiB "bool" "str"), S) else none) = _
  rw [if_pos (by decide)]; rfl
@[simp] theorem isi_bl_tuple {S : Sto} {k : Bool} : isiF [.bl k, .ty "tuple"] S = some (.bl false, S) := by
  show (if kitB "bool" "tuple" = some (isiB "bool" "tuple") then some (PV.bl (isiB "bool" "tuple"), S) else none) = _
  rw [if_pos (by decide)]; rfl
@[simp] theorem isi_bl_list {S : Sto} {k : Bool} : isiF [.bl k, .ty "list"] S = some (.bl false, S) := by
  show (if kitB "bool" "list" = some (isiB "bool" "list") then some (PV.bl (isiB "bool" "list"), S) else none) = _
  rw [if_pos (by decide)]; rfl
@[simp] theorem isi_int_int {S : Sto} {k : Int} : isiF [.int k, .ty "int"] S = some (.bl true, S) := by
  show (if kitB "int" "int" = some (isiB "int" "int") then some (PV.bl (isiB "int" "int"), S) else none) = _
  rw [if_pos (by decide)]; rfl
@[simp] theorem isi_int_bool {S : Sto} {k : Int} : isiF [.int k, .ty "bool"] S = some (.bl false, S) := by
  show (if kitB "int" "bool" = some (isiB "int" "bool") then some (PV.bl (isiB "int" "bool"), S) else none) = _
  rw [if_pos (by decide)]; rfl
@[simp] theorem isi_int_str {S : Sto} {k : Int} : isiF [.int k, .ty "str"] S = some (.bl false, S) := by
  show (if kitB "int" "str" = some (isiB "int" "str") then some (PV.bl (isiB "int" "str"), S) else none) = _
  rw [if_pos (by decide)]; rfl
@[simp] theorem isi_int_tuple {S : Sto} {k : Int} : isiF [.int k, .ty "tuple"] S = some (.bl false, S) := by
  show (if kitB "int" "tuple" = some (isiB "int" "tuple") then some (PV.bl (isiB "int" "tuple"), S) else none) = _
  rw [if_pos (by decide)]; rfl
@[simp] theorem isi_int_list {S : Sto} {k : Int} : isiF [.int k, .ty "list"] S = some (.bl false, S) := by
  show (if kitB "int" "list" = some (isiB "int" "list") then some (PV.bl (isiB "int" "list"), S) else none) = _
  rw [if_pos (by decide)]; rfl
@[simp] theorem isi_str_int {S : Sto} {k : Str} : isiF [.str k, .ty "int"] S = some (.bl false, S) := by
  show (if kitB "str" "int" = some (isiB "str" "int") then some (PV.bl (isiB "str" "int"), S) else none) = _
  rw [if_pos (by decide)]; rfl
@[simp] theorem isi_str_bool {S : Sto} {k : Str} : isiF [.str k, .ty "bool"] S = some (.bl false, S) := by
  show (if kitB "str" "bool" = some (isiB "str" "bool") then some (PV.bl (isiB "str" "bool"), S) else none) = _
  rw [if_pos (by decide)]; rfl
@[simp] theorem isi_str_str {S : Sto} {k : Str} : isiF [.str k, .ty "str"] S = some (.bl true, S) := by
  show (if kitB "str" "str" = some (isiB "str" "str") then some (PV.bl (isiB "str" "str"), S) else none) = _
  rw [if_pos (by decide)]; rfl
@[simp] theorem isi_str_tuple {S : Sto} {k : Str} : isiF [.str k, .ty "tuple"] S = some (.bl false, S) := by
  show (if kitB "str" "tuple" = some (isiB "str" "tuple") then some (PV.bl (isiB "str" "tuple"), S) else none) = _
  rw [if_pos (by decide)]; rfl
@[simp] theorem isi_str_list {S : Sto} {k : Str} : isiF [.str k, .ty "list"] S = some (.bl false, S) := by
  show (if kitB "str" "list" = some (isiB "str" "list") then some (PV.bl (isiB "str" "list"), S) else none) = _
  rw [if_pos (by decide)]; rfl
@[simp] theorem isi_lst_int {S : Sto} {m : Md} {xs : List PV} : isiF [.con m .lst xs, .ty "int"] S = some (.bl false, S) := by
  show (if kitB "list" "int" = some (isiB "list" "int") then some (PV.bl (isiB "list" "int"), S) else none) = _
  rw [if_pos (by decide)]; rfl
@[simp] theorem isi_lst_bool {S : Sto} {m : Md} {xs : List PV} : isiF [.con m .lst xs, .ty "bool"] S = some (.bl false, S) := by
  show (if kitB "list" "bool" = some (isiB "list" "bool") then some (PV.bl (isiB "list" "bool"), S) else none) = _
  rw [if_pos (by decide)]; rfl
@[simp] theorem isi_lst_str {S : Sto} {m : Md} {xs : List PV} : isiF [.con m .lst xs, .ty "str"] S = some (.bl false, S) := by
  show (if kitB "list" "str" = some (isiB "list" "str") then some (PV.bl (isiB "list" "str"), S) else none) = _
  rw [if_pos (by decide)]; rfl
@[simp] theorem isi_lst_tuple {S : Sto} {m : Md} {xs : List PV} : isiF [.con m .lst xs, .ty "tuple"] S = some (.bl false, S) := by
  show (if kitB "list" "tuple" = some (isiB "list" "tuple") then some (PV.bl (isiB "list" "tuple"), S) else none) = _
  rw [if_pos (by decide)]; rfl
@[simp] theorem isi_lst_list {S : Sto} {m : Md} {xs : List PV} : isiF [.con m .lst xs, .ty "list"] S = some (.bl true, S) := by
  show (if kitB "list" "list" = some (isiB "list" "list") then some (PV.bl (isiB "list" "list"), S) else none) = _
  rw [if_pos (by decide)]; rfl
@[simp] theorem isi_tup_int {S : Sto} {m : Md} {xs : List PV} : isiF [.con m .tup xs, .ty "int"] S = some (.bl false, S) := by
  show (if kitB "tuple" "int" = some (isiB "tuple" "int") then some (PV.bl (isiB "tuple" "int"), S) else none) = _
  rw [if_pos (by decide)]; rfl
@[simp] theorem isi_tup_bool {S : Sto} {m : Md} {xs : List PV} : isiF [.con m .tup xs, .ty "bool"] S = some (.bl false, S) := by
  show (if kitB "tuple" "bool" = some (isiB "tuple" "bool") then some (PV.bl (isiB "tuple" "bool"), S) else none) = _
  rw [if_pos (by decide)]; rfl
@[simp] theorem isi_tup_str {S : Sto} {m : Md} {xs : List PV} : isiF [.con m .tup xs, .ty "str"] S = some (.bl false, S) := by
  show (if kitB "tuple" "str" = some (isiB "tuple" "str") then some (PV.bl (isiB "tuple" "str"), S) else none) = _
  rw [if_pos (by decide)]; rfl
@[simp] theorem isi_tup_tuple {S : Sto} {m : Md} {xs : List PV} : isiF [.con m .tup xs, .ty "tuple"] S = some (.bl true, S) := by
  show (if kitB "tuple" "tuple" = some (isiB "tuple" "tuple") then some (PV.bl (isiB "tuple" "tuple"), S) else none) = _
  rw [if_pos (by decide)]; rfl
@[simp] theorem isi_tup_list {S : Sto} {m : Md} {xs : List PV} : isiF [.con m .tup xs, .ty "list"] S = some (.bl false, S) := by
  show (if kitB "tuple" "list" = some (isiB "tuple" "list") then some (PV.bl (isiB "tuple" "list"), S) else none) = _
  rw [if_pos (by decide)]; rfl
end Pv
namespace Pv
open PySem PySem.Spec PyProof.Rows L2
section
variable {X : Cx} {Γ : Gam} {S : Sto}
/-! name += e: ints, texts -/
def addA : OF := fun p q S => match p, q with
  | .int i, .int j => some (.int (i + j), S)
  | .str a, .str b => if a.length + b.length ≤ sizeLine then some (.str (a ++ b), S) else none
  | _, _ => none
def rAddA : R2 := fun x y H Q => rI0 (fun i j => .int (i + j)) x y H Q ∨ rAddS x y H Q
theorem pip_addA : PIp X .Add rAddA := fun pins s σ H x y v u Q I rx ry h => by
  rcases h with ⟨i, j, e1, e2, q⟩ | h
  · exact ip_add pins s σ H x y v u Q I rx ry ⟨i, j, e1, e2, q⟩
  · exact in_addS pins s σ H x y v u Q I rx ry h
theorem opf_addA : OpF X rAddA addA := by
  intro H g S p q x y w S' Q rel rx ry h k
  unfold addA at h
  split at h
  · simp only [Option.some.injEq, Prod.mk.injEq] at h
    obtain ⟨rfl, rfl⟩ := h
    exact Or.inl ⟨_, _, rx.int_inv, ry.int_inv, k g H _ (Ext.refl rel) RV.int⟩
  · split at h
    · simp only [Option.some.injEq, Prod.mk.injEq] at h
      obtain ⟨rfl, rfl⟩ := h
      exact Or.inr ⟨_, _, rx.str_inv, ry.str_inv, by assumption, k g H _ (Ext.refl rel) RV.str⟩
    · cases h
  · cases h
@[simp] theorem addA_int {i j : Int} : addA (.int i) (.int j) S = some (.int (i + j), S) := (rfl)
@[simp] theorem addA_str {a b : Str} : addA (.str a) (.str b) S = if a.length + b.length ≤ sizeLine then some (.str (a ++ b), S) else none := (rfl)
/-! range(i, j) -/
def r2K (r : R (List PV)) : R (Stp × Nat) := r.bind fun ps S1 => match ps with
  | [.int i, .int j] => if -(2 ^ 62) ≤ i ∧ i < 2 ^ 62 ∧ -(2 ^ 62) ≤ j ∧ j < 2 ^ 62 then .ok (stL (intsF i (j - i).toNat), (j - i).toNat + 1) S1 else .bad
  | _ => .bad
@[simp] theorem iR2_eq {tr : AF} : iR2 tr Γ S = r2K (tr Γ S) := (rfl)
def tupD (S : Sto) : Option (Kd × List PV) → Option (PV × Sto)
  | some (.lst, xs) => some (.con .own .tup xs, S)
  | _ => none
@[simp] theorem tupleF_refD {n : Nat} : tupleF [.ref n] S = tupD S S[n]?.join := by
  unfold tupleF tupD; simp only [deref_ref] <;>
  rcases S[n]?.join with _ | ⟨k', xs'⟩ <;> first | rfl | (cases k' <;> rfl)
@[simp] theorem tupD_lst {ps : List PV} : tupD S (some (.lst, ps)) = some (.con .own .tup ps, S) := (rfl)
/-- it raises so -/
def Rx (r : RS) (c : Str) (fs : List (Str × PV)) : Prop := match r with
  | .ex c' fs' _ _ => c' = c ∧ fs' = fs
  | _ => False
@[simp] theorem Rx_ex {c c' : Str} {fs fs' : List (Str × PV)} : Rx (.ex c' fs' Γ S) c fs = (c' = c ∧ fs' = fs) := (rfl)
theorem Rx.out {r : RS} {c : Str} {fs : List (Str × PV)} (h : Rx r c fs) : ∃ Γ S, r = .ex c fs Γ S := by
  cases r <;> simp [Rx] at h
  obtain ⟨rfl, rfl⟩ := h
  exact ⟨_, _, rfl⟩
end
end Pv
/-! Pv18: several except clauses, some with a name. -/
namespace Pv
open PySem PySem.Spec PyProof.Rows L2
/-- a clause: its class, the slot of its name, its suite -/
abbrev Cls3 := Value × Option Nat × (Addr → Value → Option Addr → TS)
def offE (D : Ends) (i : Nat) : Ends := ⟨fun σ H => D.nx (σ.set i none) H, D.rt, fun σ H => D.bk (σ.set i none) H, fun σ H => D.ct (σ.set i none) H⟩
def runC (D : Ends) (o : Option Nat) (ts : TS) (a : Addr) (σ : L2.St) (H : Hp) : Prop := match o with
  | none => ts D σ H
  | some i => ts (offE D i) (σ.set i (some (.ref a))) H
/-- what the clauses ask, in their order -/
def wSeq (K : PySem.W.Frag) (Wo : WX) (D : Ends) : List Cls3 → WX
  | [] => Wo
  | q :: qs => fun cls d σ H => ∃ b, PySem.W.exmOne K cls q.1 = some b ∧
      (b = true → ∀ a, H a = none → runC D q.2.1 (q.2.2 a cls d) a σ H) ∧
      (b = false → wSeq K Wo D qs cls d σ H)
abbrev SuOk (X : Cx) (suite : List Stmt) (ts : Addr → Value → Option Addr → TS) : Prop :=
  ∀ (a : Addr) (oe : Obj) (cls : Value) (d : Option Addr) (pn : List (Addr × Obj)),
    Zc cls d oe → (∃ vs, oe.data = .fields vs) → PSs (X.suite a ((a, oe) :: pn)) suite (ts a cls d)
inductive ClOk (X : Cx) : List ExceptHandler → List Cls3 → Prop
  | nil : ClOk X [] []
  | plain {x : Str} {c : Value} {ts : Addr → Value → Option Addr → TS} {b : Stmt} {bs : List Stmt} {p1 p2 : Pos}
      {hds : List ExceptHandler} {l : List Cls3} (hc : Names X x c) (su : SuOk X (b :: bs) ts) (r : ClOk X hds l) :
      ClOk X (.ExceptHandler (some (.Name x p1)) none (b :: bs) p2 :: hds) ((c, none, ts) :: l)
  | named {x n : Str} {i : Nat} {c : Value} {ts : Addr → Value → Option Addr → TS} {b : Stmt} {bs : List Stmt} {p1 p2 : Pos}
      {hds : List ExceptHandler} {l : List Cls3} (hN : X.N.Nodup) (hi : X.N[i]? = some n) (hl : X.env.kindOf n = some .local)
      (hc : Names X x c) (su : SuOk X (b :: bs) ts) (r : ClOk X hds l) :
      ClOk X (.ExceptHandler (some (.Name x p1)) (some n) (b :: bs) p2 :: hds) ((c, some i, ts) :: l)
section
variable {X : Cx} {body : List Stmt} {h0 : ExceptHandler} {hds : List ExceptHandler} {l : List Cls3} {pos : Pos} {tb : WX → TS} {Wo : WX}
/-- try, with its clauses one after the other -/
theorem ps_try_seq (est : X.stack = X.env :: X.outer) (efr : X.env.frame = some X.env.locals) (tk : Takes X Wo)
    (hb : ∀ (W : WX) (pn : List (Addr × Obj)) (xe : Value → Shared → Prop),
      Takes (X.tr pn xe) W → PassesOwn (model X.prog X.w) X.A X.env xe → PSs (X.tr pn xe) body (tb W))
    (hh : ClOk X (h0 :: hds) l) : PS X (.Try body (h0 :: hds) [] [] pos) (fun D σ H => tb (wSeq X.K Wo D l) D σ H) := by
  refine ⟨fun pins s σ H D inv hq => ?_⟩
  have okk := inv.ok
  have frames : X.A.frames = some (X.env :: X.outer) := by rw [okk.frames, est]
  refine wpAny_Try_except ?_
  let far : Value → Shared → Prop := fun e s1 => wpAny (model X.prog X.w) X.A (noteFrame e X.env)
    (fun _ s2 => wpAny (model X.prog X.w) X.A (setFlight e none)
      (fun _ s3 => wpAny (model X.prog X.w) X.A (handleBy e X.env (h0 :: hds)) (SP X pins D) X.xe s3) X.xe s2) X.xe s1
  refine wpAny_mono ((hb (wSeq X.K Wo D l) (X.pn ++ pins) far (fun u t0 caught => ?_) PassesOwn.looking).run
    [] s σ H D (inv.toTry _) hq) (fun f t1 fin => ?_) (fun e t1 he => he)
  · obtain ⟨a, B, sI, pins1, σ1, H1, cls, d, rfl, inv1, nb, up, sky, na, os, ag, w⟩ := caught
    have I1 : Inv X pins σ1 H1 sI := inv1.ofTry okk
    have sky1 : Sky B (X.env :: X.outer) a (Zc cls d) X.env.locals t0.heap := by rw [← est]; exact sky
    show wpAny (model X.prog X.w) X.A (noteFrame (.ref a) X.env) _ _ _
    refine Sky.land Zc.steady frames efr sky1 fun h3 fl3 up3 => ?_
    have I3 : Inv X pins σ1 H1 { t0 with heap := h3 } := I1.landed nb fl3.1 (up.trans up3) os ag
    obtain ⟨o3, v3, at3, z3, d3⟩ := fl3.there
    have out : a ∉ frs (X.env :: X.outer) := fun hm => by
      obtain ⟨_, o', e', nf⟩ := fl3.2.2.1.mem hm
      rw [at3] at e'; cases e'
      exact nf _ d3
    have nL : a ≠ X.env.locals := fun z =>
      out (List.mem_filterMap.mpr ⟨X.env, List.mem_cons_self, by rw [efr, z]⟩)
    have nF : a ∉ X.fs := fun hm => by
      obtain ⟨e, he, q⟩ := List.mem_filterMap.mp hm
      exact out (List.mem_filterMap.mpr ⟨e, List.mem_cons_of_mem _ he, q⟩)
    have S3 := I3.suite at3 d3 na nL nF
    have look : PySem.W.Looks (model X.prog X.w) h3 (typeOf (.ref a)) cls := fun A Q E s k q =>
      wpAny_typeOf_ref (k _ _ at3) (by rw [z3.1]; exact q)
    have ask : ∀ {x : Str} {c : Value} {p : Pos} {Q E : Value → Shared → Prop}, Names X x c → Q c { t0 with heap := h3 } →
        wpAny (model X.prog X.w) (X.A.mark (some (.ref a))) (eval (.Name x p) X.env) Q E { t0 with heap := h3 } := fun {x c p Q E} hc q => by
      obtain ⟨hg, hdb, hm | ⟨hm, hv, hnn⟩⟩ := hc
      · exact ld_glob (X := X.suite a ((a, o3) :: (X.pn ++ pins))) S3 hg hm q hdb
      · exact ld_blt (X := X.suite a ((a, o3) :: (X.pn ++ pins))) S3 hg hm hv q hnn hdb
    have all : ∀ {hs : List ExceptHandler} {m : List Cls3}, ClOk X hs m → wSeq X.K Wo D m cls d σ1 H1 →
        wpAny (model X.prog X.w) X.A (handleBy (.ref a) X.env hs) (SP X pins D) X.xe { t0 with heap := h3 } := by
      intro hs m ck
      induction ck with
      | nil =>
        intro w
        refine wpAny_handleBy_nil ?_
        obtain ⟨k1, k2, k3, oe, vs, T, oT, ts', he, hz, hd, q1, q2⟩ := id fl3
        unfold PySem.passOn
        refine wpAny_bind (wpAny_field he hd q1 ?_)
        rw [if_neg (show ¬ ((Value.ref T == Value.none) = true) from by simp)]
        have away : wpAny (model X.prog X.w) X.A (setFlight (.ref a) X.env.frame)
            (fun _ t4 => wpAny (model X.prog X.w) X.A (throw (.ref a) : Sem Flow) (SP X pins D) X.xe t4) X.xe { t0 with heap := h3 } := by
          rw [efr]
          refine HandSPX.setFlight_upZ fl3 fun h4 hh4 up4 => wpAny_throw (tk _ _ ?_)
          exact ⟨a, B, sI, pins, σ1, H1, cls, d, rfl, I1, nb, (up.trans up3).trans up4, .inr (.inr (by rw [est]; exact hh4)), na, os, ag, w⟩
        first
          | exact wpAny_bind (wpAny_pure (wpAny_bind away))
          | exact wpAny_bind away
      | @plain x c ts b bs p1 p2 hs2 m2 hc su r ih =>
        intro w
        obtain ⟨y, hy, yes, no⟩ := w
        refine wpAny_handleBy_cons (codeAny_handlers_test ?_) (by intro q; cases q)
        refine ask hc ((PySem.W.exm_one (M := model X.prog X.w) I3.kIn look hy).here ?_)
        cases y with
        | true =>
          refine codeAny_handlers_suite ?_
          refine HandSPX.lands_againZ fl3 fun h4 fl4 up4 => ?_
          have I4 : Inv X pins σ1 H1 { t0 with heap := h4 } := I1.landed nb fl4.1 ((up.trans up3).trans up4) os ag
          obtain ⟨o4, v4, at4, z4, d4⟩ := fl4.there
          have S4 := I4.suite at4 d4 na nL nF
          refine wpAny_mono ((su a o4 cls d (X.pn ++ pins) z4 ⟨_, d4⟩).run [] _ _ H1 _ S4 (yes rfl a na)) (fun f s6 e6 => ?_) (fun _ _ z => False.elim z)
          cases f with
          | ret u =>
            obtain ⟨v6, σ6, H6, S6, r6, q6⟩ := e6
            exact ⟨_, _, _, S6.unsuite okk, r6, q6⟩
          | _ =>
            obtain ⟨σ6, H6, S6, q6⟩ := e6
            exact ⟨_, _, S6.unsuite okk, q6⟩
        | false =>
          show wpAny _ X.A (handleBy (.ref a) X.env hs2) _ _ _
          exact ih (no rfl)
      | @named x n i c ts b bs p1 p2 hs2 m2 hN hi hl hc su r ih =>
        intro w
        obtain ⟨y, hy, yes, no⟩ := w
        refine wpAny_handleBy_cons (codeAny_handlers_test ?_) (by intro q; cases q)
        refine ask hc ((PySem.W.exm_one (M := model X.prog X.w) I3.kIn look hy).here ?_)
        cases y with
        | true =>
          refine codeAny_handlers_suite_as ?_
          refine HandSPX.lands_againZ fl3 fun h4 fl4 up4 => ?_
          have I4 : Inv X pins σ1 H1 { t0 with heap := h4 } := I1.landed nb fl4.1 ((up.trans up3).trans up4) os ag
          obtain ⟨o4, v4, at4, z4, d4⟩ := fl4.there
          have S4 := I4.suite at4 d4 na nL nF
          refine store_ok (X := X.suite a ((a, o4) :: (X.pn ++ pins))) (v := .ref a) S4 hN hi (.inl hl) rfl (fun s5 S5 => ?_) (.inr hl)
          refine wpAny_mono ((su a o4 cls d (X.pn ++ pins) z4 ⟨_, d4⟩).run [] s5 _ H1 _ S5 (yes rfl a na)) (fun f s6 e6 => ?_) (fun _ _ z => False.elim z)
          have off : ∀ {σ6 : L2.St} {H6 : Hp} {Q : Shared → Prop}, Inv (X.suite a ((a, o4) :: (X.pn ++ pins))) [] σ6 H6 s6 →
              (∀ s7, Inv X pins (σ6.set i none) H6 s7 → Q s7) →
              wpAny (model X.prog X.w) X.A (do bindName X.env n .none; unbindBehindTheSuite X.env n p2) (fun _ s7 => Q s7) X.xe s6 :=
            fun {σ6 H6 Q} S6 hq => gone_ok (S6.unsuite okk) hN hi hl hq
          cases f with
          | ret u =>
            obtain ⟨v6, σ6, H6, S6, r6, q6⟩ := e6
            exact off S6 fun s7 J7 => ⟨_, _, _, J7, r6, q6⟩
          | _ =>
            obtain ⟨σ6, H6, S6, q6⟩ := e6
            exact off S6 fun s7 J7 => ⟨_, _, J7, q6⟩
        | false =>
          show wpAny _ X.A (handleBy (.ref a) X.env hs2) _ _ _
          exact ih (no rfl)
    exact all hh w
  · cases f with
    | next =>
      obtain ⟨σ1, H1, I1, q⟩ := fin
      exact wpAny_execs_nil ⟨σ1, H1, I1.ofTry okk, q⟩
    | ret u =>
      obtain ⟨v, σ1, H1, I1, r, q⟩ := fin
      exact ⟨v, σ1, H1, I1.ofTry okk, r, q⟩
    | _ =>
      obtain ⟨σ1, H1, I1, q⟩ := fin
      exact ⟨σ1, H1, I1.ofTry okk, q⟩
end
end Pv
/-! Pv19: try with several clauses, as functions of data. -/
namespace Pv
open PySem PySem.Spec PyProof.Rows L2
section
variable {X : Cx} {W : WX}
abbrev XF := Str → List (Str × PV) → SF
/-- which clause takes it -/
def xPick : List (List (Str × Bool) × XF) → Str → Option (Option XF)
  | [], _ => some none
  | (t, u) :: r, c => match t.lookup c with
    | none => none
    | some true => some (some u)
    | some false => xPick r c
def noX : RS → RS
  | .ex _ _ _ _ => .bad
  | r => r
def sTryX (t : SF) (l : List (List (Str × Bool) × XF)) : SF := fun Γ S => match t Γ S with
  | .ex c fs Γ1 S1 => match xPick l c with
    | none => .bad
    | some none => .ex c fs Γ1 S1
    | some (some u) => noX (u c fs Γ1 S1)
  | r => r
/-- a suite that does not name the error -/
def xPlain (u : SF) : XF := fun _ _ => u
/-- the name goes -/
def offR (i : Nat) : RS → RS
  | .nx Γ S => .nx (Γ.set i none) S
  | .bk Γ S => .bk (Γ.set i none) S
  | .ct Γ S => .ct (Γ.set i none) S
  | r => r
def xAs (i : Nat) (u : XF) : XF := fun c fs Γ S => if i < Γ.length then offR i (u c fs (Γ.set i none) S) else .bad
/-- a suite whose name i stands for the error a -/
def liftN (X : Cx) (i : Nat) (a : Addr) (cls : Value) (d : Option Addr) (u : XF) : TS := fun D σ H => ∃ g Γ S c fs, Rel X H g S ∧ RG X H g S.length Γ σ ∧ σ[i]? = some (some (.ref a)) ∧ RX X H g S.length c fs cls d ∧ OKs X WN D H g S (u c fs Γ S)
inductive HdX (X : Cx) : List ExceptHandler → List (List (Str × Bool) × XF) → Prop
  | nil : HdX X [] []
  | plain {x : Str} {C : Addr} {tbl : List (Str × Bool)} {t : SF} {b₀ : Stmt} {suite : List Stmt} {np pos' : Pos} {hds : List ExceptHandler} {l : List (List (Str × Bool) × XF)} (hg : Gl X x) (hdb : (x == ("__debug__" : Str)) = false) (hm : X.mg x = some (.ref C))
      (ht : ∀ c b cls, tbl.lookup c = some b → X.mg c = some cls → PySem.W.exmOne X.K cls (.ref C) = some b)
      (hs : ∀ a oe pn, Ss (X.suite a ((a, oe) :: pn)) WN (b₀ :: suite) t) (r : HdX X hds l) :
      HdX X (.ExceptHandler (some (.Name x np)) none (b₀ :: suite) pos' :: hds) ((tbl, xPlain t) :: l)
  | named {x n : Str} {i : Nat} {C : Addr} {tbl : List (Str × Bool)} {u : XF} {b₀ : Stmt} {suite : List Stmt} {np pos' : Pos} {hds : List ExceptHandler} {l : List (List (Str × Bool) × XF)} (hN : X.N.Nodup) (hi : X.N[i]? = some n) (hl : X.env.kindOf n = some .local) (hg : Gl X x) (hdb : (x == ("__debug__" : Str)) = false) (hm : X.mg x = some (.ref C))
      (ht : ∀ c b cls, tbl.lookup c = some b → X.mg c = some cls → PySem.W.exmOne X.K cls (.ref C) = some b)
      (hs : SuOk X (b₀ :: suite) (fun a cls d => liftN X i a cls d u)) (r : HdX X hds l) :
      HdX X (.ExceptHandler (some (.Name x np)) (some n) (b₀ :: suite) pos' :: hds) ((tbl, xAs i u) :: l)
theorem noX_ok {D : Ends} {H : Hp} {g : G} {S : Sto} {r : RS} (h : OKs X W D H g S (noX r)) : OKs X WN D H g S r := by
  revert h
  cases r <;> first | exact fun z => z | exact fun z => False.elim z
theorem HdX.ok {hds : List ExceptHandler} {l : List (List (Str × Bool) × XF)} (h : HdX X hds l) : ∃ l', ClOk X hds l' ∧ ∀ (c : Str) (fs : List (Str × PV)) (Γ : Gam) (S : Sto) (D : Ends) (H : Hp) (g : G) (σ : L2.St) (cls : Value) (d : Option Addr),
    Rel X H g S → RG X H g S.length Γ σ → RX X H g S.length c fs cls d → (match xPick l c with
      | none => False
      | some none => W cls d σ H
      | some (some u) => OKs X WN D H g S (u c fs Γ S)) → wSeq X.K W D l' cls d σ H := by
  induction h with
  | nil => exact ⟨[], .nil, fun c fs Γ S D H g σ cls d rel rg rx k => k⟩
  | plain hg hdb hm ht hs r ih =>
    rename_i x C tbl t b₀ suite np pos' hds l
    obtain ⟨l', h1, h2⟩ := ih
    refine ⟨(.ref C, none, fun a cls d => liftS X WN t) :: l', .plain ⟨hg, hdb, Or.inl hm⟩ (fun a oe cls d pn _ _ => hs a oe pn) h1, fun c fs Γ S D H g σ cls d rel rg rx k => ?_⟩
    unfold xPick at k
    cases e : tbl.lookup c with
    | none => rw [e] at k; exact k.elim
    | some b =>
      rw [e] at k
      refine ⟨b, ht c b cls e rx.1, fun hb a ha => ?_, fun hb => ?_⟩
      · subst hb; exact ⟨g, Γ, S, rel, rg, k⟩
      · subst hb; exact h2 c fs Γ S D H g σ cls d rel rg rx k
  | named hN hi hl hg hdb hm ht hs r ih =>
    rename_i x n i C tbl u b₀ suite np pos' hds l
    obtain ⟨l', h1, h2⟩ := ih
    refine ⟨(.ref C, some i, fun a cls d => liftN X i a cls d u) :: l', .named hN hi hl ⟨hg, hdb, Or.inl hm⟩ hs h1, fun c fs Γ S D H g σ cls d rel rg rx k => ?_⟩
    unfold xPick at k
    cases e : tbl.lookup c with
    | none => rw [e] at k; exact k.elim
    | some b =>
      rw [e] at k
      refine ⟨b, ht c b cls e rx.1, fun hb a ha => ?_, fun hb => ?_⟩
      · subst hb
        have hlt : i < X.N.length := (List.getElem?_eq_some_iff.mp hi).1
        have rg0 : RG X H g S.length (Γ.set i none) (σ.set i (some (.ref a))) := by
          refine ⟨by rw [List.length_set, List.length_set]; exact rg.len, fun j p q => ?_⟩
          by_cases z : i = j
          · subst z
            rw [List.getElem?_set] at q
            rw [if_pos rfl] at q
            split at q <;> cases q
          · rw [List.getElem?_set_ne z] at q ⊢
            exact rg.at_ j p q
        have k : OKs X WN D H g S (if i < Γ.length then offR i (u c fs (Γ.set i none) S) else .bad) := k
        by_cases hil : i < Γ.length
        · rw [if_pos hil] at k
          refine ⟨g, Γ.set i none, S, c, fs, rel, rg0, List.getElem?_set_self (rg.len ▸ hil), rx, ?_⟩
          revert k
          cases u c fs (Γ.set i none) S with
          | nx Γ1 S1 => exact fun k g' H' σ' e' r' => k g' H' _ e' r'.unset
          | bk Γ1 S1 => exact fun k g' H' σ' e' r' => k g' H' _ e' r'.unset
          | ct Γ1 S1 => exact fun k g' H' σ' e' r' => k g' H' _ e' r'.unset
          | rt v S1 => exact fun k => k
          | ex c fs Γ1 S1 => exact fun k => k
          | bad => exact fun k => k
        · rw [if_neg hil] at k
          exact k.elim
      · subst hb; exact h2 c fs Γ S D H g σ cls d rel rg rx k
theorem Body.tryX {N : List Str} {sc : Scope} {k : Nat} {body : List Stmt} {h₀ : ExceptHandler} {hds : List ExceptHandler} {t : SF} {l : List (List (Str × Bool) × XF)} {pos : Pos} (b : Body X W N sc k)
    (hb : ∀ (W' : WX) (pn : List (Addr × Obj)) (xe : Value → Shared → Prop), Body (X.tr pn xe) W' N sc k → Ss (X.tr pn xe) W' body t) (hh : HdX X (h₀ :: hds) l) : St X W (.Try body (h₀ :: hds) [] [] pos) (sTryX t l) := by
  obtain ⟨l', h1, h2⟩ := hh.ok (W := W)
  refine ps_imp (ps_try_seq (tb := fun W' => liftS X W' t) b.hs b.hf b.tk (fun W' pn xe tk po => hb W' pn xe (b.tr tk po)) h1) fun D σ H ⟨g, Γ, S, rel, rg, ok⟩ => ⟨g, Γ, S, rel, rg, ?_⟩
  unfold sTryX at ok
  cases e : t Γ S with
  | nx Γ1 S1 => rw [e] at ok; exact ok
  | bk Γ1 S1 => rw [e] at ok; exact ok
  | ct Γ1 S1 => rw [e] at ok; exact ok
  | rt v S1 => rw [e] at ok; exact ok
  | bad => rw [e] at ok; exact ok
  | ex c fs Γ1 S1 =>
    rw [e] at ok
    dsimp only at ok
    intro g' H' σ' cls d ee rg' rx
    refine h2 c fs Γ1 S1 D H' g' σ' cls d ee.rel rg' rx ?_
    revert ok
    cases xPick l c with
    | none => exact fun z => z
    | some o => cases o with
      | none => exact fun z => z g' H' σ' cls d ee rg' rx
      | some u =>
        dsimp only
        intro ok
        exact noX_ok (OKs.cont ee ok)
/-! ### values in a suite that names the error -/
abbrev VF := Str → List (Str × PV) → Option PV
abbrev VsF := Str → List (Str × PV) → Option (List PV)
def liftV (X : Cx) (i : Nat) (a : Addr) (cls : Value) (d : Option Addr) (f : VF) : TE := fun σ H Q => ∃ g Γ S c fs p, Rel X H g S ∧ RG X H g S.length Γ σ ∧ σ[i]? = some (some (.ref a)) ∧ RX X H g S.length c fs cls d ∧ f c fs = some p ∧ ∀ g' H' x, Ext X H g S H' g' S → RV X H' g' S.length p x → Q x H'
def liftVs (X : Cx) (i : Nat) (a : Addr) (cls : Value) (d : Option Addr) (f : VsF) : TA := fun σ H Q => ∃ g Γ S c fs ps, Rel X H g S ∧ RG X H g S.length Γ σ ∧ σ[i]? = some (some (.ref a)) ∧ RX X H g S.length c fs cls d ∧ f c fs = some ps ∧ ∀ g' H' xs, Ext X H g S H' g' S → RVs X H' g' S.length ps xs → Q xs H'
/-- what holds of an error that is being handled -/
def VE (X : Cx) (i : Nat) (e : Expr) (f : VF) : Prop := ∀ (a : Addr) (oe : Obj) (cls : Value) (d : Option Addr) (pn : List (Addr × Obj)), Zc cls d oe → (∃ vs, oe.data = .fields vs) → PE (X.suite a ((a, oe) :: pn)) e (liftV X i a cls d f)
def VA (X : Cx) (i : Nat) (es : List Expr) (f : VsF) : Prop := ∀ (a : Addr) (oe : Obj) (cls : Value) (d : Option Addr) (pn : List (Addr × Obj)), Zc cls d oe → (∃ vs, oe.data = .fields vs) → PA (X.suite a ((a, oe) :: pn)) es (liftVs X i a cls d f)
variable {i : Nat}
theorem RX.up {Y : Kx} {H H' : Hp} {g g' : G} {S S' : Sto} {c : Str} {fs : List (Str × PV)} {cls : Value} {d : Option Addr} (rel : Rel Y H g S) (e : Ext Y H g S H' g' S') (h : RX Y H g S.length c fs cls d) : RX Y H' g' S'.length c fs cls d := h.mono (e.up rel)
def vC (p : PV) : VF := fun _ _ => some p
def vFld (x f : Str) : VF := fun c fs => if c = x then fs.lookup f else none
theorem VE.const {e : Expr} {v : V} {p : PV} (h : ∀ (X' : Cx), PE X' e (tC v)) (hp : ∀ H g L, RV X H g L p v) : VE X i e (vC p) := fun a oe cls d pn hz hf =>
  pe_imp (h _) fun σ H Q ⟨g, Γ, S, c, fs, q, rel, rg, hi, rx, e, k⟩ => by
    cases e
    exact k g H v (Ext.refl rel) (hp H g S.length)
theorem VE.str {z : Str} {j : Nat} {pos : Pos} : VE X i (.Constant (.str z) j pos) (vC (.str z)) := VE.const (fun _ => pe_str) fun _ _ _ => RV.str
theorem VE.int {z : Int} {j : Nat} {pos : Pos} : VE X i (.Constant (.int z) j pos) (vC (.int z)) := VE.const (fun _ => pe_int) fun _ _ _ => RV.int
/-- e.f, the error of the class x -/
theorem VE.fld {x f : Str} {C : Addr} {e : Expr} {pos : Pos} (T : XfC X.K C) (hm : X.mg x = some (.ref C)) (hno : PySem.W.findIn X.K (.ref C) f = some none) (he : ∀ (a : Addr) (pn : List (Addr × Obj)), PE (X.suite a pn) e (tVar i)) (hb : attributeBase e f X.env (eval e X.env) = eval e X.env := by rfl) :
    VE X i (.Attribute e f pos) (vFld x f) := fun a oe cls d pn hz hf =>
  pe_imp (pe_xf T hno hz hf (he a _) hb) fun σ H Q ⟨g, Γ, S, c, fs, q, rel, rg, hi, rx, e, k⟩ => by
    unfold vFld at e
    split at e
    · rename_i hc
      subst hc
      obtain ⟨r1, r2⟩ := rx
      have r3 : some (Value.ref C) = some cls := hm.symm.trans r1
      cases r3
      rcases r2 with ⟨rfl, _⟩ | ⟨dx, vs, rfl, hx, rv⟩
      · cases e
      · have find : ∀ (fs : List (Str × PV)) (vs : List V), RVs X H g S.length (fs.map (·.2)) vs → fs.lookup f = some q → ∃ v, ((fs.map (·.1)).zip vs).lookup f = some v ∧ RV X H g S.length q v := by
          intro fs
          induction fs with
          | nil => intro vs _ h; cases h
          | cons p fs ih =>
            intro vs rv h
            obtain ⟨n, w⟩ := p
            simp only [List.map_cons, RVs] at rv
            obtain ⟨v, r, rfl, h1, h2⟩ := rv
            rw [List.lookup_cons] at h
            rw [List.map_cons, List.zip_cons_cons, List.lookup_cons]
            by_cases z : (f == n) = true
            · rw [z] at h ⊢
              cases h
              exact ⟨v, rfl, h1⟩
            · have z : (f == n) = false := by simpa using z
              rw [z] at h ⊢
              exact ih r h2 h
        obtain ⟨v, l1, l2⟩ := find fs vs rv e
        exact ⟨_, hi, rfl, rfl, dx, _, v, rfl, hx, l1, k g H v (Ext.refl rel) l2⟩
    · cases e
def vsNil : VsF := fun _ _ => some []
def vsCons (f : VF) (r : VsF) : VsF := fun c fs => match f c fs, r c fs with
  | some p, some ps => some (p :: ps)
  | _, _ => none
theorem VA.nil : VA X i [] vsNil := fun a oe cls d pn hz hf => pa_imp pa_nil fun σ H Q ⟨g, Γ, S, c, fs, q, rel, rg, hi, rx, e, k⟩ => by
  cases e
  exact k g H [] (Ext.refl rel) RVs.nil
theorem VA.cons {e : Expr} {es : List Expr} {f : VF} {r : VsF} (he : VE X i e f) (hr : VA X i es r) (hs : starEach (e :: es) X.env = (false, eval e X.env) :: starEach es X.env := by rfl) : VA X i (e :: es) (vsCons f r) := fun a oe cls d pn hz hf =>
  pa_imp (pa_cons (he a oe cls d pn hz hf) (hr a oe cls d pn hz hf) hs) fun σ H Q ⟨g, Γ, S, c, fs, q, rel, rg, hi, rx, e, k⟩ => by
    unfold vsCons at e
    split at e
    · rename_i p ps e1 e2
      cases e
      refine ⟨g, Γ, S, c, fs, p, rel, rg, hi, rx, e1, fun g1 H1 x x1 r1 => ?_⟩
      refine ⟨g1, Γ, S, c, fs, ps, x1.rel, rg.up rel x1, hi, RX.up rel x1 rx, e2, fun g2 H2 xs x2 r2 => ?_⟩
      exact k g2 H2 _ (x1.trans x2) (RVs.cons (RV.up x1.rel x2 _ _ r1) r2)
    · cases e
def vDisp (k : Kd) (f : VsF) : VF := fun c fs => match f c fs with
  | some ps => if ps.length ≤ sizeLine then some (.con .own k ps) else none
  | none => none
theorem VE.lst {es : List Expr} {f : VsF} {pos : Pos} (h : VA X i es f) : VE X i (.List es pos) (vDisp .lst f) := fun a oe cls d pn hz hf =>
  pe_imp (pe_lst (h a oe cls d pn hz hf)) fun σ H Q ⟨g, Γ, S, c, fs, q, rel, rg, hi, rx, e, k⟩ => by
    unfold vDisp at e
    split at e
    · rename_i ps e1
      split at e
      · rename_i hl
        cases e
        refine ⟨g, Γ, S, c, fs, ps, rel, rg, hi, rx, e1, fun g1 H1 xs x1 r1 => ⟨by rw [← r1.len]; exact hl, fun p hp => ?_⟩⟩
        obtain ⟨z1, z2⟩ := newF_ok x1.rel hp (k := .lst) (o := .lst _) rfl r1
        exact k _ _ _ (x1.trans z1) z2
      · cases e
    · cases e
theorem VE.tup {es : List Expr} {f : VsF} {x1 : Nat} {pos : Pos} (h : VA X i es f) : VE X i (.Tuple es x1 pos) (vDisp .tup f) := fun a oe cls d pn hz hf =>
  pe_imp (pe_tup (h a oe cls d pn hz hf)) fun σ H Q ⟨g, Γ, S, c, fs, q, rel, rg, hi, rx, e, k⟩ => by
    unfold vDisp at e
    split at e
    · rename_i ps e1
      split at e
      · rename_i hl
        cases e
        refine ⟨g, Γ, S, c, fs, ps, rel, rg, hi, rx, e1, fun g1 H1 xs x1 r1 => ⟨by rw [← r1.len]; exact hl, fun p hp => ?_⟩⟩
        obtain ⟨z1, z2⟩ := newF_ok x1.rel hp (k := .tup) (o := .tup _) rfl r1
        exact k _ _ _ (x1.trans z1) z2
      · cases e
    · cases e
/-- name = e, in a suite that names the error -/
def xSet (j : Nat) (f : VF) : XF := fun c fs Γ S => match f c fs with
  | some p => .nx (Γ.set j (some p)) S
  | none => .bad
theorem Body.suSetX {N : List Str} {sc : Scope} {k : Nat} (b : Body X W N sc k) (nd : N.Nodup) (j : Nat) (y : Str) {e : Expr} {f : VF} {pos pos' : Pos} (h : slT N sc j y = true) (he : VE X i e f)
    (hs : swapsWith e (some (.Name y pos')) pos.line X.env = pure false := by rfl) : SuOk X [.Assign [.Name y pos'] e pos] (fun a cls d => liftN X i a cls d (xSet j f)) := by
  have b1 := b.hN
  have b2 := b.sc
  subst b1 b2
  obtain ⟨h1, h2⟩ := slT_ok h
  intro a oe cls d pn hz hf
  refine pss_one (ps_imp (ps_set (X := X.suite a ((a, oe) :: pn)) nd h1 h2 (he a oe cls d pn hz hf) hs (.inl (b.fn y))) fun D σ H ⟨g, Γ, S, c, fs, rel, rg, hi, rx, ok⟩ => ?_)
  unfold xSet at ok
  cases e : f c fs with
  | none => rw [e] at ok; exact ok.elim
  | some p =>
    rw [e] at ok
    exact ⟨g, Γ, S, c, fs, p, rel, rg, hi, rx, e, fun g1 H1 x x1 r1 => ok g1 H1 _ x1 ((rg.up rel x1).set r1)⟩
end
end Pv
/-! Pv20: isinstance of an error that is being handled. -/
namespace Pv
open PySem PySem.Spec PyProof.Rows L2
section
variable {X : Cx} {W : WX} {i : Nat}
/-- what an error's class D must say so that isinstance may ask its errors -/
structure XisC (K : PySem.W.Frag) (D : Addr) : Prop where
  c : (PySem.W.clsIn K D).isSome = true
  ga : PySem.W.findIn K (.ref D) "__getattribute__" = some (some (.builtin "BaseException.__getattribute__"))
  gt : PySem.W.findIn K (.ref D) "__getattr__" = some none
  s : PySem.W.subIn K (.ref D) (.type "BaseException") = some true
  a : PySem.W.findIn K (.ref D) "__class__" = some (some (.builtin "object.__class__"))
  n : PySem.W.specialIn K (.builtin "object.__class__") "__get__" = some (some (.builtin "getset_descriptor.__get__"))
  t : PySem.W.takesIn K (.builtin "object.__class__") = some true
  m : PySem.W.mroIn K D (.type "object") = some true
theorem xisB_ok {K : PySem.W.Frag} {D : Addr} (h : xisB K D = true) : XisC K D := by
  obtain ⟨c1, h⟩ := He.ba h
  obtain ⟨c2, h⟩ := He.ba h
  obtain ⟨c3, h⟩ := He.ba h
  obtain ⟨c4, h⟩ := He.ba h
  obtain ⟨c5, h⟩ := He.ba h
  obtain ⟨c6, h⟩ := He.ba h
  obtain ⟨c7, c8⟩ := He.ba h
  exact ⟨c1, of_decide_eq_true c2, of_decide_eq_true c3, of_decide_eq_true c4, of_decide_eq_true c5, of_decide_eq_true c6, of_decide_eq_true c7, of_decide_eq_true c8⟩
def rIsX (K : PySem.W.Frag) (D a : Addr) (d : Option Addr) : List V → Hp → VK → Prop := fun xs H Q => ∃ (c : V) (cv : Value) (b : Bool), xs = [.ref a, c] ∧ (∀ u, RelV c u → u = cv) ∧ (d = none ∨ ∃ dd fs, d = some dd ∧ H dd = some (.xd fs)) ∧ PySem.W.kitOne K (.ref D) cv = some b ∧ Q (.bl b) H
theorem call_isX {a D : Addr} {d : Option Addr} {oe : Obj} {pn : List (Addr × Obj)} (C : XisC X.K D) (hz : Zc (.ref D) d oe) (hf : ∃ vs, oe.data = .fields vs) : CallR (X.suite a ((a, oe) :: pn)) (.builtin "isinstance") (rIsX X.K D a d) := by
  intro pins s σ H xs us Q I r h
  obtain ⟨c, cv, b, rfl, hcv, hd, e, q⟩ := h
  cases r with
  | cons rx rr =>
    cases rr with
    | cons rt rr =>
      cases rr
      cases rx
      have ec := hcv _ rt
      subst ec
      obtain ⟨hget, _⟩ := I.pin (a, oe) (List.mem_append.mpr (.inl List.mem_cons_self))
      obtain ⟨vs, hv⟩ := hf
      have J : ∃ od, PySem.W.InstAt s.heap a oe D od := by
        rcases hd with rfl | ⟨dd, fs, rfl, hx⟩
        · obtain ⟨oc, od, oda, osl⟩ := oe
          obtain ⟨h1, h2⟩ := hz
          dsimp only at h1 h2 hv
          subst h1 h2 hv
          exact ⟨none, hget, rfl, rfl, trivial⟩
        · have ho : ObjOk X.prog X.w H s.heap dd (.xd fs) := I.hok dd _ hx
          obtain ⟨mA, hns, _⟩ := ho
          obtain ⟨od, ho2, _⟩ := lookIn_ns hns
          exact ⟨some od, hget, hz.1, by unfold PySem.W.notCls; rw [hv] <;> rfl, by rw [hz.2]; exact ho2⟩
      obtain ⟨od, J⟩ := J
      exact PySem.W.kia_one (PySem.W.kitx_exc C.c C.ga C.gt C.s C.a C.n C.t C.m) I.kIn J e (fun z => nomatch z) fun tk => ⟨.bl b, H, I.kept (t' := tk) fun _ _ z => z, rfl, q⟩
/-- isinstance(e, y): what it says of errors of the named classes -/
def XisT (K : PySem.W.Frag) (mg : Str → Option Value) (y : Str) (tbl : List (Str × Bool)) : Prop := mg y = some (.ref (He.ga K y)) ∧
  ∀ c b cls, tbl.lookup c = some b → mg c = some cls → ∃ D, cls = .ref D ∧ XisC K D ∧ PySem.W.kitOne K (.ref D) (.ref (He.ga K y)) = some b
theorem mem_lookup {c : Str} {b : Bool} : ∀ {tbl : List (Str × Bool)}, tbl.lookup c = some b → (c, b) ∈ tbl
  | [], e => by cases e
  | (q1, q2) :: r, e => by
    rw [List.lookup_cons] at e
    split at e
    · rename_i z
      cases e
      rw [eq_of_beq z]
      exact List.mem_cons_self
    · exact List.mem_cons_of_mem _ (mem_lookup e)
def vIs (tbl : List (Str × Bool)) : VF := fun c _ => (tbl.lookup c).map PV.bl
theorem RX.dict {Y : Kx} {H : Hp} {g : G} {L : Nat} {c : Str} {fs : List (Str × PV)} {cls : Value} {d : Option Addr} (h : RX Y H g L c fs cls d) : d = none ∨ ∃ dd fs, d = some dd ∧ H dd = some (.xd fs) := by
  rcases h.2 with ⟨_, h⟩ | ⟨dx, vs, h1, h2, _⟩
  · exact Or.inl h
  · exact Or.inr ⟨dx, _, h1, h2⟩
theorem VE.isX {y : Str} {tbl : List (Str × Bool)} {e : Expr} {p p2 pos : Pos} (T : XisT X.K X.mg y tbl) (hg : Gl X "isinstance") (hm : X.mg "isinstance" = none) (hgy : Gl X y) (he : ∀ (a : Addr) (pn : List (Addr × Obj)), PE (X.suite a pn) e (tVar i)) (hdy : (y == ("__debug__" : Str)) = false := by decide)
    (h1 : starEach (e :: [.Name y p2]) X.env = (false, eval e X.env) :: starEach [.Name y p2] X.env := by rfl) (h2 : starEach [.Name y p2] X.env = (false, eval (.Name y p2) X.env) :: starEach [] X.env := by rfl)
    (hpl : (backTo pos (starEach [.Name y p2] X.env)).any (·.1) = false := by rfl) :
    VE X i (.Call (.Name "isinstance" p) [e, .Name y p2] [] pos) (vIs tbl) := by
  intro a oe cls d pn hz hf
  have hC : ∀ (σ : L2.St) (H : Hp) (Q : VK), liftV X i a cls d (vIs tbl) σ H Q → ∃ D, cls = .ref D ∧ XisC X.K D := fun σ H Q ⟨g, Γ, S, c, fs, q, rel, rg, hi, rx, ee, k⟩ => by
    simp only [vIs, Option.map_eq_some_iff] at ee
    obtain ⟨b, e1, rfl⟩ := ee
    obtain ⟨D, z1, z2, _⟩ := T.2 c b cls e1 rx.1
    exact ⟨D, z1, z2⟩
  refine ⟨fun pins s σ H Q I h => ?_⟩
  obtain ⟨D, rfl, C⟩ := hC σ H Q h
  have base := pe_callB (X := X.suite a ((a, oe) :: pn)) (p := p) (pos := pos) (x := "isinstance") (call_isX C hz hf) hg hm (by decide +kernel) (pa_cons (he a _) (pa_cons (pe_glob (v := .ref (He.ga X.K y)) hgy T.1 rfl hdy) pa_nil h2) h1) (by decide) (by decide) h1 hpl
  refine base.run pins s σ H Q I ?_
  obtain ⟨g, Γ, S, c, fs, q, rel, rg, hi, rx, ee, k⟩ := h
  simp only [vIs, Option.map_eq_some_iff] at ee
  obtain ⟨b, e1, rfl⟩ := ee
  obtain ⟨D', z1, z2, z3⟩ := T.2 c b _ e1 rx.1
  cases z1
  exact ⟨_, hi, .ref (He.ga X.K y), .ref (He.ga X.K y), b, rfl, fun u r => r, rx.dict, z3, k g H _ (Ext.refl rel) RV.bl⟩
end
end Pv
namespace Pv
open PySem PySem.Spec PyProof.Rows L2
section
variable {X : Cx} {W : WX} {N : List Str} {sc : Scope} {k : Nat}
/-- a field f of an own error class x, that may be read -/
structure XfX (K : PySem.W.Frag) (mg : Str → Option Value) (x f : Str) : Prop where
  g : mg x = some (.ref (He.ga K x))
  t : XfC K (He.ga K x)
  no : PySem.W.findIn K (.ref (He.ga K x)) f = some none
theorem Body.suVar (b : Body X W N sc k) (i : Nat) (x : Str) {pos : Pos} (h : slC N sc i x = true) : ∀ (a : Addr) (pn : List (Addr × Obj)), PE (X.suite a pn) (.Name x pos) (tVar i) := by
  have b1 := b.hN
  have b2 := b.sc
  subst b1 b2
  obtain ⟨h1, h2, h3, h4⟩ := slC_ok h
  exact fun a pn => pe_var (X := X.suite a pn) h1 h2 h3 h4
theorem Body.fld (b : Body X W N sc k) {i : Nat} {x f n : Str} {p1 p2 : Pos} (T : XfX X.K X.mg x f) (h : slC N sc i n = true) : VE X i (.Attribute (.Name n p1) f p2) (vFld x f) := VE.fld T.t T.g T.no (b.suVar i n h)
theorem Body.isX (b : Body X W N sc k) {i : Nat} {y n : Str} {tbl : List (Str × Bool)} {p1 p2 p3 pos : Pos} (T : XisT X.K X.mg y tbl) (hg : Gl X "isinstance") (hm : X.mg "isinstance" = none) (hgy : Gl X y) (h : slC N sc i n = true) (hdy : (y == ("__debug__" : Str)) = false := by decide) :
    VE X i (.Call (.Name "isinstance" p1) [.Name n p2, .Name y p3] [] pos) (vIs tbl) := VE.isX T hg hm hgy (b.suVar i n h) hdy
theorem Body.named (b : Body X W N sc k) (nd : N.Nodup) (i : Nat) (n : Str) (h : (decide (N[i]? = some n) && decide (sc.names.lookup n = some .local)) = true) {x : Str} {C : Addr} {tbl : List (Str × Bool)} {u : XF} {b₀ : Stmt} {suite : List Stmt} {np pos' : Pos} {hds : List ExceptHandler} {l : List (List (Str × Bool) × XF)}
    (hg : Gl X x) (hdb : (x == ("__debug__" : Str)) = false) (hm : X.mg x = some (.ref C)) (ht : ∀ c b cls, tbl.lookup c = some b → X.mg c = some cls → PySem.W.exmOne X.K cls (.ref C) = some b)
    (hs : SuOk X (b₀ :: suite) (fun a cls d => liftN X i a cls d u)) (r : HdX X hds l) : HdX X (.ExceptHandler (some (.Name x np)) (some n) (b₀ :: suite) pos' :: hds) ((tbl, xAs i u) :: l) := by
  have b1 := b.hN
  have b2 := b.sc
  subst b1 b2
  simp only [Bool.and_eq_true, decide_eq_true_eq] at h
  exact .named nd h.1 h.2 hg hdb hm ht hs r
end
end Pv
namespace Pv
open PySem PySem.Spec PyProof.Rows L2
/-! What is raised goes on; places that are written. -/
section
variable {Γ : Gam} {S : Sto} {c : Str} {fs : List (Str × PV)} {f f' : OF} {a b tc : EF} {p q : PV} {k : Bool} {tr : AF} {s r : BF}
@[simp] theorem opK_ex : opK f b Γ (.ex c fs S) = .ex c fs S := (rfl)
@[simp] theorem opK2_ex : opK2 f p (.ex c fs S) = .ex c fs S := (rfl)
@[simp] theorem chK_ex : chK f f' b tc Γ (.ex c fs S) = .ex c fs S := (rfl)
@[simp] theorem chK2_ex : chK2 f f' p tc Γ (.ex c fs S) = .ex c fs S := (rfl)
@[simp] theorem uK_ex {g : PV → PV} : uK g (.ex c fs S) = .ex c fs S := (rfl)
@[simp] theorem negK_ex : negK (.ex c fs S) = .ex c fs S := (rfl)
@[simp] theorem beK_ex : beK (.ex c fs S) = .ex c fs S := (rfl)
@[simp] theorem btK_ex : btK (.ex c fs S) = .ex c fs S := (rfl)
@[simp] theorem andK_ex : andK r Γ (.ex c fs S) = .ex c fs S := (rfl)
@[simp] theorem orK_ex : orK r Γ (.ex c fs S) = .ex c fs S := (rfl)
@[simp] theorem notK_ex : notK (.ex c fs S) = .ex c fs S := (rfl)
@[simp] theorem eandK_ex : eandK b Γ (.ex c fs S) = .ex c fs S := (rfl)
@[simp] theorem eorK_ex : eorK b Γ (.ex c fs S) = .ex c fs S := (rfl)
@[simp] theorem enotK_ex : enotK (.ex c fs S) = .ex c fs S := (rfl)
@[simp] theorem eifK_ex : eifK a b Γ (.ex c fs S) = .ex c fs S := (rfl)
@[simp] theorem consK_ex : consK tr Γ (.ex c fs S) = .ex c fs S := (rfl)
@[simp] theorem consK2_ex : consK2 p (.ex c fs S) = .ex c fs S := (rfl)
@[simp] theorem tupK_ex : tupK (.ex c fs S) = .ex c fs S := (rfl)
@[simp] theorem lstK_ex : lstK k (.ex c fs S) = .ex c fs S := (rfl)
@[simp] theorem calK_ex {g : CF} : calK g (.ex c fs S) = .ex c fs S := (rfl)
@[simp] theorem calPK_ex {g : List PV → RP} : calPK g (.ex c fs S) = .ex c fs S := (rfl)
@[simp] theorem calWK_ex {g : List PV → Sto → R PV} : calWK g (.ex c fs S) = .ex c fs S := (rfl)
@[simp] theorem emK_ex {T : String} {g : MF} : emK T g tr Γ (.ex c fs S) = .ex c fs S := (rfl)
@[simp] theorem emK2_ex {g : MF} : emK2 g p (.ex c fs S) = .ex c fs S := (rfl)
@[simp] theorem augK_ex {i : Nat} : augK i f p Γ (.ex c fs S) = .ex c fs Γ S := (rfl)
@[simp] theorem rsK_ex {x y : Str} : rsK x y Γ (.ex c fs S) = .ex c fs Γ S := (rfl)
/-! places -/
section
variable {α : Type} {x0 x1 x2 x3 x4 : α} {xs : List α}
@[simp] theorem atI_0 : L2.atI (x0 :: xs) 0 = some x0 := by
  unfold L2.atI ixN; simp
@[simp] theorem atI_1 : L2.atI (x0 :: x1 :: xs) 1 = some x1 := by
  unfold L2.atI ixN
  rw [if_pos (by decide), if_pos (by simp <;> omega)]; rfl
@[simp] theorem atI_2 : L2.atI (x0 :: x1 :: x2 :: xs) 2 = some x2 := by
  unfold L2.atI ixN
  rw [if_pos (by decide), if_pos (by simp <;> omega)]; rfl
@[simp] theorem atI_3 : L2.atI (x0 :: x1 :: x2 :: x3 :: xs) 3 = some x3 := by
  unfold L2.atI ixN
  rw [if_pos (by decide), if_pos (by simp <;> omega)]; rfl
@[simp] theorem atI_4 : L2.atI (x0 :: x1 :: x2 :: x3 :: x4 :: xs) 4 = some x4 := by
  unfold L2.atI ixN
  rw [if_pos (by decide), if_pos (by simp <;> omega)]; rfl
end
/-! try -/
def tryXK (l : List (List (Str × Bool) × XF)) : RS → RS
  | .ex c fs Γ1 S1 => match xPick l c with
    | none => .bad
    | some none => .ex c fs Γ1 S1
    | some (some u) => noX (u c fs Γ1 S1)
  | r => r
variable {t : SF} {l : List (List (Str × Bool) × XF)} {u : XF}
@[simp] theorem sTryX_eq : sTryX t l Γ S = tryXK l (t Γ S) := by unfold sTryX tryXK; cases t Γ S <;> rfl
@[simp] theorem tryXK_nx : tryXK l (.nx Γ S) = .nx Γ S := (rfl)
@[simp] theorem tryXK_rt : tryXK l (.rt p S) = .rt p S := (rfl)
@[simp] theorem noX_nx : noX (.nx Γ S) = .nx Γ S := (rfl)
@[simp] theorem noX_rt : noX (.rt p S) = .rt p S := (rfl)
@[simp] theorem offR_nx {i : Nat} : offR i (.nx Γ S) = .nx (Γ.set i none) S := (rfl)
end
end Pv
/-! Pv22: instances: fields read, stored; what a class makes. -/
namespace Pv
open PySem PySem.Spec PyProof.Rows L2
section
variable {X : Cx} {W : WX} {H H' H'' : Hp} {g g' : G} {S S' : Sto} {σ : L2.St} {Γ : Gam}
/-- a field f of the class c that may be read and stored -/
structure AttT (K : PySem.W.Frag) (mg : Str → Option Value) (c f : Str) : Prop where
  gg : mg c = some (.ref (He.ga K c))
  cl : Cls K (He.ga K c)
  no : NoAttr K (He.ga K c) f
theorem attB_ok {K : PySem.W.Frag} {h : Heap} {mg : Str → Option Value} {c f : Str} (Y : K.In h) (G : h.Ns mainGlobals mg) (q : attB K c f = true) : AttT K mg c f := by
  obtain ⟨c1, q⟩ := He.ba q
  obtain ⟨c2, c3⟩ := He.ba q
  exact ⟨He.glo_ok Y G c1, He.cls_ok c2, He.noat_ok c3⟩
/-- a field, by name -/
def fldP (cs : List Str) (f : Str) (S : Sto) (p : PV) : Option PV := match derefH S p with
  | some (.ins c ns, xs) => if c ∈ cs then (ns.zip xs).lookup f else none
  | _ => none
theorem zip_lookup {Y : Kx} {L : Nat} {f : Str} {p : PV} : ∀ {ns : List Str} {xs : List PV} {vs : List V}, RVs Y H g L xs vs → (ns.zip xs).lookup f = some p → ∃ v, (ns.zip vs).lookup f = some v ∧ RV Y H g L p v
  | [], xs, vs, _, h => by simp at h
  | n :: ns, [], vs, _, h => by simp at h
  | n :: ns, x :: xs, vs, rv, h => by
    simp only [RVs] at rv
    obtain ⟨v, r, rfl, h1, h2⟩ := rv
    rw [List.zip_cons_cons, List.lookup_cons] at h ⊢
    by_cases z : (f == n) = true
    · rw [z] at h ⊢
      cases h
      exact ⟨v, rfl, h1⟩
    · have z : (f == n) = false := by simpa using z
      rw [z] at h ⊢
      exact zip_lookup h2 h
def eFld (cs : List Str) (f : Str) (t : EF) : EF := fun Γ S => (t Γ S).bind fun p S1 => match fldP cs f S1 p with
  | some v => .ok v S1
  | none => .bad
theorem fld_ok {cs : List Str} {f : Str} {p q : PV} {x : V} (T : ∀ c ∈ cs, AttT X.K X.mg c f) (rel : Rel X H g S) (rx : RV X H g S.length p x) (h : fldP cs f S p = some q) :
    ∃ a C dx fs v, x = .ref a ∧ H a = some (.ins C dx fs) ∧ Cls X.K C ∧ NoAttr X.K C f ∧ fs.lookup f = some v ∧ RV X H g S.length q v := by
  unfold fldP at h
  split at h
  · rename_i c ns xs e
    split at h
    · rename_i hc
      obtain ⟨a, vs, o, rfl, h2, h3, h4⟩ := derefH_ok rel rx e
      obtain ⟨C, dx, hm, hl, rfl⟩ := h3
      have t := T c hc
      have : some (Value.ref (He.ga X.K c)) = some (.ref C) := t.gg.symm.trans hm
      cases this
      obtain ⟨v, l1, l2⟩ := zip_lookup h2 h
      exact ⟨a, _, dx, _, v, rfl, h4, t.cl, t.no, l1, l2⟩
    · cases h
  · cases h
theorem E.fld {cs : List Str} {f : Str} {e : Expr} {t : EF} {pos : Pos} (T : ∀ c ∈ cs, AttT X.K X.mg c f) (h : E X W e t) (hb : attributeBase e f X.env (eval e X.env) = eval e X.env := by rfl) : E X W (.Attribute e f pos) (eFld cs f t) :=
  pe_imp (pe_fld h hb) fun σ H Q ⟨g, Γ, S, rel, rg, ok⟩ => ⟨g, Γ, S, rel, rg, OKw.mono (OKw.bind ok) fun p S1 g1 H1 _ e1 h1 x rx => by
    split at h1
    · rename_i v hv
      obtain ⟨a, C, dx, fs, w, rfl, q1, q2, q3, q4, q5⟩ := fld_ok T e1.rel rx hv
      exact ⟨a, C, dx, fs, w, rfl, q1, q2, q3, q4, OKw.ok e1.rel h1 w q5⟩
    · exact h1.elim⟩
/-! a field stored -/
def putN (f : Str) (v : PV) : List Str → List PV → List Str × List PV
  | [], _ => ([f], [v])
  | n :: ns, xs => match xs with
    | [] => ([f], [v])
    | x :: xs => if n = f then (n :: ns, v :: xs) else (n :: (putN f v ns xs).1, x :: (putN f v ns xs).2)
theorem putN_ok {Y : Kx} {L : Nat} {f : Str} {p : PV} {w : V} (hp : RV Y H g L p w) : ∀ {ns : List Str} {xs : List PV} {vs : List V}, ns.length = vs.length → RVs Y H g L xs vs →
    ∃ ws, RVs Y H g L (putN f p ns xs).2 ws ∧ (putN f p ns xs).1.length = ws.length ∧ (putN f p ns xs).1.zip ws = putF f w (ns.zip vs)
  | [], xs, vs, hl, rv => by
    cases vs with
    | nil => exact ⟨[w], RVs.cons hp RVs.nil, rfl, rfl⟩
    | cons _ _ => simp at hl
  | n :: ns, xs, vs, hl, rv => by
    cases vs with
    | nil => simp at hl
    | cons v vs =>
      cases xs with
      | nil => simp only [RVs] at rv; cases rv
      | cons x xs =>
        simp only [RVs] at rv
        obtain ⟨v', r, e, h1, h2⟩ := rv
        cases e
        by_cases z : n = f
        · refine ⟨w :: vs, ?_, ?_, ?_⟩
          · simp only [putN, if_pos z]; exact RVs.cons hp h2
          · simp only [putN, if_pos z]; simpa using hl
          · simp only [putN, if_pos z, List.zip_cons_cons, putF]
        · obtain ⟨ws, q1, q2, q3⟩ := putN_ok hp (ns := ns) (xs := xs) (vs := vs) (by simpa using hl) h2
          refine ⟨v :: ws, ?_, ?_, ?_⟩
          · simp only [putN, if_neg z]; exact RVs.cons h1 q1
          · simp only [putN, if_neg z, List.length_cons, q2]
          · simp only [putN, if_neg z, List.zip_cons_cons, putF, q3]
def stF (cs : List Str) (f : Str) (v : PV) (S : Sto) (p : PV) : Option Sto := match p with
  | .ref n => match S[n]?.join with
    | some (.ins c ns, xs) => if c ∈ cs ∧ ns.length < 1000 then some (S.set n (some (.ins c (putN f v ns xs).1, (putN f v ns xs).2))) else none
    | _ => none
  | _ => none
def sFldF (cs : List Str) (f : Str) (to te : EF) : SF := fun Γ S => (te Γ S).st Γ fun v S1 => (to Γ S1).st Γ fun o S2 => match stF cs f v S2 o with
  | some S3 => .nx Γ S3
  | none => .bad
theorem St.fld {cs : List Str} {f : Str} {o e : Expr} {to te : EF} {pos pos' : Pos} (T : ∀ c ∈ cs, AttT X.K X.mg c f) (ho : E X W o to) (he : E X W e te) (hs : swapsWith e (some (.Attribute o f pos')) pos.line X.env = pure false := by rfl) :
    St X W (.Assign [.Attribute o f pos'] e pos) (sFldF cs f to te) :=
  ps_imp (ps_fld ho he hs) fun D σ H ⟨g, Γ, S, rel, rg, ok⟩ => by
    refine ⟨g, Γ, S, rel, rg, OKw.mono (OKs.st rel rg ok) fun v S1 g1 H1 _ e1 h1 y ry => ?_⟩
    have rg1 := rg.up rel e1
    refine ⟨g1, Γ, S1, e1.rel, rg1, OKw.mono (OKs.st e1.rel rg1 h1) fun p S2 g2 H2 _ e2 h2 x rx => ?_⟩
    have ry2 := RV.up e1.rel e2 _ _ ry
    have rg2 := rg1.up e1.rel e2
    split at h2
    · rename_i S3 hs3
      unfold stF at hs3
      split at hs3
      · rename_i nn _
        split at hs3
        · rename_i c ns xs ej
          split at hs3
          · rename_i hc
            cases hs3
            have hn := join_some ej
            obtain ⟨u, vs, q1, q2, _, q4⟩ := e2.rel.ob nn _ _ hn
            obtain ⟨C, dx, hm, hl, rfl⟩ := q2
            have t := T c hc.1
            have : some (Value.ref (He.ga X.K c)) = some (.ref C) := t.gg.symm.trans hm
            cases this
            simp only [RV] at rx
            obtain ⟨ws, w1, w2, w3⟩ := putN_ok (f := f) ry2 hl q4
            refine ⟨g2.r nn, _, dx, _, rx.2, q1, t.cl, t.no, ?_, ?_⟩
            · rw [List.length_zip, ← hl]; omega
            · have e3 := set_ok e2.rel hn (k' := .ins c (putN f v ns xs).1) (o' := .ins (He.ga X.K c) dx (putF f y (ns.zip vs))) ⟨_, dx, hm, w2, by rw [w3]⟩ (by intro z; cases z) w1
              exact h2 _ _ σ e3 (rg2.up e2.rel e3)
          · cases hs3
        · cases hs3
      · cases hs3
    · exact h2.elim
end
/-! ### what a class makes: its __init__ as a function of data -/
/-- a new instance of c stands at the first place; the rest as a def's run -/
def runI (c : Str) (np n : Nat) (body : SF) (args : List PV) : RP := if args.length + 1 = np then (match body (some (.ref 0) :: (args.map some ++ List.replicate (n - (args.length + 1)) none)) [some (.ins c [], [])] with
  | .nx _ S => resP S (.ref 0)
  | .rt .non S => resP S (.ref 0)
  | .ex c fs _ S => if cleans (fs.map (·.2)) = true then .ex c fs else .bad
  | _ => .bad) else .bad
def OKi (Y : Kx) (H : Hp) (g : G) (x : Addr) (r : RP) (Q : VK) (E : XK) : Prop := match r with
  | .ok v => ∀ H' F', Gro H g H' F' → RV Y H' (Gp F') 0 v (.ref x) → Q .non H'
  | .ex c fs => ∀ H' F' cls d, Gro H g H' F' → RX Y H' (Gp F') 0 c fs cls d → E cls d H'
  | .bad => False
def spI (Y : Kx) (c : Str) (f : List PV → RP) : Sp := fun vs H Q E => ∃ (H1 : Hp) (x dx C : Addr) (ws : List V) (g : G) (ps : List PV), vs = .ref x :: ws ∧ Y.mg c = some (.ref C) ∧ H1 x = none ∧ H1 dx = none ∧ dx ≠ x ∧ H = upd (upd H1 dx (.own x)) x (.ins C dx []) ∧
  RVs Y H1 g 0 ps ws ∧ (∀ a, g.F a ∨ g.T a → ∃ o, H1 a = some o) ∧ OKi Y H1 g x (f ps) Q E
section
variable {P : Program} {w : World} {K : PySem.W.Frag} {mg : Str → Option Value} {base : Heap}
theorem fnI {c qual : Str} {st : Stmt} {dvs : List V} {kws : List (Str × V)} {f : Addr} {fd : FuncData} {N ps : List Str} {k np n : Nat} {body : SF} (F : FunD K "__init__" qual (defArgs st) (defBody st) (defScope st) dvs kws f fd) (Sc : FnScope N ps (defScope st)) (hnp : ps.length = np) (hn : N.length = n)
    (hbody : ∀ (X : Cx) (W : WX), X.prog = P → X.w = w → X.K = K → X.mg = mg → X.base = base → Body X W N (defScope st) k → Ss X W (defBody st) body) : FnOk P w K mg base (L2.CX P w) (k + 1) f fd ps (spI ⟨K, mg⟩ c (runI c np n body)) := by
  refine F.ok Sc (fun vs H Q E ⟨H1, x, dx, C, ws, g, qs, e, hm, h1, h2, hne, eH, rv, htr, ok⟩ => ?_) (fun cdv A outer s H vs Q E hr ⟨H1, x, dx, C, ws, g, qs, e, hm, h1, h2, hne, eH, rv, htr, ok⟩ => ?_)
  · unfold runI at ok
    split at ok
    · rename_i el
      rw [e, List.length_cons, ← rv.len, el, hnp]
    · exact ok.elim
  · unfold runI at ok
    split at ok
    · rename_i elen
      subst hn
      subst e
      let X := cxOf (L2.CX P w) P w K mg base N qual (defScope st) f cdv A outer s H E
      have tk : Takes X (fun cls d _ H => E cls d H) := takes_of rfl rfl rfl rfl
      have hb := hbody X (fun cls d _ H => E cls d H) rfl rfl rfl rfl rfl ⟨rfl, rfl, rfl, fun _ => rfl, hr, tk, passes_of rfl, rfl, rfl⟩
      -- the state with the new instance
      have hx : H x = some (.ins C dx []) := by rw [eH, upd_same]
      have old : ∀ {a o}, H1 a = some o → H a = some o := fun {a o} q => by
        rw [eH, upd_ne (ne_of_none q h1), upd_ne (ne_of_none q h2)]; exact q
      let g0 : G := ⟨g.F, g.T, fun _ => x⟩
      have nF : ¬ g.F x := fun z => by obtain ⟨o, q⟩ := htr x (Or.inl z); rw [h1] at q; cases q
      have nT : ¬ g.T x := fun z => by obtain ⟨o, q⟩ := htr x (Or.inr z); rw [h1] at q; cases q
      have al : ∀ {i : Nat}, Al [some (Kd.ins c [], ([] : List PV))] i → i = 0 := fun {i} ⟨q, e⟩ => by
        cases i with
        | zero => rfl
        | succ i => simp at e
      have rel : Rel ⟨K, mg⟩ H g0 [some (.ins c [], [])] := by
        refine ⟨fun i kd xs e => ?_, fun i j hi hj _ => (al hi).trans (al hj).symm, fun i _ => nF, fun i _ => nT, fun a z => ?_⟩
        · obtain rfl := al ⟨_, e⟩
          simp only [List.getElem?_cons_zero, Option.some.injEq, Prod.mk.injEq] at e
          obtain ⟨rfl, rfl⟩ := e
          exact ⟨_, [], hx, ⟨C, dx, hm, rfl, rfl⟩, (by intro z; cases z), RVs.nil⟩
        · obtain ⟨o, q⟩ := htr a z
          exact ⟨o, old q⟩
      have up : Up H1 g 0 H g0 1 := ⟨fun a o q _ => old q, fun _ q => q, fun _ q => q, fun i hi => absurd hi (Nat.not_lt_zero _), Nat.zero_le _⟩
      have rv2 : RVs ⟨K, mg⟩ H g0 1 (.ref 0 :: qs) (.ref x :: ws) := RVs.cons (by simp only [RV]; exact ⟨Nat.zero_lt_one, rfl⟩) (RVs.mono up _ _ rv)
      refine ⟨_, hb, g0, _, [some (.ins c [], [])], rel, start_rg (N := N) (n := 0) rv2, ?_⟩
      have gro : ∀ {H' : Hp} {g' : G} {S' : Sto}, Ext ⟨K, mg⟩ H g0 [some (.ins c [], [])] H' g' S' → Gro H1 g H' (endF g' S') := fun {H' g' S'} e => by
        have inH1 : ∀ a, H a = none → H1 a = none := fun a q => by
          cases z : H1 a with
          | none => rfl
          | some o => rw [old z] at q; cases q
        refine ⟨fun a h => Or.inl (e.fr a h), fun a o h => e.frame a o (old h) fun i hi z => ?_, fun a h => ?_, fun a h => ?_⟩
        · have z : x = a := z
          subst z; rw [h1] at h; cases h
        · rcases h with h | ⟨i, hi, rfl⟩
          · exact e.rel.tr a (Or.inl h)
          · exact e.rel.tracked hi
        · rcases h with h | ⟨i, hi, rfl⟩
          · rcases e.nf a h with z | z | ⟨i, _, z⟩
            · exact Or.inl z
            · exact Or.inr (inH1 a z)
            · have z : x = a := z
              subst z; exact Or.inr h1
          · rcases e.old i hi with ⟨_, z⟩ | z
            · rw [z]; exact Or.inr h1
            · exact Or.inr (inH1 _ z)
      have cu : ∀ {H' : Hp} {g' : G} {S' : Sto}, CUp H' g' H' (Gp (endF g' S')) := fun {H' g' S'} => ⟨fun _ _ h _ => h, fun _ h => Or.inl h⟩
      have fin : ∀ {H' : Hp} {g' : G} {S' : Sto}, OKi ⟨K, mg⟩ H1 g x (resP S' (.ref 0)) Q E → Ext ⟨K, mg⟩ H g0 [some (.ins c [], [])] H' g' S' → Q .non H' := fun {H' g' S'} h e => by
        unfold resP at h
        split at h
        · rename_i q eq
          have r0 : RV ⟨K, mg⟩ H' g' S'.length (.ref 0) (.ref x) := by
            simp only [RV]
            exact ⟨Nat.lt_of_lt_of_le Nat.zero_lt_one e.len, by rw [e.rho 0 Nat.zero_lt_one]⟩
          exact h H' _ (gro e) (frzV_ok e.rel 9 _ _ q r0 eq)
        · exact h.elim
      have eΓ : List.map some (PV.ref 0 :: qs) ++ List.replicate (N.length - (PV.ref 0 :: qs).length) none = some (.ref 0) :: (qs.map some ++ List.replicate (N.length - (qs.length + 1)) none) := by simp
      rw [eΓ]
      generalize eb : body (some (.ref 0) :: (qs.map some ++ List.replicate (N.length - (qs.length + 1)) none)) [some (.ins c [], [])] = r at ok
      cases r with
      | nx Γ' S' => exact fun g' H' σ' e1 _ => fin ok e1
      | rt v S' =>
        cases v with
        | non =>
          intro g' H' v' e1 rvv
          rw [rvv.non_inv]
          exact fin ok e1
        | _ => exact ok.elim
      | ex c' fs Γ' S' =>
        intro g' H' σ' cls d e1 _ rx
        have h3 : OKi ⟨K, mg⟩ H1 g x (if cleans (fs.map (·.2)) = true then .ex c' fs else .bad) Q E := ok
        split at h3
        · rename_i cl
          refine h3 H' _ cls d (gro e1) ?_
          obtain ⟨q1, q2⟩ := rx
          refine ⟨q1, ?_⟩
          rcases q2 with q2 | ⟨dx', vs, z1, z2, z3⟩
          · exact Or.inl q2
          · exact Or.inr ⟨dx', vs, z1, z2, RVs.clean cu _ _ cl z3⟩
        · exact h3.elim
      | bk Γ' S' => exact ok.elim
      | ct Γ' S' => exact ok.elim
      | bad => exact ok.elim
    · exact ok.elim
/-- a class that may be called by its name, with so many arguments; dps: what fills up -/
structure Mka (P : Program) (w : World) (K : PySem.W.Frag) (mg : Str → Option Value) (base : Heap) (k : Nat) (c : Str) (f : List PV → RP) (m : Nat) (dps : List PV) : Prop where
  ex : ∃ (C fI : Addr) (fd : FuncData) (ps : List Str) (dvs : List V) (ds : List Value), L2.Mk K C fI ∧ FnOk P w K mg base (L2.CX P w) k fI fd ps (spI ⟨K, mg⟩ c f) ∧ mg c = some (.ref C) ∧ Binds K fd ps ds ∧ Vals dvs ds ∧ ps.length = m + 1 + ds.length ∧ ∀ H g, RVs ⟨K, mg⟩ H g 0 dps dvs
end
section
variable {X : Cx} {W : WX} {CX : CXT} {k j : Nat} {f C : Addr} {fd : FuncData} {ps : List Str} {sp : Sp} {EE : L2.St → XK} {x : Str} {p pos : Pos} {e : Expr} {es : List Expr} {t : TA} {dvs : List V} {ds : List Value}
/-- C(e, ..), what is raised is wished at the caller's slots -/
theorem pe_makeS (M : L2.Mk X.K C f) (F : FnOk X.prog X.w X.K X.mg X.base CX k f fd ps sp) (hr : Room (k + 1) X.A) (hg : Gl X x) (hm : X.mg x = some (.ref C)) (hb : Binds X.K fd ps ds) (hd : Vals dvs ds) (hx : ∀ σ, PassesAt CX X σ (EE σ))
    (ha : PA X (e :: es) t) (hdb : (x == ("__debug__" : Str)) = false := by decide) (he : starEach (e :: es) X.env = (false, eval e X.env) :: starEach es X.env := by rfl) (hpl : (backTo pos (starEach es X.env)).any (·.1) = false := by rfl) :
    PE X (.Call (.Name x p) (e :: es) [] pos) (fun σ H Q => t σ H fun vs H1 => ∀ y dx, H1 y = none → H1 dx = none → dx ≠ y → sp (.ref y :: (vs ++ dvs)) (upd (upd H1 dx (.own y)) y (.ins C dx [])) (fun v H2 => v = .non ∧ Q (.ref y) H2) (EE σ)) := by
  refine ⟨fun pins s σ H Q inv h => wpAny_Call_Name_kw (ld_glob inv hg hm ?_ hdb)⟩
  refine PySem.W.callWith_K (h₀ := X.base) inv.ok.mod.kin M.kp (thn (ha.run pos pins s σ H _ inv h) fun us s1 ⟨vs, H1, I1, rv, q⟩ => ⟨I1.kIn, ?_⟩) he hpl
  have fr : ∀ {i : Nat}, s1.heap.objs.size ≤ i → H1 i = none := fun {i} hi => I1.hok.fresh hi
  have hq := q (s1.heap.objs.size + 1) s1.heap.objs.size (fr (Nat.le_succ _)) (fr (Nat.le_refl _)) (Nat.ne_of_lt (Nat.lt_succ_self _))
  have I2 := Inv.made (C := C) I1
  have r2 : Vals (V.ref (s1.heap.objs.size + 1) :: (vs ++ dvs)) (Value.ref (s1.heap.objs.size + 1) :: (us ++ ds)) := .cons rfl (rv.append hd)
  have hl : (Value.ref (s1.heap.objs.size + 1) :: us ++ ds).length = ps.length := by
    have e := r2.length
    rw [F.len _ _ _ _ hq] at e
    exact e.symm
  have bind := hb _ (Value.ref (s1.heap.objs.size + 1) :: us) I2.kIn hl
  have body := F.run _ X.stack _ _ ⟨Value.ref (s1.heap.objs.size + 1) :: us, []⟩ (Value.ref (s1.heap.objs.size + 1) :: (us ++ ds)) _ _ (EE σ) (hr.make C us []) (I2.env0.make C us []) bind r2 hq
  refine wpAny_call (make_map (f := f) I1.kIn M.makes M.init (beq_iff_eq.mp M.fn) (codeAny_mono body fun r s' z => ?_))
  cases r with
  | error er => exact hx σ pins _ _ er s' I2 z
  | ok fl =>
    cases fl with
    | ret u =>
      obtain ⟨v, H', I3, r3, rfl, q3⟩ := I2.after z
      exact ⟨r3, ⟨V.ref (s1.heap.objs.size + 1), H', I3, rfl, q3⟩⟩
    | _ => exact False.elim z
end
section
variable {X : Cx} {W : WX} {H H' : Hp} {g g' : G} {S S' : Sto} {k j m : Nat} {x : Str} {p pos : Pos} {e : Expr} {es : List Expr} {tr : AF} {f : List PV → RP} {dps : List PV}
def eMakeP (f : List PV → RP) (m : Nat) (dps : List PV) (t : AF) : EF := fun Γ S => (t Γ S).bind fun ps S1 => if ps.length = m then (match ps.mapM (lendV S1) with
  | some qs => match f (qs ++ dps) with
    | .ok v => .ok v S1
    | .ex c fs => .ex c fs S1
    | .bad => .bad
  | none => .bad) else .bad
theorem E.make (c : Mka X.prog X.w X.K X.mg X.base k x f m dps) (hr : Room j X.A) (tk : Takes X W) (hg : Gl X x) (ha : A X W (e :: es) tr) (hk : k + 1 ≤ j := by decide)
    (hdb : (x == ("__debug__" : Str)) = false := by decide) (he : starEach (e :: es) X.env = (false, eval e X.env) :: starEach es X.env := by rfl) (hpl : (backTo pos (starEach es X.env)).any (·.1) = false := by rfl) :
    E X W (.Call (.Name x p) (e :: es) [] pos) (eMakeP f m dps tr) := by
  obtain ⟨C, fI, fd, ps, dvs, ds, M, F, hm, hb, hd, hl, rd⟩ := c.ex
  refine pe_imp (pe_makeS M F (hr.mono hk) hg hm hb hd (passAt tk) ha hdb he hpl) fun σ H Q ⟨g, Γ, S, rel, rg, ok⟩ => ?_
  refine ⟨g, Γ, S, rel, rg, OKw.mono (OKw.bind ok) fun ps S1 g1 H1 _ e1 h1 xs rxs y dx hy hdx hne => ?_⟩
  split at h1
  · split at h1
    · rename_i qs eq
      have htr : ∀ a, (lendG g1 S1).F a ∨ (lendG g1 S1).T a → ∃ o, H1 a = some o := fun a z => by
        rcases z with z | z | ⟨n, hn, rfl⟩
        · exact e1.rel.tr a (Or.inl z)
        · exact e1.rel.tr a (Or.inr z)
        · exact e1.rel.tracked hn
      refine ⟨H1, y, dx, C, xs ++ dvs, lendG g1 S1, qs ++ dps, rfl, hm, hy, hdx, hne, rfl, (mapM_rv (fun p x q h e => lendV_ok e1.rel h e) rxs eq).append (rd _ _), htr, ?_⟩
      have cu : ∀ {H' : Hp} {F' : Addr → Prop}, Up H' (Gp F') 0 H' ⟨F', g1.T, g1.r⟩ S1.length := fun {H' F'} => ⟨fun _ _ h _ => h, fun _ h => h, fun _ h => False.elim h, fun n h => absurd h (Nat.not_lt_zero n), Nat.zero_le _⟩
      split at h1
      · rename_i v ev
        rw [ev]
        exact fun H' F' u rv => ⟨rfl, h1 _ _ (u.ext e1.rel) (.ref y) (RV.mono cu _ _ rv)⟩
      · rename_i c fs ev
        rw [ev]
        exact fun H' F' cls d u rx => h1 _ _ cls d (u.ext e1.rel) (rx.mono cu)
      · exact h1.elim
    · exact h1.elim
  · exact h1.elim
end
end Pv
/-! Pv23: a written dict's .get, insert, chains of three. -/
namespace Pv
open PySem PySem.Spec PyProof.Rows L2
section
variable {X : Cx} {W : WX} {H H' H'' : Hp} {g g' : G} {S S' : Sto} {σ : L2.St} {Γ : Gam}
/-! ### NAME.get(e, f) of a dict of the module -/
def tWGet (K : PySem.W.Frag) (w : World) (td ty tx : TE) : TE := fun σ H Q => td σ H fun x H1 => ∃ a es n, x = .ref a ∧ KDict K w a es n ∧ ty σ H1 fun y H2 => tx σ H2 fun z H3 => ∃ s r, y = .str s ∧ PySem.W.nsIn K a s = some r ∧
  (match r with | some u => ∃ v, RelV v u ∧ Q v H3 | none => Q z H3)
theorem pe_wget {o e f : Expr} {apos cpos : Pos} {td ty tx : TE} (ho : PE X o td) (he : PE X e ty) (hf : PE X f tx) (m : M2 X o "get" apos e f cpos) : PE X (.Call (.Attribute o "get" apos) [e, f] [] cpos) (tWGet X.K X.w td ty tx) := by
  refine ⟨fun pins s σ H Q I h => ?_⟩
  refine wpAny_Call_method m.base m.few m.line PySem.F.plainAttrs_dict PySem.F.slot_dict_get PySem.F.type_dict_get (thn (ho.run pins s σ H _ I h) fun u s1 ⟨x, H1, I1, rx, a, es, n, ex, D, q1⟩ => ?_)
  subst ex
  obtain rfl : u = Value.ref a := rx
  have hm := PySem.W.mapOf_K (prog := X.prog) (w := X.w) I1.kIn D.at_ D.lit
  refine ⟨hm.typeIs, fun b q => ?_, ?_⟩
  · cases q
    exact ⟨_, I1.kIn _ _ D.at_, rfl⟩
  rw [m.trees]
  refine Calls.callWith_builtin rfl (Calls.evalArgs_plain (Calls.spliced_cons (thn (he.run pins s1 σ H1 _ I1 q1) fun iv s2 ⟨y, H2, I2, ry, q2⟩ =>
    Calls.spliced_cons (thn (hf.run pins s2 σ H2 _ I2 q2) fun fv s3 ⟨z, H3, I3, rz, t, r, ey, hn, q3⟩ => Calls.spliced_nil ?_))))
  subst ey
  obtain ⟨tk, rfl⟩ : ∃ tk, iv = .str t tk := ry
  have hm3 := PySem.W.mapOf_K (prog := X.prog) (w := X.w) I3.kIn D.at_ D.lit
  refine call_meetsIn PySem.F.slot_dict_get hm3.typeIs PySem.F.entry_dict_get (PySem.F.args_dict_get_3 _ _ _) (meets_dict_get_default (strKind X.prog X.w) a (strKind_is X.prog X.w t tk) D.low fv) ⟨_, hm3, ?_⟩
  rw [PySem.W.find_K D.at_ hn]
  cases r with
  | none => exact ⟨z, H3, I3.tok _, rz, q3⟩
  | some u =>
    obtain ⟨v, rv, q⟩ := q3
    exact ⟨v, H3, I3.tok _, rv, q⟩
/-- a dict of the module: text keys, ints -/
structure WMap (K : PySem.W.Frag) (w : World) (mg : Str → Option Value) (x : Str) (kvs : List (Str × Int)) : Prop where
  ex : ∃ a es n, mg x = some (.ref a) ∧ KDict K w a es n ∧ ∀ z, ∃ r, PySem.W.nsIn K a z = some r ∧ (match kvs.lookup z with | some i => ∃ t, r = some (.int i t) | none => r = none)
def mgetV (kvs : List (Str × Int)) (s : Str) (q : PV) : PV := match kvs.lookup s with
  | some i => .int i
  | none => q
def mgetF (kvs : List (Str × Int)) : OF := fun p q S => match p with
  | .str s => some (mgetV kvs s q, S)
  | _ => none
@[simp] theorem mgetF_str {kvs : List (Str × Int)} {s : Str} {q : PV} : mgetF kvs (.str s) q S = some (mgetV kvs s q, S) := (rfl)
theorem E.wget {x : Str} {kvs : List (Str × Int)} {e f : Expr} {te tf : EF} {p ap cp : Pos} (hg : Gl X x) (hm : WMap X.K X.w X.mg x kvs) (he : E X W e te) (hf : E X W f tf) (hd : (x == ("__debug__" : Str)) = false := by decide)
    (m : M2 X (.Name x p) "get" ap e f cp := by exact ⟨rfl, rfl, rfl, rfl⟩) : E X W (.Call (.Attribute (.Name x p) "get" ap) [e, f] [] cp) (eOp (mgetF kvs) te tf) := by
  obtain ⟨a, es, n, h1, h2, h3⟩ := hm.ex
  refine pe_imp (pe_wget (pe_glob (v := .ref a) hg h1 rfl hd) he hf m) fun σ H Q ⟨g, Γ, S, rel, rg, ok⟩ => ?_
  refine ⟨a, es, n, rfl, h2, g, Γ, S, rel, rg, OKw.mono (OKw.bind ok) fun p1 S1 g1 H1 _ e1 k1 y ry => ?_⟩
  have rg1 := rg.up rel e1
  refine ⟨g1, Γ, S1, e1.rel, rg1, OKw.mono (OKw.bind k1) fun q S2 g2 H2 _ e2 k2 z rz => ?_⟩
  have ry2 := RV.up e1.rel e2 _ _ ry
  cases p1 with
  | str s =>
    obtain ⟨r, hr, hl⟩ := h3 s
    refine ⟨s, r, ry2.str_inv, hr, ?_⟩
    have k2 : OKw X W σ H2 g2 S2 (.ok (mgetV kvs s q) S2) _ := k2
    unfold mgetV at k2
    cases ei : kvs.lookup s with
    | some i =>
      rw [ei] at k2 hl
      obtain ⟨t, rfl⟩ := hl
      exact ⟨.int i, ⟨t, rfl⟩, OKw.ok e2.rel k2 _ RV.int⟩
    | none =>
      rw [ei] at k2 hl
      have hl : r = none := hl
      subst hl
      exact OKw.ok e2.rel k2 _ rz
  | _ => exact k2.elim
theorem relK_get {z : Str} : ∀ {es : List DictEntry} {kvs : List (Str × Int)}, relK es kvs = true → (es.any (·.refKey) = false) ∧ (match kvs.lookup z with | some i => ∃ e t, es.find? (·.key.isStr z) = some e ∧ e.val = .int i t | none => es.find? (·.key.isStr z) = none)
  | [], [], _ => ⟨rfl, rfl⟩
  | [], _ :: _, h => by cases h
  | _ :: _, [], h => by cases h
  | e :: es, (k, i) :: kvs, h => by
    obtain ⟨h1, h⟩ := He.ba (show ((match e.key with | .str x _ => decide (x = k) | _ => false) && ((match e.val with | .int j _ => decide (j = i) | _ => false) && relK es kvs)) = true from h)
    obtain ⟨h2, h3⟩ := He.ba h
    obtain ⟨q1, q2⟩ := relK_get h3
    split at h1
    · rename_i x tx ek
      split at h2
      · rename_i j tj ev
        have h1 := of_decide_eq_true h1
        have h2 := of_decide_eq_true h2
        subst h1 h2
        refine ⟨?_, ?_⟩
        · rw [List.any_cons, q1]
          simp [DictEntry.refKey, ek]
        · rw [List.lookup_cons]
          by_cases zx : z = x
          · subst zx
            simp only [BEq.rfl]
            exact ⟨e, tj, by rw [List.find?_cons, ek]; simp [Value.isStr], ev⟩
          · have z1 : (z == x) = false := by simpa using zx
            rw [z1]
            have z2 : e.key.isStr z = false := by rw [ek]; simp [Value.isStr]; exact fun h => zx h.symm
            simp only [List.find?_cons, z2]
            exact q2
      · cases h2
    · cases h1
theorem mapB_ok {K : PySem.W.Frag} {w : World} {h : Heap} {mg : Str → Option Value} {x : Str} {kvs : List (Str × Int)} (Y : K.In h) (G : h.Ns mainGlobals mg) (c : (He.Fa.glo x).ok K = true) (d : ∃ es n, KDict K w (He.ga K x) es n) (q : mapB K x kvs = true) : WMap K w mg x kvs := by
  obtain ⟨es, n, D⟩ := d
  refine ⟨_, es, n, He.glo_ok Y G c, D, fun z => ?_⟩
  unfold mapB at q
  rw [D.at_] at q
  have q : relK es.toList kvs = true := q
  obtain ⟨q1, q2⟩ := relK_get (z := z) q
  unfold PySem.W.nsIn
  rw [D.at_]
  dsimp only
  split at q2
  · obtain ⟨e, t, h1, h2⟩ := q2
    rw [h1]
    exact ⟨_, rfl, t, by rw [h2]⟩
  · rw [q2, q1]
    exact ⟨none, rfl, rfl⟩
/-! ### insert -/
def insertF : MF := lstF fun xs ps => match ps with
  | [.int i, v] => if xs.length < sizeLine ∧ 0 ≤ i ∧ i < 9223372036854775808 then some (.non, xs.take i.toNat ++ [v] ++ xs.drop i.toNat) else none
  | _ => none
@[simp] theorem insertF_eq : insertF = lstF fun xs ps => match ps with
  | [.int i, v] => if xs.length < sizeLine ∧ 0 ≤ i ∧ i < 9223372036854775808 then some (.non, xs.take i.toNat ++ [v] ++ xs.drop i.toNat) else none
  | _ => none := (rfl)
/-! ### a op b op c op d, whole numbers, as a test -/
def ch3K3 (f : Int → Int → Bool) (k : Int) (r : R PV) : R Bool := r.bind fun w S4 => match w with
  | .int l => .ok (f k l) S4
  | _ => .bad
def ch3K2 (f f' : Int → Int → Bool) (j : Int) (td : EF) (Γ : Gam) (r : R PV) : R Bool := r.bind fun z S3 => match z with
  | .int k => if f j k = true then ch3K3 f' k (td Γ S3) else .ok false S3
  | _ => .bad
def ch3K1 (f f' f'' : Int → Int → Bool) (x : PV) (tc td : EF) (Γ : Gam) (r : R PV) : R Bool := r.bind fun y S2 => match x, y with
  | .int i, .int j => if f i j = true then ch3K2 f' f'' j td Γ (tc Γ S2) else .ok false S2
  | _, _ => .bad
def ch3K0 (f f' f'' : Int → Int → Bool) (tb tc td : EF) (Γ : Gam) (r : R PV) : R Bool := r.bind fun x S1 => ch3K1 f f' f'' x tc td Γ (tb Γ S1)
def bCh3 (f f' f'' : Int → Int → Bool) (ta tb tc td : EF) : BF := fun Γ S => ch3K0 f f' f'' tb tc td Γ (ta Γ S)
section
variable {f f' f'' : Int → Int → Bool} {ta tb tc td : EF} {x : PV} {i j k l : Int}
@[simp] theorem bCh3_eq : bCh3 f f' f'' ta tb tc td Γ S = ch3K0 f f' f'' tb tc td Γ (ta Γ S) := (rfl)
@[simp] theorem ch3K0_ok : ch3K0 f f' f'' tb tc td Γ (.ok x S) = ch3K1 f f' f'' x tc td Γ (tb Γ S) := (rfl)
@[simp] theorem ch3K1_ok : ch3K1 f f' f'' (.int i) tc td Γ (.ok (.int j) S) = if f i j = true then ch3K2 f' f'' j td Γ (tc Γ S) else .ok false S := (rfl)
@[simp] theorem ch3K2_ok : ch3K2 f f' j td Γ (.ok (.int k) S) = if f j k = true then ch3K3 f' k (td Γ S) else .ok false S := (rfl)
@[simp] theorem ch3K3_ok : ch3K3 f k (.ok (.int l) S) = .ok (f k l) S := (rfl)
end
end
end Pv
/-! Pv24: classes that may be called; len of an own instance. -/
namespace Pv
open PySem PySem.Spec PyProof.Rows L2
section
variable {K : PySem.W.Frag}
theorem dfT_ok {mg : Str → Option Value} {f : Str × Option Str} {i : Nat} (h : dfTB K f i = true) (H : Hp) (g : G) (L : Nat) : RV ⟨K, mg⟩ H g L (.con .out .tup []) (.ref (He.dflAt f i K)) := by
  simp only [RV]
  refine ⟨_, [], rfl, Or.inr ?_, RVs.nil⟩
  unfold dfTB at h
  split at h
  · rename_i c d its n sl e
    obtain ⟨h1, h2⟩ := He.ba h
    have h1 := of_decide_eq_true h1
    subst h1
    have h2 : its = #[] := Array.isEmpty_iff.mp h2
    subst h2
    exact ⟨_, #[], n, e, rfl, rfl, by simp, .nil⟩
  · cases h
end
def lenOF (c : Str) (f : List PV → RP) (S : Sto) (p : PV) : Option (Kd × List PV) → Option (PV × Sto)
  | some (.ins c' _, _) => if c' = c then (match lendV S p with
    | some q => (match f [q] with
      | .ok (.int n) => if 0 ≤ n ∧ n < 9223372036854775808 then some (.int n, S) else none
      | _ => none)
    | none => none) else none
  | _ => none
def lenF2 (c : Str) (f : List PV → RP) : CF := fun ps S => match lenF ps S with
  | some r => some r
  | none => match ps with
    | [p] => lenOF c f S p (derefH S p)
    | _ => none
section
variable {c : Str} {f : List PV → RP} {S : Sto} {m : Md} {ps : List PV}
@[simp] theorem lenF2_lst : lenF2 c f [.con m .lst ps] S = some (.int ps.length, S) := (rfl)
@[simp] theorem lenF2_tup : lenF2 c f [.con m .tup ps] S = some (.int ps.length, S) := (rfl)
end
end Pv
namespace Pv
theorem atts_nil {K : PySem.W.Frag} {mg : PySem.Str → Option PySem.Value} {f : PySem.Str} : ∀ c ∈ ([] : List PySem.Str), AttT K mg c f := fun _ h => absurd h (List.not_mem_nil)
theorem atts_cons {K : PySem.W.Frag} {mg : PySem.Str → Option PySem.Value} {c f : PySem.Str} {cs : List PySem.Str} (h : AttT K mg c f) (r : ∀ d ∈ cs, AttT K mg d f) : ∀ d ∈ c :: cs, AttT K mg d f := fun d m => by
  rcases List.mem_cons.mp m with m | m
  · subst m; exact h
  · exact r d m
end Pv
/-! Pv25: enumerate of a list that stands still. -/
namespace Pv
open PySem PySem.Spec PyProof.Rows L2
def enumF : Nat → List PV → List PV
  | _, [] => []
  | i, x :: xs => .con .own .tup [.int i, x] :: enumF (i + 1) xs
theorem enumF_get : ∀ {xs : List PV} {i j : Nat}, (enumF i xs)[j]? = (xs[j]?).map fun x => .con .own .tup [.int (i + j : Nat), x]
  | [], i, j => by simp [enumF]
  | x :: xs, i, 0 => by simp [enumF]
  | x :: xs, i, j + 1 => by
    simp only [enumF, List.getElem?_cons_succ]
    rw [enumF_get, show i + 1 + j = i + (j + 1) from by omega]
def iED : PV → Option (Stp × Nat)
  | .con _ .lst xs => some (stL (enumF 0 xs), (enumF 0 xs).length + 1)
  | _ => none
def iE (t : EF) : IF := fun Γ S => (t Γ S).bind fun p S1 => match iED p with
  | some q => .ok q S1
  | none => .bad
section
variable {X : Cx} {W : WX} {H H' : Hp} {g g' : G} {S S' : Sto} {σ : L2.St} {Γ : Gam}
theorem jok_enum {Y : Kx} {m : Md} {xs : List PV} {v : V} (rel : Rel Y H g S) (rv : RV Y H g S.length (.con m .lst xs) v) : ∃ a, v = .ref a ∧ (∃ vs, SqL Y.K H a vs) ∧ JOK Y (Ite Y.K a) (stL (enumF 0 xs)) H g S := by
  have rv0 := rv
  simp only [RV] at rv
  obtain ⟨a, vs, rfl, h2, h3⟩ := rv
  refine ⟨a, rfl, ⟨vs, h2.rdd.lst⟩, fun g' H' S' i e => ?_⟩
  have rv2 := RV.up rel e _ _ rv0
  simp only [RV] at rv2
  obtain ⟨b, ws, eb, q2, q3⟩ := rv2
  cases eb
  have sq := q2.rdd.lst
  refine ⟨fun p hp => ?_, fun hp => ?_⟩
  · have hp : (enumF 0 xs)[i]? = some p := Option.some.inj hp
    rw [enumF_get] at hp
    obtain ⟨x, hx, rfl⟩ := Option.map_eq_some_iff.mp hp
    obtain ⟨y, u1, u2⟩ := q3.get hx
    refine ⟨⟨ws, y, sq, u1⟩, fun u H2 w => ?_⟩
    obtain ⟨T, z, rfl, hT, rfl, hz⟩ := w
    have hz := hz ws sq
    rw [u1] at hz
    cases hz
    obtain ⟨k1, k2⟩ := newF_ok (k := .tup) (xs := [.int (0 + i : Nat), x]) (vs := [.int (i : Nat), y]) e.rel hT rfl (RVs.cons (by rw [Nat.zero_add]; exact RV.int) (RVs.cons u2 RVs.nil))
    exact ⟨_, k1, k2⟩
  · have hp : (enumF 0 xs)[i]? = none := Option.some.inj hp
    rw [enumF_get, Option.map_eq_none_iff] at hp
    exact ⟨ws, sq, by rw [← q3.len]; exact List.getElem?_eq_none_iff.mp hp⟩
def ieK (r : R PV) : R (Stp × Nat) := r.bind fun p S1 => match iED p with
  | some q => .ok q S1
  | none => .bad
@[simp] theorem iE_eq {t : EF} : iE t Γ S = ieK (t Γ S) := (rfl)
@[simp] theorem ieK_lst {m : Md} {xs : List PV} : ieK (.ok (.con m .lst xs) S) = .ok (stL (enumF 0 xs), (enumF 0 xs).length + 1) S := (rfl)
end
end Pv
/-! Pv26: properties that hand out a field; isinstance of own instances; own ==. -/
namespace Pv
open PySem PySem.Spec PyProof.Rows L2
section
/-! ### a property whose getter hands out a field -/
end
/-! ### == by an own __eq__ -/
/-! ### isinstance(x, C) of an instance of C -/
end Pv
/-! Pv27: enumerate of a tuple. -/
namespace Pv
open PySem PySem.Spec PyProof.Rows L2
section
theorem made_enum {v : Value} {o : Obj} {Z : Heap → Prop} (B : Begins v o Z) :
    Meets (Builtin.«enumerate.__new__» ⟨[.type "enumerate", v], []⟩) (fun _ R s => Z s.heap ∧
      R (.ok (.ret (.ref (s.heap.push o).objs.size))) { s with heap := (s.heap.push o).push { cls := .type "enumerate", data := .fields #[.none, .bool false, .ref s.heap.objs.size, rawInt 0, .none, .none] } }) :=
  .of_wp fun prog w A R s ⟨z, k⟩ => by
    obtain ⟨hp, g, d, tk, os⟩ := s
    have hsub := sub_enumerate
    have goes : ∀ {A' : Around} {E : Value → Shared → Prop} {Q : Value → Shared → Prop}, Q (.ref hp.objs.size) ⟨hp.push o, g, d, tk, os⟩ → wpAny (model prog w) A' (pyIter v) Q E ⟨hp, g, d, tk, os⟩ := fun q => B.iter prog w _ _ ⟨hp, g, d, tk, os⟩ _ z q
    wp_walk using goes
    refine wpAny_stack_any fun _ => wpAny_pure ?_
    split
    · rename_i c _ _ _ _ _
      cases (c == Value.type "enumerate") <;> (wp_walk using goes; exact ⟨_, rfl, k⟩)
    · wp_walk using goes
      exact ⟨_, rfl, k⟩
theorem call_enumB {prog : Program} {w : World} {A : Around} {E : Value → Shared → Prop} {s : Shared} {v : Value} {o : Obj} {Z : Heap → Prop} {Q : Value → Shared → Prop} (B : Begins v o Z) (z : Z s.heap)
    (k : ∀ h', IsEnum h' (s.heap.objs.size + 1) s.heap.objs.size 0 .none → h'.get? s.heap.objs.size = some o → (∀ b u, s.heap.get? b = some u → h'.get? b = some u) → Q (.ref (s.heap.objs.size + 1)) { s with heap := h' }) :
    wpAny (model prog w) A (call (.type "enumerate") [v]) Q E s := by
  refine callType_new F.called_enumerate (by decide) (F.typeCall_enumerate_1 _) (F.newCall_enumerate_1 _) (fun obj => F.args_object_init_2 obj _) F.entry_enumerate_new (made_enum B) ⟨z, ?_⟩
  have hz : (s.heap.push o).objs.size = s.heap.objs.size + 1 := Heap.size_push ..
  show _ ∧ _
  rw [hz]
  have he : IsEnum ((s.heap.push o).push { cls := .type "enumerate", data := .fields #[.none, .bool false, .ref s.heap.objs.size, rawInt 0, .none, .none] }) (s.heap.objs.size + 1) s.heap.objs.size 0 .none := by
    have q := Heap.get?_push_size (s.heap.push o) (o := { cls := .type "enumerate", data := .fields #[.none, .bool false, .ref s.heap.objs.size, rawInt 0, .none, .none] }) rfl
    rw [hz] at q
    exact q
  exact ⟨⟨_, he, rfl⟩, k _ he (Heap.get?_push_of_some _ (Heap.get?_push_size _ B.free)) fun b u x => Heap.get?_push_of_some _ (Heap.get?_push_of_some _ x)⟩
/-- the tuple at a, its items in new pairs with their numbers -/
def IteT (K : PySem.W.Frag) (a : Addr) : It :=
  ⟨fun i H => ∃ (xs : List V) (x : V), SqT K H a xs ∧ xs[i]? = some x, fun i H v H' => ∃ T x, v = .ref T ∧ H T = none ∧ H' = upd H T (.tup [.int (i : Nat), x]) ∧ ∀ xs, SqT K H a xs → xs[i]? = some x, fun i H => ∃ xs : List V, SqT K H a xs ∧ xs.length ≤ i⟩
theorem turn_enT {P : Program} {w : World} {K : PySem.W.Frag} {elts : List Expr} {kk : Nat} {tpos : Pos} (a e it : Addr) :
    Turn P w K (.Tuple elts kk tpos) (IteT K a) [e, it] e (fun i h => (∃ old, IsEnum h e it ((i : Nat) : Int) old) ∧ h.IsTupleIter it a i ∧ e ≠ it ∧ e ≠ a ∧ a ≠ it) where
  mem := List.mem_cons_self
  obj := fun i h st b hb => by
    obtain ⟨⟨old, he⟩, ⟨o, ho, hc, hd⟩, _⟩ := st
    rcases List.mem_cons.mp hb with rfl | hb
    · exact ⟨_, he, fun v q => nomatch q⟩
    · rw [List.mem_singleton.mp hb]
      exact ⟨o, ho, fun v q => by rw [hd] at q; cases q⟩
  keep := fun i h h' st k => let ⟨⟨old, he⟩, hi, hr⟩ := st; ⟨⟨old, k e List.mem_cons_self _ he⟩, hi.at fun o q => k it (List.mem_cons_of_mem _ List.mem_cons_self) o q, hr⟩
  item := by
    intro X e1 e2 e3 hc i pins s σ H E I hf st hg
    subst e1 e2 e3
    obtain ⟨⟨old, he⟩, hit, n1, n2, n3⟩ := st
    obtain ⟨xs, x, hq, hx⟩ := hg
    obtain ⟨its, rv, p, hz⟩ := I.tuple hq
    obtain ⟨u, hu, ru⟩ := rv.get hx
    have l1 : e < s.heap.objs.size := Heap.lt_size he
    have l2 : it < s.heap.objs.size := by obtain ⟨_, q, _⟩ := hit; exact Heap.lt_size q
    have p : s.heap.IsTuple a its.toArray := p
    have hi : i < its.toArray.size := by
      have := (List.getElem?_eq_some_iff.mp hu).1
      simpa using this
    have D := Draws.tuple (prog := X.prog) (w := X.w) (A := X.A.in1) (I.ok.hd hc) it a n3 its.toArray
    refine wpAny_pyNext_enum_itemD D he ⟨hit, p⟩ hi n1 (by simp [n1, n2]) fun u' h' tk hP ho hS hT hsz hk => ?_
    obtain ⟨hit', p'⟩ := hS
    have eu : u' = u := by
      have : its.toArray[i]? = some u := by simpa using hu
      exact Option.some.inj (hP.symm.trans this)
    subst eu
    refine ⟨_, rfl, wpAny_letOwnedTupleGo_enum (s := { s with heap := h', toks := tk + 1 }) ho fun h'' he' sb => ?_⟩
    have hT2 : h''.get? s.heap.objs.size = some { cls := .type "tuple", data := .seq #[.int i tk, u'] } := (sb.2 _ (Nat.ne_of_gt l1)).trans hT
    have new : ObjOk X.prog X.w (upd H s.heap.objs.size (.tup [.int (i : Nat), x])) h'' s.heap.objs.size (.tup [.int (i : Nat), x]) :=
      ⟨by show 2 ≤ sizeLine; decide, [.int i tk, u'], .cons ⟨_, rfl⟩ (.cons ru .nil), ⟨_, hT2, rfl, _, rfl⟩⟩
    have kk : ∀ b ob, b ∉ [e, it] → s.heap.get? b = some ob → h''.get? b = some ob := fun b ob hb q => by
      have b1 : b ≠ e := fun z => hb (by rw [z]; exact List.mem_cons_self)
      have b2 : b ≠ it := fun z => hb (by rw [z]; exact List.mem_cons_of_mem _ List.mem_cons_self)
      exact (sb.2 b b1).trans (hk b ob b1 b2 q)
    have I1 : Inv X pins σ (upd H s.heap.objs.size (.tup [.int (i : Nat), x])) { s with heap := h'', toks := tk + 1 } := I.turnedNew (ch := [e, it]) kk hf (Nat.le_refl _) new
    refine ⟨.ref s.heap.objs.size, _, I1, rfl, ⟨_, x, rfl, I.hok.fresh (Nat.le_refl _), rfl, fun ys hy => by rw [I.tuple_inj hy hq]; exact hx⟩, ⟨⟨u', ?_⟩, hit'.at fun o q => (sb.2 it (Ne.symm n1)).trans q, n1, n2, n3⟩, fun b hb => ?_⟩
    · rw [show ((i + 1 : Nat) : Int) = (i : Int) + 1 from by omega]
      exact he'
    · have lb : b < s.heap.objs.size := by
        rcases List.mem_cons.mp hb with rfl | hb
        · exact l1
        · rw [List.mem_singleton.mp hb]; exact l2
      rw [upd_ne (Nat.ne_of_lt lb)]
      exact (hf b hb).1
  done := by
    intro X e1 e2 e3 hc i pins s σ H E I hf st hg
    subst e1 e2 e3
    obtain ⟨⟨old, he⟩, hit, n1, n2, n3⟩ := st
    obtain ⟨xs, hq, hx⟩ := hg
    obtain ⟨its, rv, p, hz⟩ := I.tuple hq
    have p : s.heap.IsTuple a its.toArray := p
    obtain ⟨f0, f1, f2, f3, f4, f5⟩ := hf it (List.mem_cons_of_mem _ List.mem_cons_self)
    have hl := rv.length
    have D : Draws X.prog X.w X.A.in1 it [it, a] i (fun _ _ => True) (fun j h => j = i ∧ h.IsTupleIter it a i ∧ h.IsTuple a its.toArray) :=
      { live := fun _ _ st => let ⟨_, ⟨o, ho, _⟩, _⟩ := st; ⟨o, ho⟩
        frame := fun _ _ _ st hk => ⟨st.1, st.2.1.at fun o e => hk it (by simp) o e, st.2.2.at fun o e => hk a (by simp) o e⟩
        item := fun j s Q E hi st hQ => by have := st.1; omega
        done := fun s Q E st hE => wpAny_nextOf_tuple_end (I.ok.hd hc) st.2.1 st.2.2 (by simp; omega) hE }
    exact wpAny_pyNext_enum_endD D he ⟨rfl, hit, p⟩ fun h' eb => ⟨rfl, I.turned (t' := s.toks) (fun b o hb q => eb b o hb q) f0 f1 f3 f4 f5⟩
  self := fun A i s Q E st h => let ⟨⟨_, he⟩, _⟩ := st; wpAny_pyIter_enum he h
def iEnumA (K : PySem.W.Frag) (ta : TA) : TI := fun σ H R => ta σ H fun vs H1 => ∃ a, vs = [.ref a] ∧ ((∃ xs, SqL K H1 a xs ∧ R (Ite K a) H1) ∨ ∃ xs, SqT K H1 a xs ∧ R (IteT K a) H1)
theorem pi_enumA {X : Cx} {e : Expr} {ta : TA} {p pos tpos : Pos} {elts : List Expr} {kk : Nat} (hg : Gl X "enumerate") (hm : X.mg "enumerate" = none) (ha : PA X [e] ta) (hs : starEach [e] X.env = [(false, eval e X.env)] := by rfl) :
    PI X (.Tuple elts kk tpos) (.Call (.Name "enumerate" p) [e] [] pos) (iEnumA X.K ta) := by
  refine ⟨fun pins s σ H R I h => Call_ (ld_blt I hg hm boot_enumerate (PyProof.Rows.callWith_type1 (thn (ha.run pos pins s σ H _ I h) fun us s1 ⟨vs, H1, I1, r1, a, ev, q⟩ => ?_) hs rfl))⟩
  subst ev
  cases r1 with
  | cons r rr =>
    cases rr
    cases r
    have apart : ∀ b ∈ [s1.heap.objs.size + 1, s1.heap.objs.size], s1.heap.objs.size ≤ b := fun b hb => by
      rcases List.mem_cons.mp hb with rfl | hb
      · exact Nat.le_succ _
      · rw [List.mem_singleton.mp hb]; exact Nat.le_refl _
    rcases q with ⟨xs, hq, q⟩ | ⟨xs, hq, q⟩
    · obtain ⟨its, rv, p', hz⟩ := I1.list hq
      refine call_enumerate_list p'.isList fun h' he hit hsz hk => wpAny_pyIter_enum he ?_
      exact ⟨s1.heap.objs.size + 1, [s1.heap.objs.size + 1, s1.heap.objs.size], _, _, H1, rfl, I1.kept (t' := s1.toks) hk, turn_enum a (s1.heap.objs.size + 1) s1.heap.objs.size, ⟨⟨.none, he⟩, hit, Nat.succ_ne_self _⟩, fun b hb => I1.fpOk (apart b hb) (I1.hok.fresh (apart b hb)), q⟩
    · obtain ⟨its, rv, p', hz⟩ := I1.tuple hq
      have p' : s1.heap.IsTuple a its.toArray := p'
      have la : a < s1.heap.objs.size := by obtain ⟨o, ho, _⟩ := p'; exact Heap.lt_size ho
      refine call_enumB (begins_tuple a its.toArray) p' fun h' he hit hk => wpAny_pyIter_enum he ?_
      exact ⟨s1.heap.objs.size + 1, [s1.heap.objs.size + 1, s1.heap.objs.size], _, _, H1, rfl, I1.kept (t' := s1.toks) hk, turn_enT a (s1.heap.objs.size + 1) s1.heap.objs.size, ⟨⟨.none, he⟩, ⟨_, hit, rfl, rfl⟩, Nat.succ_ne_self _, Nat.ne_of_gt (Nat.lt_succ_of_lt la), Nat.ne_of_lt la⟩, fun b hb => I1.fpOk (apart b hb) (I1.hok.fresh (apart b hb)), q⟩
end
def iED2 : PV → Option (Stp × Nat)
  | .con _ .lst xs => some (stL (enumF 0 xs), (enumF 0 xs).length + 1)
  | .con _ .tup xs => some (stL (enumF 0 xs), (enumF 0 xs).length + 1)
  | _ => none
def iE2 (t : EF) : IF := fun Γ S => (t Γ S).bind fun p S1 => match iED2 p with
  | some q => .ok q S1
  | none => .bad
section
variable {X : Cx} {W : WX} {H H' : Hp} {g g' : G} {S S' : Sto} {σ : L2.St} {Γ : Gam}
theorem jok_enumT {Y : Kx} {m : Md} {xs : List PV} {v : V} (rel : Rel Y H g S) (rv : RV Y H g S.length (.con m .tup xs) v) : ∃ a, v = .ref a ∧ (∃ vs, SqT Y.K H a vs) ∧ JOK Y (IteT Y.K a) (stL (enumF 0 xs)) H g S := by
  have rv0 := rv
  simp only [RV] at rv
  obtain ⟨a, vs, rfl, h2, h3⟩ := rv
  refine ⟨a, rfl, ⟨vs, h2.rdd.tup⟩, fun g' H' S' i e => ?_⟩
  have rv2 := RV.up rel e _ _ rv0
  simp only [RV] at rv2
  obtain ⟨b, ws, eb, q2, q3⟩ := rv2
  cases eb
  have sq := q2.rdd.tup
  refine ⟨fun p hp => ?_, fun hp => ?_⟩
  · have hp : (enumF 0 xs)[i]? = some p := Option.some.inj hp
    rw [enumF_get] at hp
    obtain ⟨x, hx, rfl⟩ := Option.map_eq_some_iff.mp hp
    obtain ⟨y, u1, u2⟩ := q3.get hx
    refine ⟨⟨ws, y, sq, u1⟩, fun u H2 w => ?_⟩
    obtain ⟨T, z, rfl, hT, rfl, hz⟩ := w
    have hz := hz ws sq
    rw [u1] at hz
    cases hz
    obtain ⟨k1, k2⟩ := newF_ok (k := .tup) (xs := [.int (0 + i : Nat), x]) (vs := [.int (i : Nat), y]) e.rel hT rfl (RVs.cons (by rw [Nat.zero_add]; exact RV.int) (RVs.cons u2 RVs.nil))
    exact ⟨_, k1, k2⟩
  · have hp : (enumF 0 xs)[i]? = none := Option.some.inj hp
    rw [enumF_get, Option.map_eq_none_iff] at hp
    exact ⟨ws, sq, by rw [← q3.len]; exact List.getElem?_eq_none_iff.mp hp⟩
theorem I.enum2 {e : Expr} {te : EF} {p pos tpos : Pos} {elts : List Expr} {kk : Nat} (hg : Gl X "enumerate") (hm : X.mg "enumerate" = none) (he : E X W e te) (hs : starEach [e] X.env = [(false, eval e X.env)] := by rfl) :
    I X W (.Tuple elts kk tpos) (.Call (.Name "enumerate" p) [e] [] pos) (iE2 te) := by
  refine ⟨_, pi_enumA hg hm (A.cons he A.nil hs) hs, fun σ H g Γ S Rr rel rg ok => ⟨g, Γ, S, rel, rg, ?_⟩⟩
  cases q : te Γ S with
  | bad => simp only [iE2, q, R.bind] at ok; exact ok.elim
  | ex c fs S1 =>
    simp only [iE2, q, R.bind] at ok
    simp only [aCons, q, R.bind]
    exact ok
  | ok v S1 =>
    simp only [iE2, q, R.bind] at ok
    simp only [aCons, aNil, q, R.bind]
    cases hv : iED2 v with
    | none => rw [hv] at ok; exact ok.elim
    | some z =>
      rw [hv] at ok
      intro g1 H1 e1 xs rxs
      simp only [RVs] at rxs
      obtain ⟨x, r, rfl, rx, rfl⟩ := rxs
      unfold iED2 at hv
      split at hv
      · cases hv
        obtain ⟨a, rfl, ⟨vs, hs⟩, hJ⟩ := jok_enum e1.rel rx
        exact ⟨a, rfl, Or.inl ⟨vs, hs, ok g1 H1 e1 _ hJ⟩⟩
      · cases hv
        obtain ⟨a, rfl, ⟨vs, hs⟩, hJ⟩ := jok_enumT e1.rel rx
        exact ⟨a, rfl, Or.inr ⟨vs, hs, ok g1 H1 e1 _ hJ⟩⟩
      · cases hv
def ieK2 (r : R PV) : R (Stp × Nat) := r.bind fun p S1 => match iED2 p with
  | some q => .ok q S1
  | none => .bad
@[simp] theorem iE2_eq {t : EF} : iE2 t Γ S = ieK2 (t Γ S) := (rfl)
@[simp] theorem ieK2_lst {m : Md} {xs : List PV} : ieK2 (.ok (.con m .lst xs) S) = .ok (stL (enumF 0 xs), (enumF 0 xs).length + 1) S := (rfl)
@[simp] theorem ieK2_tup {m : Md} {xs : List PV} : ieK2 (.ok (.con m .tup xs) S) = .ok (stL (enumF 0 xs), (enumF 0 xs).length + 1) S := (rfl)
end
end Pv
/-! Pv28: tuple(range(n)). -/
namespace Pv
open PySem PySem.Spec PyProof.Rows L2
section
variable {X : Cx} {W : WX} {a : Expr} {ta : EF}
/-- the tuple of the numbers below what t computes -/
def eTR (t : EF) : EF := fun Γ S => (t Γ S).bind fun v S1 => match v with
  | .int n => if 0 ≤ n ∧ n ≤ 16777216 then .ok (.con .own .tup (intsF 0 n.toNat)) S1 else .bad
  | _ => .bad
theorem E.tupRg {p p2 pos pos2 : Pos} (hc : X.calm = true) (hg : Gl X "tuple") (hm : X.mg "tuple" = none) (hg2 : Gl X "range") (hm2 : X.mg "range" = none) (ha : E X W a ta)
    (na : starEach [a] X.env = (false, eval a X.env) :: starEach [] X.env := by rfl) (nb : starEach [.Call (.Name "range" p2) [a] [] pos2] X.env = (false, eval (.Call (.Name "range" p2) [a] [] pos2) X.env) :: starEach [] X.env := by rfl) :
    E X W (.Call (.Name "tuple" p) [.Call (.Name "range" p2) [a] [] pos2] [] pos) (eTR ta) :=
  pe_imp (pe_tupRg hc hg hm (prg_1 hg2 hm2 ha na) nb) fun σ H Q ⟨g, Γ, S, rel, rg, ok⟩ => ⟨g, Γ, S, rel, rg, OKw.mono (OKw.bind ok) fun v S1 g1 H1 _ e1 h1 x rx => by
    split at h1
    · rename_i n _
      simp only [RV] at rx
      subst rx
      split at h1
      · rename_i hn
        refine ⟨n, rfl, RgOk.of_le (by omega) hn.2 (by omega) hn.1, fun q hq => ?_⟩
        have hr : RVs (kx X) H1 g1 S1.length (intsF 0 n.toNat) (rgV 0 n) := by
          have := RVs.ofints (Y := kx X) (H := H1) (g := g1) (L := S1.length) (lo := 0) (n := n.toNat)
          unfold rgV
          rwa [show (n - 0).toNat = n.toNat by omega]
        obtain ⟨z1, z2⟩ := newF_ok e1.rel hq (k := .tup) (o := .tup _) rfl hr
        exact h1 _ _ z1 _ z2
      · exact h1.elim
    · exact h1.elim⟩
end
end Pv
/-! Pv29: o[a:c] = a new list. -/
namespace Pv
open PySem PySem.Spec PyProof.Rows L2
end Pv
/-! Pv30: sets of ints made by a comprehension. The order of the steps in pe_sci is that of the library's list comprehension (HandS.Comp); its own lemmas are used throughout. -/
namespace Pv
open PySem PySem.Spec PyProof.Rows L2
section
variable {X : Cx}
/-- ints met so far, as a set: who is in, how many -/
def inS (ks : List Int) : Int → Bool := fun j => decide (j ∈ ks)
def cntS : List Int → Nat
  | [] => 0
  | k :: ks => if k ∈ ks then cntS ks else cntS ks + 1
theorem cntS_le : ∀ ks : List Int, cntS ks ≤ ks.length
  | [] => Nat.le_refl _
  | k :: ks => by
    have := cntS_le ks
    unfold cntS
    split <;> simp <;> omega
/-- the set object at D of the ints ks (the last one put in stands first) -/
def SetI (w : World) (D : Addr) (ks : List Int) : HO := SetO w D (inS ks) (cntS ks)
theorem SetI.put (w : World) (D : Addr) (ks : List Int) (k : Int) : SetO w D (fun j => inS ks j || decide (j = k)) (if inS ks k = true then cntS ks else cntS ks + 1) = SetI w D (k :: ks) := by
  unfold SetI
  have e1 : (fun j => inS ks j || decide (j = k)) = inS (k :: ks) := by
    funext j
    unfold inS
    by_cases h1 : j = k <;> by_cases h2 : j ∈ ks <;> simp [h1, h2]
  have e2 : (if inS ks k = true then cntS ks else cntS ks + 1) = cntS (k :: ks) := by
    unfold inS
    rw [show cntS (k :: ks) = if k ∈ ks then cntS ks else cntS ks + 1 from rfl]
    simp
  rw [e1, e2]
/-- by values: {elt for target in iter if ..}, ints -/
def tSi (w : World) (wi : TI) (g : TG) (tt : TT) (te : TE) (vs : List Nat) : TE := fun σ H Q => wi σ H fun J H1 => ∀ D, H1 D = none → ∃ W : Nat → Nat → Hp → Prop, (∃ m, W 0 m (upd H1 D (SetI w D []))) ∧ ∀ i m H, W i m H →
  (J.stop i H ∧ Q (.ref D) H) ∨ (J.go i H ∧ ∃ Nx : Hp → Prop, (∀ H', Nx H' → ∃ m', m' < m ∧ W (i + 1) m' H') ∧ ∀ x H', J.yld i H x H' → g x (wipe σ vs) H' fun σ2 H2 => wipe σ2 vs = wipe σ vs ∧ tt σ2 H2 fun b H3 =>
    if b = true then te σ2 H3 fun y H4 => ∃ ks k, y = .int k ∧ H4 D = some (SetI w D ks) ∧ ks.length + 1 < scanBound ∧ Nx (upd H4 D (SetI w D (k :: ks))) else Nx H3)
/-- one int is put in -/
theorem sput {pins : List (Addr × Obj)} {σ : L2.St} {H : Hp} {s : Shared} {E : Value → Shared → Prop} {D : Addr} {ks : List Int} {k : Int} {v : Value} {Q : Value → Shared → Prop} (I : Inv X pins σ H s) (hD : H D = some (SetI X.w D ks)) (hz : ks.length + 1 < scanBound) (r : RelV (.int k) v)
    (h : ∀ u s', Inv X pins σ (upd H D (SetI X.w D (k :: ks))) s' → Q u s') : wpAny (model X.prog X.w) X.A (call (.builtin "set.add") [.ref D, v]) Q E s := by
  obtain ⟨tk, rfl⟩ := r
  have R := setO_get I hD
  refine setR_add R (by have := cntS_le ks; omega) fun h' sb new => ?_
  have he : ∃ u, h'.get? D = some u := by
    have ⟨o, _, _, _, ho, _⟩ := new
    exact ⟨o, ho⟩
  have I' := I.write (e := D) (t' := s.toks + 1) (o := SetO X.w D (fun j => inS ks j || decide (j = k)) (if inS ks k = true then cntS ks else cntS ks + 1)) (by rw [hD]; trivial) (.inl rfl) (fun b u hb hu => (sb.2 b hb).trans hu) he (setO_new new)
  rw [SetI.put] at I'
  exact h _ _ I'
/-- {elt for target in iter if ..}, ints -/
theorem pe_sci {elt tg iter : Expr} {ifs : List Expr} {scope : Scope} {own : List (Str × Nat)} {pos : Pos} {wi : TI} {g : TG} {tt : TT} {te : TE} (hc : X.calm = true) (hN : X.N.Nodup) (hi : PI X tg iter wi) (ok : BlkOk X.N X.env.scope scope own)
    (hg : ∀ (s : Shared) (H : Hp) (C : Addr) (cl : List (Str × Addr)) (fp : List Addr), PG (X.blk s H scope (compEnvC scope cl C X.env) fp) tg g)
    (ht : ∀ (s : Shared) (H : Hp) (C : Addr) (cl : List (Str × Addr)) (fp : List Addr), PTs (X.blk s H scope (compEnvC scope cl C X.env) fp) ifs tt)
    (he : ∀ (s : Shared) (H : Hp) (C : Addr) (cl : List (Str × Addr)) (fp : List Addr), PE (X.blk s H scope (compEnvC scope cl C X.env) fp) elt te)
    (hs : ∀ x, foldedSetIterable iter X.env x = pure x := by intro _; rfl) : PE X (.SetComp elt [⟨tg, iter, ifs, 0⟩] scope pos) (tSi X.w wi g tt te (own.map (·.2))) := by
  refine ⟨fun pins s σ H Q I h => ?_⟩
  have fr : ∀ y ∈ scope.names, y.2 = .free → ∃ c, X.env.cells.lookup y.1 = some c := fun y hy e => (ok.free y hy e).elim (fun k => I.ok.has _ (.inl k)) fun k => I.ok.has _ (.inr k)
  rw [arm_eval_SetComp]
  refine wpAny_comprehension_free (use := none) rfl hs (closure_ok fr) ok.kind (fun y hy e => by rw [ok.uniq y hy, e]) ?_
  refine thn (hi.run pins s σ H _ I h) fun xv s1 hx => thn hx fun itv s2 ⟨it, fp, tn, J, H2, ei, I2, T, st2, f2, q⟩ => ?_
  subst ei
  -- the new set, at D
  refine wpAny_newSet_raw fun led hled => newEnv_comp ?_
  subst hled
  have fresh := setR_fresh (h := s2.heap) X.w
  generalize eD : s2.heap.objs.size = D at fresh ⊢
  generalize eo : ({ cls := .type "set", dict := none, data := .set #[] 0 (.fresh 0 0 (!X.w.params.followText "set-order")) } : Obj) = ob at fresh ⊢
  have nD : H2 D = none := I2.hok.fresh (Nat.le_of_eq eD)
  obtain ⟨W, ⟨m0, w0⟩, turn⟩ := q D nD
  have eS : SetI X.w D [] = SetO X.w D (fun _ => false) 0 := by unfold SetI; congr 1
  have kp : ∀ b o, s2.heap.get? b = some o → (s2.heap.push ob).get? b = some o := fun b o e => Heap.get?_push_of_some _ e
  have I3 : Inv X pins σ (upd H2 D (SetI X.w D [])) { s2 with heap := s2.heap.push ob } := I2.laid (t' := s2.toks) kp (Nat.le_of_eq eD) (by rw [eS]; exact setO_new fresh)
  have young : ∀ b ∈ fp, b < D := fun b hb => by
    obtain ⟨o, e, _⟩ := T.obj _ _ st2 b hb
    rw [← eD]; exact Heap.lt_size e
  generalize e3 : ({ s2 with heap := s2.heap.push ob } : Shared) = s3 at I3
  have h3 : s3.heap = s2.heap.push ob := by rw [← e3]
  generalize e4 : upd H2 D (SetI X.w D []) = H3 at I3 w0
  have f3 : ∀ b ∈ fp, FpOk X pins H3 b ∧ b < s3.heap.objs.size := fun b hb => by
    have hlt := young b hb
    refine ⟨⟨?_, (f2 b hb).2⟩, by rw [h3, Heap.size_push, eD]; exact Nat.lt_succ_of_lt hlt⟩
    rw [← e4, upd_ne (Nat.ne_of_lt hlt)]
    exact (f2 b hb).1
  have I4 := block_start I3 ok hN f3
  have pg := hg s3 H3 s3.heap.objs.size (cellsFrom (s3.heap.objs.size + 1) scope.names (cloFrom X.env.cells scope.names [])) fp
  have pt := ht s3 H3 s3.heap.objs.size (cellsFrom (s3.heap.objs.size + 1) scope.names (cloFrom X.env.cells scope.names [])) fp
  have pe := he s3 H3 s3.heap.objs.size (cellsFrom (s3.heap.objs.size + 1) scope.names (cloFrom X.env.cells scope.names [])) fp
  show codeAny _ _ (.compStart (.SetComp elt [⟨tg, iter, ifs, 0⟩] scope pos) 0 (.ref it) (.ref D) (compEnvC scope (cellsFrom (s3.heap.objs.size + 1) scope.names (cloFrom X.env.cells scope.names [])) s3.heap.objs.size X.env)) (compPost (model X.prog X.w) X.A X.xe none _ (.ref D) s3.heap.objs.size) { s3 with heap := pushCells (s3.heap.push { cls := .type "dict", data := .dict #[] }) scope.names }
  generalize ece : compEnvC scope (cellsFrom (s3.heap.objs.size + 1) scope.names (cloFrom X.env.cells scope.names [])) s3.heap.objs.size X.env = ce at I4 pg pt pe ⊢
  have cL : ce.locals = s3.heap.objs.size := by subst ece; rfl
  generalize e6 : ({ s3 with heap := pushCells (s3.heap.push { cls := .type "dict", data := .dict #[] }) scope.names } : Shared) = s4 at I4 ⊢
  have st4 : tn 0 s4.heap := T.keep _ _ _ st2 fun b _ o e => by
    rw [← e6]
    refine pushCells_keeps _ _ _ _ (Heap.get?_push_of_some _ ?_)
    rw [h3]
    exact kp b o e
  -- an iterator's objects, seen from the block
  have own_ : ∀ {σ' : L2.St} {H' : Hp} {s' : Shared}, Inv (X.blk s3 H3 scope ce fp) [] σ' H' s' → (∀ b ∈ fp, H' b = none) → ∀ b ∈ fp, FpOk (X.blk s3 H3 scope ce fp) [] H' b := fun I' hn b hb =>
    ⟨hn b hb, (I'.ok.exf b hb).1, I'.ok.exfs b hb, .inl hb, (I'.ok.exf b hb).2, fun p hp => absurd (show p ∈ ([] : List (Addr × Obj)) ++ [] from hp) (by simp)⟩
  have loop : codeAny (model X.prog X.w) X.A (.compLoop (.SetComp elt [⟨tg, iter, ifs, 0⟩] scope pos) 0 (.ref it) (.ref D) ce) (compPost (model X.prog X.w) X.A X.xe none (EP X pins σ Q) (.ref D) s3.heap.objs.size) s4 := by
    refine compLoop_set_any (fun n s' => ∃ i H', (Inv (X.blk s3 H3 scope ce fp) [] (wipe σ (own.map (·.2))) H' s' ∧ tn i s'.heap ∧ ∀ b ∈ fp, H' b = none) ∧ W i n H') ?_ m0 ⟨0, H3, ⟨I4, st4, fun b hb => (f3 b hb).1.1⟩, w0⟩
    rintro n s5 ⟨i, H5, ⟨I5, st5, n5⟩, w5⟩
    rcases turn i n H5 w5 with ⟨stop, qq⟩ | ⟨go, Nx, hNx, step⟩
    · refine thnF (T.done (X.blk s3 H3 scope ce fp) rfl rfl rfl hc i [] s5 _ H5 (fun _ _ => False) I5 (own_ I5 n5) st5 stop) fun r s6 ⟨hr, I6⟩ => ?_
      subst hr
      have I7 : Inv X pins σ H5 s6 := I3.call' (ch := fp) I6.os I6.base I6.hok I6.bare fun b hb => ⟨(f3 b hb).1.2.2.2.1, (f3 b hb).1.2.1, (f3 b hb).1.2.2.2.2.1, (f3 b hb).1.2.2.2.2.2⟩
      obtain ⟨m, hn, _⟩ := I6.loc
      have nC : H5 ce.locals = none := I6.free
      have hn : s6.heap.Ns ce.locals m := hn
      rw [cL] at hn nC
      refine ⟨m, hn, fun h'' sb => ?_⟩
      obtain ⟨a0, a1, _, a3, a4, a5⟩ := I3.fpOk (Nat.le_refl _) nC
      exact ⟨.ref D, H5, I7.turned (t' := s6.toks) (fun b o hb e => (sb.2 b hb).trans e) a0 a1 a3 a4 a5, rfl, qq⟩
    · refine thnF (T.item (X.blk s3 H3 scope ce fp) rfl rfl rfl hc i [] s5 _ H5 (fun _ _ => False) I5 (own_ I5 n5) st5 go) fun r s6 ⟨u, hr, h6⟩ => ?_
      subst hr
      refine thnF h6 fun _ s7 ⟨x, H7, I7, r7, y7, st7, n7⟩ => ?_
      have I7' := I7.pinned (own_ I7 n7) (T.obj _ _ st7)
      have next : ∀ {σ8 : L2.St} {s' : Shared} {H' : Hp}, wipe σ8 (own.map (·.2)) = wipe (wipe σ (own.map (·.2))) [] → Inv (X.blk s3 H3 scope ce fp) ([] ++ pinsAt fp s7.heap) σ8 H' s' → Nx H' →
          ∃ m, m < n ∧ ∃ i H', (Inv (X.blk s3 H3 scope ce fp) [] (wipe σ (own.map (·.2))) H' s' ∧ tn i s'.heap ∧ ∀ b ∈ fp, H' b = none) ∧ W i m H' := fun {σ8 s' H'} hw I' nx => by
        obtain ⟨m', hm, w'⟩ := hNx H' nx
        have hw : wipe σ8 (own.map (·.2)) = wipe σ (own.map (·.2)) := hw
        have pin : ∀ b ∈ fp, ∀ o, s7.heap.get? b = some o → s'.heap.get? b = some o ∧ H' b = none := fun b hb o e =>
          have z := I'.pin (b, o) (List.mem_append_right _ (List.mem_append_right _ (mem_pinsAt hb e)))
          ⟨z.1, z.2.1⟩
        refine ⟨m', hm, i + 1, H', ⟨(I'.unpinned (pins := [])).weak (by rw [← hw, wipe_length]) (fun j v e => (wipe_some (hw ▸ e)).1), T.keep _ _ _ st7 fun b hb o e => (pin b hb o e).1, fun b hb => ?_⟩, w'⟩
        obtain ⟨o, e, _⟩ := T.obj _ _ st7 b hb
        exact (pin b hb o e).2
      refine thnF (pg.run _ s7 _ H7 x u _ I7' r7 (step x H7 y7)) fun _ s8 ⟨σ8, H8, I8, hw8, q8⟩ => ?_
      refine thnF (pt.run _ s8 σ8 H8 _ I8 q8) fun b s9 ⟨H9, I9, q9⟩ => ?_
      cases b with
      | false => exact next hw8 I9 q9
      | true =>
        rw [if_pos rfl] at q9 ⊢
        refine thnF (pe.run _ s9 σ8 H9 _ I9 q9) fun z s10 ⟨yv, H10, I10, r10, ks, k, ey, hD10, hz10, nx⟩ => ?_
        subst ey
        exact sput (X := X.blk s3 H3 scope ce fp) I10 hD10 hz10 r10 fun _ s11 I11 => next hw8 I11 nx
  exact codeAny_compStart_set loop (T.self X.A 0 _ _ _ st4 loop)
end
end Pv
/-! Pv31: sorted of a set of numbers, of any size; set(a list of ii). Steps of the machine go as in the library's set(a tuple of ii) (HandS.SetFor), whose loop lemma (set_update_ints) is used. -/
namespace Pv
open PySem PySem.Spec PyProof.Rows L2
section
variable {P : Program} {w : World} {A : Around} {E : Value → Shared → Prop} {s : Shared}
/-- sorted of the set at a -/
theorem sorted_setA {a : Addr} {S : Int → Bool} {n : Nat} {Q : Value → Shared → Prop} (R : SetR w s.heap a S n) (hh : A.handled = none)
    (k : ∀ s' p (out : List Value) (c : Nat) (ns : List Int), (∀ b o, s.heap.get? b = some o → s'.heap.get? b = some o) → s'.gens = s.gens → s'.os = s.os → s.heap.objs.size ≤ p →
      s'.heap.get? p = some (seqObj "list" out.toArray c) → IntsAre out ns → ns.Pairwise (· < ·) → (∀ k, k ∈ ns ↔ S k = true) → ns.length < scanBound → Q (.ref p) s') :
    wpAny (model P w) A (call (.builtin "sorted") [.ref a]) Q E s := by
  obtain ⟨ob, es, ep, t, get, exact_, dat, good, nodup, mem, small, fits, cnt, ris, led⟩ := R
  refine Calls.call_function_entry kind_sorted plain_sorted entry_sorted (args_sorted1 _) ?_
  unfold Builtin.«sorted»
  refine wpAny_bind (m := checkCount "sorted" 1 1 _) (wpAny_pure (wpAny_bind (collect_set (A := A.in1) hh ⟨ob, get, exact_.1, dat⟩ fits small ris led fun s1 vs old _ g1 o1 perm => ?_)))
  have vl : vs.length = es.size := by rw [perm.length_eq, List.length_map, Array.length_toList]
  have ii : IntsAre vs (vs.map SrtO.iv) := SrtO.ints_iv fun v hv => by
    obtain ⟨e, he, rfl⟩ := List.mem_map.mp (perm.mem_iff.mp hv)
    obtain ⟨j, tj, q, _⟩ := good e he
    exact ⟨j, tj, q⟩
  have keys : (vs.map SrtO.iv).Perm (es.toList.map keyOf) := by
    have q := perm.map SrtO.iv
    rw [List.map_map] at q
    refine q.trans (List.Perm.of_eq (List.map_congr_left fun e he => ?_))
    obtain ⟨j, tj, q, _⟩ := good e he
    simp only [Function.comp, keyOf, q]
    rfl
  have hsz : vs.length ≤ sizeLine := by have : sizeLine = 16777216 := sizeLine_eq; have : scanBound = 4096 := rfl; omega
  refine wpAny_bind (wpAny_newList ?_ hsz)
  have lst : (s1.heap.push (seqObj "list" vs.toArray 0)).get? s1.heap.objs.size = some (seqObj "list" vs.toArray 0) := Heap.get?_push_size _ rfl
  refine wpAny_bind (wpAny_holding (wpAny_call_entry slot_list_sort ⟨_, lst, rfl⟩ entry_list_sort (SrtO.list_sort_ord SrtO.swo_int lst hsz (fun h2 => SrtO.ints_sortable ii h2) fun out h1 h2 => ⟨.none, rfl, ?_⟩) (args_list_sort _)))
  obtain ⟨k1, k2, k3⟩ := SrtO.ints_out ii h1 h2
  obtain ⟨c, hc⟩ := sortedHeap_at (vs := vs) (out := out.toArray) lst
  have pk := k2.trans keys
  have le : s.heap.objs.size ≤ s1.heap.objs.size := by assumption
  refine wpAny_pure ⟨_, rfl, k _ s1.heap.objs.size out c _ (fun b u e => ?_) g1 o1 le hc k1 ?_ (fun j => by rw [pk.mem_iff, ← mem j]) (by rw [pk.length_eq, List.length_map, Array.length_toList]; exact small)⟩
  · have q := old b u e
    have lt := Heap.lt_size q
    show (sortedHeap (s1.heap.push (seqObj "list" vs.toArray 0)) s1.heap.objs.size vs out.toArray).get? b = some u
    rw [sortedHeap_old (Nat.ne_of_lt lt) (by rw [size_push']; exact Nat.lt_succ_of_lt lt)]
    exact Heap.get?_push_of_some _ q
  · have nd : (out.map SrtO.iv).Nodup := pk.nodup_iff.mpr nodup
    exact (List.pairwise_and_iff.mpr ⟨k3, nd⟩).imp fun ⟨x, y⟩ => Int.lt_iff_le_and_ne.mpr ⟨x, y⟩
end
section
variable {X : Cx}
/-- sorted(set of ii) -/
def rSortSI (w : World) : List V → Hp → VK → Prop := fun vs H Q => ∃ (a : Addr) (ks : List Int) (n : Nat), vs = [V.ref a] ∧ H a = some (SetO w a (inS ks) n) ∧
  ∀ (ns : List Int) (p : Addr), ns.Pairwise (· < ·) → (∀ k : Int, k ∈ ns ↔ k ∈ ks) → H p = none → Q (.ref p) (upd H p (.lst (ns.map V.int)))
theorem cr_sortSI (hc : X.calm = true) : CallR X (.builtin "sorted") (rSortSI X.w) := by
  intro pins s σ H vs us Q I r h
  obtain ⟨a, ks, n, rfl, ha, q⟩ := h
  have R := setO_get I ha
  rw [Vals.ref1 r]
  refine sorted_setA R (I.ok.hd hc) fun s' p out c ns old g o hp hg hi hs hm hl => ?_
  have hlen : (ns.map V.int).length ≤ sizeLine := by rw [List.length_map, sizeLine_eq]; have : scanBound = 4096 := rfl; omega
  have hn : H p = none := I.hok.fresh hp
  have J : Inv X pins σ (upd H p (.lst (ns.map V.int))) { s with heap := s'.heap, gens := s'.gens, drawn := s'.drawn, toks := s'.toks } :=
    I.call (ch := []) (Un.laid old hp hn) (I.hok.laid old hp ⟨hlen, out, c, vals_of_ints hi, hg⟩) (by rw [g]; exact I.bare) (fun _ z => nomatch z)
  have e : s' = { s with heap := s'.heap, gens := s'.gens, drawn := s'.drawn, toks := s'.toks } := by
    cases s'
    cases s
    cases o
    rfl
  rw [e]
  exact ⟨.ref p, _, J, rfl, q ns p hs (fun k => by rw [hm k]; exact decide_eq_true_iff) hn⟩
end
end Pv
/-! Pv32: sorted({.. for ..}) and sorted(set(a list)) of ints, as functions. -/
namespace Pv
open PySem PySem.Spec PyProof.Rows L2
/-! ### plain: strictly ascending lists -/
def insI (k : Int) : List Int → List Int
  | [] => [k]
  | j :: l => if k < j then k :: j :: l else if k = j then j :: l else j :: insI k l
def srtI (ks : List Int) : List Int := ks.foldr insI []
theorem mem_insI {k x : Int} : ∀ {l : List Int}, x ∈ insI k l ↔ x = k ∨ x ∈ l
  | [] => by simp [insI]
  | j :: l => by
    unfold insI
    split
    · simp
    · split
      · rename_i h; subst h; simp
      · rw [List.mem_cons, mem_insI (l := l), List.mem_cons]
        constructor
        · rintro (h | h | h) <;> simp [h]
        · rintro (h | h | h) <;> simp [h]
theorem insI_asc {k : Int} : ∀ {l : List Int}, l.Pairwise (· < ·) → (insI k l).Pairwise (· < ·)
  | [], _ => by simp [insI]
  | j :: l, h => by
    obtain ⟨h1, h2⟩ := List.pairwise_cons.mp h
    unfold insI
    split
    · rename_i hk
      refine List.pairwise_cons.mpr ⟨fun x hx => ?_, h⟩
      rcases List.mem_cons.mp hx with rfl | hx
      · exact hk
      · exact Int.lt_trans hk (h1 x hx)
    · split
      · exact h
      · refine List.pairwise_cons.mpr ⟨fun x hx => ?_, insI_asc h2⟩
        rcases mem_insI.mp hx with rfl | hx
        · omega
        · exact h1 x hx
theorem srtI_asc : ∀ ks : List Int, (srtI ks).Pairwise (· < ·)
  | [] => List.Pairwise.nil
  | k :: ks => insI_asc (srtI_asc ks)
theorem mem_srtI {x : Int} : ∀ {ks : List Int}, x ∈ srtI ks ↔ x ∈ ks
  | [] => by simp [srtI]
  | k :: ks => by
    show x ∈ insI k (srtI ks) ↔ _
    rw [mem_insI, mem_srtI (ks := ks), List.mem_cons]
theorem asc_ext : ∀ {a b : List Int}, a.Pairwise (· < ·) → b.Pairwise (· < ·) → (∀ x, x ∈ a ↔ x ∈ b) → a = b
  | [], [], _, _, _ => rfl
  | [], y :: b, _, _, h => by have := (h y).mpr (by simp); simp at this
  | x :: a, [], _, _, h => by have := (h x).mp (by simp); simp at this
  | x :: a, y :: b, ha, hb, h => by
    obtain ⟨a1, a2⟩ := List.pairwise_cons.mp ha
    obtain ⟨b1, b2⟩ := List.pairwise_cons.mp hb
    have e : x = y := by
      rcases List.mem_cons.mp ((h x).mp (by simp)) with e | e
      · exact e
      · rcases List.mem_cons.mp ((h y).mpr (by simp)) with e' | e'
        · exact e'.symm
        · have := b1 x e
          have := a1 y e'
          omega
    subst e
    rw [asc_ext a2 b2 fun z => ?_]
    have := h z
    rw [List.mem_cons, List.mem_cons] at this
    constructor
    · intro hz
      rcases this.mp (Or.inr hz) with e | e
      · have := a1 z hz
        omega
      · exact e
    · intro hz
      rcases this.mpr (Or.inr hz) with e | e
      · have := b1 z hz
        omega
      · exact e
theorem srtI_of {ns ks : List Int} (h1 : ns.Pairwise (· < ·)) (h2 : ∀ k, k ∈ ns ↔ k ∈ ks) : ns = srtI ks := asc_ext h1 (srtI_asc ks) fun x => (h2 x).trans mem_srtI.symm
/-! ### sorted({elt for target in iter if ..}) -/
section
variable {X : Cx} {W : WX} {H H' H'' H0 H1 : Hp} {g g' g'' g0 g1 : G} {S S' S'' S0 S1 : Sto} {σ : L2.St} {Γ : Gam}
/-- the walk: the ints met, the last one first -/
def siI (st : Stp) (gt : GF) (tt : BF) (te : EF) (Γ : Gam) : Nat → Nat → List Int → Sto → R (List Int)
  | 0, _, _, _ => .bad
  | m + 1, i, acc, S => match st S i with
    | none => .bad
    | some none => .ok acc S
    | some (some p) => match gt p Γ S with
      | .ok Γ1 S1 => match tt Γ1 S1 with
        | .ok true S2 => match te Γ1 S2 with
          | .ok (.int k) S3 => if acc.length < 4000 then siI st gt tt te Γ m (i + 1) (k :: acc) S3 else .bad
          | _ => .bad
        | .ok false S2 => siI st gt tt te Γ m (i + 1) acc S2
        | _ => .bad
      | _ => .bad
def eSi (mu : Bool) (it : IF) (gt : GF) (tt : BF) (te : EF) (vs : List Nat) : EF := fun Γ S => (it Γ S).bind fun q S1 => (siI q.1 gt tt te (wipeG Γ vs) q.2 0 [] S1).bind fun acc S2 => .ok (newP mu .lst ((srtI acc).map .int) S2).1 (newP mu .lst ((srtI acc).map .int) S2).2
theorem si_noex {st : Stp} {gt : GF} {tt : BF} {te : EF} {Γ : Gam} : ∀ m i acc S, (∃ acc' S', siI st gt tt te Γ m i acc S = .ok acc' S') ∨ siI st gt tt te Γ m i acc S = .bad
  | 0, i, acc, S => Or.inr rfl
  | m + 1, i, acc, S => by
    unfold siI
    split
    · exact Or.inr rfl
    · exact Or.inl ⟨_, _, rfl⟩
    · split
      · split
        · split
          · split
            · exact si_noex m _ _ _
            · exact Or.inr rfl
          · exact Or.inr rfl
        · exact si_noex m _ _ _
        · exact Or.inr rfl
      · exact Or.inr rfl
/-- a new object beside the store -/
theorem grw_new {Y : Kx} {D : Addr} {o : HO} (r : Rel Y H1 g1 S1) (hD : H1 D = none) : Grw Y H1 g1 S1 D (upd H1 D o) g1 S1 := by
  have up : Up H1 g1 S1.length (upd H1 D o) g1 S1.length := ⟨fun a u h _ => by rw [upd_ne (ne_of_none h hD)]; exact h, fun _ h => h, fun _ h => h, fun _ _ => rfl, Nat.le_refl _⟩
  have own : ∀ n, Al S1 n → g1.r n ≠ D := fun n hn z => by
    obtain ⟨u, e⟩ := r.tracked hn
    rw [z, hD] at e; cases e
  refine ⟨⟨⟨fun n k xs q => ?_, r.inj, r.fF, r.fT, fun a z => ?_⟩, fun a u h _ => by rw [upd_ne (ne_of_none h hD)]; exact h, fun n hn => Or.inl ⟨hn, rfl⟩, fun _ _ => rfl, Nat.le_refl _, fun _ h => h, rfl, fun a u h => ⟨u, by rw [upd_ne (ne_of_none h hD)]; exact h⟩, fun _ h => Or.inl h⟩, hD, own, fun z => ?_, fun z => ?_⟩
  · obtain ⟨u, ws, q1, q2, q3, q4⟩ := r.ob n k xs q
    exact ⟨u, ws, by rw [upd_ne (own n ⟨_, q⟩)]; exact q1, q2, q3, RVs.mono up _ _ q4⟩
  · by_cases z2 : a = D
    · exact ⟨_, by rw [z2, upd_same]⟩
    · rw [upd_ne z2]; exact r.tr a z
  · obtain ⟨u, q⟩ := r.tr D (Or.inl z); rw [hD] at q; cases q
  · obtain ⟨u, q⟩ := r.tr D (Or.inr z); rw [hD] at q; cases q
theorem si_imp {wi : TI} {gV : TG} {gt : GF} {tt : BF} {te : EF} {it : IF} {vs : List Nat} {mu : Bool} (src : SrcOK X W wi it) (cg : CG X gV gt vs) {σ : L2.St} {H : Hp} {Q : VK} (h : lift X W (eSi mu it gt tt te vs) σ H Q) :
    tSi X.w wi gV (liftB X W0 tt) (lift X W0 te) vs σ H fun x H1 => rSortSI X.w [x] H1 Q := by
  obtain ⟨g, Γ, S, rel, rg, ok⟩ := h
  refine src σ H g Γ S _ rel rg (OKw.mono (OKw.bind ok) fun q S1 g1 H1 _ e1 h1 J hJ D hD => ?_)
  have h1 : OKw X W σ H1 g1 S1 ((siI q.1 gt tt te (wipeG Γ vs) q.2 0 [] S1).bind fun acc S2 => .ok (newP mu .lst ((srtI acc).map .int) S2).1 (newP mu .lst ((srtI acc).map .int) S2).2) (fun v S' g' H' => ∀ x, RV X H' g' S'.length v x → Q x H') := h1
  obtain ⟨res, Sr, hres⟩ : ∃ res Sr, siI q.1 gt tt te (wipeG Γ vs) q.2 0 [] S1 = .ok res Sr := by
    rcases si_noex (st := q.1) (gt := gt) (tt := tt) (te := te) (Γ := wipeG Γ vs) q.2 0 [] S1 with h | h
    · exact h
    · rw [h] at h1; exact h1.elim
  rw [hres] at h1
  have fin : ∀ g' H', Ext X H1 g1 S1 H' g' (newP mu .lst ((srtI res).map .int) Sr).2 → ∀ x, RV X H' g' (newP mu .lst ((srtI res).map .int) Sr).2.length (newP mu .lst ((srtI res).map .int) Sr).1 x → Q x H' := fun g' H' e x rx => h1 g' H' e x rx
  have w0 : Grw X H1 g1 S1 D (upd H1 D (SetI X.w D [])) g1 S1 := grw_new e1.rel hD
  refine ⟨fun i m H2 => ∃ g2 S2 acc, Grw X H1 g1 S1 D H2 g2 S2 ∧ H2 D = some (SetI X.w D acc) ∧ siI q.1 gt tt te (wipeG Γ vs) m i acc S2 = .ok res Sr, ⟨q.2, g1, S1, [], w0, upd_same, hres⟩, ?_⟩
  rintro i m H2 ⟨g2, S2, acc, w2, hD2, hl⟩
  cases m with
  | zero => cases hl
  | succ m =>
    obtain ⟨j1, j2⟩ := hJ g2 H2 S2 i w2.ext
    unfold siI at hl
    cases hst : q.1 S2 i with
    | none => rw [hst] at hl; cases hl
    | some z =>
      rw [hst] at hl
      cases z with
      | none =>
        cases hl
        refine Or.inl ⟨j2 hst, D, res, _, rfl, hD2, fun ns p n1 n2 hp => ?_⟩
        have e := srtI_of n1 n2
        subst e
        obtain ⟨g', q1, q2⟩ := new_ok (m := mu) w2.ext.rel hp (k := .lst) (o := .lst _) rfl (by decide) (RVs.mk_ints (srtI res))
        exact fin g' _ (w2.ext.trans q1) _ q2
      | some p =>
        obtain ⟨j3, j4⟩ := j1 p hst
        refine Or.inr ⟨j3, fun H3 => ∃ g3 S3 acc, Grw X H1 g1 S1 D H3 g3 S3 ∧ H3 D = some (SetI X.w D acc) ∧ siI q.1 gt tt te (wipeG Γ vs) m (i + 1) acc S3 = .ok res Sr, fun H3 h3 => ⟨m, Nat.lt_succ_self m, h3⟩, fun x H3 y => ?_⟩
        obtain ⟨g3, e3, rvx⟩ := j4 x H3 y
        obtain ⟨w3, hD3⟩ := w2.step hD2 e3
        have rg3 : RG X H3 g3 S2.length (wipeG Γ vs) (L2.wipe σ vs) := RG.wipe ((rg.up rel e1).up e1.rel w3.ext) vs
        cases hgt : gt p (wipeG Γ vs) S2 with
        | bad => simp only [hgt] at hl; cases hl
        | ex c fs S => simp only [hgt] at hl; cases hl
        | ok Γ4 S4 =>
          simp only [hgt] at hl
          refine cg.ok W x σ H3 g3 S2 _ p _ w3.ext.rel rg3 rvx Γ4 S4 hgt fun σ4 eS rg4 hw => ?_
          subst eS
          refine ⟨hw, ?_⟩
          cases htt : tt Γ4 S4 with
          | bad => simp only [htt] at hl; cases hl
          | ex c fs S => simp only [htt] at hl; cases hl
          | ok bv S5 =>
            simp only [htt] at hl
            refine ⟨g3, Γ4, S4, w3.ext.rel, rg4, ?_⟩
            rw [htt]
            intro g5 H5 e5
            obtain ⟨w5, hD5⟩ := w3.step hD3 e5
            cases bv with
            | false =>
              rw [if_neg Bool.false_ne_true]
              exact ⟨g5, S5, acc, w5, hD5, hl⟩
            | true =>
              rw [if_pos rfl]
              cases hte : te Γ4 S5 with
              | bad => simp only [hte] at hl; cases hl
              | ex c fs S => simp only [hte] at hl; cases hl
              | ok v S6 =>
                simp only [hte] at hl
                split at hl
                · rename_i k S7 e7
                  cases e7
                  split at hl
                  · rename_i hlen
                    refine ⟨g5, Γ4, S5, w5.ext.rel, rg4.up w3.ext.rel e5, ?_⟩
                    rw [hte]
                    intro g6 H6 e6 x6 rv6
                    obtain ⟨w6, hD6⟩ := w5.step hD5 e6
                    obtain ⟨w7, _⟩ := w6.put (o' := SetI X.w D (k :: acc)) hD6 trivial
                    exact ⟨acc, k, rv6.int_inv, hD6, by show acc.length + 1 < 4096; omega, g6, S6, k :: acc, w7, upd_same, hl⟩
                  · cases hl
                · cases hl
theorem E.sortSc {elt tg iter : Expr} {ifs : List Expr} {scope : Scope} {own : List (Str × Nat)} {gV : TG} {gt : GF} {tt : BF} {te : EF} {it : IF} {p pos pos2 : Pos} (mu : Bool) (hc : X.calm = true) (hgl : Gl X "sorted") (hm : X.mg "sorted" = none) (hN : X.N.Nodup) (hi : I X W tg iter it) (ok : BlkOk X.N X.env.scope scope own) (cg : CG X gV gt (own.map (·.2)))
    (hg : ∀ (s : Shared) (H : Hp) (C : Addr) (cl : List (Str × Addr)) (fp : List Addr), PG (X.blk s H scope (compEnvC scope cl C X.env) fp) tg gV)
    (ht : ∀ (s : Shared) (H : Hp) (C : Addr) (cl : List (Str × Addr)) (fp : List Addr), Ts (X.blk s H scope (compEnvC scope cl C X.env) fp) W0 ifs tt)
    (he : ∀ (s : Shared) (H : Hp) (C : Addr) (cl : List (Str × Addr)) (fp : List Addr), E (X.blk s H scope (compEnvC scope cl C X.env) fp) W0 elt te) (hs : ∀ x, foldedSetIterable iter X.env x = pure x := by intro _; rfl)
    (he2 : starEach [.SetComp elt [⟨tg, iter, ifs, 0⟩] scope pos] X.env = (false, eval (.SetComp elt [⟨tg, iter, ifs, 0⟩] scope pos) X.env) :: starEach [] X.env := by rfl) (hpl : (backTo pos2 (starEach [] X.env)).any (·.1) = false := by rfl) :
    E X W (.Call (.Name "sorted" p) [.SetComp elt [⟨tg, iter, ifs, 0⟩] scope pos] [] pos2) (eSi mu it gt tt te (own.map (·.2))) := by
  obtain ⟨wi, pi, src⟩ := hi
  refine pe_imp (pe_callB (cr_sortSI hc) hgl hm boot_sorted (pa_cons (pe_sci (tt := liftB X W0 tt) (te := lift X W0 te) hc hN pi ok hg ht he hs) pa_nil) (by decide) (by decide) he2 hpl) fun σ H Q h => ?_
  exact si_imp src cg h
end
end Pv
/-! Pv33: set(a list of numbers), sorted(set(a list)). The machine's steps are those of a set made of a tuple (library: HandS.SetFor, whose loop lemma is used), here for a list. -/
namespace Pv
open PySem PySem.Spec PyProof.Rows L2
section
variable {X : Cx} {W : WX} {H H' H'' : Hp} {g g' g'' : G} {S S' S'' : Sto}
def rSetL (K : PySem.W.Frag) (w : World) : List V → Hp → VK → Prop := fun xs H Q => ∃ (a : Addr) (ns : List Int), xs = [V.ref a] ∧ SqL K H a (ns.map V.int) ∧ ns.length < 4000 ∧ ∀ p c, H p = none → Q (.ref p) (upd H p (SetO w p (inS ns) c))
def intsOf : List PV → Option (List Int)
  | [] => some []
  | .int i :: ps => (intsOf ps).map (i :: ·)
  | _ => none
theorem intsOf_rv {Y : Kx} {L : Nat} : ∀ {xs : List PV} {vs : List V} {ns : List Int}, RVs Y H g L xs vs → intsOf xs = some ns → vs = ns.map V.int
  | [], vs, ns, h, e => by
    simp only [RVs] at h
    cases e
    exact h
  | x :: xs, vs, ns, h, e => by
    simp only [RVs] at h
    obtain ⟨v, r, rfl, h2, h3⟩ := h
    cases x with
    | int i =>
      obtain ⟨ms, e1, rfl⟩ := Option.map_eq_some_iff.mp (show (intsOf xs).map (i :: ·) = some ns from e)
      rw [h2.int_inv, intsOf_rv h3 e1]; rfl
    | _ => cases e
end
end Pv
/-! Pv34: sorted(a list of numbers). -/
namespace Pv
open PySem PySem.Spec PyProof.Rows L2
def insL (k : Int) : List Int → List Int
  | [] => [k]
  | j :: l => if k ≤ j then k :: j :: l else j :: insL k l
def srtL (ks : List Int) : List Int := ks.foldr insL []
theorem insL_perm {k : Int} : ∀ {l : List Int}, (insL k l).Perm (k :: l)
  | [] => List.Perm.refl _
  | j :: l => by
    unfold insL
    split
    · exact List.Perm.refl _
    · exact (List.Perm.cons j insL_perm).trans (List.Perm.swap k j l)
theorem srtL_perm : ∀ {ks : List Int}, (srtL ks).Perm ks
  | [] => List.Perm.refl _
  | k :: ks => insL_perm.trans (List.Perm.cons k srtL_perm)
theorem insL_asc {k : Int} : ∀ {l : List Int}, l.Pairwise (· ≤ ·) → (insL k l).Pairwise (· ≤ ·)
  | [], _ => by simp [insL]
  | j :: l, h => by
    obtain ⟨h1, h2⟩ := List.pairwise_cons.mp h
    unfold insL
    split
    · rename_i hk
      refine List.pairwise_cons.mpr ⟨fun x hx => ?_, h⟩
      rcases List.mem_cons.mp hx with rfl | hx
      · exact hk
      · exact Int.le_trans hk (h1 x hx)
    · refine List.pairwise_cons.mpr ⟨fun x hx => ?_, insL_asc h2⟩
      rcases List.mem_cons.mp (insL_perm.mem_iff.mp hx) with rfl | hx
      · omega
      · exact h1 x hx
theorem srtL_asc : ∀ ks : List Int, (srtL ks).Pairwise (· ≤ ·)
  | [] => List.Pairwise.nil
  | k :: ks => insL_asc (srtL_asc ks)
theorem le_ext : ∀ {a b : List Int}, a.Pairwise (· ≤ ·) → b.Pairwise (· ≤ ·) → a.Perm b → a = b
  | [], b, _, _, h => (List.nil_perm.mp h).symm
  | x :: a, [], _, _, h => by have := h.length_eq; simp at this
  | x :: a, y :: b, ha, hb, h => by
    obtain ⟨a1, a2⟩ := List.pairwise_cons.mp ha
    obtain ⟨b1, b2⟩ := List.pairwise_cons.mp hb
    have e : x = y := by
      rcases List.mem_cons.mp (h.mem_iff.mp (List.mem_cons_self (a := x))) with e | e
      · exact e
      · rcases List.mem_cons.mp (h.mem_iff.mpr (List.mem_cons_self (a := y))) with e' | e'
        · exact e'.symm
        · have := b1 x e
          have := a1 y e'
          omega
    subst e
    rw [le_ext a2 b2 (List.Perm.cons_inv h)]
theorem srtL_of {ns ks : List Int} (h1 : ns.Perm ks) (h2 : ns.Pairwise (· ≤ ·)) : ns = srtL ks := le_ext h2 (srtL_asc ks) (h1.trans srtL_perm.symm)
section
variable {X : Cx} {W : WX} {H H' : Hp} {g g' : G} {S S' : Sto}
def sortF (mu : Bool) : CF := fun ps S => match ps with
  | [p] => match deref S p with
    | some (.lst, xs) => match intsOf xs with
      | some ns => some (newP mu .lst ((srtL ns).map .int) S)
      | none => none
    | _ => none
  | _ => none
theorem cf_sort {mu : Bool} : CallF X (rSortedI X.K) (sortF mu) := by
  intro H g S ps xs w S' Q rel rxs h k
  unfold sortF at h
  split at h
  · rename_i p
    simp only [RVs] at rxs
    obtain ⟨x, r, rfl, rx, rfl⟩ := rxs
    split at h
    · rename_i xs hd
      split at h
      · rename_i ns hn
        obtain ⟨a, vs, rfl, q2, q3⟩ := deref_ok rel rx hd
        have ev := intsOf_rv q2 hn
        subst ev
        refine ⟨a, ns, rfl, q3.lst, fun ms p m1 m2 hp => ?_⟩
        have em := srtL_of m1 m2
        subst em
        obtain ⟨g', z1, z2⟩ := new_ok (m := mu) rel hp (k := .lst) (o := .lst _) rfl (by decide) (RVs.mk_ints (srtL ns))
        have h := Option.some.inj h
        rw [h] at z1 z2
        exact k g' _ _ z1 z2
      · cases h
    · cases h
  · cases h
end
end Pv
/-! Pv35: blocks within blocks. -/
namespace Pv
open PySem PySem.Spec PyProof.Rows L2
/-- the block of a comprehension, as far as its parts ask -/
structure Bk (X : Cx) (N : List Str) (sc : Scope) : Prop where
  hN : X.N = N
  sc : X.env.scope = sc
  calm : X.calm = true
section
variable {X : Cx} {W : WX} {N : List Str} {sc : Scope} {k : Nat} {pos : Pos}
theorem Body.bk (b : Body X W N sc k) {s : Shared} {H : Hp} {scope : Scope} {C : Addr} {cl : List (Str × Addr)} {fp : List Addr} : Bk (X.blk s H scope (compEnvC scope cl C X.env) fp) N (relS scope sc) := ⟨b.hN, blk_sc b.sc, b.calm⟩
theorem Bk.bk (b : Bk X N sc) {s : Shared} {H : Hp} {scope : Scope} {C : Addr} {cl : List (Str × Addr)} {fp : List Addr} : Bk (X.blk s H scope (compEnvC scope cl C X.env) fp) N (relS scope sc) := ⟨b.hN, blk_sc b.sc, b.calm⟩
theorem Bk.v (b : Bk X N sc) (i : Nat) (x : Str) (h : slC N sc i x = true) : E X W (.Name x pos) (eV i) := E.vr b.hN b.sc i x h
theorem Bk.gl (b : Bk X N sc) (x : Str) (h : sc.names.lookup x = some .globalImplicit) : Gl X x := gl_of b.sc x h
theorem Bk.blk (b : Bk X N sc) {scope : Scope} {own : List (Str × Nat)} (h : blkC N sc scope own = true) : BlkOk X.N X.env.scope scope own := by
  have b1 := b.hN
  have b2 := b.sc
  subst b1 b2
  exact blkOk_by h
end
end Pv
/-! Pv36: dicts as plain data: what stands at a key, whether one stands there, another put. -/
namespace Pv
open PySem PySem.Spec PyProof.Rows L2
section
variable {κ : Type} [DecidableEq κ]
/-- what stands at the key i -/
def dgetP : List κ → List PV → κ → Option PV
  | k :: ks, x :: xs, i => if k = i then some x else dgetP ks xs i
  | _, _, _ => none
/-- keys and values behind d[i] = v -/
def dkeysP (ks : List κ) (i : κ) : List κ := if i ∈ ks then ks else ks ++ [i]
def dvalsP (ks : List κ) (xs : List PV) (i : κ) (v : PV) : List PV := if i ∈ ks then List.zipWith (fun k x => if k = i then v else x) ks xs else xs ++ [v]
variable {Y : Kx} {H : Hp} {g : G} {L : Nat}
theorem dget_rv : ∀ {ks : List κ} {xs : List PV} {vs : List V}, RVs Y H g L xs vs → ks.length = vs.length → ∀ i, (∀ p, dgetP ks xs i = some p → ∃ v, valV (ks.zip vs) i = some v ∧ RV Y H g L p v) ∧ (dgetP ks xs i = none → valV (ks.zip vs) i = none)
  | [], xs, vs, r, hl, i => by
    refine ⟨fun p h => ?_, fun _ => rfl⟩
    cases xs <;> cases h
  | k :: ks, [], vs, r, hl, i => by
    have := r.len
    simp only [List.length_nil, List.length_cons] at this hl
    omega
  | k :: ks, x :: xs, vs, r, hl, i => by
    simp only [RVs] at r
    obtain ⟨v, r', rfl, h2, h3⟩ := r
    have ih := dget_rv (ks := ks) h3 (by simpa using hl) i
    unfold dgetP
    rw [List.zip_cons_cons]
    by_cases e : k = i
    · rw [if_pos e, valV_pos (p := (k, v)) e]
      exact ⟨fun p h => ⟨v, rfl, by cases h; exact h2⟩, fun h => nomatch h⟩
    · rw [if_neg e, valV_neg (p := (k, v)) e]
      exact ih
theorem any_zip {ks : List κ} {vs : List V} (hl : ks.length = vs.length) (i : κ) : ((ks.zip vs).any fun kv => decide (kv.1 = i)) = decide (i ∈ ks) := by
  induction ks generalizing vs with
  | nil => rfl
  | cons k ks ih =>
    cases vs with
    | nil => simp at hl
    | cons v vs =>
      rw [List.zip_cons_cons, List.any_cons, ih (by simpa using hl)]
      by_cases e : k = i
      · simp [e]
      · have : ¬ i = k := fun z => e z.symm
        simp [e, this]
theorem zipW_rv {p : PV} {v : V} (rp : RV Y H g L p v) (i : κ) : ∀ {ks : List κ} {xs : List PV} {vs : List V}, RVs Y H g L xs vs → ks.length = vs.length →
    RVs Y H g L (List.zipWith (fun k x => if k = i then p else x) ks xs) (List.zipWith (fun k x => if k = i then v else x) ks vs)
  | [], xs, vs, r, hl => by
    have e : vs = [] := by cases vs with
      | nil => rfl
      | cons _ _ => simp at hl
    subst e
    exact RVs.nil
  | k :: ks, [], vs, r, hl => by
    have := r.len
    simp only [List.length_nil, List.length_cons] at this hl
    omega
  | k :: ks, x :: xs, vs, r, hl => by
    simp only [RVs] at r
    obtain ⟨u, r', rfl, h2, h3⟩ := r
    simp only [List.zipWith_cons_cons]
    refine RVs.cons ?_ (zipW_rv rp i h3 (by simpa using hl))
    split
    · exact rp
    · exact h2
theorem map_zip {ks : List κ} {vs : List V} (i : κ) (v : V) : ((ks.zip vs).map fun kv => if kv.1 = i then (kv.1, v) else kv) = ks.zip (List.zipWith (fun k x => if k = i then v else x) ks vs) := by
  induction ks generalizing vs with
  | nil => rfl
  | cons k ks ih =>
    cases vs with
    | nil => rfl
    | cons u vs =>
      simp only [List.zip_cons_cons, List.map_cons, List.zipWith_cons_cons, ih]
      by_cases e : k = i
      · rw [if_pos e, if_pos e]
      · rw [if_neg e, if_neg e]
theorem dput_rv {ks : List κ} {xs : List PV} {vs : List V} {p : PV} {v : V} (r : RVs Y H g L xs vs) (hl : ks.length = vs.length) (i : κ) (rp : RV Y H g L p v) :
    ∃ vs', RVs Y H g L (dvalsP ks xs i p) vs' ∧ (dkeysP ks i).length = vs'.length ∧ putK (ks.zip vs) i v = (dkeysP ks i).zip vs' := by
  unfold dvalsP dkeysP putK
  rw [any_zip hl]
  by_cases h : i ∈ ks
  · rw [if_pos h, if_pos h, if_pos (decide_eq_true h)]
    exact ⟨_, zipW_rv rp i r hl, by simp [hl], map_zip i v⟩
  · rw [if_neg h, if_neg h, if_neg (by simp [h])]
    refine ⟨vs ++ [v], r.append (RVs.cons rp RVs.nil), by simp [hl], ?_⟩
    rw [List.zip_append hl]
    rfl
end
/-! ### keys -/
def keyP : PV → Option Key
  | .int i => some (.inl i)
  | .str z => some (.inr z)
  | _ => none
def keyT (S : Sto) (p : PV) : Option (List Key) := match derefH S p with
  | some (.tup, xs) => xs.mapM keyP
  | _ => none
/-- a key as a value; a key of several parts -/
def kP : Key → PV
  | .inl i => .int i
  | .inr z => .str z
def kTP (k : List Key) : PV := .con .own .tup (k.map kP)
section
variable {Y : Kx} {H H' : Hp} {g g' : G} {S S' : Sto} {L : Nat}
theorem keyP_ok {p : PV} {x : V} {k : Key} (r : RV Y H g L p x) (h : keyP p = some k) : x = kV k := by
  cases p with
  | int i => cases h; exact r.int_inv
  | str z => cases h; exact r.str_inv
  | _ => cases h
theorem keyPs_ok : ∀ {xs : List PV} {vs : List V} {ks : List Key}, RVs Y H g L xs vs → xs.mapM keyP = some ks → vs = ks.map kV
  | [], vs, ks, r, h => by
    simp only [RVs] at r
    subst r
    simp at h
    subst h
    rfl
  | x :: xs, vs, ks, r, h => by
    simp only [RVs] at r
    obtain ⟨v, r', rfl, h2, h3⟩ := r
    simp only [List.mapM_cons, Option.bind_eq_bind, Option.bind_eq_some_iff, Option.pure_def, Option.some.injEq] at h
    obtain ⟨k, e1, es, e2, rfl⟩ := h
    rw [keyP_ok h2 e1, keyPs_ok h3 e2] <;> rfl
theorem keyT_ok {p : PV} {x : V} {k : List Key} (rel : Rel Y H g S) (r : RV Y H g S.length p x) (h : keyT S p = some k) : ∃ b, x = .ref b ∧ H b = some (.tup (k.map kV)) := by
  unfold keyT at h
  split at h
  · rename_i xs e
    obtain ⟨a, vs, o, rfl, h2, h3, h4⟩ := derefH_ok rel r e
    cases h3
    exact ⟨a, rfl, by rw [← keyPs_ok h2 h]; exact h4⟩
  · cases h
theorem Rdd.dk {ks : List Key} {vs : List V} {a : Addr} (h : Rdd Y H (.dk ks) vs a) : ks.length = vs.length ∧ Rd H a (.dK (ks.zip vs)) := by
  rcases h with ⟨o, ⟨h1, rfl⟩, h2⟩ | h
  · exact ⟨h1, h2⟩
  · exact h.elim
theorem Rdd.dt {ks : List (List Key)} {vs : List V} {a : Addr} (h : Rdd Y H (.dt ks) vs a) : ks.length = vs.length ∧ Rd H a (.dT (ks.zip vs)) := by
  rcases h with ⟨o, ⟨h1, rfl⟩, h2⟩ | h
  · exact ⟨h1, h2⟩
  · exact h.elim
/-! ### d[k], k in d -/
/-- none: no dict, or no key; some none: not there -/
@[irreducible] def dgetB (S : Sto) (d k : PV) : Option (Option PV) := match deref S d with
  | some (.dk ks, xs) => (keyP k).map fun i => dgetP ks xs i
  | some (.dt ks, xs) => (keyT S k).map fun i => dgetP ks xs i
  | _ => none
theorem dgetB_ok {d k : PV} {x y : V} {r : Option PV} (rel : Rel Y H g S) (rd : RV Y H g S.length d x) (rk : RV Y H g S.length k y) (h : dgetB S d k = some r) :
    ∃ a o, x = .ref a ∧ DGet H a y o ∧ (∀ p, r = some p → ∃ v, o = some v ∧ RV Y H g S.length p v) ∧ (r = none → o = none) := by
  unfold dgetB at h
  split at h
  · rename_i ks xs e
    obtain ⟨i, h1, rfl⟩ := Option.map_eq_some_iff.mp h
    obtain ⟨a, vs, rfl, h2, h3⟩ := deref_ok rel rd e
    obtain ⟨hl, hr⟩ := h3.dk
    obtain ⟨q1, q2⟩ := dget_rv h2 hl i
    exact ⟨a, _, rfl, Or.inl ⟨_, i, hr, keyP_ok rk h1, rfl⟩, q1, q2⟩
  · rename_i ks xs e
    obtain ⟨i, h1, rfl⟩ := Option.map_eq_some_iff.mp h
    obtain ⟨a, vs, rfl, h2, h3⟩ := deref_ok rel rd e
    obtain ⟨hl, hr⟩ := h3.dt
    obtain ⟨b, rfl, hb⟩ := keyT_ok rel rk h1
    obtain ⟨q1, q2⟩ := dget_rv h2 hl i
    exact ⟨a, _, rfl, Or.inr ⟨_, i, b, hr, rfl, hb, rfl⟩, q1, q2⟩
  · cases h
end
def dninF : OF := fun k d S => (dgetB S d k).map fun r => (.bl (!r.isSome), S)
def dgetF : OF := fun d k S => (dgetB S d k).bind fun r => r.map fun v => (v, S)
def rDIn (f : Bool → Bool) : R2 := fun y x H Q => ∃ a o, x = .ref a ∧ DGet H a y o ∧ Q (.bl (f o.isSome)) H
def rDGet : R2 := fun x y H Q => ∃ a v, x = .ref a ∧ DGet H a y (some v) ∧ Q v H
section
variable {X : Cx} {W : WX} {a b c e o : Expr} {ta tb tc to : EF} {pos pos' : Pos} {N : List Str} {sc : Scope} {k : Nat}
theorem isSome_eq_of {r : Option PV} {u : Option V} (h1 : ∀ p, r = some p → ∃ v, u = some v ∧ True) (h2 : r = none → u = none) : r.isSome = u.isSome := by
  cases r with
  | none => rw [h2 rfl] <;> rfl
  | some p => obtain ⟨v, q, _⟩ := h1 p rfl; rw [q] <;> rfl
theorem opf_dnin : OpF X (rDIn (!·)) dninF := by
  intro H g S p q x y w S' Q rel rx ry h kq
  obtain ⟨r, h1, h2⟩ := Option.map_eq_some_iff.mp h
  cases h2
  obtain ⟨d, u, rfl, h3, h4, h5⟩ := dgetB_ok rel ry rx h1
  refine ⟨d, u, rfl, h3, ?_⟩
  show Q (.bl (!u.isSome)) H
  rw [show u.isSome = r.isSome from (isSome_eq_of (fun p hp => by obtain ⟨v, z, _⟩ := h4 p hp; exact ⟨v, z, trivial⟩) h5).symm]
  exact kq g H _ (Ext.refl rel) RV.bl
theorem opf_dget : OpF X rDGet dgetF := by
  intro H g S p q x y w S' Q rel rx ry h kq
  obtain ⟨r, h1, h2⟩ := Option.bind_eq_some_iff.mp h
  obtain ⟨z, h3, h4⟩ := Option.map_eq_some_iff.mp h2
  cases h4
  obtain ⟨d, u, rfl, h5, h6, _⟩ := dgetB_ok rel rx ry h1
  obtain ⟨v, rfl, h7⟩ := h6 _ h3
  exact ⟨d, v, rfl, h5, kq g H _ (Ext.refl rel) h7⟩
theorem or_dnin (hu : X.A.units + 65 < cLine) : OpR X (compareOp .NotIn) (rDIn (!·)) := by
  intro pins s σ H x y v u Q I rx ry ⟨d, o, ey, h1, h2⟩
  subst ey
  cases (show u = Value.ref d from ry)
  exact d_notIn (by omega) I h1 rx fun s' I' => ⟨.bl (!o.isSome), H, I', rfl, h2⟩
theorem E.dget (hu : X.A.units + 65 < cLine) (ha : E X W a ta) (hb : E X W b tb) (hs : NoSl b := by exact fun _ _ => rfl) : E X W (.Subscript a b pos) (eOp dgetF ta tb) :=
  pe_imp (pe_dget (by omega) ha hb hs) fun σ H Q h => lift_op (X := X) (r := rDGet) opf_dget h
/-! ### d[k] = v -/
@[irreducible] def setDF : SetF := fun o i v S => match o with
  | .ref n => match S[n]?.join with
    | some (.dk ks, xs) => (keyP i).bind fun j => if xs.length < sizeLine then some (S.set n (some (.dk (dkeysP ks j), dvalsP ks xs j v))) else none
    | some (.dt ks, xs) => (keyT S i).bind fun j => if xs.length < sizeLine then some (S.set n (some (.dt (dkeysP ks j), dvalsP ks xs j v))) else none
    | _ => none
  | _ => none
theorem setDF_ok {Y : Kx} {H : Hp} {g : G} {S S' : Sto} {o i v : PV} {x y z : V} (rel : Rel Y H g S) (rx : RV Y H g S.length o x) (ry : RV Y H g S.length i y) (rz : RV Y H g S.length v z) (h : setDF o i v S = some S') :
    ∃ d H', x = .ref d ∧ DPut H d y z H' ∧ Ext Y H g S H' g S' := by
  unfold setDF at h
  split at h
  · rename_i n
    have rx2 := rx
    simp only [RV] at rx2
    obtain ⟨_, rfl⟩ := rx2
    split at h
    · rename_i ks xs ej
      obtain ⟨j, h1, h2⟩ := Option.bind_eq_some_iff.mp h
      split at h2
      · rename_i hlt
        cases h2
        have hn := join_some ej
        obtain ⟨ob, vs, q1, ⟨q2, q3⟩, _, q4⟩ := rel.ob n _ _ hn
        subst q3
        obtain ⟨vs', r1, r2, r3⟩ := dput_rv q4 q2 j rz
        refine ⟨_, _, rfl, Or.inl ⟨_, j, q1, keyP_ok ry h1, ?_, rfl⟩, ?_⟩
        · rw [List.length_zip, ← q2, Nat.min_self, q2, ← q4.len]; exact hlt
        · rw [r3]
          exact set_ok rel hn (k' := .dk (dkeysP ks j)) ⟨r2, rfl⟩ (by simp) r1
      · cases h2
    · rename_i ks xs ej
      obtain ⟨j, h1, h2⟩ := Option.bind_eq_some_iff.mp h
      split at h2
      · rename_i hlt
        cases h2
        have hn := join_some ej
        obtain ⟨ob, vs, q1, ⟨q2, q3⟩, _, q4⟩ := rel.ob n _ _ hn
        subst q3
        obtain ⟨b, rfl, hb⟩ := keyT_ok rel ry h1
        obtain ⟨vs', r1, r2, r3⟩ := dput_rv q4 q2 j rz
        refine ⟨_, _, rfl, Or.inr ⟨_, j, b, q1, rfl, hb, ?_, rfl⟩, ?_⟩
        · rw [List.length_zip, ← q2, Nat.min_self, q2, ← q4.len]; exact hlt
        · rw [r3]
          exact set_ok rel hn (k' := .dt (dkeysP ks j)) ⟨r2, rfl⟩ (by simp) r1
      · cases h2
    · cases h
  · cases h
theorem St.dput (hu : X.A.units + 65 < cLine) (ho : E X W o to) (hi : E X W a ta) (hv : E X W e tb) (hs : swapsWith e (some (.Subscript o a pos')) pos.line X.env = pure false := by rfl) :
    St X W (.Assign [.Subscript o a pos'] e pos) (sAsg tb (gSubF setDF to ta)) :=
  ps_imp (ps_dput (by omega) ho hi hv hs) fun D σ H ⟨g, Γ, S, rel, rg, ok⟩ => by
    refine ⟨g, Γ, S, rel, rg, OKw.mono (OKs.st rel rg ok) fun v S1 g1 H1 _ e1 h1 z rz => ?_⟩
    have rg1 := rg.up rel e1
    have h1 := OKs.st e1.rel rg1 h1
    refine ⟨g1, Γ, S1, e1.rel, rg1, OKw.mono (OKw.bind h1) fun p S2 g2 H2 _ e2 h2 x rx => ?_⟩
    refine ⟨g2, Γ, S2, e2.rel, rg1.up e1.rel e2, OKw.mono (OKw.bind h2) fun q S3 g3 H3 _ e3 h3 y ry => ?_⟩
    split at h3
    · rename_i S4 hw
      obtain ⟨d, H4, rfl, hp, e4⟩ := setDF_ok e3.rel (RV.up e2.rel e3 _ _ rx) ry (RV.up e2.rel e3 _ _ (RV.up e1.rel e2 _ _ rz)) hw
      have h4 := h3 g3 H4 e4
      exact ⟨d, H4, rfl, hp, h4 g3 H4 σ (Ext.refl e4.rel) (((rg1.up e1.rel e2).up e2.rel e3).up e3.rel e4)⟩
    · exact h3.elim
end
end Pv
/-! Pv37: dicts made, handed out (read alone from then on), walked, copied. -/
namespace Pv
open PySem PySem.Spec PyProof.Rows L2
section
variable {X : Cx} {W : WX} {a b c e o l tg : Expr} {ta tb tc to tk tv : EF} {pos pos' p : Pos} {N : List Str} {sc : Scope} {x : Str}
/-! ### a new dict -/
/-- {k: v}, the key a tuple: the dict is laid first -/
def tDT1 (uk uv : TE) : TE := fun σ H Q => ∀ q, H q = none → uk σ (upd H q (.dT [])) fun x H1 => uv σ H1 fun y H2 => H2 q = some (.dT []) ∧ ∃ j ks, x = .ref j ∧ H2 j = some (.tup (ks.map kV)) ∧ Q (.ref q) (upd H2 q (.dT [(ks, y)]))
theorem pe_dt1 {uk uv : TE} (hu : X.A.units + 65 < cLine) (hk : PE X a uk) (hv : PE X b uv) : PE X (.Dict [some a] [b] pos) (tDT1 uk uv) := by
  refine ⟨fun pins s σ H Q I q => ?_⟩
  have fr := I.hok.fresh (Nat.le_refl s.heap.objs.size)
  have I1 := I.laid (t' := s.toks) (o := .dT []) (fun _ _ z => Heap.get?_push_of_some _ z) (Nat.le_refl _) (dt_empty s.heap I.big)
  rw [arm_eval_Dict, zip_pairTrees [some a] [b] X.env pos rfl rfl, dictDisplay_pairs (pairTrees [some a] [b] X.env pos) (fun z => nomatch z) (show 1 < 17 by decide)]
  refine wpAny_bind (wpAny_standAt (wpAny_bind (wpAny_subDictH (knd := tupleKind (mixKind X.prog X.w)) (show X.A.units < cLine by omega) (show 1 ≤ 15 by decide) ?_)))
  refine pairTrees_cons_walk (thn (hk.run pins _ σ _ _ I1 (q _ fr)) fun u s1 ⟨x, H1, I2, rx, q1⟩ => thn (hv.run pins s1 σ H1 _ I2 q1) fun v s2 ⟨y, H2, I3, ry, q2⟩ => pairTrees_nil_walk ?_)
  obtain ⟨hq, j, ks, ex, hj, q3⟩ := q2
  subst ex
  cases (show u = Value.ref j from rx)
  obtain ⟨_, nm, ys, rs, dd⟩ := dt_of I3.hok hq
  cases rs
  refine ⟨[(ks, j, v)], ⟨rfl, rfl, key_of I3.hok hj, trivial⟩, dd, fun h' tk dd' hs => wpAny_pure ⟨.ref s.heap.objs.size, _, ?_, rfl, q3⟩⟩
  obtain ⟨ob, es, ep, z1, z2, z3, z4, _, z5⟩ := dd'
  refine d_write I3 (by rw [hq]; exact True.intro) hs ⟨ob, z1⟩ ⟨by rw [sizeLine_eq, List.length_singleton]; decide, nm, [(ks, j, v)], .cons ⟨rfl, ?_, ry⟩ .nil, ob, es, ep, z1, z2, z3, z4, z5⟩
  rw [upd_ne (ne_of hj hq (fun z => nomatch z))]
  exact hj
def eDT1 (tk tv : EF) : EF := fun Γ S => (tk Γ (S ++ [some (.dt [], [])])).bind fun x S1 => (tv Γ S1).bind fun y S2 => match S2[S.length]?.join, keyT S2 x with
  | some (.dt [], []), some k => .ok (.ref S.length) (S2.set S.length (some (.dt [k], [y])))
  | _, _ => .bad
theorem E.dt1 (hu : X.A.units + 65 < cLine) (ha : E X W a tk) (hb : E X W b tv) : E X W (.Dict [some a] [b] pos) (eDT1 tk tv) :=
  pe_imp (pe_dt1 hu ha hb) fun σ H Q ⟨g, Γ, S, rel, rg, ok⟩ q hq => by
    have h1 := newM_ok (X := X) (k := .dt []) (xs := []) (vs := []) (o := .dT []) rel hq ⟨rfl, rfl⟩ (by simp) RVs.nil
    have ok1 : OKw X W σ (upd H q (.dT [])) (g.addR S.length q) (S ++ [some (.dt [], [])]) (eDT1 tk tv Γ S) fun v S' g' H' => ∀ x, RV X H' g' S'.length v x → Q x H' := by
      cases hr : eDT1 tk tv Γ S with
      | ok v S' => rw [hr] at ok; exact fun g' H' e' => ok g' H' (h1.1.trans e')
      | ex c fs S' => rw [hr] at ok; exact fun g' H' cls d e' => ok g' H' cls d (h1.1.trans e')
      | bad => rw [hr] at ok; exact ok
    have rg1 := rg.up rel h1.1
    refine ⟨_, Γ, _, h1.1.rel, rg1, OKw.mono (OKw.bind ok1) fun x S1 g1 H1 _ e1 k1 vx rx => ?_⟩
    refine ⟨g1, Γ, S1, e1.rel, rg1.up h1.1.rel e1, OKw.mono (OKw.bind k1) fun y S2 g2 H2 _ e2 k2 vy ry => ?_⟩
    split at k2
    · rename_i k ej ek
      have hn := join_some ej
      obtain ⟨ob, vs, z1, ⟨z2, z3⟩, _, z4⟩ := e2.rel.ob _ _ _ hn
      simp only [RVs] at z4
      subst z4 z3
      have hr : g2.r S.length = q := by
        rw [e2.rho _ (Nat.lt_of_lt_of_le (by simp) e1.len), e1.rho _ (by simp)]
        exact if_pos rfl
      rw [hr] at z1
      obtain ⟨j, rfl, hj⟩ := keyT_ok e2.rel (RV.up e1.rel e2 _ _ rx) ek
      refine ⟨z1, j, k, rfl, hj, ?_⟩
      have st := set_ok e2.rel hn (k' := .dt [k]) (xs' := [y]) (vs' := [vy]) (o' := .dT [(k, vy)]) ⟨rfl, rfl⟩ (by simp) (RVs.cons ry RVs.nil)
      rw [hr] at st
      refine k2 g2 _ st _ ?_
      simp only [RV]
      exact ⟨by rw [List.length_set]; exact (List.getElem?_eq_some_iff.mp hn).1, by rw [hr]⟩
    · exact k2.elim
/-! ### a dict is handed out: from then on it is read alone -/
def tLk (t : TE) : TE := fun σ H Q => t σ H fun v H1 => ∃ d u, v = .ref d ∧ H1 d = some u ∧ Mut (some u) ∧ ∀ od, Q v (upd H1 d (.frz od u))
theorem pe_lk {t : TE} (h : PE X e t) : PE X e (tLk t) := ⟨fun pins s σ H Q I q => thn (h.run pins s σ H _ I q) fun u s1 ⟨x, H1, I1, r, d, o, ex, hd, mu, q⟩ => by
  obtain ⟨od, I2⟩ := I1.lock hd mu
  exact ⟨x, _, I2, r, q od⟩⟩
def isDict : Kd → Bool
  | .dk _ => true
  | .dt _ => true
  | _ => false
def eLock (t : EF) : EF := fun Γ S => (t Γ S).bind fun v S1 => match v with
  | .ref n => match S1[n]?.join with
    | some (k, xs) => if isDict k = true then .ok (.con .out k xs) (S1.set n none) else .bad
    | _ => .bad
  | _ => .bad
theorem lock_ok {Y : Kx} {H : Hp} {g : G} {S : Sto} {n : Nat} {k : Kd} {xs : List PV} {vs : List V} {u : HO} (rel : Rel Y H g S) (hn : S[n]? = some (some (k, xs))) (hu : H (g.r n) = some u) (ho : HOof Y.mg k vs u) (hr : RVs Y H g S.length xs vs) (od : Obj) :
    Ext Y H g S (upd H (g.r n) (.frz od u)) g (S.set n none) ∧ RV Y (upd H (g.r n) (.frz od u)) g (S.set n none).length (.con .out k xs) (.ref (g.r n)) := by
  have an : Al S n := ⟨_, hn⟩
  have hlen : (S.set n none).length = S.length := List.length_set
  have hal : ∀ i, Al (S.set n none) i → Al S i ∧ i ≠ n := fun i ⟨q, e⟩ => by
    by_cases z : n = i
    · subst z; rw [List.getElem?_set_self (Al.lt an)] at e; cases e
    · rw [List.getElem?_set_ne z] at e; exact ⟨⟨q, e⟩, fun h => z h.symm⟩
  have mu := rel.mut an
  have up : Up H g S.length (upd H (g.r n) (.frz od u)) g S.length := ⟨fun a v h z => by
    refine (upd_ne fun e => ?_).trans h
    subst e
    rw [h] at mu
    rcases z mu with z | z
    · exact rel.fF n an z
    · exact rel.fT n an z, fun _ h => h, fun _ h => h, fun _ _ => rfl, Nat.le_refl _⟩
  refine ⟨⟨⟨fun i k2 xs2 e => ?_, fun i j hi hj e => rel.inj i j (hal i hi).1 (hal j hj).1 e, fun i hi => rel.fF i (hal i hi).1, fun i hi => rel.fT i (hal i hi).1, fun a z => ?_⟩, fun a v h z => ?_, fun i hi => Or.inl ⟨(hal i hi).1, rfl⟩, fun _ _ => rfl, Nat.le_of_eq hlen.symm, fun _ h => h, rfl, fun a v h => ?_, fun _ h => Or.inl h⟩, ?_⟩
  · rw [hlen]
    obtain ⟨h1, h2⟩ := hal i ⟨_, e⟩
    rw [List.getElem?_set_ne (fun z => h2 z.symm)] at e
    obtain ⟨w, ws, q1, q2, q3, q4⟩ := rel.ob i k2 xs2 e
    exact ⟨w, ws, by rw [upd_ne fun q => h2 (rel.inj i n h1 an q)]; exact q1, q2, q3, RVs.mono up _ _ q4⟩
  · by_cases e : a = g.r n
    · exact ⟨_, by rw [e, upd_same]⟩
    · rw [upd_ne e]; exact rel.tr a z
  · rw [upd_ne fun e => z n an e.symm]; exact h
  · by_cases e : a = g.r n
    · exact ⟨_, by rw [e, upd_same]⟩
    · exact ⟨v, by rw [upd_ne e]; exact h⟩
  · simp only [RV]
    exact ⟨_, vs, rfl, Or.inl ⟨od, u, ho, upd_same⟩, by rw [hlen]; exact RVs.mono up _ _ hr⟩
theorem E.lock (h : E X W e ta) : E X W e (eLock ta) := pe_imp (pe_lk h) fun σ H Q ⟨g, Γ, S, rel, rg, ok⟩ => ⟨g, Γ, S, rel, rg, OKw.mono (OKw.bind ok) fun v S1 g1 H1 _ e1 h1 y ry => by
  split at h1
  · rename_i n
    split at h1
    · rename_i k xs ej
      split at h1
      · rename_i hd
        have hn := join_some ej
        obtain ⟨u, vs, z1, z2, z3, z4⟩ := e1.rel.ob _ _ _ hn
        simp only [RV] at ry
        obtain ⟨_, rfl⟩ := ry
        refine ⟨_, u, rfl, z1, z2.mut z3, fun od => ?_⟩
        obtain ⟨q1, q2⟩ := lock_ok e1.rel hn z1 z2 z4 od
        exact h1 _ _ q1 _ q2
      · exact h1.elim
    · exact h1.elim
  · exact h1.elim⟩
/-! ### for k in d, d handed out -/
theorem RVs.kPs {Y : Kx} {H : Hp} {g : G} {L : Nat} (k : List Key) : RVs Y H g L (k.map kP) (k.map kV) := by
  induction k with
  | nil => exact RVs.nil
  | cons i k ih =>
    cases i with
    | inl i => exact RVs.cons RV.int ih
    | inr z => exact RVs.cons RV.str ih
theorem RV.kP {Y : Kx} {H : Hp} {g : G} {L : Nat} (k : Key) : RV Y H g L (Pv.kP k) (kV k) := by
  cases k with
  | inl i => exact RV.int
  | inr z => exact RV.str
def iD (t : EF) : IF := fun Γ S => (t Γ S).bind fun q S1 => match q with
  | .con .out (.dk ks) _ => .ok (stL (ks.map kP), ks.length + 1) S1
  | .con .out (.dt ks) _ => .ok (stL (ks.map kTP), ks.length + 1) S1
  | _ => .bad
theorem zip_at {κ : Type} {ks : List κ} {vs : List V} (hl : ks.length = vs.length) {i : Nat} {k : κ} (h : ks[i]? = some k) : ∃ v, (ks.zip vs)[i]? = some (k, v) := by
  have h1 := (List.getElem?_eq_some_iff.mp h).1
  refine ⟨vs[i]'(by omega), ?_⟩
  rw [List.getElem?_zip_eq_some]
  exact ⟨h, List.getElem?_eq_getElem _⟩
theorem I.dict (hl : E X W l ta) : I X W tg l (iD ta) :=
  ⟨_, pi_keys hl, fun σ H g Γ S Rr rel rg ok => ⟨g, Γ, S, rel, rg, OKw.mono (OKw.bind ok) fun q S1 g1 H1 _ e1 h1 x rx => by
    split at h1
    · rename_i ks xs
      have rx0 := rx
      simp only [RV] at rx
      obtain ⟨d, vs, rfl, h2, h3⟩ := rx
      rcases h2 with ⟨ob, u, ⟨hk, rfl⟩, hd⟩ | h2
      · refine ⟨d, ob, rfl, Or.inl ⟨_, hd, OKw.ok e1.rel h1 _ fun g' H' S' i e2 => ?_⟩⟩
        have hd' := (Ext.up e1.rel e2).keep d _ hd fun z => False.elim z
        refine ⟨fun y hy => ?_, fun hy => ⟨hd', ?_⟩⟩
        · have hy := Option.some.inj hy
          rw [List.getElem?_map] at hy
          obtain ⟨k, q1, rfl⟩ := Option.map_eq_some_iff.mp hy
          obtain ⟨v, q2⟩ := zip_at hk q1
          refine ⟨⟨hd', (List.getElem?_eq_some_iff.mp q2).1⟩, fun z H2 ⟨z1, k', v', z2, z3⟩ => ?_⟩
          subst z1
          rw [q2] at z2
          cases z2
          exact ⟨g', Ext.refl e2.rel, z3 ▸ RV.kP k⟩
        · have hy := List.getElem?_eq_none_iff.mp (Option.some.inj hy)
          rw [List.length_map] at hy
          rw [List.length_zip, ← hk, Nat.min_self]
          exact hy
      · exact h2.elim
    · rename_i ks xs
      simp only [RV] at rx
      obtain ⟨d, vs, rfl, h2, h3⟩ := rx
      rcases h2 with ⟨ob, u, ⟨hk, rfl⟩, hd⟩ | h2
      · refine ⟨d, ob, rfl, Or.inr ⟨_, hd, OKw.ok e1.rel h1 _ fun g' H' S' i e2 => ?_⟩⟩
        have hd' := (Ext.up e1.rel e2).keep d _ hd fun z => False.elim z
        refine ⟨fun y hy => ?_, fun hy => ⟨hd', ?_⟩⟩
        · have hy := Option.some.inj hy
          rw [List.getElem?_map] at hy
          obtain ⟨k, q1, rfl⟩ := Option.map_eq_some_iff.mp hy
          obtain ⟨v, q2⟩ := zip_at hk q1
          refine ⟨⟨hd', (List.getElem?_eq_some_iff.mp q2).1⟩, fun z H2 ⟨z1, k', v', j, z2, z3, z4⟩ => ?_⟩
          subst z1
          rw [q2] at z2
          cases z2
          refine ⟨g', Ext.refl e2.rel, ?_⟩
          rw [z3]
          show RV X H2 g' S'.length (.con .own .tup (k.map Pv.kP)) (.ref j)
          simp only [RV]
          exact ⟨j, _, rfl, ⟨_, rfl, z4, fun z => False.elim z⟩, RVs.kPs k⟩
        · have hy := List.getElem?_eq_none_iff.mp (Option.some.inj hy)
          rw [List.length_map] at hy
          rw [List.length_zip, ← hk, Nat.min_self]
          exact hy
      · exact h2.elim
    · exact h1.elim⟩⟩
/-! ### dict(d) -/
end
end Pv
/-! Pv38: xs[::-1]. -/
namespace Pv
open PySem PySem.Spec PyProof.Rows L2
section
variable {X : Cx} {W : WX} {e : Expr} {te : EF} {k : Nat} {p1 p2 p3 pos : Pos}
def eRev (mu : Bool) (t : EF) : EF := fun Γ S => (t Γ S).bind fun p S1 => match deref S1 p with
  | some (.lst, xs) => .ok (newP mu .lst xs.reverse S1).1 (newP mu .lst xs.reverse S1).2
  | _ => .bad
theorem E.rev (mu : Bool) (he : E X W e te) : E X W (.Subscript e (.Slice none none (some (.UnaryOp .USub (.Constant (.int 1) k p1) p2)) p3) pos) (eRev mu te) :=
  pe_imp (pe_revL he) fun σ H Q ⟨g, Γ, S, rel, rg, ok⟩ => ⟨g, Γ, S, rel, rg, OKw.mono (OKw.bind ok) fun p S1 g1 H1 _ e1 h1 x rx => by
    split at h1
    · rename_i xs ed
      obtain ⟨a, vs, rfl, h2, h3⟩ := deref_ok e1.rel rx ed
      refine ⟨a, vs, rfl, h3.lst, fun q hq => ?_⟩
      obtain ⟨g', z1, z2⟩ := new_ok (m := mu) e1.rel hq (k := .lst) (o := .lst vs.reverse) rfl (by decide) h2.reverse
      exact h1 _ _ z1 _ z2
    · exact h1.elim⟩
end
end Pv
/-! Pv39: calls where defaults fill up, calls with keywords; a dict that is read alone behind a statement; dicts of the same content. -/
namespace Pv
open PySem PySem.Spec PyProof.Rows L2
/-! ### calls whose last arguments are defaults, or said by keyword -/
section
variable {X : Cx} {H H' : Hp} {g g' : G} {S S' : Sto} {W : WX} {a b c e o : Expr} {es : List Expr} {ta tb tc : EF} {tr tk : AF} {pos p kpos : Pos} {Γ : Gam} {σ : L2.St} {x : Str} {k j n m : Nat} {f : List PV → RP} {dps : List PV} {ks : List Str}
/-! ### behind a statement the dict in slot i is read alone -/
def lockR (i : Nat) (Γ : Gam) (S : Sto) : RS := match Γ[i]? with
  | some (some (.ref n)) => (match S[n]?.join with
    | some (k, xs) => if isDict k = true then .nx (Γ.set i (some (.con .out k xs))) (S.set n none) else .bad
    | none => .bad)
  | _ => .bad
theorem lockR_inv (i : Nat) (Γ : Gam) (S : Sto) : lockR i Γ S = .bad ∨ ∃ n k xs, Γ[i]? = some (some (.ref n)) ∧ S[n]? = some (some (k, xs)) ∧ lockR i Γ S = .nx (Γ.set i (some (.con .out k xs))) (S.set n none) := by
  unfold lockR
  split
  · rename_i n hi
    split
    · rename_i k xs ej
      split
      · exact Or.inr ⟨n, k, xs, hi, join_some ej, rfl⟩
      · exact Or.inl rfl
    · exact Or.inl rfl
  · exact Or.inl rfl
def sLock (i : Nat) (t : SF) : SF := fun Γ S => match t Γ S with
  | .nx Γ1 S1 => lockR i Γ1 S1
  | r => r
theorem ps_lkA {st : Stmt} {t : TS} (h : PS X st t) : PS X st (fun D σ H => t { D with nx := fun σ' H' => ∃ d u, H' d = some u ∧ Mut (some u) ∧ ∀ od, D.nx σ' (upd H' d (.frz od u)) } σ H) := ⟨fun pins s σ H D I hw => thn (h.run pins s σ H _ I hw) fun f s1 q => by
  cases f with
  | next =>
    obtain ⟨σ', H', I2, d, u, hd, mu, q⟩ := q
    obtain ⟨od, I3⟩ := I2.lock hd mu
    exact ⟨σ', _, I3, q od⟩
  | brk => exact q
  | cont => exact q
  | ret v => exact q⟩
theorem St.lock {st : Stmt} {t : SF} (i : Nat) (h : St X W st t) : St X W st (sLock i t) := ps_imp (ps_lkA h) fun D σ H ⟨g, Γ, S, rel, rg, ok⟩ => ⟨g, Γ, S, rel, rg, by
  unfold sLock at ok
  cases q : t Γ S with
  | nx Γ1 S1 =>
    rw [q] at ok
    intro g1 H1 σ1 e1 rg1
    have ok : OKs X W D H g S (lockR i Γ1 S1) := ok
    rcases lockR_inv i Γ1 S1 with h | ⟨n, k, xs, hi, hn, h⟩
    · rw [h] at ok
      exact ok.elim
    · rw [h] at ok
      obtain ⟨u, vs, z1, z2, z3, z4⟩ := e1.rel.ob _ _ _ hn
      refine ⟨_, u, z1, z2.mut z3, fun od => ?_⟩
      obtain ⟨q1, q2⟩ := lock_ok e1.rel hn z1 z2 z4 od
      have rg2 := rg1.up e1.rel q1
      obtain ⟨v, hv, rv⟩ := rg1.at_ i _ hi
      simp only [RV] at rv
      obtain ⟨_, rfl⟩ := rv
      have rg3 := rg2.set (i := i) q2
      have : σ1.set i (some (.ref (g1.r n))) = σ1 := by
        refine List.ext_getElem? fun jj => ?_
        rw [List.getElem?_set]
        by_cases hj : i = jj
        · subst hj
          rw [if_pos rfl, hv, if_pos (List.getElem?_eq_some_iff.mp hv).1]
        · rw [if_neg hj]
      rw [this] at rg3
      exact ok _ _ σ1 (e1.trans q1) rg3
  | bk Γ1 S1 => rw [q] at ok; exact ok
  | ct Γ1 S1 => rw [q] at ok; exact ok
  | rt v S1 => rw [q] at ok; exact ok
  | ex c fs Γ1 S1 => rw [q] at ok; exact ok
  | bad => rw [q] at ok; exact ok⟩
/-! ### d != e, where both hold the same ints in the same order -/
end
end Pv
/-! Pv40: a call of a local name that holds a def. -/
namespace Pv
open PySem PySem.Spec PyProof.Rows L2
abbrev Tbl := List (Str × (List PV → RP))
def tblF : Tbl → Str → Option (List PV → RP)
  | [], _ => none
  | (y, f) :: l, x => if y = x then some f else tblF l x
section
variable {X : Cx} {W : WX} {e : Expr} {es : List Expr} {tr : AF} {pos p : Pos} {x : Str} {k i : Nat} {l : Tbl} {N : List Str} {sc : Scope} {j : Nat}
/-- the defs of a table may be called -/
def TblOk (X : Cx) (k : Nat) : Tbl → Prop
  | [] => True
  | (y, f) :: l => Cal X.prog X.w X.K X.mg X.base k y (spP X f) ∧ TblOk X k l
theorem TblOk.at : ∀ {l : Tbl} {y : Str} {f : List PV → RP}, TblOk X k l → tblF l y = some f → Cal X.prog X.w X.K X.mg X.base k y (spP X f)
  | [], _, _, _, e => nomatch e
  | (z, g) :: l, y, f, h, e => by
    unfold tblF at e
    split at e
    · rename_i hz
      cases e
      subst hz
      exact h.1
    · exact TblOk.at h.2 e
theorem Cal.up {P : Program} {w : World} {K : PySem.W.Frag} {mg : Str → Option Value} {base : Heap} {k k' : Nat} {x : Str} {sp : Sp} (c : Cal P w K mg base k x sp) (h : k ≤ k') : Cal P w K mg base k' x sp := by
  obtain ⟨f, fd, ps, F, h1, h2, h3⟩ := c.ex
  exact ⟨f, fd, ps, F.mono h, h1, h2, h3⟩
end
end Pv
/-! Pv41: instances that change: made, their methods; tuples joined; fields as targets. -/
namespace Pv
open PySem PySem.Spec PyProof.Rows L2
section
variable {X : Cx} {W : WX} {H H' : Hp} {g g' : G} {S S' : Sto}
/-! ### t + u of tuples -/
def addTF : OF := fun p q S => match derefH S p, derefH S q with
  | some (.tup, xs), some (.tup, ys) => if xs.length + ys.length ≤ sizeLine then some (.con .own .tup (xs ++ ys), S) else none
  | _, _ => none
theorem opf_addT : OpF X (rCatA X.K) addTF := by
  intro H g S p q x y w S' Q rel rx ry h k
  unfold addTF at h
  split at h
  · rename_i xs ys e1 e2
    split at h
    · rename_i c
      obtain ⟨a, vs, o, rfl, h2, h3, h4⟩ := derefH_ok rel rx e1
      obtain ⟨b, ws, o', rfl, q2, q3, q4⟩ := derefH_ok rel ry e2
      cases h3
      cases q3
      simp only [Option.some.injEq, Prod.mk.injEq] at h
      obtain ⟨rfl, rfl⟩ := h
      refine ⟨a, b, vs, ws, rfl, rfl, SqT.of h4, SqT.of q4, by rw [← h2.len, ← q2.len]; exact c, fun z => ?_, fun _ z => ?_, fun _ _ l hl => ?_⟩
      · have : xs = [] := List.eq_nil_of_length_eq_zero (by rw [h2.len, z]; rfl)
        subst this
        refine k g H _ (Ext.refl rel) ?_
        simp only [RV, List.nil_append]
        exact ⟨b, ws, rfl, ⟨_, rfl, q4, fun z => False.elim z⟩, q2⟩
      · have : ys = [] := List.eq_nil_of_length_eq_zero (by rw [q2.len, z]; rfl)
        subst this
        refine k g H _ (Ext.refl rel) ?_
        simp only [RV, List.append_nil]
        exact ⟨a, vs, rfl, ⟨_, rfl, h4, fun z => False.elim z⟩, h2⟩
      · obtain ⟨z1, z2⟩ := newF_ok rel hl (k := .tup) (o := .tup _) rfl (h2.append q2)
        exact k _ _ _ z1 z2
    · cases h
  · cases h
theorem E.addT {a b : Expr} {ta tb : EF} {pos : Pos} (ha : E X W a ta) (hb : E X W b tb) : E X W (.BinOp a .Add b pos) (eOp addTF ta tb) := E.op op_catA opf_addT ha hb
/-! ### an object that nothing here looks at -/
theorem Ext.other {d : Addr} {o : HO} (rel : Rel X H g S) (hd : H d = none) : Ext X H g S (upd H d o) g S := by
  have hne : ∀ n, Al S n → g.r n ≠ d := fun n hn z => by
    obtain ⟨u, e⟩ := rel.tracked hn
    rw [z, hd] at e; cases e
  have kp : ∀ a u, H a = some u → upd H d o a = some u := fun a u h => by rw [upd_ne (ne_of_none h hd)]; exact h
  have up : Up H g S.length (upd H d o) g S.length := ⟨fun a u h _ => kp a u h, fun _ h => h, fun _ h => h, fun _ _ => rfl, Nat.le_refl _⟩
  refine ⟨⟨fun n k xs e => ?_, rel.inj, rel.fF, rel.fT, fun a z => ?_⟩, fun a u h _ => kp a u h, fun n hn => Or.inl ⟨hn, rfl⟩, fun _ _ => rfl, Nat.le_refl _, fun _ h => h, rfl, fun a u h => ⟨u, kp a u h⟩, fun a h => Or.inl h⟩
  · obtain ⟨u, vs, h1, h2, h3, h4⟩ := rel.ob n k xs e
    exact ⟨u, vs, kp _ _ h1, h2, h3, RVs.mono up _ _ h4⟩
  · obtain ⟨u, q⟩ := rel.tr a z
    exact ⟨u, kp _ _ q⟩
/-! ### an instance made, that may change -/
structure MkW (P : Program) (w : World) (K : PySem.W.Frag) (mg : Str → Option Value) (base : Heap) (k : Nat) (c : Str) (f : List PV → Sto → R PV) (m : Nat) : Prop where
  ex : ∃ (C fI : Addr) (fd : FuncData) (ps : List Str), L2.Mk K C fI ∧ FnOk P w K mg base (L2.CX P w) k fI fd ps (spW ⟨K, mg⟩ f) ∧ mg c = some (.ref C) ∧ Binds K fd ps [] ∧ ps.length = m + 1
def eMakeW (c : Str) (f : List PV → Sto → R PV) (m : Nat) (t : AF) : EF := fun Γ S => (t Γ S).bind fun ps S1 => if ps.length = m then (match f (.ref S1.length :: ps) (S1 ++ [some (.ins c [], [])]) with
  | .ok .non S2 => .ok (.ref S1.length) S2
  | _ => .bad) else .bad
variable {k j m : Nat} {c x : Str} {p pos apos : Pos} {e o : Expr} {es : List Expr} {tr : AF} {to : EF} {f : List PV → Sto → R PV}
theorem E.makeW (M : MkW X.prog X.w X.K X.mg X.base k c f m) (hr : Room j X.A) (tk : Takes X W) (hg : Gl X c) (ha : A X W (e :: es) tr) (hk : k + 1 ≤ j := by decide)
    (hdb : (c == ("__debug__" : Str)) = false := by decide) (he : starEach (e :: es) X.env = (false, eval e X.env) :: starEach es X.env := by rfl) (hpl : (backTo pos (starEach es X.env)).any (·.1) = false := by rfl) :
    E X W (.Call (.Name c p) (e :: es) [] pos) (eMakeW c f m tr) := by
  obtain ⟨C, fI, fd, ps, M, F, hm, hb, hl⟩ := M.ex
  refine pe_imp (pe_makeS (dvs := []) (ds := []) M F (hr.mono hk) hg hm hb .nil (passAt tk) ha hdb he hpl) fun σ H Q ⟨g, Γ, S, rel, rg, ok⟩ => ?_
  refine ⟨g, Γ, S, rel, rg, OKw.mono (OKw.bind ok) fun ps S1 g1 H1 _ e1 h1 xs rxs y dx hy hdx hne => ?_⟩
  split at h1
  · have x1 := Ext.other (o := .own y) e1.rel hdx
    have hy2 : upd H1 dx (.own y) y = none := by rw [upd_ne (Ne.symm hne)]; exact hy
    obtain ⟨x2, rv⟩ := newM_ok (k := .ins c []) (xs := []) (vs := []) (o := .ins C dx []) x1.rel hy2 ⟨C, dx, hm, rfl, rfl⟩ (by intro z; cases z) RVs.nil
    have xx := x1.trans x2
    refine ⟨g1.addR S1.length y, S1 ++ [some (Kd.ins c [], [])], .ref S1.length :: ps, xx.rel, ?_, ?_⟩
    · rw [List.append_nil]
      exact RVs.cons rv (RVs.up e1.rel xx _ _ rxs)
    · cases hq : f (.ref S1.length :: ps) (S1 ++ [some (.ins c [], [])]) with
      | ok v S2 =>
        rw [hq] at h1
        cases v with
        | non =>
          intro g' H' z e3 rz
          refine ⟨rz.non_inv, ?_⟩
          have x4 := xx.trans e3
          have r4 := RV.up x2.rel e3 _ _ rv
          exact h1 g' H' x4 (.ref y) r4
        | _ => exact h1.elim
      | ex c fs S2 => rw [hq] at h1; exact h1.elim
      | bad => rw [hq] at h1; exact h1.elim
  · exact h1.elim
/-- a def over the store, whatever its address -/
theorem fnW {P : Program} {w : World} {K : PySem.W.Frag} {mg : Str → Option Value} {base : Heap} {x qual : Str} {st : Stmt} {dvs : List V} {kws : List (Str × V)} {f : Addr} {fd : FuncData} {N ps : List Str} {k np n : Nat} {body : SF} (F : FunD K x qual (defArgs st) (defBody st) (defScope st) dvs kws f fd) (S : FnScope N ps (defScope st)) (hnp : ps.length = np) (hn : N.length = n)
    (hbody : ∀ (X : Cx) (W : WX), X.prog = P → X.w = w → X.K = K → X.mg = mg → X.base = base → Body X W N (defScope st) k → Ss X W (defBody st) body) : FnOk P w K mg base (L2.CX P w) (k + 1) f fd ps (spW ⟨K, mg⟩ (runW np n body)) := by
  refine F.ok S (fun vs H Q E ⟨g, S, qs, h0, h1, h3⟩ => ?_) (fun cdv A outer s H vs Q E hr ⟨g, S, qs, h0, h1, h3⟩ => ?_)
  · unfold runW at h3
    split at h3
    · rename_i e
      rw [← h1.len, e, hnp]
    · exact h3.elim
  · unfold runW at h3
    split at h3
    · rename_i elen
      subst hn
      let X := cxOf (L2.CX P w) P w K mg base N qual (defScope st) f cdv A outer s H E
      have tk : Takes X (fun cls d _ H => E cls d H) := takes_of rfl rfl rfl rfl
      have hb := hbody X (fun cls d _ H => E cls d H) rfl rfl rfl rfl rfl ⟨rfl, rfl, rfl, fun _ => rfl, hr, tk, passes_of rfl, rfl, rfl⟩
      refine ⟨_, hb, g, _, S, h0, start_rg (n := 0) h1, ?_⟩
      generalize eb : body (qs.map some ++ List.replicate (N.length - qs.length) none) S = r at h3
      cases r with
      | nx Γ' S' => exact fun g' H' σ' e1 _ => h3 g' H' .non e1 RV.non
      | rt v S' => exact fun g' H' x e1 rv => h3 g' H' x e1 rv
      | ex c fs Γ' S' => exact fun g' H' σ' cls d e1 _ rx => h3 g' H' cls d e1 rx
      | bk Γ' S' => exact h3.elim
      | ct Γ' S' => exact h3.elim
      | bad => exact h3.elim
    · exact h3.elim
/-! ### methods -/
/-- the class c has the method m, which keeps f -/
structure MtW (P : Program) (w : World) (K : PySem.W.Frag) (mg : Str → Option Value) (base : Heap) (k : Nat) (c m : Str) (f : List PV → Sto → R PV) : Prop where
  ex : ∃ (C a : Addr), mg c = some (.ref C) ∧ Cls K C ∧ Meth K C m a ∧ FnR P w K mg base (L2.CX P w) k a (spW ⟨K, mg⟩ f)
/-- def m(self, *xs) -/
structure MtV (P : Program) (w : World) (K : PySem.W.Frag) (mg : Str → Option Value) (base : Heap) (k : Nat) (c m : Str) (f : List PV → Sto → R PV) : Prop where
  ex : ∃ (C a : Addr), mg c = some (.ref C) ∧ Cls K C ∧ Meth K C m a ∧ FnR P w K mg base (L2.CX P w) k a (fun vs H Q E => ∃ v rest, vs = v :: rest ∧ rest.length ≤ 5 ∧ ∀ p, H p = none → spW ⟨K, mg⟩ f [v, .ref p] (upd H p (.tup rest)) Q E)
theorem MtW.of {P : Program} {w : World} {K : PySem.W.Frag} {mg : Str → Option Value} {base : Heap} {k : Nat} {c m : Str} {f : List PV → Sto → R PV} {C a : Addr} {fd : FuncData} {ps : List Str} (hg : mg c = some (.ref C)) (hc : Cls K C) (hm : Meth K C m a) (F : FnOk P w K mg base (L2.CX P w) k a fd ps (spW ⟨K, mg⟩ f)) (hb : Binds K fd ps []) : MtW P w K mg base k c m f :=
  ⟨C, a, hg, hc, hm, (F.raw hb .nil).imp fun vs H Q E h => by rw [List.append_nil]; exact h⟩
def rcvB (c m : Str) (S : Sto) (p : PV) : Bool := match p with
  | .ref n => match S[n]?.join with
    | some (.ins d ns, _) => decide (d = c ∧ m ∉ ns)
    | _ => false
  | _ => false
theorem zip_none {m : Str} : ∀ {ns : List Str} {vs : List V}, m ∉ ns → (ns.zip vs).lookup m = none
  | [], _, _ => by simp
  | _ :: _, [], _ => by simp
  | n :: ns, v :: vs, h => by
    rw [List.zip_cons_cons, List.lookup_cons]
    have h1 : ¬ m = n := fun z => h (by rw [z]; exact List.mem_cons_self)
    have : (m == n) = false := Bool.eq_false_iff.mpr fun z => h1 (eq_of_beq z)
    rw [this]
    exact zip_none fun z => h (List.mem_cons_of_mem _ z)
theorem rcv_ok {C : Addr} {x : V} {p : PV} {m : Str} (rel : Rel X H g S) (hm : X.mg c = some (.ref C)) (rx : RV X H g S.length p x) (h : rcvB c m S p = true) : ∃ a dx fs, x = .ref a ∧ H a = some (.ins C dx fs) ∧ fs.lookup m = none := by
  unfold rcvB at h
  split at h
  · rename_i n
    split at h
    · rename_i d ns xs e
      obtain ⟨rfl, h2⟩ := of_decide_eq_true h
      have hn := join_some e
      obtain ⟨o, vs, q1, q2, _, _⟩ := rel.ob n _ _ hn
      obtain ⟨C', dx, hm', hl, rfl⟩ := q2
      have : some (Value.ref C) = some (.ref C') := hm.symm.trans hm'
      cases this
      simp only [RV] at rx
      exact ⟨_, dx, _, rx.2, q1, zip_none h2⟩
    · cases h
  · cases h
def eMethW (c m : Str) (f : List PV → Sto → R PV) (to : EF) (tr : AF) : EF := fun Γ S => (to Γ S).bind fun p S1 => if rcvB c m S1 p = true then (tr Γ S1).bind fun ps S2 => f (p :: ps) S2 else .bad
def eMethV (c m : Str) (f : List PV → Sto → R PV) (to : EF) (tr : AF) : EF := fun Γ S => (to Γ S).bind fun p S1 => if rcvB c m S1 p = true then (tr Γ S1).bind fun ps S2 => if ps.length ≤ 5 then f [p, .con .own .tup ps] S2 else .bad else .bad
/-- what a method call asks; what is raised is wished at the caller's slots -/
def tMethE (C : Addr) (m : Str) (sp : Sp) (E : L2.St → XK) (ta : TE) (t : TA) : TE := fun σ H Q => ta σ H fun x H1 => ∃ a dx fs, x = .ref a ∧ H1 a = some (.ins C dx fs) ∧ fs.lookup m = none ∧ t σ H1 fun vs H2 => sp (x :: vs) H2 Q (E σ)
section
variable {C fa : Addr} {nm : Str} {sp : Sp} {EE : L2.St → XK} {ta : TE} {t : TA} {pl : Sem Bool}
theorem run_meth {CX : CXT} {pins : List (Addr × Obj)} {σ : L2.St} {H : Hp} {s : Shared} {Q : VK} {us : List Value} {vs : List V} (F : FnR X.prog X.w X.K X.mg X.base CX k fa sp) (hr : Room k X.A) (hx : ∀ σ, PassesAt CX X σ (EE σ)) (inv : Inv X pins σ H s) (r : Vals vs us) (h : sp vs H Q (EE σ)) : wpAny (model X.prog X.w) X.A (call (.ref fa) us) (EP X pins σ Q) X.xe s := by
  refine wpAny_call (codeAny_mono (F X.A X.stack s H us vs Q (EE σ) hr inv.env0 r h) fun r s' hq => ?_)
  cases r with
  | error er => exact hx σ pins H s er s' inv hq
  | ok fl =>
    cases fl with
    | ret u => exact inv.after hq
    | _ => exact False.elim hq
theorem pe_methE {CX : CXT} (he : PE X o ta) (hc : Cls X.K C) (hm : Meth X.K C nm fa) (F : FnR X.prog X.w X.K X.mg X.base CX k fa sp) (hr : Room k X.A) (hx : ∀ σ, PassesAt CX X σ (EE σ)) (ha : PA X (e :: es) t)
    (hst : starEach (e :: es) X.env = (false, eval e X.env) :: starEach es X.env := by rfl) (hpl : (backTo pos (starEach es X.env)).any (·.1) = false := by rfl)
    (ht : eval (.Call (.Attribute o nm apos) (e :: es) [] pos) X.env = (do
      let ov ← eval o X.env
      standAt apos.atName
      let (f, first) ← holding [ov] (getMethod ov nm pl)
      callWith pos f first (backTo pos (starEach (e :: es) X.env)) (backToKw pos (keywordEach [] X.env))) := by rfl) :
    PE X (.Call (.Attribute o nm apos) (e :: es) [] pos) (tMethE C nm sp EE ta t) := by
  refine ⟨fun pins s σ H Q inv h => PySem.W.methodCall_KW (pl := pl) (thn (he.run pins s σ H _ inv h) fun u s1 ⟨x, H1, I1, rx, a, dx, fs, ex, ea, l, q⟩ => ?_) ht⟩
  subst ex
  obtain rfl : u = Value.ref a := rx
  refine getmeth_ok I1 ea hc hm l (PySem.W.callWith_K (first := [.ref a]) (h₀ := X.base) inv.ok.mod.kin hm.kp (thn (ha.run pos pins s1 σ H1 _ I1 q) fun us s2 ⟨vs, H2, I2, r, q2⟩ => ⟨I2.kIn, ?_⟩) hst hpl)
  exact run_meth (us := .ref a :: us) (vs := .ref a :: vs) F hr hx I2 (.cons rfl r) q2
theorem pe_methE0 {CX : CXT} (he : PE X o ta) (hc : Cls X.K C) (hm : Meth X.K C nm fa) (F : FnR X.prog X.w X.K X.mg X.base CX k fa sp) (hr : Room k X.A) (hx : ∀ σ, PassesAt CX X σ (EE σ))
    (ht : eval (.Call (.Attribute o nm apos) [] [] pos) X.env = (do
      let ov ← eval o X.env
      standAt apos.atName
      let (f, first) ← holding [ov] (getMethod ov nm pl)
      callWith pos f first (backTo pos (starEach [] X.env)) (backToKw pos (keywordEach [] X.env))) := by rfl) :
    PE X (.Call (.Attribute o nm apos) [] [] pos) (tMethE C nm sp EE ta tNil) := by
  refine ⟨fun pins s σ H Q inv h => PySem.W.methodCall_KW (pl := pl) (thn (he.run pins s σ H _ inv h) fun u s1 ⟨x, H1, I1, rx, a, dx, fs, ex, ea, l, q⟩ => ?_) ht⟩
  subst ex
  obtain rfl : u = Value.ref a := rx
  exact getmeth_ok I1 ea hc hm l (PySem.W.callWith_K0 (first := [.ref a]) I1.kIn hm.kp (run_meth (us := [.ref a]) (vs := [.ref a]) F hr hx I1 (.cons rfl .nil) q))
end
theorem okc_of {σ : L2.St} {r : R PV} {Q : VK} (h : OKw X W σ H g S r fun v S' g' H' => ∀ x, RV X H' g' S'.length v x → Q x H') : OKc X H g S r Q (WE W σ) := by
  cases r with
  | ok v S2 => exact fun g' H' x e2 rv => h g' H' e2 x rv
  | ex c fs S2 => exact fun g' H' cls d e2 rx => h g' H' cls d e2 rx
  | bad => exact h
theorem meth_imp {C : Addr} {nm : Str} (hm : X.mg c = some (.ref C)) {σ : L2.St} {H : Hp} {Q : VK} (h : lift X W (eMethW c nm f to tr) σ H Q) : tMethE C nm (spW X f) (WE W) (lift X W to) (liftA X W tr) σ H Q := by
  obtain ⟨g, Γ, S, rel, rg, ok⟩ := h
  refine ⟨g, Γ, S, rel, rg, OKw.mono (OKw.bind ok) fun p S1 g1 H1 _ e1 h1 x rx => ?_⟩
  split at h1
  · rename_i hb
    obtain ⟨a, dx, fs, rfl, q1, q2⟩ := rcv_ok e1.rel hm rx hb
    refine ⟨a, dx, fs, rfl, q1, q2, g1, Γ, S1, e1.rel, rg.up rel e1, OKw.mono (OKw.bind h1) fun ps S2 g2 H2 _ e2 h2 xs rxs => ?_⟩
    exact ⟨g2, S2, p :: ps, e2.rel, RVs.cons (RV.up e1.rel e2 _ _ rx) rxs, okc_of h2⟩
  · exact h1.elim
theorem methV_imp {C : Addr} {nm : Str} (hm : X.mg c = some (.ref C)) {σ : L2.St} {H : Hp} {Q : VK} (h : lift X W (eMethV c nm f to tr) σ H Q) : tMethE C nm (fun vs H Q E => ∃ v rest, vs = v :: rest ∧ rest.length ≤ 5 ∧ ∀ p, H p = none → spW X f [v, .ref p] (upd H p (.tup rest)) Q E) (WE W) (lift X W to) (liftA X W tr) σ H Q := by
  obtain ⟨g, Γ, S, rel, rg, ok⟩ := h
  refine ⟨g, Γ, S, rel, rg, OKw.mono (OKw.bind ok) fun p S1 g1 H1 _ e1 h1 x rx => ?_⟩
  split at h1
  · rename_i hb
    obtain ⟨a, dx, fs, rfl, q1, q2⟩ := rcv_ok e1.rel hm rx hb
    refine ⟨a, dx, fs, rfl, q1, q2, g1, Γ, S1, e1.rel, rg.up rel e1, OKw.mono (OKw.bind h1) fun ps S2 g2 H2 _ e2 h2 xs rxs => ?_⟩
    split at h2
    · rename_i hl
      refine ⟨_, xs, rfl, by rw [← rxs.len]; exact hl, fun q hq => ?_⟩
      obtain ⟨z1, z2⟩ := newF_ok e2.rel hq (k := .tup) (o := .tup xs) rfl rxs
      refine ⟨_, S2, [p, .con .own .tup ps], z1.rel, RVs.cons (RV.up e1.rel (e2.trans z1) _ _ rx) (RVs.cons z2 RVs.nil), ?_⟩
      have h3 := okc_of h2
      cases hf : f [p, .con .own .tup ps] S2 with
      | ok v S3 => rw [hf] at h3; exact fun g' H' x e3 rv => h3 g' H' x (z1.trans e3) rv
      | ex c fs S3 => rw [hf] at h3; exact fun g' H' cls d e3 rx => h3 g' H' cls d (z1.trans e3) rx
      | bad => rw [hf] at h3; exact h3
    · exact h2.elim
  · exact h1.elim
theorem meth_imp0 {C : Addr} {nm : Str} (hm : X.mg c = some (.ref C)) {σ : L2.St} {H : Hp} {Q : VK} (h : lift X W (eMethW c nm f to aNil) σ H Q) : tMethE C nm (spW X f) (WE W) (lift X W to) tNil σ H Q := by
  obtain ⟨g, Γ, S, rel, rg, ok⟩ := h
  refine ⟨g, Γ, S, rel, rg, OKw.mono (OKw.bind ok) fun p S1 g1 H1 _ e1 h1 x rx => ?_⟩
  split at h1
  · rename_i hb
    obtain ⟨a, dx, fs, rfl, q1, q2⟩ := rcv_ok e1.rel hm rx hb
    exact ⟨a, dx, fs, rfl, q1, q2, g1, S1, [p], e1.rel, RVs.cons rx RVs.nil, okc_of h1⟩
  · exact h1.elim
theorem E.methW {nm : Str} {pl : Sem Bool} (M : MtW X.prog X.w X.K X.mg X.base k c nm f) (hr : Room j X.A) (tk : Takes X W) (ho : E X W o to) (ha : A X W (e :: es) tr) (hk : k ≤ j := by decide)
    (hst : starEach (e :: es) X.env = (false, eval e X.env) :: starEach es X.env := by rfl) (hpl : (backTo pos (starEach es X.env)).any (·.1) = false := by rfl)
    (ht : eval (.Call (.Attribute o nm apos) (e :: es) [] pos) X.env = (do
      let ov ← eval o X.env
      standAt apos.atName
      let (f, first) ← holding [ov] (getMethod ov nm pl)
      callWith pos f first (backTo pos (starEach (e :: es) X.env)) (backToKw pos (keywordEach [] X.env))) := by rfl) :
    E X W (.Call (.Attribute o nm apos) (e :: es) [] pos) (eMethW c nm f to tr) := by
  obtain ⟨C, a, hg, hc, hm, F⟩ := M.ex
  exact pe_imp (pe_methE (pl := pl) (EE := WE W) ho hc hm F (hr.mono hk) (passAt tk) ha hst hpl ht) fun _ _ _ h => meth_imp hg h
theorem E.methW0 {nm : Str} {pl : Sem Bool} (M : MtW X.prog X.w X.K X.mg X.base k c nm f) (hr : Room j X.A) (tk : Takes X W) (ho : E X W o to) (hk : k ≤ j := by decide)
    (ht : eval (.Call (.Attribute o nm apos) [] [] pos) X.env = (do
      let ov ← eval o X.env
      standAt apos.atName
      let (f, first) ← holding [ov] (getMethod ov nm pl)
      callWith pos f first (backTo pos (starEach [] X.env)) (backToKw pos (keywordEach [] X.env))) := by rfl) :
    E X W (.Call (.Attribute o nm apos) [] [] pos) (eMethW c nm f to aNil) := by
  obtain ⟨C, a, hg, hc, hm, F⟩ := M.ex
  exact pe_imp (pe_methE0 (pl := pl) (EE := WE W) ho hc hm F (hr.mono hk) (passAt tk) ht) fun _ _ _ h => meth_imp0 hg h
theorem E.methV {nm : Str} {pl : Sem Bool} (M : MtV X.prog X.w X.K X.mg X.base k c nm f) (hr : Room j X.A) (tk : Takes X W) (ho : E X W o to) (ha : A X W (e :: es) tr) (hk : k ≤ j := by decide)
    (hst : starEach (e :: es) X.env = (false, eval e X.env) :: starEach es X.env := by rfl) (hpl : (backTo pos (starEach es X.env)).any (·.1) = false := by rfl)
    (ht : eval (.Call (.Attribute o nm apos) (e :: es) [] pos) X.env = (do
      let ov ← eval o X.env
      standAt apos.atName
      let (f, first) ← holding [ov] (getMethod ov nm pl)
      callWith pos f first (backTo pos (starEach (e :: es) X.env)) (backToKw pos (keywordEach [] X.env))) := by rfl) :
    E X W (.Call (.Attribute o nm apos) (e :: es) [] pos) (eMethV c nm f to tr) := by
  obtain ⟨C, a, hg, hc, hm, F⟩ := M.ex
  exact pe_imp (pe_methE (pl := pl) (EE := WE W) ho hc hm F (hr.mono hk) (passAt tk) ha hst hpl ht) fun _ _ _ h => methV_imp hg h
end
/-! ### def m(self, *xs): how it is bound -/
section
variable {P : Program} {w : World} {K : PySem.W.Frag} {mg : Str → Option Value} {base : Heap}
theorem cx_new : CXNew (L2.CX P w) := fun outer s H h2 p rest E e s' kp hp hn h => StX.cxUp outer s H { s with heap := h2 } (upd H p (.tup rest)) E e s' (Un.laid kp hp hn) kp rfl h
theorem fnV {x qual : Str} {st : Stmt} {f : Addr} {fd : FuncData} {N : List Str} {pa pv c m : Str} {k n : Nat} {body : SF} {C : Addr} (hg : mg c = some (.ref C)) (hc : Cls K C) (hm : Meth K C m f) (F : FunD K x qual (defArgs st) (defBody st) (defScope st) [] [] f fd) (S : FnScope N [pa, pv] (defScope st)) (hn : N.length = n)
    (hb : ∀ (u : Value) (rest : List Value), rest.length ≤ 5 → bindArgs fd ⟨u :: rest, []⟩ = (newTuple rest >>= fun t => pure [(pa, u), (pv, t)]))
    (hbody : ∀ (X : Cx) (W : WX), X.prog = P → X.w = w → X.K = K → X.mg = mg → X.base = base → Body X W N (defScope st) k → Ss X W (defBody st) body) : MtV P w K mg base (k + 1) c m (runW 2 n body) := by
  obtain ⟨oc, od, dV, kV, doc, pm, an, cdv, ct, osl, rfl, lk, hcd, _, _⟩ := F.ex
  refine ⟨C, f, hg, hc, hm, fn_ofV (sp := spW ⟨K, mg⟩ (runW 2 n body)) lk hcd S (by rw [sizeLine_eq]; decide) hb cx_new fun A outer s H vs Q E hr ⟨g, S, qs, h0, h1, h3⟩ => ?_⟩
  unfold runW at h3
  split at h3
  · subst hn
    let X := cxOf (L2.CX P w) P w K mg base N qual (defScope st) f cdv A outer s H E
    have tk : Takes X (fun cls d _ H => E cls d H) := takes_of rfl rfl rfl rfl
    have hb := hbody X (fun cls d _ H => E cls d H) rfl rfl rfl rfl rfl ⟨rfl, rfl, rfl, fun _ => rfl, hr, tk, passes_of rfl, rfl, rfl⟩
    refine ⟨_, hb, g, _, S, h0, start_rg (n := 0) h1, ?_⟩
    generalize eb : body (qs.map some ++ List.replicate (N.length - qs.length) none) S = r at h3
    cases r with
    | nx Γ' S' => exact fun g' H' σ' e1 _ => h3 g' H' .non e1 RV.non
    | rt v S' => exact fun g' H' x e1 rv => h3 g' H' x e1 rv
    | ex c fs Γ' S' => exact fun g' H' σ' cls d e1 _ rx => h3 g' H' cls d e1 rx
    | bk Γ' S' => exact h3.elim
    | ct Γ' S' => exact h3.elim
    | bad => exact h3.elim
  · exact h3.elim
end
end Pv
/-! Pv42: fields as targets, alone and in tuples. -/
namespace Pv
open PySem PySem.Spec PyProof.Rows L2
section
variable {X : Cx} {W : WX} {H H' : Hp} {g g' : G} {S S' : Sto} {o : Expr} {ta : TE} {f : Str} {pos : Pos} {to : EF} {es : List Expr}
/-- o.f = .. as a target -/
def gAttr (K : PySem.W.Frag) (ta : TE) (f : Str) : TG := fun v σ H Q => ta σ H fun x H1 => ∃ a C dx fs, x = .ref a ∧ H1 a = some (.ins C dx fs) ∧ Cls K C ∧ NoAttr K C f ∧ fs.length < 1000 ∧ Q σ (upd H1 a (.ins C dx (putF f v fs)))
theorem pg_attr (ho : PE X o ta) : PG X (.Attribute o f pos) (gAttr X.K ta f) := by
  refine ⟨fun pins s σ H v u Q inv r h => ?_⟩
  rw [arm_assign_Attribute]
  refine wpAny_bind (wpAny_holding (thn (ho.run pins s σ H _ inv h) fun ov s1 ⟨x, H1, I1, r1, a, C, dx, fs, ex, ea, c, n, l, q⟩ => ?_))
  subst ex
  obtain rfl : ov = Value.ref a := r1
  refine wpAny_bind (wpAny_standAt (wpAny_bind (wpAny_holding ?_)))
  exact setattr_ok I1 ea c n l r fun s3 I3 => wpAny_release ⟨σ, _, I3, q⟩
def gFldF (cs : List Str) (f : Str) (to : EF) : GF := fun v Γ S => (to Γ S).bind fun p S1 => match stF cs f v S1 p with
  | some S2 => .ok Γ S2
  | none => .bad
theorem Tg.fld {cs : List Str} (T : ∀ c ∈ cs, AttT X.K X.mg c f) (ho : E X W o to) : Tg X W (.Attribute o f pos) (gFldF cs f to) :=
  pg_imp (pg_attr ho) fun y σ H Q ⟨g, Γ, S, v, rel, rg, rv, ok⟩ => by
    refine ⟨g, Γ, S, rel, rg, OKw.mono (OKw.bind ok) fun p S2 g2 H2 _ e2 h2 x rx => ?_⟩
    have ry2 := RV.up rel e2 _ _ rv
    have rg2 := rg.up rel e2
    split at h2
    · rename_i S3 hs3
      unfold stF at hs3
      split at hs3
      · rename_i nn _
        split at hs3
        · rename_i c ns xs ej
          split at hs3
          · rename_i hc
            cases hs3
            have hn := join_some ej
            obtain ⟨u, vs, q1, q2, _, q4⟩ := e2.rel.ob nn _ _ hn
            obtain ⟨C, dx, hm, hl, rfl⟩ := q2
            have t := T c hc.1
            have : some (Value.ref (He.ga X.K c)) = some (.ref C) := t.gg.symm.trans hm
            cases this
            simp only [RV] at rx
            obtain ⟨ws, w1, w2, w3⟩ := putN_ok (f := f) ry2 hl q4
            refine ⟨g2.r nn, _, dx, _, rx.2, q1, t.cl, t.no, ?_, ?_⟩
            · rw [List.length_zip, ← hl]; omega
            · have e3 := set_ok e2.rel hn (k' := .ins c (putN f v ns xs).1) (o' := .ins (He.ga X.K c) dx (putF f y (ns.zip vs))) ⟨_, dx, hm, w2, by rw [w3]⟩ (by intro z; cases z) w1
              exact h2 _ _ e3 σ (rg2.up e2.rel e3)
          · cases hs3
        · cases hs3
      · cases hs3
    · exact h2.elim
/-- targets of any kind -/
def gTs : List GF → GsF
  | [], ps, Γ, S => match ps with
    | [] => .ok Γ S
    | _ => .bad
  | t :: ts, ps, Γ, S => match ps with
    | p :: r => (match t p Γ S with
      | .ok Γ1 S1 => gTs ts r Γ1 S1
      | _ => .bad)
    | [] => .bad
theorem gTs_ok : ∀ (ts : List GF) (ps : List PV) (Γ : Gam) (S : Sto), (∃ Γ' S', gTs ts ps Γ S = .ok Γ' S') ∨ gTs ts ps Γ S = .bad
  | [], [], Γ, S => Or.inl ⟨Γ, S, rfl⟩
  | [], _ :: _, _, _ => Or.inr rfl
  | _ :: _, [], _, _ => Or.inr rfl
  | t :: ts, p :: r, Γ, S => by
    show (∃ Γ' S', (match t p Γ S with
      | .ok Γ1 S1 => gTs ts r Γ1 S1
      | _ => .bad) = .ok Γ' S') ∨ (match t p Γ S with
      | .ok Γ1 S1 => gTs ts r Γ1 S1
      | _ => .bad) = .bad
    cases h : t p Γ S with
    | ok Γ1 S1 => exact gTs_ok ts r Γ1 S1
    | ex c fs S1 => exact Or.inr rfl
    | bad => exact Or.inr rfl
theorem gts_nil : PGs X [] (liftGs X W (gTs [])) := ⟨fun pins s σ H vs us Q inv r ⟨g, Γ, S, ps, rel, rg, rv, ok⟩ => pgs_nil.run pins s σ H vs us Q inv r (by
  cases ps with
  | nil => simp only [RVs] at rv; exact ⟨rv, OKw.ok rel ok _ rg⟩
  | cons _ _ => exact ok.elim)⟩
theorem gts_cons {e : Expr} {t : GF} {ts : List GF} (h : Tg X W e t) (k : PGs X es (liftGs X W (gTs ts)))
    (hs : (assignEach (e :: es) X.env).map (·.2) = assign e X.env :: (assignEach es X.env).map (·.2) := by rfl) : PGs X (e :: es) (liftGs X W (gTs (t :: ts))) :=
  ⟨fun pins s σ H vs us Q inv r ⟨g, Γ, S, ps, rel, rg, rv, ok⟩ => (pgs_cons h k hs).run pins s σ H vs us Q inv r (by
    cases ps with
    | nil => exact ok.elim
    | cons p ps =>
      simp only [RVs] at rv
      obtain ⟨v, w, rfl, h1, h2⟩ := rv
      refine ⟨v, w, rfl, g, Γ, S, p, rel, rg, h1, ?_⟩
      have ok : OKw X W σ H g S (match t p Γ S with
        | .ok Γ1 S1 => gTs ts ps Γ1 S1
        | _ => .bad) _ := ok
      cases ht : t p Γ S with
      | ok Γ1 S1 =>
        rw [ht] at ok
        have ok : OKw X W σ H g S (gTs ts ps Γ1 S1) _ := ok
        rcases gTs_ok ts ps Γ1 S1 with ⟨Γ2, S2, z⟩ | z
        · rw [z] at ok
          intro g1 H1 e1 σ1 rg1
          refine ⟨g1, Γ1, S1, ps, e1.rel, rg1, RVs.up rel e1 _ _ h2, ?_⟩
          rw [z]
          exact fun g2 H2 e2 => ok g2 H2 (e1.trans e2)
        · rw [z] at ok; exact ok.elim
      | ex c fs S1 => rw [ht] at ok; exact ok.elim
      | bad => rw [ht] at ok; exact ok.elim)⟩
def gUG (ts : List GF) : GF := fun p Γ S => match deref S p with
  | some (.tup, xs) => if xs.length = ts.length then gTs ts xs Γ S else .bad
  | _ => .bad
theorem Tg.unG {ts : List GF} {k n : Nat} (hc : X.calm = true) (h : PGs X es (liftGs X W (gTs ts))) (hi : ts.length = n := by rfl) (hn : (assignEach es X.env).length = n := by rfl) (hst : (assignEach es X.env).findIdx? (·.1) = none := by rfl) :
    Tg X W (.Tuple es k pos) (gUG ts) :=
  pg_imp (pg_tup hc h hn hst) fun v σ H Q ⟨g, Γ, S, p, rel, rg, rv, ok⟩ => by
    unfold gUG at ok
    split at ok
    · rename_i xs e
      obtain ⟨a, vs, rfl, h2, h3⟩ := deref_ok rel rv e
      split at ok
      · rename_i hl
        exact ⟨a, vs, rfl, h3.tup, by rw [← h2.len, hl, hi], g, Γ, S, xs, rel, rg, h2, ok⟩
      · exact ok.elim
    · exact ok.elim
end
end Pv
/-! Pv43: two names set at once. -/
namespace Pv
open PySem PySem.Spec PyProof.Rows L2
section
variable {X : Cx} {W : WX} {H H' : Hp} {g g' : G} {S S' : Sto} {D : Ends} {σ : L2.St} {N : List Str} {sc : Scope} {k : Nat}
/-- a, b = x, y with local names a, b -/
def sPar (i j : Nat) (tr : AF) : SF := fun Γ S => (tr Γ S).st Γ fun vs S1 => match vs with
  | [v, w] => .nx ((Γ.set i (some v)).set j (some w)) S1
  | _ => .bad
theorem par_imp {i j : Nat} {tr : AF} (h : liftS X W (sPar i j tr) D σ H) : tPar i j (liftA X W tr) D σ H := by
  obtain ⟨g, Γ, S, rel, rg, ok⟩ := h
  refine ⟨g, Γ, S, rel, rg, OKw.mono (OKs.st rel rg ok) fun vs S1 g1 H1 _ e1 h1 xs rxs => ?_⟩
  match vs, h1, rxs with
  | [v, w], h1, rxs =>
    simp only [RVs] at rxs
    obtain ⟨x, _, rfl, rx, y, _, rfl, ry, rfl⟩ := rxs
    exact ⟨x, y, rfl, h1 g1 H1 _ (Ext.refl e1.rel) (((rg.up rel e1).set rx).set ry)⟩
  | [], h1, _ => exact h1.elim
  | [_], h1, _ => exact h1.elim
  | _ :: _ :: _ :: _, h1, _ => exact h1.elim
theorem Body.par (b : Body X W N sc k) (nd : N.Nodup) {i j : Nat} {x y : Str} {px py pt pos : Pos} {kt k2 pt2} {e1 e2 : Expr} {tr : AF} (hd : (N[i]? = some x ∧ N[j]? = some y ∧ i ≠ j) ∧ sc.names.lookup x = some .local ∧ sc.names.lookup y = some .local) (ha : A X W [e1, e2] tr)
    (hw : ∀ env : Env, env.scope = sc → swappedStores [.Tuple [.Name x px, .Name y py] kt pt] (.Tuple [e1, e2] k2 pt2) env = pure (some [x, y]))
    (hs : swapsWithSole [.Tuple [.Name x px, .Name y py] kt pt] (.Tuple [e1, e2] k2 pt2) pos.line X.env = pure false := by rfl) :
    St X W (.Assign [.Tuple [.Name x px, .Name y py] kt pt] (.Tuple [e1, e2] k2 pt2) pos) (sPar i j tr) := by
  have b1 := b.hN
  have b2 := b.sc
  subst b1 b2
  exact ps_imp (ps_par b.calm nd hd.1.1 hd.1.2.1 hd.1.2.2 hd.2.1 hd.2.2 ha (hw _ rfl) hs) fun D σ H h => par_imp h
theorem Body.hwN (b : Body X W N sc k) {ts : List Expr} {v : Expr} (h : ∀ env : Env, env.scope = sc → swappedStores ts v env = pure none) : swappedStores ts v X.env = pure none := h _ b.sc
end
end Pv
/-! Pv44: list(range(n)), list(range(a, b)). -/
namespace Pv
open PySem PySem.Spec PyProof.Rows L2
section
variable {X : Cx} {W : WX} {a b : Expr} {ta tb : EF}
/-- the list of the numbers below what t computes -/
def eLR (mu : Bool) (t : EF) : EF := fun Γ S => (t Γ S).bind fun v S1 => match v with
  | .int n => if 0 ≤ n ∧ n ≤ 16777216 then .ok (newP mu .lst (intsF 0 n.toNat) S1).1 (newP mu .lst (intsF 0 n.toNat) S1).2 else .bad
  | _ => .bad
theorem rvs_rg {Y : Kx} {H : Hp} {g : G} {L : Nat} {i j : Int} : RVs Y H g L (intsF i (j - i).toNat) (rgV i j) := by
  have := RVs.ofints (Y := Y) (H := H) (g := g) (L := L) (lo := i) (n := (j - i).toNat)
  unfold rgV
  exact this
theorem E.lstRg {mu : Bool} {p p2 pos pos2 : Pos} (hc : X.calm = true) (hg : Gl X "list") (hm : X.mg "list" = none) (hg2 : Gl X "range") (hm2 : X.mg "range" = none) (ha : E X W a ta)
    (na : starEach [a] X.env = (false, eval a X.env) :: starEach [] X.env := by rfl) (nb : starEach [.Call (.Name "range" p2) [a] [] pos2] X.env = (false, eval (.Call (.Name "range" p2) [a] [] pos2) X.env) :: starEach [] X.env := by rfl) :
    E X W (.Call (.Name "list" p) [.Call (.Name "range" p2) [a] [] pos2] [] pos) (eLR mu ta) :=
  pe_imp (pe_listRg hc hg hm (prg_1 hg2 hm2 ha na) nb) fun σ H Q ⟨g, Γ, S, rel, rg, ok⟩ => ⟨g, Γ, S, rel, rg, OKw.mono (OKw.bind ok) fun v S1 g1 H1 _ e1 h1 x rx => by
    split at h1
    · rename_i n _
      simp only [RV] at rx
      subst rx
      split at h1
      · rename_i hn
        refine ⟨n, rfl, RgOk.of_le (by omega) hn.2 (by omega) hn.1, fun q hq => ?_⟩
        have hr : RVs (kx X) H1 g1 S1.length (intsF 0 n.toNat) (rgV 0 n) := by
          have := rvs_rg (Y := kx X) (H := H1) (g := g1) (L := S1.length) (i := 0) (j := n)
          rwa [show (n - 0).toNat = n.toNat by omega] at this
        obtain ⟨g2, z1, z2⟩ := new_ok (m := mu) e1.rel hq (k := .lst) (o := .lst _) rfl (by intro z; cases z) hr
        exact h1 _ _ z1 _ z2
      · exact h1.elim
    · exact h1.elim⟩
end
end Pv
/-! Pv45: xs.pop(i). -/
namespace Pv
open PySem PySem.Spec PyProof.Rows L2
end Pv
/-! Dm: a dict whose keys are ints and tuples of one int: what a store of a new key and a look-up of an int do. -/
namespace Pv
open PySem PySem.Spec PyProof.Rows L2
/-- what stands at the dict's address -/
abbrev DmAt (D : Addr) (es : Array DictEntry) (ep : Nat) (h : Heap) : Prop := h.get? D = some { cls := .type "dict", dict := none, data := .dict es ep }
theorem filter_none {p : Nat → Bool} : ∀ {l : List Nat}, (∀ x ∈ l, p x = false) → l.filter p = []
  | [], _ => rfl
  | x :: l, h => by rw [List.filter_cons, h x List.mem_cons_self]; exact filter_none fun y hy => h y (List.mem_cons_of_mem _ hy)
theorem filter_one {p : Nat → Bool} {j : Nat} : ∀ {l : List Nat}, l.Nodup → j ∈ l → p j = true → (∀ x ∈ l, p x = true → x = j) → l.filter p = [j]
  | [], _, h, _, _ => by simp at h
  | x :: l, hn, hj, hp, hu => by
    obtain ⟨h1, h2⟩ := List.nodup_cons.mp hn
    by_cases e : x = j
    · subst e
      rw [List.filter_cons, if_pos hp]
      congr 1
      refine filter_none fun y hy => ?_
      cases q : p y with
      | false => rfl
      | true => exact absurd (hu y (List.mem_cons_of_mem _ hy) q) fun e => h1 (e ▸ hy)
    · have : p x = false := by
        cases q : p x with
        | false => rfl
        | true => exact absurd (hu x List.mem_cons_self q) e
      rw [List.filter_cons, this]
      exact filter_one h2 (by rcases List.mem_cons.mp hj with h | h; exact absurd h.symm e; exact h) hp fun y hy => hu y (List.mem_cons_of_mem _ hy)
theorem places_none {es : Array DictEntry} {h : Int} (hn : ∀ e ∈ es.toList, e.hash ≠ h) : placesWithHash es.size (fun i => es[i]?.map (·.hash)) h = [] := by
  unfold placesWithHash
  refine filter_none fun i hi => ?_
  have hi : i < es.size := List.mem_range.mp hi
  show (Option.map (fun x : DictEntry => x.hash) es[i]? == some h) = false
  rw [Array.getElem?_eq_getElem hi]
  have := hn es[i] (Array.getElem_mem_toList hi)
  simpa using this
theorem places_one {es : Array DictEntry} {h : Int} {j : Nat} {e : DictEntry} (hj : es[j]? = some e) (he : e.hash = h) (hu : ∀ i e', es[i]? = some e' → e'.hash = h → i = j) : placesWithHash es.size (fun i => es[i]?.map (·.hash)) h = [j] := by
  unfold placesWithHash
  refine filter_one List.nodup_range (List.mem_range.mpr (Array.getElem?_eq_some_iff.mp hj).1) ?_ fun i hi hp => ?_
  · show (Option.map (fun x : DictEntry => x.hash) es[j]? == some h) = true
    rw [hj]; simp [he]
  · have hi : i < es.size := List.mem_range.mp hi
    have hp : (Option.map (fun x : DictEntry => x.hash) es[i]? == some h) = true := hp
    rw [Array.getElem?_eq_getElem hi] at hp
    exact hu i es[i] (Array.getElem?_eq_getElem hi) (by simpa using hp)
section
variable {prog : Program} {w : World} {A : Around} {E : Value → Shared → Prop} {s : Shared} {D : Addr} {es : Array DictEntry} {ep : Nat} {h : Int} {key : Value}
/-- a key that is not there -/
theorem dm_find_none {Q : Option Nat → Shared → Prop} (ho : DmAt D es ep s.heap) (hn : ∀ e ∈ es.toList, e.hash ≠ h) (hk : (∃ i t, key = .int i t) ∨ (∃ T, key = .ref T ∧ ∀ e ∈ es.toList, e.key ≠ .ref T)) (hQ : Q none s) :
    wpAny (model prog w) A (dictFind D key h) Q E s := by
  have pl := places_none hn
  unfold dictFind
  try with_reducible refine wpAny_holding ?_
  refine wpAny_bind (wpAny_dictEntries ho rfl ?_)
  rcases hk with ⟨i, t, rfl⟩ | ⟨T, rfl, hT⟩
  · simp only [pl, List.filterMap_nil, List.all_cons, List.all_nil, carriedByValue, Bool.and_true, if_true]
    unfold dictWalkPlain
    rw [List.forIn_nil]
    exact wpAny_bind (wpAny_pure (wpAny_pure hQ))
  · have h1 : (es.any fun e => e.key == Value.ref T && e.hash != h) = false := by
      rw [Array.any_eq_false]
      intro i hi
      have := hT es[i] (Array.getElem_mem_toList hi)
      have : (es[i].key == Value.ref T) = false := beq_eq_false_iff_ne.mpr this
      rw [this]; simp
    simp only [pl, List.filterMap_nil, List.all_cons, List.all_nil, carriedByValue, Bool.and_true, Bool.false_eq_true, if_false, h1]
    rw [if_neg (show ¬ (([] : List Value) == [Value.ref T]) = true from Bool.false_ne_true)]
    refine wpAny_bind ?_
    show wpAny _ _ (tableMayTell (Value.ref T) []) _ _ _
    unfold tableMayTell
    refine wpAny_pure ?_
    simp only [Bool.false_and, Bool.false_eq_true, if_false, List.forIn_nil]
    exact wpAny_bind (wpAny_pure (wpAny_pure hQ))
/-- an int that is there once, and no other key of its hash -/
theorem dm_find_int {Q : Option Nat → Shared → Prop} {j : Nat} {i : Int} {t u : Tok} {e : DictEntry} (ho : DmAt D es ep s.heap) (hj : es[j]? = some e) (he : e.hash = h) (hk : e.key = .int i u) (hu : ∀ i e', es[i]? = some e' → e'.hash = h → i = j) (hQ : Q (some j) s) :
    wpAny (model prog w) A (dictFind D (.int i t) h) Q E s := by
  have pl := places_one hj he hu
  unfold dictFind
  try with_reducible refine wpAny_holding ?_
  refine wpAny_bind (wpAny_dictEntries ho rfl ?_)
  simp only [pl, List.filterMap_cons, List.filterMap_nil, hj, Option.map_some, hk, List.all_cons, List.all_nil, carriedByValue, Bool.and_true, if_true]
  unfold dictWalkPlain
  refine wpAny_bind ?_
  rw [List.forIn_cons]
  simp only [hj, he, beq_self_eq_true, if_true]
  refine wpAny_bind (wpAny_bind (wpAny_dictEpoch ho rfl ?_))
  rw [hk]
  refine wpAny_bind (wpAny_eqBool_int (wpAny_bind (wpAny_dictEpoch ho rfl ?_)))
  simp only [beq_self_eq_true, bne_self_eq_false, Bool.false_eq_true, if_false, if_true]
  exact wpAny_bind (wpAny_rule (wpAny_pure (wpAny_pure (wpAny_pure hQ))))
/-- D[key] = v for a new key -/
theorem dm_set {v : Value} {Q : Unit → Shared → Prop} {n : Nat} (ho : DmAt D es ep s.heap) (hn : ∀ e ∈ es.toList, e.hash ≠ h) (hk : (∃ i t, key = .int i t) ∨ (∃ T, key = .ref T ∧ ∀ e ∈ es.toList, e.key ≠ .ref T)) (hz : es.size ≤ sizeLine)
    (hh : ∀ {R : Int → Shared → Prop}, R h { s with toks := s.toks + n } → wpAny (model prog w) A (pyHash key) R E s)
    (hQ : ∀ h', DmAt D (es.push ⟨h, key, v⟩) (ep + 1) h' → Heap.SameBut D s.heap h' → Q () { s with heap := h', toks := s.toks + n }) :
    wpAny (model prog w) A (dictSet D key v) Q E s := by
  unfold dictSet
  try with_reducible refine wpAny_holding ?_
  refine wpAny_bind (hh ?_)
  unfold dictSetHashed
  try with_reducible refine wpAny_holding ?_
  refine wpAny_bind (dm_find_none (s := { s with toks := s.toks + n }) ho hn hk ?_)
  refine wpAny_bind (wpAny_rule (wpAny_updateDictKeys (s := { s with toks := s.toks + n }) (hz := hz) ho rfl (hQ _ ?_ (Heap.SameBut.update ..))))
  exact Heap.get?_update_self _ ho rfl
/-- D[i] -/
theorem dm_get {Q : Value → Shared → Prop} {j : Nat} {i : Int} {t u : Tok} {e : DictEntry} (ho : DmAt D es ep s.heap) (hj : es[j]? = some e) (he : e.hash = hashInt i) (hk : e.key = .int i u) (hu : ∀ k e', es[k]? = some e' → e'.hash = hashInt i → k = j) (hQ : Q e.val { s with toks := s.toks + 1 }) :
    wpAny (model prog w) A (getItem (.ref D) (.int i t)) Q E s := by
  have hT : s.TypeIs (.ref D) "dict" := ⟨_, ho, rfl⟩
  unfold getItem
  try with_reducible refine wpAny_holding ?_
  refine wpAny_bind (wpAny_sequenceKey hT (by decide) ?_)
  refine wpAny_bind (wpAny_callSpecial?_slot (name := Str.ofString "__getitem__") hT slot_dict_getitem
    (wpAny_call_entry slot_dict_getitem hT entry_dict_getitem ?_ (args_dict_getitem _ _)))
  show wpAny _ _ (dictGet D (.int i t) >>= _) _ _ s
  refine wpAny_bind ?_
  unfold dictGet
  try with_reducible refine wpAny_holding ?_
  refine wpAny_bind (wpAny_pyHash_int (wpAny_bind (dm_find_int (s := { s with toks := s.toks + 1 }) ho hj he hk hu (wpAny_bind (wpAny_dictEntries (s := { s with toks := s.toks + 1 }) ho rfl ?_)))))
  rw [hj]
  exact wpAny_pure (wpAny_pure ⟨_, rfl, wpAny_pure hQ⟩)
end
end Pv
/-! Zp: list(zip(xs, ys)): the walk of a zip whose tuples are kept. -/
namespace Pv
open PySem PySem.Spec PyProof.Rows L2
section
variable {prog : Program} {w : World} {A : Around} {E : Value → Shared → Prop} {s : Shared}
/-- a zip that has given i pairs; d is none of them -/
def ZSt (d z TI TO i1 i2 l1 l2 : Addr) (xs ys : Array Value) (i : Nat) (h : Heap) : Prop :=
  PySem.IsPair h TI (.ref i1) (.ref i2) ∧ h.IsListIter i1 l1 i ∧ h.IsListIter i2 l2 i ∧ h.IsList l1 xs ∧ h.IsList l2 ys ∧
    ((PySem.IsZip h z TI TO .none ∧ ∃ a b, PySem.IsPair h TO a b) ∨ ∃ T f oT, PySem.IsZipHeld h z TI TO T f ∧ h.get? T = some oT ∧ T ≠ z ∧ T ≠ i1 ∧ T ≠ i2 ∧ T ≠ d)
theorem ZSt.keep {d z TI TO i1 i2 l1 l2 : Addr} {xs ys : Array Value} {i : Nat} {h h' : Heap} (st : ZSt d z TI TO i1 i2 l1 l2 xs ys i h) (hd : d ≠ z ∧ d ≠ TI ∧ d ≠ TO ∧ d ≠ i1 ∧ d ≠ i2 ∧ d ≠ l1 ∧ d ≠ l2) (k : ∀ b o, b ≠ d → h.get? b = some o → h'.get? b = some o) : ZSt d z TI TO i1 i2 l1 l2 xs ys i h' := by
  obtain ⟨d1, d2, d3, d4, d5, d6, d7⟩ := hd
  obtain ⟨hTI, h1, h2, hl1, hl2, hz⟩ := st
  refine ⟨k _ _ (Ne.symm d2) hTI, h1.at fun o e => k _ o (Ne.symm d4) e, h2.at fun o e => k _ o (Ne.symm d5) e, hl1.at fun o e => k _ o (Ne.symm d6) e, hl2.at fun o e => k _ o (Ne.symm d7) e, ?_⟩
  rcases hz with ⟨hz, a, b, hTO⟩ | ⟨T, f, oT, hz, hT, r1, r2, r3, r4⟩
  · exact .inl ⟨k _ _ (Ne.symm d1) hz, a, b, k _ _ (Ne.symm d3) hTO⟩
  · exact .inr ⟨T, f, oT, k _ _ (Ne.symm d1) hz, k _ _ r4 hT, r1, r2, r3, r4⟩
theorem ZSt.item {d z TI TO i1 i2 l1 l2 : Addr} {xs ys : Array Value} {i : Nat} (D : PySem.ZipApart z TI TO i1 i2 l1 l2) {x y : Value} (hds : d < s.heap.objs.size) (ex : xs[i]? = some x) (ey : ys[i]? = some y) (st : ZSt d z TI TO i1 i2 l1 l2 xs ys i s.heap) {Q : Option Value → Shared → Prop}
    (hQ : ∀ h', ZSt d z TI TO i1 i2 l1 l2 xs ys (i + 1) h' → PySem.IsPair h' s.heap.objs.size x y → (∀ c o, c ≠ z → c ≠ TO → c ≠ i1 → c ≠ i2 → s.heap.get? c = some o → h'.get? c = some o) → Q (some (.ref s.heap.objs.size)) { s with heap := h' }) :
    wpAny (model prog w) A (pyNext (.ref z)) Q E s := by
  obtain ⟨hTI, h1, h2, hl1, hl2, hz⟩ := st
  have lt : ∀ {c o}, s.heap.get? c = some o → s.heap.objs.size ≠ c := fun e => Nat.ne_of_gt (Heap.lt_size e)
  have n1 : s.heap.objs.size ≠ i1 := let ⟨_, e, _⟩ := h1; lt e
  have n2 : s.heap.objs.size ≠ i2 := let ⟨_, e, _⟩ := h2; lt e
  rcases hz with ⟨hz, a, b, hTO⟩ | ⟨T, f, oT, hz, hT, r1, r2, r3, r4⟩
  · refine wpAny_pyNext_zip_item D hz hTI hTO h1 h2 hl1 hl2 ex ey fun h' a1 a2 a3 a4 a5 a6 hk => ?_
    exact hQ h' ⟨hk _ _ D.TIz D.TITO D.TIi1 D.TIi2 hTI, a3, a4, hl1.at fun o e => hk _ o D.l1z D.l1TO D.l1i1 D.l1i2 e, hl2.at fun o e => hk _ o D.l2z D.l2TO D.l2i1 D.l2i2 e, .inr ⟨s.heap.objs.size, false, _, a1, a5, lt hz, n1, n2, Nat.ne_of_gt hds⟩⟩ a5 hk
  · refine wpAny_pyNext_zip_item_held D hz hT hTI h1 h2 hl1 hl2 ex ey fun h' a1 a3 a4 a5 a6 hk => ?_
    exact hQ h' ⟨hk _ _ D.TIz D.TIi1 D.TIi2 hTI, a3, a4, hl1.at fun o e => hk _ o D.l1z D.l1i1 D.l1i2 e, hl2.at fun o e => hk _ o D.l2z D.l2i1 D.l2i2 e, .inr ⟨T, true, oT, a1, hk _ _ r1 r2 r3 hT, r1, r2, r3, r4⟩⟩ a5 fun c o c1 _ c3 c4 e => hk c o c1 c3 c4 e
theorem ZSt.done {d z TI TO i1 i2 l1 l2 : Addr} {xs ys : Array Value} {i : Nat} (hA : A.handled = none) (D : PySem.ZipApart z TI TO i1 i2 l1 l2) (hend : xs[i]? = none ∨ ys[i]? = none) (st : ZSt d z TI TO i1 i2 l1 l2 xs ys i s.heap) {Q : Option Value → Shared → Prop}
    (hQ : ∀ h', (∀ c o, c ≠ z → c ≠ TO → c ≠ i1 → c ≠ i2 → s.heap.get? c = some o → h'.get? c = some o) → Q none { s with heap := h' }) :
    wpAny (model prog w) A (pyNext (.ref z)) Q E s := by
  obtain ⟨hTI, h1, h2, hl1, hl2, hz⟩ := st
  rcases hz with ⟨hz, a, b, hTO⟩ | ⟨T, f, oT, hz, hT, r1, r2, r3, r4⟩
  · exact wpAny_pyNext_zip_end hA D hz hTI hTO h1 h2 hl1 hl2 hend fun h' hk => hQ h' hk
  · exact wpAny_pyNext_zip_end_held hA D hz hT hTI h1 h2 hl1 hl2 hend fun h' hk => hQ h' fun c o c1 _ c3 c4 e => hk c o c1 c3 c4 e
end
end Pv
/-! Zq: list(zip(xs, ys)) as one call: the list's own loop by induction over the pairs that are left. -/
namespace Pv
open PySem PySem.Spec PyProof.Rows L2
theorem zip_has_no_len : typeLookup (.type "zip") "__len__" = pure none := by rw [typeLookup_type, builtinLookup_eq_fast]; kernel_rfl
theorem zip_has_no_hint : typeLookup (.type "zip") "__length_hint__" = pure none := by rw [typeLookup_type, builtinLookup_eq_fast]; kernel_rfl
/-- the tuples made so far -/
def Made (h : Heap) (z TO i1 i2 S B : Addr) (xs ys : Array Value) (ps : List Addr) : Prop :=
  ps.Nodup ∧ ∀ (j : Nat) (p : Addr), ps[j]? = some p → B ≤ p ∧ p ≠ z ∧ p ≠ TO ∧ p ≠ i1 ∧ p ≠ i2 ∧ p ≠ S ∧ ∃ x y, xs[j]? = some x ∧ ys[j]? = some y ∧ PySem.IsPair h p x y
theorem Made.keep {h h' : Heap} {z TO i1 i2 S B : Addr} {xs ys : Array Value} {ps : List Addr} (m : Made h z TO i1 i2 S B xs ys ps) (k : ∀ c o, c ≠ z → c ≠ TO → c ≠ i1 → c ≠ i2 → c ≠ S → h.get? c = some o → h'.get? c = some o) : Made h' z TO i1 i2 S B xs ys ps := by
  refine ⟨m.1, fun j p e => ?_⟩
  obtain ⟨b0, b1, b2, b3, b4, b5, x, y, ex, ey, hp⟩ := m.2 j p e
  exact ⟨b0, b1, b2, b3, b4, b5, x, y, ex, ey, k p _ b1 b2 b3 b4 b5 hp⟩
theorem Made.add {h : Heap} {z TO i1 i2 S B p : Addr} {xs ys : Array Value} {ps : List Addr} {x y : Value} (m : Made h z TO i1 i2 S B xs ys ps) (hn : p ∉ ps) (hB : B ≤ p) (b1 : p ≠ z) (b2 : p ≠ TO) (b3 : p ≠ i1) (b4 : p ≠ i2) (b5 : p ≠ S)
    (ex : xs[ps.length]? = some x) (ey : ys[ps.length]? = some y) (hp : PySem.IsPair h p x y) : Made h z TO i1 i2 S B xs ys (ps ++ [p]) := by
  refine ⟨?_, fun j q e => ?_⟩
  · rw [List.nodup_append]
    refine ⟨m.1, by simp, fun a ha b hb => ?_⟩
    have : b = p := by simpa using hb
    subst this
    exact fun e => hn (e ▸ ha)
  · by_cases hj : j < ps.length
    · rw [List.getElem?_append_left hj] at e
      exact m.2 j q e
    · have hj2 := (List.getElem?_eq_some_iff.mp e).1
      simp only [List.length_append, List.length_cons, List.length_nil] at hj2
      have : j = ps.length := by omega
      subst this
      rw [List.getElem?_append_right (Nat.le_refl _)] at e
      simp only [Nat.sub_self, List.getElem?_cons_zero, Option.some.injEq] at e
      subst e
      exact ⟨hB, b1, b2, b3, b4, b5, x, y, ex, ey, hp⟩
section
variable {prog : Program} {w : World} {A : Around} {R : Result → Shared → Prop} {S z TI TO i1 i2 l1 l2 B : Addr} {xs ys : Array Value} {n : Nat} {res : Value}
/-- what the loop leaves -/
def ZEnd (s : Shared) (z TO i1 i2 S B : Addr) (xs ys : Array Value) (n : Nat) (res : Value) (R : Result → Shared → Prop) : Prop :=
  ∀ (h' : Heap) (ps : List Addr) (c' : Nat), ps.length = n → Made h' z TO i1 i2 S B xs ys ps → h'.get? S = some { cls := .type "list", dict := none, data := .seq (ps.map Value.ref).toArray c', slots := #[] } →
    (∀ c o, c ≠ z → c ≠ TO → c ≠ i1 → c ≠ i2 → c ≠ S → s.heap.get? c = some o → h'.get? c = some o) → R (.ok (.ret res)) { s with heap := h' }
theorem zip_loop (hA : A.handled = none) (D : PySem.ZipApart z TI TO i1 i2 l1 l2) (hS : S ≠ z ∧ S ≠ TI ∧ S ≠ TO ∧ S ≠ i1 ∧ S ≠ i2 ∧ S ≠ l1 ∧ S ≠ l2) (hB : B ≤ z ∧ B ≤ TO ∧ B ≤ i1 ∧ B ≤ i2 ∧ B ≤ S) (hn : n = min xs.size ys.size) (hz : n ≤ sizeLine) :
    ∀ (k i : Nat) (s : Shared) (ps : List Addr) (c : Nat), n - i = k → ps.length = i → i ≤ n → ZSt S z TI TO i1 i2 l1 l2 xs ys i s.heap → TO < s.heap.objs.size → Made s.heap z TO i1 i2 S B xs ys ps →
      s.heap.get? S = some { cls := .type "list", dict := none, data := .seq (ps.map Value.ref).toArray c, slots := #[] } → ZEnd s z TO i1 i2 S B xs ys n res R →
      codeAny (model prog w) A (.builtin "list.extend.loop" ⟨[.ref S, .ref z, res], []⟩) R s := by
  have hA1 : A.in1.handled = none := hA
  obtain ⟨s1, s2, s3, s4, s5, s6, s7⟩ := hS
  obtain ⟨B1, B2, B3, B4, B5⟩ := hB
  intro k
  induction k with
  | zero =>
    intro i s ps c hk hl hi st hTOl m hS hR
    have hin : i = n := by omega
    refine codeAny_builtin F.entry_extend_loop ?_
    rw [Around.under_plainId F.plain_extend_loop _]
    show wpAny _ A.in1 (pyNext (.ref z) >>= _) _ _ s
    have hend : xs[i]? = none ∨ ys[i]? = none := by
      rw [hin, hn]
      rcases Nat.le_total xs.size ys.size with h | h
      · exact .inl (by rw [Nat.min_eq_left h]; exact Array.getElem?_eq_none (Nat.le_refl _))
      · exact .inr (by rw [Nat.min_eq_right h]; exact Array.getElem?_eq_none (Nat.le_refl _))
    refine wpAny_bind (st.done hA1 D hend fun h' hk => ?_)
    exact wpAny_pure (hR h' ps c (hl.trans hin) (m.keep fun c o c1 c2 c3 c4 _ e => hk c o c1 c2 c3 c4 e) (hk _ _ s1 s3 s4 s5 hS) fun c o c1 c2 c3 c4 _ e => hk c o c1 c2 c3 c4 e)
  | succ k ih =>
    intro i s ps c hk hl hi st hTOl m hS hR
    have hlt : i < n := by omega
    have hix : i < xs.size := by have := Nat.min_le_left xs.size ys.size; omega
    have hiy : i < ys.size := by have := Nat.min_le_right xs.size ys.size; omega
    have ex := Array.getElem?_eq_getElem hix
    have ey := Array.getElem?_eq_getElem hiy
    have hSs : S < s.heap.objs.size := Heap.lt_size hS
    refine codeAny_builtin F.entry_extend_loop ?_
    rw [Around.under_plainId F.plain_extend_loop _]
    show wpAny _ A.in1 (pyNext (.ref z) >>= _) _ _ s
    have fresh : ∀ {c o}, s.heap.get? c = some o → s.heap.objs.size ≠ c := fun e => Nat.ne_of_gt (Heap.lt_size e)
    have fz : s.heap.objs.size ≠ z ∧ s.heap.objs.size ≠ i1 ∧ s.heap.objs.size ≠ i2 ∧ B ≤ s.heap.objs.size := by
      obtain ⟨hTI, h1, h2, hl1, hl2, hz⟩ := st
      refine ⟨?_, let ⟨_, e, _⟩ := h1; fresh e, let ⟨_, e, _⟩ := h2; fresh e, ?_⟩
      · rcases hz with ⟨hz, _⟩ | ⟨T, f, oT, hz, _⟩ <;> exact fresh hz
      · exact Nat.le_trans B5 (Nat.le_of_lt hSs)
    refine wpAny_bind (st.item D hSs ex ey fun h' st' hp hk => ?_)
    have nS : s.heap.objs.size ≠ S := Nat.ne_of_gt hSs
    have nT : s.heap.objs.size ≠ TO := Nat.ne_of_gt hTOl
    have hlt' : s.heap.objs.size < h'.objs.size := Heap.lt_size hp
    have hS' := hk S _ s1 s3 s4 s5 hS
    have notin : s.heap.objs.size ∉ ps := fun hmem => by
      obtain ⟨j, hj, e⟩ := List.getElem_of_mem hmem
      obtain ⟨_, _, _, _, _, _, x, y, _, _, hpp⟩ := m.2 j _ (List.getElem?_eq_some_iff.mpr ⟨hj, e⟩)
      exact absurd (Heap.lt_size hpp) (Nat.lt_irrefl _)
    have m' : Made h' z TO i1 i2 S B xs ys (ps ++ [s.heap.objs.size]) :=
      (m.keep fun c o c1 c2 c3 c4 _ e => hk c o c1 c2 c3 c4 e).add notin fz.2.2.2 fz.1 nT fz.2.1 fz.2.2.1 nS (hl ▸ ex) (hl ▸ ey) hp
    show wpAny _ A.in1 (updateSeq S (·.push (.ref s.heap.objs.size)) >>= _) _ _ _
    refine wpAny_bind ?_
    have up : ∀ b o, b ≠ S → h'.get? b = some o → (h'.update S (Obj.mapSeq (·.push (.ref s.heap.objs.size)))).get? b = some o := fun b o hb e => (Heap.get?_update_other _ _ (Ne.symm hb)).trans e
    have hS2 := Heap.get?_update_self (Obj.mapSeq (·.push (Value.ref s.heap.objs.size))) hS' rfl
    have ea : ((ps.map Value.ref).toArray.push (.ref s.heap.objs.size)) = ((ps ++ [s.heap.objs.size]).map Value.ref).toArray := by simp
    refine wpAny_updateSeq hS' rfl (wpAny_pure ⟨plainId_quiet F.plain_extend_loop _, ih (i + 1) _ (ps ++ [s.heap.objs.size]) _ (by omega) (by simp [hl]) hlt (st'.keep ⟨s1, s2, s3, s4, s5, s6, s7⟩ up) ?_ (m'.keep fun c o _ _ _ _ c5 e => up c o c5 e) (by rw [← ea]; exact hS2) ?_⟩)
      (by simp [hl]; omega) (by simp [hl]; omega)
    · show TO < (h'.update S _).objs.size
      have e : (h'.update S (Obj.mapSeq (·.push (Value.ref s.heap.objs.size)))).objs.size = h'.objs.size := by simp
      rw [e]
      exact Nat.lt_trans hTOl hlt'
    · intro h'' ps' c' q1 q2 q3 q4
      exact hR h'' ps' c' q1 q2 q3 fun c o c1 c2 c3 c4 c5 e => q4 c o c1 c2 c3 c4 c5 (up c o c5 (hk c o c1 c2 c3 c4 e))
/-- list.__init__ with a zip -/
theorem zip_init (hA : A.handled = none) (D : PySem.ZipApart z TI TO i1 i2 l1 l2) (hS : S ≠ z ∧ S ≠ TI ∧ S ≠ TO ∧ S ≠ i1 ∧ S ≠ i2 ∧ S ≠ l1 ∧ S ≠ l2) (hB : B ≤ z ∧ B ≤ TO ∧ B ≤ i1 ∧ B ≤ i2 ∧ B ≤ S) (hn : n = min xs.size ys.size) (hz : n ≤ sizeLine) {s : Shared}
    (st : PySem.IsZip s.heap z TI TO .none ∧ PySem.IsPair s.heap TI (.ref i1) (.ref i2) ∧ PySem.IsPair s.heap TO .none .none ∧ s.heap.IsListIter i1 l1 0 ∧ s.heap.IsListIter i2 l2 0 ∧ s.heap.IsList l1 xs ∧ s.heap.IsList l2 ys)
    (hSl : s.heap.get? S = some { cls := .type "list", data := .seq #[] }) (hR : ZEnd s z TO i1 i2 S B xs ys n .none R) :
    wpAny (model prog w) A.in1 (Builtin.«list.__init__» ⟨[.ref S, .ref z], []⟩)
      (fun fin s' => match fin with | .done f => R (.ok f) s' | .again c' => c'.quiet = true ∧ codeAny (model prog w) A c' R s') (fun e s' => R (.error e) s') s := by
  obtain ⟨kz, kTI, kTO, k1, k2, kl1, kl2⟩ := st
  have s1 := hS.1
  have s3 := hS.2.2.1
  have up0 : ∀ {h : Heap} {f : Obj → Obj} {b : Addr} {o : Obj}, b ≠ S → h.get? b = some o → (h.update S f).get? b = some o := fun hb e => (Heap.get?_update_other _ _ (Ne.symm hb)).trans e
  have tz : s.TypeIs (.ref z) "zip" := ⟨_, kz, rfl⟩
  show wpAny _ A.in1 (do let old ← Builtin.List.listItems (.ref S); Builtin.List.listUpdate (.ref S) (fun _ => #[]); letGo old.toList.reverse; Builtin.List.listExtendWith (.ref S) (.ref z) .none) _ _ s
  refine wpAny_bind ?_
  unfold Builtin.List.listItems
  refine wpAny_bind (wpAny_seqItems hSl rfl (wpAny_pure ?_))
  show wpAny _ A.in1 (updateSeq S (fun _ => #[]) >>= fun _ => letGo (#[] : Array Value).toList.reverse >>= fun _ => Builtin.List.listExtendWith (.ref S) (.ref z) .none) _ _ s
  refine wpAny_bind (wpAny_updateSeq hSl rfl ?_)
  have hS2 := Heap.get?_update_self (Obj.mapSeq (fun _ => (#[] : Array Value))) hSl rfl
  refine wpAny_bind (wpAny_letGo ?_)
  have kz2 := up0 (f := Obj.mapSeq (fun _ => (#[] : Array Value))) (Ne.symm s1) kz
  unfold Builtin.List.listExtendWith
  refine wpAny_bind (wpAny_typeOf (T := "zip") ⟨_, kz2, rfl⟩ ?_)
  have h1 : Builtin.List.listSameRef (.ref S) (.ref z) = false := by simp [Builtin.List.listSameRef, s1]
  have h2 : (Value.type "zip" == Value.type "list") = false := by decide
  have h3 : (Value.type "zip" == Value.type "tuple") = false := by decide
  simp only [h1, h2, h3, Bool.or_false, Bool.false_eq_true, if_false]
  refine wpAny_bind (wpAny_pyIter_zip kz2 ?_)
  refine wpAny_bind (wpAny_holding ?_)
  unfold Builtin.List.listLengthHint
  refine wpAny_bind (wpAny_specialOf (T := "zip") ⟨_, kz2, rfl⟩ zip_has_no_len ?_)
  show wpAny _ A.in1 (specialOf (Value.ref z) (Str.ofString "__length_hint__") >>= _) _ _ _
  refine wpAny_bind (wpAny_specialOf (T := "zip") ⟨_, kz2, rfl⟩ zip_has_no_hint ?_)
  refine wpAny_pure ?_
  show wpAny _ A.in1 (rule "list.extend.makes-room" >>= fun _ => Builtin.List.listTouch (.ref S) >>= fun _ =>
    again (.builtin "list.extend.loop" ⟨[.ref S, .ref z, .none], []⟩)) _ _ _
  refine wpAny_bind (wpAny_rule ?_)
  refine wpAny_bind ?_
  show wpAny _ A.in1 (updateSeq S (·.push .none) >>= fun _ => updateSeq S (·.pop)) _ _ _
  refine wpAny_bind (wpAny_updateSeq hS2 rfl ?_)
  have hS3 := Heap.get?_update_self (Obj.mapSeq (·.push Value.none)) hS2 rfl
  refine wpAny_updateSeq (hz := by seq_fits) hS3 rfl ?_
  have hS4 := Heap.get?_update_self (Obj.mapSeq (·.pop)) hS3 rfl
  have up : ∀ {b : Addr} {o : Obj}, b ≠ S → s.heap.get? b = some o → (((s.heap.update S (Obj.mapSeq (fun _ => (#[] : Array Value)))).update S (Obj.mapSeq (·.push Value.none))).update S (Obj.mapSeq (·.pop))).get? b = some o :=
    fun hb e => up0 hb (up0 hb (up0 hb e))
  obtain ⟨q1, q2, q3, q4, q5, q6, q7⟩ := hS
  have hTOl : TO < s.heap.objs.size := Heap.lt_size kTO
  refine wpAny_pure ⟨plainId_quiet F.plain_extend_loop _, zip_loop hA D ⟨q1, q2, q3, q4, q5, q6, q7⟩ hB hn hz n 0 _ [] _ rfl rfl (Nat.zero_le _) ?_ ?_ ⟨List.nodup_nil, fun j p e => by simp at e⟩ hS4 ?_⟩
  · exact ⟨up (Ne.symm q2) kTI, k1.at fun o e => up (Ne.symm q4) e, k2.at fun o e => up (Ne.symm q5) e, kl1.at fun o e => up (Ne.symm q6) e, kl2.at fun o e => up (Ne.symm q7) e, .inl ⟨up (Ne.symm q1) kz, _, _, up (Ne.symm q3) kTO⟩⟩
  · exact Heap.lt_size (up (Ne.symm q3) kTO)
  · intro h' ps c' r1 r2 r3 r4
    exact hR h' ps c' r1 r2 r3 fun c o c1 c2 c3 c4 c5 e => r4 c o c1 c2 c3 c4 c5 (up c5 e)
end
section
variable {prog : Program} {w : World} {A : Around} {E : Value → Shared → Prop} {s : Shared} {l1 l2 : Addr} {xs ys : Array Value}
/-- list(zip(..)) made: n pairs, and all that was stays -/
theorem call_list_zip {z TI TO i1 i2 : Addr} {Q : Value → Shared → Prop} (hA : A.handled = none) (D : PySem.ZipApart z TI TO i1 i2 l1 l2) {B : Addr} (hB : B ≤ z ∧ B ≤ TO ∧ B ≤ i1 ∧ B ≤ i2) (hz : min xs.size ys.size ≤ sizeLine)
    (st : PySem.IsZip s.heap z TI TO .none ∧ PySem.IsPair s.heap TI (.ref i1) (.ref i2) ∧ PySem.IsPair s.heap TO .none .none ∧ s.heap.IsListIter i1 l1 0 ∧ s.heap.IsListIter i2 l2 0 ∧ s.heap.IsList l1 xs ∧ s.heap.IsList l2 ys)
    (hQ : ∀ (h' : Heap) (ps : List Addr) (c' : Nat), ps.length = min xs.size ys.size → Made h' z TO i1 i2 s.heap.objs.size B xs ys ps → h'.get? s.heap.objs.size = some { cls := .type "list", dict := none, data := .seq (ps.map Value.ref).toArray c', slots := #[] } →
      (∀ c o, c ≠ z → c ≠ TO → c ≠ i1 → c ≠ i2 → s.heap.get? c = some o → h'.get? c = some o) → Q (.ref s.heap.objs.size) { s with heap := h' }) :
    wpAny (model prog w) A (call (.type "list") [.ref z]) Q E s := by
  obtain ⟨kz, kTI, kTO, k1, k2, kl1, kl2⟩ := st
  have lt : ∀ {c o}, s.heap.get? c = some o → s.heap.objs.size ≠ c := fun e => Nat.ne_of_gt (Heap.lt_size e)
  have hS : s.heap.objs.size ≠ z ∧ s.heap.objs.size ≠ TI ∧ s.heap.objs.size ≠ TO ∧ s.heap.objs.size ≠ i1 ∧ s.heap.objs.size ≠ i2 ∧ s.heap.objs.size ≠ l1 ∧ s.heap.objs.size ≠ l2 :=
    ⟨lt kz, lt kTI, lt kTO, let ⟨_, e, _⟩ := k1; lt e, let ⟨_, e, _⟩ := k2; lt e, let ⟨_, e, _⟩ := kl1; lt e, let ⟨_, e, _⟩ := kl2; lt e⟩
  refine callType_codes (Q₁ := fun obj s₁ => obj = .ref s.heap.objs.size ∧ s₁ = { s with heap := s.heap.push { cls := .type "list", data := .seq #[] } }) F.called_list (F.typeCall_list_1 _) F.entry_list_init
    (code_list_new _ ⟨rfl, rfl⟩) fun obj s₁ h₁ => ?_
  obtain ⟨rfl, rfl⟩ := h₁
  have nS : (s.heap.push { cls := .type "list", data := .seq #[] }).get? s.heap.objs.size = some { cls := .type "list", data := .seq #[] } := Heap.get?_push_size _ rfl
  have up : ∀ {b : Addr} {o : Obj}, s.heap.get? b = some o → (s.heap.push { cls := .type "list", data := .seq #[] }).get? b = some o := fun e => Heap.get?_push_of_some _ e
  refine ⟨⟨_, nS, rfl⟩, F.args_list_init_2 _ _, zip_init (A := A.in1) hA D hS ⟨hB.1, hB.2.1, hB.2.2.1, hB.2.2.2, Nat.le_trans hB.1 (Nat.le_of_lt (Heap.lt_size kz))⟩ rfl hz ⟨up kz, up kTI, up kTO, k1.at fun o e => up e, k2.at fun o e => up e, kl1.at fun o e => up e, kl2.at fun o e => up e⟩ nS ?_⟩
  intro h' ps c' r1 r2 r3 r4
  exact ⟨rfl, hQ h' ps c' r1 r2 r3 fun c o c1 c2 c3 c4 e => r4 c o c1 c2 c3 c4 (Ne.symm (lt e)) (up e)⟩
end
end Pv
/-! Zr: several new objects laid at once; list(zip(a, b)) as an expression. -/
namespace Pv
open PySem PySem.Spec PyProof.Rows L2
section
variable {X : Cx} {pins : List (Addr × Obj)} {σ : L2.St} {H H' : Hp} {s : Shared} {h' : Heap}
theorem inv_lay {t' : Nat} (I : Inv X pins σ H s) (k : ∀ b u, s.heap.get? b = some u → h'.get? b = some u) (low : ∀ b, b < s.heap.objs.size → H' b = H b) (new : ∀ b o, s.heap.objs.size ≤ b → H' b = some o → ObjOk X.prog X.w H' h' b o) :
    Inv X pins σ H' { s with heap := h', toks := t' } := by
  have up : ∀ b u, H b = some u → H' b = some u := fun b u e => (low b (I.hok.lt e)).trans e
  refine I.un ⟨fun b u q _ _ _ => k b u q, fun b u q _ _ _ => ⟨u.slots, k b u q⟩, fun b u q n _ => (low b (Heap.lt_size q)).trans n, fun b u q _ => ⟨u, k b u q⟩, fun b xs q => up b _ q, fun b o u q => up b _ q, fun b ps q => ⟨#[], by rw [up b _ q]; simp⟩⟩ fun b o e => ?_
  by_cases hb : b < s.heap.objs.size
  · rw [low b hb] at e
    exact (I.hok b o e).stay (fun c u _ q => k c u q) (fun c q => up c _ q) fun c xs q => up c _ q
  · exact new b o (Nat.le_of_not_lt hb) e
end
/-- tuples of two laid at ps -/
def layT : Hp → List Addr → List (V × V) → Hp
  | H, p :: ps, z :: zs => layT (upd H p (.tup [z.1, z.2])) ps zs
  | H, _, _ => H
theorem layT_inv : ∀ {ps : List Addr} {zs : List (V × V)} {H : Hp} {b : Addr} {o : HO}, layT H ps zs b = some o → (∃ j : Nat, ps[j]? = some b ∧ ∃ z : V × V, zs[j]? = some z ∧ o = HO.tup [z.1, z.2]) ∨ H b = some o
  | [], _, _, _, _, e => Or.inr (by simpa [layT] using e)
  | _ :: _, [], _, _, _, e => Or.inr (by simpa [layT] using e)
  | p :: ps, z :: zs, H, b, o, e => by
    rcases layT_inv (ps := ps) (zs := zs) e with ⟨j, h1, y, h2, h3⟩ | h
    · exact Or.inl ⟨j + 1, h1, y, h2, h3⟩
    · by_cases hb : b = p
      · subst hb
        rw [upd_same] at h
        cases h
        exact Or.inl ⟨0, rfl, z, rfl, rfl⟩
      · rw [upd_ne hb] at h
        exact Or.inr h
theorem layT_ne : ∀ {ps : List Addr} {zs : List (V × V)} {H : Hp} {b : Addr}, b ∉ ps → layT H ps zs b = H b
  | [], _, _, _, _ => by simp [layT]
  | _ :: _, [], _, _, _ => by simp [layT]
  | p :: ps, z :: zs, H, b, hb => by
    show layT (upd H p _) ps zs b = _
    rw [layT_ne (fun h => hb (List.mem_cons_of_mem _ h)), upd_ne (fun (h : b = p) => hb (by rw [h]; exact List.mem_cons_self))]
/-- pairs of plain values -/
def pairsP (xs ys : List PV) : List PV := (xs.zip ys).map fun z => .con .own .tup [z.1, z.2]
theorem lay_ok {X : Kx} {S : Sto} : ∀ (ps : List Addr) (xs ys : List PV) (vs us : List V) (H : Hp) (g : G), Rel X H g S → (∀ p ∈ ps, H p = none) → ps.Nodup → RVs X H g S.length xs vs → RVs X H g S.length ys us → ps.length = min xs.length ys.length →
    ∃ g', Ext X H g S (layT H ps (vs.zip us)) g' S ∧ RVs X (layT H ps (vs.zip us)) g' S.length (pairsP xs ys) (ps.map V.ref)
  | [], xs, ys, vs, us, H, g, rel, _, _, rx, ry, hl => by
    have : pairsP xs ys = [] := by
      unfold pairsP
      cases xs with
      | nil => rfl
      | cons a xs => cases ys with
        | nil => rfl
        | cons b ys => simp at hl
    rw [this]
    exact ⟨g, by simpa [layT] using Ext.refl rel, rfl⟩
  | p :: ps, [], ys, vs, us, H, g, _, _, _, _, _, hl => by simp at hl
  | p :: ps, _ :: _, [], vs, us, H, g, _, _, _, _, _, hl => by simp at hl
  | p :: ps, x :: xs, y :: ys, vs, us, H, g, rel, hp, hn, rx, ry, hl => by
    simp only [RVs] at rx ry
    obtain ⟨v, vs, rfl, rv, rvs⟩ := rx
    obtain ⟨u, us, rfl, ru, rus⟩ := ry
    have two : RVs X H g S.length [x, y] [v, u] := by
      simp only [RVs]
      exact ⟨v, [u], rfl, rv, u, [], rfl, ru, rfl⟩
    obtain ⟨e1, r1⟩ := newF_ok (k := .tup) (o := .tup [v, u]) rel (hp p List.mem_cons_self) rfl two
    have hn' := List.nodup_cons.mp hn
    obtain ⟨g', e2, r2⟩ := lay_ok ps xs ys vs us _ _ e1.rel (fun q hq => by rw [upd_ne (fun (h : q = p) => hn'.1 (by rw [← h]; exact hq))]; exact hp q (List.mem_cons_of_mem _ hq)) hn'.2 (RVs.up rel e1 _ _ rvs) (RVs.up rel e1 _ _ rus) (by simpa using hl)
    refine ⟨g', e1.trans e2, ?_⟩
    show RVs X _ g' S.length (.con .own .tup [x, y] :: pairsP xs ys) (V.ref p :: ps.map V.ref)
    simp only [RVs]
    have r1' := RV.up e1.rel e2 _ _ r1
    simp only [RV] at r1'
    exact ⟨_, _, rfl, r1', r2⟩
/-- list(zip(a, b)) of two lists -/
def tZipL (K : PySem.W.Frag) (ta : TA) : TE := fun σ H Q => ta σ H fun vs H1 => ∃ a b xs ys, vs = [.ref a, .ref b] ∧ SqL K H1 a xs ∧ SqL K H1 b ys ∧
  ∀ (ps : List Addr) (q : Addr), ps.length = min xs.length ys.length → (∀ p ∈ ps, H1 p = none) → ps.Nodup → layT H1 ps (xs.zip ys) q = none → Q (.ref q) (upd (layT H1 ps (xs.zip ys)) q (.lst (ps.map V.ref)))
theorem vals_refs : ∀ (ps : List Addr), Vals (ps.map V.ref) (ps.map Value.ref)
  | [] => .nil
  | _ :: ps => .cons rfl (vals_refs ps)
section
variable {X : Cx}
theorem pe_zipL {e e2 : Expr} {ta : TA} {p p2 pos pos2 : Pos} (hc : X.calm = true) (hg : Gl X "list") (hm : X.mg "list" = none) (hg2 : Gl X "zip") (hm2 : X.mg "zip" = none) (ha : PA X [e, e2] ta)
    (hs : starEach [e, e2] X.env = (false, eval e X.env) :: starEach [e2] X.env := by rfl) (hpl : (backTo pos2 (starEach [e2] X.env)).any (·.1) = false := by rfl)
    (na : starEach [.Call (.Name "zip" p2) [e, e2] [] pos2] X.env = (false, eval (.Call (.Name "zip" p2) [e, e2] [] pos2) X.env) :: starEach [] X.env := by rfl) :
    PE X (.Call (.Name "list" p) [.Call (.Name "zip" p2) [e, e2] [] pos2] [] pos) (tZipL X.K ta) := by
  refine ⟨fun pins s σ H Q I h => ?_⟩
  refine Call_ (ld_blt I hg hm boot_list (PyProof.Rows.callWith_type1 (args_cons ?_ na) na))
  refine Call_ (ld_blt I hg2 hm2 PyProof.Rows.boot_zip (PyProof.Rows.callWith_type1 (thn (ha.run pos2 pins s σ H _ I h) fun us s1 ⟨vs, H1, I1, r1, q1⟩ => ?_) hs hpl))
  obtain ⟨a, b, xs, ys, ex, hqx, hqy, q⟩ := q1
  subst ex
  cases r1 with
  | cons r rr =>
  cases rr with
  | cons r' rr =>
  cases rr
  cases r
  cases r'
  obtain ⟨its, rv, p1, z1⟩ := I1.list hqx
  obtain ⟨its2, rv2, p3, z2⟩ := I1.list hqy
  have la : a < s1.heap.objs.size := p1.lt
  have lb : b < s1.heap.objs.size := p3.lt
  refine call_zip_2 p1.isList p3.isList fun h' hz hTI hTO h1 h2 hsz hk => args_nil ?_
  have D := PySem.W.ktu_apart s1.heap.objs.size a b la lb
  have l1 := rv.length
  have l2 := rv2.length
  refine call_list_zip (I1.ok.hd hc) D (B := s1.heap.objs.size) ⟨Nat.le_add_right _ _, Nat.le_add_right _ _, Nat.le_refl _, Nat.le_add_right _ _⟩ ?_ ⟨hz, hTI, hTO, h1, h2, p1.isList.at fun o e => hk _ o e, p3.isList.at fun o e => hk _ o e⟩ fun h'' ps c' hlen made hS kept => ?_
  · have e1 : its.toArray.size = xs.length := by rw [List.size_toArray]; exact l1.symm
    have := Nat.min_le_left its.toArray.size its2.toArray.size
    omega
  have hlen' : ps.length = min xs.length ys.length := by rw [hlen, List.size_toArray, List.size_toArray, ← l1, ← l2]
  have hB : ∀ p ∈ ps, s1.heap.objs.size ≤ p ∧ p ≠ h'.objs.size := fun p hp => by
    obtain ⟨j, hj, e⟩ := List.getElem_of_mem hp
    obtain ⟨b0, _, _, _, _, b5, _⟩ := made.2 j p (List.getElem?_eq_some_iff.mpr ⟨hj, e⟩)
    exact ⟨b0, b5⟩
  have hfr : ∀ {c : Addr}, s1.heap.objs.size ≤ c → H1 c = none := fun hc => I1.hok.fresh hc
  have hSn : h'.objs.size ∉ ps := fun hm => (hB _ hm).2 rfl
  have hS0 : s1.heap.objs.size ≤ h'.objs.size := by rw [hsz]; exact Nat.le_add_right _ _
  have hq0 : layT H1 ps (xs.zip ys) h'.objs.size = none := by rw [layT_ne hSn]; exact hfr hS0
  refine ⟨.ref h'.objs.size, upd (layT H1 ps (xs.zip ys)) h'.objs.size (.lst (ps.map V.ref)), ?_, rfl, q ps _ hlen' (fun p hp => hfr (hB p hp).1) made.1 hq0⟩
  show L2.Inv X pins σ _ { s1 with heap := h'', toks := s1.toks }
  refine inv_lay (t' := s1.toks) I1 (fun c o e => kept c o ?_ ?_ ?_ ?_ (hk c o e)) (fun c hc => ?_) (fun c o hc e => ?_)
  · exact Nat.ne_of_lt (Nat.lt_of_lt_of_le (Heap.lt_size e) (Nat.le_add_right _ _))
  · exact Nat.ne_of_lt (Nat.lt_of_lt_of_le (Heap.lt_size e) (Nat.le_add_right _ _))
  · exact Nat.ne_of_lt (Heap.lt_size e)
  · exact Nat.ne_of_lt (Nat.lt_of_lt_of_le (Heap.lt_size e) (Nat.le_add_right _ _))
  · rw [upd_ne (Nat.ne_of_lt (Nat.lt_of_lt_of_le hc hS0)), layT_ne fun hm => absurd (hB c hm).1 (Nat.not_le_of_lt hc)]
  · by_cases hcS : c = h'.objs.size
    · subst hcS
      rw [upd_same] at e
      cases e
      refine ⟨?_, ps.map Value.ref, c', vals_refs ps, hS⟩
      rw [List.length_map, hlen']
      exact Nat.le_trans (Nat.min_le_left _ _) z1
    · rw [upd_ne hcS] at e
      rcases layT_inv e with ⟨j, e1, z, e2, rfl⟩ | e
      · obtain ⟨_, _, _, _, _, _, x, y, ex, ey, hp⟩ := made.2 j c e1
        obtain ⟨zx, zy⟩ := List.getElem?_zip_eq_some.mp e2
        have rx : RelV z.1 x := by
          obtain ⟨u, q1, q2⟩ := rv.get zx
          rw [List.getElem?_toArray, q1] at ex
          cases ex
          exact q2
        have ry : RelV z.2 y := by
          obtain ⟨u, q1, q2⟩ := rv2.get zy
          rw [List.getElem?_toArray, q1] at ey
          cases ey
          exact q2
        exact ⟨by show 2 ≤ sizeLine; rw [sizeLine_eq]; omega, [x, y], .cons rx (.cons ry .nil), _, hp, rfl, _, rfl⟩
      · rw [hfr hc] at e
        cases e
variable {W : WX} {a b : Expr} {ta : AF}
/-- the list of the pairs of two lists -/
def eZL (mu : Bool) (t : AF) : EF := fun Γ S => (t Γ S).bind fun vs S1 => match vs with
  | [p, q] => match deref S1 p, deref S1 q with
    | some (.lst, xs), some (.lst, ys) => .ok (newP mu .lst (pairsP xs ys) S1).1 (newP mu .lst (pairsP xs ys) S1).2
    | _, _ => .bad
  | _ => .bad
theorem E.zipL {mu : Bool} {p p2 pos pos2 : Pos} (hc : X.calm = true) (hg : Gl X "list") (hm : X.mg "list" = none) (hg2 : Gl X "zip") (hm2 : X.mg "zip" = none) (ha : A X W [a, b] ta)
    (hs : starEach [a, b] X.env = (false, eval a X.env) :: starEach [b] X.env := by rfl) (hpl : (backTo pos2 (starEach [b] X.env)).any (·.1) = false := by rfl)
    (na : starEach [.Call (.Name "zip" p2) [a, b] [] pos2] X.env = (false, eval (.Call (.Name "zip" p2) [a, b] [] pos2) X.env) :: starEach [] X.env := by rfl) :
    E X W (.Call (.Name "list" p) [.Call (.Name "zip" p2) [a, b] [] pos2] [] pos) (eZL mu ta) :=
  pe_imp (pe_zipL hc hg hm hg2 hm2 ha hs hpl na) fun σ H Q ⟨g, Γ, S, rel, rg, ok⟩ => ⟨g, Γ, S, rel, rg, OKw.mono (OKw.bind ok) fun vs S1 g1 H1 _ e1 h1 ws rw_ => by
    split at h1
    · rename_i p q
      split at h1
      · rename_i xs ys d1 d2
        simp only [RVs] at rw_
        obtain ⟨v, _, rfl, rv, u, _, rfl, ru, rfl⟩ := rw_
        obtain ⟨ad, vx, rfl, rx, q1⟩ := deref_ok e1.rel rv d1
        obtain ⟨bd, vy, rfl, ry, q2⟩ := deref_ok e1.rel ru d2
        refine ⟨ad, bd, vx, vy, rfl, q1.lst, q2.lst, fun ps q hl hp hn hq => ?_⟩
        have lx := rx.len
        have ly := ry.len
        obtain ⟨g2, e2, r2⟩ := lay_ok ps xs ys vx vy H1 g1 e1.rel hp hn rx ry (by rw [hl, lx, ly])
        obtain ⟨g3, e3, r3⟩ := new_ok (m := mu) e2.rel hq (k := .lst) (o := .lst _) rfl (by intro z; cases z) r2
        exact h1 _ _ (e2.trans e3) _ r3
      · exact h1.elim
    · exact h1.elim⟩
end
end Pv
/-! Dm2: {x: i for i, x in enumerate(xs)} for ints and tuples of one int. -/
namespace Pv
open PySem PySem.Spec PyProof.Rows L2
/-- the hash of (n,) -/
def tupH (n : Int) : Int := reduceHash (Builtin.Tuple.tupleHashOf [hashInt n])
/-- items as keys -/
def MixK (H : Hp) (xs : List V) (ks : List (Bool × Int)) : Prop :=
  xs.length = ks.length ∧ ∀ (j : Nat) (x : V) (k : Bool × Int), xs[j]? = some x → ks[j]? = some k → (∃ i, x = .int i ∧ hashInt i = i ∧ k = (true, i)) ∨ (∃ T n, x = .ref T ∧ H T = some (.tup [.int n]) ∧ k = (false, tupH n))
/-- the entries made of the first i items -/
def DmEnt (its : List Value) (ks : List (Bool × Int)) (i : Nat) (es : Array DictEntry) : Prop :=
  es.size = i ∧ ∀ (j : Nat) (e : DictEntry), es[j]? = some e → ∃ k, ks[j]? = some k ∧ e.hash = k.2 ∧ (∃ t, e.val = .int (j : Int) t) ∧ its[j]? = some e.key
theorem nodup_apart : ∀ {l : List (Bool × Int)} {i j : Nat} {p q : Bool × Int}, (l.map (·.2)).Nodup → l[i]? = some p → l[j]? = some q → i ≠ j → p.2 ≠ q.2
  | [], _, _, _, _, _, h, _, _ => by simp at h
  | a :: l, i, j, p, q, nd, h1, h2, hij => by
    rw [List.map_cons, List.nodup_cons] at nd
    cases i with
    | zero => cases j with
      | zero => exact absurd rfl hij
      | succ j =>
        simp only [List.getElem?_cons_zero, Option.some.injEq] at h1
        simp only [List.getElem?_cons_succ] at h2
        subst h1
        exact fun e => nd.1 (e ▸ List.mem_map_of_mem (List.mem_of_getElem? h2))
    | succ i => cases j with
      | zero =>
        simp only [List.getElem?_cons_zero, Option.some.injEq] at h2
        simp only [List.getElem?_cons_succ] at h1
        subst h2
        exact fun e => nd.1 (e ▸ List.mem_map_of_mem (List.mem_of_getElem? h1))
      | succ j =>
        simp only [List.getElem?_cons_succ] at h1 h2
        exact nodup_apart nd.2 h1 h2 fun e => hij (by rw [e])
theorem nat_ne1 {b N C : Nat} (hb : b < N + 2) (hC : N + 2 ≤ C) : b ≠ C := by omega
theorem nat_ne2 {b N C : Nat} (hb : b < N) (hC : N + 2 ≤ C) : b ≠ C := by omega
/-- the names of such a comprehension -/
def dmNames (scope : Scope) (x y : Str) : Bool :=
  (scope.kind == .function) && scope.names.all (fun p => p.2 == .local && (scope.names.lookup p.1 == some .local)) && (scope.names.lookup x == some .local) && (scope.names.lookup y == some .local) && (x != y) && (x != "__debug__") && (y != "__debug__")
def tDcm (K : PySem.W.Frag) (ta : TE) : TE := fun σ H Q => ta σ H fun v H1 => ∃ a xs ks, v = .ref a ∧ SqL K H1 a xs ∧ MixK H1 xs ks ∧ (ks.map (·.2)).Nodup ∧
  ∀ (D : Addr) (es : Array DictEntry) (ep : Nat), H1 D = none → MixE ks ((List.range ks.length).map fun (i : Nat) => V.int (i : Int)) es.toList → Q (.ref D) (upd H1 D (.ext (DmAt D es ep)))
section
variable {X : Cx} {e : Expr} {ta : TE}
theorem dcm_core {pins : List (Addr × Obj)} {s : Shared} {σ : L2.St} {H : Hp} {Q : VK} {x y : Str} {px py qx qy tp : Pos} {k : Nat} {p pos pos2 pos' : Pos} {scope : Scope} {use : Option (Value → Sem Unit)} {Qf : Value → Shared → Prop} (hc : X.calm = true) (hu : X.A.units < cLine) (hg : Gl X "enumerate") (hm : X.mg "enumerate" = none) (ha : PE X e ta) (hn : dmNames scope x y = true)
    (na : starEach [e] X.env = (false, eval e X.env) :: starEach [] X.env) (I : Inv X pins σ H s) (h : tDcm X.K ta σ H Q)
    (hRR : ∀ (D C : Addr) (cenv : Env) (s' : Shared) (m : Str → Option Value) (H' : Hp), cenv.locals = C → Inv X pins σ H' s' → Q (.ref D) H' → s'.heap.Ns C m → FpOk X pins H' C → compEnds (model X.prog X.w) X.A X.xe use Qf (.ref D) cenv (.ok .next) s') :
    wpAny (model X.prog X.w) X.A (comprehension (.DictComp (.Name x px) (.Name y py) [⟨.Tuple [.Name y qy, .Name x qx] k tp, .Call (.Name "enumerate" p) [e] [] pos2, [], 0⟩] scope pos) scope X.env pos' newDict false (eval (.Call (.Name "enumerate" p) [e] [] pos2) X.env) use) Qf X.xe s := by
  unfold dmNames at hn
  simp only [Bool.and_eq_true] at hn
  obtain ⟨⟨⟨⟨⟨⟨n1, n2⟩, n3⟩, n4⟩, n5⟩, n6⟩, n7⟩ := hn
  have n1 : scope.kind = .function := by simpa using n1
  have n2 : ∀ z ∈ scope.names, z.2 = .local ∧ scope.names.lookup z.1 = some .local := by
    intro z hz
    have := List.all_eq_true.mp n2 z hz
    simpa using this
  have n3 : scope.names.lookup x = some .local := by simpa using n3
  have n4 : scope.names.lookup y = some .local := by simpa using n4
  have n5 : x ≠ y := by simpa using n5
  refine comprehension_at (use := use) rfl (by intro _; rfl) (closure_ok (env := X.env) fun z hz e => by rw [(n2 z hz).1] at e; cases e) n1 (fun z hz _ => (n2 z hz).2) ?_
  refine wpAny_mono (Q := fun xv s₁ => wpAny (model X.prog X.w) X.A (pyIter xv) (DcGoesN X.prog X.w X.A X.xe X.env scope (cloFrom X.env.cells scope.names []) (.Tuple [.Name y qy, .Name x qx] k tp) [] (.Name x px) (.Name y py) use Qf) X.xe s₁) ?_
    (fun xv s₁ h₁ => wpAny_mono h₁ (fun it s₂ h₂ => compBlock_dictN (fun z hz => by rw [(n2 z hz).1]; decide) n1 h₂) fun _ _ e => e) fun _ _ e => e
  refine Call_ (ld_blt I hg hm boot_enumerate (PyProof.Rows.callWith_type1 (one_arg ha I h (fun v s1 u H1 I1 r q1 => ?_) na) na))
  obtain ⟨a, xs, ks, rfl, hq, mk, nd, q⟩ := q1
  cases r
  obtain ⟨its, rv, p', hz⟩ := I1.list hq
  have hal : a < s1.heap.objs.size := p'.lt
  have hl := rv.length
  have hh : X.A.handled = none := I1.ok.hd hc
  refine call_enumerate_list p'.isList fun h' he hit hsz hk => wpAny_pyIter_enum he ?_
  have hsize : its.toArray.size = ks.length := by rw [List.size_toArray, ← hl]; exact mk.1
  have W := GoesN.enumFrom (prog := X.prog) (w := X.w) (A := X.A) (elts := [.Name y qy, .Name x qx]) (x1 := k) (pos := tp) 0 (Draws.list (A := X.A.in1) hh s1.heap.objs.size a (Nat.ne_of_lt hal) its.toArray) (s1.heap.objs.size + 1) (Nat.succ_ne_self _)
    (fun hm => by
      rcases List.mem_cons.mp hm with e | hm
      · exact Nat.succ_ne_self _ e
      · exact Nat.ne_of_gt (Nat.lt_succ_of_lt hal) (List.mem_singleton.mp hm)) (by simp)
  refine ⟨_, _, _, _, _, _, rfl, W, ⟨⟨_, he⟩, hit, p'.isList.at fun o e => hk _ o e⟩, fun D C s₃ hB hD => ?_⟩
  obtain ⟨⟨h₃, tk₃, rfl⟩, old, nD, nC, hDC, hnm⟩ := hB
  have nC' : (s1.heap.objs.size + 2 : Nat) ≤ C := by rw [← hsz]; exact nC
  have nD' : (s1.heap.objs.size + 2 : Nat) ≤ D := by rw [← hsz]; exact nD
  generalize hcl : cloFrom X.env.cells scope.names [] = cl
  have kinds : ∀ z, scope.names.lookup z = some .local → (compEnvC scope cl C X.env).kindOf z = some .local := fun z hz => lookup_relabel_local hz
  have hp : ((compEnvC scope cl C X.env).scope.kind == .class || ((compEnvC scope cl C X.env).scope.kind == .module && (compEnvC scope cl C X.env).locals != (compEnvC scope cl C X.env).globals)) = false := by
    show (scope.kind == .class || (scope.kind == .module && _)) = false
    rw [n1]; rfl
  have offC : ∀ b : Addr, b < s1.heap.objs.size + 2 → b ≠ C := fun b hb => nat_ne1 hb nC'
  have offD : ∀ b : Addr, b < s1.heap.objs.size + 2 → b ≠ D := fun b hb => nat_ne1 hb nD'
  refine ⟨fun i s' => ∃ h' tk m es ep, s' = { s1 with heap := h', toks := tk } ∧ h'.Ns C m ∧ DmAt D es ep h' ∧ DmEnt its ks i es ∧ ∀ b o, s1.heap.get? b = some o → h'.get? b = some o,
    ⟨h₃, tk₃, _, #[], 0, rfl, hnm, hD, ⟨rfl, fun j e z => by simp at z⟩, fun b o e => old b o (hk b o e)⟩, ?_, ?_, ?_⟩
  · rintro i s₁ h'' tk ⟨h₄, tk₄, m, es, ep, rfl, k1, k2, k3, k4⟩ hk' _
    have off : ∀ b : Addr, (b < s1.heap.objs.size ∨ b = C ∨ b = D) → b ∉ [s1.heap.objs.size + 1, s1.heap.objs.size] := fun b hb hm => by
      have hm : b = s1.heap.objs.size + 1 ∨ b = s1.heap.objs.size := by simpa using hm
      rcases hb with hb | hb | hb
      · rcases hm with hm | hm
        · exact absurd hb (by rw [hm]; exact Nat.not_lt.mpr (Nat.le_succ _))
        · exact absurd hb (by rw [hm]; exact Nat.lt_irrefl _)
      · rcases hm with hm | hm
        · exact offC b (by rw [hm]; exact Nat.lt_succ_self _) hb
        · exact offC b (by rw [hm]; exact Nat.lt_succ_of_lt (Nat.lt_succ_self _)) hb
      · rcases hm with hm | hm
        · exact offD b (by rw [hm]; exact Nat.lt_succ_self _) hb
        · exact offD b (by rw [hm]; exact Nat.lt_succ_of_lt (Nat.lt_succ_self _)) hb
    exact ⟨h'', tk, m, es, ep, rfl, k1.at' fun o e => hk' _ o (off _ (.inr (.inl rfl))) e, hk' _ _ (off _ (.inr (.inr rfl))) k2, k3, fun b o e => hk' b o (off _ (.inl (Heap.lt_size e))) (k4 b o e)⟩
  · rintro i v s₀ s₁ hi _ _ ⟨T, t, xv, rfl, _, hx, hT⟩ st ⟨h₄, tk₄, m, es, ep, rfl, k1, k2, k3, k4⟩
    have hi' : i < ks.length := by rw [← hsize]; exact hi
    have hxi : its[i]? = some xv := by simpa using hx
    obtain ⟨oT, hoT, _⟩ := id hT
    refine wpAny_assign_Tuple hh hT rfl rfl fun h₅ hs₅ => ?_
    have up₅ : ∀ b o, h₄.get? b = some o → h₅.get? b = some o := fun b o e => hs₅ b o (Nat.ne_of_lt (Heap.lt_size e)) e
    show wpAny _ _ (assignInOrder [assign (.Name y qy) _, assign (.Name x qx) _] [.int (0 + (i : Int)) t, xv]) _ _ _
    refine wpAny_assignInOrder_more (wpAny_assign_Name (wpAny_storeName_local (kinds _ n4) (k1.at' fun o e => up₅ _ o e) (fun h₆ n₆ s₆ => ?_) hp))
    refine wpAny_assignInOrder_more (wpAny_assign_Name (wpAny_storeName_local (kinds _ n3) n₆ (fun h₇ n₇ s₇ => wpAny_assignInOrder_none ?_) hp))
    refine wpAny_tests_nil ?_
    show wpAny _ _ _ _ _ _
    rw [eval_Name _ _ _ (by simpa using n6)]
    refine wpAny_bind (wpAny_standAt (wpAny_loadName_local n1 (kinds _ n3) n₇ (v := xv) (by simp) ?_))
    rw [eval_Name _ _ _ (by simpa using n7)]
    refine wpAny_bind (wpAny_standAt (wpAny_loadName_local n1 (kinds _ n4) n₇ (v := .int (0 + (i : Int)) t) (by simp [n5.symm]) ?_))
    have up₇ : ∀ b o, b ≠ C → h₄.get? b = some o → h₇.get? b = some o := fun b o hb e => s₇.extBut _ _ hb (s₆.extBut _ _ hb (up₅ b o e))
    have kept7 : ∀ b o, s1.heap.get? b = some o → h₇.get? b = some o := fun b o e => up₇ b o (nat_ne2 (Heap.lt_size e) nC') (k4 b o e)
    have hlen : i < xs.length := by rw [mk.1]; exact hi'
    have ekx : xs[i]? = some xs[i] := List.getElem?_eq_getElem hlen
    have ekk : ks[i]? = some ks[i] := List.getElem?_eq_getElem hi'
    have hnew : ∀ e ∈ es.toList, e.hash ≠ ks[i].2 := fun e he hE => by
      obtain ⟨j, hj, rfl⟩ := List.getElem_of_mem he
      have hj' : j < es.size := by simpa using hj
      obtain ⟨k', q1, q2, _⟩ := k3.2 j es[j] (Array.getElem?_eq_getElem hj')
      have hji : j < i := by rw [← k3.1]; exact hj'
      have hjk : j < ks.length := Nat.lt_trans hji hi'
      rw [List.getElem?_eq_getElem hjk] at q1
      cases q1
      have hE : es[j].hash = ks[i].2 := by simpa using hE
      rw [hE] at q2
      exact nodup_apart nd (List.getElem?_eq_getElem hjk) ekk (Nat.ne_of_lt hji) q2.symm
    have hesz : es.size ≤ sizeLine := by rw [k3.1]; exact Nat.le_of_lt (Nat.lt_of_lt_of_le hlen hz)
    have fin : ∀ (hF : Heap) (tk : Nat), DmAt D (es.push ⟨ks[i].2, xv, .int (0 + (i : Int)) t⟩) (ep + 1) hF → Heap.SameBut D h₇ hF →
        (∃ h' tk' m es' ep', ({ s1 with heap := hF, toks := tk } : Shared) = { s1 with heap := h', toks := tk' } ∧ h'.Ns C m ∧ DmAt D es' ep' h' ∧ DmEnt its ks (i + 1) es' ∧ ∀ b o, s1.heap.get? b = some o → h'.get? b = some o) ∧
        ((∃ old, IsEnum hF (s1.heap.objs.size + 1) s1.heap.objs.size (0 + ((i + 1 : Nat) : Int)) old) ∧ hF.IsListIter s1.heap.objs.size a (i + 1) ∧ hF.IsList a its.toArray) := fun hF tk d1 d2 => by
      have upF : ∀ b o, b ≠ D → h₇.get? b = some o → hF.get? b = some o := fun b o hb e => d2.extBut _ _ hb e
      refine ⟨⟨hF, tk, _, _, _, rfl, n₇.at' fun o e => upF _ o hDC.symm e, d1, ⟨by rw [Array.size_push, k3.1], fun j e z => ?_⟩, fun b o e => upF b o (nat_ne2 (Heap.lt_size e) nD') (kept7 b o e)⟩, ?_⟩
      · rw [Array.getElem?_push] at z
        split at z
        · rename_i hji
          cases z
          rw [k3.1] at hji
          subst hji
          exact ⟨ks[j], ekk, rfl, ⟨t, by simp⟩, hxi⟩
        · exact k3.2 j e z
      · obtain ⟨⟨od, z1⟩, z2, z3⟩ := st
        have f : ∀ b : Addr, b < s1.heap.objs.size + 2 → ∀ o, h₄.get? b = some o → hF.get? b = some o := fun b hb o e => upF b o (offD b hb) (up₇ b o (offC b hb) e)
        exact ⟨⟨od, f _ (Nat.lt_succ_self _) _ z1⟩, z2.at fun o e => f _ (Nat.lt_succ_of_lt (Nat.lt_succ_self _)) o e, z3.at fun o e => f _ (Nat.lt_succ_of_lt (Nat.lt_succ_of_lt hal)) o e⟩
    obtain ⟨u, hu1, hu2⟩ := rv.get ekx
    rw [hxi] at hu1
    cases hu1
    have d7 : DmAt D es ep h₇ := up₇ _ _ hDC k2
    rcases mk.2 i _ _ ekx ekk with ⟨n, ex, hn', ek⟩ | ⟨T', n, ex, hT', ek⟩
    · rw [ex] at hu2
      obtain ⟨t', rfl⟩ := hu2
      have e2 : ks[i].2 = hashInt n := by rw [ek]; exact hn'.symm
      rw [e2] at hnew fin
      exact dm_set (n := 1) d7 hnew (.inl ⟨_, _, rfl⟩) hesz (fun hR => wpAny_pyHash_int hR) fun hF d1 d2 => fin hF _ d1 d2
    · rw [ex] at hu2
      obtain rfl : xv = .ref T' := hu2
      have e2 : ks[i].2 = tupH n := by rw [ek]
      rw [e2] at hnew fin
      obtain ⟨its2, rv2, pl, _⟩ := I1.tuple (xs := [.int n]) (show SqT X.K H1 T' [.int n] from .inl (.inl hT'))
      have key : IsTupleKey (mixKind X.prog X.w) h₇ [Sum.inl n] T' := by
        obtain ⟨o, e1, e3, nn, e4⟩ := pl
        refine ⟨o, its2.toArray, nn, kept7 _ _ e1, e3, e4, ?_⟩
        cases rv2 with
        | cons r rr =>
          cases rr
          obtain ⟨t', rfl⟩ := r
          exact .cons (by show Value.isInt n (.int n t') = true; simp [Value.isInt]) .nil
      refine dm_set (n := 2) d7 hnew (.inr ⟨_, rfl, fun e he hE => ?_⟩) hesz (fun hR => wpAny_pyHash_tuple hu key hR) fun hF d1 d2 => fin hF _ d1 d2
      obtain ⟨j, hj, rfl⟩ := List.getElem_of_mem he
      have hj' : j < es.size := by simpa using hj
      obtain ⟨k', q1, q2, _, q3⟩ := k3.2 j es[j] (Array.getElem?_eq_getElem hj')
      have hxj : j < xs.length := by rw [mk.1]; exact (List.getElem?_eq_some_iff.mp q1).1
      obtain ⟨u2, hu3, hu4⟩ := rv.get (List.getElem?_eq_getElem hxj)
      have hE : es[j].key = .ref T' := by simpa using hE
      rw [q3, hE] at hu3
      cases hu3
      rcases mk.2 j _ _ (List.getElem?_eq_getElem hxj) q1 with ⟨n', ex', _, _⟩ | ⟨T2, n', ex', hT2, ek'⟩
      · rw [ex'] at hu4
        obtain ⟨_, z⟩ := hu4
        cases z
      · rw [ex'] at hu4
        have hu4 : Value.ref T' = Value.ref T2 := hu4
        cases hu4
        rw [hT'] at hT2
        cases hT2
        exact hnew _ (Array.getElem_mem_toList hj') (by rw [q2, ek'])
  · rintro s₁ ⟨h₄, tk₄, m, es, ep, rfl, k1, k2, k3, k4⟩
    have hDn : s1.heap.objs.size ≤ D := Nat.le_trans (Nat.le_add_right _ 2) nD'
    have hCn : s1.heap.objs.size ≤ C := Nat.le_trans (Nat.le_add_right _ 2) nC'
    have new : ObjOk X.prog X.w (upd H1 D (.ext (DmAt D es ep))) h₄ D (.ext (DmAt D es ep)) := ⟨k2, ⟨_, k2⟩, fun g1 g2 z1 z2 => z2 _ z1⟩
    refine hRR D C _ _ m (upd H1 D (.ext (DmAt D es ep))) rfl (I1.laid (t' := tk₄) k4 hDn new) (q D es ep (I1.hok.fresh hDn) ⟨?_, ?_, fun j e hj => ?_⟩) k1 (I1.fpOk hCn (by rw [upd_ne hDC.symm]; exact I1.hok.fresh hCn))
    · rw [Array.length_toList, k3.1, hsize]
    · rw [Array.length_toList, k3.1, hsize, List.length_map, List.length_range]
    · have hj : es[j]? = some e := by simpa using hj
      have hjs : j < ks.length := by rw [← hsize, ← k3.1]; exact (Array.getElem?_eq_some_iff.mp hj).1
      obtain ⟨kk, q1, q2, ⟨t, q3⟩, q4⟩ := k3.2 j e hj
      refine ⟨kk, .int (j : Int), q1, ?_, q2, ⟨t, q3⟩, fun hb => ?_, fun hb => ?_⟩
      · rw [List.getElem?_map, List.getElem?_range hjs]; rfl
      · have hxj : j < xs.length := by rw [mk.1]; exact hjs
        obtain ⟨u, hu1, hu2⟩ := rv.get (List.getElem?_eq_getElem hxj)
        rw [q4] at hu1
        cases hu1
        rcases mk.2 j _ _ (List.getElem?_eq_getElem hxj) q1 with ⟨n, ex, hn', ek⟩ | ⟨T', n, ex, hT', ek⟩
        · rw [ex] at hu2
          obtain ⟨t', e⟩ := hu2
          exact ⟨t', by rw [e, ek]⟩
        · rw [ek] at hb; cases hb
      · have hxj : j < xs.length := by rw [mk.1]; exact hjs
        obtain ⟨u, hu1, hu2⟩ := rv.get (List.getElem?_eq_getElem hxj)
        rw [q4] at hu1
        cases hu1
        rcases mk.2 j _ _ (List.getElem?_eq_getElem hxj) q1 with ⟨n, ex, hn', ek⟩ | ⟨T', n, ex, hT', ek⟩
        · rw [ek] at hb; cases hb
        · rw [ex] at hu2
          exact ⟨T', hu2⟩
theorem sw_dict {kx vx : Expr} {gs : List Comprehension} {scope : Scope} {pos py : Pos} {y : Str} {l : Nat} {env : Env} (hk : env.scope.kind = .function) (hy : env.scope.names.lookup y = some .local) (hl : (py.line == pos.line) = true)
    (ha : (scope.names.any fun (n, k) => n == y && (k == .local || k == .cell)) = false) : swapsWith (.DictComp kx vx gs scope pos) (some (.Name y py)) l env = pure true := by
  have ky : env.kindOf y = some .local := hy
  have hb : env.blockKind = .function := by unfold Env.blockKind; rw [hk]; rfl
  unfold swapsWith
  simp only [hb, ky, ha, Expr.pos, hl]
  rfl
/-- z = {..} on one line, z a local -/
theorem ps_setDcm {i : Nat} {z : Str} {pz spos : Pos} {x y : Str} {px py qx qy tp : Pos} {k : Nat} {p pos pos2 : Pos} {scope : Scope} (hc : X.calm = true) (hu : X.A.units < cLine) (hg : Gl X "enumerate") (hm : X.mg "enumerate" = none) (ha : PE X e ta) (hn : dmNames scope x y = true)
    (hN : X.N.Nodup) (hz : X.N[i]? = some z) (hzl : X.env.scope.names.lookup z = some .local)
    (hsw : swapsWith (.DictComp (.Name x px) (.Name y py) [⟨.Tuple [.Name y qy, .Name x qx] k tp, .Call (.Name "enumerate" p) [e] [] pos2, [], 0⟩] scope pos) (some (.Name z pz)) spos.line X.env = pure true)
    (na : starEach [e] X.env = (false, eval e X.env) :: starEach [] X.env := by rfl) :
    PS X (.Assign [.Name z pz] (.DictComp (.Name x px) (.Name y py) [⟨.Tuple [.Name y qy, .Name x qx] k tp, .Call (.Name "enumerate" p) [e] [] pos2, [], 0⟩] scope pos) spos) (tAsg (tDcm X.K ta) (gName i)) := by
  refine ⟨fun pins s σ H D I h => ?_⟩
  rw [exec_Assign_Name_used _ _ _ _ hsw]
  refine wpAny_bind (wpAny_standAt (wpAny_bind ?_))
  show wpAny _ X.A (do let _ ← comprehension (.DictComp (.Name x px) (.Name y py) [⟨.Tuple [.Name y qy, .Name x qx] k tp, .Call (.Name "enumerate" p) [e] [] pos2, [], 0⟩] scope pos) scope X.env _ newDict false (eval (.Call (.Name "enumerate" p) [e] [] pos2) X.env) (some (assign (.Name z pz) X.env))) _ _ s
  have h : tDcm X.K ta σ H (fun x H1 => gName i x σ H1 D.nx) := h
  refine wpAny_bind (thn (dcm_core (use := some (assign (.Name z pz) X.env)) (Qf := fun _ s' => SP X pins D .next s') hc hu hg hm ha hn na I h fun L C cenv s' m H' hC I' q hNs f => ?_) fun _ s' hq => wpAny_pure (wpAny_pure hq))
  show wpAny _ _ (assign (.Name z pz) X.env (.ref L)) _ _ _
  refine wpAny_assign_Name (store_ok2 (v := V.ref L) I' hN hz (.inl hzl) rfl (fun s2 I2 ⟨a, sb, ha⟩ => ?_) (.inr hzl))
  obtain ⟨f0, f1, f2, f3, f4, f5⟩ := f
  have haC : C ≠ a := by
    rcases ha with e | e
    · rw [e]; exact f1
    · exact fun e' => f4 z a e e'.symm
  refine ⟨m, by rw [hC]; exact hNs.sameBut sb haC, fun h3 sb3 => ?_⟩
  rw [hC] at sb3
  exact ⟨_, H', I2.turned (t' := s2.toks) (fun b o hb e => (sb3.2 b hb).trans e) f0 f1 f3 f4 f5, q⟩
end
end Pv
/-! Dm3: the same as expressions over plain values. -/
namespace Pv
open PySem PySem.Spec PyProof.Rows L2
section
variable {X : Cx} {pins : List (Addr × Obj)} {σ : L2.St} {H : Hp} {s : Shared}
theorem dm_at {a D : Addr} {es : Array DictEntry} {ep : Nat} (I : Inv X pins σ H s) (h : H a = some (.ext (DmAt D es ep))) : DmAt a es ep s.heap := by
  obtain ⟨h1, _, st⟩ := I.hok a _ h
  have h1 : DmAt D es ep s.heap := h1
  by_cases e : D = a
  · subst e; exact h1
  · have h2 : DmAt D es ep (s.heap.update D fun o => { o with cls := .none }) := st s.heap _ h1 fun o z => (Heap.get?_update_other _ _ e).trans z
    have h3 := Heap.get?_update_self (fun o : Obj => { o with cls := .none }) h1 rfl
    have h2 : (s.heap.update D fun o => { o with cls := .none }).get? D = some { cls := .type "dict", dict := none, data := .dict es ep } := h2
    rw [h2] at h3
    cases h3
def tDmGet (td ty : TE) : TE := fun σ H Q => td σ H fun x H1 => ty σ H1 fun y H2 => ∃ a D es ep i j e v, x = .ref a ∧ y = .int i ∧ H2 a = some (.ext (DmAt D es ep)) ∧ es[j]? = some e ∧ e.hash = hashInt i ∧ (∃ u, e.key = .int i u) ∧
  (∀ (k : Nat) e', es[k]? = some e' → e'.hash = hashInt i → k = j) ∧ RelV v e.val ∧ Q v H2
theorem pe_dmget {o i : Expr} {td ty : TE} {pos : Pos} (ho : PE X o td) (hi : PE X i ty) (hs : NoSl i) : PE X (.Subscript o i pos) (tDmGet td ty) := by
  refine ⟨fun pins s σ H Q I h => ?_⟩
  refine subD_of PySem.F.slot_dict_getitem.lookup hs (thn (ho.run pins s σ H _ I h) fun u s1 ⟨x, H1, I1, rx, q1⟩ => thn (hi.run pins s1 σ H1 _ I1 q1) fun iv s2 ⟨y, H2, I2, ry, a, D, es, ep, n, j, e, v, ex, ey, hH, hj, he, ⟨u', hk⟩, hu, rv, q2⟩ => ?_)
  subst ex ey
  obtain rfl : u = Value.ref a := rx
  obtain ⟨t, rfl⟩ := ry
  have hd := dm_at I2 hH
  refine ⟨⟨_, hd, rfl⟩, dm_get hd hj he hk hu ⟨v, H2, I2.tok _, rv, q2⟩⟩
/-! ### over plain values -/
/-- an item as a key -/
def mixKP : PV → Option (Bool × Int)
  | .int i => if 0 ≤ i ∧ i < 1000000 then some (true, i) else none
  | .con .own .tup [.int n] => some (false, tupH n)
  | .con .lent .tup [.int n] => some (false, tupH n)
  | _ => none
theorem hashInt_small {i : Int} (h0 : 0 ≤ i) (h1 : i < 1000000) : hashInt i = i := by
  have hb : ¬ (i == -1) = true := by rw [beq_iff_eq]; omega
  have e1 : ((i.natAbs : Nat) : Int) = i := by omega
  have hr : rawHash i = i := by
    unfold rawHash
    have e4 : (((i.natAbs : Nat) : Int) % ((2 ^ 61 - 1 : Nat) : Int)) = i := by
      rw [e1]
      exact Int.emod_eq_of_lt h0 (by have : ((2 ^ 61 - 1 : Nat) : Int) = 2305843009213693951 := by decide
                                     rw [this]; omega)
    simp only [e4]
    rw [if_neg (by omega : ¬ i < 0), if_neg hb]
  unfold hashInt
  rw [hr, if_neg hb]
@[irreducible] def mixKs (xs : List PV) : Option (List (Bool × Int)) := (xs.mapM mixKP).bind fun ks => if (ks.map (·.2)).Nodup then some ks else none
theorem mixKP_ok {Y : Kx} {g : G} {L : Nat} {p : PV} {x : V} {k : Bool × Int} (r : RV Y H g L p x) (h : mixKP p = some k) : (∃ i, x = .int i ∧ hashInt i = i ∧ k = (true, i)) ∨ (∃ T n, x = .ref T ∧ H T = some (.tup [.int n]) ∧ k = (false, tupH n)) := by
  unfold mixKP at h
  split at h
  · split at h
    · rename_i i hi
      cases h
      simp only [RV] at r
      exact Or.inl ⟨i, r, hashInt_small hi.1 hi.2, rfl⟩
    · cases h
  · rename_i n
    cases h
    simp only [RV, RVs] at r
    obtain ⟨a, vs, rfl, ⟨o, h1, h2, _⟩, v, _, rfl, rfl, rfl⟩ := r
    cases h1
    exact Or.inr ⟨a, n, rfl, h2, rfl⟩
  · rename_i n
    cases h
    simp only [RV, RVs] at r
    obtain ⟨a, vs, rfl, ⟨o, h1, h2, _⟩, v, _, rfl, rfl, rfl⟩ := r
    cases h1
    exact Or.inr ⟨a, n, rfl, h2, rfl⟩
  · cases h
theorem mixKs_ok {Y : Kx} {g : G} {L : Nat} : ∀ {ps : List PV} {xs : List V} {ks : List (Bool × Int)}, RVs Y H g L ps xs → ps.mapM mixKP = some ks → MixK H xs ks
  | [], xs, ks, r, h => by
    simp only [RVs] at r
    subst r
    simp only [List.mapM_nil, Option.pure_def, Option.some.injEq] at h
    subst h
    exact ⟨rfl, fun j x k z => by simp at z⟩
  | p :: ps, xs, ks, r, h => by
    simp only [RVs] at r
    obtain ⟨v, r', rfl, h2, h3⟩ := r
    simp only [List.mapM_cons, Option.bind_eq_bind, Option.bind_eq_some_iff, Option.pure_def, Option.some.injEq] at h
    obtain ⟨k, e1, es, e2, rfl⟩ := h
    obtain ⟨q1, q2⟩ := mixKs_ok h3 e2
    refine ⟨by simp [q1], fun j x k' z1 z2 => ?_⟩
    cases j with
    | zero =>
      simp only [List.getElem?_cons_zero, Option.some.injEq] at z1 z2
      subst z1 z2
      exact mixKP_ok h2 e1
    | succ j => exact q2 j x k' (by simpa using z1) (by simpa using z2)
/-- 0, 1, .. -/
def upTo (n : Nat) : List PV := (List.range n).map fun (i : Nat) => PV.int (i : Int)
theorem rvs_upTo {Y : Kx} {g : G} {L n : Nat} : RVs Y H g L (upTo n) ((List.range n).map fun (i : Nat) => V.int (i : Int)) := by
  unfold upTo
  generalize List.range n = l
  induction l with
  | nil => rfl
  | cons a l ih =>
    simp only [List.map_cons, RVs]
    exact ⟨_, _, rfl, rfl, ih⟩
variable {W : WX} {a b : Expr} {ta tb : EF}
/-- {x: i for i, x in enumerate(xs)} -/
def eDM (t : EF) : EF := fun Γ S => (t Γ S).bind fun v S1 => match deref S1 v with
  | some (.lst, xs) => match mixKs xs with
    | some ks => .ok (.con .own (.dm ks) (upTo ks.length)) S1
    | none => .bad
  | _ => .bad
theorem dcm_imp {σ : L2.St} {H : Hp} {Q : VK} (h : lift X W (eDM ta) σ H Q) : tDcm X.K (lift X W ta) σ H Q := by
  obtain ⟨g, Γ, S, rel, rg, ok⟩ := h
  refine ⟨g, Γ, S, rel, rg, OKw.mono (OKw.bind ok) fun v S1 g1 H1 _ e1 h1 x rx => ?_⟩
  split at h1
  · rename_i xs d1
    split at h1
    · rename_i ks hks
      obtain ⟨ad, vx, rfl, rv, q1⟩ := deref_ok e1.rel rx d1
      unfold mixKs at hks
      obtain ⟨ks', hm, hks⟩ := Option.bind_eq_some_iff.mp hks
      split at hks
      · rename_i hnd
        cases hks
        refine ⟨ad, vx, ks, rfl, q1.lst, mixKs_ok rv hm, hnd, fun D es ep hD hmix => ?_⟩
        obtain ⟨z1, z2⟩ := newF_ok (k := .dm ks) (o := .ext (DmAt D es ep)) e1.rel hD ⟨D, es, ep, rfl, hmix⟩ (rvs_upTo (n := ks.length))
        exact h1 _ _ z1 _ z2
      · cases hks
    · exact h1.elim
  · exact h1.elim
theorem Body.setDcm {N : List Str} {sc : Scope} {n : Nat} (b : Body X W N sc n) (nd : N.Nodup) (i : Nat) (z : Str) {pz spos : Pos} {e : Expr} {x y : Str} {px py qx qy tp : Pos} {k : Nat} {p pos pos2 : Pos} {scope : Scope}
    (hy : (decide (N[i]? = some z) && decide (sc.names.lookup z = some .local) && decide (sc.kind = .function) && (pz.line == pos.line) && !(scope.names.any fun (n, k) => n == z && (k == .local || k == .cell))) = true)
    (hg : Gl X "enumerate") (hm : X.mg "enumerate" = none) (ha : E X W e ta) (hn : dmNames scope x y = true) (na : starEach [e] X.env = (false, eval e X.env) :: starEach [] X.env := by rfl) :
    St X W (.Assign [.Name z pz] (.DictComp (.Name x px) (.Name y py) [⟨.Tuple [.Name y qy, .Name x qx] k tp, .Call (.Name "enumerate" p) [e] [] pos2, [], 0⟩] scope pos) spos) (sSet i (eDM ta)) := by
  have hu := b.hu65
  have hc := b.calm
  have b1 := b.hN
  have b2 := b.sc
  subst b1 b2
  simp only [Bool.and_eq_true, decide_eq_true_eq, Bool.not_eq_true'] at hy
  obtain ⟨⟨⟨⟨h1, h2⟩, h3⟩, h4⟩, h5⟩ := hy
  exact ps_imp (ps_setDcm hc (by omega) hg hm ha hn nd h1 h2 (sw_dict h3 h2 h4 h5) na) fun D σ H h => by
    obtain ⟨g, Γ, S, rel, rg, okk⟩ := h
    exact dcm_imp ⟨g, Γ, S, rel, rg, OKw.mono (OKs.st rel rg okk) fun v S1 g1 H1 _ e1 h1 x rx => h1 g1 H1 _ (Ext.refl e1.rel) ((rg.up rel e1).set rx)⟩
/-- the place of an int among the keys, if no other key has its hash -/
@[irreducible] def dmPlace (ks : List (Bool × Int)) (i : Int) : Option Nat :=
  if 0 ≤ i ∧ i < 1000000 then (ks.findIdx? fun k => k == (true, i)).bind fun j => if ks.length ≤ 100000 ∧ (ks.map (·.2)).Nodup then some j else none else none
def dmgetF : OF := fun d k S => match k with
  | .int i => match derefH S d with
    | some (.dm ks, xs) => (dmPlace ks i).bind fun j => (xs[j]?).map fun v => (v, S)
    | _ => none
  | _ => none
theorem dmPlace_ok {ks : List (Bool × Int)} {i : Int} {j : Nat} (h : dmPlace ks i = some j) : hashInt i = i ∧ ks[j]? = some (true, i) ∧ (ks.map (·.2)).Nodup := by
  unfold dmPlace at h
  split at h
  · rename_i hi
    obtain ⟨j', h1, h2⟩ := Option.bind_eq_some_iff.mp h
    split at h2
    · rename_i hn
      cases h2
      obtain ⟨q1, q2, _⟩ := List.findIdx?_eq_some_iff_getElem.mp h1
      refine ⟨hashInt_small hi.1 hi.2, ?_, hn.2⟩
      rw [List.getElem?_eq_getElem q1]
      congr 1
      simpa using q2
    · cases h2
  · cases h
def rDmGet : V → V → Hp → VK → Prop := fun x y H Q => ∃ a D es ep i j e v, x = .ref a ∧ y = .int i ∧ H a = some (.ext (DmAt D es ep)) ∧ es[j]? = some e ∧ e.hash = hashInt i ∧ (∃ u, e.key = .int i u) ∧
  (∀ (k : Nat) e', es[k]? = some e' → e'.hash = hashInt i → k = j) ∧ RelV v e.val ∧ Q v H
theorem opf_dmget : OpF X rDmGet dmgetF := by
  intro H g S p q x y w S' Q rel rx ry h kq
  unfold dmgetF at h
  split at h
  · rename_i i
    split at h
    · rename_i ks xs hd
      obtain ⟨j, h1, h2⟩ := Option.bind_eq_some_iff.mp h
      obtain ⟨v, h3, h4⟩ := Option.map_eq_some_iff.mp h2
      cases h4
      obtain ⟨a, vs, o, rfl, rv, ho, hH⟩ := derefH_ok rel rx hd
      obtain ⟨D, es, ep, rfl, m1, m2, m3⟩ := ho
      obtain ⟨q1, q2, q3⟩ := dmPlace_ok h1
      obtain ⟨v', q4, q5⟩ := rv.get h3
      have hj : j < es.toList.length := by rw [m2]; exact (List.getElem?_eq_some_iff.mp q4).1
      obtain ⟨p', v2, z1, z2, z3, z4, z5, _⟩ := m3 j _ (List.getElem?_eq_getElem hj)
      rw [q2] at z1
      cases z1
      rw [q4] at z2
      cases z2
      simp only [RV] at ry
      subst ry
      refine ⟨a, D, es, ep, i, j, es.toList[j], v', rfl, rfl, hH, by rw [← Array.getElem?_toList]; exact List.getElem?_eq_getElem hj, by rw [q1]; exact z3, z5 rfl, fun k e' hk he' => ?_, z4, kq g H _ (Ext.refl rel) q5⟩
      rw [← Array.getElem?_toList] at hk
      obtain ⟨p2, _, y1, _, y3, _⟩ := m3 k e' hk
      by_cases hkj : k = j
      · exact hkj
      · exact absurd (by rw [← y3, he', q1]) (nodup_apart q3 y1 q2 hkj)
    · cases h
  · cases h
theorem E.dmget {pos : Pos} (ha : E X W a ta) (hb : E X W b tb) (hs : NoSl b := by exact fun _ _ => rfl) : E X W (.Subscript a b pos) (eOp dmgetF ta tb) :=
  pe_imp (pe_dmget ha hb hs) fun σ H Q h => lift_op (X := X) (r := rDmGet) opf_dmget h
end
end Pv
/-! Ix: xs.index(v), flat items (HandS.List mt_index). -/
namespace Pv
open PySem PySem.Spec PyProof.Rows L2
end Pv
/-! Tx1: str(x), int(text), x.split(sep), f-strings of texts and ints. -/
namespace Pv
open PySem PySem.Spec PyProof.Rows L2
section
variable {X : Cx} {W : WX}
/-- int(x), a text too -/
def int2F : CF := fun ps S => match ps with
  | [.str a] => if a.length ≤ 640 then (PySem.intText? a).map fun n => (.int n, S) else none
  | ps => int1F ps S
def rInt2 : List V → Hp → VK → Prop := fun xs H Q => (∃ a n, xs = [.str a] ∧ PySem.intText? a = some n ∧ a.length ≤ 640 ∧ Q (.int n) H) ∨ ((∃ i, xs = [.int i] ∧ Q (.int i) H) ∨ ∃ k, xs = [.bl k] ∧ Q (.int (if k then 1 else 0)) H)
theorem cr_int2 : CallR X (.type "int") rInt2 := CallR.or call_int_str call_int1
theorem cf_int2 : CallF X rInt2 int2F := by
  intro H g S ps xs w S' Q rel rxs h k
  unfold int2F at h
  split at h
  · split at h
    · rename_i hz
      obtain ⟨n, hn, e⟩ := Option.map_eq_some_iff.mp h
      cases e
      simp only [RVs, RV] at rxs
      obtain ⟨_, _, rfl, rfl, rfl⟩ := rxs
      exact Or.inl ⟨_, n, rfl, hn, hz, k g H _ (Ext.refl rel) RV.int⟩
    · cases h
  · exact Or.inr (cf_int1 H g S _ xs w S' Q rel rxs h k)
/-- x.split(sep) -/
def splitF (mu : Bool) : MF := fun p ps S => match p, ps with
  | .str a, [.str b] => if (b.length == 0) = false ∧ a.length + 2 ≤ sizeLine then some (newP mu .lst ((Txt.split a b).map PV.str) S) else none
  | _, _ => none
theorem strsR {Y : Kx} {H : Hp} {g : G} {L : Nat} : ∀ (ys : List Str), RVs Y H g L (ys.map PV.str) (ys.map V.str)
  | [] => RVs.nil
  | y :: ys => RVs.cons RV.str (strsR ys)
theorem mtf_split {mu : Bool} : MtF X (fun x xs H Q => ∃ a b, x = .str a ∧ xs = [.str b] ∧ (b.length == 0) = false ∧ a.length + 2 ≤ sizeLine ∧ rNewStrs (Txt.split a b) H Q) (splitF mu) := by
  intro H g S p ps x xs w S' Q rel rx rxs h k
  unfold splitF at h
  split at h
  · split at h
    · rename_i hz
      simp only [RVs, RV] at rxs
      obtain ⟨_, _, rfl, rfl, rfl⟩ := rxs
      refine ⟨_, _, rx.str_inv, rfl, hz.1, hz.2, fun l hl => ?_⟩
      obtain ⟨g', z1, z2⟩ := new_ok (m := mu) rel hl (k := .lst) (o := .lst _) rfl (by decide) (strsR _)
      simp only [Option.some.injEq] at h
      rw [h] at z1 z2
      exact k g' _ _ z1 z2
    · cases h
  · cases h
end
end Pv
/-! Tx2: for x, y in zip(a, b), tuples that stand still. -/
namespace Pv
open PySem PySem.Spec PyProof.Rows L2
end Pv
/-! Tx3: an own error with two fields, raised. -/
namespace Pv
open PySem PySem.Spec PyProof.Rows L2
variable {X : Cx} {W : WX} {K : PySem.W.Frag} {mg : Str → Option Value}
/-- what __init__ leaves: its two arguments as fields -/
def spIni2 (C : Addr) (f h : Str) : Sp := fun vs H Q _ => ∃ a v w, vs = [.ref a, v, w] ∧ H a = some (exo a C none) ∧ ∀ d, H d = none → d ≠ a → Q .non (upd (upd (upd H d (exd d [(f, v)])) a (exo a C (some d))) d (exd d [(h, w), (f, v)]))
structure ExcI2 (P : Program) (w : World) (K : PySem.W.Frag) (mg : Str → Option Value) (base : Heap) (x f h : Str) (C : Addr) : Prop where
  g : mg x = some (.ref C)
  o : OexC K C
  i : ∃ fI fd ps, PySem.W.findIn K (.ref C) "__init__" = some (some (.ref fI)) ∧ PySem.W.typeIn K (.ref fI) = some (.type "function") ∧ FnOk P w K mg base CX0 1 fI fd ps (spIni2 C f h) ∧ Binds K fd ps []
def sRaise2 (x f h : Str) (tr : AF) : SF := fun Γ S => (tr Γ S).st Γ fun vs S1 => match vs with
  | [v, w] => .ex x [(h, w), (f, v)] Γ S1
  | _ => .bad
theorem St.raise2 {x f h : Str} {C : Addr} {k : Nat} {e e2 : Expr} {tr : AF} {p pos pos2 : Pos} (hc : X.calm = true) (tk : Takes X W) (T : ExcI2 X.prog X.w X.K X.mg X.base x f h C) (hr : Room k X.A) (hk : 2 ≤ k) (hg : Gl X x) (ha : A X W [e, e2] tr) (hdb : (x == ("__debug__" : Str)) = false := by decide)
    (hs : starEach (e :: [e2]) X.env = (false, eval e X.env) :: starEach [e2] X.env := by rfl) (hpl : (backTo pos (starEach [e2] X.env)).any (·.1) = false := by rfl) :
    St X W (.Raise (some (.Call (.Name x p) [e, e2] [] pos)) none pos2) (sRaise2 x f h tr) := by
  obtain ⟨fI, fd, ps, i1, i2, F1, hb⟩ := T.i
  refine ps_imp (ps_raise hc tk (pmk_oex T.o i1 i2 F1 (hr.mono hk) hb (.nil) pass0 hg T.g ha hdb hs hpl)) fun D σ H q => ?_
  obtain ⟨g, Γ, S, rel, rg, ok⟩ := q
  refine ⟨g, Γ, S, rel, rg, OKw.mono (OKs.st rel rg ok) fun vs S1 g1 H1 _ e1 h1 xs rx => ?_⟩
  split at h1
  · rename_i v w
    simp only [RVs] at rx
    obtain ⟨x1, _, rfl, h2, x2, _, rfl, h3, rfl⟩ := rx
    refine ⟨by simp, fun a ha => ⟨a, x1, x2, rfl, upd_same, fun d hd hda => ⟨rfl, d, [(h, x2), (f, x1)], ?_, upd_same, ?_, ?_⟩⟩⟩
    · rw [upd_ne (fun z => hda z.symm), upd_same]
    · rw [upd_ne hda] at hd; exact hd
    · have hd1 : H1 d = none := by rw [upd_ne hda] at hd; exact hd
      have eH : upd (del (upd (upd (upd (upd H1 a (exo a C none)) d (exd d [(f, x1)])) a (exo a C (some d))) d (exd d [(h, x2), (f, x1)])) a) d (.xd [(h, x2), (f, x1)]) = upd H1 d (.xd [(h, x2), (f, x1)]) := by
        funext b
        by_cases hb : b = d
        · subst hb; rw [upd_same, upd_same]
        · rw [upd_ne hb, upd_ne hb]
          by_cases hba : b = a
          · subst hba; rw [del_same, ha]
          · rw [del_ne hba, upd_ne hb, upd_ne hba, upd_ne hb, upd_ne hba]
      rw [eH]
      have e2 : Ext X H1 g1 S1 (upd H1 d (.xd [(h, x2), (f, x1)])) g1 S1 := Ext.laid e1.rel hd1
      refine h1 g1 _ σ (.ref C) (some d) e2 ((rg.up rel e1).up e1.rel e2) ⟨T.g, Or.inr ⟨d, [x2, x1], rfl, upd_same, ?_⟩⟩
      simp only [List.map_cons, List.map_nil, RVs]
      exact ⟨x2, [x1], rfl, RV.up e1.rel e2 _ _ h3, x1, [], rfl, RV.up e1.rel e2 _ _ h2, rfl⟩
  · exact h1.elim
/-- the def __init__ that keeps its two arguments -/
theorem ini2_ok {P : Program} {w : World} {base : Heap} {qual : Str} {st : Stmt} {dvs : List V} {kws : List (Str × V)} {fI : Addr} {fd : FuncData} {f h : Str} {C : Addr} {p1 p2 p3 p4 q1 q2 q3 q4 : Pos}
    (F : FunD K "__init__" qual (defArgs st) (defBody st) (defScope st) dvs kws fI fd) (S : FnScope ["self", f, h] ["self", f, h] (defScope st)) (hb : defBody st = [.Assign [.Attribute (.Name "self" p1) f p2] (.Name f p3) p4, .Assign [.Attribute (.Name "self" q1) h q2] (.Name h q3) q4])
    (l1 : slC ["self", f, h] (defScope st) 0 "self" = true) (l2 : slC ["self", f, h] (defScope st) 1 f = true) (l3 : slC ["self", f, h] (defScope st) 2 h = true) (o : OexC K C) (no : PySem.W.findIn K (.ref C) f = some none) (no2 : PySem.W.findIn K (.ref C) h = some none) :
    FnOk P w K mg base CX0 1 fI fd ["self", f, h] (spIni2 C f h) := by
  refine F.ok S (fun vs H Q E ⟨a, x, y, e, _⟩ => by rw [e]; rfl) (fun cdv A outer s H vs Q E hr ⟨a, x, y, e, h1, h2⟩ => ?_)
  subst e
  refine ⟨tSeq (tOst K f (tVar 0) (tVar 1)) (tOst K h (tVar 0) (tVar 2)), ?_, ?_⟩
  · rw [hb]
    obtain ⟨a1, a2, a3, a4⟩ := slC_ok l1
    obtain ⟨b1, b2, b3, b4⟩ := slC_ok l2
    obtain ⟨c1, c2, c3, c4⟩ := slC_ok l3
    exact pss_cons (ps_ost (pe_var (i := 0) a1 a2 a3 a4) (pe_var (i := 1) b1 b2 b3 b4)) (pss_one (ps_ost (pe_var (i := 0) a1 a2 a3 a4) (pe_var (i := 2) c1 c2 c3 c4)))
  · refine ⟨_, rfl, _, rfl, a, C, rfl, o, no, Or.inl ⟨h1, fun dx k1 k2 => ?_⟩⟩
    refine ⟨_, rfl, _, rfl, a, C, rfl, o, no2, Or.inr ⟨dx, [(f, x)], ?_, ?_, by simp, h2 dx k1 k2⟩⟩
    · rw [upd_same]
    · rw [upd_ne k2, upd_same]
theorem OexF.ok2 {P : Program} {w : World} {base : Heap} {x f h qual : Str} (T : OexF K mg x f) (T2 : OexF K mg x h) {st : Stmt} {dvs : List V} {kws : List (Str × V)} {fd : FuncData} {p1 p2 p3 p4 q1 q2 q3 q4 : Pos}
    (F : FunD K "__init__" qual (defArgs st) (defBody st) (defScope st) dvs kws (He.ma K (He.ga K x) "__init__") fd) (bn : Binds K fd ["self", f, h] []) (S : FnScope ["self", f, h] ["self", f, h] (defScope st)) (hb : defBody st = [.Assign [.Attribute (.Name "self" p1) f p2] (.Name f p3) p4, .Assign [.Attribute (.Name "self" q1) h q2] (.Name h q3) q4])
    (l1 : slC ["self", f, h] (defScope st) 0 "self" = true) (l2 : slC ["self", f, h] (defScope st) 1 f = true) (l3 : slC ["self", f, h] (defScope st) 2 h = true) : ExcI2 P w K mg base x f h (He.ga K x) :=
  ⟨T.g, T.o, _, fd, ["self", f, h], T.i, T.t, ini2_ok F S hb l1 l2 l3 T.o T.no T2.no, bn⟩
end Pv
/-! Xh: a def that is handed the error of an except suite. -/
namespace Pv
open PySem PySem.Spec PyProof.Rows L2
section
variable {X : Cx} {a : Addr} {oe : Obj} {pn : List (Addr × Obj)} {i : Nat} {N : List Str} {st : Stmt} {x n0 : Str} {f : Addr} {fd : FuncData} {dvs : List V} {kws : List (Str × V)} {tb : TS} {q p2 pos : Pos} {e : Expr}
/-- the callee runs: nothing is asked of the error but that it stands, pinned -/
theorem err_runs (F : FunD X.K x x (defArgs st) (defBody st) (defScope st) dvs kws f fd) (S : FnScope N [n0] (defScope st)) (b : Binds X.K fd [n0] []) (room : (X.suite a pn).A.depth < recursionLimit) {pins : List (Addr × Obj)} {σ : L2.St} {H : Hp} {s : Shared} {Q : VK} (hd : ∃ vs, oe.data = .fields vs)
    (hb : ∀ (Y : Cx) (pn : List (Addr × Obj)), Y.prog = X.prog → Y.w = X.w → Y.K = X.K → Y.mg = X.mg → Y.base = X.base → Y.N = N → Y.env.scope = defScope st → (∀ y, Y.fn y = true) → PSs (Y.suite a ((a, oe) :: pn)) (defBody st) tb)
    (I : Inv (X.suite a ((a, oe) :: pn)) pins σ H s) (hq : tb { nx := fun _ _ => False, rt := Q } (L2.start N [.ref a]) H) :
    wpAny (model X.prog X.w) (X.suite a pn).A (call (.ref f) [.ref a]) (EP (X.suite a ((a, oe) :: pn)) pins σ Q) (fun _ _ => False) s := by
  obtain ⟨oc, od, dV, kV, doc, pm, an, cdv, ct, osl, rfl, lk, hcd, _, _⟩ := F.ex
  obtain ⟨dvs0, hd⟩ := hd
  have e0 := I.env0
  obtain ⟨g1, g2, g3, g4, g5⟩ := I.pin (a, oe) (List.mem_append_left _ List.mem_cons_self)
  have hpin : L2H.PinOk (X.suite a ((a, oe) :: pn)).stack H s (a, oe) := ⟨g1, g2, fun hm => (List.mem_cons.mp (I.stkSub a hm)).elim g3 g4, g5⟩
  have nolim : s.heap.NoLimit := I.nolimit
  have bound := b s [.ref a] I.kIn (by rfl)
  rw [List.append_nil] at bound
  refine wpAny_call (codeAny_mono (R := fun r s' => ∃ u, r = .ok (.ret u) ∧ CE (X.suite a ((a, oe) :: pn)).stack X.prog X.w H s Q u s') ?_ ?_)
  · refine codeAny_call_function room (I.kIn _ _ lk) rfl S.co S.gen rfl (PySem.W.codeRec_of I.kIn hcd) (bound _ _ _ _ ?_)
    refine wpAny_newFunctionEnv_cells S.kind (fun y hy => ?_) fun env he s1 z => ?_
    · have : y.1 ∈ [n0] := (List.of_mem_zip (show (y.1, y.2) ∈ [n0].zip [Value.ref a] from hy)).1
      exact (S.par y.1 this).imp id fun c => ⟨c, PySem.W.cellsFrom_some _ _ _ (.inl c)⟩
    · subst he
      refine ⟨nolim.keeps z.toInCall.keep, codeAny_func ?_⟩
      have J : Inv (L2H.cxH (L2.CX X.prog X.w) X.prog X.w X.K X.mg X.base N x (defScope st) f cdv (X.suite a ((a, oe) :: pn)).A (X.suite a ((a, oe) :: pn)).stack s H (fun _ _ _ => False) (a, oe)) [] (L2.start N [.ref a]) H s1 := L2H.inv_startH (us := [.ref a]) S hpin e0 rfl (.cons rfl .nil) z
      generalize hY : L2H.cxH (L2.CX X.prog X.w) X.prog X.w X.K X.mg X.base N x (defScope st) f cdv (X.suite a ((a, oe) :: pn)).A (X.suite a ((a, oe) :: pn)).stack s H (fun _ _ _ => False) (a, oe) = Y at J
      obtain ⟨k1, k2, k3, k4, k5⟩ := J.pin (a, oe) (List.mem_append_left _ (by rw [← hY]; exact List.mem_cons_self))
      have J2 := J.suite k1 hd k2 k3 k4
      have run := (hb Y (Y.pn ++ []) (by rw [← hY]; rfl) (by rw [← hY]; rfl) (by rw [← hY]; rfl) (by rw [← hY]; rfl) (by rw [← hY]; rfl) (by rw [← hY]; rfl) (by rw [← hY]; rfl) (fun y => by rw [← hY]; rfl)).run [] s1 _ H _ J2 hq
      subst hY
      refine wpAny_mono run (fun fl s' hs => ?_) fun _ _ z => False.elim z
      cases fl with
      | ret u =>
        obtain ⟨v, σ', H', K, rv, qv⟩ := hs
        exact ⟨u, rfl, v, H', K.os, K.bare, K.base, K.hok, rv, qv⟩
      | next => obtain ⟨_, _, _, z⟩ := hs; exact False.elim z
      | brk => obtain ⟨_, _, _, z⟩ := hs; exact False.elim z
      | cont => obtain ⟨_, _, _, z⟩ := hs; exact False.elim z
  · rintro r s' ⟨u, rfl, c⟩
    exact I.after c
end
end Pv
/-! Xh2: the body of a def that is handed an error: lists of isinstance. -/
namespace Pv
open PySem PySem.Spec PyProof.Rows L2
/-- a value by the error's class, its fields and the slots -/
abbrev KF := Str → List (Str × PV) → Gam → Option PV
section
variable {X : Cx} {e e' : Expr} {f f' k : KF} {pos p p2 : Pos} {i : Nat} {x y : Str}
def liftKF (X : Cx) (a : Addr) (cls : Value) (d : Option Addr) (f : KF) : TE := fun σ H Q => ∃ g Γ S c fs v, Rel X H g S ∧ RG X H g S.length Γ σ ∧ σ[0]? = some (some (.ref a)) ∧ RX X H g S.length c fs cls d ∧ f c fs Γ = some v ∧ ∀ g' H' z, Ext X H g S H' g' S → RV X H' g' S.length v z → Q z H'
def liftKS (X : Cx) (a : Addr) (cls : Value) (d : Option Addr) (k : KF) : TS := fun D σ H => ∃ g Γ S c fs v, Rel X H g S ∧ RG X H g S.length Γ σ ∧ σ[0]? = some (some (.ref a)) ∧ RX X H g S.length c fs cls d ∧ k c fs Γ = some v ∧ ∀ g' H' z, Ext X H g S H' g' S → RV X H' g' S.length v z → D.rt z H'
def EE (X : Cx) (e : Expr) (f : KF) : Prop := ∀ (a : Addr) (oe : Obj) (cls : Value) (d : Option Addr) (pn : List (Addr × Obj)), Zc cls d oe → (∃ vs, oe.data = .fields vs) → PE (X.suite a ((a, oe) :: pn)) e (liftKF X a cls d f)
def ESs (X : Cx) (st : List Stmt) (k : KF) : Prop := ∀ (a : Addr) (oe : Obj) (cls : Value) (d : Option Addr) (pn : List (Addr × Obj)), Zc cls d oe → (∃ vs, oe.data = .fields vs) → PSs (X.suite a ((a, oe) :: pn)) st (liftKS X a cls d k)
def kV (f : VF) : KF := fun c fs _ => f c fs
def kN (i : Nat) : KF := fun _ _ Γ => Γ[i]?.join
def catL : PV → PV → Option PV
  | .con .own .lst xs, .con .own .lst ys => if xs.length + ys.length ≤ sizeLine then some (.con .own .lst (xs ++ ys)) else none
  | _, _ => none
def kAdd (f f' : KF) : KF := fun c fs Γ => (f c fs Γ).bind fun p => (f' c fs Γ).bind fun q => catL p q
def kSet (i : Nat) (f k : KF) : KF := fun c fs Γ => if i = 0 then none else (f c fs Γ).bind fun p => k c fs (Γ.set i (some p))
theorem EE.of {f : VF} (h : VE X 0 e f) : EE X e (kV f) := fun a oe cls d pn hz hf => pe_imp (h a oe cls d pn hz hf) fun σ H Q ⟨g, Γ, S, c, fs, v, rel, rg, hi, rx, ev, q⟩ => ⟨g, Γ, S, c, fs, v, rel, rg, hi, rx, ev, q⟩
theorem EE.var (h : ∀ (a : Addr) (pn : List (Addr × Obj)), PE (X.suite a pn) e (tVar i)) : EE X e (kN i) := fun a oe cls d pn hz hf => pe_imp (h a _) fun σ H Q ⟨g, Γ, S, c, fs, v, rel, rg, hi, rx, ev, q⟩ => by
  have ev : Γ[i]?.join = some v := ev
  have ej : Γ[i]? = some (some v) := by
    cases w : Γ[i]? with
    | none => rw [w] at ev; cases ev
    | some o => rw [w] at ev; exact congrArg some ev
  obtain ⟨z, h1, h2⟩ := rg.at_ i v ej
  exact ⟨z, h1, q g H z (Ext.refl rel) h2⟩
theorem catL_ok {p q w : PV} {S : Sto} (h : catL p q = some w) : addF false p q S = some (w, S) := by
  unfold catL at h
  split at h
  · split at h
    · rename_i xs ys hz
      cases h
      have : sizeLine = 16777216 := sizeLine_eq
      have h1 : (Md.own : Md) ≠ .out := by decide
      show (if _ then some (newP false .lst (xs ++ ys) S) else none) = _
      rw [if_pos hz]
      rfl
    · cases h
  · cases h
theorem EE.add (ha : EE X e f) (hb : EE X e' f') : EE X (.BinOp e .Add e' pos) (kAdd f f') := fun a oe cls d pn hz hf =>
  pe_imp (pe_op or_add (ha a oe cls d pn hz hf) (hb a oe cls d pn hz hf)) fun σ H Q ⟨g, Γ, S, c, fs, v, rel, rg, hi, rx, ev, q⟩ => by
    obtain ⟨p1, e1, ev⟩ := Option.bind_eq_some_iff.mp ev
    obtain ⟨q1, e2, ev⟩ := Option.bind_eq_some_iff.mp ev
    refine ⟨g, Γ, S, c, fs, p1, rel, rg, hi, rx, e1, fun g1 H1 z1 x1 r1 => ?_⟩
    refine ⟨g1, Γ, S, c, fs, q1, x1.rel, rg.up rel x1, hi, RX.up rel x1 rx, e2, fun g2 H2 z2 x2 r2 => ?_⟩
    exact opf_add (m := false) H2 g2 S p1 q1 z1 z2 v S Q x2.rel (RV.up x1.rel x2 _ _ r1) r2 (catL_ok ev) fun g3 H3 z x3 r3 => q g3 H3 z ((x1.trans x2).trans x3) r3
theorem ESs.ret (h : EE X e f) : ESs X [.Return (some e) pos] f := fun a oe cls d pn hz hf => by
  refine ⟨fun pins s σ H D I ⟨g, Γ, S, c, fs, v, rel, rg, hi, rx, ev, q⟩ => ?_⟩
  exact (pss_one (ps_ret (h a oe cls d pn hz hf))).run pins s σ H D I ⟨g, Γ, S, c, fs, v, rel, rg, hi, rx, ev, q⟩
theorem ESs.set {rest : List Stmt} (nd : X.N.Nodup) (h1 : X.N[i]? = some x) (h2 : Loc X.env.scope x) (hn : ∀ y, X.fn y = true) (h : EE X e f) (r : ESs X rest k) (hs : swapsWith e (some (.Name x p)) pos.line X.env = pure false := by rfl) : ESs X (.Assign [.Name x p] e pos :: rest) (kSet i f k) := fun a oe cls d pn hz hf => by
  refine ⟨fun pins s σ H D I ⟨g, Γ, S, c, fs, v, rel, rg, hi, rx, ev, q⟩ => ?_⟩
  refine (pss_cons (ps_set (X := X.suite a ((a, oe) :: pn)) nd h1 h2 (h a oe cls d pn hz hf) hs (.inl (hn x))) (r a oe cls d pn hz hf)).run pins s σ H D I ?_
  unfold kSet at ev
  by_cases z : i = 0
  · rw [if_pos z] at ev
    cases ev
  · rw [if_neg z] at ev
    obtain ⟨p1, e1, ev⟩ := Option.bind_eq_some_iff.mp ev
    refine ⟨g, Γ, S, c, fs, p1, rel, rg, hi, rx, e1, fun g1 H1 z1 x1 r1 => ?_⟩
    refine ⟨g1, Γ.set i (some p1), S, c, fs, v, x1.rel, (rg.up rel x1).set r1, ?_, RX.up rel x1 rx, ev, fun g2 H2 z2 x2 r2 => q g2 H2 z2 (x1.trans x2) r2⟩
    rw [List.getElem?_set_ne z]
    exact hi
end
/-! isinstance(e, a built-in class) -/
structure XisY (K : PySem.W.Frag) (mg : Str → Option Value) (n : String) (tbl : List (Str × Bool)) : Prop where
  h : ∀ c b cls, tbl.lookup c = some b → mg c = some cls → ∃ D, cls = .ref D ∧ XisC K D ∧ PySem.W.kitOne K (.ref D) (.type n) = some b
section
variable {X : Cx} {i : Nat}
theorem VE.isY {y : Str} {n : String} {tbl : List (Str × Bool)} {e : Expr} {p p2 pos : Pos} (T : XisY X.K X.mg n tbl) (hg : Gl X "isinstance") (hm : X.mg "isinstance" = none) (hgy : Gl X y) (hmy : X.mg y = none) (hvy : bootBuiltins y = some (.type n)) (he : ∀ (a : Addr) (pn : List (Addr × Obj)), PE (X.suite a pn) e (tVar i)) (hny : y ≠ "__name__" := by decide) (hdy : (y == ("__debug__" : Str)) = false := by decide)
    (h1 : starEach (e :: [.Name y p2]) X.env = (false, eval e X.env) :: starEach [.Name y p2] X.env := by rfl) (h2 : starEach [.Name y p2] X.env = (false, eval (.Name y p2) X.env) :: starEach [] X.env := by rfl)
    (hpl : (backTo pos (starEach [.Name y p2] X.env)).any (·.1) = false := by rfl) :
    VE X i (.Call (.Name "isinstance" p) [e, .Name y p2] [] pos) (vIs tbl) := by
  intro a oe cls d pn hz hf
  refine ⟨fun pins s σ H Q I ⟨g, Γ, S, c, fs, v, rel, rg, hi, rx, ev, k⟩ => ?_⟩
  simp only [vIs, Option.map_eq_some_iff] at ev
  obtain ⟨b, e1, rfl⟩ := ev
  obtain ⟨D, rfl, C, z3⟩ := T.h c b cls e1 rx.1
  refine (pe_callB (X := X.suite a ((a, oe) :: pn)) (p := p) (pos := pos) (x := "isinstance") (call_isX C hz hf) hg hm (by decide +kernel) (pa_cons (he a _) (pa_cons (pe_bltn (v := .ty n) hgy hmy hvy rfl hny hdy) pa_nil h2) h1) (by decide) (by decide) h1 hpl).run pins s σ H Q I ?_
  exact ⟨_, hi, .ty n, .type n, b, rfl, fun u r => r, rx.dict, z3, k g H _ (Ext.refl rel) RV.bl⟩
end
/-! the call -/
/-- a def that may be handed the error of an except suite -/
structure KCal (P : Program) (w : World) (K : PySem.W.Frag) (mg : Str → Option Value) (base : Heap) (x : Str) (n : Nat) (r : KF) : Prop where
  ex : ∃ (f : Addr) (fd : FuncData) (st : Stmt) (N : List Str) (n0 : Str), FunD K x x (defArgs st) (defBody st) (defScope st) [] [] f fd ∧ mg x = some (.ref f) ∧ Binds K fd [n0] [] ∧ FnScope N [n0] (defScope st) ∧ N.length = n ∧
    ∀ Y : Cx, Y.prog = P → Y.w = w → Y.K = K → Y.mg = mg → Y.base = base → Y.N = N → Y.env.scope = defScope st → (∀ y, Y.fn y = true) → ESs Y (defBody st) r
def vCall (n : Nat) (r : KF) : VF := fun c fs => if 0 < n then r c fs (List.replicate n none) else none
theorem VE.call {X : Cx} {i n k : Nat} {x z : Str} {r : KF} {p p2 pos : Pos} (C : KCal X.prog X.w X.K X.mg X.base x n r) (room : Room k X.A) (hg : Gl X x) (he : ∀ (a : Addr) (pn : List (Addr × Obj)), PE (X.suite a pn) (.Name z p2) (tVar i)) (hdb : (x == ("__debug__" : Str)) = false := by decide)
    (h1 : starEach [.Name z p2] X.env = (false, eval (.Name z p2) X.env) :: starEach [] X.env := by rfl) (hpl : (backTo pos (starEach [] X.env)).any (·.1) = false := by rfl) : VE X i (.Call (.Name x p) [.Name z p2] [] pos) (vCall n r) := by
  obtain ⟨f, fd, st, N, n0, F, hm, b, S, hn, hY⟩ := C.ex
  intro a oe cls d pn hz hf
  refine ⟨fun pins s σ H Q I ⟨g, Γ, S0, c, fs, v, rel, rg, hi, rx, ev, k0⟩ => ?_⟩
  have args := pa_cons (he a ((a, oe) :: pn)) pa_nil h1
  refine wpAny_Call_Name_kw (ld_glob I hg hm ?_ hdb)
  refine PySem.W.callWith_K (h₀ := X.base) I.ok.mod.kin F.kp (thn (args.run pos pins s σ H (fun vs H1 => vs = [.ref a] ∧ H1 = H) I ⟨_, hi, rfl, rfl⟩) fun us s1 ⟨vs, H1, I1, r1, e1, e2⟩ => ⟨I1.kIn, ?_⟩) h1 hpl
  subst e1 e2
  have eu : us = [.ref a] := by
    cases r1 with
    | cons rx rr =>
      cases rr
      cases rx
      rfl
  subst eu
  refine err_runs (tb := liftKS X a cls d r) F S b room.depth hf (fun Y pn' y1 y2 y3 y4 y5 y6 y7 y8 => ?_) I1 ?_
  · have := hY Y y1 y2 y3 y4 y5 y6 y7 y8 a oe cls d pn' hz hf
    have ek : kx Y = kx X := by unfold kx; rw [y3, y4]
    have et : liftKS Y a cls d r = liftKS X a cls d r := by unfold liftKS; rw [ek]
    rwa [et] at this
  · unfold vCall at ev
    split at ev
    · rename_i hp
      refine ⟨g, List.replicate n none, S0, c, fs, v, rel, ⟨?_, fun j q e => ?_⟩, ?_, rx, ev, k0⟩
      · unfold L2.start
        simp only [List.length_replicate, List.length_append, List.length_map, List.length_singleton, hn]
        omega
      · rw [List.getElem?_replicate] at e
        split at e <;> cases e
      · rfl
    · cases ev
end Pv
/-! Xh3: what is known within the body of a def that is handed an error. -/
namespace Pv
open PySem PySem.Spec PyProof.Rows L2
structure EB (X : Cx) (N : List Str) (sc : Scope) : Prop where
  hN : X.N = N
  sc : X.env.scope = sc
  fn : ∀ x, X.fn x = true
section
variable {X : Cx} {N : List Str} {sc : Scope}
theorem EB.gl (b : EB X N sc) (x : Str) (h : sc.names.lookup x = some .globalImplicit) : Gl X x := gl_of b.sc x h
theorem EB.suVar (b : EB X N sc) (i : Nat) (x : Str) {pos : Pos} (h : slC N sc i x = true) : ∀ (a : Addr) (pn : List (Addr × Obj)), PE (X.suite a pn) (.Name x pos) (tVar i) := by
  have b1 := b.hN
  have b2 := b.sc
  subst b1 b2
  obtain ⟨h1, h2, h3, h4⟩ := slC_ok h
  exact fun a pn => pe_var (X := X.suite a pn) h1 h2 h3 h4
theorem EB.isX (b : EB X N sc) {i : Nat} {y n : Str} {tbl : List (Str × Bool)} {p1 p2 p3 pos : Pos} (T : XisT X.K X.mg y tbl) (hg : Gl X "isinstance") (hm : X.mg "isinstance" = none) (hgy : Gl X y) (h : slC N sc i n = true) (hdy : (y == ("__debug__" : Str)) = false := by decide) :
    VE X i (.Call (.Name "isinstance" p1) [.Name n p2, .Name y p3] [] pos) (vIs tbl) := VE.isX T hg hm hgy (b.suVar i n h) hdy
theorem EB.isY (b : EB X N sc) {i : Nat} {y n : Str} {t : String} {tbl : List (Str × Bool)} {p1 p2 p3 pos : Pos} (T : XisY X.K X.mg t tbl) (hg : Gl X "isinstance") (hm : X.mg "isinstance" = none) (hgy : Gl X y) (hmy : X.mg y = none) (hvy : bootBuiltins y = some (.type t)) (h : slC N sc i n = true) (hny : y ≠ "__name__" := by decide) (hdy : (y == ("__debug__" : Str)) = false := by decide) :
    VE X i (.Call (.Name "isinstance" p1) [.Name n p2, .Name y p3] [] pos) (vIs tbl) := VE.isY T hg hm hgy hmy hvy (b.suVar i n h) hny hdy
theorem EB.set (b : EB X N sc) (nd : N.Nodup) (i : Nat) (x : Str) {e : Expr} {f k : KF} {pos p : Pos} {rest : List Stmt} (h : slT N sc i x = true) (he : EE X e f) (r : ESs X rest k) (hs : swapsWith e (some (.Name x p)) pos.line X.env = pure false := by rfl) : ESs X (.Assign [.Name x p] e pos :: rest) (kSet i f k) := by
  have b1 := b.hN
  have b2 := b.sc
  subst b1 b2
  obtain ⟨h1, h2⟩ := slT_ok h
  exact ESs.set nd h1 h2 b.fn he r hs
end
end Pv
namespace Pv
open PySem PySem.Spec PyProof.Rows L2
/-! each error class looked at once -/
structure XisA (K : PySem.W.Frag) (mg : Str → Option Value) (cs : List Str) : Prop where
  h : ∀ c ∈ cs, mg c = some (.ref (He.ga K c)) ∧ XisC K (He.ga K c)
theorem xisaB_ok {K : PySem.W.Frag} {h : Heap} {mg : Str → Option Value} {cs : List Str} (Y : K.In h) (G : h.Ns mainGlobals mg) (c : xisaB K cs = true) : XisA K mg cs := by
  refine ⟨fun x hx => ?_⟩
  obtain ⟨z1, z2⟩ := He.ba (List.all_eq_true.mp c x hx)
  exact ⟨He.glo_ok Y G z1, xisB_ok z2⟩
theorem XisA.xis {K : PySem.W.Frag} {h : Heap} {mg : Str → Option Value} {cs : List Str} {y : Str} {tbl : List (Str × Bool)} (A : XisA K mg cs) (Y : K.In h) (G : h.Ns mainGlobals mg) (hs : tbl.all (fun p => decide (p.1 ∈ cs)) = true) (c : xkB K y tbl = true) : XisT K mg y tbl := by
  obtain ⟨c1, c2⟩ := He.ba c
  refine ⟨He.glo_ok Y G c1, fun x b cls e m => ?_⟩
  obtain ⟨g, xc⟩ := A.h x (of_decide_eq_true (List.all_eq_true.mp hs _ (mem_lookup e)))
  rw [g] at m
  cases m
  exact ⟨_, rfl, xc, of_decide_eq_true (List.all_eq_true.mp c2 _ (mem_lookup e))⟩
theorem XisA.xiy {K : PySem.W.Frag} {mg : Str → Option Value} {cs : List Str} {n : String} {tbl : List (Str × Bool)} (A : XisA K mg cs) (hs : tbl.all (fun p => decide (p.1 ∈ cs)) = true) (c : xkyB K n tbl = true) : XisY K mg n tbl := by
  refine ⟨fun x b cls e m => ?_⟩
  obtain ⟨g, xc⟩ := A.h x (of_decide_eq_true (List.all_eq_true.mp hs _ (mem_lookup e)))
  rw [g] at m
  cases m
  exact ⟨_, rfl, xc, of_decide_eq_true (List.all_eq_true.mp c _ (mem_lookup e))⟩
end Pv
namespace Pv
open PySem PySem.Spec PyProof.Rows L2
/-! an expression that is not reached -/
def eBad : EF := fun _ _ => .bad
theorem E.bad {X : Cx} {W : WX} {e : Expr} : E X W e eBad := ⟨fun _ _ _ _ _ _ ⟨_, _, _, _, _, ok⟩ => ok.elim⟩
end Pv
namespace Law
open PySem PySem.Spec PyProof.Rows L2 Pv
def body_in_range : SF := sRet (eAnd (eCall isiF (aCons (eV 0) (aCons (eC (.ty "int")) aNil))) (eAnd (eNot (eCall isiF (aCons (eV 0) (aCons (eC (.ty "bool")) aNil)))) (eChain leF leF (eV 1) (eV 0) (eV 2))))
def f_in_range : List PV → RP := runP 3 3 body_in_range
def l0_is_word : SF := sIf (bE (eOp ninF (eV 1) (eC (.str c_LETTERS)))) (sRet (eC (.bl false))) (sNext)
def r1_is_word : SF := sRet (eC (.bl true))
def r2_is_word : SF := sSeq (sFor (iAny (eV 0)) (gN 1) (l0_is_word)) (r1_is_word)
def body_is_word : SF := sSeq (sIf (bOr (bNot (bT (eCall isiF (aCons (eV 0) (aCons (eC (.ty "str")) aNil))))) (bNot (bE (eChain leF leF (eC (.int 1)) (eCall lenF (aCons (eV 0) aNil)) (eC (.int 8)))))) (sRet (eC (.bl false))) (sNext)) (r2_is_word)
def f_is_word : List PV → RP := runP 1 2 body_is_word
def r0_fits_form : SF := sRet (eAnd (eOp inF (eOp ixF (eV 0) (eC (.int 0))) (eC (.con .out .tup (c_JUMPS.map PV.str)))) (eAnd (eCall isiF (aCons (eOp ixF (eV 0) (eC (.int 1))) (aCons (eC (.ty "int")) aNil))) (eAnd (eNot (eCall isiF (aCons (eOp ixF (eV 0) (eC (.int 1))) (aCons (eC (.ty "bool")) aNil)))) (eOp geF (eOp ixF (eV 0) (eC (.int 1))) (eC (.int 0))))))
def r1_fits_form : SF := sSeq (sIf (bE (eOp inF (eOp ixF (eV 0) (eC (.int 0))) (eC (.con .out .tup (c_NAMED.map PV.str))))) (sRet (eCallP f_is_word (aCons (eOp ixF (eV 0) (eC (.int 1))) aNil))) (sNext)) (r0_fits_form)
def r2_fits_form : SF := sSeq (sIf (bE (eOp eqF (eOp ixF (eV 0) (eC (.int 0))) (eC (.str "const")))) (sRet (eCallP f_in_range (aCons (eOp ixF (eV 0) (eC (.int 1))) (aCons (eNeg (eC (.int c_GREATEST))) (aCons (eC (.int c_GREATEST)) aNil))))) (sNext)) (r1_fits_form)
def r3_fits_form : SF := sSeq (sIf (bE (eOp eqF (eCall lenF (aCons (eV 0) aNil)) (eC (.int 1)))) (sRet (eOp inF (eOp ixF (eV 0) (eC (.int 0))) (eC (.con .out .tup (c_PLAIN.map PV.str))))) (sNext)) (r2_fits_form)
def body_fits_form : SF := sSeq (sIf (bOr (bNot (bT (eCall isiF (aCons (eV 0) (aCons (eC (.ty "tuple")) aNil))))) (bOr (bNot (bE (eChain leF leF (eC (.int 1)) (eCall lenF (aCons (eV 0) aNil)) (eC (.int 2))))) (bNot (bT (eCall isiF (aCons (eOp ixF (eV 0) (eC (.int 0))) (aCons (eC (.ty "str")) aNil))))))) (sRet (eC (.bl false))) (sNext)) (r3_fits_form)
def f_fits_form : List PV → RP := runP 1 1 body_fits_form
def r0_is_handler : SF := sRet (eAnd (eCallP f_in_range (aCons (eV 4) (aCons (eC (.int 0)) (aCons (eOp subF (eV 1) (eC (.int 1))) aNil)))) (eAnd (eCallP f_in_range (aCons (eV 5) (aCons (eC (.int 0)) (aCons (eC (.int c_MOST)) aNil)))) (eOr (eU (fun p => .bl (isNP p)) (eV 6)) (eCallP f_is_word (aCons (eV 6) aNil)))))
def r1_is_handler : SF := sSeq (sAsg (eV 0) (gU [2, 3, 4, 5, 6])) (sSeq (sIf (bOr (bNot (bT (eCallP f_in_range (aCons (eV 2) (aCons (eC (.int 0)) (aCons (eOp subF (eV 1) (eC (.int 1))) aNil)))))) (bOr (bNot (bT (eCallP f_in_range (aCons (eV 3) (aCons (eC (.int 1)) (aCons (eV 1) aNil)))))) (bE (eOp geF (eV 2) (eV 3))))) (sRet (eC (.bl false))) (sNext)) (r0_is_handler))
def body_is_handler : SF := sSeq (sIf (bOr (bNot (bT (eCall isiF (aCons (eV 0) (aCons (eC (.ty "tuple")) aNil))))) (bE (eOp neF (eCall lenF (aCons (eV 0) aNil)) (eC (.int 5))))) (sRet (eC (.bl false))) (sNext)) (r1_is_handler)
def f_is_handler : List PV → RP := runP 2 7 body_is_handler
def r0_raised_kind : SF := sRet (eC .non)
def r1_raised_kind : SF := sSeq (sIf (bE (eOp eqF (eOp ixF (eV 0) (eC (.int 0))) (eC (.str "fail")))) (sRet (eOp ixF (eV 0) (eC (.int 1)))) (sNext)) (r0_raised_kind)
def r2_raised_kind : SF := sSeq (sIf (bE (eOp eqF (eOp ixF (eV 0) (eC (.int 0))) (eC (.str "div")))) (sRet (eC (.str "zero"))) (sNext)) (r1_raised_kind)
def body_raised_kind : SF := sSeq (sIf (bE (eOp eqF (eOp ixF (eV 0) (eC (.int 0))) (eC (.str "load")))) (sRet (eC (.str "unbound"))) (sNext)) (r2_raised_kind)
def f_raised_kind : List PV → RP := runP 1 1 body_raised_kind
def l0_receiver : SF := sIf (bAnd (bE (eChain leF ltF (eOp ixF (eV 3) (eC (.int 0))) (eV 1) (eOp ixF (eV 3) (eC (.int 1))))) (bOr (bE (eU (fun p => .bl (isNP p)) (eOp ixF (eV 3) (eC (.int 4))))) (bE (eOp eqF (eOp ixF (eV 3) (eC (.int 4))) (eV 2))))) (sRet (eV 3)) (sNext)
def r1_receiver : SF := sRet (eC .non)
def body_receiver : SF := sSeq (sFor (iAny (eV 0)) (gN 3) (l0_receiver)) (r1_receiver)
def f_receiver : List PV → RP := runP 3 4 body_receiver
def i0_moves : SF := sSeq (sSet 6 (eCallP f_receiver (aCons (eV 1) (aCons (eV 2) (aCons (eV 5) aNil))))) (sIf (bE (eU (fun p => .bl (!isNP p)) (eV 6))) (sExpr (eM "list" appendF (eV 3) (aCons (eTup (aCons (eOp ixF (eV 6) (eC (.int 2))) (aCons (eV 6) aNil))) aNil))) (sNext))
def r1_moves : SF := sRet (eV 3)
def r2_moves : SF := sSeq (sSet 5 (eCallP f_raised_kind (aCons (eOp ixF (eV 0) (eV 2)) aNil))) (sSeq (sIf (bE (eU (fun p => .bl (!isNP p)) (eV 5))) (i0_moves) (sNext)) (r1_moves))
def r3_moves : SF := sSeq (sIf (bE (eOp inF (eV 4) (eC (.con .out .tup (c_JUMPS.map PV.str))))) (sExpr (eM "list" appendF (eV 3) (aCons (eTup (aCons (eOp ixF (eOp ixF (eV 0) (eV 2)) (eC (.int 1))) (aCons (eC .non) aNil))) aNil))) (sNext)) (r2_moves)
def body_moves : SF := sSeq (sSet 3 (eLst true aNil)) (sSeq (sSet 4 (eOp ixF (eOp ixF (eV 0) (eV 2)) (eC (.int 0)))) (sSeq (sIf (bAnd (bE (eOp ninF (eV 4) (eC (.con .out .tup (c_LAST.map PV.str))))) (bE (eOp ltF (eOp (addF false) (eV 2) (eC (.int 1))) (eCall lenF (aCons (eV 0) aNil))))) (sExpr (eM "list" appendF (eV 3) (aCons (eTup (aCons (eOp (addF false) (eV 2) (eC (.int 1))) (aCons (eC .non) aNil))) aNil))) (sNext)) (r3_moves)))
def f_moves : List PV → RP := runP 3 7 body_moves
def l0_check_parts : SF := sIf (bNot (bT (eCallP f_fits_form (aCons (eV 4) aNil)))) (sRaise1 "BadInstruction" "index" (aCons (eV 3) aNil)) (sNext)
def l1_check_parts : SF := sIf (bAnd (bE (eOp inF (eOp ixF (eV 5) (eC (.int 0))) (eC (.con .out .tup (c_JUMPS.map PV.str))))) (bE (eOp geF (eOp ixF (eV 5) (eC (.int 1))) (eCall lenF (aCons (eV 0) aNil))))) (sRaise1 "BadTarget" "index" (aCons (eV 3) aNil)) (sNext)
def l2_check_parts : SF := sIf (bOr (bE (eOp geF (eV 3) (eCall lenF (aCons (eV 0) aNil)))) (bOr (bE (eOp geF (eV 3) (eCall lenF (aCons (eV 1) aNil)))) (bNot (bT (eCallP f_in_range (aCons (eOp ixF (eV 1) (eV 3)) (aCons (eC (.int 0)) (aCons (eC (.int c_LINES)) aNil)))))))) (sRaise1 "BadLine" "index" (aCons (eV 3) aNil)) (sNext)
def l3_check_parts : SF := sIf (bNot (bT (eCallP f_is_handler (aCons (eV 6) (aCons (eCall lenF (aCons (eV 0) aNil)) aNil))))) (sRaise1 "BadHandler" "index" (aCons (eV 3) aNil)) (sNext)
def r4_check_parts : SF := sIf (bE (eOp ninF (eOp ixF (eOp ixF (eV 0) (eNeg (eC (.int 1)))) (eC (.int 0))) (eC (.con .out .tup (c_LAST.map PV.str))))) (sRaise0 "FallsOff") (sNext)
def r5_check_parts : SF := sSeq (sFor (iE2 (eV 2)) (gU [3, 6]) (l3_check_parts)) (r4_check_parts)
def r6_check_parts : SF := sSeq (sFor (iR1 (aCons (eCall (ii2F fun i j => if j > i then j else i) (aCons (eCall lenF (aCons (eV 0) aNil)) (aCons (eCall lenF (aCons (eV 1) aNil)) aNil))) aNil)) (gN 3) (l2_check_parts)) (r5_check_parts)
def r7_check_parts : SF := sSeq (sFor (iE2 (eV 0)) (gU [3, 5]) (l1_check_parts)) (r6_check_parts)
def r8_check_parts : SF := sSeq (sFor (iE2 (eV 0)) (gU [3, 4]) (l0_check_parts)) (r7_check_parts)
def body_check_parts : SF := sSeq (sIf (bNot (bE (eChain leF leF (eC (.int 1)) (eCall lenF (aCons (eV 0) aNil)) (eC (.int c_MOST))))) (sRaise0 "BadCode") (sNext)) (r8_check_parts)
def f_check_parts : List PV → RP := runP 3 7 body_check_parts
def i0_depths_of : SF := sSeq (sSet 10 (eOp ixF (eV 9) (eC (.int 3)))) (sIf (bE (eOp ltF (eV 5) (eV 10))) (sRaise0 "BadDepth") (sNext))
def i1_depths_of : SF := sSeq (sAsg (eV 10) (gSubF setLF (eV 2) (eV 8))) (sExpr (eM "list" appendF (eV 3) (aCons (eV 8) aNil)))
def r2_depths_of : SF := sIf (bE (eU (fun p => .bl (isNP p)) (eOp ixF (eV 2) (eV 8)))) (i1_depths_of) (sIf (bE (eOp neF (eOp ixF (eV 2) (eV 8)) (eV 10))) (sRaise0 "BadDepth") (sNext))
def l3_depths_of : SF := sSeq (sSet 10 (eV 7)) (sSeq (sIf (bE (eU (fun p => .bl (!isNP p)) (eV 9))) (i0_depths_of) (sNext)) (r2_depths_of))
def r4_depths_of : SF := sSeq (sSet 7 (eOp (addF false) (eOp subF (eV 5) (eOp (mgetF c_REMOVED) (eV 6) (eC (.int 0)))) (eOp (mgetF c_PUSHED) (eV 6) (eC (.int 0))))) (sFor (iAny (eCallP f_moves (aCons (eV 0) (aCons (eV 1) (aCons (eV 4) aNil))))) (gU [8, 9]) (l3_depths_of))
def l5_depths_of : SF := sSeq (sSet 4 (eM "list" popF (eV 3) aNil)) (sSeq (sSet 5 (eOp ixF (eV 2) (eV 4))) (sSeq (sSet 6 (eOp ixF (eOp ixF (eV 0) (eV 4)) (eC (.int 0)))) (sSeq (sIf (bE (eOp ltF (eV 5) (eOp (mgetF c_REMOVED) (eV 6) (eC (.int 0))))) (sRaise0 "BadDepth") (sNext)) (r4_depths_of))))
def r6_depths_of : SF := sRet (eCall tupleF (aCons (eV 2) aNil))
def body_depths_of : SF := sSeq (sSet 2 (eOp (mulF true) (eLst false (aCons (eC .non) aNil)) (eCall lenF (aCons (eV 0) aNil)))) (sSeq (sAsg (eC (.int 0)) (gSubF setLF (eV 2) (eC (.int 0)))) (sSeq (sSet 3 (eLst true (aCons (eC (.int 0)) aNil))) (sSeq (sWhl (bT (eV 3)) (l5_depths_of)) (r6_depths_of))))
def f_depths_of : List PV → RP := runP 2 11 body_depths_of
def body_Unit_init : SF := sSeq (sExpr (eCallP f_check_parts (aCons (eV 1) (aCons (eV 2) (aCons (eV 3) aNil))))) (sSeq (sFldF ["Unit"] "code" (eV 0) (eCall tupleF (aCons (eV 1) aNil))) (sSeq (sFldF ["Unit"] "lines" (eV 0) (eCall tupleF (aCons (eV 2) aNil))) (sSeq (sFldF ["Unit"] "handlers" (eV 0) (eCall tupleF (aCons (eV 3) aNil))) (sFldF ["Unit"] "found_depths" (eV 0) (eCallP f_depths_of (aCons (eFld ["Unit"] "code" (eV 0)) (aCons (eFld ["Unit"] "handlers" (eV 0)) aNil)))))))
def i_Unit_init : List PV → RP := runI "Unit" 4 4 body_Unit_init
@[reducible] def body_exits : SF := sRet (eSi false (iAny (eCallP f_moves (aCons (eFld ["Unit"] "code" (eV 0)) (aCons (eFld ["Unit"] "handlers" (eV 0)) (aCons (eV 1) aNil))))) (gT [2, 3]) (bYes) (eV 2) [2, 3])
def f_exits : List PV → RP := runP 2 4 body_exits
@[reducible] def r0_line_after : SF := sRet (eV 2)
@[reducible] def body_line_after : SF := sSeq (sIf (bE (eOp neF (eOp ixF (eFld ["Unit"] "lines" (eV 0)) (eV 1)) (eC (.int 0)))) (sRet (eOp ixF (eFld ["Unit"] "lines" (eV 0)) (eV 1))) (sNext)) (r0_line_after)
def f_line_after : List PV → RP := runP 3 3 body_line_after
@[reducible] def i0_arrivals : SF := sSeq (sAsg (eTup (aCons (eV 4) (aCons (eV 5) aNil))) (gSubF setDF (eV 1) (eV 7))) (sExpr (eM "list" appendF (eV 2) (aCons (eV 7) aNil)))
def l1_arrivals : SF := sSeq (sSet 7 (eTup (aCons (eV 6) (aCons (eCallP f_line_after (aCons (eV 0) (aCons (eV 4) (aCons (eV 5) aNil)))) aNil)))) (sIf (bE (eOp dninF (eV 7) (eV 1))) (i0_arrivals) (sNext))
def l2_arrivals : SF := sSeq (sAsg (eOp ixF (eV 2) (eV 3)) (gU [4, 5])) (sSeq (sAug 3 addA (eC (.int 1))) (sFor (iAny (eCallP f_exits (aCons (eV 0) (aCons (eV 4) aNil)))) (gN 6) (l1_arrivals)))
@[reducible] def r3_arrivals : SF := sRet (eLock (eV 1))
@[reducible] def body_arrivals : SF := sSeq (sSet 1 (eDT1 (eTup (aCons (eC (.int 0)) (aCons (eC (.int 0)) aNil))) (eC .non))) (sSeq (sSet 2 (eLst true (aCons (eTup (aCons (eC (.int 0)) (aCons (eC (.int 0)) aNil))) aNil))) (sSeq (sSet 3 (eC (.int 0))) (sSeq (sWhl (bE (eOp ltF (eV 3) (eCall lenF (aCons (eV 2) aNil)))) (l2_arrivals)) (r3_arrivals))))
def f_arrivals : List PV → RP := runP 1 8 body_arrivals
def l0_witness : SF := sSeq (sExpr (eM "list" appendF (eV 4) (aCons (eOp ixF (eV 5) (eC (.int 0))) aNil))) (sSet 5 (eOp dgetF (eV 3) (eV 5)))
@[reducible] def r1_witness : SF := sRet (eRev false (eV 4))
@[reducible] def r2_witness : SF := sSeq (sSet 4 (eLst true aNil)) (sSeq (sSet 5 (eTup (aCons (eV 1) (aCons (eV 2) aNil)))) (sSeq (sWhl (bE (eU (fun p => .bl (!isNP p)) (eV 5))) (l0_witness)) (r1_witness)))
@[reducible] def body_witness : SF := sSeq (sSet 3 (eCallP f_arrivals (aCons (eV 0) aNil))) (sSeq (sIf (bE (eOp dninF (eTup (aCons (eV 1) (aCons (eV 2) aNil))) (eV 3))) (sRaise0 "NoPath") (sNext)) (r2_witness))
def f_witness : List PV → RP := runP 3 6 body_witness
def l0_check_names : SF := sIf (bE (eOp ninF (eV 2) (eC (.con .out .tup (c_NAMES.map PV.str))))) (sRaise1 "BadPass" "index" (aCons (eV 1) aNil)) (sNext)
@[reducible] def body_check_names : SF := sFor (iE2 (eV 0)) (gU [1, 2]) (l0_check_names)
def f_check_names : List PV → RP := runP 1 3 body_check_names
def body_Bench_init : SF := sSeq (sFldF ["Bench"] "present" (eV 0) (eV 1)) (sSeq (sFldF ["Bench"] "places" (eV 0) (eTR (eCall lenF (aCons (eFld ["Unit"] "code" (eV 1)) aNil)))) (sSeq (sFldF ["Bench"] "applied" (eV 0) (eTup aNil)) (sFldF ["Bench"] "past" (eV 0) (eLst true aNil))))
def f_Bench_init : List PV → Sto → R PV := runW 2 2 body_Bench_init
def l0_Bench_after : SF := sSeq (sAsg (eBad) (gU [2, 5])) (sSet 3 (eCall tupleF (aCons (eLc false (iAny (eV 5)) (gN 6) (bYes) (eOp ixF (eV 3) (eV 6)) [6]) aNil)))
def r1_Bench_after : SF := sRet (eTup (aCons (eV 2) (aCons (eV 3) aNil)))
def body_Bench_after : SF := sSeq (sExpr (eCallP f_check_names (aCons (eV 1) aNil))) (sSeq (sAsg (eTup (aCons (eFld ["Bench"] "present" (eV 0)) (aCons (eFld ["Bench"] "places" (eV 0)) aNil))) (gU [2, 3])) (sSeq (sFor (iAny (eV 1)) (gN 4) (l0_Bench_after)) (r1_Bench_after)))
def f_Bench_after : List PV → Sto → R PV := runW 2 7 body_Bench_after
def r0_Bench_apply : SF := sSeq (sFldF ["Bench"] "present" (eV 0) (eV 2)) (sSeq (sFldF ["Bench"] "places" (eV 0) (eV 3)) (sFldF ["Bench"] "applied" (eV 0) (eOp addTF (eFld ["Bench"] "applied" (eV 0)) (eV 1))))
def body_Bench_apply : SF := sSeq (sAsg (eMethW "Bench" "after" f_Bench_after (eV 0) (aCons (eV 1) aNil)) (gU [2, 3])) (sSeq (sIf (bT (eV 1)) (sExpr (eM "list" appendF (eFld ["Bench"] "past" (eV 0)) (aCons (eTup (aCons (eFld ["Bench"] "present" (eV 0)) (aCons (eFld ["Bench"] "places" (eV 0)) (aCons (eFld ["Bench"] "applied" (eV 0)) aNil)))) aNil))) (sNext)) (r0_Bench_apply))
def f_Bench_apply : List PV → Sto → R PV := runW 2 4 body_Bench_apply
def r0_Bench_undo : SF := sAsg (eM "list" popF (eFld ["Bench"] "past" (eV 0)) aNil) (gUG [gFldF ["Bench"] "present" (eV 0), gFldF ["Bench"] "places" (eV 0), gFldF ["Bench"] "applied" (eV 0)])
def body_Bench_undo : SF := sSeq (sIf (bNot (bT (eFld ["Bench"] "past" (eV 0)))) (sRaise0 "NothingToUndo") (sNext)) (r0_Bench_undo)
def f_Bench_undo : List PV → Sto → R PV := runW 1 1 body_Bench_undo
def l0_blocks : SF := sIf (bAnd (bOr (bE (eOp inF (eOp ixF (eV 3) (eC (.int 0))) (eC (.con .out .tup (c_JUMPS.map PV.str))))) (bE (eOp inF (eOp ixF (eV 3) (eC (.int 0))) (eC (.con .out .tup (c_LAST.map PV.str)))))) (bE (eOp ltF (eOp (addF false) (eV 2) (eC (.int 1))) (eCall lenF (aCons (eFld ["Unit"] "code" (eV 0)) aNil))))) (sExpr (eM "list" appendF (eV 1) (aCons (eOp (addF false) (eV 2) (eC (.int 1))) aNil))) (sNext)
@[reducible] def r1_blocks : SF := sSeq (sSet 4 (eSi false (iAny (eV 1)) (gN 6) (bYes) (eV 6) [6])) (sRet (eZL false (aCons (eV 4) (aCons (eOp (addF false) (eSl false (eV 4) (oS (eC (.int 1))) oN) (eLst false (aCons (eCall lenF (aCons (eFld ["Unit"] "code" (eV 0)) aNil)) aNil))) aNil))))
@[reducible] def body_blocks : SF := sSeq (sSet 1 (eOp (addF true) (eLst false (aCons (eC (.int 0)) aNil)) (eLc false (iAny (eFld ["Unit"] "code" (eV 0))) (gN 3) (bE (eOp inF (eOp ixF (eV 3) (eC (.int 0))) (eC (.con .out .tup (c_JUMPS.map PV.str))))) (eOp ixF (eV 3) (eC (.int 1))) [3]))) (sSeq (sSet 1 (eOp (addF true) (eV 1) (eLc false (iAny (eFld ["Unit"] "handlers" (eV 0))) (gN 5) (bYes) (eOp ixF (eV 5) (eC (.int 2))) [5]))) (sSeq (sFor (iE2 (eFld ["Unit"] "code" (eV 0))) (gU [2, 3]) (l0_blocks)) (r1_blocks)))
def f_blocks : List PV → RP := runP 1 7 body_blocks
def l0_check_order : SF := sIf (bNot (bT (eCallP f_in_range (aCons (eV 2) (aCons (eC (.int 0)) (aCons (eOp subF (eV 1) (eC (.int 1))) aNil)))))) (sRaise0 "BadOrder") (sNext)
@[reducible] def r1_check_order : SF := sIf (bE (eOp neF (eCall (sortF false) (aCons (eV 0) aNil)) (eLR false (eV 1)))) (sRaise0 "BadOrder") (sNext)
@[reducible] def r2_check_order : SF := sSeq (sFor (iAny (eV 0)) (gN 2) (l0_check_order)) (r1_check_order)
@[reducible] def body_check_order : SF := sSeq (sIf (bOr (bE (eOp neF (eCall lenF (aCons (eV 0) aNil)) (eV 1))) (bE (eOp neF (eOp ixF (eV 0) (eC (.int 0))) (eC (.int 0))))) (sRaise0 "BadOrder") (sNext)) (r2_check_order)
def f_check_order : List PV → RP := runP 2 3 body_check_order
@[reducible] def i0_reorder : SF := sSeq (sExpr (eM "list" appendF (eV 5) (aCons (eTup (aCons (eC (.str "jump")) (aCons (eOp dmgetF (eV 4) (eOp (addF false) (eOp ixF (eV 8) (eC (.int 0))) (eC (.int 1)))) aNil))) aNil))) (sSeq (sExpr (eM "list" appendF (eV 6) (aCons (eC (.int 0)) aNil))) (sExpr (eM "list" appendF (eV 7) (aCons (eC .non) aNil))))
@[reducible] def r1_reorder : SF := sSeq (sExpr (eM "list" appendF (eV 5) (aCons (eV 12) aNil))) (sSeq (sExpr (eM "list" appendF (eV 6) (aCons (eOp ixF (eFld ["Unit"] "lines" (eV 0)) (eV 8)) aNil))) (sExpr (eM "list" appendF (eV 7) (aCons (eV 8) aNil))))
@[reducible] def e2_reorder : SF := sSeq (sSet 12 (eOp ixF (eFld ["Unit"] "code" (eV 0)) (eV 8))) (sSeq (sIf (bE (eOp inF (eOp ixF (eV 12) (eC (.int 0))) (eC (.con .out .tup (c_JUMPS.map PV.str))))) (sSet 12 (eTup (aCons (eOp ixF (eV 12) (eC (.int 0))) (aCons (eOp dmgetF (eV 4) (eOp ixF (eV 12) (eC (.int 1)))) aNil)))) (sNext)) (r1_reorder))
def l3_reorder : SF := sIf (bT (eCall isiF (aCons (eV 8) (aCons (eC (.ty "tuple")) aNil)))) (i0_reorder) (e2_reorder)
def l4_reorder : SF := sSet 9 (eOp (addF false) (eV 9) (eBad))
@[reducible] def r5_reorder : SF := sRet (eTup (aCons (eMakeP i_Unit_init 3 [] (aCons (eV 5) (aCons (eV 6) (aCons (eV 9) aNil)))) (aCons (eCall tupleF (aCons (eV 7) aNil)) aNil)))
@[reducible] def r6_reorder : SF := sSeq (sSet 9 (eLst false aNil)) (sSeq (sFor (iAny (eFld ["Unit"] "handlers" (eV 0))) (gN 10) (l4_reorder)) (r5_reorder))
@[reducible] def body_reorder : SF := sSeq (sSet 2 (eCallP f_blocks (aCons (eV 0) aNil))) (sSeq (sExpr (eCallP f_check_order (aCons (eV 1) (aCons (eCall lenF (aCons (eV 2) aNil)) aNil)))) (sSeq (sSet 3 (eBad)) (sSeq (sSet 4 (eDM (eV 3))) (sSeq (sSet 5 (eLst true aNil)) (sSeq (sSet 6 (eLst true aNil)) (sSeq (sSet 7 (eLst true aNil)) (sSeq (sFor (iAny (eV 3)) (gN 8) (l3_reorder)) (r6_reorder))))))))
def f_reorder : List PV → RP := runP 2 13 body_reorder
@[reducible] def r0_unfolded : SF := sRet (eV 1)
@[reducible] def body_unfolded : SF := sSeq (sAsg (eCall divmodF (aCons (eV 0) (aCons (eC (.int 2)) aNil))) (gU [1, 2])) (sSeq (sIf (bE (eOp eqF (eV 2) (eC (.int 1)))) (sRet (eOp subF (eNeg (eV 1)) (eC (.int 1)))) (sNext)) (r0_unfolded))
def f_unfolded : List PV → RP := runP 1 3 body_unfolded
@[reducible] def r0_unpacked : SF := sRet (eTup (aCons (eOp (addF false) (eV 2) (eOp (mulF false) (eV 4) (eV 3))) (aCons (eV 1) aNil)))
@[reducible] def i1_unpacked : SF := sSeq (sIf (bAnd (bE (eOp eqF (eV 4) (eC (.int 0)))) (bE (eOp gtF (eV 3) (eC (.int 1))))) (sRaise1 "BadData" "index" (aCons (eOp subF (eV 1) (eC (.int 1))) aNil)) (sNext)) (r0_unpacked)
@[reducible] def r2_unpacked : SF := sSeq (sAug 2 addA (eOp (mulF false) (eOp subF (eV 4) (eC (.int c_GROUP))) (eV 3))) (sSet 3 (eOp (mulF false) (eV 3) (eC (.int c_GROUP))))
@[reducible] def r3_unpacked : SF := sSeq (sSet 4 (eOp ixF (eV 0) (eV 1))) (sSeq (sAug 1 addA (eC (.int 1))) (sSeq (sIf (bE (eOp ltF (eV 4) (eC (.int c_GROUP)))) (i1_unpacked) (sNext)) (r2_unpacked)))
def l4_unpacked : SF := sSeq (sIf (bOr (bE (eOp geF (eV 1) (eCall lenF (aCons (eV 0) aNil)))) (bNot (bE (eChain leF ltF (eC (.int 0)) (eOp ixF (eV 0) (eV 1)) (eOp (mulF false) (eC (.int 2)) (eC (.int c_GROUP))))))) (sRaise1 "BadData" "index" (aCons (eV 1) aNil)) (sNext)) (r3_unpacked)
@[reducible] def body_unpacked : SF := sSeq (sSet 2 (eC (.int 0))) (sSeq (sSet 3 (eC (.int 1))) (sWhl (bT (eC (.bl true))) (l4_unpacked)))
def f_unpacked : List PV → RP := runP 2 5 body_unpacked
@[reducible] def r0_read_stretches : SF := sSeq (sExpr (eM "list" appendF (eV 1) (aCons (eTup (aCons (eV 7) (aCons (eOp (addF false) (eV 5) (eC (.int 1))) aNil))) aNil))) (sSet 3 (eV 7))
@[reducible] def r1_read_stretches : SF := sSeq (sAsg (eCallP f_unpacked (aCons (eV 0) (aCons (eV 2) aNil))) (gU [6, 2])) (sSeq (sSet 7 (eOp (addF false) (eV 3) (eCallP f_unfolded (aCons (eV 6) aNil)))) (sSeq (sIf (bOr (bNot (bE (eChain leF leF (eC (.int 0)) (eV 7) (eC (.int c_LINES))))) (bAnd (bT (eV 1)) (bE (eOp eqF (eV 7) (eV 3))))) (sRaise1 "BadData" "index" (aCons (eOp subF (eV 2) (eC (.int 1))) aNil)) (sNext)) (r0_read_stretches)))
def l2_read_stretches : SF := sSeq (sAsg (eCallP f_unpacked (aCons (eV 0) (aCons (eV 2) aNil))) (gU [5, 2])) (sSeq (sAug 4 addA (eOp (addF false) (eV 5) (eC (.int 1)))) (sSeq (sIf (bE (eOp gtF (eV 4) (eC (.int c_MOST_LINES)))) (sRaise1 "BadData" "index" (aCons (eOp subF (eV 2) (eC (.int 1))) aNil)) (sNext)) (r1_read_stretches)))
@[reducible] def r3_read_stretches : SF := sRet (eV 1)
@[reducible] def body_read_stretches : SF := sSeq (sSet 1 (eLst true aNil)) (sSeq (sSet 2 (eC (.int 0))) (sSeq (sSet 3 (eC (.int 0))) (sSeq (sSet 4 (eC (.int 0))) (sSeq (sWhl (bE (eOp ltF (eV 2) (eCall lenF (aCons (eV 0) aNil)))) (l2_read_stretches)) (r3_read_stretches)))))
def f_read_stretches : List PV → RP := runP 1 8 body_read_stretches
def l0_unpack_lines : SF := sSet 1 (eOp (addF false) (eV 1) (eOp (mulF false) (eLst false (aCons (eV 2) aNil)) (eV 3)))
@[reducible] def r1_unpack_lines : SF := sRet (eCall tupleF (aCons (eV 1) aNil))
@[reducible] def body_unpack_lines : SF := sSeq (sSet 1 (eLst false aNil)) (sSeq (sFor (iAny (eCallP f_read_stretches (aCons (eV 0) aNil))) (gU [2, 3]) (l0_unpack_lines)) (r1_unpack_lines))
def f_unpack_lines : List PV → RP := runP 1 4 body_unpack_lines
@[reducible] def r0_line_at : SF := sAug 2 subF (eV 4)
def l1_line_at : SF := sSeq (sIf (bE (eChain leF ltF (eC (.int 0)) (eV 2) (eV 4))) (sRet (eV 3)) (sNext)) (r0_line_at)
@[reducible] def r2_line_at : SF := sRaise0 "BadIndex"
@[reducible] def body_line_at : SF := sSeq (sSet 2 (eV 1)) (sSeq (sFor (iAny (eCallP f_read_stretches (aCons (eV 0) aNil))) (gU [3, 4]) (l1_line_at)) (r2_line_at))
def f_line_at : List PV → RP := runP 2 5 body_line_at
def l0_number_of : SF := sIf (bE (eOp ninF (eV 4) (eC (.str c_FIGURES)))) (sRet (eC .non)) (sNext)
@[reducible] def r1_number_of : SF := sRet (eV 5)
@[reducible] def r2_number_of : SF := sSeq (sSet 5 (eCall int2F (aCons (eV 0) aNil))) (sSeq (sIf (bNot (bE (eChain leF leF (eV 1) (eV 5) (eV 2)))) (sRet (eC .non)) (sNext)) (r1_number_of))
@[reducible] def r3_number_of : SF := sSeq (sIf (bAnd (bE (eOp eqF (eOp ixF (eV 3) (eC (.int 0))) (eC (.str "0")))) (bOr (bE (eOp gtF (eCall lenF (aCons (eV 3) aNil)) (eC (.int 1)))) (bE (eOp neF (eV 3) (eV 0))))) (sRet (eC .non)) (sNext)) (r2_number_of)
@[reducible] def r4_number_of : SF := sSeq (sFor (iAny (eV 3)) (gN 4) (l0_number_of)) (r3_number_of)
@[reducible] def r5_number_of : SF := sSeq (sIf (bOr (bE (eOp eqF (eV 3) (eC (.str "")))) (bE (eOp gtF (eCall lenF (aCons (eV 3) aNil)) (eC (.int 40))))) (sRet (eC .non)) (sNext)) (r4_number_of)
@[reducible] def body_number_of : SF := sSeq (sSet 3 (eV 0)) (sSeq (sIf (bAnd (bE (eOp eqF (eSl false (eV 0) oN (oS (eC (.int 1)))) (eC (.str "-")))) (bE (eOp ltF (eV 1) (eC (.int 0))))) (sSet 3 (eSl false (eV 0) (oS (eC (.int 1))) oN)) (sNext)) (r5_number_of))
def f_number_of : List PV → RP := runP 3 6 body_number_of
@[reducible] def r0_instruction_of : SF := sRet (eTup (aCons (eV 2) (aCons (eTup (aCons (eV 3) aNil)) aNil)))
@[reducible] def i1_instruction_of : SF := sSeq (sIf (bE (eOp gtF (eCall lenF (aCons (eV 0) aNil)) (eC (.int 2)))) (sRaise2 "BadText" "row" "word" (aCons (eV 1) (aCons (eC (.int 3)) aNil))) (sNext)) (r0_instruction_of)
@[reducible] def r2_instruction_of : SF := sRet (eTup (aCons (eV 2) (aCons (eTup (aCons (eV 3) (aCons (eV 4) aNil))) aNil)))
@[reducible] def r3_instruction_of : SF := sSeq (sIf (bE (eOp gtF (eCall lenF (aCons (eV 0) aNil)) (eC (.int 3)))) (sRaise2 "BadText" "row" "word" (aCons (eV 1) (aCons (eC (.int 4)) aNil))) (sNext)) (r2_instruction_of)
@[reducible] def r4_instruction_of : SF := sSeq (sIf (bE (eU (fun p => .bl (isNP p)) (eV 4))) (sRaise2 "BadText" "row" "word" (aCons (eV 1) (aCons (eC (.int 3)) aNil))) (sNext)) (r3_instruction_of)
@[reducible] def r5_instruction_of : SF := sSeq (sSet 4 (eC .non)) (sSeq (sIf (bE (eOp gtF (eCall lenF (aCons (eV 0) aNil)) (eC (.int 2)))) (sSet 4 (eBad)) (sNext)) (r4_instruction_of))
@[reducible] def r6_instruction_of : SF := sSeq (sIf (bAnd (bE (eOp neF (eV 3) (eC (.str "const")))) (bAnd (bE (eOp ninF (eV 3) (eC (.con .out .tup (c_JUMPS.map PV.str))))) (bE (eOp ninF (eV 3) (eC (.con .out .tup (c_NAMED.map PV.str))))))) (sRaise2 "BadText" "row" "word" (aCons (eV 1) (aCons (eC (.int 2)) aNil))) (sNext)) (r5_instruction_of)
@[reducible] def r7_instruction_of : SF := sSeq (sIf (bE (eOp inF (eV 3) (eC (.con .out .tup (c_PLAIN.map PV.str))))) (i1_instruction_of) (sNext)) (r6_instruction_of)
@[reducible] def r8_instruction_of : SF := sSeq (sSet 3 (eC (.str ""))) (sSeq (sIf (bE (eOp gtF (eCall lenF (aCons (eV 0) aNil)) (eC (.int 1)))) (sSet 3 (eOp ixF (eV 0) (eC (.int 1)))) (sNext)) (r7_instruction_of))
@[reducible] def body_instruction_of : SF := sSeq (sSet 2 (eCallP f_number_of (aCons (eOp ixF (eV 0) (eC (.int 0))) (aCons (eC (.int 0)) (aCons (eC (.int c_LINES)) aNil))))) (sSeq (sIf (bE (eU (fun p => .bl (isNP p)) (eV 2))) (sRaise2 "BadText" "row" "word" (aCons (eV 1) (aCons (eC (.int 1)) aNil))) (sNext)) (r8_instruction_of))
def f_instruction_of : List PV → RP := runP 2 5 body_instruction_of
@[reducible] def e0_read : SF := sSeq (sAsg (eCallP f_instruction_of (aCons (eV 6) (aCons (eOp (addF false) (eV 4) (eC (.int 1))) aNil))) (gU [7, 8])) (sSeq (sExpr (eM "list" appendF (eV 2) (aCons (eV 7) aNil))) (sExpr (eM "list" appendF (eV 1) (aCons (eV 8) aNil))))
def l1_read : SF := sSeq (sSet 6 (eM "str" (splitF false) (eV 5) (aCons (eC (.str " ")) aNil))) (sIf (bE (eOp eqF (eOp ixF (eV 6) (eC (.int 0))) (eC (.str "handler")))) (sExpr (eM "list" appendF (eV 3) (aCons (eBad) aNil))) (sIf (bT (eV 3)) (sRaise2 "BadText" "row" "word" (aCons (eOp (addF false) (eV 4) (eC (.int 1))) (aCons (eC (.int 1)) aNil))) (e0_read)))
@[reducible] def r2_read : SF := sRet (eMakeP i_Unit_init 3 [] (aCons (eV 1) (aCons (eV 2) (aCons (eV 3) aNil))))
@[reducible] def body_read : SF := sSeq (sSet 1 (eLst true aNil)) (sSeq (sSet 2 (eLst true aNil)) (sSeq (sSet 3 (eLst true aNil)) (sSeq (sFor (iE2 (eM "str" (splitF false) (eV 0) (aCons (eC (.str "\n")) aNil))) (gU [4, 5]) (l1_read)) (r2_read))))
def f_read : List PV → RP := runP 1 9 body_read
def body_law_begin : SF := sRet (eLst true (aCons (eCall (listF false) (aCons (eV 0) aNil)) (aCons (eC (.int 0)) (aCons (eC (.int 0)) (aCons (eC (.int 7)) aNil)))))
def f_law_begin : List PV → Sto → R PV := runW 1 1 body_law_begin
def i0_law_draw : SF := sSeq (sSet 3 (eOp ixF (eOp ixF (eV 0) (eC (.int 0))) (eOp ixF (eV 0) (eC (.int 1))))) (sSeq (sAsg (eOp (addF false) (eOp ixF (eV 0) (eC (.int 1))) (eC (.int 1))) (gSubF setLF (eV 0) (eC (.int 1)))) (sIf (bE (eOp geF (eV 3) (eOp powF (eC (.int 10)) (eC (.int 18))))) (sAsg (eV 3) (gSubF setLF (eV 0) (eC (.int 2)))) (sAsg (eOp modF (eCall int1F (aCons (eOp (addF false) (eOp (addF false) (eOp (mulF false) (eOp ixF (eV 0) (eC (.int 3))) (eC (.int 48271))) (eOp (mulF false) (eV 3) (eC (.int 69621)))) (eC (.int 11))) aNil)) (eC (.int 2147483647))) (gSubF setLF (eV 0) (eC (.int 3))))))
def i1_law_draw : SF := sSeq (sSet 2 (eOp modF (eCall int1F (aCons (eOp ixF (eV 0) (eC (.int 2))) aNil)) (eV 1))) (sSeq (sAsg (eOp fdivF (eOp ixF (eV 0) (eC (.int 2))) (eV 1)) (gSubF setLF (eV 0) (eC (.int 2)))) (sRet (eV 2)))
def r2_law_draw : SF := sRet (eOp modF (eOp modF (eCall int1F (aCons (eOp (mulF false) (eOp ixF (eV 0) (eC (.int 3))) (eC (.int 16807))) aNil)) (eC (.int 2147483629))) (eV 1))
def r3_law_draw : SF := sSeq (sIf (bE (eOp gtF (eOp ixF (eV 0) (eC (.int 2))) (eC (.int 0)))) (i1_law_draw) (sNext)) (r2_law_draw)
def body_law_draw : SF := sSeq (sIf (bE (eOp eqF (eOp ixF (eV 0) (eC (.int 2))) (eC (.int 0)))) (sIf (bE (eOp ltF (eOp ixF (eV 0) (eC (.int 1))) (eCall lenF (aCons (eOp ixF (eV 0) (eC (.int 0))) aNil)))) (i0_law_draw) (sAsg (eOp modF (eCall int1F (aCons (eOp (addF false) (eOp (mulF false) (eOp ixF (eV 0) (eC (.int 3))) (eC (.int 48271))) (eC (.int 7))) aNil)) (eC (.int 2147483647))) (gSubF setLF (eV 0) (eC (.int 3))))) (sNext)) (r3_law_draw)
def f_law_draw : List PV → Sto → R PV := runW 2 4 body_law_draw
@[reducible] def r0_law_first : SF := sIf (bE (eOp eqF (eV 0) (eC (.int 6)))) (sExpr (eMakeP i_Unit_init 2 [.con .out .tup []] (aCons (eLst false (aCons (eTup (aCons (eC (.str "pop")) aNil)) (aCons (eTup (aCons (eC (.str "end")) aNil)) aNil))) (aCons (eLst false (aCons (eC (.int 1)) (aCons (eC (.int 1)) aNil))) aNil)))) (sNext)
@[reducible] def r1_law_first : SF := sSeq (sIf (bE (eOp eqF (eV 0) (eC (.int 5)))) (sExpr (eMakeP i_Unit_init 2 [.con .out .tup []] (aCons (eLst false (aCons (eTup (aCons (eC (.str "skip")) aNil)) aNil)) (aCons (eLst false (aCons (eC (.int 1)) aNil)) aNil)))) (sNext)) (r0_law_first)
@[reducible] def r2_law_first : SF := sSeq (sIf (bE (eOp eqF (eV 0) (eC (.int 4)))) (sExpr (eMakeP i_Unit_init 3 [] (aCons (eLst false (aCons (eTup (aCons (eC (.str "end")) aNil)) aNil)) (aCons (eLst false (aCons (eC (.int 1)) aNil)) (aCons (eLst false (aCons (eTup (aCons (eC (.int 0)) (aCons (eC (.int 2)) (aCons (eC (.int 0)) (aCons (eC (.int 0)) (aCons (eC .non) aNil)))))) aNil)) aNil))))) (sNext)) (r1_law_first)
@[reducible] def r3_law_first : SF := sSeq (sIf (bE (eOp eqF (eV 0) (eC (.int 3)))) (sExpr (eMakeP i_Unit_init 2 [.con .out .tup []] (aCons (eLst false (aCons (eTup (aCons (eC (.str "end")) aNil)) aNil)) (aCons (eLst false aNil) aNil)))) (sNext)) (r2_law_first)
@[reducible] def r4_law_first : SF := sSeq (sIf (bE (eOp eqF (eV 0) (eC (.int 2)))) (sExpr (eMakeP i_Unit_init 2 [.con .out .tup []] (aCons (eLst false (aCons (eTup (aCons (eC (.str "jump")) (aCons (eC (.int 1)) aNil))) aNil)) (aCons (eLst false (aCons (eC (.int 1)) aNil)) aNil)))) (sNext)) (r3_law_first)
@[reducible] def r5_law_first : SF := sSeq (sIf (bE (eOp eqF (eV 0) (eC (.int 1)))) (sExpr (eMakeP i_Unit_init 2 [.con .out .tup []] (aCons (eLst false (aCons (eTup (aCons (eC (.str "mul")) aNil)) aNil)) (aCons (eLst false (aCons (eC (.int 1)) aNil)) aNil)))) (sNext)) (r4_law_first)
@[reducible] def body_law_first : SF := sSeq (sIf (bE (eOp eqF (eV 0) (eC (.int 0)))) (sExpr (eMakeP i_Unit_init 2 [.con .out .tup []] (aCons (eLst false aNil) (aCons (eLst false aNil) aNil)))) (sNext)) (r5_law_first)
def f_law_first : List PV → RP := runP 1 1 body_law_first
@[reducible] def r0_law_second : SF := sIf (bE (eOp eqF (eV 0) (eC (.int 13)))) (sExpr (eCallP f_read (aCons (eC (.str "")) aNil))) (sNext)
@[reducible] def r1_law_second : SF := sSeq (sIf (bE (eOp eqF (eV 0) (eC (.int 12)))) (sExpr (eMethV "Bench" "apply" f_Bench_apply (eMakeW "Bench" f_Bench_init 1 (aCons (eV 1) aNil)) (aCons (eC (.str "folds")) aNil))) (sNext)) (r0_law_second)
@[reducible] def r2_law_second : SF := sSeq (sIf (bE (eOp eqF (eV 0) (eC (.int 11)))) (sExpr (eMethW "Bench" "undo" f_Bench_undo (eMakeW "Bench" f_Bench_init 1 (aCons (eV 1) aNil)) aNil)) (sNext)) (r1_law_second)
@[reducible] def r3_law_second : SF := sSeq (sIf (bE (eOp eqF (eV 0) (eC (.int 10)))) (sExpr (eCallP f_unpack_lines (aCons (eLst false (aCons (eC (.int 0)) aNil)) aNil))) (sNext)) (r2_law_second)
@[reducible] def r4_law_second : SF := sSeq (sIf (bE (eOp eqF (eV 0) (eC (.int 9)))) (sExpr (eCallP f_line_at (aCons (eLst false (aCons (eC (.int 0)) (aCons (eC (.int 2)) aNil))) (aCons (eC (.int 1)) aNil)))) (sNext)) (r3_law_second)
@[reducible] def r5_law_second : SF := sSeq (sIf (bE (eOp eqF (eV 0) (eC (.int 8)))) (sExpr (eCallP f_witness (aCons (eV 1) (aCons (eC (.int 0)) (aCons (eC (.int 5)) aNil))))) (sNext)) (r4_law_second)
@[reducible] def body_law_second : SF := sSeq (sIf (bE (eOp eqF (eV 0) (eC (.int 7)))) (sExpr (eCallP f_reorder (aCons (eV 1) (aCons (eLst false aNil) aNil)))) (sNext)) (r5_law_second)
def f_law_second : List PV → RP := runP 2 2 body_law_second
def kf_law_kinds : KF := (kSet 1 (kV (vDisp .lst (vsCons (vIs [("BadCode", true), ("FallsOff", false), ("BadDepth", false), ("BadOrder", false), ("NoPath", false), ("BadIndex", false), ("NothingToUndo", false), ("BadInstruction", false), ("BadTarget", false), ("BadLine", false), ("BadHandler", false), ("BadData", false), ("BadPass", false), ("BadText", false)]) (vsCons (vIs [("BadCode", false), ("FallsOff", false), ("BadDepth", false), ("BadOrder", false), ("NoPath", false), ("BadIndex", false), ("NothingToUndo", false), ("BadInstruction", true), ("BadTarget", false), ("BadLine", false), ("BadHandler", false), ("BadData", false), ("BadPass", false), ("BadText", false)]) (vsCons (vIs [("BadCode", false), ("FallsOff", false), ("BadDepth", false), ("BadOrder", false), ("NoPath", false), ("BadIndex", false), ("NothingToUndo", false), ("BadInstruction", false), ("BadTarget", true), ("BadLine", false), ("BadHandler", false), ("BadData", false), ("BadPass", false), ("BadText", false)]) (vsCons (vIs [("BadCode", false), ("FallsOff", false), ("BadDepth", false), ("BadOrder", false), ("NoPath", false), ("BadIndex", false), ("NothingToUndo", false), ("BadInstruction", false), ("BadTarget", false), ("BadLine", true), ("BadHandler", false), ("BadData", false), ("BadPass", false), ("BadText", false)]) vsNil)))))) (kSet 1 (kAdd (kN 1) (kV (vDisp .lst (vsCons (vIs [("BadCode", false), ("FallsOff", false), ("BadDepth", false), ("BadOrder", false), ("NoPath", false), ("BadIndex", false), ("NothingToUndo", false), ("BadInstruction", false), ("BadTarget", false), ("BadLine", false), ("BadHandler", true), ("BadData", false), ("BadPass", false), ("BadText", false)]) (vsCons (vIs [("BadCode", false), ("FallsOff", true), ("BadDepth", false), ("BadOrder", false), ("NoPath", false), ("BadIndex", false), ("NothingToUndo", false), ("BadInstruction", false), ("BadTarget", false), ("BadLine", false), ("BadHandler", false), ("BadData", false), ("BadPass", false), ("BadText", false)]) (vsCons (vIs [("BadCode", false), ("FallsOff", false), ("BadDepth", true), ("BadOrder", false), ("NoPath", false), ("BadIndex", false), ("NothingToUndo", false), ("BadInstruction", false), ("BadTarget", false), ("BadLine", false), ("BadHandler", false), ("BadData", false), ("BadPass", false), ("BadText", false)]) (vsCons (vIs [("BadCode", false), ("FallsOff", false), ("BadDepth", false), ("BadOrder", true), ("NoPath", false), ("BadIndex", false), ("NothingToUndo", false), ("BadInstruction", false), ("BadTarget", false), ("BadLine", false), ("BadHandler", false), ("BadData", false), ("BadPass", false), ("BadText", false)]) vsNil))))))) (kSet 1 (kAdd (kN 1) (kV (vDisp .lst (vsCons (vIs [("BadCode", false), ("FallsOff", false), ("BadDepth", false), ("BadOrder", false), ("NoPath", true), ("BadIndex", false), ("NothingToUndo", false), ("BadInstruction", false), ("BadTarget", false), ("BadLine", false), ("BadHandler", false), ("BadData", false), ("BadPass", false), ("BadText", false)]) (vsCons (vIs [("BadCode", false), ("FallsOff", false), ("BadDepth", false), ("BadOrder", false), ("NoPath", false), ("BadIndex", true), ("NothingToUndo", false), ("BadInstruction", false), ("BadTarget", false), ("BadLine", false), ("BadHandler", false), ("BadData", false), ("BadPass", false), ("BadText", false)]) (vsCons (vIs [("BadCode", false), ("FallsOff", false), ("BadDepth", false), ("BadOrder", false), ("NoPath", false), ("BadIndex", false), ("NothingToUndo", false), ("BadInstruction", false), ("BadTarget", false), ("BadLine", false), ("BadHandler", false), ("BadData", true), ("BadPass", false), ("BadText", false)]) vsNil)))))) (kSet 1 (kAdd (kN 1) (kV (vDisp .lst (vsCons (vIs [("BadCode", false), ("FallsOff", false), ("BadDepth", false), ("BadOrder", false), ("NoPath", false), ("BadIndex", false), ("NothingToUndo", true), ("BadInstruction", false), ("BadTarget", false), ("BadLine", false), ("BadHandler", false), ("BadData", false), ("BadPass", false), ("BadText", false)]) (vsCons (vIs [("BadCode", false), ("FallsOff", false), ("BadDepth", false), ("BadOrder", false), ("NoPath", false), ("BadIndex", false), ("NothingToUndo", false), ("BadInstruction", false), ("BadTarget", false), ("BadLine", false), ("BadHandler", false), ("BadData", false), ("BadPass", true), ("BadText", false)]) (vsCons (vIs [("BadCode", false), ("FallsOff", false), ("BadDepth", false), ("BadOrder", false), ("NoPath", false), ("BadIndex", false), ("NothingToUndo", false), ("BadInstruction", false), ("BadTarget", false), ("BadLine", false), ("BadHandler", false), ("BadData", false), ("BadPass", false), ("BadText", true)]) vsNil)))))) (kAdd (kN 1) (kV (vDisp .lst (vsCons (vIs [("BadCode", true), ("FallsOff", true), ("BadDepth", true), ("BadOrder", true), ("NoPath", true), ("BadIndex", true), ("NothingToUndo", true), ("BadInstruction", true), ("BadTarget", true), ("BadLine", true), ("BadHandler", true), ("BadData", true), ("BadPass", true), ("BadText", true)]) vsNil))))))))
@[reducible] def t0_law : SF := sSeq (sExpr (eCallP f_law_first (aCons (eV 2) aNil))) (sExpr (eCallP f_law_second (aCons (eV 2) (aCons (eV 3) aNil))))
@[reducible] def r1_law : SF := sRet (eOp eqF (eV 4) (eOp (addF false) (eLc false (iR1 (aCons (eC (.int 14)) aNil)) (gN 6) (bYes) (eOp eqF (eV 6) (eV 2)) [6]) (eLst false (aCons (eC (.bl true)) aNil))))
@[reducible] def body_law : SF := sSeq (sSet 1 (eCallW f_law_begin (aCons (eV 0) aNil))) (sSeq (sSet 2 (eCallW f_law_draw (aCons (eV 1) (aCons (eC (.int 14)) aNil)))) (sSeq (sSet 3 (eMakeP i_Unit_init 2 [.con .out .tup []] (aCons (eLst false (aCons (eTup (aCons (eC (.str "end")) aNil)) aNil)) (aCons (eLst false (aCons (eC (.int 1)) aNil)) aNil)))) (sSeq (sSet 4 (eLst false aNil)) (sSeq (sTryX (t0_law) [([("BadCode", true), ("FallsOff", true), ("BadDepth", true), ("BadOrder", true), ("NoPath", true), ("BadIndex", true), ("NothingToUndo", true), ("BadInstruction", true), ("BadTarget", true), ("BadLine", true), ("BadHandler", true), ("BadData", true), ("BadPass", true), ("BadText", true)], xAs 5 (xSet 4 (vCall 2 kf_law_kinds)))]) (r1_law)))))
def f_law : List PV → RP := runP 1 7 body_law
end Law
namespace Law
open PySem PySem.Spec PyProof.Rows L2 Pv
theorem sc_in_range : FnScope ["value", "least", "greatest"] ["value", "least", "greatest"] (defScope (topS 28)) := ⟨rfl, rfl, rfl, by decide +kernel, rfl, by decide +kernel, by decide +kernel⟩
theorem d_in_range {P : Program} {w : World} {K : PySem.W.Frag} {mg : Str → Option Value} {base : Heap} (F : DefAt K mg "in_range" (topS 28) ["value", "least", "greatest"]) (z_bool : mg "bool" = none) (z_isinstance : mg "isinstance" = none) (z_int : mg "int" = none) : Cal P w K mg base 1 "in_range" (spP ⟨K, mg⟩ f_in_range) := by
  obtain ⟨f, fd, F, hm, hb⟩ := F
  refine Cal.mkP F hm sc_in_range hb rfl rfl fun X W e1 e2 e3 e4 e5 b => ?_
  subst e1 e2 e3 e4 e5
  have nd := sc_in_range.nd
  have g_bool := b.gl "bool" (by decide +kernel)
  have g_isinstance := b.gl "isinstance" (by decide +kernel)
  have g_int := b.gl "int" (by decide +kernel)
  have v1 := fun {pos : Pos} => b.v (pos := pos) 1 "least" (by decide +kernel)
  have v0 := fun {pos : Pos} => b.v (pos := pos) 0 "value" (by decide +kernel)
  have v2 := fun {pos : Pos} => b.v (pos := pos) 2 "greatest" (by decide +kernel)
  exact (Ss.one (St.ret (E.and (E.callB call_isi cf_isi g_isinstance z_isinstance (by decide +kernel) (A.cons v0 (A.cons (E.ty g_int z_int (by decide +kernel)) A.nil))) (E.and (E.not (E.callB call_isi cf_isi g_isinstance z_isinstance (by decide +kernel) (A.cons v0 (A.cons (E.ty g_bool z_bool (by decide +kernel)) A.nil)))) (E.one (E.chain op_le op_le opf_B0 opf_B0 v1 v0 v2))))))
theorem sc_is_word : FnScope ["value", "letter"] ["value"] (defScope (topS 29)) := ⟨rfl, rfl, rfl, by decide +kernel, rfl, by decide +kernel, by decide +kernel⟩
theorem d_is_word {P : Program} {w : World} {K : PySem.W.Frag} {mg : Str → Option Value} {base : Heap} (F : DefAt K mg "is_word" (topS 29) ["value"]) (z_len : mg "len" = none) (z_str : mg "str" = none) (z_isinstance : mg "isinstance" = none) (k_LETTERS : ∃ t, mg "LETTERS" = some (.str c_LETTERS t)) : Cal P w K mg base 1 "is_word" (spP ⟨K, mg⟩ f_is_word) := by
  obtain ⟨f, fd, F, hm, hb⟩ := F
  refine Cal.mkP F hm sc_is_word hb rfl rfl fun X W e1 e2 e3 e4 e5 b => ?_
  subst e1 e2 e3 e4 e5
  have nd := sc_is_word.nd
  have g_len := b.gl "len" (by decide +kernel)
  have g_str := b.gl "str" (by decide +kernel)
  have g_isinstance := b.gl "isinstance" (by decide +kernel)
  have g_LETTERS := b.gl "LETTERS" (by decide +kernel)
  have v0 := fun {pos : Pos} => b.v (pos := pos) 0 "value" (by decide +kernel)
  have v1 := fun {pos : Pos} => b.v (pos := pos) 1 "letter" (by decide +kernel)
  have t1 := fun {pos : Pos} => b.t (pos := pos) nd 1 "letter" (by decide +kernel)
  exact (Ss.cons (St.ite (BW.t (BW.or (B.not (B.tru (E.callB call_isi cf_isi g_isinstance z_isinstance (by decide +kernel) (A.cons v0 (A.cons (E.ty g_str z_str (by decide +kernel)) A.nil))))) (BW.or1 (B.not (B.chain op_le op_le opf_B0 opf_B0 E.int (E.callB cr_len cf_len g_len z_len (by decide +kernel) (A.cons v0 A.nil)) E.int))))) (Ss.one (St.ret E.bl)) Ss.nil)
  (Ss.cons (St.for b.po b.calm (I.any v0) t1 (Ss.one (St.ite (B.cmp (or_nin b.hu65) opf_nin v1 (E.gstr g_LETTERS k_LETTERS) (by with_unfolding_all rfl)) (Ss.one (St.ret E.bl)) Ss.nil)))
  (Ss.one (St.ret E.bl))))
theorem sc_fits_form : FnScope ["value"] ["value"] (defScope (topS 30)) := ⟨rfl, rfl, rfl, by decide +kernel, rfl, by decide +kernel, by decide +kernel⟩
theorem d_fits_form {P : Program} {w : World} {K : PySem.W.Frag} {mg : Str → Option Value} {base : Heap} (F : DefAt K mg "fits_form" (topS 30) ["value"]) (c_in_range : Cal P w K mg base 1 "in_range" (spP ⟨K, mg⟩ f_in_range)) (c_is_word : Cal P w K mg base 1 "is_word" (spP ⟨K, mg⟩ f_is_word)) (z_str : mg "str" = none) (z_isinstance : mg "isinstance" = none) (z_len : mg "len" = none) (z_tuple : mg "tuple" = none) (k_PLAIN : WTup K mg "PLAIN" c_PLAIN) (k_GREATEST : ∃ t, mg "GREATEST" = some (.int c_GREATEST t)) (k_NAMED : WTup K mg "NAMED" c_NAMED) (z_bool : mg "bool" = none) (z_int : mg "int" = none) (k_JUMPS : WTup K mg "JUMPS" c_JUMPS) : Cal P w K mg base 2 "fits_form" (spP ⟨K, mg⟩ f_fits_form) := by
  obtain ⟨f, fd, F, hm, hb⟩ := F
  refine Cal.mkP F hm sc_fits_form hb rfl rfl fun X W e1 e2 e3 e4 e5 b => ?_
  subst e1 e2 e3 e4 e5
  have nd := sc_fits_form.nd
  have g_str := b.gl "str" (by decide +kernel)
  have g_isinstance := b.gl "isinstance" (by decide +kernel)
  have g_len := b.gl "len" (by decide +kernel)
  have g_tuple := b.gl "tuple" (by decide +kernel)
  have g_PLAIN := b.gl "PLAIN" (by decide +kernel)
  have g_GREATEST := b.gl "GREATEST" (by decide +kernel)
  have g_in_range := b.gl "in_range" (by decide +kernel)
  have g_NAMED := b.gl "NAMED" (by decide +kernel)
  have g_is_word := b.gl "is_word" (by decide +kernel)
  have g_bool := b.gl "bool" (by decide +kernel)
  have g_int := b.gl "int" (by decide +kernel)
  have g_JUMPS := b.gl "JUMPS" (by decide +kernel)
  have v0 := fun {pos : Pos} => b.v (pos := pos) 0 "value" (by decide +kernel)
  exact (Ss.cons (St.ite (BW.t (BW.or (B.not (B.tru (E.callB call_isi cf_isi g_isinstance z_isinstance (by decide +kernel) (A.cons v0 (A.cons (E.ty g_tuple z_tuple (by decide +kernel)) A.nil))))) (BW.or (B.not (B.chain op_le op_le opf_B0 opf_B0 E.int (E.callB cr_len cf_len g_len z_len (by decide +kernel) (A.cons v0 A.nil)) E.int)) (BW.or1 (B.not (B.tru (E.callB call_isi cf_isi g_isinstance z_isinstance (by decide +kernel) (A.cons (E.ix v0 E.int) (A.cons (E.ty g_str z_str (by decide +kernel)) A.nil))))))))) (Ss.one (St.ret E.bl)) Ss.nil)
  (Ss.cons (St.ite (B.eq b.hu (E.callB cr_len cf_len g_len z_len (by decide +kernel) (A.cons v0 A.nil)) E.int) (Ss.one (St.ret (E.cmp (or_in b.hu65) opf_in (E.ix v0 E.int) (E.gtup g_PLAIN k_PLAIN) (by with_unfolding_all rfl)))) Ss.nil)
  (Ss.cons (St.ite (B.eq b.hu (E.ix v0 E.int) E.str) (Ss.one (St.ret (E.call c_in_range b.room b.tk g_in_range (A.cons (E.ix v0 E.int) (A.cons (E.neg un_neg (E.gint g_GREATEST k_GREATEST)) (A.cons (E.gint g_GREATEST k_GREATEST) A.nil)))))) Ss.nil)
  (Ss.cons (St.ite (B.cmp (or_in b.hu65) opf_in (E.ix v0 E.int) (E.gtup g_NAMED k_NAMED) (by with_unfolding_all rfl)) (Ss.one (St.ret (E.call c_is_word b.room b.tk g_is_word (A.cons (E.ix v0 E.int) A.nil)))) Ss.nil)
  (Ss.one (St.ret (E.and (E.cmp (or_in b.hu65) opf_in (E.ix v0 E.int) (E.gtup g_JUMPS k_JUMPS) (by with_unfolding_all rfl)) (E.and (E.callB call_isi cf_isi g_isinstance z_isinstance (by decide +kernel) (A.cons (E.ix v0 E.int) (A.cons (E.ty g_int z_int (by decide +kernel)) A.nil))) (E.and (E.not (E.callB call_isi cf_isi g_isinstance z_isinstance (by decide +kernel) (A.cons (E.ix v0 E.int) (A.cons (E.ty g_bool z_bool (by decide +kernel)) A.nil)))) (E.one (E.ge (E.ix v0 E.int) E.int)))))))))))
theorem sc_is_handler : FnScope ["value", "many", "start", "end", "target", "depth", "kind"] ["value", "many"] (defScope (topS 31)) := ⟨rfl, rfl, rfl, by decide +kernel, rfl, by decide +kernel, by decide +kernel⟩
theorem d_is_handler {P : Program} {w : World} {K : PySem.W.Frag} {mg : Str → Option Value} {base : Heap} (F : DefAt K mg "is_handler" (topS 31) ["value", "many"]) (c_in_range : Cal P w K mg base 1 "in_range" (spP ⟨K, mg⟩ f_in_range)) (c_is_word : Cal P w K mg base 1 "is_word" (spP ⟨K, mg⟩ f_is_word)) (z_len : mg "len" = none) (z_tuple : mg "tuple" = none) (z_isinstance : mg "isinstance" = none) (k_MOST : ∃ t, mg "MOST" = some (.int c_MOST t)) : Cal P w K mg base 2 "is_handler" (spP ⟨K, mg⟩ f_is_handler) := by
  obtain ⟨f, fd, F, hm, hb⟩ := F
  refine Cal.mkP F hm sc_is_handler hb rfl rfl fun X W e1 e2 e3 e4 e5 b => ?_
  subst e1 e2 e3 e4 e5
  have nd := sc_is_handler.nd
  have g_len := b.gl "len" (by decide +kernel)
  have g_tuple := b.gl "tuple" (by decide +kernel)
  have g_isinstance := b.gl "isinstance" (by decide +kernel)
  have g_in_range := b.gl "in_range" (by decide +kernel)
  have g_is_word := b.gl "is_word" (by decide +kernel)
  have g_MOST := b.gl "MOST" (by decide +kernel)
  have v0 := fun {pos : Pos} => b.v (pos := pos) 0 "value" (by decide +kernel)
  have v2 := fun {pos : Pos} => b.v (pos := pos) 2 "start" (by decide +kernel)
  have v3 := fun {pos : Pos} => b.v (pos := pos) 3 "end" (by decide +kernel)
  have v1 := fun {pos : Pos} => b.v (pos := pos) 1 "many" (by decide +kernel)
  have v6 := fun {pos : Pos} => b.v (pos := pos) 6 "kind" (by decide +kernel)
  have v5 := fun {pos : Pos} => b.v (pos := pos) 5 "depth" (by decide +kernel)
  have v4 := fun {pos : Pos} => b.v (pos := pos) 4 "target" (by decide +kernel)
  exact (Ss.cons (St.ite (BW.t (BW.or (B.not (B.tru (E.callB call_isi cf_isi g_isinstance z_isinstance (by decide +kernel) (A.cons v0 (A.cons (E.ty g_tuple z_tuple (by decide +kernel)) A.nil))))) (BW.or1 (B.ne b.hu (E.callB cr_len cf_len g_len z_len (by decide +kernel) (A.cons v0 A.nil)) E.int)))) (Ss.one (St.ret E.bl)) Ss.nil)
  (Ss.cons (St.asg v0 (Tg.un b.calm (gns_cons (b.pg nd 2 "start" (by decide +kernel)) (gns_cons (b.pg nd 3 "end" (by decide +kernel)) (gns_cons (b.pg nd 4 "target" (by decide +kernel)) (gns_cons (b.pg nd 5 "depth" (by decide +kernel)) (gns_cons (b.pg nd 6 "kind" (by decide +kernel)) gns_nil)))))))
  (Ss.cons (St.ite (BW.t (BW.or (B.not (B.tru (E.call c_in_range b.room b.tk g_in_range (A.cons v2 (A.cons E.int (A.cons (E.sub v1 E.int) A.nil)))))) (BW.or (B.not (B.tru (E.call c_in_range b.room b.tk g_in_range (A.cons v3 (A.cons E.int (A.cons v1 A.nil)))))) (BW.or1 (B.ge v2 v3))))) (Ss.one (St.ret E.bl)) Ss.nil)
  (Ss.one (St.ret (E.and (E.call c_in_range b.room b.tk g_in_range (A.cons v4 (A.cons E.int (A.cons (E.sub v1 E.int) A.nil)))) (E.and (E.call c_in_range b.room b.tk g_in_range (A.cons v5 (A.cons E.int (A.cons (E.gint g_MOST k_MOST) A.nil)))) (E.one (E.or (E.isN v6) (E.one (E.call c_is_word b.room b.tk g_is_word (A.cons v6 A.nil))))))))))))
theorem sc_raised_kind : FnScope ["instruction"] ["instruction"] (defScope (topS 32)) := ⟨rfl, rfl, rfl, by decide +kernel, rfl, by decide +kernel, by decide +kernel⟩
theorem d_raised_kind {P : Program} {w : World} {K : PySem.W.Frag} {mg : Str → Option Value} {base : Heap} (F : DefAt K mg "raised_kind" (topS 32) ["instruction"])  : Cal P w K mg base 1 "raised_kind" (spP ⟨K, mg⟩ f_raised_kind) := by
  obtain ⟨f, fd, F, hm, hb⟩ := F
  refine Cal.mkP F hm sc_raised_kind hb rfl rfl fun X W e1 e2 e3 e4 e5 b => ?_
  subst e1 e2 e3 e4 e5
  have nd := sc_raised_kind.nd
  have v0 := fun {pos : Pos} => b.v (pos := pos) 0 "instruction" (by decide +kernel)
  exact (Ss.cons (St.ite (B.eq b.hu (E.ix v0 E.int) E.str) (Ss.one (St.ret E.str)) Ss.nil)
  (Ss.cons (St.ite (B.eq b.hu (E.ix v0 E.int) E.str) (Ss.one (St.ret E.str)) Ss.nil)
  (Ss.cons (St.ite (B.eq b.hu (E.ix v0 E.int) E.str) (Ss.one (St.ret (E.ix v0 E.int))) Ss.nil)
  (Ss.one (St.ret E.non)))))
theorem sc_receiver : FnScope ["handlers", "index", "kind", "handler"] ["handlers", "index", "kind"] (defScope (topS 33)) := ⟨rfl, rfl, rfl, by decide +kernel, rfl, by decide +kernel, by decide +kernel⟩
theorem d_receiver {P : Program} {w : World} {K : PySem.W.Frag} {mg : Str → Option Value} {base : Heap} (F : DefAt K mg "receiver" (topS 33) ["handlers", "index", "kind"])  : Cal P w K mg base 1 "receiver" (spP ⟨K, mg⟩ f_receiver) := by
  obtain ⟨f, fd, F, hm, hb⟩ := F
  refine Cal.mkP F hm sc_receiver hb rfl rfl fun X W e1 e2 e3 e4 e5 b => ?_
  subst e1 e2 e3 e4 e5
  have nd := sc_receiver.nd
  have v0 := fun {pos : Pos} => b.v (pos := pos) 0 "handlers" (by decide +kernel)
  have v3 := fun {pos : Pos} => b.v (pos := pos) 3 "handler" (by decide +kernel)
  have v2 := fun {pos : Pos} => b.v (pos := pos) 2 "kind" (by decide +kernel)
  have v1 := fun {pos : Pos} => b.v (pos := pos) 1 "index" (by decide +kernel)
  have t3 := fun {pos : Pos} => b.t (pos := pos) nd 3 "handler" (by decide +kernel)
  exact (Ss.cons (St.for b.po b.calm (I.any v0) t3 (Ss.one (St.ite (BW.t (BW.and (B.chain op_le op_lt opf_B0 opf_B0 (E.ix v3 E.int) v1 (E.ix v3 E.int)) (BW.and1 (BW.t (BW.or (B.isN (E.ix v3 E.int)) (BW.or1 (B.eq b.hu (E.ix v3 E.int) v2))))))) (Ss.one (St.ret v3)) Ss.nil)))
  (Ss.one (St.ret E.non)))
theorem sc_moves : FnScope ["code", "handlers", "index", "found", "word", "kind", "handler"] ["code", "handlers", "index"] (defScope (topS 35)) := ⟨rfl, rfl, rfl, by decide +kernel, rfl, by decide +kernel, by decide +kernel⟩
theorem d_moves {P : Program} {w : World} {K : PySem.W.Frag} {mg : Str → Option Value} {base : Heap} (F : DefAt K mg "moves" (topS 35) ["code", "handlers", "index"]) (c_raised_kind : Cal P w K mg base 1 "raised_kind" (spP ⟨K, mg⟩ f_raised_kind)) (c_receiver : Cal P w K mg base 1 "receiver" (spP ⟨K, mg⟩ f_receiver)) (z_len : mg "len" = none) (k_LAST : WTup K mg "LAST" c_LAST) (k_JUMPS : WTup K mg "JUMPS" c_JUMPS) : Cal P w K mg base 2 "moves" (spP ⟨K, mg⟩ f_moves) := by
  obtain ⟨f, fd, F, hm, hb⟩ := F
  refine Cal.mkP F hm sc_moves hb rfl rfl fun X W e1 e2 e3 e4 e5 b => ?_
  subst e1 e2 e3 e4 e5
  have nd := sc_moves.nd
  have g_len := b.gl "len" (by decide +kernel)
  have g_LAST := b.gl "LAST" (by decide +kernel)
  have g_JUMPS := b.gl "JUMPS" (by decide +kernel)
  have g_raised_kind := b.gl "raised_kind" (by decide +kernel)
  have g_receiver := b.gl "receiver" (by decide +kernel)
  have v0 := fun {pos : Pos} => b.v (pos := pos) 0 "code" (by decide +kernel)
  have v2 := fun {pos : Pos} => b.v (pos := pos) 2 "index" (by decide +kernel)
  have v4 := fun {pos : Pos} => b.v (pos := pos) 4 "word" (by decide +kernel)
  have v3 := fun {pos : Pos} => b.v (pos := pos) 3 "found" (by decide +kernel)
  have v5 := fun {pos : Pos} => b.v (pos := pos) 5 "kind" (by decide +kernel)
  have v1 := fun {pos : Pos} => b.v (pos := pos) 1 "handlers" (by decide +kernel)
  have v6 := fun {pos : Pos} => b.v (pos := pos) 6 "handler" (by decide +kernel)
  exact (Ss.cons (b.set nd 3 "found" (by decide +kernel) (E.lst true A.nil))
  (Ss.cons (b.set nd 4 "word" (by decide +kernel) (E.ix (E.ix v0 v2) E.int))
  (Ss.cons (St.ite (BW.t (BW.and (B.cmp (or_nin b.hu65) opf_nin v4 (E.gtup g_LAST k_LAST) (by with_unfolding_all rfl)) (BW.and1 (B.lt (E.add false v2 E.int) (E.callB cr_len cf_len g_len z_len (by decide +kernel) (A.cons v0 A.nil)))))) (Ss.one (St.expr (E.bm PySem.F.plainAttrs_list PySem.F.slot_list_append PySem.F.type_list_append mt_append mtf_append v3 (A.cons (E.tup (A.cons (E.add false v2 E.int) (A.cons E.non A.nil))) A.nil)))) Ss.nil)
  (Ss.cons (St.ite (B.cmp (or_in b.hu65) opf_in v4 (E.gtup g_JUMPS k_JUMPS) (by with_unfolding_all rfl)) (Ss.one (St.expr (E.bm PySem.F.plainAttrs_list PySem.F.slot_list_append PySem.F.type_list_append mt_append mtf_append v3 (A.cons (E.tup (A.cons (E.ix (E.ix v0 v2) E.int) (A.cons E.non A.nil))) A.nil)))) Ss.nil)
  (Ss.cons (b.set nd 5 "kind" (by decide +kernel) (E.call c_raised_kind b.room b.tk g_raised_kind (A.cons (E.ix v0 v2) A.nil)))
  (Ss.cons (St.ite (B.notN v5) (Ss.cons (b.set nd 6 "handler" (by decide +kernel) (E.call c_receiver b.room b.tk g_receiver (A.cons v1 (A.cons v2 (A.cons v5 A.nil)))))
  (Ss.one (St.ite (B.notN v6) (Ss.one (St.expr (E.bm PySem.F.plainAttrs_list PySem.F.slot_list_append PySem.F.type_list_append mt_append mtf_append v3 (A.cons (E.tup (A.cons (E.ix v6 E.int) (A.cons v6 A.nil))) A.nil)))) Ss.nil))) Ss.nil)
  (Ss.one (St.ret v3))))))))
theorem sc_check_parts : FnScope ["code", "lines", "handlers", "index", "value", "instruction", "handler"] ["code", "lines", "handlers"] (defScope (topS 36)) := ⟨rfl, rfl, rfl, by decide +kernel, rfl, by decide +kernel, by decide +kernel⟩
theorem d_check_parts {P : Program} {w : World} {K : PySem.W.Frag} {mg : Str → Option Value} {base : Heap} (F : DefAt K mg "check_parts" (topS 36) ["code", "lines", "handlers"]) (c_fits_form : Cal P w K mg base 2 "fits_form" (spP ⟨K, mg⟩ f_fits_form)) (c_is_handler : Cal P w K mg base 2 "is_handler" (spP ⟨K, mg⟩ f_is_handler)) (c_in_range : Cal P w K mg base 1 "in_range" (spP ⟨K, mg⟩ f_in_range)) (z_len : mg "len" = none) (k_MOST : ∃ t, mg "MOST" = some (.int c_MOST t)) (x_BadCode : ExcC K mg "BadCode" (He.ga K "BadCode")) (z_enumerate : mg "enumerate" = none) (x_BadInstruction : ExcI P w K mg base "BadInstruction" "index" (He.ga K "BadInstruction")) (k_JUMPS : WTup K mg "JUMPS" c_JUMPS) (x_BadTarget : ExcI P w K mg base "BadTarget" "index" (He.ga K "BadTarget")) (z_max : mg "max" = none) (z_range : mg "range" = none) (k_LINES : ∃ t, mg "LINES" = some (.int c_LINES t)) (x_BadLine : ExcI P w K mg base "BadLine" "index" (He.ga K "BadLine")) (x_BadHandler : ExcI P w K mg base "BadHandler" "index" (He.ga K "BadHandler")) (k_LAST : WTup K mg "LAST" c_LAST) (x_FallsOff : ExcC K mg "FallsOff" (He.ga K "FallsOff")) : Cal P w K mg base 3 "check_parts" (spP ⟨K, mg⟩ f_check_parts) := by
  obtain ⟨f, fd, F, hm, hb⟩ := F
  refine Cal.mkP F hm sc_check_parts hb rfl rfl fun X W e1 e2 e3 e4 e5 b => ?_
  subst e1 e2 e3 e4 e5
  have nd := sc_check_parts.nd
  have g_len := b.gl "len" (by decide +kernel)
  have g_MOST := b.gl "MOST" (by decide +kernel)
  have g_BadCode := b.gl "BadCode" (by decide +kernel)
  have g_enumerate := b.gl "enumerate" (by decide +kernel)
  have g_fits_form := b.gl "fits_form" (by decide +kernel)
  have g_BadInstruction := b.gl "BadInstruction" (by decide +kernel)
  have g_JUMPS := b.gl "JUMPS" (by decide +kernel)
  have g_BadTarget := b.gl "BadTarget" (by decide +kernel)
  have g_max := b.gl "max" (by decide +kernel)
  have g_range := b.gl "range" (by decide +kernel)
  have g_LINES := b.gl "LINES" (by decide +kernel)
  have g_in_range := b.gl "in_range" (by decide +kernel)
  have g_BadLine := b.gl "BadLine" (by decide +kernel)
  have g_is_handler := b.gl "is_handler" (by decide +kernel)
  have g_BadHandler := b.gl "BadHandler" (by decide +kernel)
  have g_LAST := b.gl "LAST" (by decide +kernel)
  have g_FallsOff := b.gl "FallsOff" (by decide +kernel)
  have v0 := fun {pos : Pos} => b.v (pos := pos) 0 "code" (by decide +kernel)
  have v4 := fun {pos : Pos} => b.v (pos := pos) 4 "value" (by decide +kernel)
  have v3 := fun {pos : Pos} => b.v (pos := pos) 3 "index" (by decide +kernel)
  have v5 := fun {pos : Pos} => b.v (pos := pos) 5 "instruction" (by decide +kernel)
  have v1 := fun {pos : Pos} => b.v (pos := pos) 1 "lines" (by decide +kernel)
  have v2 := fun {pos : Pos} => b.v (pos := pos) 2 "handlers" (by decide +kernel)
  have v6 := fun {pos : Pos} => b.v (pos := pos) 6 "handler" (by decide +kernel)
  have t3 := fun {pos : Pos} => b.t (pos := pos) nd 3 "index" (by decide +kernel)
  exact (Ss.cons (St.ite (B.not (B.chain op_le op_le opf_B0 opf_B0 E.int (E.callB cr_len cf_len g_len z_len (by decide +kernel) (A.cons v0 A.nil)) (E.gint g_MOST k_MOST))) (Ss.one (St.raise0 b.calm b.tk x_BadCode g_BadCode)) Ss.nil)
  (Ss.cons (St.for b.po b.calm (I.enum2 g_enumerate z_enumerate v0) (Tg.un b.calm (gns_cons (b.pg nd 3 "index" (by decide +kernel)) (gns_cons (b.pg nd 4 "value" (by decide +kernel)) gns_nil))) (Ss.one (St.ite (B.not (B.tru (E.call c_fits_form b.room b.tk g_fits_form (A.cons v4 A.nil)))) (Ss.one (St.raise1 b.calm b.tk x_BadInstruction b.room (by decide) g_BadInstruction (A.cons v3 A.nil))) Ss.nil)))
  (Ss.cons (St.for b.po b.calm (I.enum2 g_enumerate z_enumerate v0) (Tg.un b.calm (gns_cons (b.pg nd 3 "index" (by decide +kernel)) (gns_cons (b.pg nd 5 "instruction" (by decide +kernel)) gns_nil))) (Ss.one (St.ite (BW.t (BW.and (B.cmp (or_in b.hu65) opf_in (E.ix v5 E.int) (E.gtup g_JUMPS k_JUMPS) (by with_unfolding_all rfl)) (BW.and1 (B.ge (E.ix v5 E.int) (E.callB cr_len cf_len g_len z_len (by decide +kernel) (A.cons v0 A.nil)))))) (Ss.one (St.raise1 b.calm b.tk x_BadTarget b.room (by decide) g_BadTarget (A.cons v3 A.nil))) Ss.nil)))
  (Ss.cons (St.for b.po b.calm (I.r1 g_range z_range (A.cons (E.callB (call_max2 b.calm) cf_ii2 g_max z_max (by decide +kernel) (A.cons (E.callB cr_len cf_len g_len z_len (by decide +kernel) (A.cons v0 A.nil)) (A.cons (E.callB cr_len cf_len g_len z_len (by decide +kernel) (A.cons v1 A.nil)) A.nil))) A.nil)) t3 (Ss.one (St.ite (BW.t (BW.or (B.ge v3 (E.callB cr_len cf_len g_len z_len (by decide +kernel) (A.cons v0 A.nil))) (BW.or (B.ge v3 (E.callB cr_len cf_len g_len z_len (by decide +kernel) (A.cons v1 A.nil))) (BW.or1 (B.not (B.tru (E.call c_in_range b.room b.tk g_in_range (A.cons (E.ix v1 v3) (A.cons E.int (A.cons (E.gint g_LINES k_LINES) A.nil)))))))))) (Ss.one (St.raise1 b.calm b.tk x_BadLine b.room (by decide) g_BadLine (A.cons v3 A.nil))) Ss.nil)))
  (Ss.cons (St.for b.po b.calm (I.enum2 g_enumerate z_enumerate v2) (Tg.un b.calm (gns_cons (b.pg nd 3 "index" (by decide +kernel)) (gns_cons (b.pg nd 6 "handler" (by decide +kernel)) gns_nil))) (Ss.one (St.ite (B.not (B.tru (E.call c_is_handler b.room b.tk g_is_handler (A.cons v6 (A.cons (E.callB cr_len cf_len g_len z_len (by decide +kernel) (A.cons v0 A.nil)) A.nil))))) (Ss.one (St.raise1 b.calm b.tk x_BadHandler b.room (by decide) g_BadHandler (A.cons v3 A.nil))) Ss.nil)))
  (Ss.one (St.ite (B.cmp (or_nin b.hu65) opf_nin (E.ix (E.ix v0 (E.neg un_neg E.int)) E.int) (E.gtup g_LAST k_LAST) (by with_unfolding_all rfl)) (Ss.one (St.raise0 b.calm b.tk x_FallsOff g_FallsOff)) Ss.nil)))))))
theorem sc_depths_of : FnScope ["code", "handlers", "depths", "waiting", "index", "depth", "word", "after", "target", "handler", "wanted"] ["code", "handlers"] (defScope (topS 37)) := ⟨rfl, rfl, rfl, by decide +kernel, rfl, by decide +kernel, by decide +kernel⟩
theorem d_depths_of {P : Program} {w : World} {K : PySem.W.Frag} {mg : Str → Option Value} {base : Heap} (F : DefAt K mg "depths_of" (topS 37) ["code", "handlers"]) (c_moves : Cal P w K mg base 2 "moves" (spP ⟨K, mg⟩ f_moves)) (z_len : mg "len" = none) (p_REMOVED : WMap K w mg "REMOVED" c_REMOVED) (x_BadDepth : ExcC K mg "BadDepth" (He.ga K "BadDepth")) (p_PUSHED : WMap K w mg "PUSHED" c_PUSHED) (z_tuple : mg "tuple" = none) : Cal P w K mg base 3 "depths_of" (spP ⟨K, mg⟩ f_depths_of) := by
  obtain ⟨f, fd, F, hm, hb⟩ := F
  refine Cal.mkP F hm sc_depths_of hb rfl rfl fun X W e1 e2 e3 e4 e5 b => ?_
  subst e1 e2 e3 e4 e5
  have nd := sc_depths_of.nd
  have g_len := b.gl "len" (by decide +kernel)
  have g_REMOVED := b.gl "REMOVED" (by decide +kernel)
  have g_BadDepth := b.gl "BadDepth" (by decide +kernel)
  have g_PUSHED := b.gl "PUSHED" (by decide +kernel)
  have g_moves := b.gl "moves" (by decide +kernel)
  have g_tuple := b.gl "tuple" (by decide +kernel)
  have v0 := fun {pos : Pos} => b.v (pos := pos) 0 "code" (by decide +kernel)
  have v2 := fun {pos : Pos} => b.v (pos := pos) 2 "depths" (by decide +kernel)
  have v3 := fun {pos : Pos} => b.v (pos := pos) 3 "waiting" (by decide +kernel)
  have v4 := fun {pos : Pos} => b.v (pos := pos) 4 "index" (by decide +kernel)
  have v5 := fun {pos : Pos} => b.v (pos := pos) 5 "depth" (by decide +kernel)
  have v6 := fun {pos : Pos} => b.v (pos := pos) 6 "word" (by decide +kernel)
  have v1 := fun {pos : Pos} => b.v (pos := pos) 1 "handlers" (by decide +kernel)
  have v7 := fun {pos : Pos} => b.v (pos := pos) 7 "after" (by decide +kernel)
  have v9 := fun {pos : Pos} => b.v (pos := pos) 9 "handler" (by decide +kernel)
  have v10 := fun {pos : Pos} => b.v (pos := pos) 10 "wanted" (by decide +kernel)
  have v8 := fun {pos : Pos} => b.v (pos := pos) 8 "target" (by decide +kernel)
  exact (Ss.cons (b.set nd 2 "depths" (by decide +kernel) (E.mul true (E.lst false (A.cons E.non A.nil)) (E.callB cr_len cf_len g_len z_len (by decide +kernel) (A.cons v0 A.nil))))
  (Ss.cons (St.asg E.int (Tg.sub v2 E.int set_list set_lst))
  (Ss.cons (b.set nd 3 "waiting" (by decide +kernel) (E.lst true (A.cons E.int A.nil)))
  (Ss.cons (St.whl b.po (B.tru v3) (Ss.cons (b.set nd 4 "index" (by decide +kernel) (E.bm0 PySem.F.plainAttrs_list PySem.F.slot_list_pop PySem.F.type_list_pop mt_pop mtf_pop (fun h => pe_bm0 PySem.F.plainAttrs_list PySem.F.slot_list_pop PySem.F.type_list_pop mt_pop h) v3))
  (Ss.cons (b.set nd 5 "depth" (by decide +kernel) (E.ix v2 v4))
  (Ss.cons (b.set nd 6 "word" (by decide +kernel) (E.ix (E.ix v0 v4) E.int))
  (Ss.cons (St.ite (B.lt v5 (E.wget g_REMOVED p_REMOVED v6 E.int)) (Ss.one (St.raise0 b.calm b.tk x_BadDepth g_BadDepth)) Ss.nil)
  (Ss.cons (b.set nd 7 "after" (by decide +kernel) (E.add false (E.sub v5 (E.wget g_REMOVED p_REMOVED v6 E.int)) (E.wget g_PUSHED p_PUSHED v6 E.int)))
  (Ss.one (St.for b.po b.calm (I.any (E.call c_moves b.room b.tk g_moves (A.cons v0 (A.cons v1 (A.cons v4 A.nil))))) (Tg.un b.calm (gns_cons (b.pg nd 8 "target" (by decide +kernel)) (gns_cons (b.pg nd 9 "handler" (by decide +kernel)) gns_nil))) (Ss.cons (b.set nd 10 "wanted" (by decide +kernel) v7)
  (Ss.cons (St.ite (B.notN v9) (Ss.cons (b.set nd 10 "wanted" (by decide +kernel) (E.ix v9 E.int))
  (Ss.one (St.ite (B.lt v5 v10) (Ss.one (St.raise0 b.calm b.tk x_BadDepth g_BadDepth)) Ss.nil))) Ss.nil)
  (Ss.one (St.ite (B.isN (E.ix v2 v8)) (Ss.cons (St.asg v10 (Tg.sub v2 v8 set_list set_lst))
  (Ss.one (St.expr (E.bm PySem.F.plainAttrs_list PySem.F.slot_list_append PySem.F.type_list_append mt_append mtf_append v3 (A.cons v8 A.nil))))) (Ss.one (St.ite (B.ne b.hu (E.ix v2 v8) v10) (Ss.one (St.raise0 b.calm b.tk x_BadDepth g_BadDepth)) Ss.nil))))))))))))))
  (Ss.one (St.ret (E.callTy call_tuple_of cf_tuple g_tuple z_tuple (by decide +kernel) (A.cons v2 A.nil))))))))
theorem sc_Unit_init : FnScope ["self", "code", "lines", "handlers"] ["self", "code", "lines", "handlers"] (defScope (clsS (topS 38) 0)) := ⟨rfl, rfl, rfl, by decide +kernel, rfl, by decide +kernel, by decide +kernel⟩
theorem d_Unit_init {P : Program} {w : World} {K : PySem.W.Frag} {mg : Str → Option Value} {base : Heap} {dvs : List V} {f : Addr} {fd : FuncData} (F : FunD K "__init__" "Unit.__init__" (defArgs (clsS (topS 38) 0)) (defBody (clsS (topS 38) 0)) (defScope (clsS (topS 38) 0)) dvs [] f fd) (c_check_parts : Cal P w K mg base 3 "check_parts" (spP ⟨K, mg⟩ f_check_parts)) (c_depths_of : Cal P w K mg base 3 "depths_of" (spP ⟨K, mg⟩ f_depths_of)) (a_Unit_code : AttT K mg "Unit" "code") (z_tuple : mg "tuple" = none) (a_Unit_lines : AttT K mg "Unit" "lines") (a_Unit_handlers : AttT K mg "Unit" "handlers") (a_Unit_found_depths : AttT K mg "Unit" "found_depths") : FnOk P w K mg base (L2.CX P w) 4 f fd ["self", "code", "lines", "handlers"] (spI ⟨K, mg⟩ "Unit" i_Unit_init) := by
  refine fnI F sc_Unit_init rfl rfl fun X W e1 e2 e3 e4 e5 b => ?_
  subst e1 e2 e3 e4 e5
  have nd := sc_Unit_init.nd
  have g_check_parts := b.gl "check_parts" (by decide +kernel)
  have g_tuple := b.gl "tuple" (by decide +kernel)
  have g_depths_of := b.gl "depths_of" (by decide +kernel)
  have v1 := fun {pos : Pos} => b.v (pos := pos) 1 "code" (by decide +kernel)
  have v2 := fun {pos : Pos} => b.v (pos := pos) 2 "lines" (by decide +kernel)
  have v3 := fun {pos : Pos} => b.v (pos := pos) 3 "handlers" (by decide +kernel)
  have v0 := fun {pos : Pos} => b.v (pos := pos) 0 "self" (by decide +kernel)
  exact (Ss.cons (St.expr (E.call c_check_parts b.room b.tk g_check_parts (A.cons v1 (A.cons v2 (A.cons v3 A.nil)))))
  (Ss.cons (St.fld (atts_cons a_Unit_code atts_nil) v0 (E.callTy call_tuple_of cf_tuple g_tuple z_tuple (by decide +kernel) (A.cons v1 A.nil)))
  (Ss.cons (St.fld (atts_cons a_Unit_lines atts_nil) v0 (E.callTy call_tuple_of cf_tuple g_tuple z_tuple (by decide +kernel) (A.cons v2 A.nil)))
  (Ss.cons (St.fld (atts_cons a_Unit_handlers atts_nil) v0 (E.callTy call_tuple_of cf_tuple g_tuple z_tuple (by decide +kernel) (A.cons v3 A.nil)))
  (Ss.one (St.fld (atts_cons a_Unit_found_depths atts_nil) v0 (E.call c_depths_of b.room b.tk g_depths_of (A.cons (E.fld (atts_cons a_Unit_code atts_nil) v0) (A.cons (E.fld (atts_cons a_Unit_handlers atts_nil) v0) A.nil)))))))))
theorem sc_exits : FnScope ["unit", "index", "target", "handler"] ["unit", "index"] (defScope (topS 39)) := ⟨rfl, rfl, rfl, by decide +kernel, rfl, by decide +kernel, by decide +kernel⟩
theorem d_exits {P : Program} {w : World} {K : PySem.W.Frag} {mg : Str → Option Value} {base : Heap} (F : DefAt K mg "exits" (topS 39) ["unit", "index"]) (c_moves : Cal P w K mg base 2 "moves" (spP ⟨K, mg⟩ f_moves)) (a_Unit_code : AttT K mg "Unit" "code") (a_Unit_handlers : AttT K mg "Unit" "handlers") (z_sorted : mg "sorted" = none) : Cal P w K mg base 3 "exits" (spP ⟨K, mg⟩ f_exits) := by
  obtain ⟨f, fd, F, hm, hb⟩ := F
  refine Cal.mkP F hm sc_exits hb rfl rfl fun X W e1 e2 e3 e4 e5 b => ?_
  subst e1 e2 e3 e4 e5
  have nd := sc_exits.nd
  have g_moves := b.gl "moves" (by decide +kernel)
  have g_sorted := b.gl "sorted" (by decide +kernel)
  have v0 := fun {pos : Pos} => b.v (pos := pos) 0 "unit" (by decide +kernel)
  have v1 := fun {pos : Pos} => b.v (pos := pos) 1 "index" (by decide +kernel)
  exact (Ss.one (St.ret (E.sortSc (own := [("target", 2), ("handler", 3)]) false b.calm g_sorted z_sorted (b.hN ▸ nd) (I.any (E.call c_moves b.room b.tk g_moves (A.cons (E.fld (atts_cons a_Unit_code atts_nil) v0) (A.cons (E.fld (atts_cons a_Unit_handlers atts_nil) v0) (A.cons v1 A.nil))))) (b.blk (by decide +kernel)) (CG.tup (by decide) rfl) (fun _ _ _ _ _ => pg_tup b.calm (pgs_cons (blk_pg b.hN b.sc nd 2 "target" (by decide +kernel)) (pgs_cons (blk_pg b.hN b.sc nd 3 "handler" (by decide +kernel)) pgs_nil))) (fun _ _ _ _ _ => Ts.nil) (fun _ _ _ _ _ => (b.bk.v 2 "target" (by decide +kernel))))))
theorem sc_line_after : FnScope ["unit", "index", "line"] ["unit", "index", "line"] (defScope (topS 41)) := ⟨rfl, rfl, rfl, by decide +kernel, rfl, by decide +kernel, by decide +kernel⟩
theorem d_line_after {P : Program} {w : World} {K : PySem.W.Frag} {mg : Str → Option Value} {base : Heap} (F : DefAt K mg "line_after" (topS 41) ["unit", "index", "line"]) (a_Unit_lines : AttT K mg "Unit" "lines") : Cal P w K mg base 1 "line_after" (spP ⟨K, mg⟩ f_line_after) := by
  obtain ⟨f, fd, F, hm, hb⟩ := F
  refine Cal.mkP F hm sc_line_after hb rfl rfl fun X W e1 e2 e3 e4 e5 b => ?_
  subst e1 e2 e3 e4 e5
  have nd := sc_line_after.nd
  have v0 := fun {pos : Pos} => b.v (pos := pos) 0 "unit" (by decide +kernel)
  have v1 := fun {pos : Pos} => b.v (pos := pos) 1 "index" (by decide +kernel)
  have v2 := fun {pos : Pos} => b.v (pos := pos) 2 "line" (by decide +kernel)
  exact (Ss.cons (St.ite (B.ne b.hu (E.ix (E.fld (atts_cons a_Unit_lines atts_nil) v0) v1) E.int) (Ss.one (St.ret (E.ix (E.fld (atts_cons a_Unit_lines atts_nil) v0) v1))) Ss.nil)
  (Ss.one (St.ret v2)))
theorem sc_arrivals : FnScope ["unit", "found", "waiting", "at", "index", "line", "target", "pair"] ["unit"] (defScope (topS 42)) := ⟨rfl, rfl, rfl, by decide +kernel, rfl, by decide +kernel, by decide +kernel⟩
theorem d_arrivals {P : Program} {w : World} {K : PySem.W.Frag} {mg : Str → Option Value} {base : Heap} (F : DefAt K mg "arrivals" (topS 42) ["unit"]) (c_exits : Cal P w K mg base 3 "exits" (spP ⟨K, mg⟩ f_exits)) (c_line_after : Cal P w K mg base 1 "line_after" (spP ⟨K, mg⟩ f_line_after)) (z_len : mg "len" = none) : Cal P w K mg base 4 "arrivals" (spP ⟨K, mg⟩ f_arrivals) := by
  obtain ⟨f, fd, F, hm, hb⟩ := F
  refine Cal.mkP F hm sc_arrivals hb rfl rfl fun X W e1 e2 e3 e4 e5 b => ?_
  subst e1 e2 e3 e4 e5
  have nd := sc_arrivals.nd
  have g_len := b.gl "len" (by decide +kernel)
  have g_exits := b.gl "exits" (by decide +kernel)
  have g_line_after := b.gl "line_after" (by decide +kernel)
  have v3 := fun {pos : Pos} => b.v (pos := pos) 3 "at" (by decide +kernel)
  have v2 := fun {pos : Pos} => b.v (pos := pos) 2 "waiting" (by decide +kernel)
  have v0 := fun {pos : Pos} => b.v (pos := pos) 0 "unit" (by decide +kernel)
  have v4 := fun {pos : Pos} => b.v (pos := pos) 4 "index" (by decide +kernel)
  have v6 := fun {pos : Pos} => b.v (pos := pos) 6 "target" (by decide +kernel)
  have v5 := fun {pos : Pos} => b.v (pos := pos) 5 "line" (by decide +kernel)
  have v7 := fun {pos : Pos} => b.v (pos := pos) 7 "pair" (by decide +kernel)
  have v1 := fun {pos : Pos} => b.v (pos := pos) 1 "found" (by decide +kernel)
  have t6 := fun {pos : Pos} => b.t (pos := pos) nd 6 "target" (by decide +kernel)
  exact (Ss.cons (b.set nd 1 "found" (by decide +kernel) (E.dt1 b.hu65 (E.tup (A.cons E.int (A.cons E.int A.nil))) E.non))
  (Ss.cons (b.set nd 2 "waiting" (by decide +kernel) (E.lst true (A.cons (E.tup (A.cons E.int (A.cons E.int A.nil))) A.nil)))
  (Ss.cons (b.set nd 3 "at" (by decide +kernel) E.int)
  (Ss.cons (St.whl b.po (B.lt v3 (E.callB cr_len cf_len g_len z_len (by decide +kernel) (A.cons v2 A.nil))) (Ss.cons (St.asg (E.ix v2 v3) (Tg.un b.calm (gns_cons (b.pg nd 4 "index" (by decide +kernel)) (gns_cons (b.pg nd 5 "line" (by decide +kernel)) gns_nil))))
  (Ss.cons (b.aug nd 3 "at" (by decide +kernel) pip_addA opf_addA E.int)
  (Ss.one (St.for b.po b.calm (I.any (E.call c_exits b.room b.tk g_exits (A.cons v0 (A.cons v4 A.nil)))) t6 (Ss.cons (b.set nd 7 "pair" (by decide +kernel) (E.tup (A.cons v6 (A.cons (E.call c_line_after b.room b.tk g_line_after (A.cons v0 (A.cons v4 (A.cons v5 A.nil)))) A.nil))))
  (Ss.one (St.ite (B.cmp (or_dnin b.hu65) opf_dnin v7 v1 (by with_unfolding_all rfl)) (Ss.cons (St.dput b.hu65 v1 v7 (E.tup (A.cons v4 (A.cons v5 A.nil))))
  (Ss.one (St.expr (E.bm PySem.F.plainAttrs_list PySem.F.slot_list_append PySem.F.type_list_append mt_append mtf_append v2 (A.cons v7 A.nil))))) Ss.nil))))))))
  (Ss.one (St.ret (E.lock v1)))))))
theorem sc_witness : FnScope ["unit", "index", "line", "found", "path", "pair"] ["unit", "index", "line"] (defScope (topS 44)) := ⟨rfl, rfl, rfl, by decide +kernel, rfl, by decide +kernel, by decide +kernel⟩
theorem d_witness {P : Program} {w : World} {K : PySem.W.Frag} {mg : Str → Option Value} {base : Heap} (F : DefAt K mg "witness" (topS 44) ["unit", "index", "line"]) (c_arrivals : Cal P w K mg base 4 "arrivals" (spP ⟨K, mg⟩ f_arrivals)) (x_NoPath : ExcC K mg "NoPath" (He.ga K "NoPath")) : Cal P w K mg base 5 "witness" (spP ⟨K, mg⟩ f_witness) := by
  obtain ⟨f, fd, F, hm, hb⟩ := F
  refine Cal.mkP F hm sc_witness hb rfl rfl fun X W e1 e2 e3 e4 e5 b => ?_
  subst e1 e2 e3 e4 e5
  have nd := sc_witness.nd
  have g_arrivals := b.gl "arrivals" (by decide +kernel)
  have g_NoPath := b.gl "NoPath" (by decide +kernel)
  have v0 := fun {pos : Pos} => b.v (pos := pos) 0 "unit" (by decide +kernel)
  have v1 := fun {pos : Pos} => b.v (pos := pos) 1 "index" (by decide +kernel)
  have v2 := fun {pos : Pos} => b.v (pos := pos) 2 "line" (by decide +kernel)
  have v3 := fun {pos : Pos} => b.v (pos := pos) 3 "found" (by decide +kernel)
  have v5 := fun {pos : Pos} => b.v (pos := pos) 5 "pair" (by decide +kernel)
  have v4 := fun {pos : Pos} => b.v (pos := pos) 4 "path" (by decide +kernel)
  exact (Ss.cons (b.set nd 3 "found" (by decide +kernel) (E.call c_arrivals b.room b.tk g_arrivals (A.cons v0 A.nil)))
  (Ss.cons (St.ite (B.cmp (or_dnin b.hu65) opf_dnin (E.tup (A.cons v1 (A.cons v2 A.nil))) v3 (by with_unfolding_all rfl)) (Ss.one (St.raise0 b.calm b.tk x_NoPath g_NoPath)) Ss.nil)
  (Ss.cons (b.set nd 4 "path" (by decide +kernel) (E.lst true A.nil))
  (Ss.cons (b.set nd 5 "pair" (by decide +kernel) (E.tup (A.cons v1 (A.cons v2 A.nil))))
  (Ss.cons (St.whl b.po (B.notN v5) (Ss.cons (St.expr (E.bm PySem.F.plainAttrs_list PySem.F.slot_list_append PySem.F.type_list_append mt_append mtf_append v4 (A.cons (E.ix v5 E.int) A.nil)))
  (Ss.one (b.set nd 5 "pair" (by decide +kernel) (E.dget b.hu65 v3 v5)))))
  (Ss.one (St.ret (E.rev false v4))))))))
theorem sc_check_names : FnScope ["names", "index", "name"] ["names"] (defScope (topS 65)) := ⟨rfl, rfl, rfl, by decide +kernel, rfl, by decide +kernel, by decide +kernel⟩
theorem d_check_names {P : Program} {w : World} {K : PySem.W.Frag} {mg : Str → Option Value} {base : Heap} (F : DefAt K mg "check_names" (topS 65) ["names"]) (z_enumerate : mg "enumerate" = none) (k_NAMES : WTup K mg "NAMES" c_NAMES) (x_BadPass : ExcI P w K mg base "BadPass" "index" (He.ga K "BadPass")) : Cal P w K mg base 3 "check_names" (spP ⟨K, mg⟩ f_check_names) := by
  obtain ⟨f, fd, F, hm, hb⟩ := F
  refine Cal.mkP F hm sc_check_names hb rfl rfl fun X W e1 e2 e3 e4 e5 b => ?_
  subst e1 e2 e3 e4 e5
  have nd := sc_check_names.nd
  have g_enumerate := b.gl "enumerate" (by decide +kernel)
  have g_NAMES := b.gl "NAMES" (by decide +kernel)
  have g_BadPass := b.gl "BadPass" (by decide +kernel)
  have v0 := fun {pos : Pos} => b.v (pos := pos) 0 "names" (by decide +kernel)
  have v2 := fun {pos : Pos} => b.v (pos := pos) 2 "name" (by decide +kernel)
  have v1 := fun {pos : Pos} => b.v (pos := pos) 1 "index" (by decide +kernel)
  exact (Ss.one (St.for b.po b.calm (I.enum2 g_enumerate z_enumerate v0) (Tg.un b.calm (gns_cons (b.pg nd 1 "index" (by decide +kernel)) (gns_cons (b.pg nd 2 "name" (by decide +kernel)) gns_nil))) (Ss.one (St.ite (B.cmp (or_nin b.hu65) opf_nin v2 (E.gtup g_NAMES k_NAMES) (by with_unfolding_all rfl)) (Ss.one (St.raise1 b.calm b.tk x_BadPass b.room (by decide) g_BadPass (A.cons v1 A.nil))) Ss.nil))))
theorem sc_Bench_init : FnScope ["self", "unit"] ["self", "unit"] (defScope (clsS (topS 66) 0)) := ⟨rfl, rfl, rfl, by decide +kernel, rfl, by decide +kernel, by decide +kernel⟩
theorem d_Bench_init {P : Program} {w : World} {K : PySem.W.Frag} {mg : Str → Option Value} {base : Heap} {f : Addr} {fd : FuncData} (F : FunD K "__init__" "Bench.__init__" (defArgs (clsS (topS 66) 0)) (defBody (clsS (topS 66) 0)) (defScope (clsS (topS 66) 0)) [] [] f fd) (a_Bench_present : AttT K mg "Bench" "present") (a_Bench_places : AttT K mg "Bench" "places") (a_Unit_code : AttT K mg "Unit" "code") (z_len : mg "len" = none) (z_tuple : mg "tuple" = none) (z_range : mg "range" = none) (a_Bench_applied : AttT K mg "Bench" "applied") (a_Bench_past : AttT K mg "Bench" "past") : FnOk P w K mg base (L2.CX P w) 1 f fd ["self", "unit"] (spW ⟨K, mg⟩ f_Bench_init) := by
  refine fnW F sc_Bench_init rfl rfl fun X W e1 e2 e3 e4 e5 b => ?_
  subst e1 e2 e3 e4 e5
  have nd := sc_Bench_init.nd
  have g_len := b.gl "len" (by decide +kernel)
  have g_tuple := b.gl "tuple" (by decide +kernel)
  have g_range := b.gl "range" (by decide +kernel)
  have v0 := fun {pos : Pos} => b.v (pos := pos) 0 "self" (by decide +kernel)
  have v1 := fun {pos : Pos} => b.v (pos := pos) 1 "unit" (by decide +kernel)
  exact (Ss.cons (St.fld (atts_cons a_Bench_present atts_nil) v0 v1)
  (Ss.cons (St.fld (atts_cons a_Bench_places atts_nil) v0 (E.tupRg b.calm g_tuple z_tuple g_range z_range (E.callB cr_len cf_len g_len z_len (by decide +kernel) (A.cons (E.fld (atts_cons a_Unit_code atts_nil) v1) A.nil))))
  (Ss.cons (St.fld (atts_cons a_Bench_applied atts_nil) v0 (E.tup A.nil))
  (Ss.one (St.fld (atts_cons a_Bench_past atts_nil) v0 (E.lst true A.nil))))))
theorem sc_Bench_after : FnScope ["self", "names", "unit", "places", "name", "found", "place"] ["self", "names"] (defScope (clsS (topS 66) 4)) := ⟨rfl, rfl, rfl, by decide +kernel, rfl, by decide +kernel, by decide +kernel⟩
theorem d_Bench_after {P : Program} {w : World} {K : PySem.W.Frag} {mg : Str → Option Value} {base : Heap} {f : Addr} {fd : FuncData} (F : FunD K "after" "Bench.after" (defArgs (clsS (topS 66) 4)) (defBody (clsS (topS 66) 4)) (defScope (clsS (topS 66) 4)) [] [] f fd) (c_check_names : Cal P w K mg base 3 "check_names" (spP ⟨K, mg⟩ f_check_names)) (a_Bench_present : AttT K mg "Bench" "present") (a_Bench_places : AttT K mg "Bench" "places") (z_tuple : mg "tuple" = none) : FnOk P w K mg base (L2.CX P w) 4 f fd ["self", "names"] (spW ⟨K, mg⟩ f_Bench_after) := by
  refine fnW F sc_Bench_after rfl rfl fun X W e1 e2 e3 e4 e5 b => ?_
  subst e1 e2 e3 e4 e5
  have nd := sc_Bench_after.nd
  have g_check_names := b.gl "check_names" (by decide +kernel)
  have g_tuple := b.gl "tuple" (by decide +kernel)
  have v1 := fun {pos : Pos} => b.v (pos := pos) 1 "names" (by decide +kernel)
  have v0 := fun {pos : Pos} => b.v (pos := pos) 0 "self" (by decide +kernel)
  have v5 := fun {pos : Pos} => b.v (pos := pos) 5 "found" (by decide +kernel)
  have v2 := fun {pos : Pos} => b.v (pos := pos) 2 "unit" (by decide +kernel)
  have v3 := fun {pos : Pos} => b.v (pos := pos) 3 "places" (by decide +kernel)
  have t4 := fun {pos : Pos} => b.t (pos := pos) nd 4 "name" (by decide +kernel)
  exact (Ss.cons (St.expr (E.call c_check_names b.room b.tk g_check_names (A.cons v1 A.nil)))
  (Ss.cons (St.asg (E.tup (A.cons (E.fld (atts_cons a_Bench_present atts_nil) v0) (A.cons (E.fld (atts_cons a_Bench_places atts_nil) v0) A.nil))) (Tg.un b.calm (gns_cons (b.pg nd 2 "unit" (by decide +kernel)) (gns_cons (b.pg nd 3 "places" (by decide +kernel)) gns_nil))) (hw := Body.hwN b fun env h => by cases env; cases h; rfl))
  (Ss.cons (St.for b.po b.calm (I.any v1) t4 (Ss.cons (St.asg E.bad (Tg.un b.calm (gns_cons (b.pg nd 2 "unit" (by decide +kernel)) (gns_cons (b.pg nd 5 "found" (by decide +kernel)) gns_nil))))
  (Ss.one (b.set nd 3 "places" (by decide +kernel) (E.callTy call_tuple_of cf_tuple g_tuple z_tuple (by decide +kernel) (A.cons (E.lc (own := [("place", 6)]) false b.calm (b.hN ▸ nd) (I.any v5) (b.blk (by decide +kernel)) (CG.name (by decide)) (fun _ _ _ _ _ => blk_pg b.hN b.sc nd 6 "place" (by decide +kernel)) (fun _ _ _ _ _ => Ts.nil) (fun _ _ _ _ _ => (E.ix (b.bk.v 3 "places" (by decide +kernel)) (b.bk.v 6 "place" (by decide +kernel))))) A.nil))))))
  (Ss.one (St.ret (E.tup (A.cons v2 (A.cons v3 A.nil))))))))
theorem sc_Bench_apply : FnScope ["self", "names", "unit", "places"] ["self", "names"] (defScope (clsS (topS 66) 5)) := ⟨rfl, rfl, rfl, by decide +kernel, rfl, by decide +kernel, by decide +kernel⟩
theorem d_Bench_apply {P : Program} {w : World} {K : PySem.W.Frag} {mg : Str → Option Value} {base : Heap} {f : Addr} {fd : FuncData} {C : Addr} (hg : mg "Bench" = some (.ref C)) (hc : Cls K C) (hm : Meth K C "apply" f) (F : FunD K "apply" "Bench.apply" (defArgs (clsS (topS 66) 5)) (defBody (clsS (topS 66) 5)) (defScope (clsS (topS 66) 5)) [] [] f fd) (hbd : ∀ (u : Value) (rest : List Value), rest.length ≤ 5 → bindArgs fd ⟨u :: rest, []⟩ = (newTuple rest >>= fun t => pure [(("self" : Str), u), (("names" : Str), t)])) (mt_Bench_after : MtW P w K mg base 4 "Bench" "after" f_Bench_after) (a_Bench_past : AttT K mg "Bench" "past") (a_Bench_present : AttT K mg "Bench" "present") (a_Bench_places : AttT K mg "Bench" "places") (a_Bench_applied : AttT K mg "Bench" "applied") : MtV P w K mg base 6 "Bench" "apply" f_Bench_apply := by
  refine fnV hg hc hm F sc_Bench_apply rfl hbd fun X W e1 e2 e3 e4 e5 b => ?_
  subst e1 e2 e3 e4 e5
  have nd := sc_Bench_apply.nd
  have v0 := fun {pos : Pos} => b.v (pos := pos) 0 "self" (by decide +kernel)
  have v1 := fun {pos : Pos} => b.v (pos := pos) 1 "names" (by decide +kernel)
  have v2 := fun {pos : Pos} => b.v (pos := pos) 2 "unit" (by decide +kernel)
  have v3 := fun {pos : Pos} => b.v (pos := pos) 3 "places" (by decide +kernel)
  exact (Ss.cons (St.asg (E.methW mt_Bench_after b.room b.tk v0 (A.cons v1 A.nil)) (Tg.un b.calm (gns_cons (b.pg nd 2 "unit" (by decide +kernel)) (gns_cons (b.pg nd 3 "places" (by decide +kernel)) gns_nil))))
  (Ss.cons (St.ite (B.tru v1) (Ss.one (St.expr (E.bm PySem.F.plainAttrs_list PySem.F.slot_list_append PySem.F.type_list_append mt_append mtf_append (E.fld (atts_cons a_Bench_past atts_nil) v0) (A.cons (E.tup (A.cons (E.fld (atts_cons a_Bench_present atts_nil) v0) (A.cons (E.fld (atts_cons a_Bench_places atts_nil) v0) (A.cons (E.fld (atts_cons a_Bench_applied atts_nil) v0) A.nil)))) A.nil)))) Ss.nil)
  (Ss.cons (St.fld (atts_cons a_Bench_present atts_nil) v0 v2)
  (Ss.cons (St.fld (atts_cons a_Bench_places atts_nil) v0 v3)
  (Ss.one (St.fld (atts_cons a_Bench_applied atts_nil) v0 (E.addT (E.fld (atts_cons a_Bench_applied atts_nil) v0) v1)))))))
theorem sc_Bench_undo : FnScope ["self"] ["self"] (defScope (clsS (topS 66) 6)) := ⟨rfl, rfl, rfl, by decide +kernel, rfl, by decide +kernel, by decide +kernel⟩
theorem d_Bench_undo {P : Program} {w : World} {K : PySem.W.Frag} {mg : Str → Option Value} {base : Heap} {f : Addr} {fd : FuncData} (F : FunD K "undo" "Bench.undo" (defArgs (clsS (topS 66) 6)) (defBody (clsS (topS 66) 6)) (defScope (clsS (topS 66) 6)) [] [] f fd) (a_Bench_past : AttT K mg "Bench" "past") (x_NothingToUndo : ExcC K mg "NothingToUndo" (He.ga K "NothingToUndo")) (a_Bench_applied : AttT K mg "Bench" "applied") (a_Bench_places : AttT K mg "Bench" "places") (a_Bench_present : AttT K mg "Bench" "present") : FnOk P w K mg base (L2.CX P w) 1 f fd ["self"] (spW ⟨K, mg⟩ f_Bench_undo) := by
  refine fnW F sc_Bench_undo rfl rfl fun X W e1 e2 e3 e4 e5 b => ?_
  subst e1 e2 e3 e4 e5
  have nd := sc_Bench_undo.nd
  have g_NothingToUndo := b.gl "NothingToUndo" (by decide +kernel)
  have v0 := fun {pos : Pos} => b.v (pos := pos) 0 "self" (by decide +kernel)
  exact (Ss.cons (St.ite (B.not (B.tru (E.fld (atts_cons a_Bench_past atts_nil) v0))) (Ss.one (St.raise0 b.calm b.tk x_NothingToUndo g_NothingToUndo)) Ss.nil)
  (Ss.one (St.asg (E.bm0 PySem.F.plainAttrs_list PySem.F.slot_list_pop PySem.F.type_list_pop mt_pop mtf_pop (fun h => pe_bm0 PySem.F.plainAttrs_list PySem.F.slot_list_pop PySem.F.type_list_pop mt_pop h) (E.fld (atts_cons a_Bench_past atts_nil) v0)) (Tg.unG b.calm (gts_cons (Tg.fld (atts_cons a_Bench_present atts_nil) v0) (gts_cons (Tg.fld (atts_cons a_Bench_places atts_nil) v0) (gts_cons (Tg.fld (atts_cons a_Bench_applied atts_nil) v0) gts_nil)))))))
theorem sc_blocks : FnScope ["unit", "firsts", "index", "instruction", "starts", "handler", "first"] ["unit"] (defScope (topS 68)) := ⟨rfl, rfl, rfl, by decide +kernel, rfl, by decide +kernel, by decide +kernel⟩
theorem d_blocks {P : Program} {w : World} {K : PySem.W.Frag} {mg : Str → Option Value} {base : Heap} (F : DefAt K mg "blocks" (topS 68) ["unit"]) (a_Unit_code : AttT K mg "Unit" "code") (k_JUMPS : WTup K mg "JUMPS" c_JUMPS) (a_Unit_handlers : AttT K mg "Unit" "handlers") (z_enumerate : mg "enumerate" = none) (z_len : mg "len" = none) (k_LAST : WTup K mg "LAST" c_LAST) (z_sorted : mg "sorted" = none) (z_list : mg "list" = none) (z_zip : mg "zip" = none) : Cal P w K mg base 1 "blocks" (spP ⟨K, mg⟩ f_blocks) := by
  obtain ⟨f, fd, F, hm, hb⟩ := F
  refine Cal.mkP F hm sc_blocks hb rfl rfl fun X W e1 e2 e3 e4 e5 b => ?_
  subst e1 e2 e3 e4 e5
  have nd := sc_blocks.nd
  have g_enumerate := b.gl "enumerate" (by decide +kernel)
  have g_len := b.gl "len" (by decide +kernel)
  have g_LAST := b.gl "LAST" (by decide +kernel)
  have g_JUMPS := b.gl "JUMPS" (by decide +kernel)
  have g_sorted := b.gl "sorted" (by decide +kernel)
  have g_list := b.gl "list" (by decide +kernel)
  have g_zip := b.gl "zip" (by decide +kernel)
  have v0 := fun {pos : Pos} => b.v (pos := pos) 0 "unit" (by decide +kernel)
  have v1 := fun {pos : Pos} => b.v (pos := pos) 1 "firsts" (by decide +kernel)
  have v2 := fun {pos : Pos} => b.v (pos := pos) 2 "index" (by decide +kernel)
  have v3 := fun {pos : Pos} => b.v (pos := pos) 3 "instruction" (by decide +kernel)
  have v4 := fun {pos : Pos} => b.v (pos := pos) 4 "starts" (by decide +kernel)
  exact (Ss.cons (b.set nd 1 "firsts" (by decide +kernel) (E.add true (E.lst false (A.cons E.int A.nil)) (E.lc (own := [("instruction", 3)]) false b.calm (b.hN ▸ nd) (I.any (E.fld (atts_cons a_Unit_code atts_nil) v0)) (b.blk (by decide +kernel)) (CG.name (by decide)) (fun _ _ _ _ _ => blk_pg b.hN b.sc nd 3 "instruction" (by decide +kernel)) (fun _ _ _ _ _ => Ts.one (B.cmp (or_in b.hu65) opf_in (E.ix (b.bk.v 3 "instruction" (by decide +kernel)) E.int) (E.gtup (b.bk.gl "JUMPS" (by decide +kernel)) k_JUMPS) (by with_unfolding_all rfl))) (fun _ _ _ _ _ => (E.ix (b.bk.v 3 "instruction" (by decide +kernel)) E.int)))))
  (Ss.cons (b.set nd 1 "firsts" (by decide +kernel) (E.add true v1 (E.lc (own := [("handler", 5)]) false b.calm (b.hN ▸ nd) (I.any (E.fld (atts_cons a_Unit_handlers atts_nil) v0)) (b.blk (by decide +kernel)) (CG.name (by decide)) (fun _ _ _ _ _ => blk_pg b.hN b.sc nd 5 "handler" (by decide +kernel)) (fun _ _ _ _ _ => Ts.nil) (fun _ _ _ _ _ => (E.ix (b.bk.v 5 "handler" (by decide +kernel)) E.int)))))
  (Ss.cons (St.for b.po b.calm (I.enum2 g_enumerate z_enumerate (E.fld (atts_cons a_Unit_code atts_nil) v0)) (Tg.un b.calm (gns_cons (b.pg nd 2 "index" (by decide +kernel)) (gns_cons (b.pg nd 3 "instruction" (by decide +kernel)) gns_nil))) (Ss.one (St.ite (BW.t (BW.and (BW.t (BW.or (B.cmp (or_in b.hu65) opf_in (E.ix v3 E.int) (E.gtup g_JUMPS k_JUMPS) (by with_unfolding_all rfl)) (BW.or1 (B.cmp (or_in b.hu65) opf_in (E.ix v3 E.int) (E.gtup g_LAST k_LAST) (by with_unfolding_all rfl))))) (BW.and1 (B.lt (E.add false v2 E.int) (E.callB cr_len cf_len g_len z_len (by decide +kernel) (A.cons (E.fld (atts_cons a_Unit_code atts_nil) v0) A.nil)))))) (Ss.one (St.expr (E.bm PySem.F.plainAttrs_list PySem.F.slot_list_append PySem.F.type_list_append mt_append mtf_append v1 (A.cons (E.add false v2 E.int) A.nil)))) Ss.nil)))
  (Ss.cons (b.set nd 4 "starts" (by decide +kernel) (E.sortSc (own := [("first", 6)]) false b.calm g_sorted z_sorted (b.hN ▸ nd) (I.any v1) (b.blk (by decide +kernel)) (CG.name (by decide)) (fun _ _ _ _ _ => blk_pg b.hN b.sc nd 6 "first" (by decide +kernel)) (fun _ _ _ _ _ => Ts.nil) (fun _ _ _ _ _ => (b.bk.v 6 "first" (by decide +kernel)))))
  (Ss.one (St.ret (E.zipL (mu := false) b.calm g_list z_list g_zip z_zip (A.cons v4 (A.cons (E.add false (E.sl false v4 (Po.some E.int) Po.none) (E.lst false (A.cons (E.callB cr_len cf_len g_len z_len (by decide +kernel) (A.cons (E.fld (atts_cons a_Unit_code atts_nil) v0) A.nil)) A.nil))) A.nil)))))))))
theorem sc_check_order : FnScope ["order", "many", "number"] ["order", "many"] (defScope (topS 69)) := ⟨rfl, rfl, rfl, by decide +kernel, rfl, by decide +kernel, by decide +kernel⟩
theorem d_check_order {P : Program} {w : World} {K : PySem.W.Frag} {mg : Str → Option Value} {base : Heap} (F : DefAt K mg "check_order" (topS 69) ["order", "many"]) (c_in_range : Cal P w K mg base 1 "in_range" (spP ⟨K, mg⟩ f_in_range)) (z_len : mg "len" = none) (x_BadOrder : ExcC K mg "BadOrder" (He.ga K "BadOrder")) (z_sorted : mg "sorted" = none) (z_list : mg "list" = none) (z_range : mg "range" = none) : Cal P w K mg base 2 "check_order" (spP ⟨K, mg⟩ f_check_order) := by
  obtain ⟨f, fd, F, hm, hb⟩ := F
  refine Cal.mkP F hm sc_check_order hb rfl rfl fun X W e1 e2 e3 e4 e5 b => ?_
  subst e1 e2 e3 e4 e5
  have nd := sc_check_order.nd
  have g_len := b.gl "len" (by decide +kernel)
  have g_BadOrder := b.gl "BadOrder" (by decide +kernel)
  have g_in_range := b.gl "in_range" (by decide +kernel)
  have g_sorted := b.gl "sorted" (by decide +kernel)
  have g_list := b.gl "list" (by decide +kernel)
  have g_range := b.gl "range" (by decide +kernel)
  have v0 := fun {pos : Pos} => b.v (pos := pos) 0 "order" (by decide +kernel)
  have v1 := fun {pos : Pos} => b.v (pos := pos) 1 "many" (by decide +kernel)
  have v2 := fun {pos : Pos} => b.v (pos := pos) 2 "number" (by decide +kernel)
  have t2 := fun {pos : Pos} => b.t (pos := pos) nd 2 "number" (by decide +kernel)
  exact (Ss.cons (St.ite (BW.t (BW.or (B.ne b.hu (E.callB cr_len cf_len g_len z_len (by decide +kernel) (A.cons v0 A.nil)) v1) (BW.or1 (B.ne b.hu (E.ix v0 E.int) E.int)))) (Ss.one (St.raise0 b.calm b.tk x_BadOrder g_BadOrder)) Ss.nil)
  (Ss.cons (St.for b.po b.calm (I.any v0) t2 (Ss.one (St.ite (B.not (B.tru (E.call c_in_range b.room b.tk g_in_range (A.cons v2 (A.cons E.int (A.cons (E.sub v1 E.int) A.nil)))))) (Ss.one (St.raise0 b.calm b.tk x_BadOrder g_BadOrder)) Ss.nil)))
  (Ss.one (St.ite (B.ne b.hu (E.callB cr_sortedI cf_sort g_sorted z_sorted (by decide +kernel) (A.cons v0 A.nil)) (E.lstRg (mu := false) b.calm g_list z_list g_range z_range v1)) (Ss.one (St.raise0 b.calm b.tk x_BadOrder g_BadOrder)) Ss.nil))))
theorem sc_reorder : FnScope ["unit", "order", "parts", "row", "places", "code", "lines", "origins", "item", "handlers", "handler", "place", "instruction"] ["unit", "order"] (defScope (topS 72)) := ⟨rfl, rfl, rfl, by decide +kernel, rfl, by decide +kernel, by decide +kernel⟩
theorem d_reorder {P : Program} {w : World} {K : PySem.W.Frag} {mg : Str → Option Value} {base : Heap} (F : DefAt K mg "reorder" (topS 72) ["unit", "order"]) (c_blocks : Cal P w K mg base 1 "blocks" (spP ⟨K, mg⟩ f_blocks)) (c_check_order : Cal P w K mg base 2 "check_order" (spP ⟨K, mg⟩ f_check_order)) (z_len : mg "len" = none) (z_enumerate : mg "enumerate" = none) (z_tuple : mg "tuple" = none) (z_isinstance : mg "isinstance" = none) (a_Unit_code : AttT K mg "Unit" "code") (k_JUMPS : WTup K mg "JUMPS" c_JUMPS) (a_Unit_lines : AttT K mg "Unit" "lines") (a_Unit_handlers : AttT K mg "Unit" "handlers") (mk3_Unit : Mka P w K mg base 4 "Unit" i_Unit_init 3 []) : Cal P w K mg base 6 "reorder" (spP ⟨K, mg⟩ f_reorder) := by
  obtain ⟨f, fd, F, hm, hb⟩ := F
  refine Cal.mkP F hm sc_reorder hb rfl rfl fun X W e1 e2 e3 e4 e5 b => ?_
  subst e1 e2 e3 e4 e5
  have nd := sc_reorder.nd
  have g_blocks := b.gl "blocks" (by decide +kernel)
  have g_len := b.gl "len" (by decide +kernel)
  have g_check_order := b.gl "check_order" (by decide +kernel)
  have g_enumerate := b.gl "enumerate" (by decide +kernel)
  have g_tuple := b.gl "tuple" (by decide +kernel)
  have g_isinstance := b.gl "isinstance" (by decide +kernel)
  have g_JUMPS := b.gl "JUMPS" (by decide +kernel)
  have g_Unit := b.gl "Unit" (by decide +kernel)
  have v0 := fun {pos : Pos} => b.v (pos := pos) 0 "unit" (by decide +kernel)
  have v1 := fun {pos : Pos} => b.v (pos := pos) 1 "order" (by decide +kernel)
  have v2 := fun {pos : Pos} => b.v (pos := pos) 2 "parts" (by decide +kernel)
  have v3 := fun {pos : Pos} => b.v (pos := pos) 3 "row" (by decide +kernel)
  have v8 := fun {pos : Pos} => b.v (pos := pos) 8 "item" (by decide +kernel)
  have v5 := fun {pos : Pos} => b.v (pos := pos) 5 "code" (by decide +kernel)
  have v4 := fun {pos : Pos} => b.v (pos := pos) 4 "places" (by decide +kernel)
  have v6 := fun {pos : Pos} => b.v (pos := pos) 6 "lines" (by decide +kernel)
  have v7 := fun {pos : Pos} => b.v (pos := pos) 7 "origins" (by decide +kernel)
  have v12 := fun {pos : Pos} => b.v (pos := pos) 12 "instruction" (by decide +kernel)
  have v9 := fun {pos : Pos} => b.v (pos := pos) 9 "handlers" (by decide +kernel)
  have t8 := fun {pos : Pos} => b.t (pos := pos) nd 8 "item" (by decide +kernel)
  have t10 := fun {pos : Pos} => b.t (pos := pos) nd 10 "handler" (by decide +kernel)
  exact (Ss.cons (b.set nd 2 "parts" (by decide +kernel) (E.call c_blocks b.room b.tk g_blocks (A.cons v0 A.nil)))
  (Ss.cons (St.expr (E.call c_check_order b.room b.tk g_check_order (A.cons v1 (A.cons (E.callB cr_len cf_len g_len z_len (by decide +kernel) (A.cons v2 A.nil)) A.nil))))
  (Ss.cons (b.set nd 3 "row" (by decide +kernel) E.bad)
  (Ss.cons (Body.setDcm b nd 4 "places" (by decide +kernel) g_enumerate z_enumerate v3 (by decide +kernel))
  (Ss.cons (b.set nd 5 "code" (by decide +kernel) (E.lst true A.nil))
  (Ss.cons (b.set nd 6 "lines" (by decide +kernel) (E.lst true A.nil))
  (Ss.cons (b.set nd 7 "origins" (by decide +kernel) (E.lst true A.nil))
  (Ss.cons (St.for b.po b.calm (I.any v3) t8 (Ss.one (St.ite (B.tru (E.callB call_isi cf_isi g_isinstance z_isinstance (by decide +kernel) (A.cons v8 (A.cons (E.ty g_tuple z_tuple (by decide +kernel)) A.nil)))) (Ss.cons (St.expr (E.bm PySem.F.plainAttrs_list PySem.F.slot_list_append PySem.F.type_list_append mt_append mtf_append v5 (A.cons (E.tup (A.cons E.str (A.cons (E.dmget v4 (E.add false (E.ix v8 E.int) E.int)) A.nil))) A.nil)))
  (Ss.cons (St.expr (E.bm PySem.F.plainAttrs_list PySem.F.slot_list_append PySem.F.type_list_append mt_append mtf_append v6 (A.cons E.int A.nil)))
  (Ss.one (St.expr (E.bm PySem.F.plainAttrs_list PySem.F.slot_list_append PySem.F.type_list_append mt_append mtf_append v7 (A.cons E.non A.nil)))))) (Ss.cons (b.set nd 12 "instruction" (by decide +kernel) (E.ix (E.fld (atts_cons a_Unit_code atts_nil) v0) v8))
  (Ss.cons (St.ite (B.cmp (or_in b.hu65) opf_in (E.ix v12 E.int) (E.gtup g_JUMPS k_JUMPS) (by with_unfolding_all rfl)) (Ss.one (b.set nd 12 "instruction" (by decide +kernel) (E.tup (A.cons (E.ix v12 E.int) (A.cons (E.dmget v4 (E.ix v12 E.int)) A.nil))))) Ss.nil)
  (Ss.cons (St.expr (E.bm PySem.F.plainAttrs_list PySem.F.slot_list_append PySem.F.type_list_append mt_append mtf_append v5 (A.cons v12 A.nil)))
  (Ss.cons (St.expr (E.bm PySem.F.plainAttrs_list PySem.F.slot_list_append PySem.F.type_list_append mt_append mtf_append v6 (A.cons (E.ix (E.fld (atts_cons a_Unit_lines atts_nil) v0) v8) A.nil)))
  (Ss.one (St.expr (E.bm PySem.F.plainAttrs_list PySem.F.slot_list_append PySem.F.type_list_append mt_append mtf_append v7 (A.cons v8 A.nil)))))))))))
  (Ss.cons (b.set nd 9 "handlers" (by decide +kernel) (E.lst false A.nil))
  (Ss.cons (St.for b.po b.calm (I.any (E.fld (atts_cons a_Unit_handlers atts_nil) v0)) t10 (Ss.one (b.set nd 9 "handlers" (by decide +kernel) (E.add false v9 E.bad))))
  (Ss.one (St.ret (E.tup (A.cons (E.make mk3_Unit b.room b.tk g_Unit (A.cons v5 (A.cons v6 (A.cons v9 A.nil)))) (A.cons (E.callTy call_tuple_of cf_tuple g_tuple z_tuple (by decide +kernel) (A.cons v7 A.nil)) A.nil)))))))))))))))
theorem sc_unfolded : FnScope ["number", "half", "odd"] ["number"] (defScope (topS 76)) := ⟨rfl, rfl, rfl, by decide +kernel, rfl, by decide +kernel, by decide +kernel⟩
theorem d_unfolded {P : Program} {w : World} {K : PySem.W.Frag} {mg : Str → Option Value} {base : Heap} (F : DefAt K mg "unfolded" (topS 76) ["number"]) (z_divmod : mg "divmod" = none) : Cal P w K mg base 1 "unfolded" (spP ⟨K, mg⟩ f_unfolded) := by
  obtain ⟨f, fd, F, hm, hb⟩ := F
  refine Cal.mkP F hm sc_unfolded hb rfl rfl fun X W e1 e2 e3 e4 e5 b => ?_
  subst e1 e2 e3 e4 e5
  have nd := sc_unfolded.nd
  have g_divmod := b.gl "divmod" (by decide +kernel)
  have v0 := fun {pos : Pos} => b.v (pos := pos) 0 "number" (by decide +kernel)
  have v2 := fun {pos : Pos} => b.v (pos := pos) 2 "odd" (by decide +kernel)
  have v1 := fun {pos : Pos} => b.v (pos := pos) 1 "half" (by decide +kernel)
  exact (Ss.cons (St.asg (E.callB call_divmod cf_divmod g_divmod z_divmod (by decide +kernel) (A.cons v0 (A.cons E.int A.nil))) (Tg.un b.calm (gns_cons (b.pg nd 1 "half" (by decide +kernel)) (gns_cons (b.pg nd 2 "odd" (by decide +kernel)) gns_nil))))
  (Ss.cons (St.ite (B.eq b.hu v2 E.int) (Ss.one (St.ret (E.sub (E.neg un_neg v1) E.int))) Ss.nil)
  (Ss.one (St.ret v1))))
theorem sc_unpacked : FnScope ["data", "at", "number", "factor", "low"] ["data", "at"] (defScope (topS 77)) := ⟨rfl, rfl, rfl, by decide +kernel, rfl, by decide +kernel, by decide +kernel⟩
theorem d_unpacked {P : Program} {w : World} {K : PySem.W.Frag} {mg : Str → Option Value} {base : Heap} (F : DefAt K mg "unpacked" (topS 77) ["data", "at"]) (k_GROUP : ∃ t, mg "GROUP" = some (.int c_GROUP t)) (z_len : mg "len" = none) (x_BadData : ExcI P w K mg base "BadData" "index" (He.ga K "BadData")) : Cal P w K mg base 3 "unpacked" (spP ⟨K, mg⟩ f_unpacked) := by
  obtain ⟨f, fd, F, hm, hb⟩ := F
  refine Cal.mkP F hm sc_unpacked hb rfl rfl fun X W e1 e2 e3 e4 e5 b => ?_
  subst e1 e2 e3 e4 e5
  have nd := sc_unpacked.nd
  have g_GROUP := b.gl "GROUP" (by decide +kernel)
  have g_len := b.gl "len" (by decide +kernel)
  have g_BadData := b.gl "BadData" (by decide +kernel)
  have v0 := fun {pos : Pos} => b.v (pos := pos) 0 "data" (by decide +kernel)
  have v1 := fun {pos : Pos} => b.v (pos := pos) 1 "at" (by decide +kernel)
  have v4 := fun {pos : Pos} => b.v (pos := pos) 4 "low" (by decide +kernel)
  have v3 := fun {pos : Pos} => b.v (pos := pos) 3 "factor" (by decide +kernel)
  have v2 := fun {pos : Pos} => b.v (pos := pos) 2 "number" (by decide +kernel)
  exact (Ss.cons (b.set nd 2 "number" (by decide +kernel) E.int)
  (Ss.cons (b.set nd 3 "factor" (by decide +kernel) E.int)
  (Ss.one (St.whl b.po (B.tru E.bl) (Ss.cons (St.ite (BW.t (BW.or (B.ge v1 (E.callB cr_len cf_len g_len z_len (by decide +kernel) (A.cons v0 A.nil))) (BW.or1 (B.not (B.chain op_le op_lt opf_B0 opf_B0 E.int (E.ix v0 v1) (E.mul false E.int (E.gint g_GROUP k_GROUP))))))) (Ss.one (St.raise1 b.calm b.tk x_BadData b.room (by decide) g_BadData (A.cons v1 A.nil))) Ss.nil)
  (Ss.cons (b.set nd 4 "low" (by decide +kernel) (E.ix v0 v1))
  (Ss.cons (b.aug nd 1 "at" (by decide +kernel) pip_addA opf_addA E.int)
  (Ss.cons (St.ite (B.lt v4 (E.gint g_GROUP k_GROUP)) (Ss.cons (St.ite (BW.t (BW.and (B.eq b.hu v4 E.int) (BW.and1 (B.gt v3 E.int)))) (Ss.one (St.raise1 b.calm b.tk x_BadData b.room (by decide) g_BadData (A.cons (E.sub v1 E.int) A.nil))) Ss.nil)
  (Ss.one (St.ret (E.tup (A.cons (E.add false v2 (E.mul false v4 v3)) (A.cons v1 A.nil)))))) Ss.nil)
  (Ss.cons (b.aug nd 2 "number" (by decide +kernel) pip_addA opf_addA (E.mul false (E.sub v4 (E.gint g_GROUP k_GROUP)) v3))
  (Ss.one (b.set nd 3 "factor" (by decide +kernel) (E.mul false v3 (E.gint g_GROUP k_GROUP)))))))))))))
theorem sc_read_stretches : FnScope ["data", "found", "at", "line", "total", "many", "step", "other"] ["data"] (defScope (topS 78)) := ⟨rfl, rfl, rfl, by decide +kernel, rfl, by decide +kernel, by decide +kernel⟩
theorem d_read_stretches {P : Program} {w : World} {K : PySem.W.Frag} {mg : Str → Option Value} {base : Heap} (F : DefAt K mg "read_stretches" (topS 78) ["data"]) (c_unpacked : Cal P w K mg base 3 "unpacked" (spP ⟨K, mg⟩ f_unpacked)) (c_unfolded : Cal P w K mg base 1 "unfolded" (spP ⟨K, mg⟩ f_unfolded)) (z_len : mg "len" = none) (k_MOST_LINES : ∃ t, mg "MOST_LINES" = some (.int c_MOST_LINES t)) (x_BadData : ExcI P w K mg base "BadData" "index" (He.ga K "BadData")) (k_LINES : ∃ t, mg "LINES" = some (.int c_LINES t)) : Cal P w K mg base 4 "read_stretches" (spP ⟨K, mg⟩ f_read_stretches) := by
  obtain ⟨f, fd, F, hm, hb⟩ := F
  refine Cal.mkP F hm sc_read_stretches hb rfl rfl fun X W e1 e2 e3 e4 e5 b => ?_
  subst e1 e2 e3 e4 e5
  have nd := sc_read_stretches.nd
  have g_len := b.gl "len" (by decide +kernel)
  have g_unpacked := b.gl "unpacked" (by decide +kernel)
  have g_MOST_LINES := b.gl "MOST_LINES" (by decide +kernel)
  have g_BadData := b.gl "BadData" (by decide +kernel)
  have g_unfolded := b.gl "unfolded" (by decide +kernel)
  have g_LINES := b.gl "LINES" (by decide +kernel)
  have v2 := fun {pos : Pos} => b.v (pos := pos) 2 "at" (by decide +kernel)
  have v0 := fun {pos : Pos} => b.v (pos := pos) 0 "data" (by decide +kernel)
  have v5 := fun {pos : Pos} => b.v (pos := pos) 5 "many" (by decide +kernel)
  have v4 := fun {pos : Pos} => b.v (pos := pos) 4 "total" (by decide +kernel)
  have v3 := fun {pos : Pos} => b.v (pos := pos) 3 "line" (by decide +kernel)
  have v6 := fun {pos : Pos} => b.v (pos := pos) 6 "step" (by decide +kernel)
  have v7 := fun {pos : Pos} => b.v (pos := pos) 7 "other" (by decide +kernel)
  have v1 := fun {pos : Pos} => b.v (pos := pos) 1 "found" (by decide +kernel)
  exact (Ss.cons (b.set nd 1 "found" (by decide +kernel) (E.lst true A.nil))
  (Ss.cons (b.set nd 2 "at" (by decide +kernel) E.int)
  (Ss.cons (b.set nd 3 "line" (by decide +kernel) E.int)
  (Ss.cons (b.set nd 4 "total" (by decide +kernel) E.int)
  (Ss.cons (St.whl b.po (B.lt v2 (E.callB cr_len cf_len g_len z_len (by decide +kernel) (A.cons v0 A.nil))) (Ss.cons (St.asg (E.call c_unpacked b.room b.tk g_unpacked (A.cons v0 (A.cons v2 A.nil))) (Tg.un b.calm (gns_cons (b.pg nd 5 "many" (by decide +kernel)) (gns_cons (b.pg nd 2 "at" (by decide +kernel)) gns_nil))))
  (Ss.cons (b.aug nd 4 "total" (by decide +kernel) pip_addA opf_addA (E.add false v5 E.int))
  (Ss.cons (St.ite (B.gt v4 (E.gint g_MOST_LINES k_MOST_LINES)) (Ss.one (St.raise1 b.calm b.tk x_BadData b.room (by decide) g_BadData (A.cons (E.sub v2 E.int) A.nil))) Ss.nil)
  (Ss.cons (St.asg (E.call c_unpacked b.room b.tk g_unpacked (A.cons v0 (A.cons v2 A.nil))) (Tg.un b.calm (gns_cons (b.pg nd 6 "step" (by decide +kernel)) (gns_cons (b.pg nd 2 "at" (by decide +kernel)) gns_nil))))
  (Ss.cons (b.set nd 7 "other" (by decide +kernel) (E.add false v3 (E.call c_unfolded b.room b.tk g_unfolded (A.cons v6 A.nil))))
  (Ss.cons (St.ite (BW.t (BW.or (B.not (B.chain op_le op_le opf_B0 opf_B0 E.int v7 (E.gint g_LINES k_LINES))) (BW.or1 (BW.t (BW.and (B.tru v1) (BW.and1 (B.eq b.hu v7 v3))))))) (Ss.one (St.raise1 b.calm b.tk x_BadData b.room (by decide) g_BadData (A.cons (E.sub v2 E.int) A.nil))) Ss.nil)
  (Ss.cons (St.expr (E.bm PySem.F.plainAttrs_list PySem.F.slot_list_append PySem.F.type_list_append mt_append mtf_append v1 (A.cons (E.tup (A.cons v7 (A.cons (E.add false v5 E.int) A.nil))) A.nil)))
  (Ss.one (b.set nd 3 "line" (by decide +kernel) v7))))))))))
  (Ss.one (St.ret v1)))))))
theorem sc_unpack_lines : FnScope ["data", "lines", "line", "many"] ["data"] (defScope (topS 79)) := ⟨rfl, rfl, rfl, by decide +kernel, rfl, by decide +kernel, by decide +kernel⟩
theorem d_unpack_lines {P : Program} {w : World} {K : PySem.W.Frag} {mg : Str → Option Value} {base : Heap} (F : DefAt K mg "unpack_lines" (topS 79) ["data"]) (c_read_stretches : Cal P w K mg base 4 "read_stretches" (spP ⟨K, mg⟩ f_read_stretches)) (z_tuple : mg "tuple" = none) : Cal P w K mg base 5 "unpack_lines" (spP ⟨K, mg⟩ f_unpack_lines) := by
  obtain ⟨f, fd, F, hm, hb⟩ := F
  refine Cal.mkP F hm sc_unpack_lines hb rfl rfl fun X W e1 e2 e3 e4 e5 b => ?_
  subst e1 e2 e3 e4 e5
  have nd := sc_unpack_lines.nd
  have g_read_stretches := b.gl "read_stretches" (by decide +kernel)
  have g_tuple := b.gl "tuple" (by decide +kernel)
  have v0 := fun {pos : Pos} => b.v (pos := pos) 0 "data" (by decide +kernel)
  have v1 := fun {pos : Pos} => b.v (pos := pos) 1 "lines" (by decide +kernel)
  have v2 := fun {pos : Pos} => b.v (pos := pos) 2 "line" (by decide +kernel)
  have v3 := fun {pos : Pos} => b.v (pos := pos) 3 "many" (by decide +kernel)
  exact (Ss.cons (b.set nd 1 "lines" (by decide +kernel) (E.lst false A.nil))
  (Ss.cons (St.for b.po b.calm (I.any (E.call c_read_stretches b.room b.tk g_read_stretches (A.cons v0 A.nil))) (Tg.un b.calm (gns_cons (b.pg nd 2 "line" (by decide +kernel)) (gns_cons (b.pg nd 3 "many" (by decide +kernel)) gns_nil))) (Ss.one (b.set nd 1 "lines" (by decide +kernel) (E.add false v1 (E.mul false (E.lst false (A.cons v2 A.nil)) v3)))))
  (Ss.one (St.ret (E.callTy call_tuple_of cf_tuple g_tuple z_tuple (by decide +kernel) (A.cons v1 A.nil))))))
theorem sc_line_at : FnScope ["data", "index", "rest", "line", "many"] ["data", "index"] (defScope (topS 80)) := ⟨rfl, rfl, rfl, by decide +kernel, rfl, by decide +kernel, by decide +kernel⟩
theorem d_line_at {P : Program} {w : World} {K : PySem.W.Frag} {mg : Str → Option Value} {base : Heap} (F : DefAt K mg "line_at" (topS 80) ["data", "index"]) (c_read_stretches : Cal P w K mg base 4 "read_stretches" (spP ⟨K, mg⟩ f_read_stretches)) (x_BadIndex : ExcC K mg "BadIndex" (He.ga K "BadIndex")) : Cal P w K mg base 5 "line_at" (spP ⟨K, mg⟩ f_line_at) := by
  obtain ⟨f, fd, F, hm, hb⟩ := F
  refine Cal.mkP F hm sc_line_at hb rfl rfl fun X W e1 e2 e3 e4 e5 b => ?_
  subst e1 e2 e3 e4 e5
  have nd := sc_line_at.nd
  have g_read_stretches := b.gl "read_stretches" (by decide +kernel)
  have g_BadIndex := b.gl "BadIndex" (by decide +kernel)
  have v1 := fun {pos : Pos} => b.v (pos := pos) 1 "index" (by decide +kernel)
  have v0 := fun {pos : Pos} => b.v (pos := pos) 0 "data" (by decide +kernel)
  have v2 := fun {pos : Pos} => b.v (pos := pos) 2 "rest" (by decide +kernel)
  have v4 := fun {pos : Pos} => b.v (pos := pos) 4 "many" (by decide +kernel)
  have v3 := fun {pos : Pos} => b.v (pos := pos) 3 "line" (by decide +kernel)
  exact (Ss.cons (b.set nd 2 "rest" (by decide +kernel) v1)
  (Ss.cons (St.for b.po b.calm (I.any (E.call c_read_stretches b.room b.tk g_read_stretches (A.cons v0 A.nil))) (Tg.un b.calm (gns_cons (b.pg nd 3 "line" (by decide +kernel)) (gns_cons (b.pg nd 4 "many" (by decide +kernel)) gns_nil))) (Ss.cons (St.ite (B.chain op_le op_lt opf_B0 opf_B0 E.int v2 v4) (Ss.one (St.ret v3)) Ss.nil)
  (Ss.one (b.aug nd 2 "rest" (by decide +kernel) pip_sub opf_I0 v4))))
  (Ss.one (St.raise0 b.calm b.tk x_BadIndex g_BadIndex))))
theorem sc_number_of : FnScope ["word", "least", "greatest", "digits", "digit", "number"] ["word", "least", "greatest"] (defScope (topS 83)) := ⟨rfl, rfl, rfl, by decide +kernel, rfl, by decide +kernel, by decide +kernel⟩
theorem d_number_of {P : Program} {w : World} {K : PySem.W.Frag} {mg : Str → Option Value} {base : Heap} (F : DefAt K mg "number_of" (topS 83) ["word", "least", "greatest"]) (z_len : mg "len" = none) (k_FIGURES : ∃ t, mg "FIGURES" = some (.str c_FIGURES t)) (z_int : mg "int" = none) : Cal P w K mg base 1 "number_of" (spP ⟨K, mg⟩ f_number_of) := by
  obtain ⟨f, fd, F, hm, hb⟩ := F
  refine Cal.mkP F hm sc_number_of hb rfl rfl fun X W e1 e2 e3 e4 e5 b => ?_
  subst e1 e2 e3 e4 e5
  have nd := sc_number_of.nd
  have g_len := b.gl "len" (by decide +kernel)
  have g_FIGURES := b.gl "FIGURES" (by decide +kernel)
  have g_int := b.gl "int" (by decide +kernel)
  have v0 := fun {pos : Pos} => b.v (pos := pos) 0 "word" (by decide +kernel)
  have v1 := fun {pos : Pos} => b.v (pos := pos) 1 "least" (by decide +kernel)
  have v3 := fun {pos : Pos} => b.v (pos := pos) 3 "digits" (by decide +kernel)
  have v4 := fun {pos : Pos} => b.v (pos := pos) 4 "digit" (by decide +kernel)
  have v5 := fun {pos : Pos} => b.v (pos := pos) 5 "number" (by decide +kernel)
  have v2 := fun {pos : Pos} => b.v (pos := pos) 2 "greatest" (by decide +kernel)
  have t4 := fun {pos : Pos} => b.t (pos := pos) nd 4 "digit" (by decide +kernel)
  exact (Ss.cons (b.set nd 3 "digits" (by decide +kernel) v0)
  (Ss.cons (St.ite (BW.t (BW.and (B.eq b.hu (E.sl false v0 Po.none (Po.some E.int)) E.str) (BW.and1 (B.lt v1 E.int)))) (Ss.one (b.set nd 3 "digits" (by decide +kernel) (E.sl false v0 (Po.some E.int) Po.none))) Ss.nil)
  (Ss.cons (St.ite (BW.t (BW.or (B.eq b.hu v3 E.str) (BW.or1 (B.gt (E.callB cr_len cf_len g_len z_len (by decide +kernel) (A.cons v3 A.nil)) E.int)))) (Ss.one (St.ret E.non)) Ss.nil)
  (Ss.cons (St.for b.po b.calm (I.any v3) t4 (Ss.one (St.ite (B.cmp (or_nin b.hu65) opf_nin v4 (E.gstr g_FIGURES k_FIGURES) (by with_unfolding_all rfl)) (Ss.one (St.ret E.non)) Ss.nil)))
  (Ss.cons (St.ite (BW.t (BW.and (B.eq b.hu (E.ix v3 E.int) E.str) (BW.and1 (BW.t (BW.or (B.gt (E.callB cr_len cf_len g_len z_len (by decide +kernel) (A.cons v3 A.nil)) E.int) (BW.or1 (B.ne b.hu v3 v0))))))) (Ss.one (St.ret E.non)) Ss.nil)
  (Ss.cons (b.set nd 5 "number" (by decide +kernel) (E.callTy cr_int2 cf_int2 g_int z_int (by decide +kernel) (A.cons v0 A.nil)))
  (Ss.cons (St.ite (B.not (B.chain op_le op_le opf_B0 opf_B0 v1 v5 v2)) (Ss.one (St.ret E.non)) Ss.nil)
  (Ss.one (St.ret v5)))))))))
theorem sc_instruction_of : FnScope ["words", "row", "line", "word", "item"] ["words", "row"] (defScope (topS 85)) := ⟨rfl, rfl, rfl, by decide +kernel, rfl, by decide +kernel, by decide +kernel⟩
theorem d_instruction_of {P : Program} {w : World} {K : PySem.W.Frag} {mg : Str → Option Value} {base : Heap} (F : DefAt K mg "instruction_of" (topS 85) ["words", "row"]) (c_number_of : Cal P w K mg base 1 "number_of" (spP ⟨K, mg⟩ f_number_of)) (k_LINES : ∃ t, mg "LINES" = some (.int c_LINES t)) (x_BadText : ExcI2 P w K mg base "BadText" "row" "word" (He.ga K "BadText")) (z_len : mg "len" = none) (k_PLAIN : WTup K mg "PLAIN" c_PLAIN) (k_NAMED : WTup K mg "NAMED" c_NAMED) (k_JUMPS : WTup K mg "JUMPS" c_JUMPS) : Cal P w K mg base 3 "instruction_of" (spP ⟨K, mg⟩ f_instruction_of) := by
  obtain ⟨f, fd, F, hm, hb⟩ := F
  refine Cal.mkP F hm sc_instruction_of hb rfl rfl fun X W e1 e2 e3 e4 e5 b => ?_
  subst e1 e2 e3 e4 e5
  have nd := sc_instruction_of.nd
  have g_LINES := b.gl "LINES" (by decide +kernel)
  have g_number_of := b.gl "number_of" (by decide +kernel)
  have g_BadText := b.gl "BadText" (by decide +kernel)
  have g_len := b.gl "len" (by decide +kernel)
  have g_PLAIN := b.gl "PLAIN" (by decide +kernel)
  have g_NAMED := b.gl "NAMED" (by decide +kernel)
  have g_JUMPS := b.gl "JUMPS" (by decide +kernel)
  have v0 := fun {pos : Pos} => b.v (pos := pos) 0 "words" (by decide +kernel)
  have v2 := fun {pos : Pos} => b.v (pos := pos) 2 "line" (by decide +kernel)
  have v1 := fun {pos : Pos} => b.v (pos := pos) 1 "row" (by decide +kernel)
  have v3 := fun {pos : Pos} => b.v (pos := pos) 3 "word" (by decide +kernel)
  have v4 := fun {pos : Pos} => b.v (pos := pos) 4 "item" (by decide +kernel)
  exact (Ss.cons (b.set nd 2 "line" (by decide +kernel) (E.call c_number_of b.room b.tk g_number_of (A.cons (E.ix v0 E.int) (A.cons E.int (A.cons (E.gint g_LINES k_LINES) A.nil)))))
  (Ss.cons (St.ite (B.isN v2) (Ss.one (St.raise2 b.calm b.tk x_BadText b.room (by decide) g_BadText (A.cons v1 (A.cons E.int A.nil)))) Ss.nil)
  (Ss.cons (b.set nd 3 "word" (by decide +kernel) E.str)
  (Ss.cons (St.ite (B.gt (E.callB cr_len cf_len g_len z_len (by decide +kernel) (A.cons v0 A.nil)) E.int) (Ss.one (b.set nd 3 "word" (by decide +kernel) (E.ix v0 E.int))) Ss.nil)
  (Ss.cons (St.ite (B.cmp (or_in b.hu65) opf_in v3 (E.gtup g_PLAIN k_PLAIN) (by with_unfolding_all rfl)) (Ss.cons (St.ite (B.gt (E.callB cr_len cf_len g_len z_len (by decide +kernel) (A.cons v0 A.nil)) E.int) (Ss.one (St.raise2 b.calm b.tk x_BadText b.room (by decide) g_BadText (A.cons v1 (A.cons E.int A.nil)))) Ss.nil)
  (Ss.one (St.ret (E.tup (A.cons v2 (A.cons (E.tup (A.cons v3 A.nil)) A.nil)))))) Ss.nil)
  (Ss.cons (St.ite (BW.t (BW.and (B.ne b.hu v3 E.str) (BW.and (B.cmp (or_nin b.hu65) opf_nin v3 (E.gtup g_JUMPS k_JUMPS) (by with_unfolding_all rfl)) (BW.and1 (B.cmp (or_nin b.hu65) opf_nin v3 (E.gtup g_NAMED k_NAMED) (by with_unfolding_all rfl)))))) (Ss.one (St.raise2 b.calm b.tk x_BadText b.room (by decide) g_BadText (A.cons v1 (A.cons E.int A.nil)))) Ss.nil)
  (Ss.cons (b.set nd 4 "item" (by decide +kernel) E.non)
  (Ss.cons (St.ite (B.gt (E.callB cr_len cf_len g_len z_len (by decide +kernel) (A.cons v0 A.nil)) E.int) (Ss.one (b.set nd 4 "item" (by decide +kernel) E.bad)) Ss.nil)
  (Ss.cons (St.ite (B.isN v4) (Ss.one (St.raise2 b.calm b.tk x_BadText b.room (by decide) g_BadText (A.cons v1 (A.cons E.int A.nil)))) Ss.nil)
  (Ss.cons (St.ite (B.gt (E.callB cr_len cf_len g_len z_len (by decide +kernel) (A.cons v0 A.nil)) E.int) (Ss.one (St.raise2 b.calm b.tk x_BadText b.room (by decide) g_BadText (A.cons v1 (A.cons E.int A.nil)))) Ss.nil)
  (Ss.one (St.ret (E.tup (A.cons v2 (A.cons (E.tup (A.cons v3 (A.cons v4 A.nil))) A.nil)))))))))))))))
theorem sc_read : FnScope ["text", "code", "lines", "handlers", "at", "line", "words", "number", "instruction"] ["text"] (defScope (topS 87)) := ⟨rfl, rfl, rfl, by decide +kernel, rfl, by decide +kernel, by decide +kernel⟩
theorem d_read {P : Program} {w : World} {K : PySem.W.Frag} {mg : Str → Option Value} {base : Heap} (F : DefAt K mg "read" (topS 87) ["text"]) (c_instruction_of : Cal P w K mg base 3 "instruction_of" (spP ⟨K, mg⟩ f_instruction_of)) (z_enumerate : mg "enumerate" = none) (x_BadText : ExcI2 P w K mg base "BadText" "row" "word" (He.ga K "BadText")) (mk3_Unit : Mka P w K mg base 4 "Unit" i_Unit_init 3 []) : Cal P w K mg base 6 "read" (spP ⟨K, mg⟩ f_read) := by
  obtain ⟨f, fd, F, hm, hb⟩ := F
  refine Cal.mkP F hm sc_read hb rfl rfl fun X W e1 e2 e3 e4 e5 b => ?_
  subst e1 e2 e3 e4 e5
  have nd := sc_read.nd
  have g_enumerate := b.gl "enumerate" (by decide +kernel)
  have g_BadText := b.gl "BadText" (by decide +kernel)
  have g_instruction_of := b.gl "instruction_of" (by decide +kernel)
  have g_Unit := b.gl "Unit" (by decide +kernel)
  have v0 := fun {pos : Pos} => b.v (pos := pos) 0 "text" (by decide +kernel)
  have v5 := fun {pos : Pos} => b.v (pos := pos) 5 "line" (by decide +kernel)
  have v6 := fun {pos : Pos} => b.v (pos := pos) 6 "words" (by decide +kernel)
  have v3 := fun {pos : Pos} => b.v (pos := pos) 3 "handlers" (by decide +kernel)
  have v4 := fun {pos : Pos} => b.v (pos := pos) 4 "at" (by decide +kernel)
  have v2 := fun {pos : Pos} => b.v (pos := pos) 2 "lines" (by decide +kernel)
  have v7 := fun {pos : Pos} => b.v (pos := pos) 7 "number" (by decide +kernel)
  have v1 := fun {pos : Pos} => b.v (pos := pos) 1 "code" (by decide +kernel)
  have v8 := fun {pos : Pos} => b.v (pos := pos) 8 "instruction" (by decide +kernel)
  exact (Ss.cons (b.set nd 1 "code" (by decide +kernel) (E.lst true A.nil))
  (Ss.cons (b.set nd 2 "lines" (by decide +kernel) (E.lst true A.nil))
  (Ss.cons (b.set nd 3 "handlers" (by decide +kernel) (E.lst true A.nil))
  (Ss.cons (St.for b.po b.calm (I.enum2 g_enumerate z_enumerate (E.bm PySem.F.plainAttrs_str PySem.F.slot_str_split PySem.F.type_str_split mt_split mtf_split v0 (A.cons E.str A.nil))) (Tg.un b.calm (gns_cons (b.pg nd 4 "at" (by decide +kernel)) (gns_cons (b.pg nd 5 "line" (by decide +kernel)) gns_nil))) (Ss.cons (b.set nd 6 "words" (by decide +kernel) (E.bm PySem.F.plainAttrs_str PySem.F.slot_str_split PySem.F.type_str_split mt_split mtf_split v5 (A.cons E.str A.nil)))
  (Ss.one (St.ite (B.eq b.hu (E.ix v6 E.int) E.str) (Ss.one (St.expr (E.bm PySem.F.plainAttrs_list PySem.F.slot_list_append PySem.F.type_list_append mt_append mtf_append v3 (A.cons E.bad A.nil)))) (Ss.one (St.ite (B.tru v3) (Ss.one (St.raise2 b.calm b.tk x_BadText b.room (by decide) g_BadText (A.cons (E.add false v4 E.int) (A.cons E.int A.nil)))) (Ss.cons (St.asg (E.call c_instruction_of b.room b.tk g_instruction_of (A.cons v6 (A.cons (E.add false v4 E.int) A.nil))) (Tg.un b.calm (gns_cons (b.pg nd 7 "number" (by decide +kernel)) (gns_cons (b.pg nd 8 "instruction" (by decide +kernel)) gns_nil))))
  (Ss.cons (St.expr (E.bm PySem.F.plainAttrs_list PySem.F.slot_list_append PySem.F.type_list_append mt_append mtf_append v2 (A.cons v7 A.nil)))
  (Ss.one (St.expr (E.bm PySem.F.plainAttrs_list PySem.F.slot_list_append PySem.F.type_list_append mt_append mtf_append v1 (A.cons v8 A.nil))))))))))))
  (Ss.one (St.ret (E.make mk3_Unit b.room b.tk g_Unit (A.cons v1 (A.cons v2 (A.cons v3 A.nil))))))))))
theorem sc_law_begin : FnScope ["_law_script"] ["_law_script"] (defScope (topS 89)) := ⟨rfl, rfl, rfl, by decide +kernel, rfl, by decide +kernel, by decide +kernel⟩
theorem d_law_begin {P : Program} {w : World} {K : PySem.W.Frag} {mg : Str → Option Value} {base : Heap} (F : DefAt K mg "_law_begin" (topS 89) ["_law_script"]) (z_list : mg "list" = none) : Cal P w K mg base 1 "_law_begin" (spW ⟨K, mg⟩ f_law_begin) := by
  obtain ⟨f, fd, F, hm, hb⟩ := F
  refine Cal.mkW F hm sc_law_begin hb rfl rfl fun X W e1 e2 e3 e4 e5 b => ?_
  subst e1 e2 e3 e4 e5
  have nd := sc_law_begin.nd
  have g_list := b.gl "list" (by decide +kernel)
  have v0 := fun {pos : Pos} => b.v (pos := pos) 0 "_law_script" (by decide +kernel)
  exact (Ss.one (St.ret (E.lst true (A.cons (E.callTy call_list_of (cf_list (mu := false)) g_list z_list (by decide +kernel) (A.cons v0 A.nil)) (A.cons E.int (A.cons E.int (A.cons E.int A.nil)))))))
theorem sc_law_draw : FnScope ["_law_draws", "_law_many", "_law_found", "_law_cell"] ["_law_draws", "_law_many"] (defScope (topS 90)) := ⟨rfl, rfl, rfl, by decide +kernel, rfl, by decide +kernel, by decide +kernel⟩
theorem d_law_draw {P : Program} {w : World} {K : PySem.W.Frag} {mg : Str → Option Value} {base : Heap} (F : DefAt K mg "_law_draw" (topS 90) ["_law_draws", "_law_many"]) (z_len : mg "len" = none) (z_int : mg "int" = none) : Cal P w K mg base 1 "_law_draw" (spW ⟨K, mg⟩ f_law_draw) := by
  obtain ⟨f, fd, F, hm, hb⟩ := F
  refine Cal.mkW F hm sc_law_draw hb rfl rfl fun X W e1 e2 e3 e4 e5 b => ?_
  subst e1 e2 e3 e4 e5
  have nd := sc_law_draw.nd
  have g_len := b.gl "len" (by decide +kernel)
  have g_int := b.gl "int" (by decide +kernel)
  have v0 := fun {pos : Pos} => b.v (pos := pos) 0 "_law_draws" (by decide +kernel)
  have v3 := fun {pos : Pos} => b.v (pos := pos) 3 "_law_cell" (by decide +kernel)
  have v1 := fun {pos : Pos} => b.v (pos := pos) 1 "_law_many" (by decide +kernel)
  have v2 := fun {pos : Pos} => b.v (pos := pos) 2 "_law_found" (by decide +kernel)
  exact (Ss.cons (St.ite (B.eq b.hu (E.ix v0 E.int) E.int) (Ss.one (St.ite (B.lt (E.ix v0 E.int) (E.callB cr_len cf_len g_len z_len (by decide +kernel) (A.cons (E.ix v0 E.int) A.nil))) (Ss.cons (b.set nd 3 "_law_cell" (by decide +kernel) (E.ix (E.ix v0 E.int) (E.ix v0 E.int)))
  (Ss.cons (St.asg (E.add false (E.ix v0 E.int) E.int) (Tg.sub v0 E.int set_list set_lst))
  (Ss.one (St.ite (B.ge v3 (E.pow E.int E.int)) (Ss.one (St.asg v3 (Tg.sub v0 E.int set_list set_lst))) (Ss.one (St.asg (E.mod (E.callTy call_int1 cf_int1 g_int z_int (by decide +kernel) (A.cons (E.add false (E.add false (E.mul false (E.ix v0 E.int) E.int) (E.mul false v3 E.int)) E.int) A.nil)) E.int) (Tg.sub v0 E.int set_list set_lst))))))) (Ss.one (St.asg (E.mod (E.callTy call_int1 cf_int1 g_int z_int (by decide +kernel) (A.cons (E.add false (E.mul false (E.ix v0 E.int) E.int) E.int) A.nil)) E.int) (Tg.sub v0 E.int set_list set_lst))))) Ss.nil)
  (Ss.cons (St.ite (B.gt (E.ix v0 E.int) E.int) (Ss.cons (b.set nd 2 "_law_found" (by decide +kernel) (E.mod (E.callTy call_int1 cf_int1 g_int z_int (by decide +kernel) (A.cons (E.ix v0 E.int) A.nil)) v1))
  (Ss.cons (St.asg (E.fdiv (E.ix v0 E.int) v1) (Tg.sub v0 E.int set_list set_lst))
  (Ss.one (St.ret v2)))) Ss.nil)
  (Ss.one (St.ret (E.mod (E.mod (E.callTy call_int1 cf_int1 g_int z_int (by decide +kernel) (A.cons (E.mul false (E.ix v0 E.int) E.int) A.nil)) E.int) v1)))))
theorem sc_law_first : FnScope ["_law_at"] ["_law_at"] (defScope (topS 91)) := ⟨rfl, rfl, rfl, by decide +kernel, rfl, by decide +kernel, by decide +kernel⟩
theorem d_law_first {P : Program} {w : World} {K : PySem.W.Frag} {mg : Str → Option Value} {base : Heap} (F : DefAt K mg "_law_first" (topS 91) ["_law_at"]) (mk2_Unit : Mka P w K mg base 4 "Unit" i_Unit_init 2 [.con .out .tup []]) (mk3_Unit : Mka P w K mg base 4 "Unit" i_Unit_init 3 []) : Cal P w K mg base 6 "_law_first" (spP ⟨K, mg⟩ f_law_first) := by
  obtain ⟨f, fd, F, hm, hb⟩ := F
  refine Cal.mkP F hm sc_law_first hb rfl rfl fun X W e1 e2 e3 e4 e5 b => ?_
  subst e1 e2 e3 e4 e5
  have nd := sc_law_first.nd
  have g_Unit := b.gl "Unit" (by decide +kernel)
  have v0 := fun {pos : Pos} => b.v (pos := pos) 0 "_law_at" (by decide +kernel)
  exact (Ss.cons (St.ite (B.eq b.hu v0 E.int) (Ss.one (St.expr (E.make mk2_Unit b.room b.tk g_Unit (A.cons (E.lst false A.nil) (A.cons (E.lst false A.nil) A.nil))))) Ss.nil)
  (Ss.cons (St.ite (B.eq b.hu v0 E.int) (Ss.one (St.expr (E.make mk2_Unit b.room b.tk g_Unit (A.cons (E.lst false (A.cons (E.tup (A.cons E.str A.nil)) A.nil)) (A.cons (E.lst false (A.cons E.int A.nil)) A.nil))))) Ss.nil)
  (Ss.cons (St.ite (B.eq b.hu v0 E.int) (Ss.one (St.expr (E.make mk2_Unit b.room b.tk g_Unit (A.cons (E.lst false (A.cons (E.tup (A.cons E.str (A.cons E.int A.nil))) A.nil)) (A.cons (E.lst false (A.cons E.int A.nil)) A.nil))))) Ss.nil)
  (Ss.cons (St.ite (B.eq b.hu v0 E.int) (Ss.one (St.expr (E.make mk2_Unit b.room b.tk g_Unit (A.cons (E.lst false (A.cons (E.tup (A.cons E.str A.nil)) A.nil)) (A.cons (E.lst false A.nil) A.nil))))) Ss.nil)
  (Ss.cons (St.ite (B.eq b.hu v0 E.int) (Ss.one (St.expr (E.make mk3_Unit b.room b.tk g_Unit (A.cons (E.lst false (A.cons (E.tup (A.cons E.str A.nil)) A.nil)) (A.cons (E.lst false (A.cons E.int A.nil)) (A.cons (E.lst false (A.cons (E.tup (A.cons E.int (A.cons E.int (A.cons E.int (A.cons E.int (A.cons E.non A.nil)))))) A.nil)) A.nil)))))) Ss.nil)
  (Ss.cons (St.ite (B.eq b.hu v0 E.int) (Ss.one (St.expr (E.make mk2_Unit b.room b.tk g_Unit (A.cons (E.lst false (A.cons (E.tup (A.cons E.str A.nil)) A.nil)) (A.cons (E.lst false (A.cons E.int A.nil)) A.nil))))) Ss.nil)
  (Ss.one (St.ite (B.eq b.hu v0 E.int) (Ss.one (St.expr (E.make mk2_Unit b.room b.tk g_Unit (A.cons (E.lst false (A.cons (E.tup (A.cons E.str A.nil)) (A.cons (E.tup (A.cons E.str A.nil)) A.nil))) (A.cons (E.lst false (A.cons E.int (A.cons E.int A.nil))) A.nil))))) Ss.nil))))))))
theorem sc_law_second : FnScope ["_law_at", "_law_unit"] ["_law_at", "_law_unit"] (defScope (topS 92)) := ⟨rfl, rfl, rfl, by decide +kernel, rfl, by decide +kernel, by decide +kernel⟩
theorem d_law_second {P : Program} {w : World} {K : PySem.W.Frag} {mg : Str → Option Value} {base : Heap} (F : DefAt K mg "_law_second" (topS 92) ["_law_at", "_law_unit"]) (c_reorder : Cal P w K mg base 6 "reorder" (spP ⟨K, mg⟩ f_reorder)) (c_witness : Cal P w K mg base 5 "witness" (spP ⟨K, mg⟩ f_witness)) (c_line_at : Cal P w K mg base 5 "line_at" (spP ⟨K, mg⟩ f_line_at)) (c_unpack_lines : Cal P w K mg base 5 "unpack_lines" (spP ⟨K, mg⟩ f_unpack_lines)) (c_read : Cal P w K mg base 6 "read" (spP ⟨K, mg⟩ f_read)) (mw_Bench : MkW P w K mg base 1 "Bench" f_Bench_init 1) (mt_Bench_undo : MtW P w K mg base 1 "Bench" "undo" f_Bench_undo) (mt_Bench_apply : MtV P w K mg base 6 "Bench" "apply" f_Bench_apply) : Cal P w K mg base 8 "_law_second" (spP ⟨K, mg⟩ f_law_second) := by
  obtain ⟨f, fd, F, hm, hb⟩ := F
  refine Cal.mkP F hm sc_law_second hb rfl rfl fun X W e1 e2 e3 e4 e5 b => ?_
  subst e1 e2 e3 e4 e5
  have nd := sc_law_second.nd
  have g_reorder := b.gl "reorder" (by decide +kernel)
  have g_witness := b.gl "witness" (by decide +kernel)
  have g_line_at := b.gl "line_at" (by decide +kernel)
  have g_unpack_lines := b.gl "unpack_lines" (by decide +kernel)
  have g_Bench := b.gl "Bench" (by decide +kernel)
  have g_read := b.gl "read" (by decide +kernel)
  have v0 := fun {pos : Pos} => b.v (pos := pos) 0 "_law_at" (by decide +kernel)
  have v1 := fun {pos : Pos} => b.v (pos := pos) 1 "_law_unit" (by decide +kernel)
  exact (Ss.cons (St.ite (B.eq b.hu v0 E.int) (Ss.one (St.expr (E.call c_reorder b.room b.tk g_reorder (A.cons v1 (A.cons (E.lst false A.nil) A.nil))))) Ss.nil)
  (Ss.cons (St.ite (B.eq b.hu v0 E.int) (Ss.one (St.expr (E.call c_witness b.room b.tk g_witness (A.cons v1 (A.cons E.int (A.cons E.int A.nil)))))) Ss.nil)
  (Ss.cons (St.ite (B.eq b.hu v0 E.int) (Ss.one (St.expr (E.call c_line_at b.room b.tk g_line_at (A.cons (E.lst false (A.cons E.int (A.cons E.int A.nil))) (A.cons E.int A.nil))))) Ss.nil)
  (Ss.cons (St.ite (B.eq b.hu v0 E.int) (Ss.one (St.expr (E.call c_unpack_lines b.room b.tk g_unpack_lines (A.cons (E.lst false (A.cons E.int A.nil)) A.nil)))) Ss.nil)
  (Ss.cons (St.ite (B.eq b.hu v0 E.int) (Ss.one (St.expr (E.methW0 mt_Bench_undo b.room b.tk (E.makeW mw_Bench b.room b.tk g_Bench (A.cons v1 A.nil))))) Ss.nil)
  (Ss.cons (St.ite (B.eq b.hu v0 E.int) (Ss.one (St.expr (E.methV mt_Bench_apply b.room b.tk (E.makeW mw_Bench b.room b.tk g_Bench (A.cons v1 A.nil)) (A.cons E.str A.nil)))) Ss.nil)
  (Ss.one (St.ite (B.eq b.hu v0 E.int) (Ss.one (St.expr (E.call c_read b.room b.tk g_read (A.cons E.str A.nil)))) Ss.nil))))))))
theorem sc_law_kinds : FnScope ["_law_e", "_law_told"] ["_law_e"] (defScope (topS 93)) := ⟨rfl, rfl, rfl, by decide +kernel, rfl, by decide +kernel, by decide +kernel⟩
theorem d_law_kinds {P : Program} {w : World} {K : PySem.W.Frag} {mg : Str → Option Value} {base : Heap} (F : DefAt K mg "_law_kinds" (topS 93) ["_law_e"]) (u_BadLine : XisT K mg "BadLine" [("BadCode", false), ("FallsOff", false), ("BadDepth", false), ("BadOrder", false), ("NoPath", false), ("BadIndex", false), ("NothingToUndo", false), ("BadInstruction", false), ("BadTarget", false), ("BadLine", true), ("BadHandler", false), ("BadData", false), ("BadPass", false), ("BadText", false)]) (z_isinstance : mg "isinstance" = none) (u_BadTarget : XisT K mg "BadTarget" [("BadCode", false), ("FallsOff", false), ("BadDepth", false), ("BadOrder", false), ("NoPath", false), ("BadIndex", false), ("NothingToUndo", false), ("BadInstruction", false), ("BadTarget", true), ("BadLine", false), ("BadHandler", false), ("BadData", false), ("BadPass", false), ("BadText", false)]) (u_BadInstruction : XisT K mg "BadInstruction" [("BadCode", false), ("FallsOff", false), ("BadDepth", false), ("BadOrder", false), ("NoPath", false), ("BadIndex", false), ("NothingToUndo", false), ("BadInstruction", true), ("BadTarget", false), ("BadLine", false), ("BadHandler", false), ("BadData", false), ("BadPass", false), ("BadText", false)]) (u_BadCode : XisT K mg "BadCode" [("BadCode", true), ("FallsOff", false), ("BadDepth", false), ("BadOrder", false), ("NoPath", false), ("BadIndex", false), ("NothingToUndo", false), ("BadInstruction", false), ("BadTarget", false), ("BadLine", false), ("BadHandler", false), ("BadData", false), ("BadPass", false), ("BadText", false)]) (u_BadOrder : XisT K mg "BadOrder" [("BadCode", false), ("FallsOff", false), ("BadDepth", false), ("BadOrder", true), ("NoPath", false), ("BadIndex", false), ("NothingToUndo", false), ("BadInstruction", false), ("BadTarget", false), ("BadLine", false), ("BadHandler", false), ("BadData", false), ("BadPass", false), ("BadText", false)]) (u_BadDepth : XisT K mg "BadDepth" [("BadCode", false), ("FallsOff", false), ("BadDepth", true), ("BadOrder", false), ("NoPath", false), ("BadIndex", false), ("NothingToUndo", false), ("BadInstruction", false), ("BadTarget", false), ("BadLine", false), ("BadHandler", false), ("BadData", false), ("BadPass", false), ("BadText", false)]) (u_FallsOff : XisT K mg "FallsOff" [("BadCode", false), ("FallsOff", true), ("BadDepth", false), ("BadOrder", false), ("NoPath", false), ("BadIndex", false), ("NothingToUndo", false), ("BadInstruction", false), ("BadTarget", false), ("BadLine", false), ("BadHandler", false), ("BadData", false), ("BadPass", false), ("BadText", false)]) (u_BadHandler : XisT K mg "BadHandler" [("BadCode", false), ("FallsOff", false), ("BadDepth", false), ("BadOrder", false), ("NoPath", false), ("BadIndex", false), ("NothingToUndo", false), ("BadInstruction", false), ("BadTarget", false), ("BadLine", false), ("BadHandler", true), ("BadData", false), ("BadPass", false), ("BadText", false)]) (u_BadData : XisT K mg "BadData" [("BadCode", false), ("FallsOff", false), ("BadDepth", false), ("BadOrder", false), ("NoPath", false), ("BadIndex", false), ("NothingToUndo", false), ("BadInstruction", false), ("BadTarget", false), ("BadLine", false), ("BadHandler", false), ("BadData", true), ("BadPass", false), ("BadText", false)]) (u_BadIndex : XisT K mg "BadIndex" [("BadCode", false), ("FallsOff", false), ("BadDepth", false), ("BadOrder", false), ("NoPath", false), ("BadIndex", true), ("NothingToUndo", false), ("BadInstruction", false), ("BadTarget", false), ("BadLine", false), ("BadHandler", false), ("BadData", false), ("BadPass", false), ("BadText", false)]) (u_NoPath : XisT K mg "NoPath" [("BadCode", false), ("FallsOff", false), ("BadDepth", false), ("BadOrder", false), ("NoPath", true), ("BadIndex", false), ("NothingToUndo", false), ("BadInstruction", false), ("BadTarget", false), ("BadLine", false), ("BadHandler", false), ("BadData", false), ("BadPass", false), ("BadText", false)]) (u_BadText : XisT K mg "BadText" [("BadCode", false), ("FallsOff", false), ("BadDepth", false), ("BadOrder", false), ("NoPath", false), ("BadIndex", false), ("NothingToUndo", false), ("BadInstruction", false), ("BadTarget", false), ("BadLine", false), ("BadHandler", false), ("BadData", false), ("BadPass", false), ("BadText", true)]) (u_BadPass : XisT K mg "BadPass" [("BadCode", false), ("FallsOff", false), ("BadDepth", false), ("BadOrder", false), ("NoPath", false), ("BadIndex", false), ("NothingToUndo", false), ("BadInstruction", false), ("BadTarget", false), ("BadLine", false), ("BadHandler", false), ("BadData", false), ("BadPass", true), ("BadText", false)]) (u_NothingToUndo : XisT K mg "NothingToUndo" [("BadCode", false), ("FallsOff", false), ("BadDepth", false), ("BadOrder", false), ("NoPath", false), ("BadIndex", false), ("NothingToUndo", true), ("BadInstruction", false), ("BadTarget", false), ("BadLine", false), ("BadHandler", false), ("BadData", false), ("BadPass", false), ("BadText", false)]) (v_ValueError : XisY K mg "ValueError" [("BadCode", true), ("FallsOff", true), ("BadDepth", true), ("BadOrder", true), ("NoPath", true), ("BadIndex", true), ("NothingToUndo", true), ("BadInstruction", true), ("BadTarget", true), ("BadLine", true), ("BadHandler", true), ("BadData", true), ("BadPass", true), ("BadText", true)]) (z_ValueError : mg "ValueError" = none) : KCal P w K mg base "_law_kinds" 2 kf_law_kinds := by
  obtain ⟨f, fd, F, hm, hb⟩ := F
  refine ⟨f, fd, (topS 93), ["_law_e", "_law_told"], "_law_e", F, hm, hb, sc_law_kinds, rfl, fun Y y1 y2 y3 y4 y5 y6 y7 y8 => ?_⟩
  subst y3 y4
  have b : EB Y ["_law_e", "_law_told"] (defScope (topS 93)) := ⟨y6, y7, y8⟩
  have nd := sc_law_kinds.nd
  have g_isinstance := b.gl "isinstance" (by decide +kernel)
  have g_BadLine := b.gl "BadLine" (by decide +kernel)
  have g_BadTarget := b.gl "BadTarget" (by decide +kernel)
  have g_BadInstruction := b.gl "BadInstruction" (by decide +kernel)
  have g_BadCode := b.gl "BadCode" (by decide +kernel)
  have g_BadOrder := b.gl "BadOrder" (by decide +kernel)
  have g_BadDepth := b.gl "BadDepth" (by decide +kernel)
  have g_FallsOff := b.gl "FallsOff" (by decide +kernel)
  have g_BadHandler := b.gl "BadHandler" (by decide +kernel)
  have g_BadData := b.gl "BadData" (by decide +kernel)
  have g_BadIndex := b.gl "BadIndex" (by decide +kernel)
  have g_NoPath := b.gl "NoPath" (by decide +kernel)
  have g_BadText := b.gl "BadText" (by decide +kernel)
  have g_BadPass := b.gl "BadPass" (by decide +kernel)
  have g_NothingToUndo := b.gl "NothingToUndo" (by decide +kernel)
  have g_ValueError := b.gl "ValueError" (by decide +kernel)
  exact (b.set nd 1 "_law_told" (by decide +kernel) (EE.of (VE.lst (VA.cons (b.isX (i := 0) u_BadCode g_isinstance z_isinstance g_BadCode (by decide +kernel)) (VA.cons (b.isX (i := 0) u_BadInstruction g_isinstance z_isinstance g_BadInstruction (by decide +kernel)) (VA.cons (b.isX (i := 0) u_BadTarget g_isinstance z_isinstance g_BadTarget (by decide +kernel)) (VA.cons (b.isX (i := 0) u_BadLine g_isinstance z_isinstance g_BadLine (by decide +kernel)) VA.nil)))))) (b.set nd 1 "_law_told" (by decide +kernel) (EE.add (EE.var (b.suVar 1 "_law_told" (by decide +kernel))) (EE.of (VE.lst (VA.cons (b.isX (i := 0) u_BadHandler g_isinstance z_isinstance g_BadHandler (by decide +kernel)) (VA.cons (b.isX (i := 0) u_FallsOff g_isinstance z_isinstance g_FallsOff (by decide +kernel)) (VA.cons (b.isX (i := 0) u_BadDepth g_isinstance z_isinstance g_BadDepth (by decide +kernel)) (VA.cons (b.isX (i := 0) u_BadOrder g_isinstance z_isinstance g_BadOrder (by decide +kernel)) VA.nil))))))) (b.set nd 1 "_law_told" (by decide +kernel) (EE.add (EE.var (b.suVar 1 "_law_told" (by decide +kernel))) (EE.of (VE.lst (VA.cons (b.isX (i := 0) u_NoPath g_isinstance z_isinstance g_NoPath (by decide +kernel)) (VA.cons (b.isX (i := 0) u_BadIndex g_isinstance z_isinstance g_BadIndex (by decide +kernel)) (VA.cons (b.isX (i := 0) u_BadData g_isinstance z_isinstance g_BadData (by decide +kernel)) VA.nil)))))) (b.set nd 1 "_law_told" (by decide +kernel) (EE.add (EE.var (b.suVar 1 "_law_told" (by decide +kernel))) (EE.of (VE.lst (VA.cons (b.isX (i := 0) u_NothingToUndo g_isinstance z_isinstance g_NothingToUndo (by decide +kernel)) (VA.cons (b.isX (i := 0) u_BadPass g_isinstance z_isinstance g_BadPass (by decide +kernel)) (VA.cons (b.isX (i := 0) u_BadText g_isinstance z_isinstance g_BadText (by decide +kernel)) VA.nil)))))) (ESs.ret (EE.add (EE.var (b.suVar 1 "_law_told" (by decide +kernel))) (EE.of (VE.lst (VA.cons (b.isY (i := 0) v_ValueError g_isinstance z_isinstance g_ValueError z_ValueError (by decide +kernel) (by decide +kernel)) VA.nil)))))))))
theorem sc_law : FnScope ["_law_script", "_law_draws", "_law_at", "_law_unit", "_law_told", "_law_e", "_law_k"] ["_law_script"] (defScope (topS 94)) := ⟨rfl, rfl, rfl, by decide +kernel, rfl, by decide +kernel, by decide +kernel⟩
theorem d_law {P : Program} {w : World} {K : PySem.W.Frag} {mg : Str → Option Value} {base : Heap} {f : Addr} {fd : FuncData} (F : FunD K "law" "law" (defArgs (topS 94)) (defBody (topS 94)) (defScope (topS 94)) [] [] f fd) (c_law_begin : Cal P w K mg base 1 "_law_begin" (spW ⟨K, mg⟩ f_law_begin)) (c_law_draw : Cal P w K mg base 1 "_law_draw" (spW ⟨K, mg⟩ f_law_draw)) (c_law_first : Cal P w K mg base 6 "_law_first" (spP ⟨K, mg⟩ f_law_first)) (c_law_second : Cal P w K mg base 8 "_law_second" (spP ⟨K, mg⟩ f_law_second)) (k_law_kinds : KCal P w K mg base "_law_kinds" 2 kf_law_kinds) (mk2_Unit : Mka P w K mg base 4 "Unit" i_Unit_init 2 [.con .out .tup []]) (m_TableError : ExmT K mg "TableError" [("BadCode", true), ("FallsOff", true), ("BadDepth", true), ("BadOrder", true), ("NoPath", true), ("BadIndex", true), ("NothingToUndo", true), ("BadInstruction", true), ("BadTarget", true), ("BadLine", true), ("BadHandler", true), ("BadData", true), ("BadPass", true), ("BadText", true)]) (z_range : mg "range" = none) : FnOk P w K mg base (L2.CX P w) 9 f fd ["_law_script"] (spP ⟨K, mg⟩ f_law) := by
  refine fnP F sc_law rfl rfl fun X W e1 e2 e3 e4 e5 b => ?_
  subst e1 e2 e3 e4 e5
  have nd := sc_law.nd
  have g_law_begin := b.gl "_law_begin" (by decide +kernel)
  have g_law_draw := b.gl "_law_draw" (by decide +kernel)
  have g_Unit := b.gl "Unit" (by decide +kernel)
  have g_law_first := b.gl "_law_first" (by decide +kernel)
  have g_law_second := b.gl "_law_second" (by decide +kernel)
  have g_law_kinds := b.gl "_law_kinds" (by decide +kernel)
  have g_TableError := b.gl "TableError" (by decide +kernel)
  have g_range := b.gl "range" (by decide +kernel)
  have v0 := fun {pos : Pos} => b.v (pos := pos) 0 "_law_script" (by decide +kernel)
  have v1 := fun {pos : Pos} => b.v (pos := pos) 1 "_law_draws" (by decide +kernel)
  have v2 := fun {pos : Pos} => b.v (pos := pos) 2 "_law_at" (by decide +kernel)
  have v3 := fun {pos : Pos} => b.v (pos := pos) 3 "_law_unit" (by decide +kernel)
  have v4 := fun {pos : Pos} => b.v (pos := pos) 4 "_law_told" (by decide +kernel)
  exact (Ss.cons (b.set nd 1 "_law_draws" (by decide +kernel) (E.callW c_law_begin b.room b.tk g_law_begin (A.cons v0 A.nil)))
  (Ss.cons (b.set nd 2 "_law_at" (by decide +kernel) (E.callW c_law_draw b.room b.tk g_law_draw (A.cons v1 (A.cons E.int A.nil))))
  (Ss.cons (b.set nd 3 "_law_unit" (by decide +kernel) (E.make mk2_Unit b.room b.tk g_Unit (A.cons (E.lst false (A.cons (E.tup (A.cons E.str A.nil)) A.nil)) (A.cons (E.lst false (A.cons E.int A.nil)) A.nil))))
  (Ss.cons (b.set nd 4 "_law_told" (by decide +kernel) (E.lst false A.nil))
  (Ss.cons (b.tryX (fun W pn xe b => by
  have nd := sc_law.nd
  have g_law_begin := b.gl "_law_begin" (by decide +kernel)
  have g_law_draw := b.gl "_law_draw" (by decide +kernel)
  have g_Unit := b.gl "Unit" (by decide +kernel)
  have g_law_first := b.gl "_law_first" (by decide +kernel)
  have g_law_second := b.gl "_law_second" (by decide +kernel)
  have g_law_kinds := b.gl "_law_kinds" (by decide +kernel)
  have g_TableError := b.gl "TableError" (by decide +kernel)
  have g_range := b.gl "range" (by decide +kernel)
  have v0 := fun {pos : Pos} => b.v (pos := pos) 0 "_law_script" (by decide +kernel)
  have v1 := fun {pos : Pos} => b.v (pos := pos) 1 "_law_draws" (by decide +kernel)
  have v2 := fun {pos : Pos} => b.v (pos := pos) 2 "_law_at" (by decide +kernel)
  have v3 := fun {pos : Pos} => b.v (pos := pos) 3 "_law_unit" (by decide +kernel)
  have v4 := fun {pos : Pos} => b.v (pos := pos) 4 "_law_told" (by decide +kernel)
  exact (Ss.cons (St.expr (E.call c_law_first b.room b.tk g_law_first (A.cons v2 A.nil)))
  (Ss.one (St.expr (E.call c_law_second b.room b.tk g_law_second (A.cons v2 (A.cons v3 A.nil))))))) (b.named nd 5 "_law_e" (by decide +kernel) g_TableError (by decide) m_TableError.1 m_TableError.2 (b.suSetX nd 4 "_law_told" (by decide +kernel) (VE.call k_law_kinds b.room g_law_kinds (b.suVar 5 "_law_e" (by decide +kernel)))) HdX.nil))
  (Ss.one (St.ret (E.eq b.hu v4 (E.add false (E.lc (own := [("_law_k", 6)]) false b.calm (b.hN ▸ nd) (I.r1 g_range z_range (A.cons E.int A.nil)) (b.blk (by decide +kernel)) (CG.name (by decide)) (fun _ _ _ _ _ => blk_pg b.hN b.sc nd 6 "_law_k" (by decide +kernel)) (fun _ _ _ _ _ => Ts.nil) (fun _ _ _ _ _ => (E.eq b.hu (b.bk.v 6 "_law_k" (by decide +kernel)) (b.bk.v 2 "_law_at" (by decide +kernel))))) (E.lst false (A.cons E.bl A.nil)))))))))))
end Law
/-! Er1: the fourteen calls, computed. -/
namespace Law
open PySem PySem.Spec PyProof.Rows L2 Pv
def U0 : PV := .con .own (.ins "Unit" ["code", "lines", "handlers", "found_depths"]) [.con .own .tup [.con .own .tup [.str "end"]], .con .own .tup [.int 1], .con .out .tup [], .con .own .tup [.int 0]]
theorem unit0 : i_Unit_init [.con .own .lst [.con .own .tup [.str "end"]], .con .own .lst [.int 1], .con .out .tup []] = .ok U0 := by kernel_rfl
end Law
namespace Law
open PySem PySem.Spec PyProof.Rows L2 Pv
/-! ### the draws -/
abbrev drL (ns : List Int) (a : Nat) (h s : Int) : List PV := [.con .own .lst (ns.map PV.int), .int a, .int h, .int s]
abbrev drO (ns : List Int) (a : Nat) (h s : Int) : Option (Kd × List PV) := some (.lst, drL ns a h s)
theorem draw_r3 (S : Sto) (n : Nat) (ns : List Int) (m : Int) (x : Option PV) (a : Nat) (h s : Int) (hl : n < S.length) (h0 : 0 ≤ h) (hm : 0 < m) (hm2 : m < 1073741824) :
    ∃ r a' h' s', ruwK (r3_law_draw [some (.ref n), some (.int m), none, x] (S.set n (drO ns a h s))) = .ok (.int r) (S.set n (drO ns a' h' s')) ∧ 0 ≤ r ∧ r < m ∧ 0 ≤ h' := by
  by_cases hp : 0 < h
  · refine ⟨h % m, a, h / m, s, ?_, Int.emod_nonneg _ (by omega), Int.emod_lt_of_pos _ hm, Int.ediv_nonneg h0 (by omega)⟩
    simp [r3_law_draw, i1_law_draw, r2_law_draw, hl, atI, ixN, hp, hm, CDiv, hm2]
  · refine ⟨(s * 16807) % 2147483629 % m, a, h, s, ?_, Int.emod_nonneg _ (by omega), Int.emod_lt_of_pos _ hm, h0⟩
    simp [r3_law_draw, i1_law_draw, r2_law_draw, hl, atI, ixN, hp, hm, CMul]
theorem draw_ok (S : Sto) (n : Nat) (ns : List Int) (a : Nat) (h s m : Int) (hn : S[n]? = some (drO ns a h s)) (h0 : 0 ≤ h) (hm : 0 < m) (hm2 : m < 1073741824) :
    ∃ r a' h' s', f_law_draw [.ref n, .int m] S = .ok (.int r) (S.set n (drO ns a' h' s')) ∧ 0 ≤ r ∧ r < m ∧ 0 ≤ h' := by
  have hl : n < S.length := (List.getElem?_eq_some_iff.mp hn).1
  have hg : S[n]'hl = drO ns a h s := (List.getElem?_eq_some_iff.mp hn).2
  have go : ∃ x a1 h1 s1, 0 ≤ h1 ∧ f_law_draw [.ref n, .int m] S = ruwK (r3_law_draw [some (.ref n), some (.int m), none, x] (S.set n (drO ns a1 h1 s1))) := by
    unfold f_law_draw
    rw [runW_eq (np := 2) rfl]
    unfold body_law_draw
    by_cases hz : h = 0
    · subst hz
      by_cases ha : a < ns.length
      · by_cases hb : 1000000000000000000 ≤ ns[a]
        · refine ⟨some (.int ns[a]), a + 1, ns[a], s, by omega, ?_⟩
          simp [i0_law_draw, hg, hl, atI, ixN, ha, hb, CPow, drO, drL]
        · refine ⟨some (.int ns[a]), a + 1, 0, (s * 48271 + ns[a] * 69621 + 11) % 2147483647, by omega, ?_⟩
          simp [i0_law_draw, hg, hl, atI, ixN, ha, hb, CPow, CMul, drO, drL]
      · refine ⟨none, a, 0, (s * 48271 + 7) % 2147483647, by omega, ?_⟩
        simp [i0_law_draw, hg, hl, atI, ixN, ha, CPow, CMul]
    · refine ⟨none, a, h, s, h0, ?_⟩
      have e : S.set n (drO ns a h s) = S := by
        apply List.ext_getElem?
        intro i
        by_cases q : n = i
        · subst q; rw [List.getElem?_set_self hl, hn]
        · rw [List.getElem?_set_ne q]
      rw [e]
      simp [hg, hl, atI, ixN, hz]
  obtain ⟨x, a1, h1, s1, q1, q2⟩ := go
  rw [q2]
  exact draw_r3 S n ns m x a1 h1 s1 hl q1 hm hm2
end Law
namespace Law
open PySem PySem.Spec PyProof.Rows L2 Pv
/-- the draws stand at n -/
def DR (n : Nat) (ns : List Int) (S : Sto) : Prop := ∃ a h s, S[n]? = some (drO ns a h s) ∧ 0 ≤ h
/-- nothing but the draws changed -/
def Fr (n : Nat) (S S' : Sto) : Prop := S'.length = S.length ∧ ∀ i, i ≠ n → S'[i]? = S[i]?
theorem Fr.refl {n : Nat} {S : Sto} : Fr n S S := ⟨rfl, fun _ _ => rfl⟩
theorem Fr.trans {n : Nat} {S S1 S2 : Sto} (h : Fr n S S1) (h2 : Fr n S1 S2) : Fr n S S2 := ⟨h2.1.trans h.1, fun i q => (h2.2 i q).trans (h.2 i q)⟩
theorem draw {S : Sto} {n : Nat} {ns : List Int} (d : DR n ns S) (m : Int) (hm : 0 < m) (hm2 : m < 1073741824) :
    ∃ r S', f_law_draw [.ref n, .int m] S = .ok (.int r) S' ∧ 0 ≤ r ∧ r < m ∧ DR n ns S' ∧ Fr n S S' := by
  obtain ⟨a, h, s, e, h0⟩ := d
  obtain ⟨r, a', h', s', q, r0, r1, q0⟩ := draw_ok S n ns a h s m e h0 hm hm2
  have hl : n < S.length := (List.getElem?_eq_some_iff.mp e).1
  refine ⟨r, _, q, r0, r1, ⟨a', h', s', List.getElem?_set_self hl, q0⟩, List.length_set, fun i hi => List.getElem?_set_ne (Ne.symm hi)⟩
theorem begin_ok (ns : List Int) (S : Sto) (h : ns.length ≤ 63) : f_law_begin [scr ns] S = .ok (.ref S.length) (S ++ [drO ns 0 0 7]) := by
  unfold f_law_begin
  rw [runW_eq (np := 1) rfl]
  simp [body_law_begin, scr, listF, newP, szl, drO, drL]
end Law
/-! W1: what a mirror gives, by its form (a small calculus of wishes). -/
namespace Pv
open PySem PySem.Spec PyProof.Rows L2
/-- r is a value, Q of it -/
def okR {α : Type} (r : R α) (Q : α → Sto → Prop) : Prop := match r with
  | .ok v S => Q v S
  | _ => False
theorem okR.eq {α : Type} {r : R α} {Q : α → Sto → Prop} (h : okR r Q) : ∃ v S, r = .ok v S ∧ Q v S := by
  cases r with
  | ok v S => exact ⟨v, S, rfl, h⟩
  | ex c fs S => exact h.elim
  | bad => exact h.elim
theorem okR.mono {α : Type} {r : R α} {Q Q' : α → Sto → Prop} (h : okR r Q) (k : ∀ v S, Q v S → Q' v S) : okR r Q' := by
  cases r with
  | ok v S => exact k v S h
  | ex c fs S => exact h
  | bad => exact h
theorem okR.bind {α β : Type} {r : R α} {k : α → Sto → R β} {Q : β → Sto → Prop} (h : okR r fun v S => okR (k v S) Q) : okR (r.bind k) Q := by
  cases r with
  | ok v S => exact h
  | ex c fs S => exact h
  | bad => exact h
theorem okR.of {α : Type} {r : R α} {v : α} {S : Sto} {Q : α → Sto → Prop} (e : r = .ok v S) (h : Q v S) : okR r Q := by rw [e]; exact h
/-- what a statement comes to -/
def rsP (r : RS) (P : RS → Prop) : Prop := P r
def thenS (u : SF) (P : RS → Prop) : RS → Prop
  | .nx Γ S => P (u Γ S)
  | r => P r
section
variable {Γ : Gam} {S : Sto} {P : RS → Prop} {t u : SF} {a b c : EF} {as : AF} {i : Nat} {v : PV} {Q : PV → Sto → Prop} {Qs : List PV → Sto → Prop}
theorem W.seq (h : rsP (t Γ S) (thenS u P)) : rsP (sSeq t u Γ S) P := by
  unfold rsP sSeq at *
  cases e : t Γ S with
  | nx Γ1 S1 => rw [e] at h; exact h
  | _ => rw [e] at h; exact h
theorem W.go (h : rsP (u Γ S) P) : rsP (.nx Γ S) (thenS u P) := h
theorem rsP.mono {r : RS} {P' : RS → Prop} (h : rsP r P) (k : ∀ r, P r → P' r) : rsP r P' := k _ h
theorem W.st {α : Type} {r : R α} {k : α → Sto → RS} (h : okR r fun v S1 => rsP (k v S1) P) : rsP (r.st Γ k) P := by
  cases r with
  | ok v S => exact h
  | ex c fs S => exact h.elim
  | bad => exact h.elim
theorem W.set (h : okR (a Γ S) fun v S1 => rsP (.nx (Γ.set i (some v)) S1) P) : rsP (sSet i a Γ S) P := W.st h
theorem W.ret (h : okR (a Γ S) fun v S1 => rsP (.rt v S1) P) : rsP (sRet a Γ S) P := W.st h
theorem W.next (h : rsP (.nx Γ S) P) : rsP (sNext Γ S) P := h
theorem W.var (h : Γ[i]? = some (some v)) (q : Q v S) : okR (eV i Γ S) Q := by unfold eV; rw [h]; exact q
theorem W.con (q : Q v S) : okR (eC v Γ S) Q := q
theorem W.nil (q : Qs [] S) : okR (aNil Γ S) Qs := q
theorem W.cons (h : okR (a Γ S) fun v S1 => okR (as Γ S1) fun vs S2 => Qs (v :: vs) S2) : okR (aCons a as Γ S) Qs := okR.bind (h.mono fun _ _ h => okR.bind h)
theorem W.tup (h : okR (as Γ S) fun vs S1 => vs.length ≤ sizeLine ∧ Q (.con .own .tup vs) S1) : okR (eTup as Γ S) Q := okR.bind (h.mono fun vs S1 h => by rw [if_pos h.1]; exact h.2)
theorem W.lstF (h : okR (as Γ S) fun vs S1 => vs.length ≤ sizeLine ∧ Q (.con .own .lst vs) S1) : okR (eLst false as Γ S) Q := okR.bind (h.mono fun vs S1 h => by rw [if_pos h.1]; exact h.2)
theorem W.op {f : OF} (h : okR (a Γ S) fun x S1 => okR (b Γ S1) fun y S2 => ∃ z S3, f x y S2 = some (z, S3) ∧ Q z S3) : okR (eOp f a b Γ S) Q := okR.bind (h.mono fun x S1 h => okR.bind (h.mono fun y S2 ⟨z, S3, e, q⟩ => by rw [e]; exact q))
theorem W.call {f : CF} (h : okR (as Γ S) fun vs S1 => ∃ z S3, f vs S1 = some (z, S3) ∧ Q z S3) : okR (eCall f as Γ S) Q := okR.bind (h.mono fun vs S1 ⟨z, S3, e, q⟩ => by rw [e]; exact q)
theorem W.callW {f : List PV → Sto → R PV} (h : okR (as Γ S) fun vs S1 => okR (f vs S1) Q) : okR (eCallW f as Γ S) Q := okR.bind h
theorem W.meth {T : String} {f : MF} (h : okR (a Γ S) fun p S1 => tyP T S1 p = true ∧ okR (as Γ S1) fun vs S2 => ∃ z S3, f p vs S2 = some (z, S3) ∧ Q z S3) : okR (eM T f a as Γ S) Q := okR.bind (h.mono fun p S1 h => by
  rw [if_pos h.1]
  exact okR.bind (h.2.mono fun vs S2 ⟨z, S3, e, q⟩ => by rw [e]; exact q))
section
variable {s s' : BF} {B : Bool → Sto → Prop}
theorem W.or (h : okR (s Γ S) fun k S1 => (k = true → B true S1) ∧ (k = false → okR (s' Γ S1) B)) : okR (bOr s s' Γ S) B := okR.bind (h.mono fun k S1 h => by
  cases k with
  | true => exact h.1 rfl
  | false => exact h.2 rfl)
theorem W.and (h : okR (s Γ S) fun k S1 => (k = true → okR (s' Γ S1) B) ∧ (k = false → B false S1)) : okR (bAnd s s' Γ S) B := okR.bind (h.mono fun k S1 h => by
  cases k with
  | true => exact h.1 rfl
  | false => exact h.2 rfl)
theorem W.not (h : okR (s Γ S) fun k S1 => B (!k) S1) : okR (bNot s Γ S) B := okR.bind h
end
/-- a def that changes its arguments -/
theorem W.run {np n : Nat} {body : SF} {args : List PV} (hl : args.length = np) (h : rsP (body (args.map some ++ List.replicate (n - args.length) none) S) fun r => match r with
    | .nx _ S' => Q .non S'
    | .rt v S' => Q v S'
    | _ => False) : okR (runW np n body args S) Q := by
  unfold runW
  rw [if_pos hl]
  unfold rsP at h
  cases e : body (args.map some ++ List.replicate (n - args.length) none) S with
  | nx Γ S' => rw [e] at h; exact h
  | rt v S' => rw [e] at h; exact h
  | _ => rw [e] at h; exact h.elim
end
end Pv
namespace Pv
open PySem PySem.Spec PyProof.Rows L2
end Pv
/-! Pure36: law k36. -/
namespace Law
open PySem PySem.Spec PyProof.Rows L2 Pv
theorem rdP36 {np n : Nat} {body : SF} {args : List PV} {v : PV} (hl : args.length = np) (h : rsP (body (args.map some ++ List.replicate (n - args.length) none) []) fun r => ∃ u S, r = .rt u S ∧ resP S u = .ok v) : runP np n body args = .ok v := by
  unfold rsP at h
  obtain ⟨u, S, e, q⟩ := h
  unfold runP
  rw [if_pos hl, e]
  exact q
theorem make36 {f : List PV → RP} {m : Nat} {dps vs qs : List PV} {v : PV} {as : AF} {Γ : Gam} {S : Sto} (e : as Γ S = .ok vs S) (hl : vs.length = m) (e2 : vs.mapM (lendV S) = some qs) (e3 : f (qs ++ dps) = .ok v) : eMakeP f m dps as Γ S = .ok v S := by
  unfold eMakeP
  rw [e]
  show (if vs.length = m then _ else R.bad) = _
  rw [if_pos hl]
  simp only [e2, e3]
def tail36 : SF := sSeq (sTryX (t0_law) [([("BadCode", true), ("FallsOff", true), ("BadDepth", true), ("BadOrder", true), ("NoPath", true), ("BadIndex", true), ("NothingToUndo", true), ("BadInstruction", true), ("BadTarget", true), ("BadLine", true), ("BadHandler", true), ("BadData", true), ("BadPass", true), ("BadText", true)], xAs 5 (xSet 4 (vCall 2 kf_law_kinds)))]) (r1_law)
theorem tail_0 (sc : PV) (S : Sto) : tail36 [some sc, some (.ref 0), some (.int 0), some U0, some (.con .own .lst []), none, none] S = .rt (.bl true) S := by kernel_rfl
theorem tail_1 (sc : PV) (S : Sto) : tail36 [some sc, some (.ref 0), some (.int 1), some U0, some (.con .own .lst []), none, none] S = .rt (.bl true) S := by kernel_rfl
theorem tail_2 (sc : PV) (S : Sto) : tail36 [some sc, some (.ref 0), some (.int 2), some U0, some (.con .own .lst []), none, none] S = .rt (.bl true) S := by kernel_rfl
theorem tail_3 (sc : PV) (S : Sto) : tail36 [some sc, some (.ref 0), some (.int 3), some U0, some (.con .own .lst []), none, none] S = .rt (.bl true) S := by kernel_rfl
theorem tail_4 (sc : PV) (S : Sto) : tail36 [some sc, some (.ref 0), some (.int 4), some U0, some (.con .own .lst []), none, none] S = .rt (.bl true) S := by kernel_rfl
theorem tail_5 (sc : PV) (S : Sto) : tail36 [some sc, some (.ref 0), some (.int 5), some U0, some (.con .own .lst []), none, none] S = .rt (.bl true) S := by kernel_rfl
theorem tail_6 (sc : PV) (S : Sto) : tail36 [some sc, some (.ref 0), some (.int 6), some U0, some (.con .own .lst []), none, none] S = .rt (.bl true) S := by kernel_rfl
theorem tail_7 (sc : PV) (S : Sto) : tail36 [some sc, some (.ref 0), some (.int 7), some U0, some (.con .own .lst []), none, none] S = .rt (.bl true) S := by kernel_rfl
theorem tail_8 (sc : PV) (S : Sto) : tail36 [some sc, some (.ref 0), some (.int 8), some U0, some (.con .own .lst []), none, none] S = .rt (.bl true) S := by kernel_rfl
theorem tail_9 (sc : PV) (S : Sto) : tail36 [some sc, some (.ref 0), some (.int 9), some U0, some (.con .own .lst []), none, none] S = .rt (.bl true) S := by kernel_rfl
theorem tail_10 (sc : PV) (S : Sto) : tail36 [some sc, some (.ref 0), some (.int 10), some U0, some (.con .own .lst []), none, none] S = .rt (.bl true) S := by kernel_rfl
theorem tail_11 (sc : PV) (S : Sto) : tail36 [some sc, some (.ref 0), some (.int 11), some U0, some (.con .own .lst []), none, none] S = .rt (.bl true) S := by kernel_rfl
theorem tail_12 (sc : PV) (S : Sto) : tail36 [some sc, some (.ref 0), some (.int 12), some U0, some (.con .own .lst []), none, none] S = .rt (.bl true) S := by kernel_rfl
theorem tail_13 (sc : PV) (S : Sto) : tail36 [some sc, some (.ref 0), some (.int 13), some U0, some (.con .own .lst []), none, none] S = .rt (.bl true) S := by kernel_rfl
theorem pure_law (ns : List Int) (hns : ns.length ≤ 63) : f_law [scr ns] = .ok (.bl true) := by
  refine rdP36 rfl ?_
  show rsP (body_law [some (scr ns), none, none, none, none, none, none] []) _
  have hb := begin_ok ns [] hns
  have d0 : DR 0 ns [drO ns 0 0 7] := ⟨0, 0, 7, rfl, by omega⟩
  unfold body_law
  refine Pv.W.seq (Pv.W.set (Pv.W.callW (Pv.W.cons (Pv.W.var rfl (Pv.W.nil ?_)))))
  refine okR.of hb ?_
  refine Pv.W.go (Pv.W.seq (Pv.W.set (Pv.W.callW (Pv.W.cons (Pv.W.var rfl (Pv.W.cons (Pv.W.con (Pv.W.nil ?_))))))))
  obtain ⟨x, S, e, x0, x1, d1, fr⟩ := draw d0 14 (by omega) (by omega)
  obtain ⟨j, rfl⟩ : ∃ j : Nat, x = j := ⟨x.toNat, by omega⟩
  refine okR.of e ?_
  have em := make36 (f := i_Unit_init) (m := 2) (dps := [.con .out .tup []]) (Γ := [some (scr ns), some (.ref 0), some (.int (j : Nat)), none, none, none, none]) (S := S) (as := aCons (eLst false (aCons (eTup (aCons (eC (.str "end")) aNil)) aNil)) (aCons (eLst false (aCons (eC (.int 1)) aNil)) aNil)) (vs := [.con .own .lst [.con .own .tup [.str "end"]], .con .own .lst [.int 1]]) rfl rfl rfl unit0
  refine Pv.W.go (Pv.W.seq (Pv.W.set (okR.of em (Pv.W.go ?_))))
  refine Pv.W.seq (Pv.W.set (Pv.W.lstF (Pv.W.nil ⟨by rw [sizeLine_eq]; simp, Pv.W.go ?_⟩)))
  have key : tail36 [some (scr ns), some (.ref 0), some (.int (j : Nat)), some U0, some (.con .own .lst []), none, none] S = .rt (.bl true) S := by
    rcases (show j = 0 ∨ j = 1 ∨ j = 2 ∨ j = 3 ∨ j = 4 ∨ j = 5 ∨ j = 6 ∨ j = 7 ∨ j = 8 ∨ j = 9 ∨ j = 10 ∨ j = 11 ∨ j = 12 ∨ j = 13 by omega) with rfl | rfl | rfl | rfl | rfl | rfl | rfl | rfl | rfl | rfl | rfl | rfl | rfl | rfl
    · exact tail_0 _ _
    · exact tail_1 _ _
    · exact tail_2 _ _
    · exact tail_3 _ _
    · exact tail_4 _ _
    · exact tail_5 _ _
    · exact tail_6 _ _
    · exact tail_7 _ _
    · exact tail_8 _ _
    · exact tail_9 _ _
    · exact tail_10 _ _
    · exact tail_11 _ _
    · exact tail_12 _ _
    · exact tail_13 _ _
  show rsP (tail36 _ S) _
  unfold rsP
  refine key ▸ ?_
  exact ⟨_, _, rfl, rfl⟩
end Law
namespace Law
open PySem PySem.Spec PyProof.Rows L2 Pv
theorem facts {P : Program} {w : World} {K : PySem.W.Frag} {h : Heap} {mg : Str → Option Value} {f : Addr} (X : K.In h) (G : h.Ns mainGlobals mg) (hfa : mg ("law" : Str) = some (.ref f)) (c : He.SaysX faL fnL tsL [] exB w h K) :
    ∃ fd : FuncData, (∀ (s : Shared) (v : Value), BindsTo s fd ⟨[v], []⟩ [("_law_script", v)]) ∧ ∀ base : Heap, K.In base → base.Ns mainGlobals mg → FnOk P w K mg base (L2.CX P w) 9 f fd ["_law_script"] (spP ⟨K, mg⟩ f_law) := by
  have D_in_range : DefAt K mg "in_range" (topS 28) ["value", "least", "greatest"] := by
    obtain ⟨fd, F⟩ := c.t.d.def_ 0 (d := dd_in_range) rfl
    exact ⟨_, fd, F, He.glo_ok X G (c.t.d.fact 0 (f := .glo "in_range") rfl), FunD.bindsN F fun _ _ _ _ _ _ us hl => match us, hl with | [_, _, _], _ => rfl⟩
  have D_is_word : DefAt K mg "is_word" (topS 29) ["value"] := by
    obtain ⟨fd, F⟩ := c.t.d.def_ 1 (d := dd_is_word) rfl
    exact ⟨_, fd, F, He.glo_ok X G (c.t.d.fact 1 (f := .glo "is_word") rfl), FunD.bindsN F fun _ _ _ _ _ _ us hl => match us, hl with | [_], _ => rfl⟩
  have D_fits_form : DefAt K mg "fits_form" (topS 30) ["value"] := by
    obtain ⟨fd, F⟩ := c.t.d.def_ 2 (d := dd_fits_form) rfl
    exact ⟨_, fd, F, He.glo_ok X G (c.t.d.fact 2 (f := .glo "fits_form") rfl), FunD.bindsN F fun _ _ _ _ _ _ us hl => match us, hl with | [_], _ => rfl⟩
  have D_is_handler : DefAt K mg "is_handler" (topS 31) ["value", "many"] := by
    obtain ⟨fd, F⟩ := c.t.d.def_ 3 (d := dd_is_handler) rfl
    exact ⟨_, fd, F, He.glo_ok X G (c.t.d.fact 3 (f := .glo "is_handler") rfl), FunD.bindsN F fun _ _ _ _ _ _ us hl => match us, hl with | [_, _], _ => rfl⟩
  have D_raised_kind : DefAt K mg "raised_kind" (topS 32) ["instruction"] := by
    obtain ⟨fd, F⟩ := c.t.d.def_ 4 (d := dd_raised_kind) rfl
    exact ⟨_, fd, F, He.glo_ok X G (c.t.d.fact 4 (f := .glo "raised_kind") rfl), FunD.bindsN F fun _ _ _ _ _ _ us hl => match us, hl with | [_], _ => rfl⟩
  have D_receiver : DefAt K mg "receiver" (topS 33) ["handlers", "index", "kind"] := by
    obtain ⟨fd, F⟩ := c.t.d.def_ 5 (d := dd_receiver) rfl
    exact ⟨_, fd, F, He.glo_ok X G (c.t.d.fact 5 (f := .glo "receiver") rfl), FunD.bindsN F fun _ _ _ _ _ _ us hl => match us, hl with | [_, _, _], _ => rfl⟩
  have D_moves : DefAt K mg "moves" (topS 35) ["code", "handlers", "index"] := by
    obtain ⟨fd, F⟩ := c.t.d.def_ 6 (d := dd_moves) rfl
    exact ⟨_, fd, F, He.glo_ok X G (c.t.d.fact 6 (f := .glo "moves") rfl), FunD.bindsN F fun _ _ _ _ _ _ us hl => match us, hl with | [_, _, _], _ => rfl⟩
  have D_check_parts : DefAt K mg "check_parts" (topS 36) ["code", "lines", "handlers"] := by
    obtain ⟨fd, F⟩ := c.t.d.def_ 7 (d := dd_check_parts) rfl
    exact ⟨_, fd, F, He.glo_ok X G (c.t.d.fact 7 (f := .glo "check_parts") rfl), FunD.bindsN F fun _ _ _ _ _ _ us hl => match us, hl with | [_, _, _], _ => rfl⟩
  have D_depths_of : DefAt K mg "depths_of" (topS 37) ["code", "handlers"] := by
    obtain ⟨fd, F⟩ := c.t.d.def_ 8 (d := dd_depths_of) rfl
    exact ⟨_, fd, F, He.glo_ok X G (c.t.d.fact 8 (f := .glo "depths_of") rfl), FunD.bindsN F fun _ _ _ _ _ _ us hl => match us, hl with | [_, _], _ => rfl⟩
  obtain ⟨fd_Unit_init, F_Unit_init⟩ := c.t.d.def_ 9 (d := dd_Unit_init) rfl
  have D_exits : DefAt K mg "exits" (topS 39) ["unit", "index"] := by
    obtain ⟨fd, F⟩ := c.t.d.def_ 10 (d := dd_exits) rfl
    exact ⟨_, fd, F, He.glo_ok X G (c.t.d.fact 10 (f := .glo "exits") rfl), FunD.bindsN F fun _ _ _ _ _ _ us hl => match us, hl with | [_, _], _ => rfl⟩
  have D_line_after : DefAt K mg "line_after" (topS 41) ["unit", "index", "line"] := by
    obtain ⟨fd, F⟩ := c.t.d.def_ 11 (d := dd_line_after) rfl
    exact ⟨_, fd, F, He.glo_ok X G (c.t.d.fact 11 (f := .glo "line_after") rfl), FunD.bindsN F fun _ _ _ _ _ _ us hl => match us, hl with | [_, _, _], _ => rfl⟩
  have D_arrivals : DefAt K mg "arrivals" (topS 42) ["unit"] := by
    obtain ⟨fd, F⟩ := c.t.d.def_ 12 (d := dd_arrivals) rfl
    exact ⟨_, fd, F, He.glo_ok X G (c.t.d.fact 12 (f := .glo "arrivals") rfl), FunD.bindsN F fun _ _ _ _ _ _ us hl => match us, hl with | [_], _ => rfl⟩
  have D_witness : DefAt K mg "witness" (topS 44) ["unit", "index", "line"] := by
    obtain ⟨fd, F⟩ := c.t.d.def_ 13 (d := dd_witness) rfl
    exact ⟨_, fd, F, He.glo_ok X G (c.t.d.fact 13 (f := .glo "witness") rfl), FunD.bindsN F fun _ _ _ _ _ _ us hl => match us, hl with | [_, _, _], _ => rfl⟩
  have D_check_names : DefAt K mg "check_names" (topS 65) ["names"] := by
    obtain ⟨fd, F⟩ := c.t.d.def_ 14 (d := dd_check_names) rfl
    exact ⟨_, fd, F, He.glo_ok X G (c.t.d.fact 14 (f := .glo "check_names") rfl), FunD.bindsN F fun _ _ _ _ _ _ us hl => match us, hl with | [_], _ => rfl⟩
  obtain ⟨fd_Bench_init, F_Bench_init⟩ := c.t.d.def_ 15 (d := dd_Bench_init) rfl
  obtain ⟨fd_Bench_after, F_Bench_after⟩ := c.t.d.def_ 16 (d := dd_Bench_after) rfl
  obtain ⟨fd_Bench_apply, F_Bench_apply⟩ := c.t.d.def_ 17 (d := dd_Bench_apply) rfl
  obtain ⟨fd_Bench_undo, F_Bench_undo⟩ := c.t.d.def_ 18 (d := dd_Bench_undo) rfl
  have D_blocks : DefAt K mg "blocks" (topS 68) ["unit"] := by
    obtain ⟨fd, F⟩ := c.t.d.def_ 19 (d := dd_blocks) rfl
    exact ⟨_, fd, F, He.glo_ok X G (c.t.d.fact 19 (f := .glo "blocks") rfl), FunD.bindsN F fun _ _ _ _ _ _ us hl => match us, hl with | [_], _ => rfl⟩
  have D_check_order : DefAt K mg "check_order" (topS 69) ["order", "many"] := by
    obtain ⟨fd, F⟩ := c.t.d.def_ 20 (d := dd_check_order) rfl
    exact ⟨_, fd, F, He.glo_ok X G (c.t.d.fact 20 (f := .glo "check_order") rfl), FunD.bindsN F fun _ _ _ _ _ _ us hl => match us, hl with | [_, _], _ => rfl⟩
  have D_reorder : DefAt K mg "reorder" (topS 72) ["unit", "order"] := by
    obtain ⟨fd, F⟩ := c.t.d.def_ 21 (d := dd_reorder) rfl
    exact ⟨_, fd, F, He.glo_ok X G (c.t.d.fact 21 (f := .glo "reorder") rfl), FunD.bindsN F fun _ _ _ _ _ _ us hl => match us, hl with | [_, _], _ => rfl⟩
  have D_unfolded : DefAt K mg "unfolded" (topS 76) ["number"] := by
    obtain ⟨fd, F⟩ := c.t.d.def_ 22 (d := dd_unfolded) rfl
    exact ⟨_, fd, F, He.glo_ok X G (c.t.d.fact 22 (f := .glo "unfolded") rfl), FunD.bindsN F fun _ _ _ _ _ _ us hl => match us, hl with | [_], _ => rfl⟩
  have D_unpacked : DefAt K mg "unpacked" (topS 77) ["data", "at"] := by
    obtain ⟨fd, F⟩ := c.t.d.def_ 23 (d := dd_unpacked) rfl
    exact ⟨_, fd, F, He.glo_ok X G (c.t.d.fact 23 (f := .glo "unpacked") rfl), FunD.bindsN F fun _ _ _ _ _ _ us hl => match us, hl with | [_, _], _ => rfl⟩
  have D_read_stretches : DefAt K mg "read_stretches" (topS 78) ["data"] := by
    obtain ⟨fd, F⟩ := c.t.d.def_ 24 (d := dd_read_stretches) rfl
    exact ⟨_, fd, F, He.glo_ok X G (c.t.d.fact 24 (f := .glo "read_stretches") rfl), FunD.bindsN F fun _ _ _ _ _ _ us hl => match us, hl with | [_], _ => rfl⟩
  have D_unpack_lines : DefAt K mg "unpack_lines" (topS 79) ["data"] := by
    obtain ⟨fd, F⟩ := c.t.d.def_ 25 (d := dd_unpack_lines) rfl
    exact ⟨_, fd, F, He.glo_ok X G (c.t.d.fact 25 (f := .glo "unpack_lines") rfl), FunD.bindsN F fun _ _ _ _ _ _ us hl => match us, hl with | [_], _ => rfl⟩
  have D_line_at : DefAt K mg "line_at" (topS 80) ["data", "index"] := by
    obtain ⟨fd, F⟩ := c.t.d.def_ 26 (d := dd_line_at) rfl
    exact ⟨_, fd, F, He.glo_ok X G (c.t.d.fact 26 (f := .glo "line_at") rfl), FunD.bindsN F fun _ _ _ _ _ _ us hl => match us, hl with | [_, _], _ => rfl⟩
  have D_number_of : DefAt K mg "number_of" (topS 83) ["word", "least", "greatest"] := by
    obtain ⟨fd, F⟩ := c.t.d.def_ 27 (d := dd_number_of) rfl
    exact ⟨_, fd, F, He.glo_ok X G (c.t.d.fact 27 (f := .glo "number_of") rfl), FunD.bindsN F fun _ _ _ _ _ _ us hl => match us, hl with | [_, _, _], _ => rfl⟩
  have D_instruction_of : DefAt K mg "instruction_of" (topS 85) ["words", "row"] := by
    obtain ⟨fd, F⟩ := c.t.d.def_ 28 (d := dd_instruction_of) rfl
    exact ⟨_, fd, F, He.glo_ok X G (c.t.d.fact 28 (f := .glo "instruction_of") rfl), FunD.bindsN F fun _ _ _ _ _ _ us hl => match us, hl with | [_, _], _ => rfl⟩
  have D_read : DefAt K mg "read" (topS 87) ["text"] := by
    obtain ⟨fd, F⟩ := c.t.d.def_ 29 (d := dd_read) rfl
    exact ⟨_, fd, F, He.glo_ok X G (c.t.d.fact 29 (f := .glo "read") rfl), FunD.bindsN F fun _ _ _ _ _ _ us hl => match us, hl with | [_], _ => rfl⟩
  have D_law_begin : DefAt K mg "_law_begin" (topS 89) ["_law_script"] := by
    obtain ⟨fd, F⟩ := c.t.d.def_ 30 (d := dd_law_begin) rfl
    exact ⟨_, fd, F, He.glo_ok X G (c.t.d.fact 30 (f := .glo "_law_begin") rfl), FunD.bindsN F fun _ _ _ _ _ _ us hl => match us, hl with | [_], _ => rfl⟩
  have D_law_draw : DefAt K mg "_law_draw" (topS 90) ["_law_draws", "_law_many"] := by
    obtain ⟨fd, F⟩ := c.t.d.def_ 31 (d := dd_law_draw) rfl
    exact ⟨_, fd, F, He.glo_ok X G (c.t.d.fact 31 (f := .glo "_law_draw") rfl), FunD.bindsN F fun _ _ _ _ _ _ us hl => match us, hl with | [_, _], _ => rfl⟩
  have D_law_first : DefAt K mg "_law_first" (topS 91) ["_law_at"] := by
    obtain ⟨fd, F⟩ := c.t.d.def_ 32 (d := dd_law_first) rfl
    exact ⟨_, fd, F, He.glo_ok X G (c.t.d.fact 32 (f := .glo "_law_first") rfl), FunD.bindsN F fun _ _ _ _ _ _ us hl => match us, hl with | [_], _ => rfl⟩
  have D_law_second : DefAt K mg "_law_second" (topS 92) ["_law_at", "_law_unit"] := by
    obtain ⟨fd, F⟩ := c.t.d.def_ 33 (d := dd_law_second) rfl
    exact ⟨_, fd, F, He.glo_ok X G (c.t.d.fact 33 (f := .glo "_law_second") rfl), FunD.bindsN F fun _ _ _ _ _ _ us hl => match us, hl with | [_, _], _ => rfl⟩
  have D_law_kinds : DefAt K mg "_law_kinds" (topS 93) ["_law_e"] := by
    obtain ⟨fd, F⟩ := c.t.d.def_ 34 (d := dd_law_kinds) rfl
    exact ⟨_, fd, F, He.glo_ok X G (c.t.d.fact 34 (f := .glo "_law_kinds") rfl), FunD.bindsN F fun _ _ _ _ _ _ us hl => match us, hl with | [_], _ => rfl⟩
  obtain ⟨fd, F⟩ := c.t.d.def_ 35 (d := dd_law) rfl
  have z_bool : mg "bool" = none := He.free_ok X G (c.t.d.fact 36 (f := .free "bool") rfl)
  have z_isinstance : mg "isinstance" = none := He.free_ok X G (c.t.d.fact 37 (f := .free "isinstance") rfl)
  have z_int : mg "int" = none := He.free_ok X G (c.t.d.fact 38 (f := .free "int") rfl)
  have z_len : mg "len" = none := He.free_ok X G (c.t.d.fact 39 (f := .free "len") rfl)
  have z_str : mg "str" = none := He.free_ok X G (c.t.d.fact 40 (f := .free "str") rfl)
  have z_tuple : mg "tuple" = none := He.free_ok X G (c.t.d.fact 41 (f := .free "tuple") rfl)
  have z_enumerate : mg "enumerate" = none := He.free_ok X G (c.t.d.fact 42 (f := .free "enumerate") rfl)
  have z_max : mg "max" = none := He.free_ok X G (c.t.d.fact 43 (f := .free "max") rfl)
  have z_range : mg "range" = none := He.free_ok X G (c.t.d.fact 44 (f := .free "range") rfl)
  have z_sorted : mg "sorted" = none := He.free_ok X G (c.t.d.fact 45 (f := .free "sorted") rfl)
  have z_list : mg "list" = none := He.free_ok X G (c.t.d.fact 46 (f := .free "list") rfl)
  have z_zip : mg "zip" = none := He.free_ok X G (c.t.d.fact 47 (f := .free "zip") rfl)
  have z_divmod : mg "divmod" = none := He.free_ok X G (c.t.d.fact 48 (f := .free "divmod") rfl)
  have z_ValueError : mg "ValueError" = none := He.free_ok X G (c.t.d.fact 49 (f := .free "ValueError") rfl)
  have more := c.more
  simp only [exB, Bool.and_eq_true] at more
  have k_LETTERS : ∃ t, mg "LETTERS" = some (.str c_LETTERS t) := He.str_ok X G (c.t.d.fact 50 (f := .str "LETTERS" c_LETTERS) rfl)
  have k_PLAIN : WTup K mg "PLAIN" c_PLAIN := wtup_of X G (c.t.d.fact 51 (f := .glo "PLAIN") rfl) more.1
  have k_NAMED : WTup K mg "NAMED" c_NAMED := wtup_of X G (c.t.d.fact 52 (f := .glo "NAMED") rfl) more.2.1
  have k_JUMPS : WTup K mg "JUMPS" c_JUMPS := wtup_of X G (c.t.d.fact 53 (f := .glo "JUMPS") rfl) more.2.2.1
  have k_LAST : WTup K mg "LAST" c_LAST := wtup_of X G (c.t.d.fact 54 (f := .glo "LAST") rfl) more.2.2.2.1
  have k_GREATEST : ∃ t, mg "GREATEST" = some (.int c_GREATEST t) := He.int_ok X G (c.t.d.fact 55 (f := .int "GREATEST" c_GREATEST) rfl)
  have k_LINES : ∃ t, mg "LINES" = some (.int c_LINES t) := He.int_ok X G (c.t.d.fact 56 (f := .int "LINES" c_LINES) rfl)
  have k_MOST : ∃ t, mg "MOST" = some (.int c_MOST t) := He.int_ok X G (c.t.d.fact 57 (f := .int "MOST" c_MOST) rfl)
  have k_NAMES : WTup K mg "NAMES" c_NAMES := wtup_of X G (c.t.d.fact 58 (f := .glo "NAMES") rfl) more.2.2.2.2.1
  have k_GROUP : ∃ t, mg "GROUP" = some (.int c_GROUP t) := He.int_ok X G (c.t.d.fact 59 (f := .int "GROUP" c_GROUP) rfl)
  have k_MOST_LINES : ∃ t, mg "MOST_LINES" = some (.int c_MOST_LINES t) := He.int_ok X G (c.t.d.fact 60 (f := .int "MOST_LINES" c_MOST_LINES) rfl)
  have k_FIGURES : ∃ t, mg "FIGURES" = some (.str c_FIGURES t) := He.str_ok X G (c.t.d.fact 61 (f := .str "FIGURES" c_FIGURES) rfl)
  have x_BadCode := excB_ok X G more.2.2.2.2.2.1
  have x_FallsOff := excB_ok X G more.2.2.2.2.2.2.1
  have x_BadDepth := excB_ok X G more.2.2.2.2.2.2.2.1
  have x_NoPath := excB_ok X G more.2.2.2.2.2.2.2.2.1
  have x_NothingToUndo := excB_ok X G more.2.2.2.2.2.2.2.2.2.1
  have x_BadOrder := excB_ok X G more.2.2.2.2.2.2.2.2.2.2.1
  have x_BadIndex := excB_ok X G more.2.2.2.2.2.2.2.2.2.2.2.1
  have x_BadInstruction : ∀ base, ExcI P w K mg base "BadInstruction" "index" (He.ga K "BadInstruction") := fun base => by
    obtain ⟨fd, F⟩ := c.t.d.def_ 36 (d := dd_ini_BadInstruction) rfl
    exact (oexB_ok X G more.2.2.2.2.2.2.2.2.2.2.2.2.1).ok (st := ini_BadInstruction) (dvs := []) (kws := []) F (FunD.bindsN F fun _ _ _ _ _ _ us hl => match us, hl with | [_, _], _ => rfl) ⟨rfl, rfl, rfl, by decide +kernel, rfl, by decide +kernel, by decide +kernel⟩ rfl (by decide +kernel) (by decide +kernel)
  have x_BadTarget : ∀ base, ExcI P w K mg base "BadTarget" "index" (He.ga K "BadTarget") := fun base => by
    obtain ⟨fd, F⟩ := c.t.d.def_ 37 (d := dd_ini_BadTarget) rfl
    exact (oexB_ok X G more.2.2.2.2.2.2.2.2.2.2.2.2.2.1).ok (st := ini_BadTarget) (dvs := []) (kws := []) F (FunD.bindsN F fun _ _ _ _ _ _ us hl => match us, hl with | [_, _], _ => rfl) ⟨rfl, rfl, rfl, by decide +kernel, rfl, by decide +kernel, by decide +kernel⟩ rfl (by decide +kernel) (by decide +kernel)
  have x_BadLine : ∀ base, ExcI P w K mg base "BadLine" "index" (He.ga K "BadLine") := fun base => by
    obtain ⟨fd, F⟩ := c.t.d.def_ 38 (d := dd_ini_BadLine) rfl
    exact (oexB_ok X G more.2.2.2.2.2.2.2.2.2.2.2.2.2.2.1).ok (st := ini_BadLine) (dvs := []) (kws := []) F (FunD.bindsN F fun _ _ _ _ _ _ us hl => match us, hl with | [_, _], _ => rfl) ⟨rfl, rfl, rfl, by decide +kernel, rfl, by decide +kernel, by decide +kernel⟩ rfl (by decide +kernel) (by decide +kernel)
  have x_BadHandler : ∀ base, ExcI P w K mg base "BadHandler" "index" (He.ga K "BadHandler") := fun base => by
    obtain ⟨fd, F⟩ := c.t.d.def_ 39 (d := dd_ini_BadHandler) rfl
    exact (oexB_ok X G more.2.2.2.2.2.2.2.2.2.2.2.2.2.2.2.1).ok (st := ini_BadHandler) (dvs := []) (kws := []) F (FunD.bindsN F fun _ _ _ _ _ _ us hl => match us, hl with | [_, _], _ => rfl) ⟨rfl, rfl, rfl, by decide +kernel, rfl, by decide +kernel, by decide +kernel⟩ rfl (by decide +kernel) (by decide +kernel)
  have x_BadPass : ∀ base, ExcI P w K mg base "BadPass" "index" (He.ga K "BadPass") := fun base => by
    obtain ⟨fd, F⟩ := c.t.d.def_ 40 (d := dd_ini_BadPass) rfl
    exact (oexB_ok X G more.2.2.2.2.2.2.2.2.2.2.2.2.2.2.2.2.1).ok (st := ini_BadPass) (dvs := []) (kws := []) F (FunD.bindsN F fun _ _ _ _ _ _ us hl => match us, hl with | [_, _], _ => rfl) ⟨rfl, rfl, rfl, by decide +kernel, rfl, by decide +kernel, by decide +kernel⟩ rfl (by decide +kernel) (by decide +kernel)
  have x_BadData : ∀ base, ExcI P w K mg base "BadData" "index" (He.ga K "BadData") := fun base => by
    obtain ⟨fd, F⟩ := c.t.d.def_ 41 (d := dd_ini_BadData) rfl
    exact (oexB_ok X G more.2.2.2.2.2.2.2.2.2.2.2.2.2.2.2.2.2.1).ok (st := ini_BadData) (dvs := []) (kws := []) F (FunD.bindsN F fun _ _ _ _ _ _ us hl => match us, hl with | [_, _], _ => rfl) ⟨rfl, rfl, rfl, by decide +kernel, rfl, by decide +kernel, by decide +kernel⟩ rfl (by decide +kernel) (by decide +kernel)
  have x_BadText : ∀ base, ExcI2 P w K mg base "BadText" "row" "word" (He.ga K "BadText") := fun base => by
    obtain ⟨fd, F⟩ := c.t.d.def_ 42 (d := dd_ini_BadText) rfl
    exact (oexB_ok X G more.2.2.2.2.2.2.2.2.2.2.2.2.2.2.2.2.2.2.1).ok2 (oexB_ok X G more.2.2.2.2.2.2.2.2.2.2.2.2.2.2.2.2.2.2.2.1) (st := ini_BadText) (dvs := []) (kws := []) F (FunD.bindsN F fun _ _ _ _ _ _ us hl => match us, hl with | [_, _, _], _ => rfl) ⟨rfl, rfl, rfl, by decide +kernel, rfl, by decide +kernel, by decide +kernel⟩ rfl (by decide +kernel) (by decide +kernel) (by decide +kernel)
  have m_TableError := exmB_ok X G more.2.2.2.2.2.2.2.2.2.2.2.2.2.2.2.2.2.2.2.2.1
  have xa := xisaB_ok X G more.2.2.2.2.2.2.2.2.2.2.2.2.2.2.2.2.2.2.2.2.2.1
  have u_BadLine := xa.xis X G (by decide +kernel) more.2.2.2.2.2.2.2.2.2.2.2.2.2.2.2.2.2.2.2.2.2.2.1
  have u_BadTarget := xa.xis X G (by decide +kernel) more.2.2.2.2.2.2.2.2.2.2.2.2.2.2.2.2.2.2.2.2.2.2.2.1
  have u_BadInstruction := xa.xis X G (by decide +kernel) more.2.2.2.2.2.2.2.2.2.2.2.2.2.2.2.2.2.2.2.2.2.2.2.2.1
  have u_BadCode := xa.xis X G (by decide +kernel) more.2.2.2.2.2.2.2.2.2.2.2.2.2.2.2.2.2.2.2.2.2.2.2.2.2.1
  have u_BadOrder := xa.xis X G (by decide +kernel) more.2.2.2.2.2.2.2.2.2.2.2.2.2.2.2.2.2.2.2.2.2.2.2.2.2.2.1
  have u_BadDepth := xa.xis X G (by decide +kernel) more.2.2.2.2.2.2.2.2.2.2.2.2.2.2.2.2.2.2.2.2.2.2.2.2.2.2.2.1
  have u_FallsOff := xa.xis X G (by decide +kernel) more.2.2.2.2.2.2.2.2.2.2.2.2.2.2.2.2.2.2.2.2.2.2.2.2.2.2.2.2.1
  have u_BadHandler := xa.xis X G (by decide +kernel) more.2.2.2.2.2.2.2.2.2.2.2.2.2.2.2.2.2.2.2.2.2.2.2.2.2.2.2.2.2.1
  have u_BadData := xa.xis X G (by decide +kernel) more.2.2.2.2.2.2.2.2.2.2.2.2.2.2.2.2.2.2.2.2.2.2.2.2.2.2.2.2.2.2.1
  have u_BadIndex := xa.xis X G (by decide +kernel) more.2.2.2.2.2.2.2.2.2.2.2.2.2.2.2.2.2.2.2.2.2.2.2.2.2.2.2.2.2.2.2.1
  have u_NoPath := xa.xis X G (by decide +kernel) more.2.2.2.2.2.2.2.2.2.2.2.2.2.2.2.2.2.2.2.2.2.2.2.2.2.2.2.2.2.2.2.2.1
  have u_BadText := xa.xis X G (by decide +kernel) more.2.2.2.2.2.2.2.2.2.2.2.2.2.2.2.2.2.2.2.2.2.2.2.2.2.2.2.2.2.2.2.2.2.1
  have u_BadPass := xa.xis X G (by decide +kernel) more.2.2.2.2.2.2.2.2.2.2.2.2.2.2.2.2.2.2.2.2.2.2.2.2.2.2.2.2.2.2.2.2.2.2.1
  have u_NothingToUndo := xa.xis X G (by decide +kernel) more.2.2.2.2.2.2.2.2.2.2.2.2.2.2.2.2.2.2.2.2.2.2.2.2.2.2.2.2.2.2.2.2.2.2.2.1
  have v_ValueError := xa.xiy (by decide +kernel) more.2.2.2.2.2.2.2.2.2.2.2.2.2.2.2.2.2.2.2.2.2.2.2.2.2.2.2.2.2.2.2.2.2.2.2.2.1
  have p_REMOVED : WMap K w mg "REMOVED" c_REMOVED := mapB_ok X G more.2.2.2.2.2.2.2.2.2.2.2.2.2.2.2.2.2.2.2.2.2.2.2.2.2.2.2.2.2.2.2.2.2.2.2.2.2.1 (c.t.tab 0) more.2.2.2.2.2.2.2.2.2.2.2.2.2.2.2.2.2.2.2.2.2.2.2.2.2.2.2.2.2.2.2.2.2.2.2.2.2.2.1
  have p_PUSHED : WMap K w mg "PUSHED" c_PUSHED := mapB_ok X G more.2.2.2.2.2.2.2.2.2.2.2.2.2.2.2.2.2.2.2.2.2.2.2.2.2.2.2.2.2.2.2.2.2.2.2.2.2.2.2.1 (c.t.tab 1) more.2.2.2.2.2.2.2.2.2.2.2.2.2.2.2.2.2.2.2.2.2.2.2.2.2.2.2.2.2.2.2.2.2.2.2.2.2.2.2.2.1
  have a_Unit_code := attB_ok X G more.2.2.2.2.2.2.2.2.2.2.2.2.2.2.2.2.2.2.2.2.2.2.2.2.2.2.2.2.2.2.2.2.2.2.2.2.2.2.2.2.2.1
  have a_Unit_lines := attB_ok X G more.2.2.2.2.2.2.2.2.2.2.2.2.2.2.2.2.2.2.2.2.2.2.2.2.2.2.2.2.2.2.2.2.2.2.2.2.2.2.2.2.2.2.1
  have a_Unit_handlers := attB_ok X G more.2.2.2.2.2.2.2.2.2.2.2.2.2.2.2.2.2.2.2.2.2.2.2.2.2.2.2.2.2.2.2.2.2.2.2.2.2.2.2.2.2.2.2.1
  have a_Unit_found_depths := attB_ok X G more.2.2.2.2.2.2.2.2.2.2.2.2.2.2.2.2.2.2.2.2.2.2.2.2.2.2.2.2.2.2.2.2.2.2.2.2.2.2.2.2.2.2.2.2.1
  have a_Bench_present := attB_ok X G more.2.2.2.2.2.2.2.2.2.2.2.2.2.2.2.2.2.2.2.2.2.2.2.2.2.2.2.2.2.2.2.2.2.2.2.2.2.2.2.2.2.2.2.2.2.1
  have a_Bench_places := attB_ok X G more.2.2.2.2.2.2.2.2.2.2.2.2.2.2.2.2.2.2.2.2.2.2.2.2.2.2.2.2.2.2.2.2.2.2.2.2.2.2.2.2.2.2.2.2.2.2.1
  have a_Bench_applied := attB_ok X G more.2.2.2.2.2.2.2.2.2.2.2.2.2.2.2.2.2.2.2.2.2.2.2.2.2.2.2.2.2.2.2.2.2.2.2.2.2.2.2.2.2.2.2.2.2.2.2.1
  have a_Bench_past := attB_ok X G more.2.2.2.2.2.2.2.2.2.2.2.2.2.2.2.2.2.2.2.2.2.2.2.2.2.2.2.2.2.2.2.2.2.2.2.2.2.2.2.2.2.2.2.2.2.2.2.2.1
  have wg_Bench := He.glo_ok X G more.2.2.2.2.2.2.2.2.2.2.2.2.2.2.2.2.2.2.2.2.2.2.2.2.2.2.2.2.2.2.2.2.2.2.2.2.2.2.2.2.2.2.2.2.2.2.2.2.2.1
  have wc_Bench := He.cls_ok more.2.2.2.2.2.2.2.2.2.2.2.2.2.2.2.2.2.2.2.2.2.2.2.2.2.2.2.2.2.2.2.2.2.2.2.2.2.2.2.2.2.2.2.2.2.2.2.2.2.2.1
  have wk_Bench := He.mkr_ok more.2.2.2.2.2.2.2.2.2.2.2.2.2.2.2.2.2.2.2.2.2.2.2.2.2.2.2.2.2.2.2.2.2.2.2.2.2.2.2.2.2.2.2.2.2.2.2.2.2.2.2.1
  have wm_Bench_after := He.meth_ok more.2.2.2.2.2.2.2.2.2.2.2.2.2.2.2.2.2.2.2.2.2.2.2.2.2.2.2.2.2.2.2.2.2.2.2.2.2.2.2.2.2.2.2.2.2.2.2.2.2.2.2.2.1
  have wm_Bench_undo := He.meth_ok more.2.2.2.2.2.2.2.2.2.2.2.2.2.2.2.2.2.2.2.2.2.2.2.2.2.2.2.2.2.2.2.2.2.2.2.2.2.2.2.2.2.2.2.2.2.2.2.2.2.2.2.2.2.1
  have wm_Bench_apply := He.meth_ok more.2.2.2.2.2.2.2.2.2.2.2.2.2.2.2.2.2.2.2.2.2.2.2.2.2.2.2.2.2.2.2.2.2.2.2.2.2.2.2.2.2.2.2.2.2.2.2.2.2.2.2.2.2.2.1
  have mg_Unit := He.glo_ok X G more.2.2.2.2.2.2.2.2.2.2.2.2.2.2.2.2.2.2.2.2.2.2.2.2.2.2.2.2.2.2.2.2.2.2.2.2.2.2.2.2.2.2.2.2.2.2.2.2.2.2.2.2.2.2.2.1
  have mm_Unit := He.mkr_ok more.2.2.2.2.2.2.2.2.2.2.2.2.2.2.2.2.2.2.2.2.2.2.2.2.2.2.2.2.2.2.2.2.2.2.2.2.2.2.2.2.2.2.2.2.2.2.2.2.2.2.2.2.2.2.2.2.1
  have df_Unit_0 := dfT_ok (mg := mg) more.2.2.2.2.2.2.2.2.2.2.2.2.2.2.2.2.2.2.2.2.2.2.2.2.2.2.2.2.2.2.2.2.2.2.2.2.2.2.2.2.2.2.2.2.2.2.2.2.2.2.2.2.2.2.2.2.2.1
  have e := hfa.symm.trans (He.glo_ok X G (c.t.d.fact 35 (f := .glo "law") rfl))
  cases e
  refine ⟨fd, fun s v => FunD.bindsA (ps := ["_law_script"]) F (fun _ _ _ _ _ _ us hl => match us, hl with | [_], _ => rfl) s [v] rfl, fun base _ _ => ?_⟩
  have x_BadInstruction := x_BadInstruction base
  have x_BadTarget := x_BadTarget base
  have x_BadLine := x_BadLine base
  have x_BadHandler := x_BadHandler base
  have x_BadPass := x_BadPass base
  have x_BadData := x_BadData base
  have x_BadText := x_BadText base
  have c_in_range := d_in_range (P := P) (w := w) (base := base) D_in_range z_bool z_isinstance z_int
  have c_is_word := d_is_word (P := P) (w := w) (base := base) D_is_word z_len z_str z_isinstance k_LETTERS
  have c_raised_kind := d_raised_kind (P := P) (w := w) (base := base) D_raised_kind 
  have c_receiver := d_receiver (P := P) (w := w) (base := base) D_receiver 
  have c_line_after := d_line_after (P := P) (w := w) (base := base) D_line_after a_Unit_lines
  have h_Bench_init := d_Bench_init (P := P) (w := w) (base := base) F_Bench_init a_Bench_present a_Bench_places a_Unit_code z_len z_tuple z_range a_Bench_applied a_Bench_past
  have mw_Bench : MkW P w K mg base 1 "Bench" f_Bench_init 1 := ⟨_, _, _, _, wk_Bench, h_Bench_init, wg_Bench, (FunD.bindsN F_Bench_init (fun _ _ _ _ _ _ us hl => match us, hl with | [_, _], _ => rfl)), rfl⟩
  have h_Bench_undo := d_Bench_undo (P := P) (w := w) (base := base) F_Bench_undo a_Bench_past x_NothingToUndo a_Bench_applied a_Bench_places a_Bench_present
  have mt_Bench_undo : MtW P w K mg base 1 "Bench" "undo" f_Bench_undo := MtW.of wg_Bench wc_Bench wm_Bench_undo h_Bench_undo (FunD.bindsN F_Bench_undo (fun _ _ _ _ _ _ us hl => match us, hl with | [_], _ => rfl))
  have c_blocks := d_blocks (P := P) (w := w) (base := base) D_blocks a_Unit_code k_JUMPS a_Unit_handlers z_enumerate z_len k_LAST z_sorted z_list z_zip
  have c_unfolded := d_unfolded (P := P) (w := w) (base := base) D_unfolded z_divmod
  have c_number_of := d_number_of (P := P) (w := w) (base := base) D_number_of z_len k_FIGURES z_int
  have c_law_begin := d_law_begin (P := P) (w := w) (base := base) D_law_begin z_list
  have c_law_draw := d_law_draw (P := P) (w := w) (base := base) D_law_draw z_len z_int
  have k_law_kinds := d_law_kinds (P := P) (w := w) (base := base) D_law_kinds u_BadLine z_isinstance u_BadTarget u_BadInstruction u_BadCode u_BadOrder u_BadDepth u_FallsOff u_BadHandler u_BadData u_BadIndex u_NoPath u_BadText u_BadPass u_NothingToUndo v_ValueError z_ValueError
  have c_fits_form := d_fits_form (P := P) (w := w) (base := base) D_fits_form c_in_range c_is_word z_str z_isinstance z_len z_tuple k_PLAIN k_GREATEST k_NAMED z_bool z_int k_JUMPS
  have c_is_handler := d_is_handler (P := P) (w := w) (base := base) D_is_handler c_in_range c_is_word z_len z_tuple z_isinstance k_MOST
  have c_moves := d_moves (P := P) (w := w) (base := base) D_moves c_raised_kind c_receiver z_len k_LAST k_JUMPS
  have c_check_order := d_check_order (P := P) (w := w) (base := base) D_check_order c_in_range z_len x_BadOrder z_sorted z_list z_range
  have c_check_parts := d_check_parts (P := P) (w := w) (base := base) D_check_parts c_fits_form c_is_handler c_in_range z_len k_MOST x_BadCode z_enumerate x_BadInstruction k_JUMPS x_BadTarget z_max z_range k_LINES x_BadLine x_BadHandler k_LAST x_FallsOff
  have c_depths_of := d_depths_of (P := P) (w := w) (base := base) D_depths_of c_moves z_len p_REMOVED x_BadDepth p_PUSHED z_tuple
  have c_exits := d_exits (P := P) (w := w) (base := base) D_exits c_moves a_Unit_code a_Unit_handlers z_sorted
  have c_check_names := d_check_names (P := P) (w := w) (base := base) D_check_names z_enumerate k_NAMES x_BadPass
  have c_unpacked := d_unpacked (P := P) (w := w) (base := base) D_unpacked k_GROUP z_len x_BadData
  have c_instruction_of := d_instruction_of (P := P) (w := w) (base := base) D_instruction_of c_number_of k_LINES x_BadText z_len k_PLAIN k_NAMED k_JUMPS
  have h_Unit_init := d_Unit_init (P := P) (w := w) (base := base) F_Unit_init c_check_parts c_depths_of a_Unit_code z_tuple a_Unit_lines a_Unit_handlers a_Unit_found_depths
  have mk3_Unit : Mka P w K mg base 4 "Unit" i_Unit_init 3 [] := by
    obtain ⟨ds, hd, hb⟩ := FunD.binds1 F_Unit_init (ps := ["self", "code", "lines", "handlers"]) 4 1 (List.cons_ne_nil _ _) rfl (fun T kV doc pm an cdv ct us its hl hi => match us, hl, its, hi with | [_, _, _, _], _, [_], _ => ⟨_, rfl, rfl⟩)
    exact ⟨_, _, _, _, _, ds, mm_Unit, h_Unit_init, mg_Unit, hb, hd, by rw [← hd.length]; rfl, fun H g => RVs.nil⟩
  have mk2_Unit : Mka P w K mg base 4 "Unit" i_Unit_init 2 [.con .out .tup []] := by
    obtain ⟨ds, hd, hb⟩ := FunD.binds1 F_Unit_init (ps := ["self", "code", "lines", "handlers"]) 3 0 (List.cons_ne_nil _ _) rfl (fun T kV doc pm an cdv ct us its hl hi => match us, hl, its, hi with | [_, _, _], _, [_], _ => ⟨_, rfl, rfl⟩)
    exact ⟨_, _, _, _, _, ds, mm_Unit, h_Unit_init, mg_Unit, hb, hd, by rw [← hd.length]; rfl, fun H g => (RVs.cons (df_Unit_0 H g 0) RVs.nil)⟩
  have c_arrivals := d_arrivals (P := P) (w := w) (base := base) D_arrivals c_exits c_line_after z_len
  have h_Bench_after := d_Bench_after (P := P) (w := w) (base := base) F_Bench_after c_check_names a_Bench_present a_Bench_places z_tuple
  have mt_Bench_after : MtW P w K mg base 4 "Bench" "after" f_Bench_after := MtW.of wg_Bench wc_Bench wm_Bench_after h_Bench_after (FunD.bindsN F_Bench_after (fun _ _ _ _ _ _ us hl => match us, hl with | [_, _], _ => rfl))
  have c_read_stretches := d_read_stretches (P := P) (w := w) (base := base) D_read_stretches c_unpacked c_unfolded z_len k_MOST_LINES x_BadData k_LINES
  have c_witness := d_witness (P := P) (w := w) (base := base) D_witness c_arrivals x_NoPath
  have c_unpack_lines := d_unpack_lines (P := P) (w := w) (base := base) D_unpack_lines c_read_stretches z_tuple
  have c_line_at := d_line_at (P := P) (w := w) (base := base) D_line_at c_read_stretches x_BadIndex
  have mt_Bench_apply := d_Bench_apply (P := P) (w := w) (base := base) wg_Bench wc_Bench wm_Bench_apply F_Bench_apply (by obtain ⟨_, _, _, _, _, _, _, _, _, _, rfl, _, _, hD, _⟩ := F_Bench_apply.ex; rcases hD with ⟨_, rfl⟩ | ⟨e, _⟩ <;> first | exact absurd rfl e | exact bindV_of (fun u => rfl) (fun u a => rfl) (fun u a b => rfl) (fun u a b c => rfl) (fun u a b c d => rfl) (fun u a b c d e => rfl)) mt_Bench_after a_Bench_past a_Bench_present a_Bench_places a_Bench_applied
  have c_reorder := d_reorder (P := P) (w := w) (base := base) D_reorder c_blocks c_check_order z_len z_enumerate z_tuple z_isinstance a_Unit_code k_JUMPS a_Unit_lines a_Unit_handlers mk3_Unit
  have c_read := d_read (P := P) (w := w) (base := base) D_read c_instruction_of z_enumerate x_BadText mk3_Unit
  have c_law_first := d_law_first (P := P) (w := w) (base := base) D_law_first mk2_Unit mk3_Unit
  have c_law_second := d_law_second (P := P) (w := w) (base := base) D_law_second c_reorder c_witness c_line_at c_unpack_lines c_read mw_Bench mt_Bench_undo mt_Bench_apply
  exact d_law F c_law_begin c_law_draw c_law_first c_law_second k_law_kinds mk2_Unit m_TableError z_range
end Law
open PySem PySem.W PySem.Calls PyProof.Rows
theorem PySem.Challenge.cw_codetables_k36_errors_are_apart_holds : PySem.Challenge.rw_codetables_k36_errors_are_apart.Holds := by
  w_on; o_law
  refine HandSHeadRun.head_any (r := OpenLaw.row PySem.Challenge.rw_codetables_k36_errors_are_apart) (q := view (OpenLaw.row PySem.Challenge.rw_codetables_k36_errors_are_apart).prog [94]) (H := Law.hk) (ob := Law.ob) (M := 9000) (loose := Law.looseL) (d := HandSHeadRun.topDef (OpenLaw.row PySem.Challenge.rw_codetables_k36_errors_are_apart).prog 94) (kwd := []) Law.ob_eq
    (by kernel_rfl) (fun s => by kernel_rfl) Law.run (by kernel_rfl) (by kernel_rfl) (by kernel_rfl) (by rfl) (by first | assumption | decide +kernel) (by decide +kernel) ⟨rfl, rfl, rfl, rfl, rfl, by decide +kernel⟩ ?hw ?hc
  case hw => w_witness2
  case hc =>
    refine Pv.law_end (l := PySem.Challenge.rw_codetables_k36_errors_are_apart) (n := 63) (k := 9) (x := "_law_script") rfl (by decide) (by kernel_rfl) ⟨rfl, by decide, by decide⟩ ?F
    intro w mg fa h Y G hmg0
    obtain ⟨K, KX, c⟩ := Y
    have hmg : mg ("law" : PySem.Str) = some (.ref fa) := by
      have e : (HandSHeadRun.topDef (OpenLaw.row PySem.Challenge.rw_codetables_k36_errors_are_apart).prog 94).name = ("law" : PySem.Str) := by kernel_rfl
      rw [← e]
      exact hmg0
    obtain ⟨fd, hb, hF⟩ := Law.facts (P := (PySem.Challenge.rw_codetables_k36_errors_are_apart).prog) (w := w) KX G hmg c
    exact ⟨K, Law.f_law, fd, KX, hb, Law.pure_law, hF⟩
