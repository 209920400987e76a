import PyProof.Rows.All
import Wide.All
import OpenK.AllK
import Wide.FinOn
import KE.KStateDown
import HandS.ForMost
import HandS.ForExc
import HandS.More
import HandS.Defaults
import HandS.MakeKwOnly
import HandS.Codes
import HandS.Conv
import HandS.Zip
import HandS.TupAny
import HandS.Style
import HandS.FStr
import HandS.IsInst
import HandS.RaiseMore
import HandS.ExcInit
import KE.KExcInit
import HandS.ExcField
import HandS.ExcBuiltin
import HandS.TryMany
import HandS.Nested
import HandS.OwnEq
import HandS.WideBits
import HandS.Wide
import HandS.CallSlots
import HandS.Walk
import HandS.Small
import HandS.ListEq
import HandS.Deep
import HandS.Head0
import HandS.Head1
import HandS.Head2
import HandS.HeadEnd
import HandS.HeadHook1
import HandS.HeadHook2
import HandS.HeadHook3
import HandS.HeadHook4
import HandS.HeadWalk
import PySem.Challenge.RW_copyring_k71_whole_all_or_none
import KE.GoesMore
import HandS.ExcCtx
import HandS.HotCalls
import HandS.Finally
import PyProof.TupleOfStr
set_option Elab.async false
set_option linter.all false
set_option maxRecDepth 100000
set_option maxHeartbeats 4000000
/-! Data: the text by places, one datum a def, the facts that the head tells. -/
namespace K71
open PySem PySem.Spec PyProof.Rows L2
def top (i : Nat) : Stmt := PySem.Challenge.pw_copyring_k71_whole_all_or_none.main.body.getD i (.Pass ⟨0, 0, 0, 0⟩)
abbrev s_wall : Stmt := top 0
abbrev s_InvalidSize_init : Stmt := inClass (top 3) 0
abbrev s_InvalidLocks_init : Stmt := inClass (top 4) 0
abbrev s_InvalidWalls_init : Stmt := inClass (top 5) 0
abbrev s_InvalidPrices_init : Stmt := inClass (top 6) 0
abbrev s_InvalidRing_init : Stmt := inClass (top 7) 0
abbrev s_InvalidInstruction_init : Stmt := inClass (top 8) 0
abbrev s_InvalidContent_init : Stmt := inClass (top 9) 0
abbrev s_InvalidSteps_init : Stmt := inClass (top 10) 0
abbrev s_InvalidText_init : Stmt := inClass (top 11) 0
abbrev s_InvalidLine_init : Stmt := inClass (top 12) 0
abbrev s_TooMany_init : Stmt := inClass (top 16) 0
abbrev s_is_integer : Stmt := top 21
abbrev s_is_ascending : Stmt := top 22
abbrev s_first_wrong : Stmt := top 23
abbrev s_Ring_init : Stmt := inClass (top 29) 0
abbrev s_Ring_eq : Stmt := inClass (top 29) 1
abbrev s_Ring_str : Stmt := inClass (top 29) 2
abbrev s_Ring_repr : Stmt := inClass (top 29) 3
abbrev s_Ring_allows : Stmt := inClass (top 29) 4
abbrev s_Ring_segments : Stmt := inClass (top 29) 5
abbrev s_Ring_segment_end : Stmt := inClass (top 29) 6
abbrev s_checked_prices : Stmt := top 30
abbrev s_check_ring : Stmt := top 31
abbrev s_identity_of : Stmt := top 32
abbrev s_is_content : Stmt := top 33
abbrev s_check_content : Stmt := top 34
abbrev s_is_pair : Stmt := top 36
abbrev s_after : Stmt := top 38
abbrev s_joined : Stmt := top 39
abbrev s_powered : Stmt := top 40
abbrev s_effect_of : Stmt := top 41
abbrev s_letters_of : Stmt := top 42
abbrev s_Recorder_init : Stmt := inClass (top 44) 0
abbrev s_Recorder_eq : Stmt := inClass (top 44) 1
abbrev s_Recorder_len : Stmt := inClass (top 44) 2
abbrev s_Recorder_str : Stmt := inClass (top 44) 3
abbrev s_Recorder_repr : Stmt := inClass (top 44) 4
abbrev s_Recorder_write : Stmt := inClass (top 44) 5
abbrev s_Recorder_write_all : Stmt := inClass (top 44) 6
abbrev s_Recorder_undo : Stmt := inClass (top 44) 7
abbrev s_Recorder_held : Stmt := inClass (top 44) 8
abbrev s_Recorder_recorded : Stmt := inClass (top 44) 9
abbrev s_Recorder_sources : Stmt := inClass (top 44) 10
abbrev s_Recorder_spent : Stmt := inClass (top 44) 11
abbrev s_read_number : Stmt := top 48
abbrev s_numbers_of : Stmt := top 49
abbrev s_read_ring : Stmt := top 50
abbrev s_parse_ring : Stmt := top 51
abbrev s_Lcell : Stmt := top 53
abbrev s_Lsource : Stmt := top 54
abbrev s_Ldraw : Stmt := top 55
abbrev s_Lland : Stmt := top 56
abbrev s_Lcircle : Stmt := top 57
abbrev s_Lorders : Stmt := top 58
abbrev s_Lcopied : Stmt := top 59
abbrev s_Lfilled : Stmt := top 60
abbrev s_Lsome : Stmt := top 61
abbrev s_Lstate : Stmt := top 62
abbrev s_Ldue : Stmt := top 63
abbrev s_Lwatch : Stmt := top 64
abbrev s_Lfailed : Stmt := top 65
abbrev s_Lturn_right : Stmt := top 66
abbrev s_Llimit_right : Stmt := top 67
abbrev s_Lright : Stmt := top 68
abbrev s_law : Stmt := top 69

section
def d_InvalidInstruction_init : He.DefD := ⟨("InvalidInstruction", some "__init__"), "__init__", "InvalidInstruction.__init__", defArgs s_InvalidInstruction_init, defBody s_InvalidInstruction_init, defScope s_InvalidInstruction_init, [], []⟩
def d_InvalidLine_init : He.DefD := ⟨("InvalidLine", some "__init__"), "__init__", "InvalidLine.__init__", defArgs s_InvalidLine_init, defBody s_InvalidLine_init, defScope s_InvalidLine_init, [], []⟩
def d_TooMany_init : He.DefD := ⟨("TooMany", some "__init__"), "__init__", "TooMany.__init__", defArgs s_TooMany_init, defBody s_TooMany_init, defScope s_TooMany_init, [], []⟩
def d_is_integer : He.DefD := ⟨("is_integer", none), "is_integer", "is_integer", defArgs s_is_integer, defBody s_is_integer, defScope s_is_integer, [], []⟩
def d_is_ascending : He.DefD := ⟨("is_ascending", none), "is_ascending", "is_ascending", defArgs s_is_ascending, defBody s_is_ascending, defScope s_is_ascending, [], []⟩
def d_Ring_init : He.DefD := ⟨("Ring", some "__init__"), "__init__", "Ring.__init__", defArgs s_Ring_init, defBody s_Ring_init, defScope s_Ring_init, [], []⟩
def d_Ring_eq : He.DefD := ⟨("Ring", some "__eq__"), "__eq__", "Ring.__eq__", defArgs s_Ring_eq, defBody s_Ring_eq, defScope s_Ring_eq, [], []⟩
def d_Ring_str : He.DefD := ⟨("Ring", some "__str__"), "__str__", "Ring.__str__", defArgs s_Ring_str, defBody s_Ring_str, defScope s_Ring_str, [], []⟩
def d_Ring_allows : He.DefD := ⟨("Ring", some "allows"), "allows", "Ring.allows", defArgs s_Ring_allows, defBody s_Ring_allows, defScope s_Ring_allows, [], []⟩
def d_checked_prices : He.DefD := ⟨("checked_prices", none), "checked_prices", "checked_prices", defArgs s_checked_prices, defBody s_checked_prices, defScope s_checked_prices, [], []⟩
def d_check_ring : He.DefD := ⟨("check_ring", none), "check_ring", "check_ring", defArgs s_check_ring, defBody s_check_ring, defScope s_check_ring, [], []⟩
def d_identity_of : He.DefD := ⟨("identity_of", none), "identity_of", "identity_of", defArgs s_identity_of, defBody s_identity_of, defScope s_identity_of, [], []⟩
def d_is_content : He.DefD := ⟨("is_content", none), "is_content", "is_content", defArgs s_is_content, defBody s_is_content, defScope s_is_content, [], []⟩
def d_check_content : He.DefD := ⟨("check_content", none), "check_content", "check_content", defArgs s_check_content, defBody s_check_content, defScope s_check_content, [], []⟩
def d_is_pair : He.DefD := ⟨("is_pair", none), "is_pair", "is_pair", defArgs s_is_pair, defBody s_is_pair, defScope s_is_pair, [], []⟩
def d_after : He.DefD := ⟨("after", none), "after", "after", defArgs s_after, defBody s_after, defScope s_after, [], []⟩
def d_effect_of : He.DefD := ⟨("effect_of", none), "effect_of", "effect_of", defArgs s_effect_of, defBody s_effect_of, defScope s_effect_of, [], []⟩
def d_letters_of : He.DefD := ⟨("letters_of", none), "letters_of", "letters_of", defArgs s_letters_of, defBody s_letters_of, defScope s_letters_of, [], []⟩
def d_Recorder_init : He.DefD := ⟨("Recorder", some "__init__"), "__init__", "Recorder.__init__", defArgs s_Recorder_init, defBody s_Recorder_init, defScope s_Recorder_init, [], []⟩
def d_Recorder_eq : He.DefD := ⟨("Recorder", some "__eq__"), "__eq__", "Recorder.__eq__", defArgs s_Recorder_eq, defBody s_Recorder_eq, defScope s_Recorder_eq, [], []⟩
def d_Recorder_len : He.DefD := ⟨("Recorder", some "__len__"), "__len__", "Recorder.__len__", defArgs s_Recorder_len, defBody s_Recorder_len, defScope s_Recorder_len, [], []⟩
def d_Recorder_str : He.DefD := ⟨("Recorder", some "__str__"), "__str__", "Recorder.__str__", defArgs s_Recorder_str, defBody s_Recorder_str, defScope s_Recorder_str, [], []⟩
def d_Recorder_repr : He.DefD := ⟨("Recorder", some "__repr__"), "__repr__", "Recorder.__repr__", defArgs s_Recorder_repr, defBody s_Recorder_repr, defScope s_Recorder_repr, [], []⟩
def d_Recorder_write : He.DefD := ⟨("Recorder", some "write"), "write", "Recorder.write", defArgs s_Recorder_write, defBody s_Recorder_write, defScope s_Recorder_write, [], []⟩
def d_Recorder_write_all : He.DefD := ⟨("Recorder", some "write_all"), "write_all", "Recorder.write_all", defArgs s_Recorder_write_all, defBody s_Recorder_write_all, defScope s_Recorder_write_all, [], [("watch", .non)]⟩
def d_Recorder_undo : He.DefD := ⟨("Recorder", some "undo"), "undo", "Recorder.undo", defArgs s_Recorder_undo, defBody s_Recorder_undo, defScope s_Recorder_undo, [], []⟩
def d_Recorder_held : He.DefD := ⟨("Recorder", some "held"), "held", "Recorder.held", defArgs s_Recorder_held, defBody s_Recorder_held, defScope s_Recorder_held, [], []⟩
def d_Recorder_recorded : He.DefD := ⟨("Recorder", some "recorded"), "recorded", "Recorder.recorded", defArgs s_Recorder_recorded, defBody s_Recorder_recorded, defScope s_Recorder_recorded, [], []⟩
def d_Recorder_sources : He.DefD := ⟨("Recorder", some "sources"), "sources", "Recorder.sources", defArgs s_Recorder_sources, defBody s_Recorder_sources, defScope s_Recorder_sources, [], []⟩
def d_Recorder_spent : He.DefD := ⟨("Recorder", some "spent"), "spent", "Recorder.spent", defArgs s_Recorder_spent, defBody s_Recorder_spent, defScope s_Recorder_spent, [], []⟩
def d_read_number : He.DefD := ⟨("read_number", none), "read_number", "read_number", defArgs s_read_number, defBody s_read_number, defScope s_read_number, [], []⟩
def d_numbers_of : He.DefD := ⟨("numbers_of", none), "numbers_of", "numbers_of", defArgs s_numbers_of, defBody s_numbers_of, defScope s_numbers_of, [], []⟩
def d_read_ring : He.DefD := ⟨("read_ring", none), "read_ring", "read_ring", defArgs s_read_ring, defBody s_read_ring, defScope s_read_ring, [], []⟩
def d_parse_ring : He.DefD := ⟨("parse_ring", none), "parse_ring", "parse_ring", defArgs s_parse_ring, defBody s_parse_ring, defScope s_parse_ring, [], []⟩
def d_Lcell : He.DefD := ⟨("_law_cell", none), "_law_cell", "_law_cell", defArgs s_Lcell, defBody s_Lcell, defScope s_Lcell, [], []⟩
def d_Lsource : He.DefD := ⟨("_law_source", none), "_law_source", "_law_source", defArgs s_Lsource, defBody s_Lsource, defScope s_Lsource, [], []⟩
def d_Ldraw : He.DefD := ⟨("_law_draw", none), "_law_draw", "_law_draw", defArgs s_Ldraw, defBody s_Ldraw, defScope s_Ldraw, [], []⟩
def d_Lland : He.DefD := ⟨("_law_land", none), "_law_land", "_law_land", defArgs s_Lland, defBody s_Lland, defScope s_Lland, [], []⟩
def d_Lcircle : He.DefD := ⟨("_law_circle", none), "_law_circle", "_law_circle", defArgs s_Lcircle, defBody s_Lcircle, defScope s_Lcircle, [], []⟩
def d_Lorders : He.DefD := ⟨("_law_orders", none), "_law_orders", "_law_orders", defArgs s_Lorders, defBody s_Lorders, defScope s_Lorders, [], []⟩
def d_Lcopied : He.DefD := ⟨("_law_copied", none), "_law_copied", "_law_copied", defArgs s_Lcopied, defBody s_Lcopied, defScope s_Lcopied, [], []⟩
def d_Lfilled : He.DefD := ⟨("_law_filled", none), "_law_filled", "_law_filled", defArgs s_Lfilled, defBody s_Lfilled, defScope s_Lfilled, [], []⟩
def d_Lsome : He.DefD := ⟨("_law_some", none), "_law_some", "_law_some", defArgs s_Lsome, defBody s_Lsome, defScope s_Lsome, [], []⟩
def d_Lstate : He.DefD := ⟨("_law_state", none), "_law_state", "_law_state", defArgs s_Lstate, defBody s_Lstate, defScope s_Lstate, [], []⟩
def d_Ldue : He.DefD := ⟨("_law_due", none), "_law_due", "_law_due", defArgs s_Ldue, defBody s_Ldue, defScope s_Ldue, [], []⟩
def d_Lwatch : He.DefD := ⟨("_law_watch", none), "_law_watch", "_law_watch", defArgs s_Lwatch, defBody s_Lwatch, defScope s_Lwatch, [], []⟩
def d_Lfailed : He.DefD := ⟨("_law_failed", none), "_law_failed", "_law_failed", defArgs s_Lfailed, defBody s_Lfailed, defScope s_Lfailed, [], []⟩
def d_Lturn_right : He.DefD := ⟨("_law_turn_right", none), "_law_turn_right", "_law_turn_right", defArgs s_Lturn_right, defBody s_Lturn_right, defScope s_Lturn_right, [], []⟩
def d_Llimit_right : He.DefD := ⟨("_law_limit_right", none), "_law_limit_right", "_law_limit_right", defArgs s_Llimit_right, defBody s_Llimit_right, defScope s_Llimit_right, [], []⟩
def d_Lright : He.DefD := ⟨("_law_right", none), "_law_right", "_law_right", defArgs s_Lright, defBody s_Lright, defScope s_Lright, [], []⟩
def d_law : He.DefD := ⟨("law", none), "law", "law", defArgs s_law, defBody s_law, defScope s_law, [], []⟩
def fn : List He.DefD := [d_InvalidInstruction_init, d_InvalidLine_init, d_TooMany_init, d_is_integer, d_is_ascending, d_Ring_init, d_Ring_eq, d_Ring_str, d_Ring_allows, d_checked_prices, d_check_ring, d_identity_of, d_is_content, d_check_content, d_is_pair, d_after, d_effect_of, d_letters_of, d_Recorder_init, d_Recorder_eq, d_Recorder_len, d_Recorder_str, d_Recorder_repr, d_Recorder_write, d_Recorder_write_all, d_Recorder_undo, d_Recorder_held, d_Recorder_recorded, d_Recorder_sources, d_Recorder_spent] ++ ([d_read_number, d_numbers_of, d_read_ring, d_parse_ring, d_Lcell, d_Lsource, d_Ldraw, d_Lland, d_Lcircle, d_Lorders, d_Lcopied, d_Lfilled, d_Lsome, d_Lstate, d_Ldue, d_Lwatch, d_Lfailed, d_Lturn_right, d_Llimit_right, d_Lright, d_law] : List He.DefD)
def fa : List He.Fa := ([.glo "InvalidInstruction", .glo "InvalidLine", .glo "TooMany", .glo "is_integer", .glo "is_ascending", .glo "Ring", .glo "checked_prices", .glo "check_ring", .glo "identity_of", .glo "is_content", .glo "check_content", .glo "is_pair", .glo "after", .glo "effect_of", .glo "letters_of", .glo "Recorder", .glo "read_number", .glo "numbers_of", .glo "read_ring", .glo "parse_ring", .glo "_law_cell", .glo "_law_source", .glo "_law_draw", .glo "_law_land", .glo "_law_circle", .glo "_law_orders", .glo "_law_copied", .glo "_law_filled", .glo "_law_some", .glo "_law_state"] : List He.Fa) ++ ([.glo "_law_due", .glo "_law_watch", .glo "_law_failed", .glo "_law_turn_right", .glo "_law_limit_right", .glo "_law_right", .glo "law", .free "len", .free "range", .free "tuple", .free "list", .free "str", .free "repr", .free "isinstance", .free "all", .free "sum", .free "zip", .free "enumerate", .free "int", .free "abs", .free "divmod", .free "max", .free "min", .free "bool", .free "KeyError", .int "MAX_SIZE" 12, .int "MAX_PRICE" 999, .int "MAX_RECORDS" 400, .int "MIN_SIZE" 2, .int "MAX_DIGITS" 31] : List He.Fa) ++ ([.str "LEFT" "left", .str "RIGHT" "right", .str "LETTERS" "abcdefghijklmnopqrstuvwxyz", .str "DIGITS" "0123456789", .cls "Ring", .mkr "Ring", .noat "Ring" "size", .noat "Ring" "locks", .noat "Ring" "walls", .noat "Ring" "prices", .meth "Ring" "allows", .cls "Recorder", .mkr "Recorder", .noat "Recorder" "ring", .noat "Recorder" "running", .noat "Recorder" "runs", .noat "Recorder" "letters", .noat "Recorder" "done", .meth "Recorder" "write", .meth "Recorder" "write_all", .meth "Recorder" "undo", .meth "Recorder" "held", .meth "Recorder" "recorded", .meth "Recorder" "sources", .meth "Recorder" "spent", .meth "Recorder" "__len__", .meth "Recorder" "__str__", .meth "Recorder" "__repr__", .meth "Recorder" "__eq__", .meth "Ring" "__str__"] : List He.Fa) ++ ([.meth "Ring" "__eq__", .noat "Recorder" "__bool__", .keep "InvalidInstruction", .keep "InvalidLine", .keep "TooMany", .noat "InvalidInstruction" "instruction", .noat "InvalidLine" "line", .noat "TooMany" "limit", .exm "InvalidInstruction" "InvalidInstruction" true, .exm "InvalidInstruction" "InvalidLine" false, .exm "InvalidInstruction" "TooMany" false, .exm "InvalidLine" "InvalidInstruction" false, .exm "InvalidLine" "InvalidLine" true, .exm "InvalidLine" "TooMany" false, .exm "TooMany" "InvalidInstruction" false, .exm "TooMany" "InvalidLine" false, .exm "TooMany" "TooMany" true] : List He.Fa)
end

/-! ### further facts, as one Bool of the written part -/
def aeTail : List Value := [.type "ArithmeticError", .type "Exception", .type "BaseException", .type "object"]
/-- an own class of exceptions over the built-in class with this tail; its __init__ is a def -/
def exB (tail : List Value) (newId : String) (x : Str) (K : PySem.W.Frag) : Bool :=
  PySem.W.excInitIn K (He.ga K x) tail newId && (PySem.W.excOver K (He.ga K x) tail && (He.eqO (PySem.W.findIn K (.ref (He.ga K x)) "__setattr__") (some (some (.builtin "object.__setattr__"))) &&
    (decide (PySem.W.subIn K (.ref (He.ga K x)) (.type "BaseException") = some true) && (decide (PySem.W.typeIn K (.ref (He.ga K x)) = some (.type "type")) && (PySem.W.hasDictIn K (He.ga K x) &&
    (L2.xfB K (He.ga K x) && (He.eqO (PySem.W.findIn K (.ref (He.ga K x)) "__init__") (some (some (.ref (He.ma K (He.ga K x) "__init__")))) && (decide (PySem.W.typeIn K (.ref (He.ma K (He.ga K x) "__init__")) = some (.type "function")) &&
      PySem.W.isFn K (.ref (He.ma K (He.ga K x) "__init__"))))))))))
/-- what isinstance asks of an own class -/
def inB (x : Str) (K : PySem.W.Frag) : Bool :=
  He.eqO (PySem.W.findIn K (.ref (He.ga K x)) "__class__") (some (some (.builtin "object.__class__"))) && (decide (PySem.W.specialIn K (.builtin "object.__class__") "__get__" = some (some (.builtin "getset_descriptor.__get__"))) &&
    (decide (PySem.W.takesIn K (.builtin "object.__class__") = some true) && (decide (PySem.W.mroIn K (He.ga K x) (.type "object") = some true) && decide (PySem.W.kitOne K (.ref (He.ga K x)) (.ref (He.ga K x)) = some true))))
def keB (K : PySem.W.Frag) : Bool :=
  decide (PySem.W.exmOne K (.type "KeyError") (.ref (He.ga K "InvalidLine")) = some false) && (decide (PySem.W.exmOne K (.ref (He.ga K "InvalidInstruction")) (.type "KeyError") = some false) && decide (PySem.W.exmOne K (.ref (He.ga K "TooMany")) (.type "KeyError") = some false))
def ex (K : PySem.W.Frag) : Bool :=
  exB He.veBase "ValueError.__new__" "InvalidInstruction" K && (exB He.veBase "ValueError.__new__" "InvalidLine" K && (exB aeTail "ArithmeticError.__new__" "TooMany" K && (inB "Ring" K && (inB "Recorder" K && (keB K &&
    He.eqO (PySem.W.findIn K (.ref (He.ga K "Recorder")) "__ne__") (some (some (.builtin "object.__ne__"))))))))

end K71
set_option maxRecDepth 100000
set_option maxHeartbeats 4000000
/-! What the head tells, by names. -/
namespace K71
open PySem PySem.Spec PyProof.Rows L2
/-- the written part holds the facts; mg is what the module's names stand for -/
structure Tx (K : PySem.W.Frag) (mg : Str → Option Value) : Prop where
  d : He.SaysD fa fn K
  hin : ∃ h : Heap, K.In h ∧ h.Ns mainGlobals mg
  more : ex K = true
abbrev ga := He.ga
/-- the def's address -/
abbrev fA (K : PySem.W.Frag) (d : He.DefD) : Addr := He.fAd K d.at_
section
variable {K : PySem.W.Frag} {mg : Str → Option Value}
theorem Tx.g_InvalidInstruction (T : Tx K mg) : mg "InvalidInstruction" = some (.ref (ga K "InvalidInstruction")) := by obtain ⟨h, X, G⟩ := T.hin; exact He.glo_ok X G (T.d.fact 0 (f := .glo "InvalidInstruction") rfl)
theorem Tx.g_InvalidLine (T : Tx K mg) : mg "InvalidLine" = some (.ref (ga K "InvalidLine")) := by obtain ⟨h, X, G⟩ := T.hin; exact He.glo_ok X G (T.d.fact 1 (f := .glo "InvalidLine") rfl)
theorem Tx.g_TooMany (T : Tx K mg) : mg "TooMany" = some (.ref (ga K "TooMany")) := by obtain ⟨h, X, G⟩ := T.hin; exact He.glo_ok X G (T.d.fact 2 (f := .glo "TooMany") rfl)
theorem Tx.g_is_integer (T : Tx K mg) : mg "is_integer" = some (.ref (ga K "is_integer")) := by obtain ⟨h, X, G⟩ := T.hin; exact He.glo_ok X G (T.d.fact 3 (f := .glo "is_integer") rfl)
theorem Tx.g_is_ascending (T : Tx K mg) : mg "is_ascending" = some (.ref (ga K "is_ascending")) := by obtain ⟨h, X, G⟩ := T.hin; exact He.glo_ok X G (T.d.fact 4 (f := .glo "is_ascending") rfl)
theorem Tx.g_Ring (T : Tx K mg) : mg "Ring" = some (.ref (ga K "Ring")) := by obtain ⟨h, X, G⟩ := T.hin; exact He.glo_ok X G (T.d.fact 5 (f := .glo "Ring") rfl)
theorem Tx.g_checked_prices (T : Tx K mg) : mg "checked_prices" = some (.ref (ga K "checked_prices")) := by obtain ⟨h, X, G⟩ := T.hin; exact He.glo_ok X G (T.d.fact 6 (f := .glo "checked_prices") rfl)
theorem Tx.g_check_ring (T : Tx K mg) : mg "check_ring" = some (.ref (ga K "check_ring")) := by obtain ⟨h, X, G⟩ := T.hin; exact He.glo_ok X G (T.d.fact 7 (f := .glo "check_ring") rfl)
theorem Tx.g_identity_of (T : Tx K mg) : mg "identity_of" = some (.ref (ga K "identity_of")) := by obtain ⟨h, X, G⟩ := T.hin; exact He.glo_ok X G (T.d.fact 8 (f := .glo "identity_of") rfl)
theorem Tx.g_is_content (T : Tx K mg) : mg "is_content" = some (.ref (ga K "is_content")) := by obtain ⟨h, X, G⟩ := T.hin; exact He.glo_ok X G (T.d.fact 9 (f := .glo "is_content") rfl)
theorem Tx.g_check_content (T : Tx K mg) : mg "check_content" = some (.ref (ga K "check_content")) := by obtain ⟨h, X, G⟩ := T.hin; exact He.glo_ok X G (T.d.fact 10 (f := .glo "check_content") rfl)
theorem Tx.g_is_pair (T : Tx K mg) : mg "is_pair" = some (.ref (ga K "is_pair")) := by obtain ⟨h, X, G⟩ := T.hin; exact He.glo_ok X G (T.d.fact 11 (f := .glo "is_pair") rfl)
theorem Tx.g_after (T : Tx K mg) : mg "after" = some (.ref (ga K "after")) := by obtain ⟨h, X, G⟩ := T.hin; exact He.glo_ok X G (T.d.fact 12 (f := .glo "after") rfl)
theorem Tx.g_effect_of (T : Tx K mg) : mg "effect_of" = some (.ref (ga K "effect_of")) := by obtain ⟨h, X, G⟩ := T.hin; exact He.glo_ok X G (T.d.fact 13 (f := .glo "effect_of") rfl)
theorem Tx.g_letters_of (T : Tx K mg) : mg "letters_of" = some (.ref (ga K "letters_of")) := by obtain ⟨h, X, G⟩ := T.hin; exact He.glo_ok X G (T.d.fact 14 (f := .glo "letters_of") rfl)
theorem Tx.g_Recorder (T : Tx K mg) : mg "Recorder" = some (.ref (ga K "Recorder")) := by obtain ⟨h, X, G⟩ := T.hin; exact He.glo_ok X G (T.d.fact 15 (f := .glo "Recorder") rfl)
theorem Tx.g_read_number (T : Tx K mg) : mg "read_number" = some (.ref (ga K "read_number")) := by obtain ⟨h, X, G⟩ := T.hin; exact He.glo_ok X G (T.d.fact 16 (f := .glo "read_number") rfl)
theorem Tx.g_numbers_of (T : Tx K mg) : mg "numbers_of" = some (.ref (ga K "numbers_of")) := by obtain ⟨h, X, G⟩ := T.hin; exact He.glo_ok X G (T.d.fact 17 (f := .glo "numbers_of") rfl)
theorem Tx.g_read_ring (T : Tx K mg) : mg "read_ring" = some (.ref (ga K "read_ring")) := by obtain ⟨h, X, G⟩ := T.hin; exact He.glo_ok X G (T.d.fact 18 (f := .glo "read_ring") rfl)
theorem Tx.g_parse_ring (T : Tx K mg) : mg "parse_ring" = some (.ref (ga K "parse_ring")) := by obtain ⟨h, X, G⟩ := T.hin; exact He.glo_ok X G (T.d.fact 19 (f := .glo "parse_ring") rfl)
theorem Tx.g_law_cell (T : Tx K mg) : mg "_law_cell" = some (.ref (ga K "_law_cell")) := by obtain ⟨h, X, G⟩ := T.hin; exact He.glo_ok X G (T.d.fact 20 (f := .glo "_law_cell") rfl)
theorem Tx.g_law_source (T : Tx K mg) : mg "_law_source" = some (.ref (ga K "_law_source")) := by obtain ⟨h, X, G⟩ := T.hin; exact He.glo_ok X G (T.d.fact 21 (f := .glo "_law_source") rfl)
theorem Tx.g_law_draw (T : Tx K mg) : mg "_law_draw" = some (.ref (ga K "_law_draw")) := by obtain ⟨h, X, G⟩ := T.hin; exact He.glo_ok X G (T.d.fact 22 (f := .glo "_law_draw") rfl)
theorem Tx.g_law_land (T : Tx K mg) : mg "_law_land" = some (.ref (ga K "_law_land")) := by obtain ⟨h, X, G⟩ := T.hin; exact He.glo_ok X G (T.d.fact 23 (f := .glo "_law_land") rfl)
theorem Tx.g_law_circle (T : Tx K mg) : mg "_law_circle" = some (.ref (ga K "_law_circle")) := by obtain ⟨h, X, G⟩ := T.hin; exact He.glo_ok X G (T.d.fact 24 (f := .glo "_law_circle") rfl)
theorem Tx.g_law_orders (T : Tx K mg) : mg "_law_orders" = some (.ref (ga K "_law_orders")) := by obtain ⟨h, X, G⟩ := T.hin; exact He.glo_ok X G (T.d.fact 25 (f := .glo "_law_orders") rfl)
theorem Tx.g_law_copied (T : Tx K mg) : mg "_law_copied" = some (.ref (ga K "_law_copied")) := by obtain ⟨h, X, G⟩ := T.hin; exact He.glo_ok X G (T.d.fact 26 (f := .glo "_law_copied") rfl)
theorem Tx.g_law_filled (T : Tx K mg) : mg "_law_filled" = some (.ref (ga K "_law_filled")) := by obtain ⟨h, X, G⟩ := T.hin; exact He.glo_ok X G (T.d.fact 27 (f := .glo "_law_filled") rfl)
theorem Tx.g_law_some (T : Tx K mg) : mg "_law_some" = some (.ref (ga K "_law_some")) := by obtain ⟨h, X, G⟩ := T.hin; exact He.glo_ok X G (T.d.fact 28 (f := .glo "_law_some") rfl)
theorem Tx.g_law_state (T : Tx K mg) : mg "_law_state" = some (.ref (ga K "_law_state")) := by obtain ⟨h, X, G⟩ := T.hin; exact He.glo_ok X G (T.d.fact 29 (f := .glo "_law_state") rfl)
theorem Tx.g_law_due (T : Tx K mg) : mg "_law_due" = some (.ref (ga K "_law_due")) := by obtain ⟨h, X, G⟩ := T.hin; exact He.glo_ok X G (T.d.fact 30 (f := .glo "_law_due") rfl)
theorem Tx.g_law_watch (T : Tx K mg) : mg "_law_watch" = some (.ref (ga K "_law_watch")) := by obtain ⟨h, X, G⟩ := T.hin; exact He.glo_ok X G (T.d.fact 31 (f := .glo "_law_watch") rfl)
theorem Tx.g_law_failed (T : Tx K mg) : mg "_law_failed" = some (.ref (ga K "_law_failed")) := by obtain ⟨h, X, G⟩ := T.hin; exact He.glo_ok X G (T.d.fact 32 (f := .glo "_law_failed") rfl)
theorem Tx.g_law_turn_right (T : Tx K mg) : mg "_law_turn_right" = some (.ref (ga K "_law_turn_right")) := by obtain ⟨h, X, G⟩ := T.hin; exact He.glo_ok X G (T.d.fact 33 (f := .glo "_law_turn_right") rfl)
theorem Tx.g_law_limit_right (T : Tx K mg) : mg "_law_limit_right" = some (.ref (ga K "_law_limit_right")) := by obtain ⟨h, X, G⟩ := T.hin; exact He.glo_ok X G (T.d.fact 34 (f := .glo "_law_limit_right") rfl)
theorem Tx.g_law_right (T : Tx K mg) : mg "_law_right" = some (.ref (ga K "_law_right")) := by obtain ⟨h, X, G⟩ := T.hin; exact He.glo_ok X G (T.d.fact 35 (f := .glo "_law_right") rfl)
theorem Tx.g_law (T : Tx K mg) : mg "law" = some (.ref (ga K "law")) := by obtain ⟨h, X, G⟩ := T.hin; exact He.glo_ok X G (T.d.fact 36 (f := .glo "law") rfl)
theorem Tx.f_len (T : Tx K mg) : mg "len" = none := by obtain ⟨h, X, G⟩ := T.hin; exact He.free_ok X G (T.d.fact 37 (f := .free "len") rfl)
theorem Tx.f_range (T : Tx K mg) : mg "range" = none := by obtain ⟨h, X, G⟩ := T.hin; exact He.free_ok X G (T.d.fact 38 (f := .free "range") rfl)
theorem Tx.f_tuple (T : Tx K mg) : mg "tuple" = none := by obtain ⟨h, X, G⟩ := T.hin; exact He.free_ok X G (T.d.fact 39 (f := .free "tuple") rfl)
theorem Tx.f_list (T : Tx K mg) : mg "list" = none := by obtain ⟨h, X, G⟩ := T.hin; exact He.free_ok X G (T.d.fact 40 (f := .free "list") rfl)
theorem Tx.f_str (T : Tx K mg) : mg "str" = none := by obtain ⟨h, X, G⟩ := T.hin; exact He.free_ok X G (T.d.fact 41 (f := .free "str") rfl)
theorem Tx.f_repr (T : Tx K mg) : mg "repr" = none := by obtain ⟨h, X, G⟩ := T.hin; exact He.free_ok X G (T.d.fact 42 (f := .free "repr") rfl)
theorem Tx.f_isinstance (T : Tx K mg) : mg "isinstance" = none := by obtain ⟨h, X, G⟩ := T.hin; exact He.free_ok X G (T.d.fact 43 (f := .free "isinstance") rfl)
theorem Tx.f_all (T : Tx K mg) : mg "all" = none := by obtain ⟨h, X, G⟩ := T.hin; exact He.free_ok X G (T.d.fact 44 (f := .free "all") rfl)
theorem Tx.f_sum (T : Tx K mg) : mg "sum" = none := by obtain ⟨h, X, G⟩ := T.hin; exact He.free_ok X G (T.d.fact 45 (f := .free "sum") rfl)
theorem Tx.f_zip (T : Tx K mg) : mg "zip" = none := by obtain ⟨h, X, G⟩ := T.hin; exact He.free_ok X G (T.d.fact 46 (f := .free "zip") rfl)
theorem Tx.f_enumerate (T : Tx K mg) : mg "enumerate" = none := by obtain ⟨h, X, G⟩ := T.hin; exact He.free_ok X G (T.d.fact 47 (f := .free "enumerate") rfl)
theorem Tx.f_int (T : Tx K mg) : mg "int" = none := by obtain ⟨h, X, G⟩ := T.hin; exact He.free_ok X G (T.d.fact 48 (f := .free "int") rfl)
theorem Tx.f_abs (T : Tx K mg) : mg "abs" = none := by obtain ⟨h, X, G⟩ := T.hin; exact He.free_ok X G (T.d.fact 49 (f := .free "abs") rfl)
theorem Tx.f_divmod (T : Tx K mg) : mg "divmod" = none := by obtain ⟨h, X, G⟩ := T.hin; exact He.free_ok X G (T.d.fact 50 (f := .free "divmod") rfl)
theorem Tx.f_max (T : Tx K mg) : mg "max" = none := by obtain ⟨h, X, G⟩ := T.hin; exact He.free_ok X G (T.d.fact 51 (f := .free "max") rfl)
theorem Tx.f_min (T : Tx K mg) : mg "min" = none := by obtain ⟨h, X, G⟩ := T.hin; exact He.free_ok X G (T.d.fact 52 (f := .free "min") rfl)
theorem Tx.f_bool (T : Tx K mg) : mg "bool" = none := by obtain ⟨h, X, G⟩ := T.hin; exact He.free_ok X G (T.d.fact 53 (f := .free "bool") rfl)
theorem Tx.f_KeyError (T : Tx K mg) : mg "KeyError" = none := by obtain ⟨h, X, G⟩ := T.hin; exact He.free_ok X G (T.d.fact 54 (f := .free "KeyError") rfl)
theorem Tx.i_MAX_SIZE (T : Tx K mg) : ∃ u, mg "MAX_SIZE" = some u ∧ RelV (.int 12) u := by obtain ⟨h, X, G⟩ := T.hin; obtain ⟨t, e⟩ := He.int_ok X G (T.d.fact 55 (f := .int "MAX_SIZE" 12) rfl); exact ⟨_, e, _, rfl⟩
theorem Tx.i_MAX_PRICE (T : Tx K mg) : ∃ u, mg "MAX_PRICE" = some u ∧ RelV (.int 999) u := by obtain ⟨h, X, G⟩ := T.hin; obtain ⟨t, e⟩ := He.int_ok X G (T.d.fact 56 (f := .int "MAX_PRICE" 999) rfl); exact ⟨_, e, _, rfl⟩
theorem Tx.i_MAX_RECORDS (T : Tx K mg) : ∃ u, mg "MAX_RECORDS" = some u ∧ RelV (.int 400) u := by obtain ⟨h, X, G⟩ := T.hin; obtain ⟨t, e⟩ := He.int_ok X G (T.d.fact 57 (f := .int "MAX_RECORDS" 400) rfl); exact ⟨_, e, _, rfl⟩
theorem Tx.i_MIN_SIZE (T : Tx K mg) : ∃ u, mg "MIN_SIZE" = some u ∧ RelV (.int 2) u := by obtain ⟨h, X, G⟩ := T.hin; obtain ⟨t, e⟩ := He.int_ok X G (T.d.fact 58 (f := .int "MIN_SIZE" 2) rfl); exact ⟨_, e, _, rfl⟩
theorem Tx.i_MAX_DIGITS (T : Tx K mg) : ∃ u, mg "MAX_DIGITS" = some u ∧ RelV (.int 31) u := by obtain ⟨h, X, G⟩ := T.hin; obtain ⟨t, e⟩ := He.int_ok X G (T.d.fact 59 (f := .int "MAX_DIGITS" 31) rfl); exact ⟨_, e, _, rfl⟩
theorem Tx.t_LEFT (T : Tx K mg) : ∃ u, mg "LEFT" = some u ∧ RelV (.str "left") u := by obtain ⟨h, X, G⟩ := T.hin; obtain ⟨t, e⟩ := He.str_ok X G (T.d.fact 60 (f := .str "LEFT" "left") rfl); exact ⟨_, e, _, rfl⟩
theorem Tx.t_RIGHT (T : Tx K mg) : ∃ u, mg "RIGHT" = some u ∧ RelV (.str "right") u := by obtain ⟨h, X, G⟩ := T.hin; obtain ⟨t, e⟩ := He.str_ok X G (T.d.fact 61 (f := .str "RIGHT" "right") rfl); exact ⟨_, e, _, rfl⟩
theorem Tx.t_LETTERS (T : Tx K mg) : ∃ u, mg "LETTERS" = some u ∧ RelV (.str "abcdefghijklmnopqrstuvwxyz") u := by obtain ⟨h, X, G⟩ := T.hin; obtain ⟨t, e⟩ := He.str_ok X G (T.d.fact 62 (f := .str "LETTERS" "abcdefghijklmnopqrstuvwxyz") rfl); exact ⟨_, e, _, rfl⟩
theorem Tx.t_DIGITS (T : Tx K mg) : ∃ u, mg "DIGITS" = some u ∧ RelV (.str "0123456789") u := by obtain ⟨h, X, G⟩ := T.hin; obtain ⟨t, e⟩ := He.str_ok X G (T.d.fact 63 (f := .str "DIGITS" "0123456789") rfl); exact ⟨_, e, _, rfl⟩
theorem Tx.cl_Ring (T : Tx K mg) : Cls K (ga K "Ring") := He.cls_ok (T.d.fact 64 (f := .cls "Ring") rfl)
theorem Tx.mk_Ring (T : Tx K mg) : Mk K (ga K "Ring") (He.ma K (ga K "Ring") "__init__") := He.mkr_ok (T.d.fact 65 (f := .mkr "Ring") rfl)
theorem Tx.n_Ring_size (T : Tx K mg) : NoAttr K (ga K "Ring") "size" := He.noat_ok (T.d.fact 66 (f := .noat "Ring" "size") rfl)
theorem Tx.n_Ring_locks (T : Tx K mg) : NoAttr K (ga K "Ring") "locks" := He.noat_ok (T.d.fact 67 (f := .noat "Ring" "locks") rfl)
theorem Tx.n_Ring_walls (T : Tx K mg) : NoAttr K (ga K "Ring") "walls" := He.noat_ok (T.d.fact 68 (f := .noat "Ring" "walls") rfl)
theorem Tx.n_Ring_prices (T : Tx K mg) : NoAttr K (ga K "Ring") "prices" := He.noat_ok (T.d.fact 69 (f := .noat "Ring" "prices") rfl)
theorem Tx.m_Ring_allows (T : Tx K mg) : Meth K (ga K "Ring") "allows" (He.ma K (ga K "Ring") "allows") := He.meth_ok (T.d.fact 70 (f := .meth "Ring" "allows") rfl)
theorem Tx.cl_Recorder (T : Tx K mg) : Cls K (ga K "Recorder") := He.cls_ok (T.d.fact 71 (f := .cls "Recorder") rfl)
theorem Tx.mk_Recorder (T : Tx K mg) : Mk K (ga K "Recorder") (He.ma K (ga K "Recorder") "__init__") := He.mkr_ok (T.d.fact 72 (f := .mkr "Recorder") rfl)
theorem Tx.n_Recorder_ring (T : Tx K mg) : NoAttr K (ga K "Recorder") "ring" := He.noat_ok (T.d.fact 73 (f := .noat "Recorder" "ring") rfl)
theorem Tx.n_Recorder_running (T : Tx K mg) : NoAttr K (ga K "Recorder") "running" := He.noat_ok (T.d.fact 74 (f := .noat "Recorder" "running") rfl)
theorem Tx.n_Recorder_runs (T : Tx K mg) : NoAttr K (ga K "Recorder") "runs" := He.noat_ok (T.d.fact 75 (f := .noat "Recorder" "runs") rfl)
theorem Tx.n_Recorder_letters (T : Tx K mg) : NoAttr K (ga K "Recorder") "letters" := He.noat_ok (T.d.fact 76 (f := .noat "Recorder" "letters") rfl)
theorem Tx.n_Recorder_done (T : Tx K mg) : NoAttr K (ga K "Recorder") "done" := He.noat_ok (T.d.fact 77 (f := .noat "Recorder" "done") rfl)
theorem Tx.m_Recorder_write (T : Tx K mg) : Meth K (ga K "Recorder") "write" (He.ma K (ga K "Recorder") "write") := He.meth_ok (T.d.fact 78 (f := .meth "Recorder" "write") rfl)
theorem Tx.m_Recorder_write_all (T : Tx K mg) : Meth K (ga K "Recorder") "write_all" (He.ma K (ga K "Recorder") "write_all") := He.meth_ok (T.d.fact 79 (f := .meth "Recorder" "write_all") rfl)
theorem Tx.m_Recorder_undo (T : Tx K mg) : Meth K (ga K "Recorder") "undo" (He.ma K (ga K "Recorder") "undo") := He.meth_ok (T.d.fact 80 (f := .meth "Recorder" "undo") rfl)
theorem Tx.m_Recorder_held (T : Tx K mg) : Meth K (ga K "Recorder") "held" (He.ma K (ga K "Recorder") "held") := He.meth_ok (T.d.fact 81 (f := .meth "Recorder" "held") rfl)
theorem Tx.m_Recorder_recorded (T : Tx K mg) : Meth K (ga K "Recorder") "recorded" (He.ma K (ga K "Recorder") "recorded") := He.meth_ok (T.d.fact 82 (f := .meth "Recorder" "recorded") rfl)
theorem Tx.m_Recorder_sources (T : Tx K mg) : Meth K (ga K "Recorder") "sources" (He.ma K (ga K "Recorder") "sources") := He.meth_ok (T.d.fact 83 (f := .meth "Recorder" "sources") rfl)
theorem Tx.m_Recorder_spent (T : Tx K mg) : Meth K (ga K "Recorder") "spent" (He.ma K (ga K "Recorder") "spent") := He.meth_ok (T.d.fact 84 (f := .meth "Recorder" "spent") rfl)
theorem Tx.m_Recorder_len (T : Tx K mg) : Meth K (ga K "Recorder") "__len__" (He.ma K (ga K "Recorder") "__len__") := He.meth_ok (T.d.fact 85 (f := .meth "Recorder" "__len__") rfl)
theorem Tx.m_Recorder_str (T : Tx K mg) : Meth K (ga K "Recorder") "__str__" (He.ma K (ga K "Recorder") "__str__") := He.meth_ok (T.d.fact 86 (f := .meth "Recorder" "__str__") rfl)
theorem Tx.m_Recorder_repr (T : Tx K mg) : Meth K (ga K "Recorder") "__repr__" (He.ma K (ga K "Recorder") "__repr__") := He.meth_ok (T.d.fact 87 (f := .meth "Recorder" "__repr__") rfl)
theorem Tx.m_Recorder_eq (T : Tx K mg) : Meth K (ga K "Recorder") "__eq__" (He.ma K (ga K "Recorder") "__eq__") := He.meth_ok (T.d.fact 88 (f := .meth "Recorder" "__eq__") rfl)
theorem Tx.m_Ring_str (T : Tx K mg) : Meth K (ga K "Ring") "__str__" (He.ma K (ga K "Ring") "__str__") := He.meth_ok (T.d.fact 89 (f := .meth "Ring" "__str__") rfl)
theorem Tx.m_Ring_eq (T : Tx K mg) : Meth K (ga K "Ring") "__eq__" (He.ma K (ga K "Ring") "__eq__") := He.meth_ok (T.d.fact 90 (f := .meth "Ring" "__eq__") rfl)
theorem Tx.n_Recorder_bool (T : Tx K mg) : NoAttr K (ga K "Recorder") "__bool__" := He.noat_ok (T.d.fact 91 (f := .noat "Recorder" "__bool__") rfl)
theorem Tx.k_InvalidInstruction (T : Tx K mg) : PySem.W.keepIn K (.ref (ga K "InvalidInstruction")) = true := He.keep_ok (T.d.fact 92 (f := .keep "InvalidInstruction") rfl)
theorem Tx.k_InvalidLine (T : Tx K mg) : PySem.W.keepIn K (.ref (ga K "InvalidLine")) = true := He.keep_ok (T.d.fact 93 (f := .keep "InvalidLine") rfl)
theorem Tx.k_TooMany (T : Tx K mg) : PySem.W.keepIn K (.ref (ga K "TooMany")) = true := He.keep_ok (T.d.fact 94 (f := .keep "TooMany") rfl)
theorem Tx.n_InvalidInstruction_instruction (T : Tx K mg) : NoAttr K (ga K "InvalidInstruction") "instruction" := He.noat_ok (T.d.fact 95 (f := .noat "InvalidInstruction" "instruction") rfl)
theorem Tx.n_InvalidLine_line (T : Tx K mg) : NoAttr K (ga K "InvalidLine") "line" := He.noat_ok (T.d.fact 96 (f := .noat "InvalidLine" "line") rfl)
theorem Tx.n_TooMany_limit (T : Tx K mg) : NoAttr K (ga K "TooMany") "limit" := He.noat_ok (T.d.fact 97 (f := .noat "TooMany" "limit") rfl)
theorem Tx.x_InvalidInstruction_InvalidInstruction (T : Tx K mg) : PySem.W.exmOne K (.ref (ga K "InvalidInstruction")) (.ref (ga K "InvalidInstruction")) = some true := He.exm_ok (T.d.fact 98 (f := .exm "InvalidInstruction" "InvalidInstruction" true) rfl)
theorem Tx.x_InvalidInstruction_InvalidLine (T : Tx K mg) : PySem.W.exmOne K (.ref (ga K "InvalidInstruction")) (.ref (ga K "InvalidLine")) = some false := He.exm_ok (T.d.fact 99 (f := .exm "InvalidInstruction" "InvalidLine" false) rfl)
theorem Tx.x_InvalidInstruction_TooMany (T : Tx K mg) : PySem.W.exmOne K (.ref (ga K "InvalidInstruction")) (.ref (ga K "TooMany")) = some false := He.exm_ok (T.d.fact 100 (f := .exm "InvalidInstruction" "TooMany" false) rfl)
theorem Tx.x_InvalidLine_InvalidInstruction (T : Tx K mg) : PySem.W.exmOne K (.ref (ga K "InvalidLine")) (.ref (ga K "InvalidInstruction")) = some false := He.exm_ok (T.d.fact 101 (f := .exm "InvalidLine" "InvalidInstruction" false) rfl)
theorem Tx.x_InvalidLine_InvalidLine (T : Tx K mg) : PySem.W.exmOne K (.ref (ga K "InvalidLine")) (.ref (ga K "InvalidLine")) = some true := He.exm_ok (T.d.fact 102 (f := .exm "InvalidLine" "InvalidLine" true) rfl)
theorem Tx.x_InvalidLine_TooMany (T : Tx K mg) : PySem.W.exmOne K (.ref (ga K "InvalidLine")) (.ref (ga K "TooMany")) = some false := He.exm_ok (T.d.fact 103 (f := .exm "InvalidLine" "TooMany" false) rfl)
theorem Tx.x_TooMany_InvalidInstruction (T : Tx K mg) : PySem.W.exmOne K (.ref (ga K "TooMany")) (.ref (ga K "InvalidInstruction")) = some false := He.exm_ok (T.d.fact 104 (f := .exm "TooMany" "InvalidInstruction" false) rfl)
theorem Tx.x_TooMany_InvalidLine (T : Tx K mg) : PySem.W.exmOne K (.ref (ga K "TooMany")) (.ref (ga K "InvalidLine")) = some false := He.exm_ok (T.d.fact 105 (f := .exm "TooMany" "InvalidLine" false) rfl)
theorem Tx.x_TooMany_TooMany (T : Tx K mg) : PySem.W.exmOne K (.ref (ga K "TooMany")) (.ref (ga K "TooMany")) = some true := He.exm_ok (T.d.fact 106 (f := .exm "TooMany" "TooMany" true) rfl)
theorem Tx.F_InvalidInstruction_init (T : Tx K mg) : ∃ fd, FunD K "__init__" "InvalidInstruction.__init__" (defArgs s_InvalidInstruction_init) (defBody s_InvalidInstruction_init) (defScope s_InvalidInstruction_init) [] [] (He.ma K (ga K "InvalidInstruction") "__init__") fd := T.d.def_ 0 (d := d_InvalidInstruction_init) rfl
theorem Tx.F_InvalidLine_init (T : Tx K mg) : ∃ fd, FunD K "__init__" "InvalidLine.__init__" (defArgs s_InvalidLine_init) (defBody s_InvalidLine_init) (defScope s_InvalidLine_init) [] [] (He.ma K (ga K "InvalidLine") "__init__") fd := T.d.def_ 1 (d := d_InvalidLine_init) rfl
theorem Tx.F_TooMany_init (T : Tx K mg) : ∃ fd, FunD K "__init__" "TooMany.__init__" (defArgs s_TooMany_init) (defBody s_TooMany_init) (defScope s_TooMany_init) [] [] (He.ma K (ga K "TooMany") "__init__") fd := T.d.def_ 2 (d := d_TooMany_init) rfl
theorem Tx.F_is_integer (T : Tx K mg) : ∃ fd, FunD K "is_integer" "is_integer" (defArgs s_is_integer) (defBody s_is_integer) (defScope s_is_integer) [] [] (ga K "is_integer") fd := T.d.def_ 3 (d := d_is_integer) rfl
theorem Tx.F_is_ascending (T : Tx K mg) : ∃ fd, FunD K "is_ascending" "is_ascending" (defArgs s_is_ascending) (defBody s_is_ascending) (defScope s_is_ascending) [] [] (ga K "is_ascending") fd := T.d.def_ 4 (d := d_is_ascending) rfl
theorem Tx.F_Ring_init (T : Tx K mg) : ∃ fd, FunD K "__init__" "Ring.__init__" (defArgs s_Ring_init) (defBody s_Ring_init) (defScope s_Ring_init) [] [] (He.ma K (ga K "Ring") "__init__") fd := T.d.def_ 5 (d := d_Ring_init) rfl
theorem Tx.F_Ring_eq (T : Tx K mg) : ∃ fd, FunD K "__eq__" "Ring.__eq__" (defArgs s_Ring_eq) (defBody s_Ring_eq) (defScope s_Ring_eq) [] [] (He.ma K (ga K "Ring") "__eq__") fd := T.d.def_ 6 (d := d_Ring_eq) rfl
theorem Tx.F_Ring_str (T : Tx K mg) : ∃ fd, FunD K "__str__" "Ring.__str__" (defArgs s_Ring_str) (defBody s_Ring_str) (defScope s_Ring_str) [] [] (He.ma K (ga K "Ring") "__str__") fd := T.d.def_ 7 (d := d_Ring_str) rfl
theorem Tx.F_Ring_allows (T : Tx K mg) : ∃ fd, FunD K "allows" "Ring.allows" (defArgs s_Ring_allows) (defBody s_Ring_allows) (defScope s_Ring_allows) [] [] (He.ma K (ga K "Ring") "allows") fd := T.d.def_ 8 (d := d_Ring_allows) rfl
theorem Tx.F_checked_prices (T : Tx K mg) : ∃ fd, FunD K "checked_prices" "checked_prices" (defArgs s_checked_prices) (defBody s_checked_prices) (defScope s_checked_prices) [] [] (ga K "checked_prices") fd := T.d.def_ 9 (d := d_checked_prices) rfl
theorem Tx.F_check_ring (T : Tx K mg) : ∃ fd, FunD K "check_ring" "check_ring" (defArgs s_check_ring) (defBody s_check_ring) (defScope s_check_ring) [] [] (ga K "check_ring") fd := T.d.def_ 10 (d := d_check_ring) rfl
theorem Tx.F_identity_of (T : Tx K mg) : ∃ fd, FunD K "identity_of" "identity_of" (defArgs s_identity_of) (defBody s_identity_of) (defScope s_identity_of) [] [] (ga K "identity_of") fd := T.d.def_ 11 (d := d_identity_of) rfl
theorem Tx.F_is_content (T : Tx K mg) : ∃ fd, FunD K "is_content" "is_content" (defArgs s_is_content) (defBody s_is_content) (defScope s_is_content) [] [] (ga K "is_content") fd := T.d.def_ 12 (d := d_is_content) rfl
theorem Tx.F_check_content (T : Tx K mg) : ∃ fd, FunD K "check_content" "check_content" (defArgs s_check_content) (defBody s_check_content) (defScope s_check_content) [] [] (ga K "check_content") fd := T.d.def_ 13 (d := d_check_content) rfl
theorem Tx.F_is_pair (T : Tx K mg) : ∃ fd, FunD K "is_pair" "is_pair" (defArgs s_is_pair) (defBody s_is_pair) (defScope s_is_pair) [] [] (ga K "is_pair") fd := T.d.def_ 14 (d := d_is_pair) rfl
theorem Tx.F_after (T : Tx K mg) : ∃ fd, FunD K "after" "after" (defArgs s_after) (defBody s_after) (defScope s_after) [] [] (ga K "after") fd := T.d.def_ 15 (d := d_after) rfl
theorem Tx.F_effect_of (T : Tx K mg) : ∃ fd, FunD K "effect_of" "effect_of" (defArgs s_effect_of) (defBody s_effect_of) (defScope s_effect_of) [] [] (ga K "effect_of") fd := T.d.def_ 16 (d := d_effect_of) rfl
theorem Tx.F_letters_of (T : Tx K mg) : ∃ fd, FunD K "letters_of" "letters_of" (defArgs s_letters_of) (defBody s_letters_of) (defScope s_letters_of) [] [] (ga K "letters_of") fd := T.d.def_ 17 (d := d_letters_of) rfl
theorem Tx.F_Recorder_init (T : Tx K mg) : ∃ fd, FunD K "__init__" "Recorder.__init__" (defArgs s_Recorder_init) (defBody s_Recorder_init) (defScope s_Recorder_init) [] [] (He.ma K (ga K "Recorder") "__init__") fd := T.d.def_ 18 (d := d_Recorder_init) rfl
theorem Tx.F_Recorder_eq (T : Tx K mg) : ∃ fd, FunD K "__eq__" "Recorder.__eq__" (defArgs s_Recorder_eq) (defBody s_Recorder_eq) (defScope s_Recorder_eq) [] [] (He.ma K (ga K "Recorder") "__eq__") fd := T.d.def_ 19 (d := d_Recorder_eq) rfl
theorem Tx.F_Recorder_len (T : Tx K mg) : ∃ fd, FunD K "__len__" "Recorder.__len__" (defArgs s_Recorder_len) (defBody s_Recorder_len) (defScope s_Recorder_len) [] [] (He.ma K (ga K "Recorder") "__len__") fd := T.d.def_ 20 (d := d_Recorder_len) rfl
theorem Tx.F_Recorder_str (T : Tx K mg) : ∃ fd, FunD K "__str__" "Recorder.__str__" (defArgs s_Recorder_str) (defBody s_Recorder_str) (defScope s_Recorder_str) [] [] (He.ma K (ga K "Recorder") "__str__") fd := T.d.def_ 21 (d := d_Recorder_str) rfl
theorem Tx.F_Recorder_repr (T : Tx K mg) : ∃ fd, FunD K "__repr__" "Recorder.__repr__" (defArgs s_Recorder_repr) (defBody s_Recorder_repr) (defScope s_Recorder_repr) [] [] (He.ma K (ga K "Recorder") "__repr__") fd := T.d.def_ 22 (d := d_Recorder_repr) rfl
theorem Tx.F_Recorder_write (T : Tx K mg) : ∃ fd, FunD K "write" "Recorder.write" (defArgs s_Recorder_write) (defBody s_Recorder_write) (defScope s_Recorder_write) [] [] (He.ma K (ga K "Recorder") "write") fd := T.d.def_ 23 (d := d_Recorder_write) rfl
theorem Tx.F_Recorder_write_all (T : Tx K mg) : ∃ fd, FunD K "write_all" "Recorder.write_all" (defArgs s_Recorder_write_all) (defBody s_Recorder_write_all) (defScope s_Recorder_write_all) [] [("watch", .non)] (He.ma K (ga K "Recorder") "write_all") fd := T.d.def_ 24 (d := d_Recorder_write_all) rfl
theorem Tx.F_Recorder_undo (T : Tx K mg) : ∃ fd, FunD K "undo" "Recorder.undo" (defArgs s_Recorder_undo) (defBody s_Recorder_undo) (defScope s_Recorder_undo) [] [] (He.ma K (ga K "Recorder") "undo") fd := T.d.def_ 25 (d := d_Recorder_undo) rfl
theorem Tx.F_Recorder_held (T : Tx K mg) : ∃ fd, FunD K "held" "Recorder.held" (defArgs s_Recorder_held) (defBody s_Recorder_held) (defScope s_Recorder_held) [] [] (He.ma K (ga K "Recorder") "held") fd := T.d.def_ 26 (d := d_Recorder_held) rfl
theorem Tx.F_Recorder_recorded (T : Tx K mg) : ∃ fd, FunD K "recorded" "Recorder.recorded" (defArgs s_Recorder_recorded) (defBody s_Recorder_recorded) (defScope s_Recorder_recorded) [] [] (He.ma K (ga K "Recorder") "recorded") fd := T.d.def_ 27 (d := d_Recorder_recorded) rfl
theorem Tx.F_Recorder_sources (T : Tx K mg) : ∃ fd, FunD K "sources" "Recorder.sources" (defArgs s_Recorder_sources) (defBody s_Recorder_sources) (defScope s_Recorder_sources) [] [] (He.ma K (ga K "Recorder") "sources") fd := T.d.def_ 28 (d := d_Recorder_sources) rfl
theorem Tx.F_Recorder_spent (T : Tx K mg) : ∃ fd, FunD K "spent" "Recorder.spent" (defArgs s_Recorder_spent) (defBody s_Recorder_spent) (defScope s_Recorder_spent) [] [] (He.ma K (ga K "Recorder") "spent") fd := T.d.def_ 29 (d := d_Recorder_spent) rfl
theorem Tx.F_read_number (T : Tx K mg) : ∃ fd, FunD K "read_number" "read_number" (defArgs s_read_number) (defBody s_read_number) (defScope s_read_number) [] [] (ga K "read_number") fd := T.d.def_ 30 (d := d_read_number) rfl
theorem Tx.F_numbers_of (T : Tx K mg) : ∃ fd, FunD K "numbers_of" "numbers_of" (defArgs s_numbers_of) (defBody s_numbers_of) (defScope s_numbers_of) [] [] (ga K "numbers_of") fd := T.d.def_ 31 (d := d_numbers_of) rfl
theorem Tx.F_read_ring (T : Tx K mg) : ∃ fd, FunD K "read_ring" "read_ring" (defArgs s_read_ring) (defBody s_read_ring) (defScope s_read_ring) [] [] (ga K "read_ring") fd := T.d.def_ 32 (d := d_read_ring) rfl
theorem Tx.F_parse_ring (T : Tx K mg) : ∃ fd, FunD K "parse_ring" "parse_ring" (defArgs s_parse_ring) (defBody s_parse_ring) (defScope s_parse_ring) [] [] (ga K "parse_ring") fd := T.d.def_ 33 (d := d_parse_ring) rfl
theorem Tx.F_Lcell (T : Tx K mg) : ∃ fd, FunD K "_law_cell" "_law_cell" (defArgs s_Lcell) (defBody s_Lcell) (defScope s_Lcell) [] [] (ga K "_law_cell") fd := T.d.def_ 34 (d := d_Lcell) rfl
theorem Tx.F_Lsource (T : Tx K mg) : ∃ fd, FunD K "_law_source" "_law_source" (defArgs s_Lsource) (defBody s_Lsource) (defScope s_Lsource) [] [] (ga K "_law_source") fd := T.d.def_ 35 (d := d_Lsource) rfl
theorem Tx.F_Ldraw (T : Tx K mg) : ∃ fd, FunD K "_law_draw" "_law_draw" (defArgs s_Ldraw) (defBody s_Ldraw) (defScope s_Ldraw) [] [] (ga K "_law_draw") fd := T.d.def_ 36 (d := d_Ldraw) rfl
theorem Tx.F_Lland (T : Tx K mg) : ∃ fd, FunD K "_law_land" "_law_land" (defArgs s_Lland) (defBody s_Lland) (defScope s_Lland) [] [] (ga K "_law_land") fd := T.d.def_ 37 (d := d_Lland) rfl
theorem Tx.F_Lcircle (T : Tx K mg) : ∃ fd, FunD K "_law_circle" "_law_circle" (defArgs s_Lcircle) (defBody s_Lcircle) (defScope s_Lcircle) [] [] (ga K "_law_circle") fd := T.d.def_ 38 (d := d_Lcircle) rfl
theorem Tx.F_Lorders (T : Tx K mg) : ∃ fd, FunD K "_law_orders" "_law_orders" (defArgs s_Lorders) (defBody s_Lorders) (defScope s_Lorders) [] [] (ga K "_law_orders") fd := T.d.def_ 39 (d := d_Lorders) rfl
theorem Tx.F_Lcopied (T : Tx K mg) : ∃ fd, FunD K "_law_copied" "_law_copied" (defArgs s_Lcopied) (defBody s_Lcopied) (defScope s_Lcopied) [] [] (ga K "_law_copied") fd := T.d.def_ 40 (d := d_Lcopied) rfl
theorem Tx.F_Lfilled (T : Tx K mg) : ∃ fd, FunD K "_law_filled" "_law_filled" (defArgs s_Lfilled) (defBody s_Lfilled) (defScope s_Lfilled) [] [] (ga K "_law_filled") fd := T.d.def_ 41 (d := d_Lfilled) rfl
theorem Tx.F_Lsome (T : Tx K mg) : ∃ fd, FunD K "_law_some" "_law_some" (defArgs s_Lsome) (defBody s_Lsome) (defScope s_Lsome) [] [] (ga K "_law_some") fd := T.d.def_ 42 (d := d_Lsome) rfl
theorem Tx.F_Lstate (T : Tx K mg) : ∃ fd, FunD K "_law_state" "_law_state" (defArgs s_Lstate) (defBody s_Lstate) (defScope s_Lstate) [] [] (ga K "_law_state") fd := T.d.def_ 43 (d := d_Lstate) rfl
theorem Tx.F_Ldue (T : Tx K mg) : ∃ fd, FunD K "_law_due" "_law_due" (defArgs s_Ldue) (defBody s_Ldue) (defScope s_Ldue) [] [] (ga K "_law_due") fd := T.d.def_ 44 (d := d_Ldue) rfl
theorem Tx.F_Lwatch (T : Tx K mg) : ∃ fd, FunD K "_law_watch" "_law_watch" (defArgs s_Lwatch) (defBody s_Lwatch) (defScope s_Lwatch) [] [] (ga K "_law_watch") fd := T.d.def_ 45 (d := d_Lwatch) rfl
theorem Tx.F_Lfailed (T : Tx K mg) : ∃ fd, FunD K "_law_failed" "_law_failed" (defArgs s_Lfailed) (defBody s_Lfailed) (defScope s_Lfailed) [] [] (ga K "_law_failed") fd := T.d.def_ 46 (d := d_Lfailed) rfl
theorem Tx.F_Lturn_right (T : Tx K mg) : ∃ fd, FunD K "_law_turn_right" "_law_turn_right" (defArgs s_Lturn_right) (defBody s_Lturn_right) (defScope s_Lturn_right) [] [] (ga K "_law_turn_right") fd := T.d.def_ 47 (d := d_Lturn_right) rfl
theorem Tx.F_Llimit_right (T : Tx K mg) : ∃ fd, FunD K "_law_limit_right" "_law_limit_right" (defArgs s_Llimit_right) (defBody s_Llimit_right) (defScope s_Llimit_right) [] [] (ga K "_law_limit_right") fd := T.d.def_ 48 (d := d_Llimit_right) rfl
theorem Tx.F_Lright (T : Tx K mg) : ∃ fd, FunD K "_law_right" "_law_right" (defArgs s_Lright) (defBody s_Lright) (defScope s_Lright) [] [] (ga K "_law_right") fd := T.d.def_ 49 (d := d_Lright) rfl
theorem Tx.F_law (T : Tx K mg) : ∃ fd, FunD K "law" "law" (defArgs s_law) (defBody s_law) (defScope s_law) [] [] (ga K "law") fd := T.d.def_ 50 (d := d_law) rfl
/-- an own exception class -/
structure ExC (K : PySem.W.Frag) (tail : List Value) (newId : String) (C fI : Addr) : Prop where
  ini : PySem.W.excInitIn K C tail newId = true
  ovr : PySem.W.excOver K C tail = true
  sa : PySem.W.findIn K (.ref C) "__setattr__" = some (some (.builtin "object.__setattr__"))
  exC : PySem.W.subIn K (.ref C) (.type "BaseException") = some true
  tyC : PySem.W.typeIn K (.ref C) = some (.type "type")
  hdC : PySem.W.hasDictIn K C = true
  xf : L2.XfC K C
  iC : PySem.W.findIn K (.ref C) "__init__" = some (some (.ref fI))
  tI : PySem.W.typeIn K (.ref fI) = some (.type "function")
  fI : PySem.W.isFn K (.ref fI) = true
theorem exB_ok {tail : List Value} {newId : String} {x : Str} (h : exB tail newId x K = true) : ExC K tail newId (ga K x) (He.ma K (ga K x) "__init__") := by
  obtain ⟨h1, h⟩ := Bool.and_eq_true_iff.mp h
  obtain ⟨h2, h⟩ := Bool.and_eq_true_iff.mp h
  obtain ⟨h3, h⟩ := Bool.and_eq_true_iff.mp h
  obtain ⟨h4, h⟩ := Bool.and_eq_true_iff.mp h
  obtain ⟨h5, h⟩ := Bool.and_eq_true_iff.mp h
  obtain ⟨h6, h⟩ := Bool.and_eq_true_iff.mp h
  obtain ⟨h7, h⟩ := Bool.and_eq_true_iff.mp h
  obtain ⟨h8, h⟩ := Bool.and_eq_true_iff.mp h
  obtain ⟨h9, h10⟩ := Bool.and_eq_true_iff.mp h
  exact ⟨h1, h2, He.eqO_ok h3, of_decide_eq_true h4, of_decide_eq_true h5, h6, L2.xfB_ok h7, He.eqO_ok h8, of_decide_eq_true h9, h10⟩
theorem inB_ok {x : Str} (c : Cls K (ga K x)) (h : inB x K = true) : C8.InsC K (ga K x) := by
  obtain ⟨h1, h⟩ := Bool.and_eq_true_iff.mp h
  obtain ⟨h2, h⟩ := Bool.and_eq_true_iff.mp h
  obtain ⟨h3, h⟩ := Bool.and_eq_true_iff.mp h
  obtain ⟨h4, h5⟩ := Bool.and_eq_true_iff.mp h
  exact ⟨c, He.eqO_ok h1, of_decide_eq_true h2, of_decide_eq_true h3, of_decide_eq_true h4, of_decide_eq_true h5⟩
abbrev veNew : String := "ValueError.__new__"
abbrev aeNew : String := "ArithmeticError.__new__"
theorem Tx.all7 (T : Tx K mg) : exB He.veBase veNew "InvalidInstruction" K = true ∧ exB He.veBase veNew "InvalidLine" K = true ∧ exB aeTail aeNew "TooMany" K = true ∧ inB "Ring" K = true ∧ inB "Recorder" K = true ∧ keB K = true ∧
    He.eqO (PySem.W.findIn K (.ref (ga K "Recorder")) "__ne__") (some (some (.builtin "object.__ne__"))) = true := by
  obtain ⟨h1, h⟩ := Bool.and_eq_true_iff.mp T.more
  obtain ⟨h2, h⟩ := Bool.and_eq_true_iff.mp h
  obtain ⟨h3, h⟩ := Bool.and_eq_true_iff.mp h
  obtain ⟨h4, h⟩ := Bool.and_eq_true_iff.mp h
  obtain ⟨h5, h⟩ := Bool.and_eq_true_iff.mp h
  obtain ⟨h6, h7⟩ := Bool.and_eq_true_iff.mp h
  exact ⟨h1, h2, h3, h4, h5, h6, h7⟩
theorem Tx.exII (T : Tx K mg) : ExC K He.veBase veNew (ga K "InvalidInstruction") (He.ma K (ga K "InvalidInstruction") "__init__") := exB_ok T.all7.1
theorem Tx.exIL (T : Tx K mg) : ExC K He.veBase veNew (ga K "InvalidLine") (He.ma K (ga K "InvalidLine") "__init__") := exB_ok T.all7.2.1
theorem Tx.exTM (T : Tx K mg) : ExC K aeTail aeNew (ga K "TooMany") (He.ma K (ga K "TooMany") "__init__") := exB_ok T.all7.2.2.1
theorem Tx.inRing (T : Tx K mg) : C8.InsC K (ga K "Ring") := inB_ok T.cl_Ring T.all7.2.2.2.1
theorem Tx.inRec (T : Tx K mg) : C8.InsC K (ga K "Recorder") := inB_ok T.cl_Recorder T.all7.2.2.2.2.1
theorem Tx.keB_ (T : Tx K mg) : keB K = true := T.all7.2.2.2.2.2.1
theorem Tx.ke_IL (T : Tx K mg) : PySem.W.exmOne K (.type "KeyError") (.ref (ga K "InvalidLine")) = some false := of_decide_eq_true (Bool.and_eq_true_iff.mp T.keB_).1
theorem Tx.II_ke (T : Tx K mg) : PySem.W.exmOne K (.ref (ga K "InvalidInstruction")) (.type "KeyError") = some false := of_decide_eq_true (Bool.and_eq_true_iff.mp (Bool.and_eq_true_iff.mp T.keB_).2).1
theorem Tx.TM_ke (T : Tx K mg) : PySem.W.exmOne K (.ref (ga K "TooMany")) (.type "KeyError") = some false := of_decide_eq_true (Bool.and_eq_true_iff.mp (Bool.and_eq_true_iff.mp T.keB_).2).2
theorem Tx.ne_Rec (T : Tx K mg) : PySem.W.findIn K (.ref (ga K "Recorder")) "__ne__" = some (some (.builtin "object.__ne__")) := He.eqO_ok T.all7.2.2.2.2.2.2
end
end K71
set_option maxRecDepth 100000
set_option maxHeartbeats 4000000
/-! Own rules 1: an instance's own __len__, __str__, __repr__, __bool__, !=; repr of data. -/
namespace K71
open PySem PySem.Spec PyProof.Rows L2
section
variable {X : Cx} {pins : List (Addr × Obj)} {σ : L2.St} {H : Hp} {s : Shared} {C f a dx : Addr} {fd : FuncData} {ps : List Str} {sp : Sp} {k : Nat} {fs : List (Str × V)}
/-- a callee runs from within a built-in that stands at A -/
theorem run_in {A : Around} {E : Value → Shared → Prop} {us : List Value} {vs : List V} {Q : VK} (F : FnOk X.prog X.w X.K X.mg X.base C8.CX0 k f fd ps sp) (hr : Room k A) (hfr : A.frames = some X.stack) (hb : Binds X.K fd ps []) (I : Inv X pins σ H s) (r : Vals vs us)
    (h : sp vs H Q C8.E0) : wpAny (model X.prog X.w) A (call (.ref f) us) (EP X pins σ Q) E s := by
  have e0 : Env0 X.prog X.w X.K X.mg X.base A X.stack s H := { I.env0 with frames := hfr }
  have hl : us.length = ps.length := by rw [← r.length]; exact F.len _ _ _ _ h
  have b := hb s us I.kIn (by rw [List.append_nil]; exact hl)
  rw [List.append_nil] at b
  refine wpAny_call (codeAny_mono (F.run A X.stack s H ⟨us, []⟩ us vs Q C8.E0 hr e0 b r h) fun r s' hq => ?_)
  cases r with
  | error e => exact (show False from hq).elim
  | ok fl =>
    cases fl with
    | ret u => exact I.after hq
    | next => exact False.elim hq
    | brk => exact False.elim hq
    | cont => exact False.elim hq
theorem inst_at (I : Inv X pins σ H s) (ha : H a = some (.ins C dx fs)) : ∃ od, PySem.W.InstAt s.heap a (PySem.W.instObj C dx) C (some od) := by
  obtain ⟨mA, J, _⟩ := ins_get I.hok ha
  obtain ⟨od, J, _⟩ := J.look
  exact ⟨od, J⟩
theorem fr_in1 {A : Around} {l : List Env} (h : A.frames = some l) : A.in1.frames = some l := h
/-- len(o), o's class has its own __len__ -/
def rLenO (C : Addr) (sp : Sp) : List V → Hp → VK → Prop := fun xs H Q => ∃ a dx fs, xs = [.ref a] ∧ H a = some (.ins C dx fs) ∧ sp [.ref a] H (fun v H' => ∃ n : Nat, v = .int (n : Int) ∧ n ≤ 1000 ∧ Q (.int (n : Int)) H') C8.E0
theorem call_lenO (F : FnOk X.prog X.w X.K X.mg X.base C8.CX0 k f fd ps sp) (hb : Binds X.K fd ps []) (hm : Meth X.K C "__len__" f) (hr : Room (k + 1) X.A) : CallR X (.builtin "len") (rLenO C sp) := by
  intro pins s σ H xs us Q I r h
  obtain ⟨a, dx, fs, rfl, ha, q⟩ := h
  obtain ⟨u, rfl, ru⟩ := vals1 r
  obtain rfl : u = Value.ref a := ru
  obtain ⟨od, J⟩ := inst_at I ha
  obtain ⟨m, hF⟩ := I.fr
  refine PySem.W.len_K hF I.ok.mod.kin J hm.at_ hm.fn (wpAny_mono (run_in (vs := [.ref a]) F hr.in1 (fr_in1 I.ok.frames) hb I (.cons rfl .nil) q) (fun v s' hv => ?_) fun _ _ x => x)
  obtain ⟨x, H', I', rx, n, rfl, hn, q'⟩ := hv
  obtain ⟨t, rfl⟩ := rx
  exact ⟨⟨by omega, by omega⟩, ⟨.int n, H', I'.tok _, ⟨_, rfl⟩, q'⟩⟩
/-- str(o) -/
def rStrO (C : Addr) (sp : Sp) : List V → Hp → VK → Prop := fun xs H Q => ∃ a dx fs, xs = [.ref a] ∧ H a = some (.ins C dx fs) ∧ sp [.ref a] H (fun v H' => ∃ z : Str, v = .str z ∧ Q (.str z) H') C8.E0
theorem call_strO (F : FnOk X.prog X.w X.K X.mg X.base C8.CX0 k f fd ps sp) (hb : Binds X.K fd ps []) (hm : Meth X.K C "__str__" f) (hr : Room (k + 2) X.A) : CallR X (.type "str") (rStrO C sp) := by
  intro pins s σ H xs us Q I r h
  obtain ⟨a, dx, fs, rfl, ha, q⟩ := h
  obtain ⟨u, rfl, ru⟩ := vals1 r
  obtain rfl : u = Value.ref a := ru
  obtain ⟨od, J⟩ := inst_at I ha
  refine PySem.W.kso_call hr.in1.in1.units0 I.kIn J hm.at_ hm.fn (wpAny_mono (run_in (vs := [.ref a]) F hr.in1.in1 (fr_in1 (fr_in1 I.ok.frames)) hb I (.cons rfl .nil) q) (fun v s' hv => ?_) fun _ _ x => x)
  obtain ⟨x, H', I', rx, z, rfl, q'⟩ := hv
  obtain ⟨t, rfl⟩ := rx
  exact ⟨.str z, H', I', ⟨_, rfl⟩, q'⟩
/-- repr(o) -/
theorem call_reprO (F : FnOk X.prog X.w X.K X.mg X.base C8.CX0 k f fd ps sp) (hb : Binds X.K fd ps []) (hm : Meth X.K C "__repr__" f) (hr : Room (k + 1) X.A) : CallR X (.builtin "repr") (rStrO C sp) := by
  intro pins s σ H xs us Q I r h
  obtain ⟨a, dx, fs, rfl, ha, q⟩ := h
  obtain ⟨u, rfl, ru⟩ := vals1 r
  obtain rfl : u = Value.ref a := ru
  obtain ⟨od, J⟩ := inst_at I ha
  obtain ⟨m, hF⟩ := I.fr
  refine PySem.W.repr_K hr.in1.units0 hF I.ok.mod.kin J hm.at_ hm.fn (wpAny_mono (run_in (vs := [.ref a]) F hr.in1 (fr_in1 I.ok.frames) hb I (.cons rfl .nil) q) (fun v s' hv => ?_) fun _ _ x => x)
  obtain ⟨x, H', I', rx, z, rfl, q'⟩ := hv
  obtain ⟨t, rfl⟩ := rx
  exact ⟨.str z, H', I', ⟨_, rfl⟩, q'⟩
/-- repr of data -/
def rRepr (K : PySem.W.Frag) : List V → Hp → VK → Prop := fun xs H Q => ∃ a d, xs = [.ref a] ∧ Dp K H (.ref a) d ∧ d.showable = true ∧ d.hasDict = false ∧ d.depth ≤ 32 ∧ d.shown.length ≤ sizeLine ∧ Q (.str d.shown) H
theorem call_reprD (hg : X.A.guards = some []) (hu : X.A.units + 64 < cLine) : CallR X (.builtin "repr") (rRepr X.K) := by
  intro pins s σ H xs us Q I r h
  obtain ⟨a, d, rfl, hd, hs, hn, hz, hl, q⟩ := h
  obtain ⟨u, rfl, ru⟩ := vals1 r
  obtain rfl : u = Value.ref a := ru
  obtain ⟨as, rd⟩ := Dp.reads I d _ _ hd rfl
  exact repr_of_reads' rd hs (fun z => by rw [hn] at z; cases z) hg (by omega) (fun _ _ e => e) (fun h' u tk hk => ⟨.str d.shown, H, I.kept hk, ⟨_, rfl⟩, q⟩) hl
/-- repr(None) -/
theorem call_reprN : CallR X (.builtin "repr") (fun xs H Q => xs = [.non] ∧ Q (.str "None") H) := by
  intro pins s σ H xs us Q I r h
  obtain ⟨rfl, q⟩ := h
  obtain ⟨u, rfl, ru⟩ := vals1 r
  obtain rfl : u = Value.none := ru
  exact PySem.P.repr_of_none ⟨.str "None", H, I.tok _, ⟨_, rfl⟩, q⟩
end
end K71
set_option maxRecDepth 100000
set_option maxHeartbeats 4000000
/-! Own rules 2: bool(o) by the class's own __len__; o != p by its own __eq__; promises that lean on the guards (repr). -/
namespace K71
open PySem PySem.Spec PyProof.Rows L2
section
open PySem.W
variable {prog : Program} {w : World} {A : Around} {E : Value → Shared → Prop} {s : Shared} {K : Frag} {x C f : Addr} {ox : Obj} {od : Option Obj}
theorem len_treeO {Q : Value → Shared → Prop} (X : K.In s.heap) (I : InstAt s.heap x ox C od) (hs : findIn K (.ref C) "__len__" = some (some (.ref f))) (hf : isFn K (.ref f) = true)
    (h : wpAny (model prog w) A (call (.ref f) [.ref x]) (PySem.W.LenBack Q) E s) : wpAny (model prog w) A (Builtin.«len» ⟨[.ref x], []⟩) (fun fin s' => ∃ r, fin = .done (.ret r) ∧ Q r s') E s := by
  unfold Builtin.«len»
  refine wpAny_bind (m := oneArg "len" _) (wpAny_pure ?_)
  refine wpAny_bind (m := callSpecial? (.ref x) (Str.ofString "__len__")) (special_fn X I hs (beq_iff_eq.mp hf) (wpAny_mono h (fun r s' hr => ?_) fun _ _ y => y))
  cases r <;> first | exact hr.elim | skip
  rename_i n u
  obtain ⟨⟨h0, h1⟩, hq⟩ := hr
  refine wpAny_bind (wpAny_holding (wpAny_pure ?_))
  refine wpAny_bind (wpAny_letGo ?_)
  show wpAny _ _ (if n < 0 then _ else _) _ _ _
  rw [if_neg (by omega)]
  show wpAny _ _ (if n ≥ 2 ^ 63 then _ else _) _ _ _
  rw [if_neg (by omega)]
  exact wpAny_bind (wpAny_mkInt (wpAny_pure ⟨_, rfl, hq⟩))
theorem truthyO {Q : Bool → Shared → Prop} (X : K.In s.heap) (I : InstAt s.heap x ox C od) (hb : findIn K (.ref C) "__bool__" = some none) (hs : findIn K (.ref C) "__len__" = some (some (.ref f))) (hf : isFn K (.ref f) = true)
    (h : wpAny (model prog w) A.in1 (call (.ref f) [.ref x]) (PySem.W.LenBack fun v s' => ∃ n t, v = .int n t ∧ Q (n != 0) s') E s) : wpAny (model prog w) A (truthy (.ref x)) Q E s := by
  have key : wpAny (model prog w) A (runValue (.builtin "len" ⟨[.ref x], []⟩)) (fun v s' => ∃ n t, v = .int n t ∧ Q (n != 0) s') E s := by
    refine wpAny_runValue (codeAny_builtin entry_len ?_)
    rw [Around.under_plainId plain_len _]
    exact wpAny_mono (len_treeO X I hs hf h) (fun fin s' h' => by obtain ⟨r, rfl, hq⟩ := h'; exact hq) fun _ _ e => e
  unfold truthy
  refine wpAny_bind (m := callSpecial? (.ref x) (Str.ofString "__bool__")) (wpAny_bind (wpAny_bind (I.type.here ((looks_findIn X hb).here (wpAny_pure ?_)))))
  refine wpAny_bind (wpAny_bind (I.type.here ((looks_findIn X hs).here ?_)))
  refine wpAny_bind (wpAny_mono key (fun r s' h' => ?_) fun _ _ e => e)
  obtain ⟨n, t, rfl, hq⟩ := h'
  exact wpAny_pure hq
theorem boolO {Q : Value → Shared → Prop} (X : K.In s.heap) (I : InstAt s.heap x ox C od) (hb : findIn K (.ref C) "__bool__" = some none) (hs : findIn K (.ref C) "__len__" = some (some (.ref f))) (hf : isFn K (.ref f) = true)
    (h : wpAny (model prog w) A.in1.in1.in1 (call (.ref f) [.ref x]) (PySem.W.LenBack fun v s' => ∃ n t, v = .int n t ∧ Q (.bool (n != 0)) s') E s) : wpAny (model prog w) A (call (.type "bool") [.ref x]) Q E s := by
  refine callType_codes (T := "bool") (Bi := Builtin.«object.__init__») (Q₁ := fun r s₁ => ∃ b, r = .bool b ∧ Q r s₁) PySem.F.called_bool (PySem.F.typeCall_bool_1 _) PySem.F.entry_object_init ?_ ?_
  · refine codeAny_of_tree ?_
    show wpAny _ A.in1.in1 (do checkBuiltinCall "bool.__new__" ⟨[.type "bool", .ref x], []⟩; again (.builtin "bool.__new__" ⟨[.type "bool", .ref x], []⟩)) _ _ s
    refine wpAny_bind (wpAny_of_eq (PySem.F.newCall_bool_1 _) (wpAny_pure ⟨plainId_quiet (by decide +kernel) _, codeAny_builtin PySem.F.entry_bool_new ?_⟩))
    rw [Around.under_plainId (by decide +kernel) _]
    have f1 := PySem.F.conv_sub_bool
    unfold Builtin.«bool.__new__»
    have L : wpAny (model prog w) A.in1.in1 (truthy (.ref x)) (fun b s₁ => Q (.bool b) s₁) E s := truthyO X I hb hs hf (wpAny_mono h (fun r s₁ hr => ?_) fun _ _ y => y)
    · repeat (any_goals (first | assumption | (with_reducible refine wpAny_mono L ?_ ?_) | wp_step))
      all_goals first | (intro e s₁ he; exact he) | skip
      all_goals intro b s₁ hq
      all_goals (show wpAny _ _ (pure (Fin.done (.ret (.bool b)))) _ _ _)
      all_goals refine wpAny_pure ?_
      all_goals exact ⟨b, rfl, hq⟩
    · cases r <;> first | exact hr.elim | exact hr
  · rintro obj s₁ ⟨b, rfl, hq⟩
    exact ⟨PySem.typeIs_bool _ _, PySem.F.args_object_init_2 _ _, object_init_meets PySem.F.called_bool.init.lookup PySem.F.called_bool.made (by decide) prog w A.in1 _ s₁ ⟨PySem.typeIs_bool _ _, rfl, hq⟩⟩
end
end K71
set_option maxRecDepth 100000
set_option maxHeartbeats 4000000
/-! Own rules 3: bool(o), o != p as rules of the layer; promises that lean on the guards (FnG). -/
namespace K71
open PySem PySem.Spec PyProof.Rows L2
section
open PySem.W
variable {prog : Program} {w : World} {A : Around} {E : Value → Shared → Prop} {s : Shared} {K : Frag} {x C f : Addr} {ox : Obj} {od : Option Obj}
theorem ne_slot {b : Value} {Q : Value → Shared → Prop} (hu : A.in1.units < cLine) (X : K.In s.heap) (I : InstAt s.heap x ox C od) (hm : mroIn K C (.type "object") = some true) (he : findIn K (.ref C) "__eq__" = some (some (.ref f))) (hf : isFn K (.ref f) = true)
    (h : wpAny (model prog w) A.in1 (call (.ref f) [.ref x, b]) (fun v s' => ∃ k, v = .bool k ∧ Q (.bool (!k)) s') E s) : wpAny (model prog w) A (call (.builtin "object.__ne__") [.ref x, b]) Q E s := by
  refine wpAny_call (codeAny_call_builtin PySem.F.cmp_object.ne.plain PySem.F.cmpEntry_ne (check_slot (i := "object.__ne__") (owner := "object") (n := "__ne__") PySem.F.cmpKind_ne PySem.F.cmpSplit_ne (I.type.andThen (looks_mroIn X hm)) (PySem.F.cmpArgs_ne _ _) ?_))
  unfold Builtin.«object.__ne__»
  refine wpAny_bind (wpAny_of_eq (a := ((Value.ref x : Value), [b])) (by first | rfl | (simp only [slotArgs]; rfl)) ?_)
  refine wpAny_bind (m := cRoomFor _ _) (wpAny_cRoomFor hu ?_)
  refine wpAny_bind (m := callSpecialIfBound? (.ref x) (Str.ofString "__eq__") _) (ifBound_K X I he hf (wpAny_mono h (fun r s' hq => ?_) fun _ _ y => y))
  obtain ⟨k, rfl, hq⟩ := hq
  refine wpAny_bind (wpAny_truthy_bool ?_)
  exact wpAny_pure hq
theorem ne_own {b : Value} {Q : Value → Shared → Prop} (hu : A.units < cLine) (hu1 : A.in1.units < cLine) (X : K.In s.heap) (I : InstAt s.heap x ox C od) (hb : Looks (model prog w) s.heap (typeOf b) (.ref C)) (hm : mroIn K C (.type "object") = some true)
    (hn : findIn K (.ref C) "__ne__" = some (some (.builtin "object.__ne__"))) (he : findIn K (.ref C) "__eq__" = some (some (.ref f))) (hf : isFn K (.ref f) = true)
    (h : wpAny (model prog w) A.in1 (call (.ref f) [.ref x, b]) (fun v s' => ∃ k, v = .bool k ∧ Q (.bool (!k)) s') E s) : wpAny (model prog w) A (richCompare .NotEq (.ref x) b) Q E s := by
  have two : wpAny (model prog w) A (callSpecialIfBound? (.ref x) (cmpInfo .NotEq).2.1 [b]) (fun r s' => ∃ k, r = some (.bool k) ∧ Q (.bool k) s') E s := by
    have one : wpAny (model prog w) A (call (.builtin "object.__ne__") [.ref x, b]) (fun v s' => ∃ k, v = .bool k ∧ Q (.bool k) s') E s := ne_slot hu1 X I hm he hf (wpAny_mono h (fun v s' ⟨k, e, q⟩ => ⟨k, e, _, rfl, q⟩) fun _ _ z => z)
    simp only [callSpecialIfBound?, bindSpecialIfBound?]
    refine wpAny_holding (wpAny_bind (wpAny_bind (wpAny_bind (I.type.here ((looks_findIn X hn).here ?_)))))
    refine wpAny_bind (wpAny_askSetting (wpAny_ite ?_))
    have fin : wpAny (model prog w) A (call (.builtin "object.__ne__") ([.ref x] ++ [b]) >>= fun v => pure (some v)) (fun r s' => ∃ k, r = some (.bool k) ∧ Q (.bool k) s') E s :=
      wpAny_bind (wpAny_mono one (fun v s' ⟨k, e, q⟩ => wpAny_pure ⟨k, by rw [e], q⟩) fun _ _ h' => h')
    split
    · exact wpAny_bind ((Looks.of_pure (PySem.F.cmp_object.ne.bind _)).here (wpAny_pure (by exact fin)))
    · exact wpAny_tryCatch (wpAny_bind ((Looks.of_pure (PySem.F.cmp_object.ne.bind _)).here (wpAny_pure (by exact fin))))
  unfold richCompare
  simp only [oneThing_ref]
  refine wpAny_holding (wpAny_bind (wpAny_cRoomFor hu ?_))
  refine wpAny_bind (I.type.here (wpAny_bind (hb.here ?_)))
  rw [if_neg (by simp)]
  refine wpAny_bind (wpAny_pure ?_)
  simp only [Bool.false_eq_true, if_false]
  unfold tryCompare
  refine wpAny_bind (wpAny_bind (wpAny_mono two (fun r s' z => ?_) fun _ _ e => e))
  obtain ⟨k, rfl, hq⟩ := z
  exact wpAny_pure (wpAny_pure hq)
end
section
variable {X : Cx} {C f : Addr} {fd : FuncData} {ps : List Str} {sp : Sp} {k : Nat}
/-- bool(o) by the class's own __len__ -/
def rBoolO (C : Addr) (sp : Sp) : List V → Hp → VK → Prop := fun xs H Q => ∃ a dx fs, xs = [.ref a] ∧ H a = some (.ins C dx fs) ∧ sp [.ref a] H (fun v H' => ∃ n : Nat, v = .int (n : Int) ∧ n ≤ 1000 ∧ Q (.bl ((n : Int) != 0)) H') C8.E0
theorem call_boolO (F : FnOk X.prog X.w X.K X.mg X.base C8.CX0 k f fd ps sp) (hb : Binds X.K fd ps []) (hm : Meth X.K C "__len__" f) (hn : NoAttr X.K C "__bool__") (hr : Room (k + 3) X.A) : CallR X (.type "bool") (rBoolO C sp) := by
  intro pins s σ H xs us Q I r h
  obtain ⟨a, dx, fs, rfl, ha, q⟩ := h
  obtain ⟨u, rfl, ru⟩ := vals1 r
  obtain rfl : u = Value.ref a := ru
  obtain ⟨od, J⟩ := inst_at I ha
  refine boolO I.kIn J hn hm.at_ hm.fn (wpAny_mono (run_in (vs := [.ref a]) F hr.in1.in1.in1 (fr_in1 (fr_in1 (fr_in1 I.ok.frames))) hb I (.cons rfl .nil) q) (fun v s' hv => ?_) fun _ _ x => x)
  obtain ⟨x, H', I', rx, n, rfl, hn, q'⟩ := hv
  obtain ⟨t, rfl⟩ := rx
  exact ⟨⟨by omega, by omega⟩, _, _, rfl, ⟨.bl _, H', I'.tok _, rfl, q'⟩⟩
/-- o != p, both of the class C that has its own == -/
def rNeO (C : Addr) (sp : Sp) : R2 := fun x y H Q => ∃ a b dx dy fs gs, x = .ref a ∧ y = .ref b ∧ H a = some (.ins C dx fs) ∧ H b = some (.ins C dy gs) ∧ sp [.ref a, .ref b] H (fun v H' => ∃ c : Bool, v = .bl c ∧ Q (.bl (!c)) H') C8.E0
theorem op_neO (F : FnOk X.prog X.w X.K X.mg X.base C8.CX0 k f fd ps sp) (hb : Binds X.K fd ps []) (hm : Meth X.K C "__eq__" f) (hne : PySem.W.findIn X.K (.ref C) "__ne__" = some (some (.builtin "object.__ne__"))) (ho : PySem.W.mroIn X.K C (.type "object") = some true) (hr : Room (k + 1) X.A) :
    OpR X (compareOp .NotEq) (rNeO C sp) := by
  intro pins s σ H x y v u Q I rx ry h
  obtain ⟨a, b, dx, dy, fs, gs, rfl, rfl, ha, hb', q⟩ := h
  obtain rfl : v = Value.ref a := rx
  obtain rfl : u = Value.ref b := ry
  obtain ⟨od, J⟩ := inst_at I ha
  obtain ⟨od', J'⟩ := inst_at I hb'
  show wpAny (model X.prog X.w) X.A (richCompare .NotEq (.ref a) (.ref b)) (EP X pins σ Q) X.xe s
  refine ne_own hr.units0 hr.in1.units0 I.kIn J J'.type ho hne hm.at_ hm.fn (wpAny_mono (run_in (vs := [.ref a, .ref b]) F hr.in1 (fr_in1 I.ok.frames) hb I (.cons rfl (.cons rfl .nil)) q) (fun v s' hv => ?_) fun _ _ x => x)
  obtain ⟨x, H', I', rx, c, rfl, q'⟩ := hv
  obtain rfl := (show v = Value.bool c from rx)
  exact ⟨c, rfl, .bl (!c), H', I', rfl, q'⟩
end
/-! ### promises that lean on the guards: no repr is under way at the call -/
structure FnG (P : Program) (w : World) (K : PySem.W.Frag) (mg : Str → Option Value) (base : Heap) (k : Nat) (f : Addr) (fd : FuncData) (ps : List Str) (sp : Sp) : Prop where
  len : ∀ vs H Q E, sp vs H Q E → vs.length = ps.length
  run : ∀ (A : Around) (outer : List Env) (s : Shared) (H : Hp) (args : Args) (us : List Value) (vs : List V) (Q : VK) (E : XK), A.guards = some [] → Room k A → Env0 P w K mg base A outer s H → BindsTo s fd args (ps.zip us) → Vals vs us → sp vs H Q E →
    codeAny (model P w) A (.call (.ref f) args) (CR C8.CX0 outer P w H s Q E) s
section
variable {P : Program} {w : World} {K : PySem.W.Frag} {mg : Str → Option Value} {base : Heap} {x : Str} {params : Arguments} {body : List Stmt} {scope : Scope} {f : Addr} {fd : FuncData} {N ps : List Str} {k : Nat} {sp : Sp}
/-- a def by its body -/
theorem fnG (F : FunD K x x params body scope [] [] f fd) (S : FnScope N ps scope) (len : ∀ vs H Q E, sp vs H Q E → vs.length = ps.length)
    (hbody : ∀ (cdv : Value) (A : Around) (outer : List Env) (s : Shared) (H : Hp) (vs : List V) (Q : VK) (E : XK), A.guards = some [] → Room k (A.deeper (envOfC x scope s.heap.objs.size f cdv)) → sp vs H Q E →
      ∃ t, PSs (cxOf C8.CX0 P w K mg base N x scope f cdv A outer s H E).nox body t ∧ t { nx := fun _ H' => Q .non H', rt := Q } (start N vs) H) : FnG P w K mg base (k + 1) f fd ps sp := by
  obtain ⟨oc, od, dV, kV, doc, pm, an, cdv, ct, osl, rfl, lk, hcd, _, _⟩ := F.ex
  refine ⟨len, fun A outer s H args us vs Q E hg hr e0 hb r hsp => ?_⟩
  refine LamX.run_ofS (N := N) lk hcd S hr e0 hb r (len _ _ _ _ hsp) fun hr' => ?_
  obtain ⟨t, h, q⟩ := hbody cdv A outer s H vs Q E hg hr' hsp
  exact ⟨t, h.nox, q⟩
/-- a def that may be called by its name where no repr is under way -/
structure CalG (P : Program) (w : World) (K : PySem.W.Frag) (mg : Str → Option Value) (base : Heap) (k : Nat) (x : Str) (sp : Sp) : Prop where
  ex : ∃ (f : Addr) (fd : FuncData) (ps : List Str), FnG P w K mg base k f fd ps sp ∧ mg x = some (.ref f) ∧ PySem.W.keepIn K (.ref f) = true ∧ Binds K fd ps []
end
section
variable {X : Cx} {k j : Nat} {x : Str} {sp : Sp} {p pos : Pos} {e : Expr} {es : List Expr} {t : TA}
theorem pe_g (c : CalG X.prog X.w X.K X.mg X.base k x sp) (hgu : X.A.guards = some []) (hr : Room j X.A) (hk : k ≤ j) (hg : Gl X x) (ha : PA X (e :: es) t)
    (hdb : (x == ("__debug__" : Str)) = false := by decide) (he : starEach (e :: es) X.env = (false, eval e X.env) :: starEach es X.env := by rfl) (hpl : (backTo pos (starEach es X.env)).any (·.1) = false := by rfl) :
    PE X (.Call (.Name x p) (e :: es) [] pos) (tCall sp [] C8.E0 t) := by
  obtain ⟨f, fd, ps, F, hm, kp, b⟩ := c.ex
  refine ⟨fun pins s σ H Q I h => ?_⟩
  refine wpAny_Call_Name_kw (ld_glob I hg hm ?_ hdb)
  refine PySem.W.callWith_K (h₀ := X.base) I.ok.mod.kin kp (thn (ha.run pos pins s σ H _ I h) fun us s1 ⟨vs, H1, I1, r, q⟩ => ⟨I1.kIn, ?_⟩) he hpl
  replace q : sp (vs ++ []) H1 Q C8.E0 := q
  rw [List.append_nil] at q
  show wpAny _ _ (call (.ref f) us) _ _ _
  have hl : us.length = ps.length := by rw [← r.length]; exact F.len _ _ _ _ q
  have bb := b s1 us I1.kIn (by rw [List.append_nil]; exact hl)
  rw [List.append_nil] at bb
  refine wpAny_call (codeAny_mono (F.run X.A X.stack s1 H1 ⟨us, []⟩ us vs Q C8.E0 hgu (hr.mono hk) I1.env0 bb r q) fun r s' hq => ?_)
  cases r with
  | error e => exact (show False from hq).elim
  | ok fl =>
    cases fl with
    | ret u => exact I1.after hq
    | next => exact False.elim hq
    | brk => exact False.elim hq
    | cont => exact False.elim hq
end
end K71
set_option maxRecDepth 100000
set_option maxHeartbeats 4000000
/-! Own rules 4: own exception classes with an __init__ that stores one field, over any built-in base; attribute targets. -/
namespace K71
open PySem PySem.Spec PyProof.Rows L2
section
open PySem.W Builtin Builtin.ObjectAttr
variable {prog : Program} {w : World} {A : Around} {R : Result → Shared → Prop} {hp : Heap} {g : Array GenState} {d : Drawn} {t : Nat} {os : OsState}
/-- the first store into an exception: its dict is made -/
theorem osa_first {K : Frag} {B : String} {bmB : List Value} {name : Str} {tk : Tok} {v : Value} {x C t1 : Addr} (SF : StoreFacts B bmB "object.__setattr__" "object") (X : K.In hp) (hx : hp.get? x = some (excObj C t1 none .none))
    (ho : excOver K C bmB = true) (hh : hasDictIn K C = true) (ha : findIn K (.ref C) name = some none)
    (hq : ∀ h' tk' dx, (∀ b o, b ≠ x → hp.get? b = some o → h'.get? b = some o) → hp.objs.size ≤ dx → dx ≠ x → h'.get? x = some (excObj C t1 (some dx) .none) → h'.Ns1 dx (fun y => if y = name then some v else none) → R (.ok (.ret .none)) ⟨h', g, d, tk', os⟩) :
    codeAny (model prog w) A (.call (.builtin "object.__setattr__") ⟨[.ref x, .str name tk, v], []⟩) R ⟨hp, g, d, t, os⟩ := by
  have hxs : x ≠ hp.objs.size := Nat.ne_of_lt (Heap.lt_size hx)
  have ht : takerIn K C name = some none := L2.NoAttr.taker ha
  refine osa_openX (od := none) (r := none) SF X ⟨hx, rfl, rfl, trivial⟩ ho ht fun b => ?_
  obtain ⟨cd, hc, hd'⟩ := any_some hh
  refine wpAny_bind (wpAny_pure (wpAny_bind (instanceDict_exc hx (looks_clsIn X hc) hd' ?_)))
  show wpAny _ _ (storeInDict hp.objs.size (.str name tk) name v) _ _ _
  refine PySem.HandSPX.store_in_new ?_ fun h' tk' hn' hs => ?_
  · exact ⟨_, #[], _, (Heap.get?_update_ne _ _ _ _ hxs.symm).trans (Heap.get?_push_at rfl rfl), rfl, fun e he => absurd he (by simp), fun _ => rfl⟩
  · have hx1 : (hp.push (dictOf [] 0)).get? x = some (excObj C t1 none .none) := Heap.get?_push_of_some _ hx
    refine hq h' tk' hp.objs.size (fun b o hb e => ?_) (Nat.le_refl _) hxs.symm ?_ hn'
    · exact (hs.2 b (Nat.ne_of_lt (Heap.lt_size e))).trans ((Heap.get?_update_ne _ _ _ _ hb).trans (Heap.get?_push_of_some _ e))
    · exact (hs.2 x hxs).trans (Heap.get?_update_self _ hx1 rfl)
end
section
variable {X : Cx} {pins : List (Addr × Obj)} {σ : L2.St} {H : Hp} {s : Shared} {a C fI : Addr} {f : Str} {y : V} {u : Value} {Q : Unit → Shared → Prop} {E : Value → Shared → Prop} {A : Around} {B newId initId : String} {bmB : List Value}
/-- self.f = y in such an __init__ -/
theorem exc_stored (SF : StoreFacts B bmB "object.__setattr__" "object") (T : ExC X.K bmB newId C fI) (I : Inv X pins σ H s) (e : H a = some (exo a C none)) (hno : PySem.W.findIn X.K (.ref C) f = some none) (ry : RelV y u)
    (h : ∀ dx s', H dx = none → dx ≠ a → Inv X pins σ (upd (upd H dx (exd dx [(f, y)])) a (exo a C (some dx))) s' → Q () s') : wpAny (model X.prog X.w) A (setAttr (.ref a) f u) Q E s := by
  obtain ⟨t1, ho⟩ := exo_at I.hok e
  obtain ⟨hp, g, d, t, os⟩ := s
  refine PySem.W.set_plain I.kIn (ox := PySem.W.excObj C t1 none .none) (od := none) ⟨ho, rfl, rfl, trivial⟩ T.sa ?_
  refine osa_first SF I.kIn ho T.ovr T.hdC hno fun h' tk' dx k dn dne hx hn => ?_
  have free : H dx = none := I.hok.fresh dn
  have old : ∀ {b : Addr} {o : Obj}, hp.get? b = some o → b ≠ dx := fun {b o} q => Nat.ne_of_lt (Nat.lt_of_lt_of_le (Heap.lt_size q) dn)
  have nota : ∀ {b : Addr}, H b = none → b ≠ a := fun {b} n z => by rw [z, e] at n; cases n
  have at_ : ∀ {b : Addr}, b ≠ a → b ≠ dx → upd (upd H dx (exd dx [(f, y)])) a (exo a C (some dx)) b = H b := fun {b} h1 h2 => by rw [upd_ne h1, upd_ne h2]
  refine h dx _ free dne (I.un (t' := tk') ⟨fun b o q n _ _ => k b o (nota n) q, fun b o q n _ _ => ⟨o.slots, k b o (nota n) q⟩, fun b o q n _ => by rw [at_ (nota n) (old q)]; exact n, fun b o q _ => ?_,
    fun b xs q => by rw [at_ (at_ne e q exo_tup) (ne_of_none q free)]; exact q, fun b o v q => by rw [at_ (at_ne e q exo_frz) (ne_of_none q free)]; exact q, fun b ps q => ⟨#[], by rw [at_ (at_ne e q exo_tbl) (ne_of_none q free), q]; simp⟩⟩ fun b o q => ?_)
  · by_cases hb : b = a
    · rw [hb]; exact ⟨_, hx⟩
    · exact ⟨o, k b o hb q⟩
  · by_cases hb : b = a
    · subst hb
      rw [upd_same] at q
      cases q
      exact exo_ok hx
    · by_cases hd : b = dx
      · subst hd
        rw [upd_ne hb, upd_same] at q
        cases q
        exact exd_ok hn (relO_put (fs := []) ry fun g => True.intro)
      · rw [at_ hb hd] at q
        refine (I.hok b o q).stay (fun c v hc z => k c v ?_ z) (fun c hc => by rw [at_ (at_ne e hc exo_own) (ne_of_none hc free)]; exact hc) fun c xs hc => by rw [at_ (at_ne e hc exo_tup) (ne_of_none hc free)]; exact hc
        rcases hc with hc | hc
        · rw [hc]; exact hb
        · exact at_ne e hc exo_own
/-- the promise of such an __init__ -/
def spExI (C : Addr) (f : Str) : Sp := fun vs H Q _ => ∃ (a : Addr) (y : V), vs = [.ref a, y] ∧ H a = some (exo a C none) ∧ ∀ dx, H dx = none → dx ≠ a → Q .non (upd (upd H dx (exd dx [(f, y)])) a (exo a C (some dx)))
def tExS (K : PySem.W.Frag) (C : Addr) (f : Str) (to te : TE) : TS := fun D σ H => te σ H fun y H1 => to σ H1 fun x H2 => ∃ a : Addr, x = .ref a ∧ H2 a = some (exo a C none) ∧ ∀ dx, H2 dx = none → dx ≠ a → D.nx σ (upd (upd H2 dx (exd dx [(f, y)])) a (exo a C (some dx)))
theorem ps_exS {o e : Expr} {to te : TE} {p' pos : Pos} (SF : StoreFacts B bmB "object.__setattr__" "object") (T : ExC X.K bmB newId C fI) (hno : PySem.W.findIn X.K (.ref C) f = some none) (ho : PE X o to) (he : PE X e te)
    (hs : swapsWith e (some (.Attribute o f p')) pos.line X.env = pure false := by rfl) : PS X (.Assign [.Attribute o f p'] e pos) (tExS X.K C f to te) := by
  refine ⟨fun pins s σ H D I h => ?_⟩
  refine plainObj_wpAny_Assign_Attribute (thn (he.run pins s σ H _ I h) fun v s1 ⟨y, H1, I1, r1, q1⟩ => thn (ho.run pins s1 σ H1 _ I1 q1) fun u s2 ⟨x, H2, I2, r2, a, ex, ea, q⟩ => ?_) hs
  subst ex
  obtain rfl : u = Value.ref a := r2
  exact exc_stored SF T I2 ea hno r1 fun dx s' n ne J => ⟨σ, _, J, q dx n ne⟩
/-- C(e): the exception's own dict d, new, holds the field -/
def tMkX (C : Addr) (f : Str) (ta : TA) : L2.St → Hp → XK → Prop := fun σ H Q => ta σ H fun vs H1 => ∃ y, vs = [y] ∧ ∀ d, H1 d = none → Q (.ref C) (some d) (upd H1 d (.xd [(f, y)]))
theorem pmk_x {x : Str} {k : Nat} {fd : FuncData} {ps : List Str} {e : Expr} {te : TA} {p pos : Pos} (FB : ExcBaseFacts B newId initId bmB) (T : ExC X.K bmB newId C fI) (kC : PySem.W.keepIn X.K (.ref C) = true)
    (F1 : FnOk X.prog X.w X.K X.mg X.base C8.CX0 k fI fd ps (spExI C f)) (hr : Room (k + 1) X.A) (hb : Binds X.K fd ps []) (hg : Gl X x) (hm : X.mg x = some (.ref C)) (ha : PA X [e] te)
    (hdb : (x == ("__debug__" : Str)) = false := by decide) (he : starEach (e :: []) X.env = (false, eval e X.env) :: starEach [] X.env := by rfl) (hpl : (backTo pos (starEach [] X.env)).any (·.1) = false := by rfl) :
    PMk X (.Call (.Name x p) [e] [] pos) (tMkX C f te) := by
  intro pins s σ H Q I h
  refine wpAny_Call_Name_kw (ld_glob I hg hm ?_ hdb)
  refine PySem.W.callWith_K (h₀ := X.base) I.ok.mod.kin kC (thn (ha.run pos pins s σ H _ I h) fun us s1 ⟨vs, H1, I1, r1, y, ev, q1⟩ => ⟨I1.kIn, ?_⟩) he hpl
  subst ev
  obtain ⟨u, rfl, ru⟩ := vals1 r1
  show wpAny _ _ (call (.ref C) [u]) _ _ _
  obtain ⟨nm, N, qn, bs, bm, hdct, sn, sub, ab, col, dd, k0, k1, k2, k3, k5, hC, hT⟩ := PySem.W.excInit_of I1.kIn T.ini
  obtain ⟨hp, g, dr, tk, os⟩ := s1
  have hsz : hp.objs.size ≤ hp.objs.size + 1 := Nat.le_succ _
  have hn : H1 (hp.objs.size + 1) = none := I1.hok.fresh hsz
  have kk : ∀ b o, hp.get? b = some o → ((hp.push (PySem.W.kdv_tup [u])).push (PySem.HandSPX.excO C hp.objs.size)).get? b = some o := fun b o e => Heap.get?_push_of_some _ (Heap.get?_push_of_some _ e)
  have hget : ((hp.push (PySem.W.kdv_tup [u])).push (PySem.HandSPX.excO C hp.objs.size)).get? (hp.objs.size + 1) = some (PySem.HandSPX.excO C hp.objs.size) := by heap_get
  have I2 : Inv X pins σ (upd H1 (hp.objs.size + 1) (exo (hp.objs.size + 1) C none)) ⟨(hp.push (PySem.W.kdv_tup [u])).push (PySem.HandSPX.excO C hp.objs.size), g, dr, tk, os⟩ :=
    I1.laid (t' := tk) (a := hp.objs.size + 1) (o := exo (hp.objs.size + 1) C none) kk hsz (exo_ok hget)
  have hq : spExI C f [.ref (hp.objs.size + 1), y] (upd H1 (hp.objs.size + 1) (exo (hp.objs.size + 1) C none)) (fun v H2 => v = .non ∧ ∃ d, H1 d = none ∧ d ≠ hp.objs.size + 1 ∧ H2 = upd (upd (upd H1 (hp.objs.size + 1) (exo (hp.objs.size + 1) C none)) d (exd d [(f, y)])) (hp.objs.size + 1) (exo (hp.objs.size + 1) C (some d))) C8.E0 :=
    ⟨_, y, rfl, upd_same, fun dx nd ne => ⟨rfl, dx, by rw [upd_ne ne] at nd; exact nd, ne, rfl⟩⟩
  have r2 : Vals [V.ref (hp.objs.size + 1), y] [Value.ref (hp.objs.size + 1), u] := .cons rfl (.cons ru .nil)
  have hl := F1.len _ _ _ _ hq
  have bb := hb ⟨(hp.push (PySem.W.kdv_tup [u])).push (PySem.HandSPX.excO C hp.objs.size), g, dr, tk, os⟩ [Value.ref (hp.objs.size + 1), u] I2.kIn (by simpa using hl)
  rw [List.append_nil] at bb
  refine wpAny_call (PySem.HandSPX.call_own FB hT hC (PySem.W.looks_findIn I1.kIn T.iC) (fun self => PySem.W.bind_fn I1.kIn self T.tI) (by show 1 ≤ sizeLine; rw [sizeLine_eq]; omega)
    (codeAny_mono (F1.run _ X.stack _ _ ⟨[Value.ref (hp.objs.size + 1), u], []⟩ [Value.ref (hp.objs.size + 1), u] _ _ C8.E0 (hr.make C [u] []) (I2.env0.make C [u] []) bb r2 hq) fun r s' hq' => ?_))
  cases r with
  | error er => exact (show False from hq').elim
  | ok fl =>
    cases fl with
    | ret uu =>
      obtain ⟨v, H2, os2, bare2, un2, hok2, rv, ev, d, hd1, hda, eH⟩ := hq'
      subst ev
      obtain ⟨h2, g2, d2, t2, os'⟩ := s'
      have ea : H2 (hp.objs.size + 1) = some (exo (hp.objs.size + 1) C (some d)) := by rw [eH, upd_same]
      have ed : H2 d = some (exd d [(f, y)]) := by rw [eH, upd_ne hda, upd_same]
      have eE : upd (del H2 (hp.objs.size + 1)) d (.xd [(f, y)]) = upd H1 d (.xd [(f, y)]) := by
        funext b
        by_cases hb : b = d
        · rw [hb, upd_same, upd_same]
        · rw [upd_ne hb, upd_ne hb]
          by_cases hb2 : b = hp.objs.size + 1
          · rw [hb2, del_same, hn]
          · rw [del_ne hb2, eH, upd_ne hb2, upd_ne hb, upd_ne hb2]
      refine ⟨rv, mk_end (raises_own T.exC T.tyC) I1 hsz kk un2 hok2 os2 bare2 ea ed hd1 ?_⟩
      rw [eE]
      exact q1 d hd1
    | next => exact False.elim hq'
    | brk => exact False.elim hq'
    | cont => exact False.elim hq'
end
end K71
set_option maxRecDepth 100000
set_option maxHeartbeats 4000000
/-! Own rules 5: enumerate over a tuple. -/
namespace K71
open PySem PySem.Spec PyProof.Rows L2
open Sem (wp)
open AutoSeq1 (wpAny_loadPart')
theorem meets_enum_newT (l : Addr) (items : Array Value) (n : Nat) (dct : Option Addr) (sl : Array (Option Value)) :
    Meets (Builtin.«enumerate.__new__» ⟨[.type "enumerate", .ref l], []⟩) (fun _ R s => s.heap.get? l = some { cls := .type "tuple", dict := dct, data := .seq items n, slots := sl } ∧
      R (.ok (.ret (.ref (s.heap.push { cls := .type "tuple_iterator", data := .fields #[.ref l, .int 0 0] }).objs.size)))
        { s with heap := (s.heap.push { cls := .type "tuple_iterator", data := .fields #[.ref l, .int 0 0] }).push { cls := .type "enumerate", data := .fields #[.none, .bool false, .ref s.heap.objs.size, rawInt 0, .none, .none] } }) :=
  .of_wp fun prog w A R s h => by
    obtain ⟨hp, g, d, tk, os⟩ := s; obtain ⟨hl, h⟩ := h
    have hsub := sub_enumerate
    have hL : Heap.IsTuple (Shared.heap ⟨hp, g, d, tk, os⟩) l items := ⟨_, hl, rfl, n, rfl⟩
    wp_walk using wpAny_loadPart' hl
    refine wpAny_stack_any fun st => wpAny_pure ?_
    split
    · rename_i c _ _ _ _ _
      cases (c == Value.type "enumerate")
      · wp_walk using wpAny_loadPart' hl, wpAny_pyIter_tuple hL
        exact ⟨_, rfl, h⟩
      · wp_walk using wpAny_loadPart' hl, wpAny_pyIter_tuple hL
        exact ⟨_, rfl, h⟩
    · wp_walk using wpAny_loadPart' hl, wpAny_pyIter_tuple hL
      exact ⟨_, rfl, h⟩
section
variable {prog : Program} {w : World} {A : Around} {E : Value → Shared → Prop} {s : Shared}
theorem call_enum_tup {l : Addr} {items : Array Value} {Q : Value → Shared → Prop} (hL : s.heap.IsTuple l items)
    (h : ∀ h', IsEnum h' (s.heap.objs.size + 1) s.heap.objs.size 0 .none → h'.IsTupleIter s.heap.objs.size l 0 → h'.objs.size = s.heap.objs.size + 2 →
      (∀ b o, s.heap.get? b = some o → h'.get? b = some o) → Q (.ref (s.heap.objs.size + 1)) { s with heap := h' }) :
    wpAny (model prog w) A (call (.type "enumerate") [.ref l]) Q E s := by
  obtain ⟨⟨c, dct, dt, sl⟩, hl, hc, n, hd⟩ := hL
  replace hc : c = .type "tuple" := hc
  replace hd : dt = .seq items n := hd
  subst hc hd
  refine callType_new F.called_enumerate (by decide) (F.typeCall_enumerate_1 _) (F.newCall_enumerate_1 _) (fun obj => F.args_object_init_2 obj _) F.entry_enumerate_new
    (meets_enum_newT l items n dct sl) ⟨hl, ?_⟩
  have hz : (s.heap.push { cls := .type "tuple_iterator", data := .fields #[.ref l, .int 0 0] }).objs.size = s.heap.objs.size + 1 := Heap.size_push ..
  show _ ∧ _
  rw [hz]
  have he : IsEnum ((s.heap.push { cls := .type "tuple_iterator", data := .fields #[.ref l, .int 0 0] }).push
      { cls := .type "enumerate", data := .fields #[.none, .bool false, .ref s.heap.objs.size, rawInt 0, .none, .none] }) (s.heap.objs.size + 1) s.heap.objs.size 0 .none := by
    have := Heap.get?_push_size (s.heap.push { cls := .type "tuple_iterator", data := .fields #[.ref l, .int 0 0] })
      (o := { cls := .type "enumerate", data := .fields #[.none, .bool false, .ref s.heap.objs.size, rawInt 0, .none, .none] }) rfl
    rw [hz] at this; exact this
  refine ⟨⟨_, he, rfl⟩, h _ he ⟨_, Heap.get?_push_of_some _ (Heap.get?_push_size _ rfl), rfl, rfl⟩ (by rw [Heap.size_push, hz]) fun b o x => Heap.get?_push_of_some _ (Heap.get?_push_of_some _ x)⟩
end
/-- the tuple at a as it stands at each turn, each item in a new pair -/
def IteT (K : PySem.W.Frag) (a : Addr) : It :=
  ⟨fun i H => ∃ (xs : List V) (x : V), SqT K H a xs ∧ xs[i]? = some x, fun i H v H' => ∃ T x, v = .ref T ∧ H T = none ∧ H' = upd H T (.tup [.int (i : Nat), x]) ∧ ∀ xs, SqT K H a xs → xs[i]? = some x, fun i H => ∃ xs : List V, SqT K H a xs ∧ xs.length ≤ i⟩
theorem turn_enumT {P : Program} {w : World} {K : PySem.W.Frag} {elts : List Expr} {kk : Nat} {tpos : Pos} (a e it : Addr) (hai : a ≠ it) :
    Turn P w K (.Tuple elts kk tpos) (IteT K a) [e, it] e (fun i h => (∃ old, IsEnum h e it ((i : Nat) : Int) old) ∧ h.IsTupleIter it a i ∧ e ≠ it ∧ e ≠ a) where
  mem := by simp
  obj := fun i h st b hb => by
    obtain ⟨⟨old, he⟩, ⟨o, ho, hc, hd⟩, _⟩ := st
    have e' : b = e ∨ b = it := by simpa using hb
    rcases e' with z | z
    · rw [z]; exact ⟨_, he, fun v q => nomatch q⟩
    · rw [z]; exact ⟨o, ho, fun v q => by rw [hd] at q; cases q⟩
  keep := fun i h h' st k => let ⟨⟨old, he⟩, hi, hne⟩ := st; ⟨⟨old, k e (by simp) _ he⟩, hi.at fun o q => k it (by simp) o q, hne⟩
  item := by
    intro X hP hw hK hc i pins s σ H E I hf st hg
    subst hP hw hK
    obtain ⟨⟨old, he⟩, hit, hne, hea⟩ := st
    obtain ⟨xs, x, hq, hx⟩ := hg
    obtain ⟨its, rv, p, hz⟩ := I.tuple hq
    obtain ⟨u, hu, ru⟩ := rv.get hx
    have hel : e < s.heap.objs.size := Heap.lt_size he
    have hil : it < s.heap.objs.size := by obtain ⟨_, q, _⟩ := hit; exact Heap.lt_size q
    have hh : X.A.in1.in1.handled = none := I.ok.hd hc
    have D := Draws.tuple (prog := X.prog) (w := X.w) (A := X.A.in1) hh it a hai its.toArray
    have hlt : i < its.toArray.size := by
      have := rv.length
      have := (List.getElem?_eq_some_iff.mp hx).1
      simp; omega
    refine wpAny_pyNext_enum_itemD D he ⟨hit, p⟩ hlt hne (by simp; exact ⟨hne, hea⟩) fun x' h' tk hx' ho hst' hT hsz hk => ?_
    have hu' : its.toArray[i]? = some u := by simpa using hu
    obtain rfl : u = x' := Option.some.inj (hu'.symm.trans hx')
    refine ⟨_, rfl, wpAny_letOwnedTupleGo_enum (s := { s with heap := h', toks := tk + 1 }) ho fun h'' he' sb => ?_⟩
    have hT2 : h''.get? s.heap.objs.size = some { cls := .type "tuple", data := .seq #[.int i tk, u] } := (sb.2 _ (Nat.ne_of_gt hel)).trans hT
    have new : ObjOk X.prog X.w (upd H s.heap.objs.size (.tup [.int (i : Nat), x])) h'' s.heap.objs.size (.tup [.int (i : Nat), x]) :=
      ⟨by show 2 ≤ sizeLine; decide, [.int i tk, u], .cons ⟨_, rfl⟩ (.cons ru .nil), ⟨_, hT2, rfl, _, rfl⟩⟩
    have I1 : Inv X pins σ (upd H s.heap.objs.size (.tup [.int (i : Nat), x])) { s with heap := h'', toks := tk + 1 } :=
      I.turnedNew (ch := [e, it]) (fun b ob hb q => (sb.2 b (fun z => hb (by simp [z]))).trans (hk b ob (fun z => hb (by simp [z])) (fun z => hb (by simp [z])) q)) hf (Nat.le_refl _) new
    refine ⟨.ref s.heap.objs.size, _, I1, rfl, ⟨_, x, rfl, I.hok.fresh (Nat.le_refl _), rfl, fun ys hy => by rw [I.tuple_inj hy hq]; exact hx⟩, ⟨⟨u, ?_⟩, hst'.1.at fun o q => (sb.2 it (Ne.symm hne)).trans q, hne, hea⟩, fun b hb => ?_⟩
    · have e1 : ((i + 1 : Nat) : Int) = (i : Int) + 1 := by omega
      rw [e1]; exact he'
    · have hb' : b < s.heap.objs.size := by
        have e' : b = e ∨ b = it := by simpa using hb
        rcases e' with z | z
        · rw [z]; exact hel
        · rw [z]; exact hil
      rw [upd_ne (Nat.ne_of_lt hb')]
      exact (hf b hb).1
  done := by
    intro X hP hw hK hc i pins s σ H E I hf st hg
    subst hP hw hK
    obtain ⟨⟨old, he⟩, hit, hne, hea⟩ := st
    obtain ⟨xs, hq, hx⟩ := hg
    obtain ⟨its, rv, p, hz⟩ := I.tuple hq
    obtain ⟨f0, f1, f2, f3, f4, f5⟩ := hf it (by simp)
    have hl := rv.length
    have hh : X.A.in1.handled = none := I.ok.hd hc
    have hT : s.TypeIs (.ref e) "enumerate" := ⟨_, he, rfl⟩
    unfold pyNext
    refine wpAny_bind (wpAny_attempt (wpAny_callSpecial?_slot (name := Str.ofString "__next__") hT F.slot_enumerate_next
      (wpAny_call_entry F.slot_enumerate_next hT F.entry_enumerate_next ?_ (F.args_enumerate_next_1 _))))
    show wpAny _ _ (field (.ref e) 2 >>= _) _ _ _
    refine wpAny_bind (wpAny_field he rfl (x := .ref it) rfl ?_)
    refine wpAny_bind (RZ.nextOf_tuple_end hh hit p (by simp; omega) fun h' x he' hx' => ?_)
    obtain ⟨o, ho, hc⟩ := hx'
    refine wpAny_bind (wpAny_isInstance (T := "StopIteration") (b := true) ⟨o, ho, hc⟩ isSubtype_stop ?_)
    exact wpAny_pure ⟨rfl, I.turned (t' := s.toks) (fun b o hb q => he' b o hb q) f0 f1 f3 f4 f5⟩
  self := fun A i s Q E st h => let ⟨⟨_, he⟩, _⟩ := st; wpAny_pyIter_enum he h
def iEnumT (K : PySem.W.Frag) (ta : TA) : TI := fun σ H R => ta σ H fun vs H1 => ∃ a xs, vs = [.ref a] ∧ SqT K H1 a xs ∧ R (IteT K a) H1
theorem pi_enumT {X : Cx} {e : Expr} {ta : TA} {p pos tpos : Pos} {elts : List Expr} {kk : Nat} (hg : Gl X "enumerate") (hm : X.mg "enumerate" = none) (ha : PA X [e] ta) (hs : starEach [e] X.env = [(false, eval e X.env)] := by rfl) :
    PI X (.Tuple elts kk tpos) (.Call (.Name "enumerate" p) [e] [] pos) (iEnumT X.K ta) := by
  refine ⟨fun pins s σ H R I h => ?_⟩
  refine Call_ (ld_blt I hg hm boot_enumerate (PyProof.Rows.callWith_type1 (thn (ha.run pos pins s σ H _ I h) fun us s1 ⟨vs, H1, I1, r1, q1⟩ => ?_) hs rfl))
  obtain ⟨a, xs, ex, hq, q⟩ := q1
  subst ex
  cases r1 with
  | cons r rr =>
    cases rr
    cases r
    obtain ⟨its, rv, p', hz⟩ := I1.tuple hq
    refine call_enum_tup (show s1.heap.IsTuple a its.toArray from p') fun h' he hit hsz hk => wpAny_pyIter_enum he ?_
    obtain ⟨oa, hoa, _⟩ := id p'
    have hal : a < s1.heap.objs.size := Heap.lt_size hoa
    have I2 : Inv X pins σ H1 { s1 with heap := h' } := I1.kept (t' := s1.toks) hk
    refine ⟨s1.heap.objs.size + 1, [s1.heap.objs.size + 1, s1.heap.objs.size], _, _, H1, rfl, I2, turn_enumT a (s1.heap.objs.size + 1) s1.heap.objs.size (Nat.ne_of_lt hal), ⟨⟨.none, he⟩, hit, Nat.succ_ne_self _, Nat.ne_of_gt (Nat.lt_succ_of_lt hal)⟩, fun b hb => ?_, q⟩
    have e' : b = s1.heap.objs.size + 1 ∨ b = s1.heap.objs.size := by simpa using hb
    have hle : s1.heap.objs.size ≤ b := by
      rcases e' with z | z
      · rw [z]; exact Nat.le_add_right _ _
      · rw [z]; exact Nat.le_refl _
    exact I1.fpOk hle (I1.hok.fresh hle)
end K71
set_option maxRecDepth 100000
set_option maxHeartbeats 4000000
/-! Own rules 6: exceptions whose context is known (None): making, finally, unpacking while one is handled. -/
namespace K71
open PySem PySem.Spec PyProof.Rows L2
section
variable {X : Cx} {pins : List (Addr × Obj)} {σ : L2.St} {s : Shared}
theorem mk_endN {H1 H2 : Hp} {Q : XK} {hp hp2 h2 : Heap} {g1 g2 : Array GenState} {d1 d2 : Drawn} {t1 t2 : Nat} {os1 os2 : OsState} {a C d : Addr} {fs : List (Str × V)} (T : Raises X (.ref C)) (I1 : Inv X pins σ H1 ⟨hp, g1, d1, t1, os1⟩)
    (ha : hp.objs.size ≤ a) (k : ∀ b o, hp.get? b = some o → hp2.get? b = some o) (un : Un (frs X.stack) [] (upd H1 a (exo a C none)) H2 hp2 h2) (hok : HOk X.prog X.w H2 h2) (ho : os2 = os1) (hb : AllBare g2)
    (ea : H2 a = some (exo a C (some d))) (ed : H2 d = some (exd d fs)) (hd1 : H1 d = none) (q : Q (.ref C) (some d) (upd (del H2 a) d (.xd fs))) : L2N.MkP X pins σ Q (.ref a) ⟨h2, g2, d2, t2, os2⟩ := by
  obtain ⟨t0, G, J, kG, ge, hoe, na⟩ := mk_end0 (d2 := d2) (t2 := t2) I1 ha k un hok ho hb ea ed hd1
  exact ⟨a, _, _, ⟨G, g2, d2, t2, os2⟩, _, .ref C, some d, rfl, J, kG, ge, hoe, ⟨rfl, rfl, fun vs e => by cases e; rfl⟩, rfl, rfl, na, rfl, hb, T, q⟩
theorem pmk_xN {C fI : Addr} {f : Str} {B newId initId : String} {bmB : List Value} {x : Str} {k : Nat} {fd : FuncData} {ps : List Str} {e : Expr} {ta : TA} {p pos : Pos} (FB : ExcBaseFacts B newId initId bmB) (T : ExC X.K bmB newId C fI) (kC : PySem.W.keepIn X.K (.ref C) = true)
    (F1 : FnOk X.prog X.w X.K X.mg X.base C8.CX0 k fI fd ps (spExI C f)) (hr : Room (k + 1) X.A) (hb : Binds X.K fd ps []) (hg : Gl X x) (hm : X.mg x = some (.ref C)) (ha : PA X [e] ta)
    (hdb : (x == ("__debug__" : Str)) = false := by decide) (he : starEach (e :: []) X.env = (false, eval e X.env) :: starEach [] X.env := by rfl) (hpl : (backTo pos (starEach [] X.env)).any (·.1) = false := by rfl) :
    L2N.PMk X (.Call (.Name x p) [e] [] pos) (tMkX C f ta) := by
  intro pins s σ H Q I h
  refine wpAny_Call_Name_kw (ld_glob I hg hm ?_ hdb)
  refine PySem.W.callWith_K (h₀ := X.base) I.ok.mod.kin kC (thn (ha.run pos pins s σ H _ I h) fun us s1 ⟨vs, H1, I1, r1, y, ev, q1⟩ => ⟨I1.kIn, ?_⟩) he hpl
  subst ev
  obtain ⟨u, rfl, ru⟩ := vals1 r1
  show wpAny _ _ (call (.ref C) [u]) _ _ _
  obtain ⟨nm, N, qn, bs, bm, hdct, sn, sub, ab, col, dd, k0, k1, k2, k3, k5, hC, hT⟩ := PySem.W.excInit_of I1.kIn T.ini
  obtain ⟨hp, g, dr, tk, os⟩ := s1
  have hsz : hp.objs.size ≤ hp.objs.size + 1 := Nat.le_succ _
  have hn : H1 (hp.objs.size + 1) = none := I1.hok.fresh hsz
  have kk : ∀ b o, hp.get? b = some o → ((hp.push (PySem.W.kdv_tup [u])).push (PySem.HandSPX.excO C hp.objs.size)).get? b = some o := fun b o e => Heap.get?_push_of_some _ (Heap.get?_push_of_some _ e)
  have hget : ((hp.push (PySem.W.kdv_tup [u])).push (PySem.HandSPX.excO C hp.objs.size)).get? (hp.objs.size + 1) = some (PySem.HandSPX.excO C hp.objs.size) := by heap_get
  have I2 : Inv X pins σ (upd H1 (hp.objs.size + 1) (exo (hp.objs.size + 1) C none)) ⟨(hp.push (PySem.W.kdv_tup [u])).push (PySem.HandSPX.excO C hp.objs.size), g, dr, tk, os⟩ :=
    I1.laid (t' := tk) (a := hp.objs.size + 1) (o := exo (hp.objs.size + 1) C none) kk hsz (exo_ok hget)
  have hq : spExI C f [.ref (hp.objs.size + 1), y] (upd H1 (hp.objs.size + 1) (exo (hp.objs.size + 1) C none)) (fun v H2 => v = .non ∧ ∃ d, H1 d = none ∧ d ≠ hp.objs.size + 1 ∧ H2 = upd (upd (upd H1 (hp.objs.size + 1) (exo (hp.objs.size + 1) C none)) d (exd d [(f, y)])) (hp.objs.size + 1) (exo (hp.objs.size + 1) C (some d))) C8.E0 :=
    ⟨_, y, rfl, upd_same, fun dx nd ne => ⟨rfl, dx, by rw [upd_ne ne] at nd; exact nd, ne, rfl⟩⟩
  have r2 : Vals [V.ref (hp.objs.size + 1), y] [Value.ref (hp.objs.size + 1), u] := .cons rfl (.cons ru .nil)
  have hl := F1.len _ _ _ _ hq
  have bb := hb ⟨(hp.push (PySem.W.kdv_tup [u])).push (PySem.HandSPX.excO C hp.objs.size), g, dr, tk, os⟩ [Value.ref (hp.objs.size + 1), u] I2.kIn (by simpa using hl)
  rw [List.append_nil] at bb
  refine wpAny_call (PySem.HandSPX.call_own FB hT hC (PySem.W.looks_findIn I1.kIn T.iC) (fun self => PySem.W.bind_fn I1.kIn self T.tI) (by show 1 ≤ sizeLine; rw [sizeLine_eq]; omega)
    (codeAny_mono (F1.run _ X.stack _ _ ⟨[Value.ref (hp.objs.size + 1), u], []⟩ [Value.ref (hp.objs.size + 1), u] _ _ C8.E0 (hr.make C [u] []) (I2.env0.make C [u] []) bb r2 hq) fun r s' hq' => ?_))
  cases r with
  | error er => exact (show False from hq').elim
  | ok fl =>
    cases fl with
    | ret uu =>
      obtain ⟨v, H2, os2, bare2, un2, hok2, rv, ev, d, hd1, hda, eH⟩ := hq'
      subst ev
      obtain ⟨h2, g2, d2, t2, os'⟩ := s'
      have ea : H2 (hp.objs.size + 1) = some (exo (hp.objs.size + 1) C (some d)) := by rw [eH, upd_same]
      have ed : H2 d = some (exd d [(f, y)]) := by rw [eH, upd_ne hda, upd_same]
      have eE : upd (del H2 (hp.objs.size + 1)) d (.xd [(f, y)]) = upd H1 d (.xd [(f, y)]) := by
        funext b
        by_cases hb : b = d
        · rw [hb, upd_same, upd_same]
        · rw [upd_ne hb, upd_ne hb]
          by_cases hb2 : b = hp.objs.size + 1
          · rw [hb2, del_same, hn]
          · rw [del_ne hb2, eH, upd_ne hb2, upd_ne hb, upd_ne hb2]
      refine ⟨rv, mk_endN (raises_own T.exC T.tyC) I1 hsz kk un2 hok2 os2 bare2 ea ed hd1 ?_⟩
      rw [eE]
      exact q1 d hd1
    | next => exact False.elim hq'
    | brk => exact False.elim hq'
    | cont => exact False.elim hq'
/-- a built-in class's exception -/
theorem pmk_excN {T N I : String} {x : Str} {e : Expr} {es : List Expr} {t : TA} {p pos : Pos} (hc : ExcClass T N I) (ty : typeOf (.type T) = pure (.type "type")) (hg : Gl X x) (hm : X.mg x = none) (hv : bootBuiltins x = some (.type T)) (ha : PA X (e :: es) t) (hn : x ≠ "__name__" := by decide) (hdb : (x == ("__debug__" : Str)) = false := by decide)
    (he : starEach (e :: es) X.env = (false, eval e X.env) :: starEach es X.env := by rfl) (hpl : (backTo pos (starEach es X.env)).any (·.1) = false := by rfl) :
    L2N.PMk X (.Call (.Name x p) (e :: es) [] pos) (fun σ H Q => t σ H fun vs H1 => vs.length ≤ sizeLine ∧ ∀ d, Q (.type T) d H1) := by
  intro pins s σ H Q J h
  refine wpAny_Call_Name_kw (ld_blt J hg hm hv ?_ hn hdb)
  refine PyProof.Rows.callWith_type1 (thn (ha.run pos pins s σ H _ J h) fun us s1 hh => ?_) he hpl
  obtain ⟨vs, H1, I1, r1, q0, q1⟩ := hh
  refine PyProof.Rows.call_exc hc (fun h' a mk => ?_) (Nat.le_trans (Nat.le_of_eq r1.length.symm) q0)
  obtain ⟨ob, t0, ha', hcls, hd⟩ := mk.there
  exact ⟨a, ob, _, s1, H1, .type T, ob.dict, rfl, I1, mk.keeps, mk.new, ha', ⟨hcls, rfl, fun vs e => by rw [hd] at e; cases e; rfl⟩, hd, rfl, I1.hok.gone mk.new, rfl, I1.bare, (fun _ _ _ => ⟨PySem.W.Looks.of_pure hc.base, PySem.W.Looks.of_pure ty⟩), q1 ob.dict⟩
end
/-! ### a tuple is unpacked while an exception is handled -/
section
variable {prog : Program} {w : World} {A : Around} {E : Value → Shared → Prop} {s : Shared}
theorem next_tup_end_hot {it t x1 : Addr} {i : Nat} {items : Array Value} {Q : Option Value → Shared → Prop} (hot : HotX.HotAt A x1 s.heap)
    (hit : s.heap.IsTupleIter it t i) (ht : s.heap.IsTuple t items) (hx : items[i]? = none) (hne : x1 ≠ it)
    (hQ : ∀ h', Heap.ExtBut it s.heap h' → Q none { s with heap := h' }) : wpAny (model prog w) A (pyNext (.ref it)) Q E s := by
  obtain ⟨o, ho, hc, hd⟩ := id hit
  obtain ⟨ol, hol, _, nl, hdl⟩ := ht
  obtain ⟨hh, o1, vs1, h1, d1, c1⟩ := hot
  unfold pyNext
  refine wpAny_bind (wpAny_attempt (wpAny_callSpecial?_slot (name := Str.ofString "__next__") hit.typeIs F.slot_tuple_iterator_next
    (wpAny_call_entry F.slot_tuple_iterator_next hit.typeIs F.entry_tuple_iterator_next ?_ (F.args_tuple_iterator_next_1 _))))
  show wpAny _ _ (field (.ref it) 0 >>= _) _ _ s
  refine wpAny_bind (wpAny_field ho hd (x := .ref t) rfl ?_)
  show wpAny _ _ (if (Value.ref t == Value.none) = true then _ else _) _ _ s
  rw [if_neg (show ¬ ((Value.ref t == Value.none) = true) from Bool.false_ne_true)]
  show wpAny _ _ (field (.ref it) 1 >>= _) _ _ s
  refine wpAny_bind (wpAny_field ho hd (x := .int i 0) rfl ?_)
  show wpAny _ _ (seqItems? (.ref t) >>= _) _ _ s
  refine wpAny_bind (wpAny_seqItems hol hdl ?_)
  simp only [Int.toNat_natCast, hx]
  refine wpAny_bind (wpAny_rule (wpAny_bind (wpAny_setField ho hd (by simp) ?_)))
  show wpAny _ _ (newExc (.type "StopIteration") [] >>= _) _ _ _
  refine wpAny_bind ?_
  simp only [newExc, newTuple]
  refine wpAny_bind (wpAny_newObj_type ?_ (by size_fits))
  refine wpAny_bind (m := firstArgMember _ _) (wpAny_of_eq (a := Value.none) (by first | rfl | (simp only [firstArgMember]; rfl)) ?_)
  refine wpAny_newObj_type ?_ (by size_fits)
  have h1' := (Heap.SameBut.update s.heap it (Obj.mapFields (·.setIfInBounds 0 Value.none))).extBut x1 o1 hne h1
  refine HotX.raiseNew_hot (x1 := x1) ⟨hh, o1, vs1, Heap.get?_push_of_some _ (Heap.get?_push_of_some _ h1'), d1, c1⟩ (Nat.ne_of_lt (Heap.lt_size (Heap.get?_push_of_some _ h1'))) (Heap.get?_push_size _ rfl) rfl (by first | (simp; done) | (simp; omega) | (simp only [Array.size_append]; simp; omega)) ?_
  refine wpAny_bind (wpAny_isInstance (T := "StopIteration") (b := true) ⟨_, Heap.get?_update_self _ (Heap.get?_push_size _ rfl) rfl, rfl⟩ isSubtype_stop ?_)
  refine wpAny_pure (hQ _ fun b o hb e => ?_)
  have e1 := (Heap.SameBut.update s.heap it (Obj.mapFields (·.setIfInBounds 0 Value.none))).extBut b o hb e
  rw [Heap.get?_update_other _ _ (Nat.ne_of_gt (Heap.lt_size (Heap.get?_push_of_some _ e1)))]
  exact Heap.get?_push_of_some _ (Heap.get?_push_of_some _ e1)
end
end K71
set_option maxRecDepth 100000
set_option maxHeartbeats 4000000
/-! Own rules 7: targets (attributes; a tuple while an exception is handled); finally. -/
namespace K71
open PySem PySem.Spec PyProof.Rows L2
section
variable {prog : Program} {w : World} {A : Around} {E : Value → Shared → Prop} {s : Shared}
theorem hot_step {x1 : Addr} {h h' : Heap} (hot : HotX.HotAt A x1 h) (k : ∀ o, h.get? x1 = some o → h'.get? x1 = some o) : HotX.HotAt A x1 h' := by
  obtain ⟨hh, o1, vs1, h1, d1, c1⟩ := hot
  exact ⟨hh, o1, vs1, k _ h1, d1, c1⟩
theorem unpackItems_hot {t x1 : Addr} {items : Array Value} {Q : List Value → Shared → Prop} (hot : HotX.HotAt A x1 s.heap) (ht : s.heap.IsTuple t items)
    (hQ : ∀ h', Heap.ExtBut s.heap.objs.size s.heap h' → Q items.toList { s with heap := h' }) : wpAny (model prog w) A (unpackItems (.ref t) items.size none) Q E s := by
  have hlt : t ≠ s.heap.objs.size := by obtain ⟨o, ho, _⟩ := ht; exact Nat.ne_of_lt (Heap.lt_size ho)
  have hx1 : x1 ≠ s.heap.objs.size := by obtain ⟨_, o, _, ho, _⟩ := hot; exact Nat.ne_of_lt (Heap.lt_size ho)
  unfold unpackItems
  refine wpAny_bind ?_
  · unfold notIterableAtAll
    refine wpAny_bind (wpAny_specialOf (show s.TypeIs (.ref t) "tuple" from ht.typeIs) PyProof.Rows.slot_tuple_iter.lookup ?_)
    refine wpAny_pure ?_
    simp only [Bool.false_eq_true, if_false]
    refine wpAny_bind (wpAny_holding (wpAny_pyIter_tuple ht ?_))
    refine wpAny_bind (wpAny_holding (wpAny_draw_tuple hlt items.size 0 _ _ ⟨_, Heap.get?_push_size _ rfl, rfl, rfl⟩ (ht.push _) (by omega) fun h₁ hit₁ hs₁ => ?_))
    have hall : List.take items.size (List.drop 0 items.toList) = items.toList := by
      rw [List.drop_zero]; exact List.take_of_length_le (by simp)
    rw [hall]
    rw [if_neg (by simp)]
    have ht₁ : h₁.IsTuple t items := (ht.push _).extBut hs₁.extBut hlt
    refine wpAny_bind (wpAny_holding (next_tup_end_hot (hot_step hot fun o e => hs₁.extBut x1 o hx1 (Heap.get?_push_of_some _ e)) hit₁ ht₁ (by simp) hx1 fun h₂ he₂ => ?_))
    simp only [Option.isSome_none, Bool.false_eq_true, if_false]
    refine wpAny_pure (hQ h₂ fun b o hb e => he₂ b o hb (hs₁.extBut b o hb (Heap.get?_push_of_some _ e)))
end
section
variable {X : Cx} {pos : Pos}
theorem pg_tupH {es : List Expr} {k : Nat} {t : TGs} {n : Nat} (hot : L2H.HotC X) (h : PGs X es t)
    (hn : (assignEach es X.env).length = n := by rfl) (hst : (assignEach es X.env).findIdx? (·.1) = none := by rfl) : PG X (.Tuple es k pos) (gTup X.K n t) := by
  refine ⟨fun pins s σ H v u Q I r hw => ?_⟩
  obtain ⟨a, xs, e1, hq, hl, hw⟩ := hw
  subst e1
  cases r
  obtain ⟨its, rv, ht, hz⟩ := I.tuple hq
  obtain ⟨x1, hx1⟩ := hot.at I
  rw [assign_Tuple]
  refine wpAny_bind (wpAny_standAt ?_)
  unfold unpack
  have hlen : (assignEach es X.env).length = its.toArray.size := by simp [hn, ← hl, rv.length]
  rw [hlen, hst]
  refine wpAny_bind (wpAny_holding (unpackItems_hot hx1 (show s.heap.IsTuple a its.toArray from ht) fun h' hx => ?_))
  have I1 : Inv X pins σ H { s with heap := h' } := I.kept (t' := s.toks) fun b o e => hx b o (Nat.ne_of_lt (Heap.lt_size e)) e
  exact h.run pins _ σ H xs _ Q I1 (by simpa using rv) hw
/-- o.f = .. as a target among others -/
def gFld (K : PySem.W.Frag) (to : TE) (f : Str) : TG := fun v σ H Q => to σ H fun x H1 => ∃ a C dx fs, x = .ref a ∧ H1 a = some (.ins C dx fs) ∧ Cls K C ∧ NoAttr K C f ∧ fs.length < 1000 ∧ Q σ (upd H1 a (.ins C dx (putF f v fs)))
theorem pg_fld {o : Expr} {f : Str} {to : TE} (ho : PE X o to)
    (ha : ∀ v, assign (.Attribute o f pos) X.env v = (do
      let ov ← holding [v] (eval o X.env)
      standAt pos.atName
      holding [v, ov] (setAttr ov f v)
      release [v, ov] []) := by intro _; rfl) : PG X (.Attribute o f pos) (gFld X.K to f) := by
  refine ⟨fun pins s σ H v u Q I r h => ?_⟩
  rw [ha]
  refine wpAny_bind (wpAny_holding (thn (ho.run pins s σ H _ I h) fun ov s1 ⟨x, H1, I1, r1, a, C, dx, fs, ex, ea, c, n, l, q1⟩ => ?_))
  subst ex
  obtain rfl : ov = Value.ref a := r1
  exact wpAny_bind (wpAny_standAt (wpAny_bind (wpAny_holding (setattr_ok I1 ea c n l r fun s3 I3 => wpAny_release ⟨σ, _, I3, q1⟩))))
end
end K71
set_option maxRecDepth 100000
set_option maxHeartbeats 4000000
/-! Own rules 8: try .. finally, the exception's context known; a method called within it. -/
namespace K71
open PySem PySem.Spec PyProof.Rows L2
/-- try: body / finally: suite -/
def tFinN (tb : WX → TS) (tf tfs : TS) (Wout : WX) : TS := fun D σ H => tb (wFin tfs Wout) { nx := fun σ1 H1 => tf D σ1 H1, rt := fun _ _ => False } σ H
section
variable {X : Cx} {body : List Stmt} {f₀ : Stmt} {fs : List Stmt} {pos : Pos} {tb : WX → TS} {tf tfs : TS} {Wout : WX}
theorem fin_excN {pins : List (Addr × Obj)} {D : Ends} {u : Value} {s' : Shared} (hs : X.stack = X.env :: X.outer) (hf : X.env.frame = some X.env.locals) (hex : X.ex = []) (ok : X.Ok) (tk : L2N.Takes X Wout)
    (hsu : ∀ (a : Addr) (pn : List (Addr × Obj)), L2H.HotC (X.suite a pn) → PSs (X.suite a pn) (f₀ :: fs) tfs) (xx : L2N.XE (X.tr (X.pn ++ pins) (fun x s₁ => wpAny (model X.prog X.w) X.A (noteFrame x X.env) (fun _ s₂ => FinallyRaised X.prog X.w X.A X.xe X.env (f₀ :: fs) (SP X pins D) x s₂) (FinallyRaised X.prog X.w X.A X.xe X.env (f₀ :: fs) (SP X pins D)) s₁)) (wFin tfs Wout) u s') :
    wpAny (model X.prog X.w) X.A (noteFrame u X.env) (fun _ s₂ => FinallyRaised X.prog X.w X.A X.xe X.env (f₀ :: fs) (SP X pins D) u s₂) (FinallyRaised X.prog X.w X.A X.xe X.env (f₀ :: fs) (SP X pins D)) s' := by
  have hfr : X.A.frames = some (X.env :: X.outer) := by rw [ok.frames, hs]
  obtain ⟨a, B, sI, pins', σ', H', cls, d, rfl, J', nb, up, sky, na, os, ag, hw⟩ := xx
  have J : Inv X pins σ' H' sI := J'.ofTry ok
  have sky' : Sky B (X.env :: X.outer) a (L2N.Zn cls d) X.env.locals s'.heap := by rw [← hs]; exact sky
  have fin : ∀ h1, HandSPX.HeldZ B (X.env :: X.outer) a (L2N.Zn cls d) X.env.locals h1 → s'.heap.UpToSlots h1 → FinallyRaised X.prog X.w X.A X.xe X.env (f₀ :: fs) (SP X pins D) (.ref a) { s' with heap := h1 } := fun h1 hh1 up1 => by
    refine ⟨ref_ne_byPass a, HandSPX.againZ hf hh1.2.2.2 (HandSPX.landsZ hh1 fun h3 fl3 up3 => ?_)⟩
    have J3 : Inv X pins σ' H' { s' with heap := h3 } := J.landed nb fl3.1 ((up.trans up1).trans up3) os ag
    obtain ⟨k1, k2, k3, oe, vs, T, oT, ts, he3, hz, hd, hv1, hnT, hTe, hT, hdT, ht3⟩ := id fl3
    have nT : H' T = none := (J.inGround nb).gone hnT
    have notFr : ∀ (b : Addr) (o : Obj) (fv : Array Value), h3.get? b = some o → o.data = .fields fv → b ∉ frs (X.env :: X.outer) := fun b o fv e dd hm => by
      obtain ⟨_, o', e', hnf⟩ := k3.mem hm
      have eo : o = o' := Option.some.inj (e.symm.trans e')
      rw [← eo] at hnf
      exact hnf _ dd
    have locF : X.env.locals ∈ frs (X.env :: X.outer) := List.mem_filterMap.mpr ⟨X.env, List.mem_cons_self, hf⟩
    have fsF : ∀ b, b ∈ X.fs → b ∈ frs (X.env :: X.outer) := fun b hm => by
      obtain ⟨e, he, q⟩ := List.mem_filterMap.mp hm
      exact List.mem_filterMap.mpr ⟨e, List.mem_cons_of_mem _ he, q⟩
    have fa := notFr a oe vs he3 hd
    have fT := notFr T oT ts hT hdT
    have nocell : ∀ (o : Obj) (fv : Array Value), o.data = .fields fv → ∀ v, o.data ≠ .cell v := fun o fv hd v z2 => by
      rw [hd] at z2
      cases z2
    have S3 : Inv (X.suite a ((a, oe) :: (T, oT) :: (X.pn ++ pins))) [] σ' H' { s' with heap := h3 } :=
      ⟨J3.ok.suite _ _, J3.os, J3.bare, J3.base, J3.loc, J3.cell, J3.free, J3.freeC, fun p hp => by
        rw [List.append_nil] at hp
        rcases List.mem_cons.mp hp with z | hp
        · rw [z]
          exact ⟨he3, na, fun z2 => fa (by rw [show a = X.env.locals from z2]; exact locF), fun z2 => fa (fsF _ z2), nocell oe vs hd⟩
        · rcases List.mem_cons.mp hp with z | hp
          · rw [z]
            exact ⟨hT, nT, fun z2 => fT (by rw [show T = X.env.locals from z2]; exact locF), fun z2 => fT (fsF _ z2), nocell oT ts hdT⟩
          · exact J3.pin p hp, J3.hok, J3.len⟩
    have hot : L2H.HotC (X.suite a ((a, oe) :: (T, oT) :: (X.pn ++ pins))) := ⟨(a, oe), ⟨rfl, vs, hd, hz.2.2 vs hd⟩, List.mem_cons_self⟩
    refine wpAny_mono ((hsu a ((a, oe) :: (T, oT) :: (X.pn ++ pins)) hot).run [] { s' with heap := h3 } σ' H' { nx := fun σ2 H2 => Wout cls d σ2 H2, rt := fun _ _ => False } S3 hw) (fun g s6 hsp => ?_) fun _ _ z => False.elim z
    cases g with
    | ret u =>
      obtain ⟨_, _, _, _, _, q⟩ := hsp
      exact False.elim q
    | brk =>
      obtain ⟨_, _, _, q⟩ := hsp
      exact False.elim q
    | cont =>
      obtain ⟨_, _, _, q⟩ := hsp
      exact False.elim q
    | next =>
      obtain ⟨σ6, H6, S6, q6⟩ := hsp
      have J6 : Inv X pins σ6 H6 s6 := ⟨ok, S6.os, S6.bare, S6.base, S6.loc, S6.cell, S6.free, S6.freeC, fun p hp => S6.pin p (List.mem_append_left _ (List.mem_cons_of_mem _ (List.mem_cons_of_mem _ hp))), S6.hok, S6.len⟩
      have pa := S6.pin (a, oe) (List.mem_append_left _ List.mem_cons_self)
      have pT := S6.pin (T, oT) (List.mem_append_left _ (List.mem_cons_of_mem _ List.mem_cons_self))
      have ga : s6.heap.get? a = some oe := pa.1
      have gT : s6.heap.get? T = some oT := pT.1
      have na6 : H6 a = none := pa.2.1
      have nT6 : H6 T = none := pT.2.1
      have far : ∀ b o, sI.heap.get? b = some o → b ≠ a ∧ b ≠ T := fun b o e => by
        by_cases hb : b ∈ frs X.stack
        · rw [hs] at hb
          exact ⟨fun z => fa (by rw [← z]; exact hb), fun z => fT (by rw [← z]; exact hb)⟩
        · have q := nb b o e hb
          exact ⟨fun z => by
            rw [z, k2] at q
            exact (nomatch q), fun z => by
            rw [z, hnT] at q
            cases q⟩
      have far0 : ∀ b o, X.s_0.heap.get? b = some o → b ≠ a ∧ b ≠ T := fun b o e => by
        obtain ⟨o', q⟩ := J.base.there b o e (by rw [hex]; simp)
        exact far b o' q
      have farP : ∀ p ∈ X.pn ++ pins, p.1 ≠ a ∧ p.1 ≠ T := fun p hp => far p.1 p.2 (J.pin p hp).1
      obtain ⟨G, g1, g2⟩ := restrict s6.heap fun b => !(decide (b = a) || decide (b = T))
      have gIn : ∀ b o, G.get? b = some o → s6.heap.get? b = some o ∧ b ≠ a ∧ b ≠ T := fun b o e => by
        cases q : (!(decide (b = a) || decide (b = T))) with
        | false =>
          rw [g2 b q] at e
          cases e
        | true =>
          rw [g1 b q] at e
          simp only [Bool.not_eq_true', Bool.or_eq_false_iff, decide_eq_false_iff_not] at q
          exact ⟨e, q.1, q.2⟩
      have gOf : ∀ b o, b ≠ a → b ≠ T → s6.heap.get? b = some o → G.get? b = some o := fun b o h1 h2 e => by
        rw [g1 b (by simp [h1, h2])]
        exact e
      have I6 : Inv X pins σ6 H6 { s6 with heap := G } := J6.less (fun b o e => (gIn b o e).1) gOf ⟨oe, vs, ga, hd⟩ ⟨oT, ts, gT, hdT⟩ na6 nT6 far0 farP
      have Bno : ∀ b, (b = a ∨ b = T) → (PySem.W.hideAll G (frs X.stack)).get? b = none := fun b hb => by
        cases q : (PySem.W.hideAll G (frs X.stack)).get? b with
        | none => rfl
        | some o =>
          obtain ⟨_, n1, n2⟩ := gIn b o (PySem.W.of_hideAll _ q)
          rcases hb with z | z
          · exact absurd z n1
          · exact absurd z n2
      have fl6 : HandSPX.FlyingZ (PySem.W.hideAll G (frs X.stack)) (X.env :: X.outer) a (L2N.Zn cls d) s6.heap := by
        refine ⟨fun b o e => (gIn b o (PySem.W.of_hideAll _ e)).1, Bno a (.inl rfl), ?_, oe, vs, T, oT, ts, ga, hz, hd, hv1, Bno T (.inr rfl), hTe, gT, hdT, ht3⟩
        have ff := funFrames_none (B := PySem.W.hideAll G (frs X.stack)) J6.stack fun b hb => PySem.W.hideAll_none _ hb
        rw [← hs]
        exact ff
      show wpAny (model X.prog X.w) X.A (PySem.passOn "try.finally" (.ref a) X.env) (SP X pins D) X.xe s6
      unfold PySem.passOn
      refine wpAny_bind (wpAny_field ga hd hv1 ?_)
      rw [if_neg (show ¬ ((Value.ref T == Value.none) = true) from by simp)]
      have goOn : wpAny (model X.prog X.w) X.A (setFlight (.ref a) X.env.frame) (fun _ s7 => wpAny (model X.prog X.w) X.A (throw (.ref a) : Sem Flow) (SP X pins D) X.xe s7) X.xe s6 := by
        rw [hf]
        refine HandSPX.setFlight_upZ fl6 fun h7 hh7 up7 => wpAny_throw (tk _ _ ?_)
        refine ⟨a, PySem.W.hideAll G (frs X.stack), { s6 with heap := G }, pins, σ6, H6, cls, d, rfl, I6, fun b o e hb => PySem.W.hideAll_get _ e hb, ?_, .inr (.inr (by rw [← hs] at hh7; exact hh7)), na6, rfl, J6.bare, q6⟩
        exact Heap.UpToSlots.trans (Heap.UpToSlots.of_keeps fun b o e => (gIn b o e).1) up7
      first
        | exact wpAny_bind (wpAny_pure (wpAny_bind goOn))
        | exact wpAny_bind goOn
  show wpAny (model X.prog X.w) X.A (noteFrame (.ref a) X.env) _ _ _
  rcases sky' with ⟨hB, hn, hl, oe, vs, he0, hz, hd, hv1⟩ | fl | hh
  · exact PXN.look_newZ L2N.Zn.steady hfr hl hf he0 hB hn hd hv1 hz fin
  · exact PXN.looks_onZ L2N.Zn.steady hfr hf fl fin
  · exact HandSPX.againZ hf hh.2.2.2 (fin s'.heap hh (Heap.UpToSlots.refl _))
theorem ps_finN (hs : X.stack = X.env :: X.outer) (hf : X.env.frame = some X.env.locals) (hex : X.ex = []) (tk : L2N.Takes X Wout)
    (hb : ∀ (W : WX) (pn : List (Addr × Obj)) (xe : Value → Shared → Prop), L2N.Takes (X.tr pn xe) W → PassesOwn (model X.prog X.w) X.A X.env xe → PSs (X.tr pn xe) body (tb W))
    (hfin : PSs X.nox (f₀ :: fs) tf) (hsu : ∀ (a : Addr) (pn : List (Addr × Obj)), L2H.HotC (X.suite a pn) → PSs (X.suite a pn) (f₀ :: fs) tfs) : PS X (.Try body [] [] (f₀ :: fs) pos) (tFinN tb tf tfs Wout) := by
  refine ⟨fun pins s σ H D I h => ?_⟩
  have ok := I.ok
  refine wpAny_Try_finally ?_
  refine wpAny_mono ((hb (wFin tfs Wout) (X.pn ++ pins) (fun x s₁ => wpAny (model X.prog X.w) X.A (noteFrame x X.env) (fun _ s₂ => FinallyRaised X.prog X.w X.A X.xe X.env (f₀ :: fs) (SP X pins D) x s₂) (FinallyRaised X.prog X.w X.A X.xe X.env (f₀ :: fs) (SP X pins D)) s₁)
    (fun u s' xx => ?_) PassesOwn.looking).run [] s σ H { nx := fun σ1 H1 => tf D σ1 H1, rt := fun _ _ => False } (I.toTry _) h) (fun g s1 z => ?_) (fun x s1 hx => hx)
  · exact fin_excN hs hf hex ok tk hsu xx
  · cases g with
    | ret u =>
      obtain ⟨_, _, _, _, _, q⟩ := z
      exact False.elim q
    | brk =>
      obtain ⟨_, _, _, q⟩ := z
      exact False.elim q
    | cont =>
      obtain ⟨_, _, _, q⟩ := z
      exact False.elim q
    | next =>
      obtain ⟨σ1, H1, J1, q1⟩ := z
      refine wpAny_execs_nil ?_
      refine wpAny_mono (hfin.run pins s1 σ1 H1 D ((J1.ofTry ok).wish _) q1) (fun g2 s2 q2 => ?_) fun _ _ e => False.elim e
      have q3 : SP X pins D g2 s2 := q2.unwish
      cases g2 <;> exact q3
end
/-- o.m(e, ..) where exceptions are taken: wished for at the slots as they stand -/
def tMethS (C : Addr) (m : Str) (sp : Sp) (E : L2.St → XK) (ta : TE) (t : TA) : TE := fun σ H Q => ta σ H fun x H1 => ∃ a dx fs, x = .ref a ∧ H1 a = some (.ins C dx fs) ∧ fs.lookup m = none ∧ t σ H1 fun vs H2 => sp (x :: vs) H2 Q (E σ)
theorem pe_methS {X : Cx} {CX : CXT} {k : Nat} {f C : Addr} {fd : FuncData} {ps : List Str} {sp : Sp} {E : L2.St → XK} {m : Str} {pos apos : Pos} {e o : Expr} {es : List Expr} {ta : TE} {t : TA} {pl : Sem Bool} (he : PE X o ta) (c : Cls X.K C) (hm : Meth X.K C m f)
    (F : FnOk X.prog X.w X.K X.mg X.base CX k f fd ps sp) (hr : Room k X.A) (hb : Binds X.K fd ps []) (hx : ∀ σ, PassesAt CX X σ (E σ)) (ha : PA X (e :: es) t)
    (hst : starEach (e :: es) X.env = (false, eval e X.env) :: starEach es X.env := by rfl) (hpl : (backTo pos (starEach es X.env)).any (·.1) = false := by rfl)
    (ht : eval (.Call (.Attribute o m apos) (e :: es) [] pos) X.env = (do
      let ov ← eval o X.env
      standAt apos.atName
      let (f, first) ← holding [ov] (getMethod ov m pl)
      callWith pos f first (backTo pos (starEach (e :: es) X.env)) (backToKw pos (keywordEach [] X.env))) := by rfl) :
    PE X (.Call (.Attribute o m apos) (e :: es) [] pos) (tMethS C m sp E ta t) := by
  refine ⟨fun pins s σ H Q I h => ?_⟩
  refine PySem.W.methodCall_KW (pl := pl) (thn (he.run pins s σ H _ I h) fun u s1 ⟨x, H1, I1, rx, a, dx, fs, ex, ea, l, q⟩ => ?_) ht
  subst ex
  obtain rfl : u = Value.ref a := rx
  refine getmeth_ok I1 ea c hm l ?_
  refine PySem.W.callWith_K (first := [.ref a]) (h₀ := X.base) I.ok.mod.kin hm.kp (thn (ha.run pos pins s1 σ H1 _ I1 q) fun us s2 ⟨vs, H2, I2, r, q2⟩ => ⟨I2.kIn, ?_⟩) hst hpl
  exact run_fnS (us := .ref a :: us) (vs := .ref a :: vs) F hr hb (hx σ) I2 (.cons rfl r) q2
end K71
set_option maxRecDepth 100000
set_option maxHeartbeats 4000000
/-! Own rules 9: several except clauses, some of them «as n» (all by one name n, a local). -/
namespace K71
open PySem PySem.Spec PyProof.Rows L2
abbrev Cls1 := Value × Option Nat × (Addr → Value → Option Addr → TS)
def asEnds (i : Nat) (D : Ends) : Ends := { nx := fun σ' H' => D.nx (σ'.set i none) H', rt := D.rt, bk := fun σ' H' => D.bk (σ'.set i none) H', ct := fun σ' H' => D.ct (σ'.set i none) H' }
/-- one clause's suite, from the exception at a -/
def runCl (oi : Option Nat) (ts : Addr → Value → Option Addr → TS) (a : Addr) (cls : Value) (d : Option Addr) (D : Ends) (σ : L2.St) (H : Hp) : Prop :=
  match oi with
  | none => ts a cls d D σ H
  | some i => ts a cls d (asEnds i D) (σ.set i (some (.ref a))) H
def wManyN (K : PySem.W.Frag) (Wout : WX) (D : Ends) : List Cls1 → WX
  | [] => Wout
  | (c, oi, ts) :: r => fun cls d σ H => ∃ b, PySem.W.exmOne K cls c = some b ∧ (b = true → ∀ a, H a = none → runCl oi ts a cls d D σ H) ∧ (b = false → wManyN K Wout D r cls d σ H)
inductive HdsN (X : Cx) : List ExceptHandler → List Cls1 → Prop
  | nil : HdsN X [] []
  | plain {x : Str} {c : Value} {ts : Addr → Value → Option Addr → TS} {b₀ : Stmt} {suite : List Stmt} {np pos' : Pos} {hds : List ExceptHandler} {l : List Cls1} (hc : Names X x c)
      (hsu : ∀ (a : Addr) (oe : Obj) (cls : Value) (d : Option Addr) (pn : List (Addr × Obj)), L2N.Zn cls d oe → (∃ vs, oe.data = .fields vs) → PSs (X.suite a ((a, oe) :: pn)) (b₀ :: suite) (ts a cls d)) (r : HdsN X hds l) :
      HdsN X (.ExceptHandler (some (.Name x np)) none (b₀ :: suite) pos' :: hds) ((c, none, ts) :: l)
  | named {x n : Str} {i : Nat} {c : Value} {ts : Addr → Value → Option Addr → TS} {b₀ : Stmt} {suite : List Stmt} {np pos' : Pos} {hds : List ExceptHandler} {l : List Cls1} (hN : X.N.Nodup) (hi : X.N[i]? = some n) (hln : X.env.kindOf n = some .local) (hc : Names X x c)
      (hsu : ∀ (a : Addr) (oe : Obj) (cls : Value) (d : Option Addr) (pn : List (Addr × Obj)), L2N.Zn cls d oe → (∃ vs, oe.data = .fields vs) → PSs (X.suite a ((a, oe) :: pn)) (b₀ :: suite) (ts a cls d)) (r : HdsN X hds l) :
      HdsN X (.ExceptHandler (some (.Name x np)) (some n) (b₀ :: suite) pos' :: hds) ((c, some i, ts) :: l)
section
variable {X : Cx} {body : List Stmt} {h₀ : ExceptHandler} {hds : List ExceptHandler} {l : List Cls1} {pos : Pos} {tb : WX → TS} {Wout : WX}
theorem ps_try_manyN (hs : X.stack = X.env :: X.outer) (hf : X.env.frame = some X.env.locals) (tk : L2N.Takes X Wout)
    (hb : ∀ (W : WX) (pn : List (Addr × Obj)) (xe : Value → Shared → Prop), L2N.Takes (X.tr pn xe) W → PassesOwn (model X.prog X.w) X.A X.env xe → PSs (X.tr pn xe) body (tb W))
    (hh : HdsN X (h₀ :: hds) l) : PS X (.Try body (h₀ :: hds) [] [] pos) (fun D σ H => tb (wManyN X.K Wout D l) D σ H) := by
  refine ⟨fun pins s σ H D I h => ?_⟩
  have ok := I.ok
  have hfr : X.A.frames = some (X.env :: X.outer) := by rw [ok.frames, hs]
  refine wpAny_Try_except ?_
  refine wpAny_mono ((hb (wManyN X.K Wout D l) (X.pn ++ pins) (fun e s₁ => wpAny (model X.prog X.w) X.A (noteFrame e X.env) (fun _ s₂ => wpAny (model X.prog X.w) X.A (setFlight e none) (fun _ s₃ =>
    wpAny (model X.prog X.w) X.A (handleBy e X.env (h₀ :: hds)) (SP X pins D) X.xe s₃) X.xe s₂) X.xe s₁) (fun u s' xx => ?_) PassesOwn.looking).run [] s σ H D (I.toTry _) h) (fun f s1 hsp => ?_) (fun e s1 he => he)
  · obtain ⟨a, B, sI, pins', σ', H', cls, d, rfl, J', nb, up, sky, na, os, ag, w⟩ := xx
    have J : Inv X pins σ' H' sI := J'.ofTry ok
    have sky' : Sky B (X.env :: X.outer) a (L2N.Zn cls d) X.env.locals s'.heap := by rw [← hs]; exact sky
    show wpAny (model X.prog X.w) X.A (noteFrame (.ref a) X.env) _ _ _
    refine L2N.Sky.land L2N.Zn.steady hfr hf sky' fun h3 fl3 up3 => ?_
    have J3 : Inv X pins σ' H' { s' with heap := h3 } := J.landed nb fl3.1 (up.trans up3) os ag
    obtain ⟨oe3, vs3, he3, hz3, hd3⟩ := fl3.there
    have nfr : a ∉ frs (X.env :: X.outer) := fun hm => by
      obtain ⟨_, o', e', hnf⟩ := fl3.2.2.1.mem hm
      rw [he3] at e'; cases e'
      exact hnf _ hd3
    have nL : a ≠ X.env.locals := fun z => nfr (List.mem_filterMap.mpr ⟨X.env, List.mem_cons_self, by rw [hf, z]⟩)
    have nF : a ∉ X.fs := fun hm => by
      obtain ⟨e, he, q⟩ := List.mem_filterMap.mp hm
      exact nfr (List.mem_filterMap.mpr ⟨e, List.mem_cons_of_mem _ he, q⟩)
    have S3 := J3.suite he3 hd3 na nL nF
    have LT : PySem.W.Looks (model X.prog X.w) h3 (typeOf (.ref a)) cls := fun A Q E s k q => wpAny_typeOf_ref (k _ _ he3) (by rw [hz3.1]; exact q)
    have test : ∀ {x : Str} {c : Value} {np : Pos} {Q : Value → Shared → Prop} {E : Value → Shared → Prop}, Names X x c → Q c { s' with heap := h3 } → wpAny (model X.prog X.w) (X.A.mark (some (.ref a))) (eval (.Name x np) X.env) Q E { s' with heap := h3 } := fun {x c np Q E} hc q => by
      obtain ⟨hg, hdbg, hm | ⟨hm, hv, hnn⟩⟩ := hc
      · exact ld_glob (X := X.suite a ((a, oe3) :: (X.pn ++ pins))) S3 hg hm q hdbg
      · exact ld_blt (X := X.suite a ((a, oe3) :: (X.pn ++ pins))) S3 hg hm hv q hnn hdbg
    have go : ∀ {hds' : List ExceptHandler} {l' : List Cls1}, HdsN X hds' l' → wManyN X.K Wout D l' cls d σ' H' →
        wpAny (model X.prog X.w) X.A (handleBy (.ref a) X.env hds') (SP X pins D) X.xe { s' with heap := h3 } := by
      intro hds' l' hk
      induction hk with
      | nil =>
        intro w
        refine wpAny_handleBy_nil ?_
        obtain ⟨k1, k2, k3, oe, vs, T, oT, ts', he, hz, hd, h1, hr⟩ := id fl3
        unfold PySem.passOn
        refine wpAny_bind (wpAny_field he hd h1 ?_)
        rw [if_neg (show ¬ ((Value.ref T == Value.none) = true) from by simp)]
        have fin : wpAny (model X.prog X.w) X.A (setFlight (.ref a) X.env.frame) (fun _ s4 => wpAny (model X.prog X.w) X.A (throw (.ref a) : Sem Flow) (SP X pins D) X.xe s4) X.xe { s' with heap := h3 } := by
          rw [hf]
          refine HandSPX.setFlight_upZ fl3 fun h4 hh4 up4 => wpAny_throw (tk _ _ ?_)
          exact ⟨a, B, sI, pins, σ', H', cls, d, rfl, J, nb, (up.trans up3).trans up4, .inr (.inr (by rw [hs]; exact hh4)), na, os, ag, w⟩
        first
          | exact wpAny_bind (wpAny_pure (wpAny_bind fin))
          | exact wpAny_bind fin
      | @plain x c ts b₀ suite np pos' hds2 l2 hc hsu r ih =>
        intro w
        obtain ⟨b, hb1, hyes, hno⟩ := w
        refine wpAny_handleBy_cons (codeAny_handlers_test ?_) (by intro q; cases q)
        have LM := PySem.W.exm_one (M := model X.prog X.w) (J3.kIn) LT hb1
        refine test hc (LM.here ?_)
        cases b with
        | true =>
          refine codeAny_handlers_suite ?_
          refine HandSPX.lands_againZ fl3 fun h4 fl4 up4 => ?_
          have J4 : Inv X pins σ' H' { s' with heap := h4 } := J.landed nb fl4.1 ((up.trans up3).trans up4) os ag
          obtain ⟨oe4, vs4, he4, hz4, hd4⟩ := fl4.there
          have S4 := J4.suite he4 hd4 na nL nF
          refine wpAny_mono ((hsu a oe4 cls d (X.pn ++ pins) hz4 ⟨_, hd4⟩).run [] _ _ H' _ S4 (hyes rfl a na)) (fun f s6 hsp => ?_) (fun _ _ z => False.elim z)
          cases f with
          | next =>
            obtain ⟨σ6, H6, S6, q6⟩ := hsp
            exact ⟨_, _, S6.unsuite ok, q6⟩
          | brk =>
            obtain ⟨σ6, H6, S6, q6⟩ := hsp
            exact ⟨_, _, S6.unsuite ok, q6⟩
          | cont =>
            obtain ⟨σ6, H6, S6, q6⟩ := hsp
            exact ⟨_, _, S6.unsuite ok, q6⟩
          | ret u =>
            obtain ⟨v6, σ6, H6, S6, r6, q6⟩ := hsp
            exact ⟨_, _, _, S6.unsuite ok, r6, q6⟩
        | false =>
          show wpAny _ X.A (handleBy (.ref a) X.env hds2) _ _ _
          exact ih (hno rfl)
      | @named x n i c ts b₀ suite np pos' hds2 l2 hN hi hln hc hsu r ih =>
        intro w
        obtain ⟨b, hb1, hyes, hno⟩ := w
        refine wpAny_handleBy_cons (codeAny_handlers_test ?_) (by intro q; cases q)
        have LM := PySem.W.exm_one (M := model X.prog X.w) (J3.kIn) LT hb1
        refine test hc (LM.here ?_)
        cases b with
        | true =>
          refine codeAny_handlers_suite_as ?_
          refine HandSPX.lands_againZ fl3 fun h4 fl4 up4 => ?_
          have J4 : Inv X pins σ' H' { s' with heap := h4 } := J.landed nb fl4.1 ((up.trans up3).trans up4) os ag
          obtain ⟨oe4, vs4, he4, hz4, hd4⟩ := fl4.there
          have S4 := J4.suite he4 hd4 na nL nF
          refine store_ok (X := X.suite a ((a, oe4) :: (X.pn ++ pins))) (v := .ref a) S4 hN hi (.inl hln) rfl (fun s5 S5 => ?_) (.inr hln)
          refine wpAny_mono ((hsu a oe4 cls d (X.pn ++ pins) hz4 ⟨_, hd4⟩).run [] s5 _ H' (asEnds i D) S5 (hyes rfl a na)) (fun f s6 hsp => ?_) (fun _ _ z => False.elim z)
          have end_ : ∀ {σ6 : L2.St} {H6 : Hp} {Q : Shared → Prop}, Inv (X.suite a ((a, oe4) :: (X.pn ++ pins))) [] σ6 H6 s6 → (∀ s7, Inv X pins (σ6.set i none) H6 s7 → Q s7) →
              wpAny (model X.prog X.w) X.A (do bindName X.env n .none; unbindBehindTheSuite X.env n pos') (fun _ s7 => Q s7) X.xe s6 := fun {σ6 H6 Q} S6 hq => gone_ok (S6.unsuite ok) hN hi hln hq
          cases f with
          | next =>
            obtain ⟨σ6, H6, S6, q6⟩ := hsp
            exact end_ S6 fun s7 J7 => ⟨_, _, J7, q6⟩
          | brk =>
            obtain ⟨σ6, H6, S6, q6⟩ := hsp
            exact end_ S6 fun s7 J7 => ⟨_, _, J7, q6⟩
          | cont =>
            obtain ⟨σ6, H6, S6, q6⟩ := hsp
            exact end_ S6 fun s7 J7 => ⟨_, _, J7, q6⟩
          | ret u =>
            obtain ⟨v6, σ6, H6, S6, r6, q6⟩ := hsp
            exact end_ S6 fun s7 J7 => ⟨_, _, _, J7, r6, q6⟩
        | false =>
          show wpAny _ X.A (handleBy (.ref a) X.env hds2) _ _ _
          exact ih (hno rfl)
    exact go hh w
  · cases f with
    | next =>
      obtain ⟨σ', H', J', q⟩ := hsp
      exact wpAny_execs_nil ⟨σ', H', J'.ofTry ok, q⟩
    | brk =>
      obtain ⟨σ', H', J', q⟩ := hsp
      exact ⟨σ', H', J'.ofTry ok, q⟩
    | cont =>
      obtain ⟨σ', H', J', q⟩ := hsp
      exact ⟨σ', H', J'.ofTry ok, q⟩
    | ret u =>
      obtain ⟨v, σ', H', J', r, q⟩ := hsp
      exact ⟨v, σ', H', J'.ofTry ok, r, q⟩
end
end K71
set_option maxRecDepth 100000
set_option maxHeartbeats 4000000
/-! Own rules 10: a lambda with one parameter, called in the def that got it. -/
namespace K71
open PySem PySem.Spec PyProof.Rows L2 LamX NdefX
theorem cells_un {cl : List (Str × Addr)} {fr : List Str} {ws : List (Option V)} {h h' : Heap} {H H' : Hp} {fs : List Addr} (C : CellsAt cl fr ws h H) (un : Un fs [] H H' h h') : CellsAt cl fr ws h' H' := by
  have kp : ∀ y c, cl.lookup y = some c → ∀ v, h.IsCell c v → h'.IsCell c v := fun y c e v ⟨o, ho, hd⟩ => by
    obtain ⟨sl, q⟩ := un.any ho (C.all y c e).1 (by simp)
    exact ⟨_, q, hd⟩
  refine ⟨C.len, fun y c e => ?_, C.inj, fun i y e => ?_⟩
  · obtain ⟨n, v, z⟩ := C.all y c e
    refine ⟨?_, v, kp y c e v z⟩
    obtain ⟨o, ho, _⟩ := z
    exact un.free c o ho n (by simp)
  · obtain ⟨c, hc, hv⟩ := C.has i y e
    refine ⟨c, hc, fun v ev => ?_⟩
    obtain ⟨u, r, z⟩ := hv v ev
    exact ⟨u, r, kp y c hc _ z⟩
abbrev lamF (q : Str) (params : Arguments) (scope : Scope) (cl : List (Str × Addr)) (c' : Addr) : NF := ⟨"<lambda>", q, params, [], scope, cl, c'⟩
section
variable {X : Cx} {pins : List (Addr × Obj)} {σ : L2.St} {H : Hp} {s : Shared}
/-- a(b), in the def that got the lambda at its call: that def was entered at s -/
theorem pe_actP {CXg : CXT} {Eg : XK} {Ng NL : List Str} {qg q : Str} {sg : Scope} {g f c' : Addr} {cdg pm ctv : Value} {params : Arguments} {body : Expr} {scope : Scope} {cl : List (Str × Addr)} {fr : List Str} {ws : List (Option V)} {k i j : Nat} {a b x : Str} {pn : List (Addr × Obj)} {xe : Value → Shared → Prop} {W : WX} {tb : XK → TE} {p1 p2 p3 : Pos}
    (I : Inv X pins σ H s) (S : NScope NL [x] fr scope) (hf : s.heap.get? f = some (PySem.W.kla_obj "<lambda>" q params body scope cl pm c' ctv)) (hfn : H f = none) (hfr : f ∉ frs X.stack) (C : CellsAt cl fr ws s.heap H)
    (hbind : ∀ u, bindArgs (PySem.W.kla_fn "<lambda>" q params body scope cl pm (.ref c') ctv) ⟨[u], []⟩ = pure [(x, u)])
    (tk : L2N.Takes ((cxOf CXg X.prog X.w X.K X.mg X.base Ng qg sg g cdg X.A X.stack s H Eg).tr pn xe) W) (hr : Room (k + 1) (X.A.deeper (envOfC qg sg s.heap.objs.size g cdg)))
    (hbody : ∀ (A : Around) (outer : List Env) (s1 : Shared) (H1 : Hp) (E : XK), Room k (A.deeper (envF (lamF q params scope cl c') f s1.heap.objs.size)) → PE (ncx (L2N.CX X.prog X.w) X.prog X.w X.K X.mg X.base NL (lamF q params scope cl c') f A outer s1 H1 E) body (tb E))
    (hN : Ng[i]? = some a) (hv : Vis sg a) (hN2 : Ng[j]? = some b) (hv2 : Vis sg b) (hd : (a == ("__debug__" : Str)) = false := by decide) (hcd : (a == ("__classdict__" : Str)) = false := by decide) (hd2 : (b == ("__debug__" : Str)) = false := by decide) (hcd2 : (b == ("__classdict__" : Str)) = false := by decide) :
    PE ((cxOf CXg X.prog X.w X.K X.mg X.base Ng qg sg g cdg X.A X.stack s H Eg).tr pn xe) (.Call (.Name a p1) [.Name b p2] [] p3)
      (fun σZ HZ Q => σZ[i]? = some (some (.ref f)) ∧ ∃ v, σZ[j]? = some (some v) ∧ HZ c' = some (CodeO c' q) ∧ tb (fun cls d H' => W cls d σZ H') (startF NL [v] ws) HZ Q) := by
  refine ⟨fun pinsZ sZ σZ HZ Q IZ h => ?_⟩
  obtain ⟨hs, v, hv1, hc, ht⟩ := h
  refine wpAny_Call_Name_kw (thn ((pe_var (pos := p1) (i := i) hN hv hd hcd).run pinsZ sZ σZ HZ (fun v H1 => v = .ref f ∧ H1 = HZ) IZ ⟨.ref f, hs, rfl, rfl⟩) fun u s1 ⟨v0, H1, I1, r1, q1⟩ => ?_)
  obtain ⟨ev, eH⟩ := q1
  subst ev
  rw [eH] at I1
  obtain rfl : u = Value.ref f := r1
  have at_ : ∀ {s1 : Shared}, Inv ((cxOf CXg X.prog X.w X.K X.mg X.base Ng qg sg g cdg X.A X.stack s H Eg).tr pn xe) pinsZ σZ HZ s1 → s1.heap.get? f = some (PySem.W.kla_obj "<lambda>" q params body scope cl pm c' ctv) := fun {s1} I1 =>
    I1.base.keep f _ hf hfn hfr (fun z => nomatch (show f ∈ ([] : List Addr) from z))
  refine PySem.W.callWith_F (first := []) ⟨_, _, _, _, at_ I1⟩ (thn ((pa_cons (pe_var (pos := p2) (i := j) hN2 hv2 hd2 hcd2) pa_nil (by rfl)).run p3 pinsZ s1 σZ HZ (fun vs H1 => vs = [v] ∧ H1 = HZ) I1 ⟨v, hv1, rfl, rfl⟩) fun us s2 ⟨vs, H2, I2, r, e1, e2⟩ => ⟨⟨_, _, _, _, at_ (by rw [e2] at I2; exact I2)⟩, ?_⟩) (by rfl) (by rfl)
  subst e1
  rw [e2] at I2
  obtain ⟨u, rfl, ru⟩ := vals1 r
  show wpAny _ _ (call (.ref f) [u]) _ _ _
  have of2 := at_ I2
  have un : Un (frs X.stack) [] H HZ s.heap s2.heap := I2.base
  have C2 : CellsAt cl fr ws s2.heap HZ := cells_un C un
  obtain ⟨⟨oc, vs, t, hoc, hdc, hvc⟩, _, _⟩ := I2.hok c' _ hc
  have lim : s2.heap.NoLimit := I2.nolimit
  have rc : codeAny (model X.prog X.w) (X.A.deeper (envOfC qg sg s.heap.objs.size g cdg)) (.call (.ref f) ⟨[u], []⟩) (CR (L2N.CX X.prog X.w) (envOfC qg sg s.heap.objs.size g cdg :: X.stack) X.prog X.w HZ s2 Q (fun cls d H' => W cls d σZ H')) s2 := by
    refine PySem.W.kla_callFunE hr.depth of2 rfl S.co S.gen rfl ⟨c', oc, vs, t, rfl, hoc, hdc, hvc⟩ ?_
    rw [hbind u]
    refine wpAny_pure (wpAny_newFunctionEnv S.nocell (fun ⟨n, _⟩ hy => by
      have e : n = x := by
        have := List.mem_singleton.mp hy
        exact (Prod.mk.inj this).1
      rw [e]
      exact S.par x (List.mem_singleton.mpr rfl)) (fun h₁ hns hsb => ⟨lim.fresh _ hsb, ?_⟩) S.kind)
    show codeAny _ _ (.expr body (envF (lamF q params scope cl c') f s2.heap.objs.size)) _ _
    have kp : ∀ b o, s2.heap.get? b = some o → h₁.get? b = some o := fun b o e => hsb.extBut b o (Nat.ne_of_lt (Heap.lt_size e)) (Heap.get?_push_of_some _ e)
    have J : Inv (ncx (L2N.CX X.prog X.w) X.prog X.w X.K X.mg X.base NL (lamF q params scope cl c') f (X.A.deeper (envOfC qg sg s.heap.objs.size g cdg)) (envOfC qg sg s.heap.objs.size g cdg :: X.stack) s2 HZ (fun cls d H' => W cls d σZ H')) [] (startF NL [v] ws) HZ { s2 with heap := h₁, toks := s2.toks + ([(x, u)] : List (Str × Value)).length } :=
      inv_startN (F := lamF q params scope cl c') (us := [u]) S hr.hd I2.env0 rfl (.cons ru .nil) C2 hns kp
    refine PySem.W.kla_codeExpr (wpAny_mono ((hbody _ _ s2 HZ _ (hr.deeper _)).run [] _ _ HZ Q J ht) (fun v s' hq => ?_) fun e s' hq => hq)
    obtain ⟨w', H', J', rv, q⟩ := hq
    exact ⟨w', H', J'.os, J'.bare, J'.base, J'.hok, rv, q⟩
  refine wpAny_call (codeAny_mono rc fun r s' hq => ?_)
  cases r with
  | error e => exact tk e s' (L2N.XE.of_call I2 (fun _ _ _ z => z) hq)
  | ok fl =>
    cases fl with
    | ret u => exact I2.after hq
    | next => exact False.elim hq
    | brk => exact False.elim hq
    | cont => exact False.elim hq
end
end K71
set_option maxRecDepth 100000
set_option maxHeartbeats 4000000
/-! Own rules 11: o.m(e, k = lambda x: ..). -/
namespace K71
open PySem PySem.Spec PyProof.Rows L2 LamX NdefX
/-- the reading; tE: what the call asks, told the lambda's address f, its code c', the captured values ws -/
def tCallL (K : PySem.W.Frag) (C : Addr) (m : Str) (T : List (Addr × Str)) (q : Str) (js : List Nat) (to : TE) (ta : TA) (TT : Addr → Addr → List (Option V) → V → V → L2.St → Hp → VK → Prop) : TE := fun σ H Q => to σ H fun x H1 => ∃ a dx fs, x = .ref a ∧ H1 a = some (.ins C dx fs) ∧ fs.lookup m = none ∧
  ta σ H1 fun vs H2 => ∃ v, vs = [v] ∧ Tabs T H2 ∧ ∀ (f c' : Addr) (H3 : Hp), ExtN H2 H3 → Tabs T H3 → H3 f = none → H3 c' = some (CodeO c' q) → TT f c' (js.map (slotAt σ)) x v σ H3 Q
section
variable {X : Cx} {W : WX}
theorem pe_callL {C fm c P : Addr} {m kw : Str} {T : List (Addr × Str)} {k : Nat} {params pm0 : Arguments} {bm : List Stmt} {body e o : Expr} {scope sm : Scope} {nm qm : Str} {dV kV doc pmv cdv ct oc : Value} {an od : Option Addr} {osl : Array (Option Value)} {Ng ps fr : List Str} {js : List Nat} {lpos kpos pos apos : Pos} {to : TE} {ta : TA} {x : Str}
    {TT : Addr → Addr → List (Option V) → V → V → L2.St → Hp → VK → Prop} {pl : Sem Bool}
    (ho : PE X o to) (cC : Cls X.K C) (hm : Meth X.K C m fm) (ha : PA X [e] ta)
    (lk : X.K.lookup fm = some ⟨oc, od, .func (PySem.W.fnOf nm qm pm0 bm sm dV kV doc pmv an cdv ct), osl⟩) (hcg : PySem.W.codeIn X.K cdv qm = true) (Sg : FnScope Ng ps sm) (hps : ps.length = 3)
    (hb : ∀ (s : Shared) (us : List Value) (u : Value), X.K.In s.heap → us.length = 2 → BindsTo s (PySem.W.fnOf nm qm pm0 bm sm dV kV doc pmv an cdv ct) ⟨us, [(kw, u)]⟩ (ps.zip (us ++ [u])))
    (tk : L2N.Takes X W) (hr : Room (k + 1) X.A)
    (TB : TabB X.base X.mg c P) (hcode : X.env.code = .ref c) (hmT : (P, X.env.qual ++ "<lambda>") ∈ T) (hu : ∀ p ∈ T, p.1 = P → p.2 = X.env.qual ++ "<lambda>") (hdef : defaultsOf params X.env = ([], []))
    (hfree : ∀ y ∈ scope.names, y.2 = .free → X.env.scope.names.lookup y.1 = some .cell ∨ X.env.scope.names.lookup y.1 = some .free) (hfr : ∀ y ∈ fr, (y, NameKind.free) ∈ scope.names) (hjs : js.map (fun j => X.N[j]?) = fr.map some)
    (hG : ∀ (pins : List (Addr × Obj)) (s : Shared) (σ : L2.St) (H : Hp) (f c' : Addr) (pv ctv : Value) (x v : V) (Q : VK), Inv X pins σ H s → s.heap.get? f = some (PySem.W.kla_obj "<lambda>" (X.env.qual ++ "<lambda>") params body scope (cloFrom X.env.cells scope.names []) pv c' ctv) → H f = none → f ∉ frs X.stack →
      CellsAt (cloFrom X.env.cells scope.names []) fr (js.map (slotAt σ)) s.heap H → Room k (X.A.deeper (envOfC qm sm s.heap.objs.size fm cdv)) → TT f c' (js.map (slotAt σ)) x v σ H Q →
      ∃ (E : XK) (t : TS), (∀ cls d H', E cls d H' → W cls d σ H') ∧ PSs (cxOf (L2N.CX X.prog X.w) X.prog X.w X.K X.mg X.base Ng qm sm fm cdv X.A X.stack s H E) bm t ∧ t { nx := fun _ H' => Q .non H', rt := Q } (L2.start Ng [x, v, .ref f]) H)
    (hst : starEach (e :: []) X.env = (false, eval e X.env) :: starEach [] X.env := by rfl)
    (hpl : ((backTo pos (starEach (e :: []) X.env)).any (·.1) || (backToKw pos (keywordEach [⟨some kw, .Lambda params body scope lpos, kpos⟩] X.env)).any (·.1.isNone)) = false := by rfl)
    (ht : eval (.Call (.Attribute o m apos) [e] [⟨some kw, .Lambda params body scope lpos, kpos⟩] pos) X.env = (do
      let ov ← eval o X.env
      standAt apos.atName
      let (f, first) ← holding [ov] (getMethod ov m pl)
      callWith pos f first (backTo pos (starEach [e] X.env)) (backToKw pos (keywordEach [⟨some kw, .Lambda params body scope lpos, kpos⟩] X.env))) := by rfl) :
    PE X (.Call (.Attribute o m apos) [e] [⟨some kw, .Lambda params body scope lpos, kpos⟩] pos) (tCallL X.K C m T (X.env.qual ++ "<lambda>") js to ta TT) := by
  refine ⟨fun pins s σ H Q I h => ?_⟩
  refine PySem.W.methodCall_KW (pl := pl) (thn (ho.run pins s σ H _ I h) fun u s1 ⟨x, H1, I1, rx, a, dx, fs, ex, ea, l, q⟩ => ?_) ht
  subst ex
  obtain rfl : u = Value.ref a := rx
  refine getmeth_ok I1 ea cC hm l ?_
  refine PySem.W.callWith_KW (first := [.ref a]) (h₀ := X.base) I.ok.mod.kin hm.kp (by rfl) (thn (ha.run pos pins s1 σ H1 _ I1 q) fun us s2 ⟨vs, H2, I2, r, v, ev, hT, q2⟩ => ?_) hpl hst
  subst ev
  obtain ⟨u, rfl, ru⟩ := vals1 r
  show wpAny _ _ (evalAll [do let v ← eval (.Lambda params body scope lpos) X.env; standAt pos; pure v]) _ _ _
  simp only [evalAll]
  refine wpAny_bind (wpAny_bind (lam_make2 I2 TB hcode hmT hu hT hdef (fun y hy e => (hfree y hy e).elim (fun z => I2.ok.has _ (.inl z)) fun z => I2.ok.has _ (.inr z)) fun f c' pmw ctv H3 s3 I3 eN T3 hf hfn hfr' hco => ?_))
  refine wpAny_bind (wpAny_standAt (wpAny_pure (wpAny_bind (wpAny_holding (wpAny_pure (wpAny_pure ⟨I3.kIn, ?_⟩))))))
  have C3 : CellsAt (cloFrom X.env.cells scope.names []) fr (js.map (slotAt σ)) s3.heap H3 := cells_of I3 (Caps.made I3.ok hfree hfr hjs)
  show wpAny _ _ (call (.ref fm) [.ref a, u] [(kw, .ref f)]) _ _ _
  have q3 := q2 f c' H3 eN T3 hfn hco
  have rz : Vals [V.ref a, v, V.ref f] [Value.ref a, u, Value.ref f] := .cons rfl (.cons ru (.cons rfl .nil))
  have rc : ∃ E : XK, (∀ cls d H', E cls d H' → W cls d σ H') ∧ codeAny (model X.prog X.w) X.A (.call (.ref fm) ⟨[.ref a, u], [(kw, .ref f)]⟩) (CR (L2N.CX X.prog X.w) X.stack X.prog X.w H3 s3 Q E) s3 := by
    obtain ⟨E, t, hE, hP, hQ⟩ := hG pins s3 σ H3 f c' pmw ctv (.ref a) v Q I3 hf hfn hfr' C3 (hr.deeper _) q3
    refine ⟨E, hE, run_ofS (N := Ng) (ps := ps) (us := [.ref a, u, .ref f]) (vs := [.ref a, v, .ref f]) lk hcg Sg hr I3.env0 (hb s3 [.ref a, u] (.ref f) I3.kIn rfl) rz hps.symm fun _ => ⟨t, hP, hQ⟩⟩
  obtain ⟨E, hE, rc⟩ := rc
  refine wpAny_call (codeAny_mono rc fun r s' hq => ?_)
  cases r with
  | error e => exact tk e s' (L2N.XE.of_call I3 hE hq)
  | ok fl =>
    cases fl with
    | ret u => exact I3.after hq
    | next => exact False.elim hq
    | brk => exact False.elim hq
    | cont => exact False.elim hq
end
end K71
set_option maxRecDepth 100000
set_option maxHeartbeats 4000000
/-! The plain side: rings, instructions, contents; where they stand. -/
namespace K71
open PySem PySem.Spec PyProof.Rows L2 SX
/-! ### calls -/
section
variable {P : Program} {w : World} {K : PySem.W.Frag} {mg : Str → Option Value} {base : Heap} {x qual : Str} {params : Arguments} {body : List Stmt} {scope : Scope} {dvs : List V} {kws : List (Str × V)} {f : Addr} {fd : FuncData} {N ps : List Str} {k : Nat} {sp : Sp}
/-- a def that lets no exception out, by its body -/
theorem fok (F : FunD K x qual params body scope dvs kws f fd) (S : FnScope N ps scope) (len : ∀ vs H Q E, sp vs H Q E → vs.length = ps.length)
    (hbody : ∀ (cdv : Value) (A : Around) (outer : List Env) (s : Shared) (H : Hp) (vs : List V) (Q : VK) (E : XK), Room k (A.deeper (envOfC qual scope s.heap.objs.size f cdv)) → sp vs H Q E →
      ∃ t, PSs (cxOf C8.CX0 P w K mg base N qual scope f cdv A outer s H E).nox body t ∧ t { nx := fun _ H' => Q .non H', rt := Q } (start N vs) H) : FnOk P w K mg base C8.CX0 (k + 1) f fd ps sp :=
  F.ok S len fun cdv A outer s H vs Q E hr h => by
    obtain ⟨t, h1, q⟩ := hbody cdv A outer s H vs Q E hr h
    exact ⟨t, h1.nox, q⟩
theorem len1 {α : Type} {l : List α} (h : l.length = 1) : ∃ a, l = [a] := by
  match l, h with
  | [a], _ => exact ⟨a, rfl⟩
theorem len2 {α : Type} {l : List α} (h : l.length = 2) : ∃ a b, l = [a, b] := by
  match l, h with
  | [a, b], _ => exact ⟨a, b, rfl⟩
theorem len3 {α : Type} {l : List α} (h : l.length = 3) : ∃ a b c, l = [a, b, c] := by
  match l, h with
  | [a, b, c], _ => exact ⟨a, b, c, rfl⟩
theorem len4 {α : Type} {l : List α} (h : l.length = 4) : ∃ a b c d, l = [a, b, c, d] := by
  match l, h with
  | [a, b, c, d], _ => exact ⟨a, b, c, d, rfl⟩
theorem len5 {α : Type} {l : List α} (h : l.length = 5) : ∃ a b c d e, l = [a, b, c, d, e] := by
  match l, h with
  | [a, b, c, d, e], _ => exact ⟨a, b, c, d, e, rfl⟩
theorem len6 {α : Type} {l : List α} (h : l.length = 6) : ∃ a b c d e g, l = [a, b, c, d, e, g] := by
  match l, h with
  | [a, b, c, d, e, g], _ => exact ⟨a, b, c, d, e, g, rfl⟩
end
/-! ### the heap: what is kept -/
/-- all that stood stands, but for the addresses in S -/
def Kp (S : List Addr) (H H' : Hp) : Prop := ∀ b o, H b = some o → b ∉ S → H' b = some o
abbrev Ext (H H' : Hp) : Prop := Kp [] H H'
theorem Kp.refl {S : List Addr} {H : Hp} : Kp S H H := fun _ _ h _ => h
theorem Ext.refl {H : Hp} : Ext H H := Kp.refl
theorem Kp.trans {S : List Addr} {H H1 H2 : Hp} (a : Kp S H H1) (b : Kp S H1 H2) : Kp S H H2 := fun c o h n => b c o (a c o h n) n
theorem Kp.mono {S S' : List Addr} {H H' : Hp} (a : Kp S H H') (h : ∀ b ∈ S, b ∈ S') : Kp S' H H' := fun c o e n => a c o e fun z => n (h c z)
theorem Ext.kp {S : List Addr} {H H' : Hp} (a : Ext H H') : Kp S H H' := a.mono fun _ h => nomatch h
theorem Ext.new {H : Hp} {p : Addr} {o : HO} (h : H p = none) : Ext H (upd H p o) := fun b u e _ => by
  rw [upd_ne (ne_of_none e h)]
  exact e
theorem Kp.set {H : Hp} {p : Addr} {o : HO} {S : List Addr} (h : p ∈ S) : Kp S H (upd H p o) := fun b u e n => by
  rw [upd_ne (fun z => n (by rw [z]; exact h))]
  exact e
theorem Kp.at {H H' : Hp} (k : Ext H H') {b : Addr} {o : HO} (h : H b = some o) : H' b = some o := k b o h (by simp)
theorem Kp.trans' {H H1 H2 : Hp} (a : Ext H H1) (b : Ext H1 H2) : Ext H H2 := Kp.trans a b
theorem Kp.newer {H H1 : Hp} {p : Addr} {o : HO} (k : Ext H H1) (h : H1 p = none) : Ext H (upd H1 p o) := k.trans' (Ext.new h)
/-- of unlike kinds -/
theorem addr_ne {H : Hp} {a b : Addr} {o u : HO} (h1 : H a = some o) (h2 : H b = some u) (h : o ≠ u) : a ≠ b := fun z => by
  rw [z, h2] at h1
  exact h (Option.some.inj h1).symm
/-! ### numbers in tuples -/
abbrev nums (l : List Nat) : List V := l.map fun (k : Nat) => V.int (k : Int)
abbrev cstr (c : Nat) : V := .str (S [c])
/-! ### rings -/
structure RD where
  n : Nat
  lk : List Nat
  wl : List Nat
  pr : List Nat
structure RD.Ok (r : RD) : Prop where
  lo : 2 ≤ r.n
  hi : r.n ≤ 12
  lk : ∀ k ∈ r.lk, k < r.n
  lks : r.lk.Pairwise (· < ·)
  wl : ∀ k ∈ r.wl, k < r.n
  wls : r.wl.Pairwise (· < ·)
  prn : r.pr.length = r.n
  pr : ∀ k ∈ r.pr, 1 ≤ k ∧ k ≤ 999
theorem sorted_len_from : ∀ {l : List Nat} {m n : Nat}, (∀ k ∈ l, m ≤ k ∧ k < n) → l.Pairwise (· < ·) → m ≤ n → l.length + m ≤ n
  | [], _, _, _, _, hm => by simpa using hm
  | a :: l, m, n, h, p, hm => by
    obtain ⟨p1, p2⟩ := List.pairwise_cons.mp p
    have ha := h a (by simp)
    have ih := sorted_len_from (l := l) (m := a + 1) (n := n) (fun k hk => ⟨p1 k hk, (h k (by simp [hk])).2⟩) p2 (by omega)
    simp only [List.length_cons]
    omega
theorem sorted_len {l : List Nat} {n : Nat} (h : ∀ k ∈ l, k < n) (p : l.Pairwise (· < ·)) : l.length ≤ n := sorted_len_from (m := 0) (fun k hk => ⟨Nat.zero_le _, h k hk⟩) p (Nat.zero_le _)
/-- the fields as __init__ sets them -/
abbrev ringF (n : Nat) (la wa pa : Addr) : List (Str × V) := [("size", .int (n : Int)), ("locks", .ref la), ("walls", .ref wa), ("prices", .ref pa)]
structure RingP (K : PySem.W.Frag) (H : Hp) (a : Addr) (r : RD) (dx la wa pa : Addr) : Prop where
  at_ : H a = some (.ins (ga K "Ring") dx (ringF r.n la wa pa))
  la : H la = some (.tup (nums r.lk))
  wa : H wa = some (.tup (nums r.wl))
  pa : H pa = some (.tup (nums r.pr))
  ok : r.Ok
def RingAt (K : PySem.W.Frag) (H : Hp) (a : Addr) (r : RD) : Prop := ∃ dx la wa pa, RingP K H a r dx la wa pa
/-- an exception-free address is none of those in S -/
theorem RingP.kp {K : PySem.W.Frag} {H H' : Hp} {a : Addr} {r : RD} {dx la wa pa : Addr} {S : List Addr} (h : RingP K H a r dx la wa pa) (k : Kp S H H') (na : a ∉ S) (nt : ∀ t ∈ [la, wa, pa], t ∉ S) : RingP K H' a r dx la wa pa :=
  ⟨k _ _ h.at_ na, k _ _ h.la (nt _ (by simp)), k _ _ h.wa (nt _ (by simp)), k _ _ h.pa (nt _ (by simp)), h.ok⟩
theorem RingAt.ext {K : PySem.W.Frag} {H H' : Hp} {a : Addr} {r : RD} (h : RingAt K H a r) (k : Ext H H') : RingAt K H' a r := by
  obtain ⟨dx, la, wa, pa, h⟩ := h
  exact ⟨dx, la, wa, pa, h.kp k (by simp) (by simp)⟩
/-! ### instructions: the place, and whether the left one is copied -/
abbrev Ins := Nat × Bool
def sideS (b : Bool) : Str := if b then "left" else "right"
abbrev insV (i : Ins) : List V := [.int (i.1 : Int), .str (sideS i.2)]
def InsAt (H : Hp) (a : Addr) (i : Ins) : Prop := H a = some (.tup (insV i))
def srcOf (n : Nat) (i : Ins) : Nat := if i.2 then (i.1 + n - 1) % n else (i.1 + 1) % n
theorem srcOf_lt {n : Nat} {i : Ins} (h : 0 < n) : srcOf n i < n := by
  unfold srcOf
  split <;> exact Nat.mod_lt _ h
/-- allowed in the ring -/
def InsOk (r : RD) (i : Ins) : Prop := i.1 < r.n ∧ i.1 ∉ r.lk ∧ (if i.2 then (i.1 + r.n - 1) % r.n else i.1) ∉ r.wl
/-- one copy -/
def cp {α : Type} (n : Nat) (l : List α) (i : Ins) : List α := match l[srcOf n i]? with
  | some x => l.set i.1 x
  | none => l
theorem cp_len {α : Type} {n : Nat} {l : List α} {i : Ins} : (cp n l i).length = l.length := by
  unfold cp
  split <;> simp
theorem cp_eq {α : Type} {n : Nat} {l : List α} {i : Ins} (hl : l.length = n) (hn : 0 < n) : ∃ x, l[srcOf n i]? = some x ∧ cp n l i = l.set i.1 x := by
  have h : srcOf n i < l.length := by rw [hl]; exact srcOf_lt hn
  refine ⟨l[srcOf n i], by simp [h], ?_⟩
  unfold cp
  rw [List.getElem?_eq_getElem h]
theorem cp_map {α β : Type} {f : α → β} {n : Nat} {l : List α} {i : Ins} : (cp n l i).map f = cp n (l.map f) i := by
  unfold cp
  rw [List.getElem?_map]
  cases l[srcOf n i]? <;> simp [List.map_set]
def run {α : Type} (n : Nat) (l : List α) (is : List Ins) : List α := is.foldl (cp n) l
theorem run_len {α : Type} {n : Nat} : ∀ {is : List Ins} {l : List α}, (run n l is).length = l.length
  | [], _ => rfl
  | i :: is, l => (run_len (is := is) (l := cp n l i)).trans cp_len
theorem run_snoc {α : Type} {n : Nat} {l : List α} {is : List Ins} {i : Ins} : run n l (is ++ [i]) = cp n (run n l is) i := by
  unfold run
  rw [List.foldl_append] <;> rfl
theorem run_map {α β : Type} {f : α → β} {n : Nat} : ∀ {is : List Ins} {l : List α}, (run n l is).map f = run n (l.map f) is
  | [], _ => rfl
  | i :: is, l => by
    show (run n (cp n l i) is).map f = run n (cp n (l.map f) i) is
    rw [run_map, cp_map]
end K71
set_option maxRecDepth 100000
set_option maxHeartbeats 4000000
/-! Helpers of the readings: comprehensions, walks, three comparisons in a chain. -/
namespace K71
open PySem PySem.Spec PyProof.Rows L2 SX
section
variable {K : PySem.W.Frag} {a b : Addr} {xs ys : List V}
theorem walk_enumT : Walk (IteT K a) xs.length (fun H => SqT K H a xs) (YPair (fun i => some (.int (i : Nat))) (fun i => xs[i]?)) := by
  refine ⟨fun i _ hi q => ⟨xs, xs[i], q, by simp [hi]⟩, fun _ q => ⟨xs, q, Nat.le_refl _⟩, fun i H v H' _ q y => ?_⟩
  obtain ⟨T, x, h1, h2, h3, h4⟩ := y
  exact ⟨T, .int (i : Nat), x, h1, h2, h3, rfl, h4 xs q⟩
theorem walk_zipT {n : Nat} (hn : n = min xs.length ys.length) : Walk (RZ.ItzT K a b) n (fun H => SqT K H a xs ∧ SqT K H b ys) (YPair (fun i => xs[i]?) (fun i => ys[i]?)) := by
  subst hn
  refine ⟨fun i _ hi q => ?_, fun _ q => ⟨xs, ys, q.1, q.2, by omega⟩, fun i H v H' _ q y => ?_⟩
  · have h1 : i < xs.length := by omega
    have h2 : i < ys.length := by omega
    exact ⟨xs, ys, xs[i], ys[i], q.1, q.2, by simp [h1], by simp [h2]⟩
  · obtain ⟨T, x, z, h1, h2, h3, h4, h5⟩ := y
    exact ⟨T, x, z, h1, h2, h3, h4 xs q.1, h5 ys q.2⟩
end
theorem u64 {j : Nat} {A : Around} (hr : Room j A) : A.units + 64 < cLine := by
  have := hr.un
  omega
/-- within a comprehension: R of what is made so far, Iv of the heap (not of the new list at D) -/
def LcP (S : List Addr) (Iv : Hp → Prop) (R : Nat → List V → Prop) (H1 : Hp) (D : Addr) (i : Nat) (H : Hp) : Prop := ∃ acc, acc.length ≤ i ∧ R i acc ∧ H D = some (.lst acc) ∧ Kp S H1 H ∧ Iv H
section
variable {S : List Addr} {Iv : Hp → Prop} {R : Nat → List V → Prop} {H1 H : Hp} {D : Addr} {i : Nat} {acc : List V} {y : V}
theorem kp_new {l : List V} (hD : H1 D = none) (k : Kp S H1 H) : Kp S H1 (upd H D (.lst l)) := fun b o e m => by
  rw [upd_ne (ne_of_none e hD)]
  exact k b o e m
theorem LcP.zero (hD : H1 D = none) (r : R 0 []) (v : Iv (upd H1 D (.lst []))) : LcP S Iv R H1 D 0 (upd H1 D (.lst [])) := ⟨[], Nat.le_refl _, r, upd_same, kp_new hD Kp.refl, v⟩
theorem LcP.add (hD : H1 D = none) (hi : i < sizeLine) (hl : acc.length ≤ i) (e : H D = some (.lst acc)) (k : Kp S H1 H) (v : Iv (upd H D (.lst (acc ++ [y])))) (r : R (i + 1) (acc ++ [y])) :
    ∃ acc, H D = some (.lst acc) ∧ acc.length < sizeLine ∧ LcP S Iv R H1 D (i + 1) (upd H D (.lst (acc ++ [y]))) :=
  ⟨acc, e, by omega, acc ++ [y], by simp; omega, r, upd_same, kp_new hD k, v⟩
theorem LcP.keep (hl : acc.length ≤ i) (e : H D = some (.lst acc)) (k : Kp S H1 H) (v : Iv H) (r : R (i + 1) acc) : LcP S Iv R H1 D (i + 1) H := ⟨acc, by omega, r, e, k, v⟩
end
/-- a comprehension without a test -/
theorem yes {σ : L2.St} {H : Hp} {A B : Hp → Prop} (h : A H) : tYes σ H fun b H3 => if b = true then A H3 else B H3 := h
/-- nothing is told of the heap -/
abbrev IvT : Hp → Prop := fun _ => True
/-- what is made: f of the place -/
def RF (f : Nat → V) : Nat → List V → Prop := fun i acc => acc = (List.range i).map f
theorem RF.zero {f : Nat → V} : RF f 0 [] := rfl
theorem RF.add {f : Nat → V} {i : Nat} {acc : List V} {y : V} (r : RF f i acc) (e : y = f i) : RF f (i + 1) (acc ++ [y]) := by
  unfold RF at *
  rw [List.range_succ, List.map_append, r, e] <;> rfl
/-- what is made: the first i of ys -/
def RT (ys : List V) : Nat → List V → Prop := fun i acc => acc = ys.take i
theorem RT.zero {ys : List V} : RT ys 0 [] := by simp [RT]
theorem RT.add {ys : List V} {i : Nat} {acc : List V} {y : V} (r : RT ys i acc) (e : ys[i]? = some y) : RT ys (i + 1) (acc ++ [y]) := by
  unfold RT at *
  rw [List.take_add_one, e, r] <;> rfl
theorem RT.full {ys acc : List V} {n : Nat} (r : RT ys n acc) (h : ys.length = n) : acc = ys := by
  rw [r, ← h, List.take_length]
theorem nums_get {l : List Nat} {i : Nat} {y : V} (h : (nums l)[i]? = some y) : ∃ k, l[i]? = some k ∧ y = .int (k : Int) := by
  rw [List.getElem?_map] at h
  cases e : l[i]? with
  | none => rw [e] at h; cases h
  | some k => rw [e] at h; exact ⟨k, rfl, (Option.some.inj h).symm⟩
theorem map_get {α β : Type} {f : α → β} {l : List α} {i : Nat} {y : β} (h : (l.map f)[i]? = some y) : ∃ k, l[i]? = some k ∧ y = f k := by
  rw [List.getElem?_map] at h
  cases e : l[i]? with
  | none => rw [e] at h; cases h
  | some k => rw [e] at h; exact ⟨k, rfl, (Option.some.inj h).symm⟩
/-! ### slices -/
theorem cut_from {xs : List V} {i : Int} (h : 0 ≤ i) : cutV xs (some i) none = xs.drop i.toNat := by
  obtain ⟨k, rfl⟩ := Int.eq_ofNat_of_zero_le h
  unfold cutV
  rw [HT.sIx_nat, HT.sIx_none, Int.toNat_natCast]
  by_cases c : k ≤ xs.length
  · rw [Nat.min_eq_left c, List.take_of_length_le (by rw [List.length_drop]; omega)]
  · rw [Nat.min_eq_right (by omega), List.drop_length, List.drop_of_length_le (by omega), List.take_nil]
theorem cut_to {xs : List V} {i : Int} (h : 0 ≤ i) : cutV xs none (some i) = xs.take i.toNat := by
  obtain ⟨k, rfl⟩ := Int.eq_ofNat_of_zero_le h
  unfold cutV
  rw [HT.sIx_nat, HT.sIx_none, Int.toNat_natCast, List.drop_zero, Nat.sub_zero]
  by_cases c : k ≤ xs.length
  · rw [Nat.min_eq_left c]
  · rw [Nat.min_eq_right (by omega), List.take_length, List.take_of_length_le (by omega)]
/-- the slice of a tuple, whole or new: what it holds -/
theorem slA {K : PySem.W.Frag} {H : Hp} {Q : VK} {a : Addr} {xs : List V} {lo hi : Option Int} (ha : H a = some (.tup xs)) (h : ∀ p H', Ext H H' → H' p = some (.tup (cutV xs lo hi)) → Q (.ref p) H') : rSlA K (.ref a) lo hi H Q := by
  refine ⟨a, xs, rfl, SqT.of ha, fun hw => ?_, fun _ p hp => h p _ (Ext.new hp) upd_same⟩
  refine h a H Ext.refl ?_
  have e : cutV xs lo hi = xs := by
    unfold cutV
    rw [hw.1, hw.2, List.drop_zero, Nat.sub_zero, List.take_length]
  rw [e]
  exact ha
/-- a sum of tuples -/
theorem catA {K : PySem.W.Frag} {H : Hp} {Q : VK} {a b : Addr} {xs ys : List V} (ha : H a = some (.tup xs)) (hb : H b = some (.tup ys)) (hl : xs.length + ys.length ≤ sizeLine) (h : ∀ p H', Ext H H' → H' p = some (.tup (xs ++ ys)) → Q (.ref p) H') : rCatA K (.ref a) (.ref b) H Q := by
  refine ⟨a, b, xs, ys, rfl, rfl, SqT.of ha, SqT.of hb, hl, fun e => ?_, fun _ e => ?_, fun _ _ p hp => h p _ (Ext.new hp) upd_same⟩
  · refine h b H Ext.refl ?_
    rw [e, List.nil_append]
    exact hb
  · refine h a H Ext.refl ?_
    rw [e, List.append_nil]
    exact ha
end K71
set_option maxRecDepth 100000
set_option maxHeartbeats 4000000
/-! Data: tuples of numbers. -/
namespace K71
open PySem PySem.Spec PyProof.Rows L2 SX
abbrev numD (k : Nat) : PyData := .int (k : Int)
abbrev numsD (l : List Nat) : List PyData := l.map numD
section
variable {K : PySem.W.Frag} {H : Hp}
theorem dp_nums : ∀ l : List Nat, DpAll K H (nums l) (numsD l)
  | [] => .nil
  | k :: l => .cons (.int _) (dp_nums l)
theorem canLay_nums : ∀ l : List Nat, PyData.canLayAll0 (numsD l) = true
  | [] => rfl
  | k :: l => by
    show (PyData.canLay0 (.int (k : Int)) && PyData.canLayAll0 (numsD l)) = true
    rw [canLay_nums l] <;> rfl
theorem depth_nums : ∀ l : List Nat, PyData.depthAll (numsD l) = 0
  | [] => rfl
  | k :: l => by
    show max (PyData.depth (.int (k : Int))) (PyData.depthAll (numsD l)) = 0
    rw [depth_nums l] <;> rfl
theorem shaped_nums (l : List Nat) : SeqAt.shaped (.tuple (numsD l)) = true := by
  have h1 : PyData.canLay0 (.tuple (numsD l)) = true := canLay_nums l
  have h2 : PyData.depth (.tuple (numsD l)) = 1 := by
    show PyData.depthAll (numsD l) + 1 = 1
    rw [depth_nums l]
  unfold SeqAt.shaped
  rw [h1, h2] <;> rfl
theorem eqv_nums (l : List Nat) : PyData.eqv (.tuple (numsD l)) (.tuple (numsD l)) = true := SeqAt.eqv_refl _ (SeqAt.canLay_of_shaped (shaped_nums l))
theorem dp_tup {a : Addr} {l : List Nat} (h : H a = some (.tup (nums l))) : Dp K H (.ref a) (.tuple (numsD l)) := .tup (SqT.of h) (dp_nums l)
/-- t == (), t not empty -/
theorem eq_nil {a p : Addr} {l : List Nat} {Q : VK} (h : H a = some (.tup (nums l))) (hp : H p = some (.tup [])) (hl : l ≠ []) (q : Q (.bl false) H) : rEqD K (.ref a) (.ref p) H Q := by
  refine ⟨_, _, dp_tup h, .tup (SqT.of hp) .nil, shaped_nums l, rfl, ?_⟩
  cases l with
  | nil => exact absurd rfl hl
  | cons k l => exact q
end
end K71
set_option maxRecDepth 100000
set_option maxHeartbeats 4000000
/-! Texts: numbers as texts, a ring's text. -/
namespace K71
open PySem PySem.Spec PyProof.Rows L2 SX
abbrev wS (l : List Nat) : V := .str (S l)
abbrev numW (k : Nat) : V := wS (TL.numL k)
theorem numL_len3 {k : Nat} (h : k < 1000) : (TL.numL k).length ≤ 3 := by
  by_cases h1 : k < 10
  · rw [TL.numL_lt h1]
    show 1 ≤ 3
    omega
  · rw [TL.numL_step (by omega), List.length_append]
    by_cases h2 : k / 10 < 10
    · rw [TL.numL_lt h2]
      show 1 + 1 ≤ 3
      omega
    · rw [TL.numL_step (by omega), List.length_append, TL.numL_lt (show k / 10 / 10 < 10 by omega)]
      show 1 + 1 + 1 ≤ 3
      omega
theorem log_small {k : Nat} (h : k ≤ 1000000) : ((k : Int)).natAbs.log2 < 1920 := by
  rw [Int.natAbs_natCast]
  by_cases h0 : k = 0
  · rw [h0]
    decide
  · exact (Nat.log2_lt h0).mpr (Nat.lt_of_le_of_lt h (Nat.lt_of_lt_of_le (show 1000000 < 2 ^ 20 by decide) (Nat.pow_le_pow_right (by decide) (by decide))))
theorem str_num (k : Nat) : (V.str (toString (k : Int)) : V) = numW k := congrArg V.str (num_S k)
theorem sum_le {m : Nat} : ∀ {ws : List (List Nat)}, (∀ w ∈ ws, w.length ≤ m) → ((ws.map S).map (·.length)).sum ≤ m * ws.length
  | [], _ => Nat.zero_le _
  | w :: ws, h => by
    have ih := sum_le (ws := ws) fun x hx => h x (List.mem_cons_of_mem _ hx)
    have h1 := h w (List.mem_cons_self ..)
    show (S w).length + ((ws.map S).map (·.length)).sum ≤ m * (ws.length + 1)
    rw [S_len, Nat.mul_succ]
    omega
/-- the literals, by their codes -/
abbrev lRing : List Nat := [114, 105, 110, 103]
abbrev lLocks : List Nat := [108, 111, 99, 107, 115]
abbrev lWalls : List Nat := [119, 97, 108, 108, 115]
abbrev lPrices : List Nat := [112, 114, 105, 99, 101, 115]
theorem eRing : (("ring" : String) : Str) = S lRing := by decide +kernel
theorem eLocks : (("locks" : String) : Str) = S lLocks := by decide +kernel
theorem eWalls : (("walls" : String) : Str) = S lWalls := by decide +kernel
theorem ePrices : (("prices" : String) : Str) = S lPrices := by decide +kernel
theorem eSpace : ((" " : String) : Str) = S [32] := by decide +kernel
theorem eNil : (("" : String) : Str) = S [] := by decide +kernel
abbrev words1 (r : RD) : List (List Nat) := [lRing, TL.numL r.n, lLocks] ++ r.lk.map TL.numL
abbrev words2 (r : RD) : List (List Nat) := words1 r ++ [lWalls] ++ r.wl.map TL.numL
def wordsOf (r : RD) : List (List Nat) := words2 r ++ [lPrices] ++ r.pr.map TL.numL
def ringTxt (r : RD) : Str := S (TL.joinL [32] (wordsOf r))
theorem RD.Ok.lks3 {r : RD} (h : r.Ok) : ∀ k ∈ r.lk, k < 1000 := fun k hk => by have := h.lk k hk; have := h.hi; omega
theorem RD.Ok.wls3 {r : RD} (h : r.Ok) : ∀ k ∈ r.wl, k < 1000 := fun k hk => by have := h.wl k hk; have := h.hi; omega
theorem RD.Ok.prs3 {r : RD} (h : r.Ok) : ∀ k ∈ r.pr, k < 1000 := fun k hk => by have := h.pr k hk; omega
theorem RD.Ok.lkl {r : RD} (h : r.Ok) : r.lk.length ≤ 12 := Nat.le_trans (sorted_len h.lk h.lks) h.hi
theorem RD.Ok.wll {r : RD} (h : r.Ok) : r.wl.length ≤ 12 := Nat.le_trans (sorted_len h.wl h.wls) h.hi
theorem RD.Ok.prl {r : RD} (h : r.Ok) : r.pr.length ≤ 12 := by rw [h.prn]; exact h.hi
theorem words_short {r : RD} (h : r.Ok) : ∀ w ∈ wordsOf r, w.length ≤ 6 := fun w hw => by
  have hn := h.hi
  have num : ∀ {l : List Nat}, (∀ k ∈ l, k < 1000) → w ∈ l.map TL.numL → w.length ≤ 6 := fun {l} hl m => by
    obtain ⟨k, hk, rfl⟩ := List.mem_map.mp m
    have := numL_len3 (hl k hk)
    omega
  have := numL_len3 (show r.n < 1000 by omega)
  have one : ∀ {x : List Nat}, x.length ≤ 6 → w ∈ [x] → w.length ≤ 6 := fun {x} hx m => by
    rw [List.mem_singleton.mp m]
    exact hx
  rcases List.mem_append.mp (show w ∈ words2 r ++ [lPrices] ++ r.pr.map TL.numL from hw) with hw | hw
  · rcases List.mem_append.mp hw with hw | hw
    · rcases List.mem_append.mp (show w ∈ words1 r ++ [lWalls] ++ r.wl.map TL.numL from hw) with hw | hw
      · rcases List.mem_append.mp hw with hw | hw
        · rcases List.mem_append.mp (show w ∈ [lRing, TL.numL r.n, lLocks] ++ r.lk.map TL.numL from hw) with hw | hw
          · rcases List.mem_cons.mp hw with e | hw
            · rw [e]; decide
            · rcases List.mem_cons.mp hw with e | hw
              · rw [e]; omega
              · exact one (by decide) hw
          · exact num h.lks3 hw
        · exact one (by decide) hw
      · exact num h.wls3 hw
    · exact one (by decide) hw
  · exact num h.prs3 hw
theorem words_len {r : RD} (h : r.Ok) : (wordsOf r).length ≤ 41 := by
  have h1 := h.lkl
  have h2 := h.wll
  have h3 := h.prl
  simp only [wordsOf, List.length_append, List.length_map, List.length_cons, List.length_nil]
  omega
end K71
set_option maxRecDepth 100000
set_option maxHeartbeats 4000000
/-! Sides, places, membership. -/
namespace K71
open PySem PySem.Spec PyProof.Rows L2 SX
theorem flat_nums (l : List Nat) : (nums l).all flatV = true := by
  simp [List.all_eq_true, flatV]
theorem inV_nums {p : Nat} {l : List Nat} : inV (.int (p : Int)) (nums l) = decide (p ∈ l) := by
  unfold inV
  rw [Bool.eq_iff_iff, decide_eq_true_iff, List.any_eq_true]
  constructor
  · rintro ⟨x, hx, e⟩
    obtain ⟨k, hk, rfl⟩ := List.mem_map.mp hx
    have e : ((k : Int) == (p : Int)) = true := e
    have : k = p := by
      have := beq_iff_eq.mp e
      omega
    rw [← this]
    exact hk
  · intro h
    exact ⟨.int (p : Int), List.mem_map.mpr ⟨p, h, rfl⟩, by show ((p : Int) == (p : Int)) = true; simp⟩
theorem inV_num_int {i : Int} {p : Nat} {l : List Nat} (h : i = (p : Int)) : inV (.int i) (nums l) = decide (p ∈ l) := by rw [h, inV_nums]
theorem inV_side (b : Bool) : inV (.str (sideS b)) [.str "left", .str "right"] = true := by cases b <;> decide +kernel
theorem inV_up : inV (.str "up") [.str "left", .str "right"] = false := by decide +kernel
theorem side_left (b : Bool) : decide (V.str (sideS b) = V.str "left") = b := by cases b <;> decide +kernel
theorem side_right (b : Bool) : decide (V.str (sideS b) = V.str "right") = !b := by cases b <;> decide +kernel
/-- the place to the left, as Python counts it -/
theorem left_mod {p n : Nat} (h : 0 < n) : ((p : Int) - 1) % (n : Int) = (((p + n - 1) % n : Nat) : Int) := by
  have e : (p : Int) - 1 = ((p + n - 1 : Nat) : Int) - (n : Int) := by omega
  rw [e, Int.sub_emod_right, Int.natCast_emod]
theorem left_mod2 {p n : Nat} (h : 0 < n) : ((p : Int) + (n : Int) - 1) % (n : Int) = (((p + n - 1) % n : Nat) : Int) := by
  rw [Int.natCast_emod]
  congr 1
  omega
theorem right_mod {p n : Nat} : ((p : Int) + 1) % (n : Int) = (((p + 1) % n : Nat) : Int) := by
  rw [Int.natCast_emod]
  rfl
/-- the four orders that no ring allows -/
def OddAt (H : Hp) (n k : Nat) (x : V) : Prop :=
  match k with
  | 0 => ∃ v, x = .ref v ∧ H v = some (.tup [.int (n : Int), .str "left"])
  | 1 => ∃ v, x = .ref v ∧ H v = some (.tup [.int 0, .str "up"])
  | 2 => x = .non
  | _ => ∃ v, x = .ref v ∧ H v = some (.lst [.int 0, .str "left"])
theorem atI0 {α : Type} {a : α} {l : List α} : atI (a :: l) 0 = some a := atI_nat (j := 0) rfl
theorem atI1 {α : Type} {a b : α} {l : List α} : atI (a :: b :: l) 1 = some b := atI_nat (j := 1) rfl
theorem atI2 {α : Type} {a b c : α} {l : List α} : atI (a :: b :: c :: l) 2 = some c := atI_nat (j := 2) rfl
theorem atI3 {α : Type} {a b c d : α} {l : List α} : atI (a :: b :: c :: d :: l) 3 = some d := atI_nat (j := 3) rfl
end K71
set_option maxRecDepth 100000
set_option maxHeartbeats 4000000
/-! Contents, lists of instructions. -/
namespace K71
open PySem PySem.Spec PyProof.Rows L2 SX
/-- small letters -/
def LetOk (c : List Nat) : Prop := ∀ x ∈ c, 97 ≤ x ∧ x ≤ 122
theorem mem_letters {x : Nat} (h : 97 ≤ x ∧ x ≤ 122) : x ∈ (("abcdefghijklmnopqrstuvwxyz" : String) : Str).cps.toList := by
  have e : (("abcdefghijklmnopqrstuvwxyz" : String) : Str).cps.toList = List.range' 97 26 := by decide +kernel
  rw [e, List.mem_range'_1]
  omega
theorem LetOk.set {c : List Nat} {i x : Nat} (h : LetOk c) (hx : 97 ≤ x ∧ x ≤ 122) : LetOk (c.set i x) := fun y hy => by
  rcases List.mem_or_eq_of_mem_set hy with h1 | h1
  · exact h y h1
  · rw [h1]; exact hx
theorem LetOk.cp {n : Nat} {c : List Nat} {i : Ins} (h : LetOk c) : LetOk (cp n c i) := by
  unfold K71.cp
  cases e : c[srcOf n i]? with
  | none => exact h
  | some x => exact h.set (h x (List.mem_of_getElem? e))
theorem LetOk.run {n : Nat} : ∀ {is : List Ins} {c : List Nat}, LetOk c → LetOk (run n c is)
  | [], _, h => h
  | i :: is, c, h => LetOk.run (is := is) (c := K71.cp n c i) h.cp
theorem rg_nums (n : Nat) : rgV 0 (n : Int) = nums (List.range n) := by
  unfold rgV
  rw [show ((n : Int) - 0).toNat = n by omega]
  refine List.map_congr_left fun k _ => ?_
  show V.int (0 + (k : Int)) = V.int (k : Int)
  rw [Int.zero_add]
theorem rg_ok {n : Nat} (h : n ≤ 100000) : RgOk 0 (n : Int) := RgOk.of_le (by omega) (by omega) (by omega) (by omega)
/-- the slices of one copy -/
theorem cp_slices {α : Type} {n : Nat} {l : List α} {i : Ins} (hl : l.length = n) (hi : i.1 < n) : ∃ x, l[srcOf n i]? = some x ∧ l.take i.1 ++ [x] ++ l.drop (i.1 + 1) = cp n l i := by
  obtain ⟨x, h1, h2⟩ := cp_eq (i := i) hl (by omega)
  refine ⟨x, h1, ?_⟩
  rw [h2, List.set_eq_take_append_cons_drop, if_pos (by omega)]
  simp
/-- letters taken by places -/
def pick (c : List Nat) (l : List Nat) : List Nat := l.map fun k => c.getD k 0
theorem pick_range (c : List Nat) : pick c (List.range c.length) = c := by
  unfold pick
  refine List.ext_getElem (by simp) fun i h1 h2 => ?_
  simp only [List.getElem_map, List.getElem_range]
  rw [List.getD_eq_getElem?_getD, List.getElem?_eq_getElem h2]
  rfl
theorem pick_cp {n : Nat} {c : List Nat} {i : Ins} (hc : c.length = n) : pick c (cp n (List.range n) i) = cp n c i := by
  show (cp n (List.range n) i).map (fun k => c.getD k 0) = _
  rw [cp_map]
  have := pick_range c
  rw [hc] at this
  unfold pick at this
  rw [this]
/-- a tuple or list of instructions: each with its address -/
abbrev PI := Addr × Ins
def InsL (H : Hp) (ps : List PI) : Prop := ∀ q ∈ ps, InsAt H q.1 q.2
abbrev refs (ps : List PI) : List V := ps.map fun q => .ref q.1
abbrev inss (ps : List PI) : List Ins := ps.map fun q => q.2
theorem InsL.kp {H H' : Hp} {ps : List PI} {S : List Addr} (h : InsL H ps) (k : Kp S H H') (hS : ∀ s ∈ S, ∀ x, H s ≠ some (.tup x)) : InsL H' ps := fun q hq => k _ _ (h q hq) fun z => hS _ z _ (h q hq)
theorem InsL.ext {H H' : Hp} {ps : List PI} (h : InsL H ps) (k : Ext H H') : InsL H' ps := fun q hq => k.at (h q hq)
end K71
set_option maxRecDepth 100000
set_option maxHeartbeats 4000000
/-! Recorders. -/
namespace K71
open PySem PySem.Spec PyProof.Rows L2 SX
/-- the fields as __init__ sets them -/
abbrev recF (ra : Addr) (rn : Bool) (k : Nat) (c : List Nat) (d : Addr) : List (Str × V) := [("ring", .ref ra), ("running", .bl rn), ("runs", .int (k : Int)), ("letters", wS c), ("done", .ref d)]
/-- an entry of the done list: its tuple, the instruction's tuple, the instruction -/
abbrev DI := Addr × PI
abbrev isD (qs : List DI) : List Ins := qs.map fun q => q.2.2
abbrev psD (qs : List DI) : List PI := qs.map fun q => q.2
abbrev refD (qs : List DI) : List V := qs.map fun q => .ref q.1
/-- the entries as they stand, from the content c0 -/
def EntAt (H : Hp) (n : Nat) (c0 : List Nat) (qs : List DI) : Prop := ∀ i q, qs[i]? = some q → H q.1 = some (.tup [.ref q.2.1, wS (run n c0 ((isD qs).take i))]) ∧ InsAt H q.2.1 q.2.2
structure RecP (K : PySem.W.Frag) (H : Hp) (p ra : Addr) (r : RD) (c0 : List Nat) (qs : List DI) (rn : Bool) (k : Nat) (dx d : Addr) : Prop where
  at_ : H p = some (.ins (ga K "Recorder") dx (recF ra rn k (run r.n c0 (isD qs)) d))
  ring : RingAt K H ra r
  dn : H d = some (.lst (refD qs))
  el : EntAt H r.n c0 qs
  cl : c0.length = r.n
  ck : LetOk c0
  io : ∀ q ∈ qs, InsOk r q.2.2
  le : qs.length ≤ 400
  ne : ra ≠ p
section
variable {K : PySem.W.Frag} {H H' : Hp} {p ra : Addr} {r : RD} {c0 : List Nat} {qs : List DI} {rn : Bool} {k : Nat} {dx d : Addr}
theorem RecP.ok (h : RecP K H p ra r c0 qs rn k dx d) : r.Ok := by
  obtain ⟨_, _, _, _, h⟩ := h.ring
  exact h.ok
/-- a ring is neither a recorder, nor a list -/
theorem RingAt.kpS {S : List Addr} {a : Addr} (h : RingAt K H a r) (k : Kp S H H') (ha : a ∉ S) (hS : ∀ s ∈ S, ∀ x, H s ≠ some (.tup x)) : RingAt K H' a r := by
  obtain ⟨dx, la, wa, pa, h⟩ := h
  refine ⟨dx, la, wa, pa, h.kp k ha fun t ht => ?_⟩
  have e : ∃ x, H t = some (.tup x) := by
    rcases List.mem_cons.mp ht with z | ht
    · rw [z]; exact ⟨_, h.la⟩
    · rcases List.mem_cons.mp ht with z | ht
      · rw [z]; exact ⟨_, h.wa⟩
      · rw [List.mem_singleton.mp ht]; exact ⟨_, h.pa⟩
  obtain ⟨x, e⟩ := e
  exact fun z => hS t z x e
theorem EntAt.kpS {S : List Addr} {n : Nat} (h : EntAt H n c0 qs) (k : Kp S H H') (hS : ∀ s ∈ S, ∀ x, H s ≠ some (.tup x)) : EntAt H' n c0 qs := fun i q e => by
  obtain ⟨h1, h2⟩ := h i q e
  exact ⟨k _ _ h1 fun z => hS _ z _ h1, k _ _ h2 fun z => hS _ z _ h2⟩
theorem EntAt.ext {n : Nat} (h : EntAt H n c0 qs) (k : Ext H H') : EntAt H' n c0 qs := h.kpS k (by simp)
theorem RecP.ext (h : RecP K H p ra r c0 qs rn k dx d) (e : Ext H H') : RecP K H' p ra r c0 qs rn k dx d := ⟨e.at h.at_, h.ring.ext e, e.at h.dn, h.el.ext e, h.cl, h.ck, h.io, h.le, h.ne⟩
theorem RecP.clen (h : RecP K H p ra r c0 qs rn k dx d) : (run r.n c0 (isD qs)).length = r.n := by rw [run_len, h.cl]
theorem RecP.insL (h : RecP K H p ra r c0 qs rn k dx d) : InsL H (psD qs) := fun x hx => by
  obtain ⟨q, hq, rfl⟩ := List.mem_map.mp hx
  obtain ⟨i, hi⟩ := List.mem_iff_getElem?.mp hq
  exact (h.el i q hi).2
end
/-- str(recorder) -/
def recTxt (n m : Nat) : Str := S ([82, 101, 99, 111, 114, 100, 101, 114, 40] ++ TL.numL n ++ [44, 32] ++ TL.numL m ++ [41])
theorem eRec : (("Recorder(" : String) : Str) = S [82, 101, 99, 111, 114, 100, 101, 114, 40] := by decide +kernel
theorem eComma : ((", " : String) : Str) = S [44, 32] := by decide +kernel
theorem eClose : ((")" : String) : Str) = S [41] := by decide +kernel
theorem numL_len4 {k : Nat} (h : k < 10000) : (TL.numL k).length ≤ 4 := by
  by_cases h1 : k < 10
  · rw [TL.numL_lt h1]
    show 1 ≤ 4
    omega
  · rw [TL.numL_step (by omega), List.length_append]
    have := numL_len3 (show k / 10 < 1000 by omega)
    show _ + 1 ≤ 4
    omega
theorem recTxt_len {n m : Nat} (hn : n < 10000) (hm : m < 10000) : (recTxt n m).length ≤ 20 := by
  have h1 := numL_len4 hn
  have h2 := numL_len4 hm
  unfold recTxt
  rw [S_len]
  simp only [List.length_append, List.length_cons, List.length_nil]
  omega
/-- what spent() tells -/
def spent (r : RD) (is : List Ins) : Nat := (is.map fun i => r.pr.getD i.1 0).sum
theorem spent_snoc {r : RD} {is : List Ins} {i : Ins} : spent r (is ++ [i]) = spent r is + r.pr.getD i.1 0 := by
  unfold spent
  simp
end K71
set_option maxRecDepth 100000
set_option maxHeartbeats 4000000
/-! Data: instructions, entries of the done list. -/
namespace K71
open PySem PySem.Spec PyProof.Rows L2 SX
def insD (i : Ins) : PyData := .tuple [numD i.1, .str (sideS i.2)]
theorem dp_ins {K : PySem.W.Frag} {H : Hp} {v : Addr} {i : Ins} (h : InsAt H v i) : Dp K H (.ref v) (insD i) := .tup (SqT.of h) (.cons (.int _) (.cons (.str _) .nil))
theorem canLay_ins (i : Ins) : PyData.canLay0 (insD i) = true := by
  obtain ⟨p, b⟩ := i
  cases b
  · show (true && (PyData.canLay0 (.str "right") && true)) = true
    decide +kernel
  · show (true && (PyData.canLay0 (.str "left") && true)) = true
    decide +kernel
theorem depth_ins (i : Ins) : PyData.depth (insD i) = 1 := rfl
theorem strOk_let {c : List Nat} (h : LetOk c) : PyData.strOk (S c) = true := by
  unfold PyData.strOk
  rw [Array.all_eq_true_iff_forall_mem]
  intro x hx
  have := h x (by simpa using hx)
  simp
  omega
theorem dp_done {K : PySem.W.Frag} {H : Hp} : ∀ {qs : List DI}, (∀ q ∈ qs, ∃ c, H q.1 = some (.tup [.ref q.2.1, wS c]) ∧ InsAt H q.2.1 q.2.2 ∧ LetOk c) →
    ∃ ds : List PyData, DpAll K H (refD qs) ds ∧ ds.length = qs.length ∧ PyData.canLayAll0 ds = true ∧ PyData.depthAll ds ≤ 2
  | [], _ => ⟨[], .nil, rfl, rfl, Nat.zero_le _⟩
  | q :: qs, h => by
    obtain ⟨ds, h1, h2, h3, h4⟩ := dp_done (K := K) (qs := qs) fun x hx => h x (List.mem_cons_of_mem _ hx)
    obtain ⟨c, g1, g2, g3⟩ := h q (List.mem_cons_self ..)
    refine ⟨.tuple [insD q.2.2, .str (S c)] :: ds, .cons (.tup (SqT.of g1) (.cons (dp_ins g2) (.cons (.str _) .nil))) h1, by simp [h2], ?_, ?_⟩
    · show ((PyData.canLay0 (insD q.2.2) && (PyData.strOk (S c) && true)) && PyData.canLayAll0 ds) = true
      rw [canLay_ins, strOk_let g3, h3] <;> rfl
    · show max (max (PyData.depth (insD q.2.2)) (max 0 0) + 1) (PyData.depthAll ds) ≤ 2
      rw [depth_ins]
      omega
theorem RecP.ents {K : PySem.W.Frag} {H : Hp} {p ra : Addr} {r : RD} {c0 : List Nat} {qs : List DI} {rn : Bool} {k : Nat} {dx d : Addr} (h : RecP K H p ra r c0 qs rn k dx d) : ∀ q ∈ qs, ∃ c, H q.1 = some (.tup [.ref q.2.1, wS c]) ∧ InsAt H q.2.1 q.2.2 ∧ LetOk c := fun q hq => by
  obtain ⟨i, hi⟩ := List.mem_iff_getElem?.mp hq
  obtain ⟨h1, h2⟩ := h.el i q hi
  exact ⟨_, h1, h2, h.ck.run⟩
/-- done == [] where it is not empty -/
theorem done_eq {K : PySem.W.Frag} {H : Hp} {p ra e : Addr} {r : RD} {c0 : List Nat} {qs : List DI} {rn : Bool} {k : Nat} {dx d : Addr} {Q : VK} (h : RecP K H p ra r c0 qs rn k dx d) (he : H e = some (.lst [])) (hq : qs ≠ []) (q : Q (.bl false) H) : rEqD K (.ref d) (.ref e) H Q := by
  obtain ⟨ds, h1, h2, h3, h4⟩ := dp_done (K := K) h.ents
  refine ⟨.list ds, .list [], .lst (SqL.of h.dn) h1, .lst (SqL.of he) .nil, ?_, rfl, ?_⟩
  · unfold SeqAt.shaped
    rw [show PyData.canLay0 (.list ds) = true from h3, decide_eq_true (show PyData.depth (.list ds) ≤ 64 from by show PyData.depthAll ds + 1 ≤ 64; omega)]
    rfl
  · cases ds with
    | nil =>
      cases qs with
      | nil => exact absurd rfl hq
      | cons a b => simp at h2
    | cons a b => exact q
end K71
set_option maxRecDepth 100000
set_option maxHeartbeats 4000000
/-! The law's state: as data, and how long its text is. -/
namespace K71
open PySem PySem.Spec PyProof.Rows L2 SX
theorem shownAll_map : ∀ xs : List PyData, PyData.shownAll xs = xs.map PyData.shown
  | [] => rfl
  | x :: xs => by
    show PyData.shown x :: PyData.shownAll xs = _
    rw [shownAll_map xs] <;> rfl
theorem piled_le {M : Nat} : ∀ {ts : List Str}, (∀ t ∈ ts, t.length ≤ M) → piled ts ≤ (M + 2) * ts.length
  | [], _ => Nat.zero_le _
  | t :: ts, h => by
    have ih := piled_le (ts := ts) fun x hx => h x (List.mem_cons_of_mem _ hx)
    have h1 := h t (List.mem_cons_self ..)
    rw [piled_cons, List.length_cons, Nat.mul_succ]
    omega
theorem tupleText_len {M : Nat} {ts : List Str} (h : ∀ t ∈ ts, t.length ≤ M) : (tupleText ts).length ≤ (M + 2) * ts.length + 3 := by
  have h1 := piled_le h
  unfold tupleText
  rw [strLen_append, strLen_append]
  have e1 : (("(" : String) : Str).length = 1 := by decide +kernel
  have e2 : ((if ts.length == 1 then ",)" else ")" : String) : Str).length ≤ 2 := by
    split
    · decide +kernel
    · decide +kernel
  cases ts with
  | nil =>
    have e3 : (Str.join ((", " : String) : Str) ([] : List Str)).length = 0 := by decide +kernel
    rw [e1, e3]
    omega
  | cons t r =>
    have h2 := join_length_add (t :: r) (by simp)
    rw [e1]
    omega
theorem listText_len {M : Nat} {ts : List Str} (h : ∀ t ∈ ts, t.length ≤ M) : (listText ts).length ≤ (M + 2) * ts.length + 3 := by
  have h1 := piled_le h
  unfold listText
  rw [strLen_append]
  have e1 : (("]" : String) : Str).length = 1 := by decide +kernel
  have e0 : (("[" : String) : Str).length = 1 := by decide +kernel
  cases ts with
  | nil =>
    show (("[" : String) : Str).length + _ ≤ _
    rw [e1, e0]
    omega
  | cons t r =>
    show (textFrom 1 (("[" : String) ++ (if 0 > 0 then ", " else "" : String) ++ t) r).length + _ ≤ _
    rw [textFrom_length_pos r 1 _ (by decide), strLen_append, strLen_append, e1, e0]
    rw [piled_cons] at h1
    have e3 : ((if 0 > 0 then ", " else "" : String) : Str).length = 0 := by decide +kernel
    rw [e3]
    omega
theorem numL_len_le : ∀ k : Nat, (TL.numL k).length ≤ k + 1 := fun k => by
  induction k using Nat.strongRecOn with
  | _ k ih =>
    by_cases h : k < 10
    · rw [TL.numL_lt h]
      show 1 ≤ k + 1
      omega
    · rw [TL.numL_step (by omega), List.length_append]
      have := ih (k / 10) (by omega)
      show _ + 1 ≤ k + 1
      omega
theorem shown_num (k : Nat) : (PyData.shown (numD k)) = S (TL.numL k) := num_S k
theorem shown_num_len {k : Nat} : (PyData.shown (numD k)).length ≤ k + 1 := by
  rw [shown_num, S_len]
  exact numL_len_le k
theorem reprS_len {l : List Nat} (h : ∀ c ∈ l, c < 4294967296) : (PyData.shown (.str (S l))).length ≤ 10 * l.length + 2 := by
  show (reprText (S l)).length ≤ _
  have := StrLaws.reprText_len (S l) fun c hc => by
    have : c ∈ l := by simpa using hc
    exact h c this
  rw [S_len] at this
  exact this
theorem shown_ins_len {i : Ins} (h : i.1 ≤ 100) : (PyData.shown (insD i)).length ≤ 1000 := by
  obtain ⟨p, b⟩ := i
  have h1 : ∀ t ∈ PyData.shownAll [numD p, .str (sideS b)], t.length ≤ 200 := fun t ht => by
    rw [shownAll_map] at ht
    rcases List.mem_cons.mp ht with e | ht
    · rw [e]
      have := shown_num_len (k := p)
      have : p ≤ 100 := h
      omega
    · rw [List.mem_singleton.mp ht]
      cases b
      · exact (by decide +kernel : (PyData.shown (.str (sideS false))).length ≤ 200)
      · exact (by decide +kernel : (PyData.shown (.str (sideS true))).length ≤ 200)
  have := tupleText_len h1
  exact Nat.le_trans this (by show (200 + 2) * 2 + 3 ≤ 1000; decide)
theorem joinL_len {m : Nat} : ∀ {ws : List (List Nat)}, (∀ w ∈ ws, w.length ≤ m) → (TL.joinL [32] ws).length ≤ (m + 1) * ws.length
  | [], _ => Nat.zero_le _
  | [w], h => by
    have := h w (by simp)
    show w.length ≤ _
    simp
    omega
  | w :: v :: ws, h => by
    have ih := joinL_len (ws := v :: ws) fun x hx => h x (List.mem_cons_of_mem _ hx)
    have h1 := h w (List.mem_cons_self ..)
    show (w ++ ([32] ++ TL.joinL [32] (v :: ws))).length ≤ _
    rw [List.length_append, List.length_append, List.length_cons (a := w), Nat.mul_succ]
    show _ + (1 + _) ≤ _
    omega
/-- the signs are small -/
theorem digits_small {k : Nat} : ∀ c ∈ TL.numL k, c < 256 := by
  induction k using Nat.strongRecOn with
  | _ k ih =>
    intro c hc
    by_cases h : k < 10
    · rw [TL.numL_lt h] at hc
      rw [List.mem_singleton.mp hc]
      omega
    · rw [TL.numL_step (by omega)] at hc
      rcases List.mem_append.mp hc with hc | hc
      · exact ih (k / 10) (by omega) c hc
      · rw [List.mem_singleton.mp hc]
        omega
theorem joinL_small : ∀ {ws : List (List Nat)}, (∀ w ∈ ws, ∀ c ∈ w, c < 256) → ∀ c ∈ TL.joinL [32] ws, c < 256
  | [], _, c, hc => by cases hc
  | [w], h, c, hc => h w (by simp) c hc
  | w :: v :: ws, h, c, hc => by
    have hc : c ∈ w ++ ([32] ++ TL.joinL [32] (v :: ws)) := hc
    rcases List.mem_append.mp hc with hc | hc
    · exact h w (by simp) c hc
    · rcases List.mem_append.mp hc with hc | hc
      · rw [List.mem_singleton.mp hc]; decide
      · exact joinL_small (ws := v :: ws) (fun x hx => h x (List.mem_cons_of_mem _ hx)) c hc
theorem words_small (r : RD) : ∀ w ∈ wordsOf r, ∀ c ∈ w, c < 256 := fun w hw => by
  have lit : ∀ l : List Nat, l.all (· < 256) = true → w ∈ [l] → ∀ c ∈ w, c < 256 := fun l hl m c hc => by
    rw [List.mem_singleton.mp m] at hc
    exact of_decide_eq_true (List.all_eq_true.mp hl c hc)
  have num : ∀ l : List Nat, w ∈ l.map TL.numL → ∀ c ∈ w, c < 256 := fun l m => by
    obtain ⟨k, _, rfl⟩ := List.mem_map.mp m
    exact digits_small
  rcases List.mem_append.mp (show w ∈ words2 r ++ [lPrices] ++ r.pr.map TL.numL from hw) with hw | hw
  · rcases List.mem_append.mp hw with hw | hw
    · rcases List.mem_append.mp (show w ∈ words1 r ++ [lWalls] ++ r.wl.map TL.numL from hw) with hw | hw
      · rcases List.mem_append.mp hw with hw | hw
        · rcases List.mem_append.mp (show w ∈ [lRing, TL.numL r.n, lLocks] ++ r.lk.map TL.numL from hw) with hw | hw
          · rcases List.mem_cons.mp hw with e | hw
            · exact lit lRing (by decide) (by rw [e]; simp)
            · rcases List.mem_cons.mp hw with e | hw
              · rw [e]; exact digits_small
              · exact lit _ (by decide) hw
          · exact num _ hw
        · exact lit _ (by decide) hw
      · exact num _ hw
    · exact lit _ (by decide) hw
  · exact num _ hw
/-- the law's state as data -/
def stD (r : RD) (c0 : List Nat) (is : List Ins) : PyData := .list [.str (S (run r.n c0 is)), .tuple (is.map insD), .tuple (numsD (run r.n (List.range r.n) is)), numD (spent r is), numD is.length,
  .str (recTxt r.n is.length), .str (recTxt r.n is.length), .bool false, .bool (!is.isEmpty), .str (ringTxt r)]
theorem showable_num {k : Nat} (h : k ≤ 1000000) : (numD k).showable = true := decide_eq_true (log_small h)
theorem showable_nums : ∀ {l : List Nat}, (∀ k ∈ l, k ≤ 1000000) → PyData.showableAll (numsD l) = true
  | [], _ => rfl
  | k :: l, h => by
    show ((numD k).showable && PyData.showableAll (numsD l)) = true
    rw [showable_num (h k (by simp)), showable_nums fun x hx => h x (List.mem_cons_of_mem _ hx)] <;> rfl
theorem showable_inss : ∀ {l : List Ins}, (∀ i ∈ l, i.1 ≤ 1000000) → PyData.showableAll (l.map insD) = true
  | [], _ => rfl
  | i :: l, h => by
    show ((insD i).showable && PyData.showableAll (l.map insD)) = true
    have : (insD i).showable = true := by
      show ((numD i.1).showable && (true && true)) = true
      rw [showable_num (h i (by simp))] <;> rfl
    rw [this, showable_inss fun x hx => h x (List.mem_cons_of_mem _ hx)] <;> rfl
theorem noDict_nums : ∀ l : List Nat, PyData.hasDictAll (numsD l) = false
  | [] => rfl
  | k :: l => by
    show (PyData.hasDict (numD k) || PyData.hasDictAll (numsD l)) = false
    rw [noDict_nums l] <;> rfl
theorem noDict_inss : ∀ l : List Ins, PyData.hasDictAll (l.map insD) = false
  | [] => rfl
  | i :: l => by
    show (PyData.hasDict (insD i) || PyData.hasDictAll (l.map insD)) = false
    rw [noDict_inss l] <;> rfl
theorem depth_inss : ∀ l : List Ins, PyData.depthAll (l.map insD) ≤ 1
  | [] => Nat.zero_le _
  | i :: l => by
    show max (PyData.depth (insD i)) (PyData.depthAll (l.map insD)) ≤ 1
    have := depth_inss l
    rw [depth_ins]
    omega
end K71
set_option maxRecDepth 100000
set_option maxHeartbeats 4000000
/-! The law's state may be shown. -/
namespace K71
open PySem PySem.Spec PyProof.Rows L2 SX
theorem cp_mem {α : Type} {n : Nat} {l : List α} {i : Ins} {x : α} (h : x ∈ cp n l i) : x ∈ l := by
  unfold cp at h
  cases e : l[srcOf n i]? with
  | none => rw [e] at h; exact h
  | some y =>
    rw [e] at h
    rcases List.mem_or_eq_of_mem_set h with h1 | h1
    · exact h1
    · rw [h1]; exact List.mem_of_getElem? e
theorem run_mem {α : Type} {n : Nat} {x : α} : ∀ {is : List Ins} {l : List α}, x ∈ run n l is → x ∈ l
  | [], _, h => h
  | i :: is, l, h => cp_mem (run_mem (is := is) (l := cp n l i) h)
theorem spent_le {r : RD} (h : ∀ k ∈ r.pr, k ≤ 999) : ∀ is : List Ins, spent r is ≤ 999 * is.length
  | [] => Nat.zero_le _
  | i :: is => by
    have ih := spent_le h is
    have e : spent r (i :: is) = r.pr.getD i.1 0 + spent r is := by simp [spent]
    have h2 : r.pr.getD i.1 0 ≤ 999 := by
      rw [List.getD_eq_getElem?_getD]
      cases q : r.pr[i.1]? with
      | none => exact Nat.zero_le _
      | some x => exact h x (List.mem_of_getElem? q)
    rw [e, List.length_cons, Nat.mul_succ]
    omega
structure StOk (d : PyData) : Prop where
  sh : d.showable = true
  nd : d.hasDict = false
  dp : d.depth ≤ 32
  ln : d.shown.length ≤ sizeLine
theorem recTxt_small {n m : Nat} : ∀ c ∈ ([82, 101, 99, 111, 114, 100, 101, 114, 40] ++ TL.numL n ++ [44, 32] ++ TL.numL m ++ [41] : List Nat), c < 256 := fun c hc => by
  have lit : ∀ l : List Nat, l.all (· < 256) = true → c ∈ l → c < 256 := fun l hl m => of_decide_eq_true (List.all_eq_true.mp hl c m)
  rcases List.mem_append.mp hc with hc | hc
  · rcases List.mem_append.mp hc with hc | hc
    · rcases List.mem_append.mp hc with hc | hc
      · rcases List.mem_append.mp hc with hc | hc
        · exact lit _ (by decide) hc
        · exact digits_small c hc
      · exact lit _ (by decide) hc
    · exact digits_small c hc
  · exact lit _ (by decide) hc
theorem st_ok {r : RD} {c0 : List Nat} {is : List Ins} (ok : r.Ok) (hc : c0.length = r.n) (hl : LetOk c0) (hi : ∀ i ∈ is, i.1 < r.n) (hn : is.length ≤ 400) : StOk (stD r c0 is) := by
  have n12 := ok.hi
  have hsp := spent_le (r := r) (fun k hk => (ok.pr k hk).2) is
  have hsp2 : spent r is ≤ 999 * 400 := Nat.le_trans hsp (Nat.mul_le_mul_left _ hn)
  have hrun : ∀ k ∈ run r.n (List.range r.n) is, k < r.n := fun k hk => List.mem_range.mp (run_mem hk)
  have hrl : (run r.n (List.range r.n) is).length = r.n := by rw [run_len, List.length_range]
  refine ⟨?_, ?_, ?_, ?_⟩
  · show (true && (PyData.showableAll (is.map insD) && (PyData.showableAll (numsD (run r.n (List.range r.n) is)) && ((numD (spent r is)).showable && ((numD is.length).showable && (true && (true && (true && (true && (true && true)))))))))) = true
    rw [showable_inss fun i h => (by have := hi i h; omega), showable_nums fun k h => (by have := hrun k h; omega), showable_num (by omega), showable_num (by omega)] <;> rfl
  · show (false || (PyData.hasDictAll (is.map insD) || (PyData.hasDictAll (numsD (run r.n (List.range r.n) is)) || (false || (false || (false || (false || (false || (false || (false || false)))))))))) = false
    rw [noDict_inss, noDict_nums] <;> rfl
  · show max 0 (max (PyData.depthAll (is.map insD) + 1) (max (PyData.depthAll (numsD (run r.n (List.range r.n) is)) + 1) (max 0 (max 0 (max 0 (max 0 (max 0 (max 0 (max 0 0))))))))) + 1 ≤ 32
    have := depth_inss is
    rw [depth_nums]
    omega
  · have h1 : ∀ t ∈ PyData.shownAll [.str (S (run r.n c0 is)), .tuple (is.map insD), .tuple (numsD (run r.n (List.range r.n) is)), numD (spent r is), numD is.length, .str (recTxt r.n is.length), .str (recTxt r.n is.length), .bool false, .bool (!is.isEmpty), .str (ringTxt r)], t.length ≤ 600000 := fun t ht => by
      rw [shownAll_map] at ht
      obtain ⟨d, hd, rfl⟩ := List.mem_map.mp ht
      have rec1 : (PyData.shown (.str (recTxt r.n is.length))).length ≤ 600000 := by
        have := reprS_len (l := [82, 101, 99, 111, 114, 100, 101, 114, 40] ++ TL.numL r.n ++ [44, 32] ++ TL.numL is.length ++ [41]) fun c hc => by have := recTxt_small c hc; omega
        have h2 := recTxt_len (n := r.n) (m := is.length) (by omega) (by omega)
        unfold recTxt at h2 ⊢
        rw [S_len] at h2
        omega
      have bool1 : ∀ b, (PyData.shown (.bool b)).length ≤ 600000 := fun b => by
        cases b
        · exact (by decide +kernel : (PyData.shown (.bool false)).length ≤ 600000)
        · exact (by decide +kernel : (PyData.shown (.bool true)).length ≤ 600000)
      rcases List.mem_cons.mp hd with e | hd
      · rw [e]
        have := reprS_len (l := run r.n c0 is) fun c hc => by have := hl.run (is := is) (n := r.n) c hc; omega
        rw [run_len, hc] at this
        omega
      rcases List.mem_cons.mp hd with e | hd
      · rw [e]
        have h2 : ∀ t ∈ PyData.shownAll (is.map insD), t.length ≤ 1000 := fun t ht => by
          rw [shownAll_map] at ht
          obtain ⟨d, hd, rfl⟩ := List.mem_map.mp ht
          obtain ⟨i, hi2, rfl⟩ := List.mem_map.mp hd
          exact shown_ins_len (by have := hi i hi2; omega)
        refine Nat.le_trans (tupleText_len h2) ?_
        rw [shownAll_map, List.length_map, List.length_map]
        have := Nat.mul_le_mul_left (1000 + 2) hn
        omega
      rcases List.mem_cons.mp hd with e | hd
      · rw [e]
        have h2 : ∀ t ∈ PyData.shownAll (numsD (run r.n (List.range r.n) is)), t.length ≤ 100 := fun t ht => by
          rw [shownAll_map] at ht
          obtain ⟨d, hd, rfl⟩ := List.mem_map.mp ht
          obtain ⟨k, hk, rfl⟩ := List.mem_map.mp hd
          have := shown_num_len (k := k)
          have := hrun k hk
          omega
        refine Nat.le_trans (tupleText_len h2) ?_
        rw [shownAll_map, List.length_map, List.length_map, hrl]
        have := Nat.mul_le_mul_left (100 + 2) n12
        omega
      rcases List.mem_cons.mp hd with e | hd
      · rw [e]
        have := shown_num_len (k := spent r is)
        omega
      rcases List.mem_cons.mp hd with e | hd
      · rw [e]
        have := shown_num_len (k := is.length)
        omega
      rcases List.mem_cons.mp hd with e | hd
      · rw [e]; exact rec1
      rcases List.mem_cons.mp hd with e | hd
      · rw [e]; exact rec1
      rcases List.mem_cons.mp hd with e | hd
      · rw [e]; exact bool1 _
      rcases List.mem_cons.mp hd with e | hd
      · rw [e]; exact bool1 _
      · rw [List.mem_singleton.mp hd]
        have := reprS_len (l := TL.joinL [32] (wordsOf r)) fun c hc => by have := joinL_small (words_small r) c hc; omega
        have h2 := joinL_len (words_short ok)
        have h3 := words_len ok
        have h4 : (6 + 1) * (wordsOf r).length ≤ (6 + 1) * 41 := Nat.mul_le_mul_left _ h3
        show (PyData.shown (.str (S (TL.joinL [32] (wordsOf r))))).length ≤ _
        omega
    refine Nat.le_trans (listText_len h1) ?_
    rw [shownAll_map, sizeLine_eq]
    show (600000 + 2) * 10 + 3 ≤ 16777216
    decide
theorem dp_inss {K : PySem.W.Frag} {H : Hp} : ∀ {ps : List PI}, InsL H ps → DpAll K H (refs ps) ((inss ps).map insD)
  | [], _ => .nil
  | q :: ps, h => .cons (dp_ins (h q (by simp))) (dp_inss fun x hx => h x (List.mem_cons_of_mem _ hx))
end K71
set_option maxRecDepth 100000
set_option maxHeartbeats 4000000
/-! Walks 1: is_integer, is_ascending, checked_prices. -/
namespace K71
open PySem PySem.Spec PyProof.Rows L2 SX
theorem sc_is_integer : FnScope ["value", "low", "high"] ["value", "low", "high"] (defScope s_is_integer) := C8.fnScope_by (by decide +kernel)
def spIsInt : Sp := fun vs H Q _ => ∃ v lo hi : Int, vs = [.int v, .int lo, .int hi] ∧ Q (.bl (decide (lo ≤ v) && decide (v ≤ hi))) H
section
variable {P : Program} {w : World} {K : PySem.W.Frag} {mg : Str → Option Value} {base : Heap}
theorem cal_is_integer (T : Tx K mg) : C8.Cal P w K mg base 1 "is_integer" spIsInt [] := by
  obtain ⟨fd, F⟩ := T.F_is_integer
  refine ⟨_, fd, ["value", "low", "high"], [], fok F sc_is_integer (fun vs H Q E h => ?_) (fun cdv A outer s H vs Q E hr h => ⟨_, (pss_one (ps_ret (pe_and (pe_callB call_isi rfl T.f_isinstance (by decide +kernel) (pa_cons (pv 0) (pa_cons (pe_bltn (v := .ty "int") rfl T.f_int (by decide +kernel) rfl) pa_nil))) (pe_and (pe_not (pe_callB call_isi rfl T.f_isinstance (by decide +kernel) (pa_cons (pv 0) (pa_cons (pe_bltn (v := .ty "bool") rfl T.f_bool (by decide +kernel) rfl) pa_nil)))) (pe_one (pe_chain op_le op_le (pv 1) (pv 0) (pv 2))))))), ?_⟩), T.g_is_integer, F.kp, F.bindsN (fun _ _ _ _ _ _ us hl => ?_), .nil⟩
  · obtain ⟨v, lo, hi, rfl, _⟩ := h
    rfl
  · obtain ⟨v, lo, hi, rfl, q⟩ := h
    refine ⟨_, rfl, _, _, _, _, true, rfl, .ty "int", .base (.int v), kit_ty (by decide +kernel), true, rfl, iteT ?_⟩
    refine ⟨_, rfl, _, _, _, _, false, rfl, .ty "bool", .base (.int v), kit_ty (by decide +kernel), false, rfl, true, rfl, iteT ?_⟩
    refine ⟨_, rfl, _, rfl, _, _, rfl, rfl, _, rfl, ?_⟩
    by_cases c : lo ≤ v
    · rw [decide_eq_true c] at q ⊢
      exact iteT ⟨_, rfl, _, _, rfl, rfl, q⟩
    · rw [decide_eq_false c] at q ⊢
      exact iteF q
  · obtain ⟨a, b, c, rfl⟩ := len3 hl
    rfl

theorem sc_is_ascending : FnScope ["value", "low", "high", "item", "one", "other"] ["value", "low", "high"] (defScope s_is_ascending) := C8.fnScope_by (by decide +kernel)
/-- value: a tuple of numbers, strictly rising, all within -/
def spAsc : Sp := fun vs H Q _ => ∃ (a : Addr) (l : List Nat) (hi : Int), vs = [.ref a, .int 0, .int hi] ∧ H a = some (.tup (nums l)) ∧ (∀ k ∈ l, (k : Int) ≤ hi) ∧ l.Pairwise (· < ·) ∧ l.length ≤ 1000 ∧ ∀ H', Ext H H' → Q (.bl true) H'
theorem cal_is_ascending (T : Tx K mg) : C8.Cal P w K mg base 2 "is_ascending" spAsc [] := by
  have c_is_integer : C8.Cal P w K mg base 1 "is_integer" spIsInt [] := cal_is_integer T
  obtain ⟨fd, F⟩ := T.F_is_ascending
  refine ⟨_, fd, ["value", "low", "high"], [], fok F sc_is_ascending (fun vs H Q E h => ?_) (fun cdv A outer s H vs Q E hr h => ⟨_, (pss_cons (ps_if (PW.pt (pw_or (pt_not (pt_val (pe_callB call_isi rfl T.f_isinstance (by decide +kernel) (pa_cons (pv 0) (pa_cons (pe_bltn (v := .ty "tuple") rfl T.f_tuple (by decide +kernel) rfl) pa_nil))))) (pw_or1 (pt_not (pt_val (pe_callB (cr_all rfl) rfl T.f_all (by decide +kernel) (pa_cons (pe_lc (own := [("item", 3)]) rfl sc_is_ascending.nd (pi_tup (pv 0)) (blkOk_by (own := [("item", 3)]) (N := ["value", "low", "high", "item", "one", "other"]) (sc := defScope s_is_ascending) (by decide +kernel)) (fun _ _ _ _ _ => (pg_name (i := 3) sc_is_ascending.nd rfl (Or.inl rfl))) (fun _ _ _ _ _ => pts_nil) (fun _ _ _ _ _ => (C8.pe_c c_is_integer hr (by decide) rfl (pa_cons (pv 3) (pa_cons (pv 1) (pa_cons (pv 2) pa_nil)))))) pa_nil))))))) (pss_one (ps_ret pe_bl)) pss_nil)
        (pss_one (ps_ret (pe_callB (cr_all rfl) rfl T.f_all (by decide +kernel) (pa_cons (pe_lc (own := [("one", 4), ("other", 5)]) (g := (gTup K 2 (gCons (gName 4) (gCons (gName 5) gNil)))) rfl sc_is_ascending.nd (RZ.pi_zipA rfl T.f_zip (pa_cons (pv 0) (pa_cons (pe_slice sl_tupA (pv 0) (po_some pe_int) po_none) pa_nil))) (blkOk_by (own := [("one", 4), ("other", 5)]) (N := ["value", "low", "high", "item", "one", "other"]) (sc := defScope s_is_ascending) (by decide +kernel)) (fun _ _ _ _ _ => (pg_tup rfl (pgs_cons (pg_name (i := 4) sc_is_ascending.nd rfl (Or.inl rfl)) (pgs_cons (pg_name (i := 5) sc_is_ascending.nd rfl (Or.inl rfl)) pgs_nil)))) (fun _ _ _ _ _ => pts_nil) (fun _ _ _ _ _ => (pe_cmpR op_lt (pv 4) (pv 5) (nomark _)))) pa_nil))))), ?_⟩), T.g_is_ascending, F.kp, F.bindsN (fun _ _ _ _ _ _ us hl => ?_), .nil⟩
  · obtain ⟨a, l, hi, rfl, _⟩ := h
    rfl
  · obtain ⟨a, l, hi, rfl, ha, hb, hp, hl, q⟩ := h
    refine ⟨_, rfl, _, _, _, _, true, rfl, .ty "tuple", .base (.tup ha), kit_ty (by decide +kernel), true, rfl, iteF ?_⟩
    refine ⟨_, rfl, _, rfl, ⟨_, SqT.of ha⟩, fun D hD => lc_it (walk_tup (K := K) (xs := nums l)) (LcP [] IvT (RF fun _ => .bl true) H D) (LcP.zero hD RF.zero trivial) (fun i H1 _ h1 => ?_) (fun i x H1 H2 hi1 h1 y => ?_) fun H1 h1 => ?_⟩
    · obtain ⟨_, _, _, _, k, _⟩ := h1
      exact SqT.of (k.at ha)
    · obtain ⟨rfl, y⟩ := y
      obtain ⟨acc, e1, e2, e3, k, _⟩ := h1
      obtain ⟨j, hj, rfl⟩ := nums_get y
      have hj2 := hb j (List.mem_of_getElem? hj)
      have hlen : (nums l).length = l.length := List.length_map ..
      refine ⟨rfl, yes ⟨_, rfl, _, rfl, _, rfl, (j : Int), 0, hi, rfl, LcP.add hD (by rw [sizeLine_eq]; omega) e1 e3 k trivial (RF.add e2 ?_)⟩⟩
      rw [decide_eq_true (show (0 : Int) ≤ (j : Int) by omega), decide_eq_true hj2] <;> rfl
    obtain ⟨acc, e1, e2, e3, k, _⟩ := h1
    refine ⟨D, (List.range (nums l).length).map fun _ => true, rfl, SqL.of (by rw [e3, e2, List.map_map] <;> rfl), true, congrArg V.bl (by simp [List.all_eq_true]), iteF ?_⟩
    refine ⟨_, rfl, _, rfl, _, rfl, ?_⟩
    unfold tNoPart
    refine slA (k.at ha) fun b H2 k2 hb2 => ?_
    rw [cut_from (by decide)] at hb2
    refine ⟨a, b, nums l, _, rfl, .inr ⟨SqT.of (k2.at (k.at ha)), SqT.of hb2, fun D2 hD2 => ?_⟩⟩
    have hlen : (nums l).length = l.length := List.length_map ..
    refine lc_it (walk_zipT (K := K) (xs := nums l) (ys := (nums l).drop (1 : Int).toNat) (n := l.length - 1) ?_) (LcP [] IvT (RF fun _ => .bl true) H2 D2) (LcP.zero hD2 RF.zero trivial) (fun i H1 _ h1 => ?_) (fun i x H1 H3 hi1 h1 y => ?_) fun H3 h3 => ?_
    · rw [List.length_drop, hlen]
      show _ = min l.length (l.length - 1)
      omega
    · obtain ⟨_, _, _, _, k3, _⟩ := h1
      exact ⟨SqT.of (k3.at (k2.at (k.at ha))), SqT.of (k3.at hb2)⟩
    · obtain ⟨acc, f1, f2, f3, k3, _⟩ := h1
      obtain ⟨T, x1, x2, rfl, hT, rfl, y1, y2⟩ := y
      obtain ⟨j1, hj1, rfl⟩ := nums_get y1
      replace y2 : ((nums l).drop (1 : Int).toNat)[i]? = some x2 := y2
      rw [List.getElem?_drop] at y2
      obtain ⟨j2, hj2, rfl⟩ := nums_get y2
      have lt : j1 < j2 := by
        obtain ⟨h1, g1⟩ := List.getElem?_eq_some_iff.mp hj1
        obtain ⟨h2, g2⟩ := List.getElem?_eq_some_iff.mp hj2
        have := List.pairwise_iff_getElem.mp hp i ((1 : Int).toNat + i) h1 h2 (by show i < 1 + i; omega)
        rw [g1, g2] at this
        exact this
      have nT : T ≠ D2 := fun z => by rw [z, f3] at hT; cases hT
      refine ⟨T, _, rfl, SqT.of upd_same, rfl, _, _, rfl, _, _, rfl, rfl, rfl, yes ?_⟩
      refine ⟨_, rfl, _, rfl, _, _, rfl, rfl, ?_⟩
      refine LcP.add hD2 (by rw [sizeLine_eq]; omega) f1 (by rw [upd_ne (Ne.symm nT)]; exact f3) (k3.newer hT) trivial (RF.add f2 ?_)
      exact congrArg V.bl (decide_eq_true (by omega))
    · obtain ⟨acc, f1, f2, f3, k3, _⟩ := h3
      refine ⟨D2, (List.range (l.length - 1)).map fun _ => true, rfl, SqL.of (by rw [f3, f2, List.map_map] <;> rfl), ?_⟩
      rw [show ((List.range (l.length - 1)).map fun _ => true).all id = true from by simp [List.all_eq_true]]
      exact q _ ((k.trans' k2).trans' k3)
  · obtain ⟨a, b, c, rfl⟩ := len3 hl
    rfl
end
end K71
set_option maxRecDepth 100000
set_option maxHeartbeats 4000000
/-! Walks 2: checked_prices, Ring. -/
namespace K71
open PySem PySem.Spec PyProof.Rows L2 SX
theorem sc_checked_prices : FnScope ["size", "prices", "index", "item"] ["size", "prices"] (defScope s_checked_prices) := C8.fnScope_by (by decide +kernel)
theorem sc_Ring_init : FnScope ["self", "size", "locks", "walls", "prices"] ["self", "size", "locks", "walls", "prices"] (defScope s_Ring_init) := C8.fnScope_by (by decide +kernel)
/-- prices: a tuple of as many numbers as size, each within -/
def spPrices : Sp := fun vs H Q _ => ∃ (a : Addr) (l : List Nat) (n : Nat), vs = [.int (n : Int), .ref a] ∧ H a = some (.tup (nums l)) ∧ l.length = n ∧ 0 < n ∧ (∀ k ∈ l, 1 ≤ k ∧ k ≤ 999) ∧ l.length ≤ 1000 ∧ ∀ H', Ext H H' → Q (.ref a) H'
def spRing (K : PySem.W.Frag) : Sp := fun vs H Q _ => ∃ (p dx la wa pa : Addr) (r : RD), vs = [.ref p, .int (r.n : Int), .ref la, .ref wa, .ref pa] ∧ H p = some (.ins (ga K "Ring") dx []) ∧ H la = some (.tup (nums r.lk)) ∧ H wa = some (.tup (nums r.wl)) ∧ H pa = some (.tup (nums r.pr)) ∧ r.Ok ∧
  ∀ H', Kp [p] H H' → RingP K H' p r dx la wa pa → Q .non H'
section
variable {P : Program} {w : World} {K : PySem.W.Frag} {mg : Str → Option Value} {base : Heap}
theorem cal_checked_prices (T : Tx K mg) : C8.Cal P w K mg base 2 "checked_prices" spPrices [] := by
  have c_is_integer : C8.Cal P w K mg base 1 "is_integer" spIsInt [] := cal_is_integer T
  obtain ⟨fd, F⟩ := T.F_checked_prices
  refine ⟨_, fd, ["size", "prices"], [], fok F sc_checked_prices (fun vs H Q E h => ?_) (fun cdv A outer s H vs Q E hr h => ⟨_, (pss_cons (ps_if (PW.pt (pw_and (pt_val (pe_callB call_isi rfl T.f_isinstance (by decide +kernel) (pa_cons (pv 1) (pa_cons (pe_bltn (v := .ty "tuple") rfl T.f_tuple (by decide +kernel) rfl) pa_nil)))) (pw_and1 (pt_cmpR (op_eqD (u64 hr)) (pv 1) (pe_tup pa_nil) (nomark _))))) (pss_one ps_never) pss_nil)
        (pss_cons (ps_if (PW.pt (pw_or (pt_not (pt_val (pe_callB call_isi rfl T.f_isinstance (by decide +kernel) (pa_cons (pv 1) (pa_cons (pe_bltn (v := .ty "tuple") rfl T.f_tuple (by decide +kernel) rfl) pa_nil))))) (pw_or1 (pt_cmpR op_ne (pe_callB call_len_seq rfl T.f_len (by decide +kernel) (pa_cons (pv 1) pa_nil)) (pv 0) (nomark _))))) (pss_one ps_never) pss_nil)
        (pss_cons (ps_for PassesOwn.never rfl (pi_enumT rfl T.f_enumerate (pa_cons (pv 1) pa_nil)) (pg_tup rfl (pgs_cons (pg_name (i := 2) sc_checked_prices.nd rfl (Or.inl rfl)) (pgs_cons (pg_name (i := 3) sc_checked_prices.nd rfl (Or.inl rfl)) pgs_nil))) (pss_one (ps_if (pt_not (pt_val (C8.pe_c c_is_integer hr (by decide) rfl (pa_cons (pv 3) (pa_cons pe_int (pa_cons (C8.pe_gc rfl T.i_MAX_PRICE) pa_nil)))))) (pss_one ps_never) pss_nil)))
        (pss_one (ps_ret (pv 1)))))), ?_⟩), T.g_checked_prices, F.kp, F.bindsN (fun _ _ _ _ _ _ us hl => ?_), .nil⟩
  · obtain ⟨a, l, n, rfl, _⟩ := h
    rfl
  · obtain ⟨a, l, n, rfl, ha, hln, hn, hb, hl, q⟩ := h
    have hlen : (nums l).length = l.length := List.length_map ..
    refine ⟨_, rfl, _, _, _, _, true, rfl, .ty "tuple", .base (.tup ha), kit_ty (by decide +kernel), true, rfl, iteT ?_⟩
    refine ⟨_, rfl, by show 0 ≤ sizeLine; omega, fun p hp => ?_⟩
    have k1 := Ext.new (o := .tup []) hp
    refine eq_nil (k1.at ha) upd_same (by intro z; rw [z] at hln; simp at hln; omega) ⟨false, rfl, iteF ?_⟩
    refine ⟨_, rfl, _, _, _, _, true, rfl, .ty "tuple", .base (.tup (k1.at ha)), kit_ty (by decide +kernel), true, rfl, iteF ?_⟩
    refine ⟨_, rfl, _, _, rfl, .inr (SqT.of (k1.at ha)), _, rfl, rfl, _, rfl, ?_⟩
    rw [show (!decide (V.int ((nums l).length : Int) = V.int (n : Int))) = false from by rw [hlen, hln]; simp]
    refine iteF ⟨_, rfl, _, _, rfl, SqT.of (k1.at ha), ?_⟩
    refine for_it (walk_enumT (K := K) (xs := nums l)) (fun i σ H1 => Ext H H1 ∧ ∃ u v, σ = [some (.int (n : Int)), some (.ref a), u, v]) ⟨k1, none, none, rfl⟩ (fun i σ H1 _ h1 => SqT.of (h1.1.at ha)) (fun i x σ H1 H2 hi h1 y => ?_) fun σ H1 h1 => ?_
    · obtain ⟨k, u, v, rfl⟩ := h1
      obtain ⟨t, x1, x2, rfl, ht, rfl, y1, y2⟩ := y
      obtain ⟨j, hj, rfl⟩ := nums_get y2
      have hj2 := hb j (List.mem_of_getElem? hj)
      refine ⟨t, _, rfl, SqT.of upd_same, rfl, _, _, rfl, _, _, rfl, rfl, ?_⟩
      refine ⟨_, rfl, _, _, _, rfl, ?_⟩
      rw [decide_eq_true (show (1 : Int) ≤ (j : Int) by omega), decide_eq_true (show (j : Int) ≤ 999 by omega)]
      refine ⟨true, rfl, iteF ⟨k.newer ht, _, _, rfl⟩⟩
    · obtain ⟨k, u, v, rfl⟩ := h1
      exact ⟨_, rfl, q _ k⟩
  · obtain ⟨a, b, rfl⟩ := len2 hl
    rfl
end
end K71
set_option maxRecDepth 100000
set_option maxHeartbeats 4000000
/-! Walks 3: Ring's __init__, __eq__. -/
namespace K71
open PySem PySem.Spec PyProof.Rows L2 SX
section
variable {P : Program} {w : World} {K : PySem.W.Frag} {mg : Str → Option Value} {base : Heap}
theorem mak_Ring (T : Tx K mg) : ∃ fd, FnOk P w K mg base C8.CX0 3 (He.ma K (ga K "Ring") "__init__") fd ["self", "size", "locks", "walls", "prices"] (spRing K) ∧ KBn K fd ["self", "size", "locks", "walls", "prices"] 2 ["locks", "walls", "prices"] (fun us ws => us ++ ws) (fun vs zs => vs ++ zs) := by
  have c_is_integer : C8.Cal P w K mg base 1 "is_integer" spIsInt [] := cal_is_integer T
  have c_is_ascending : C8.Cal P w K mg base 2 "is_ascending" spAsc [] := cal_is_ascending T
  have c_checked_prices : C8.Cal P w K mg base 2 "checked_prices" spPrices [] := cal_checked_prices T
  obtain ⟨fd, F⟩ := T.F_Ring_init
  refine ⟨fd, fok F sc_Ring_init (fun vs H Q E h => ?_) (fun cdv A outer s H vs Q E hr h => ⟨_, (pss_cons (ps_if (pt_not (pt_val (C8.pe_c c_is_integer hr (by decide) rfl (pa_cons (pv 1) (pa_cons (C8.pe_gc rfl T.i_MIN_SIZE) (pa_cons (C8.pe_gc rfl T.i_MAX_SIZE) pa_nil)))))) (pss_one ps_never) pss_nil)
        (pss_cons (ps_if (pt_not (pt_val (C8.pe_c c_is_ascending hr (by decide) rfl (pa_cons (pv 2) (pa_cons pe_int (pa_cons (pe_op op_sub (pv 1) pe_int) pa_nil)))))) (pss_one ps_never) pss_nil)
        (pss_cons (ps_if (pt_not (pt_val (C8.pe_c c_is_ascending hr (by decide) rfl (pa_cons (pv 3) (pa_cons pe_int (pa_cons (pe_op op_sub (pv 1) pe_int) pa_nil)))))) (pss_one ps_never) pss_nil)
        (pss_cons (ps_fld (pv 0) (pv 1) rfl)
        (pss_cons (ps_fld (pv 0) (pv 2) rfl)
        (pss_cons (ps_fld (pv 0) (pv 3) rfl)
        (pss_one (ps_fld (pv 0) (C8.pe_c c_checked_prices hr (by decide) rfl (pa_cons (pv 1) (pa_cons (pv 4) pa_nil))) rfl)))))))), ?_⟩), ⟨fun s us ws X l1 l2 => ?_, fun r1 r2 => r1.append r2⟩⟩
  · obtain ⟨p, dx, la, wa, pa, r, rfl, _⟩ := h
    rfl
  · obtain ⟨p, dx, la, wa, pa, r, rfl, hp, hla, hwa, hpa, ok, q⟩ := h
    have h1 := ok.lo
    have h2 := ok.hi
    have l1 := sorted_len ok.lk ok.lks
    have l2 := sorted_len ok.wl ok.wls
    have ep := ok.prn
    refine ⟨_, rfl, _, _, _, rfl, ?_⟩
    rw [decide_eq_true (show (2 : Int) ≤ (r.n : Int) by omega), decide_eq_true (show (r.n : Int) ≤ 12 by omega)]
    refine ⟨true, rfl, iteF ?_⟩
    refine ⟨_, rfl, _, rfl, _, _, rfl, rfl, la, r.lk, _, rfl, hla, fun k hk => by have := ok.lk k hk; omega, ok.lks, by omega, fun H1 k1 => ⟨true, rfl, iteF ?_⟩⟩
    refine ⟨_, rfl, _, rfl, _, _, rfl, rfl, wa, r.wl, _, rfl, k1.at hwa, fun k hk => by have := ok.wl k hk; omega, ok.wls, by omega, fun H2 k2 => ⟨true, rfl, iteF ?_⟩⟩
    have k12 := k1.trans' k2
    refine ⟨_, rfl, _, rfl, p, _, _, _, rfl, k12.at hp, T.cl_Ring, T.n_Ring_size, (by show 0 < 1000; decide), ?_⟩
    refine ⟨_, rfl, _, rfl, p, _, _, _, rfl, upd_same, T.cl_Ring, T.n_Ring_locks, (by show 1 < 1000; decide), ?_⟩
    refine ⟨_, rfl, _, rfl, p, _, _, _, rfl, upd_same, T.cl_Ring, T.n_Ring_walls, (by show 2 < 1000; decide), ?_⟩
    have npa : pa ≠ p := addr_ne (k12.at hpa) (k12.at hp) (by intro z; cases z)
    refine ⟨_, rfl, _, rfl, pa, r.pr, r.n, rfl, ?_, ep, by omega, ok.pr, by omega, fun H3 k3 => ?_⟩
    · rw [upd_ne npa, upd_ne npa, upd_ne npa]
      exact k12.at hpa
    refine ⟨_, rfl, p, _, _, _, rfl, k3.at upd_same, T.cl_Ring, T.n_Ring_prices, (by show 3 < 1000; decide), ?_⟩
    have kp : ∀ b o, H b = some o → b ≠ p → upd H3 p (.ins (ga K "Ring") dx (ringF r.n la wa pa)) b = some o := fun b o e hb => by
      rw [upd_ne hb]
      refine k3.at ?_
      rw [upd_ne hb, upd_ne hb, upd_ne hb]
      exact k12.at e
    refine q _ (fun b o e n => kp b o e (by simpa using n)) ⟨upd_same, kp _ _ hla (addr_ne hla hp (by intro z; cases z)), kp _ _ hwa (addr_ne hwa hp (by intro z; cases z)), kp _ _ hpa (addr_ne hpa hp (by intro z; cases z)), ok⟩
  · obtain ⟨a, b, rfl⟩ := len2 l1
    obtain ⟨c, d, e, rfl⟩ := len3 l2
    obtain ⟨oc, od, dV, kV, doc, pm, an, cdv, ct, osl, rfl, lk, hcd, hD, hK⟩ := F.ex
    rcases hD with ⟨_, rfl⟩ | ⟨e, _⟩
    · exact BindsTo.of_eq rfl
    · exact absurd rfl e
end
end K71
set_option maxRecDepth 100000
set_option maxHeartbeats 4000000
/-! Walks 4: Ring's __eq__, __str__. -/
namespace K71
open PySem PySem.Spec PyProof.Rows L2 SX
theorem sc_Ring_eq : FnScope ["self", "other"] ["self", "other"] (defScope s_Ring_eq) := C8.fnScope_by (by decide +kernel)
theorem sc_Ring_str : FnScope ["self", "words", "place", "price_here"] ["self"] (defScope s_Ring_str) := C8.fnScope_by (by decide +kernel)
/-- a ring is compared with itself -/
def spRingEq (K : PySem.W.Frag) : Sp := fun vs H Q _ => ∃ (a : Addr) (r : RD), vs = [.ref a, .ref a] ∧ RingAt K H a r ∧ Q (.bl true) H
def spRingStr (K : PySem.W.Frag) : Sp := fun vs H Q _ => ∃ (a : Addr) (r : RD), vs = [.ref a] ∧ RingAt K H a r ∧ ∀ H', Ext H H' → Q (.str (ringTxt r)) H'
section
variable {P : Program} {w : World} {K : PySem.W.Frag} {mg : Str → Option Value} {base : Heap}
theorem ok_Ring_eq (T : Tx K mg) : ∃ fd, FnOk P w K mg base C8.CX0 1 (He.ma K (ga K "Ring") "__eq__") fd ["self", "other"] (spRingEq K) ∧ Binds K fd ["self", "other"] [] := by
  obtain ⟨fd, F⟩ := T.F_Ring_eq
  refine ⟨fd, fok F sc_Ring_eq (fun vs H Q E h => ?_) (fun cdv A outer s H vs Q E hr h => ⟨_, (pss_cons (ps_if (PW.pt (pw_or (pt_not (pt_val (pe_callB (C8.call_isC T.inRing) rfl T.f_isinstance (by decide +kernel) (pa_cons (pv 1) (pa_cons (C8.pe_gc (v := .ref (ga K "Ring")) rfl ⟨_, T.g_Ring, rfl⟩) pa_nil))))) (pw_or (pt_cmpR op_ne (pe_fld (pv 0) rfl) (pe_fld (pv 1) rfl) (nomark _)) (pw_or1 (pt_cmpR (op_neD (u64 hr)) (pe_fld (pv 0) rfl) (pe_fld (pv 1) rfl) (nomark _)))))) (pss_one (ps_ret pe_bl)) pss_nil)
        (pss_one (ps_ret (pe_and (pe_cmpR (op_eqD (u64 hr)) (pe_fld (pv 0) rfl) (pe_fld (pv 1) rfl) (nomark _)) (pe_one (pe_cmpR (op_eqD (u64 hr)) (pe_fld (pv 0) rfl) (pe_fld (pv 1) rfl) (nomark _))))))), ?_⟩), F.bindsN (fun _ _ _ _ _ _ us hl => ?_)⟩
  · obtain ⟨a, r, rfl, _⟩ := h
    rfl
  · obtain ⟨a, r, rfl, ⟨dx, la, wa, pa, h⟩, q⟩ := h
    refine ⟨_, rfl, a, dx, _, rfl, h.at_, true, rfl, iteF ?_⟩
    refine ⟨_, rfl, a, _, _, _, _, rfl, h.at_, T.cl_Ring, T.n_Ring_size, rfl, _, rfl, a, _, _, _, _, rfl, h.at_, T.cl_Ring, T.n_Ring_size, rfl, rfl, _, rfl, ?_⟩
    rw [show (!decide (V.int (r.n : Int) = V.int (r.n : Int))) = false from by simp]
    refine iteF ⟨_, rfl, a, _, _, _, _, rfl, h.at_, T.cl_Ring, T.n_Ring_prices, rfl, _, rfl, a, _, _, _, _, rfl, h.at_, T.cl_Ring, T.n_Ring_prices, rfl, _, _, dp_tup h.pa, dp_tup h.pa, shaped_nums _, shaped_nums _, _, rfl, ?_⟩
    rw [eqv_nums]
    refine iteF ?_
    refine ⟨_, rfl, a, _, _, _, _, rfl, h.at_, T.cl_Ring, T.n_Ring_locks, rfl, _, rfl, a, _, _, _, _, rfl, h.at_, T.cl_Ring, T.n_Ring_locks, rfl, _, _, dp_tup h.la, dp_tup h.la, shaped_nums _, shaped_nums _, _, rfl, ?_⟩
    rw [eqv_nums]
    refine iteT ⟨_, rfl, a, _, _, _, _, rfl, h.at_, T.cl_Ring, T.n_Ring_walls, rfl, _, rfl, a, _, _, _, _, rfl, h.at_, T.cl_Ring, T.n_Ring_walls, rfl, _, _, dp_tup h.wa, dp_tup h.wa, shaped_nums _, shaped_nums _, ?_⟩
    rw [eqv_nums]
    exact q
  · obtain ⟨a, b, rfl⟩ := len2 hl
    rfl
/-- the reading of «[str(k) for k in t]» -/
theorem lc_strs {a D : Addr} {l : List Nat} {H : Hp} {i0 : Nat} {σ : L2.St} {Qd : Hp → Prop} (hi0 : i0 < σ.length) (ha : H a = some (.tup (nums l))) (hD : H D = none) (hk : ∀ k ∈ l, k < 1000) (hl : l.length ≤ 1000) (q : ∀ H', Ext H H' → H' D = some (.lst (l.map numW)) → Qd H') :
    ∃ W : Nat → Nat → Hp → Prop, (∃ m, W 0 m (upd H D (.lst []))) ∧ ∀ i m H, W i m H →
      ((Itt K a).stop i H ∧ Qd H) ∨ ((Itt K a).go i H ∧ ∃ Nx : Hp → Prop, (∀ H', Nx H' → ∃ m', m' < m ∧ W (i + 1) m' H') ∧ ∀ x H', (Itt K a).yld i H x H' → gName i0 x (wipe σ [i0]) H' fun σ2 H2 => wipe σ2 [i0] = wipe σ [i0] ∧ tYes σ2 H2 fun b H3 =>
        if b = true then (tCB (fun xs H Q => ∃ i, xs = [.int i] ∧ i.natAbs.log2 < 1920 ∧ Q (.str (toString i)) H) (tCons (tVar i0) tNil)) σ2 H3 fun y H4 => ∃ acc, H4 D = some (.lst acc) ∧ acc.length < sizeLine ∧ Nx (upd H4 D (.lst (acc ++ [y]))) else Nx H3) := by
  have hlen : (nums l).length = l.length := List.length_map ..
  refine lc_it (walk_tup (K := K) (xs := nums l)) (LcP [] IvT (RT (l.map numW)) H D) (LcP.zero hD RT.zero trivial) (fun i H1 _ h1 => ?_) (fun i x H1 H2 hi1 h1 y => ?_) fun H1 h1 => ?_
  · obtain ⟨_, _, _, _, k, _⟩ := h1
    exact SqT.of (k.at ha)
  · obtain ⟨rfl, y⟩ := y
    obtain ⟨acc, e1, e2, e3, k, _⟩ := h1
    obtain ⟨j, hj, rfl⟩ := nums_get y
    have hj2 := hk j (List.mem_of_getElem? hj)
    have hset : ∀ x : Option V, wipe ((wipe σ [i0]).set i0 x) [i0] = wipe σ [i0] := fun x => by simp [wipe]
    refine ⟨hset _, yes ⟨_, ?_, (j : Int), rfl, log_small (by omega), LcP.add hD (by rw [sizeLine_eq]; omega) e1 e3 k trivial (RT.add e2 ?_)⟩⟩
    · rw [List.getElem?_set_self (by simp [wipe]; exact hi0)]
    · rw [List.getElem?_map, hj, str_num] <;> rfl
  · obtain ⟨acc, e1, e2, e3, k, _⟩ := h1
    rw [RT.full e2 (by rw [List.length_map, hlen])] at e3
    exact q _ k e3
theorem ok_Ring_str (T : Tx K mg) : ∃ fd, FnOk P w K mg base C8.CX0 1 (He.ma K (ga K "Ring") "__str__") fd ["self"] (spRingStr K) ∧ Binds K fd ["self"] [] := by
  obtain ⟨fd, F⟩ := T.F_Ring_str
  refine ⟨fd, fok F sc_Ring_str (fun vs H Q E h => ?_) (fun cdv A outer s H vs Q E hr h => ⟨_, (pss_cons (ps_set (i := 1) sc_Ring_str.nd rfl (Or.inl rfl) (pe_op op_cat (pe_lst (pa_cons pe_str (pa_cons (pe_callTy call_str_int rfl T.f_str (by decide +kernel) (pa_cons (pe_fld (pv 0) rfl) pa_nil)) (pa_cons pe_str pa_nil)))) (pe_lc (own := [("place", 2)]) rfl sc_Ring_str.nd (pi_tup (pe_fld (pv 0) rfl)) (blkOk_by (own := [("place", 2)]) (N := ["self", "words", "place", "price_here"]) (sc := defScope s_Ring_str) (by decide +kernel)) (fun _ _ _ _ _ => (pg_name (i := 2) sc_Ring_str.nd rfl (Or.inl rfl))) (fun _ _ _ _ _ => pts_nil) (fun _ _ _ _ _ => (pe_callTy call_str_int rfl T.f_str (by decide +kernel) (pa_cons (pv 2) pa_nil))))))
        (pss_cons (ps_set (i := 1) sc_Ring_str.nd rfl (Or.inl rfl) (pe_op op_cat (pe_op op_cat (pv 1) (pe_lst (pa_cons pe_str pa_nil))) (pe_lc (own := [("place", 2)]) rfl sc_Ring_str.nd (pi_tup (pe_fld (pv 0) rfl)) (blkOk_by (own := [("place", 2)]) (N := ["self", "words", "place", "price_here"]) (sc := defScope s_Ring_str) (by decide +kernel)) (fun _ _ _ _ _ => (pg_name (i := 2) sc_Ring_str.nd rfl (Or.inl rfl))) (fun _ _ _ _ _ => pts_nil) (fun _ _ _ _ _ => (pe_callTy call_str_int rfl T.f_str (by decide +kernel) (pa_cons (pv 2) pa_nil))))))
        (pss_one (ps_ret (pe_join pe_str (pe_op op_cat (pe_op op_cat (pv 1) (pe_lst (pa_cons pe_str pa_nil))) (pe_lc (own := [("price_here", 3)]) rfl sc_Ring_str.nd (pi_tup (pe_fld (pv 0) rfl)) (blkOk_by (own := [("price_here", 3)]) (N := ["self", "words", "place", "price_here"]) (sc := defScope s_Ring_str) (by decide +kernel)) (fun _ _ _ _ _ => (pg_name (i := 3) sc_Ring_str.nd rfl (Or.inl rfl))) (fun _ _ _ _ _ => pts_nil) (fun _ _ _ _ _ => (pe_callTy call_str_int rfl T.f_str (by decide +kernel) (pa_cons (pv 3) pa_nil)))))))))), ?_⟩), F.bindsN (fun _ _ _ _ _ _ us hl => ?_)⟩
  · obtain ⟨a, r, rfl, _⟩ := h
    rfl
  · obtain ⟨a, r, rfl, ⟨dx, la, wa, pa, h⟩, q⟩ := h
    have ok := h.ok
    have hn := ok.hi
    refine ⟨_, rfl, a, _, _, _, _, rfl, h.at_, T.cl_Ring, T.n_Ring_size, rfl, (r.n : Int), rfl, log_small (by omega), by show 3 ≤ sizeLine; rw [sizeLine_eq]; omega, fun p hp => ?_⟩
    have k1 := Ext.new (o := .lst [.str "ring", .str (toString (r.n : Int)), .str "locks"]) hp
    have h1 := h.kp k1 (by simp) (by simp)
    refine ⟨_, rfl, a, _, _, _, _, rfl, h1.at_, T.cl_Ring, T.n_Ring_locks, rfl, la, rfl, ⟨_, SqT.of h1.la⟩, fun D hD => lc_strs (by show 2 < 4; decide) h1.la hD ok.lks3 (by have := ok.lkl; omega) fun H2 k2 e2 => ?_⟩
    have ll := ok.lkl
    have lw := ok.wll
    have lp := ok.prl
    have z : ∀ n, n ≤ 100 → n ≤ sizeLine := fun n hn => by rw [sizeLine_eq]; omega
    refine ⟨p, D, _, _, rfl, rfl, k2.at upd_same, e2, z _ (by simp; omega), fun p2 hp2 => ?_⟩
    have e3 : ([.str "ring", .str (toString (r.n : Int)), .str "locks"] ++ r.lk.map numW : List V) = (words1 r).map wS := by
      rw [str_num, eRing, eLocks]
      simp only [words1, List.map_append, List.map_map]
      rfl
    rw [e3]
    have k3 := k2.newer (o := .lst ((words1 r).map wS)) hp2
    have h3 := (h1.kp k3 (by simp) (by simp))
    refine ⟨_, rfl, by show 1 ≤ sizeLine; exact z _ (by omega), fun p3 hp3 => ?_⟩
    have e4 : p2 ≠ p3 := ne_of_none upd_same hp3
    refine ⟨p2, p3, (words1 r).map wS, _, rfl, rfl, ?_, upd_same, z _ (by simp; omega), fun p4 hp4 => ?_⟩
    · rw [upd_ne e4]; exact upd_same
    have k4 := (Ext.new (o := .lst [.str "walls"]) hp3).newer (o := .lst ((words1 r).map wS ++ [.str "walls"])) hp4
    have h4 := (h3.kp k4 (by simp) (by simp))
    refine ⟨_, rfl, a, _, _, _, _, rfl, h4.at_, T.cl_Ring, T.n_Ring_walls, rfl, wa, rfl, ⟨_, SqT.of h4.wa⟩, fun D2 hD2 => lc_strs (by show 2 < 4; decide) h4.wa hD2 ok.wls3 (by omega) fun H5 k5 e5 => ?_⟩
    refine ⟨p4, D2, _, _, rfl, rfl, k5.at upd_same, e5, z _ (by simp; omega), fun p6 hp6 => ?_⟩
    have e6 : ((words1 r).map wS ++ [.str "walls"] ++ r.wl.map numW : List V) = (words2 r).map wS := by
      rw [eWalls]
      simp only [words2, List.map_append, List.map_map]
      rfl
    rw [e6]
    have k6 := k5.newer (o := .lst ((words2 r).map wS)) hp6
    have h6 := (h4.kp k6 (by simp) (by simp))
    refine ⟨⟨_, rfl⟩, _, rfl, by show 1 ≤ sizeLine; exact z _ (by omega), fun p7 hp7 => ?_⟩
    have e7 : p6 ≠ p7 := ne_of_none upd_same hp7
    refine ⟨p6, p7, (words2 r).map wS, _, rfl, rfl, ?_, upd_same, z _ (by simp; omega), fun p8 hp8 => ?_⟩
    · rw [upd_ne e7]; exact upd_same
    have k8 := (Ext.new (o := .lst [.str "prices"]) hp7).newer (o := .lst ((words2 r).map wS ++ [.str "prices"])) hp8
    have h8 := (h6.kp k8 (by simp) (by simp))
    refine ⟨_, rfl, a, _, _, _, _, rfl, h8.at_, T.cl_Ring, T.n_Ring_prices, rfl, pa, rfl, ⟨_, SqT.of h8.pa⟩, fun D3 hD3 => lc_strs (by show 3 < 4; decide) h8.pa hD3 ok.prs3 (by omega) fun H9 k9 e9 => ?_⟩
    refine ⟨p8, D3, _, _, rfl, rfl, k9.at upd_same, e9, z _ (by simp; omega), fun p10 hp10 => ?_⟩
    have e10 : ((words2 r).map wS ++ [.str "prices"] ++ r.pr.map numW : List V) = ((wordsOf r).map S).map V.str := by
      rw [ePrices]
      simp only [wordsOf, List.map_append, List.map_map]
      rfl
    rw [e10]
    refine ⟨_, p10, (wordsOf r).map S, rfl, rfl, .inl (SqL.of upd_same), ?_, ?_⟩
    · have h1 := sum_le (words_short ok)
      have h2 := words_len ok
      rw [List.length_map, eSpace, S_len]
      have : 6 * (wordsOf r).length ≤ 6 * 41 := Nat.mul_le_mul_left _ h2
      show _ + _ * 1 ≤ _
      omega
    · rw [eSpace, join_S]
      exact q _ ((((k1.trans' k3).trans' (k4.trans' k6)).trans' (k8.trans' k9)).newer hp10)
  · obtain ⟨a, rfl⟩ := len1 hl
    rfl
end
end K71
set_option maxRecDepth 100000
set_option maxHeartbeats 4000000
/-! Walks 5: allows. -/
namespace K71
open PySem PySem.Spec PyProof.Rows L2 SX
theorem sc_Ring_allows : FnScope ["self", "value", "place", "side", "wall"] ["self", "value"] (defScope s_Ring_allows) := C8.fnScope_by (by decide +kernel)
def spAllows (K : PySem.W.Frag) : Sp := fun vs H Q _ => ∃ (a : Addr) (r : RD) (x : V) (ok : Bool), vs = [.ref a, x] ∧ RingAt K H a r ∧ ((∃ v i, x = .ref v ∧ InsAt H v i ∧ InsOk r i ∧ ok = true) ∨ (∃ k, OddAt H r.n k x ∧ ok = false)) ∧ ∀ H', Ext H H' → Q (.bl ok) H'
section
variable {P : Program} {w : World} {K : PySem.W.Frag} {mg : Str → Option Value} {base : Heap}
theorem met_allows (T : Tx K mg) : C8.Met P w K mg base 2 (ga K "Ring") "allows" (spAllows K) [] := by
  have c_is_integer : C8.Cal P w K mg base 1 "is_integer" spIsInt [] := cal_is_integer T
  obtain ⟨fd, F⟩ := T.F_Ring_allows
  refine ⟨_, fd, ["self", "value"], [], T.cl_Ring, T.m_Ring_allows, fok F sc_Ring_allows (fun vs H Q E h => ?_) (fun cdv A outer s H vs Q E hr h => ⟨_, (pss_cons (ps_if (PW.pt (pw_or (pt_not (pt_val (pe_callB call_isi rfl T.f_isinstance (by decide +kernel) (pa_cons (pv 1) (pa_cons (pe_bltn (v := .ty "tuple") rfl T.f_tuple (by decide +kernel) rfl) pa_nil))))) (pw_or (pt_cmpR op_ne (pe_callB call_len_seq rfl T.f_len (by decide +kernel) (pa_cons (pv 1) pa_nil)) pe_int (nomark _)) (pw_or1 (pt_not (pt_val (C8.pe_c c_is_integer hr (by decide) rfl (pa_cons (pe_ix ix_tup (pv 1) pe_int (fun _ _ => rfl)) (pa_cons pe_int (pa_cons (pe_op op_sub (pe_fld (pv 0) rfl) pe_int) pa_nil)))))))))) (pss_one (ps_ret pe_bl)) pss_nil)
        (pss_cons (ps_asg (pv 1) (pg_tup rfl (pgs_cons (pg_name (i := 2) sc_Ring_allows.nd rfl (Or.inl rfl)) (pgs_cons (pg_name (i := 3) sc_Ring_allows.nd rfl (Or.inl rfl)) pgs_nil))))
        (pss_cons (ps_if (PW.pt (pw_or (pt_not (pt_val (pe_callB call_isi rfl T.f_isinstance (by decide +kernel) (pa_cons (pv 3) (pa_cons (pe_bltn (v := .ty "str") rfl T.f_str (by decide +kernel) rfl) pa_nil))))) (pw_or (pt_cmpR op_notIn_seq (pv 3) (pe_tup (pa_cons (C8.pe_gc rfl T.t_LEFT) (pa_cons (C8.pe_gc rfl T.t_RIGHT) pa_nil))) rfl) (pw_or1 (pt_cmpR op_in_seq (pv 2) (pe_fld (pv 0) rfl) rfl))))) (pss_one (ps_ret pe_bl)) pss_nil)
        (pss_cons (ps_set (i := 4) sc_Ring_allows.nd rfl (Or.inl rfl) (pe_ifExp (pt_cmpR op_eq (pv 3) (C8.pe_gc rfl T.t_RIGHT) (nomark _)) (pv 2) (pe_op op_mod (pe_op op_sub (pv 2) pe_int) (pe_fld (pv 0) rfl))))
        (pss_one (ps_ret (pe_cmpR op_notIn_seq (pv 4) (pe_fld (pv 0) rfl) rfl))))))), ?_⟩), F.bindsN (fun _ _ _ _ _ _ us hl => ?_), .nil⟩
  · obtain ⟨a, r, x, ok, rfl, _⟩ := h
    rfl
  · obtain ⟨a, r, x, okb, rfl, ⟨dx, la, wa, pa, h⟩, hx, q⟩ := h
    have ok := h.ok
    have hn := ok.lo
    rcases hx with ⟨v, i, rfl, hv, hi, rfl⟩ | ⟨k, hk, rfl⟩
    · obtain ⟨i1, i2, i3⟩ := hi
      obtain ⟨p, b⟩ := i
      refine ⟨_, rfl, _, _, _, _, true, rfl, .ty "tuple", .base (.tup hv), kit_ty (by decide +kernel), true, rfl, iteF ?_⟩
      refine ⟨_, rfl, _, _, rfl, .inr (SqT.of hv), rfl, _, rfl, iteF ?_⟩
      refine ⟨_, rfl, v, _, _, _, rfl, rfl, SqT.of hv, atI0, _, rfl, a, _, _, _, _, rfl, h.at_, T.cl_Ring, T.n_Ring_size, rfl, _, _, rfl, rfl, _, _, _, rfl, ?_⟩
      rw [decide_eq_true (show (0 : Int) ≤ (p : Int) by omega), decide_eq_true (show (p : Int) ≤ (r.n : Int) - 1 by have : p < r.n := i1; omega)]
      refine ⟨true, rfl, iteF ?_⟩
      refine ⟨_, rfl, v, _, rfl, SqT.of hv, rfl, _, _, rfl, _, _, rfl, rfl, ?_⟩
      refine ⟨_, rfl, _, _, _, _, true, rfl, .ty "str", .base (.str _), kit_ty (by decide +kernel), true, rfl, iteF ?_⟩
      refine ⟨_, rfl, by show 2 ≤ sizeLine; decide, fun t ht => ⟨t, _, rfl, .inr (SqT.of upd_same), rfl, rfl, ?_⟩⟩
      have k1 := Ext.new (o := .tup [.str "left", .str "right"]) ht
      have h1 := h.kp k1 (by simp) (by simp)
      refine ⟨false, ?_, iteF ?_⟩
      · exact congrArg V.bl (by rw [if_pos rfl]; exact congrArg not (inV_side b))
      refine ⟨_, rfl, _, rfl, a, _, _, _, _, rfl, h1.at_, T.cl_Ring, T.n_Ring_locks, rfl, la, _, rfl, .inr (SqT.of h1.la), rfl, flat_nums _, false, ?_, iteF ?_⟩
      · exact congrArg V.bl (by rw [if_neg Bool.false_ne_true]; rw [inV_nums]; exact decide_eq_false i2)
      refine ⟨_, rfl, rfl, _, rfl, ?_⟩
      rw [side_right]
      have fin : ∀ (m : Nat) (z : Int), z = (m : Int) → m ∉ r.wl → (tRet (tOp (rIn K true) (tVar 4) (tFld K (tVar 0) "walls")) : TS) { nx := fun _ H' => Q .non H', rt := Q } [some (.ref a), some (.ref v), some (.int (p : Int)), some (.str (sideS b)), some (.int z)] (upd H t (.tup [.str "left", .str "right"])) := fun m z ez hm => by
        refine ⟨_, rfl, _, rfl, a, _, _, _, _, rfl, h1.at_, T.cl_Ring, T.n_Ring_walls, rfl, wa, _, rfl, .inr (SqT.of h1.wa), rfl, flat_nums _, ?_⟩
        rw [inV_num_int ez, decide_eq_false hm]
        exact q _ k1
      cases b with
      | true =>
        refine iteF ⟨_, rfl, _, _, rfl, rfl, _, rfl, a, _, _, _, _, rfl, h1.at_, T.cl_Ring, T.n_Ring_size, rfl, _, _, rfl, rfl, ?_, ?_⟩
        · show (0 : Int) < (r.n : Int)
          omega
        · exact fin _ _ (left_mod (by omega)) i3
      | false =>
        refine iteT ⟨_, rfl, ?_⟩
        exact fin _ _ rfl i3
    · match k, hk with
      | 0, hk =>
        obtain ⟨v, rfl, hv⟩ := hk
        refine ⟨_, rfl, _, _, _, _, true, rfl, .ty "tuple", .base (.tup hv), kit_ty (by decide +kernel), true, rfl, iteF ?_⟩
        refine ⟨_, rfl, _, _, rfl, .inr (SqT.of hv), rfl, _, rfl, iteF ?_⟩
        refine ⟨_, rfl, v, _, _, _, rfl, rfl, SqT.of hv, atI0, _, rfl, a, _, _, _, _, rfl, h.at_, T.cl_Ring, T.n_Ring_size, rfl, _, _, rfl, rfl, _, _, _, rfl, ?_⟩
        rw [decide_eq_false (show ¬ (r.n : Int) ≤ (r.n : Int) - 1 by omega), Bool.and_false]
        exact ⟨false, rfl, iteT (q _ Ext.refl)⟩
      | 1, hk =>
        obtain ⟨v, rfl, hv⟩ := hk
        refine ⟨_, rfl, _, _, _, _, true, rfl, .ty "tuple", .base (.tup hv), kit_ty (by decide +kernel), true, rfl, iteF ?_⟩
        refine ⟨_, rfl, _, _, rfl, .inr (SqT.of hv), rfl, _, rfl, iteF ?_⟩
        refine ⟨_, rfl, v, _, _, _, rfl, rfl, SqT.of hv, atI0, _, rfl, a, _, _, _, _, rfl, h.at_, T.cl_Ring, T.n_Ring_size, rfl, _, _, rfl, rfl, _, _, _, rfl, ?_⟩
        rw [decide_eq_true (show (0 : Int) ≤ 0 by omega), decide_eq_true (show (0 : Int) ≤ (r.n : Int) - 1 by omega)]
        refine ⟨true, rfl, iteF ?_⟩
        refine ⟨_, rfl, v, _, rfl, SqT.of hv, rfl, _, _, rfl, _, _, rfl, rfl, ?_⟩
        refine ⟨_, rfl, _, _, _, _, true, rfl, .ty "str", .base (.str _), kit_ty (by decide +kernel), true, rfl, iteF ?_⟩
        refine ⟨_, rfl, by show 2 ≤ sizeLine; decide, fun t ht => ⟨t, _, rfl, .inr (SqT.of upd_same), rfl, rfl, true, ?_, iteT (q _ (Ext.new ht))⟩⟩
        exact congrArg V.bl (by rw [if_pos rfl]; exact congrArg not inV_up)
      | 2, hk =>
        obtain rfl : x = .non := hk
        exact ⟨_, rfl, _, _, _, _, false, rfl, .ty "tuple", .base .non, kit_ty (by decide +kernel), false, rfl, iteT (q _ Ext.refl)⟩
      | k + 3, hk =>
        obtain ⟨v, rfl, hv⟩ := hk
        exact ⟨_, rfl, _, _, _, _, false, rfl, .ty "tuple", .base (.lst hv), kit_ty (by decide +kernel), false, rfl, iteT (q _ Ext.refl)⟩
  · obtain ⟨a, b, rfl⟩ := len2 hl
    rfl
end
end K71
set_option maxRecDepth 100000
set_option maxHeartbeats 4000000
/-! Walks 6: checks, identity_of, after, letters_of. -/
namespace K71
open PySem PySem.Spec PyProof.Rows L2 SX
theorem sc_check_ring : FnScope ["ring"] ["ring"] (defScope s_check_ring) := C8.fnScope_by (by decide +kernel)
theorem sc_identity_of : FnScope ["ring"] ["ring"] (defScope s_identity_of) := C8.fnScope_by (by decide +kernel)
theorem sc_is_content : FnScope ["ring", "value", "letter"] ["ring", "value"] (defScope s_is_content) := C8.fnScope_by (by decide +kernel)
theorem sc_check_content : FnScope ["ring", "content"] ["ring", "content"] (defScope s_check_content) := C8.fnScope_by (by decide +kernel)
theorem sc_is_pair : FnScope ["part"] ["part"] (defScope s_is_pair) := C8.fnScope_by (by decide +kernel)
theorem sc_after : FnScope ["mapping", "instruction", "size", "place", "side", "source"] ["mapping", "instruction", "size"] (defScope s_after) := C8.fnScope_by (by decide +kernel)
theorem sc_letters_of : FnScope ["mapping", "content", "place"] ["mapping", "content"] (defScope s_letters_of) := C8.fnScope_by (by decide +kernel)
def spCkRing (K : PySem.W.Frag) : Sp := fun vs H Q _ => ∃ (a : Addr) (r : RD), vs = [.ref a] ∧ RingAt K H a r ∧ Q .non H
def spIdent (K : PySem.W.Frag) : Sp := fun vs H Q _ => ∃ (a : Addr) (r : RD), vs = [.ref a] ∧ RingAt K H a r ∧ ∀ p H', Ext H H' → H' p = some (.tup (nums (List.range r.n))) → Q (.ref p) H'
def spIsCont (K : PySem.W.Frag) : Sp := fun vs H Q _ => ∃ (a : Addr) (r : RD) (c : List Nat), vs = [.ref a, wS c] ∧ RingAt K H a r ∧ c.length = r.n ∧ LetOk c ∧ ∀ H', Ext H H' → Q (.bl true) H'
def spCkCont (K : PySem.W.Frag) : Sp := fun vs H Q _ => ∃ (a : Addr) (r : RD) (c : List Nat), vs = [.ref a, wS c] ∧ RingAt K H a r ∧ c.length = r.n ∧ LetOk c ∧ ∀ H', Ext H H' → Q .non H'
def spIsPair : Sp := fun vs H Q _ => ∃ (v : Addr) (i : Ins), vs = [.ref v] ∧ InsAt H v i ∧ Q (.bl false) H
def spAfter : Sp := fun vs H Q _ => ∃ (m v : Addr) (l : List Nat) (i : Ins) (n : Nat), vs = [.ref m, .ref v, .int (n : Int)] ∧ H m = some (.tup (nums l)) ∧ l.length = n ∧ n ≤ 1000 ∧ InsAt H v i ∧ i.1 < n ∧ ∀ p H', Ext H H' → H' p = some (.tup (nums (cp n l i))) → Q (.ref p) H'
def spLetters : Sp := fun vs H Q _ => ∃ (m : Addr) (l c : List Nat), vs = [.ref m, wS c] ∧ H m = some (.tup (nums l)) ∧ (∀ k ∈ l, k < c.length) ∧ l.length ≤ 1000 ∧ c.length ≤ 1000 ∧ ∀ H', Ext H H' → Q (wS (pick c l)) H'
section
variable {P : Program} {w : World} {K : PySem.W.Frag} {mg : Str → Option Value} {base : Heap}
theorem cal_check_ring (T : Tx K mg) : C8.Cal P w K mg base 1 "check_ring" (spCkRing K) [] := by
  obtain ⟨fd, F⟩ := T.F_check_ring
  refine ⟨_, fd, ["ring"], [], fok F sc_check_ring (fun vs H Q E h => ?_) (fun cdv A outer s H vs Q E hr h => ⟨_, (pss_one (ps_if (pt_not (pt_val (pe_callB (C8.call_isC T.inRing) rfl T.f_isinstance (by decide +kernel) (pa_cons (pv 0) (pa_cons (C8.pe_gc (v := .ref (ga K "Ring")) rfl ⟨_, T.g_Ring, rfl⟩) pa_nil))))) (pss_one ps_never) pss_nil)), ?_⟩), T.g_check_ring, F.kp, F.bindsN (fun _ _ _ _ _ _ us hl => ?_), .nil⟩
  · obtain ⟨a, r, rfl, _⟩ := h
    rfl
  · obtain ⟨a, r, rfl, ⟨dx, la, wa, pa, h⟩, q⟩ := h
    exact ⟨_, rfl, a, dx, _, rfl, h.at_, true, rfl, iteF q⟩
  · obtain ⟨a, rfl⟩ := len1 hl
    rfl
theorem cal_identity_of (T : Tx K mg) : C8.Cal P w K mg base 1 "identity_of" (spIdent K) [] := by
  obtain ⟨fd, F⟩ := T.F_identity_of
  refine ⟨_, fd, ["ring"], [], fok F sc_identity_of (fun vs H Q E h => ?_) (fun cdv A outer s H vs Q E hr h => ⟨_, (pss_one (ps_ret (pe_callTy call_tuple_of rfl T.f_tuple (by decide +kernel) (pa_cons (pe_listRg rfl rfl T.f_list (prg_1 rfl T.f_range (pe_fld (pv 0) rfl))) pa_nil)))), ?_⟩), T.g_identity_of, F.kp, F.bindsN (fun _ _ _ _ _ _ us hl => ?_), .nil⟩
  · obtain ⟨a, r, rfl, _⟩ := h
    rfl
  · obtain ⟨a, r, rfl, ⟨dx, la, wa, pa, h⟩, q⟩ := h
    have hn := h.ok.hi
    refine ⟨_, rfl, a, _, _, _, _, rfl, h.at_, T.cl_Ring, T.n_Ring_size, rfl, (r.n : Int), rfl, rg_ok (by omega), fun p hp => ⟨p, _, rfl, .inl ⟨SqL.of upd_same, fun p2 hp2 => q p2 _ ((Ext.new hp).newer hp2) ?_⟩⟩⟩
    rw [upd_same, rg_nums]
  · obtain ⟨a, rfl⟩ := len1 hl
    rfl
theorem cal_is_content (T : Tx K mg) : C8.Cal P w K mg base 1 "is_content" (spIsCont K) [] := by
  obtain ⟨fd, F⟩ := T.F_is_content
  refine ⟨_, fd, ["ring", "value"], [], fok F sc_is_content (fun vs H Q E h => ?_) (fun cdv A outer s H vs Q E hr h => ⟨_, (pss_one (ps_ret (pe_and (pe_callB call_isi rfl T.f_isinstance (by decide +kernel) (pa_cons (pv 1) (pa_cons (pe_bltn (v := .ty "str") rfl T.f_str (by decide +kernel) rfl) pa_nil))) (pe_and (pe_cmpR op_eq (pe_callB call_len_str rfl T.f_len (by decide +kernel) (pa_cons (pv 1) pa_nil)) (pe_fld (pv 0) rfl) (nomark _)) (pe_one (pe_callB (cr_all rfl) rfl T.f_all (by decide +kernel) (pa_cons (pe_lc (own := [("letter", 2)]) rfl sc_is_content.nd (pi_str (pv 1)) (blkOk_by (own := [("letter", 2)]) (N := ["ring", "value", "letter"]) (sc := defScope s_is_content) (by decide +kernel)) (fun _ _ _ _ _ => (pg_name (i := 2) sc_is_content.nd rfl (Or.inl rfl))) (fun _ _ _ _ _ => pts_nil) (fun _ _ _ _ _ => (pe_cmpR op_in_sign (pv 2) (C8.pe_gc rfl T.t_LETTERS) rfl))) pa_nil))))))), ?_⟩), T.g_is_content, F.kp, F.bindsN (fun _ _ _ _ _ _ us hl => ?_), .nil⟩
  · obtain ⟨a, r, c, rfl, _⟩ := h
    rfl
  · obtain ⟨a, r, c, rfl, ⟨dx, la, wa, pa, h⟩, hc, hl, q⟩ := h
    have hn := h.ok.hi
    have sl : (S c).length = r.n := by rw [S_len, hc]
    have sz : (S c).cps.size = r.n := sl
    refine ⟨_, rfl, _, _, _, _, true, rfl, .ty "str", .base (.str _), kit_ty (by decide +kernel), true, rfl, iteT ?_⟩
    refine ⟨_, rfl, S c, rfl, by rw [sl, sizeLine_eq]; omega, _, rfl, a, _, _, _, _, rfl, h.at_, T.cl_Ring, T.n_Ring_size, rfl, rfl, true, ?_, iteT ?_⟩
    · exact congrArg V.bl (by rw [sl]; simp)
    refine ⟨_, rfl, S c, rfl, fun D hD => lc_it (walk_str (z := S c)) (LcP [] IvT (RF fun _ => .bl true) H D) (LcP.zero hD RF.zero trivial) (fun i H1 _ h1 => trivial) (fun i x H1 H2 hi1 h1 y => ?_) fun H1 h1 => ?_⟩
    · obtain ⟨rfl, x, hx, rfl⟩ := y
      obtain ⟨acc, e1, e2, e3, k, _⟩ := h1
      have hm : x ∈ c := by
        have : c[i]? = some x := by simpa using hx
        exact List.mem_of_getElem? this
      refine ⟨rfl, yes ⟨_, rfl, x, _, rfl, rfl, LcP.add hD (by rw [sizeLine_eq]; omega) e1 e3 k trivial (RF.add e2 ?_)⟩⟩
      exact congrArg V.bl (decide_eq_true (mem_letters (hl x hm)))
    · obtain ⟨acc, e1, e2, e3, k, _⟩ := h1
      refine ⟨D, (List.range (S c).cps.size).map fun _ => true, rfl, SqL.of (by rw [e3, e2, List.map_map] <;> rfl), ?_⟩
      rw [show ((List.range (S c).cps.size).map fun _ => true).all id = true from by simp [List.all_eq_true]]
      exact q _ k
  · obtain ⟨a, b, rfl⟩ := len2 hl
    rfl
theorem cal_check_content (T : Tx K mg) : C8.Cal P w K mg base 2 "check_content" (spCkCont K) [] := by
  have c_is_content : C8.Cal P w K mg base 1 "is_content" (spIsCont K) [] := cal_is_content T
  obtain ⟨fd, F⟩ := T.F_check_content
  refine ⟨_, fd, ["ring", "content"], [], fok F sc_check_content (fun vs H Q E h => ?_) (fun cdv A outer s H vs Q E hr h => ⟨_, (pss_one (ps_if (pt_not (pt_val (C8.pe_c c_is_content hr (by decide) rfl (pa_cons (pv 0) (pa_cons (pv 1) pa_nil))))) (pss_one ps_never) pss_nil)), ?_⟩), T.g_check_content, F.kp, F.bindsN (fun _ _ _ _ _ _ us hl => ?_), .nil⟩
  · obtain ⟨a, r, c, rfl, _⟩ := h
    rfl
  · obtain ⟨a, r, c, rfl, h, hc, hl, q⟩ := h
    exact ⟨_, rfl, _, rfl, a, r, c, rfl, h, hc, hl, fun H1 k1 => ⟨true, rfl, iteF (q _ k1)⟩⟩
  · obtain ⟨a, b, rfl⟩ := len2 hl
    rfl
theorem cal_is_pair (T : Tx K mg) : C8.Cal P w K mg base 1 "is_pair" spIsPair [] := by
  obtain ⟨fd, F⟩ := T.F_is_pair
  refine ⟨_, fd, ["part"], [], fok F sc_is_pair (fun vs H Q E h => ?_) (fun cdv A outer s H vs Q E hr h => ⟨_, (pss_one (ps_ret (pe_callB call_isi rfl T.f_isinstance (by decide +kernel) (pa_cons (pe_ix ix_tup (pv 0) pe_int (fun _ _ => rfl)) (pa_cons (pe_bltn (v := .ty "tuple") rfl T.f_tuple (by decide +kernel) rfl) pa_nil))))), ?_⟩), T.g_is_pair, F.kp, F.bindsN (fun _ _ _ _ _ _ us hl => ?_), .nil⟩
  · obtain ⟨v, i, rfl, _⟩ := h
    rfl
  · obtain ⟨v, i, rfl, hv, q⟩ := h
    exact ⟨_, rfl, v, _, _, _, rfl, rfl, SqT.of hv, atI0, _, _, _, _, false, rfl, .ty "tuple", .base (.int _), kit_ty (by decide +kernel), q⟩
  · obtain ⟨a, rfl⟩ := len1 hl
    rfl
theorem cal_after (T : Tx K mg) : C8.Cal P w K mg base 1 "after" spAfter [] := by
  obtain ⟨fd, F⟩ := T.F_after
  refine ⟨_, fd, ["mapping", "instruction", "size"], [], fok F sc_after (fun vs H Q E h => ?_) (fun cdv A outer s H vs Q E hr h => ⟨_, (pss_cons (ps_asg (pv 1) (pg_tup rfl (pgs_cons (pg_name (i := 3) sc_after.nd rfl (Or.inl rfl)) (pgs_cons (pg_name (i := 4) sc_after.nd rfl (Or.inl rfl)) pgs_nil))))
        (pss_cons (ps_set (i := 5) sc_after.nd rfl (Or.inl rfl) (pe_op op_mod (pe_ifExp (pt_cmpR op_eq (pv 4) (C8.pe_gc rfl T.t_LEFT) (nomark _)) (pe_op op_sub (pv 3) pe_int) (pe_op op_add (pv 3) pe_int)) (pv 2)))
        (pss_one (ps_ret (pe_op op_catA (pe_op op_catA (pe_slice sl_tupA (pv 0) po_none (po_some (pv 3))) (pe_tup (pa_cons (pe_ix ix_tup (pv 0) (pv 5) (fun _ _ => rfl)) pa_nil))) (pe_slice sl_tupA (pv 0) (po_some (pe_op op_add (pv 3) pe_int)) po_none)))))), ?_⟩), T.g_after, F.kp, F.bindsN (fun _ _ _ _ _ _ us hl => ?_), .nil⟩
  · obtain ⟨m, v, l, i, n, rfl, _⟩ := h
    rfl
  · obtain ⟨m, v, l, i, n, rfl, hm, hln, hn, hv, hi, q⟩ := h
    obtain ⟨p, b⟩ := i
    have hi : p < n := hi
    obtain ⟨x, hx, e⟩ := cp_slices (i := (p, b)) hln hi
    have hlen : (nums l).length = n := by rw [List.length_map, hln]
    refine ⟨_, rfl, v, _, rfl, SqT.of hv, rfl, _, _, rfl, _, _, rfl, rfl, ?_⟩
    have fin : ∀ z : Int, z = ((srcOf n (p, b) : Nat) : Int) → (tRet (tOp (rCatA K) (tOp (rCatA K) (tSl (rSlA K) (tVar 0) tNoPart (tPart (tVar 3))) (tTup (tCons (tOp (rIxT K) (tVar 0) (tVar 5)) tNil))) (tSl (rSlA K) (tVar 0) (tPart (tOp (rI0 fun i j => .int (i + j)) (tVar 3) (tC (.int 1)))) tNoPart)) : TS) { nx := fun _ H' => Q .non H', rt := Q }
        [some (.ref m), some (.ref v), some (.int (n : Int)), some (.int (p : Int)), some (.str (sideS b)), some (.int z)] H := fun z ez => by
      refine ⟨_, rfl, _, rfl, _, rfl, ?_⟩
      refine slA hm fun a1 H1 k1 e1 => ?_
      rw [cut_to (by omega), Int.toNat_natCast] at e1
      refine ⟨_, rfl, _, rfl, m, _, _, .int (x : Int), rfl, rfl, SqT.of (k1.at hm), ?_, by show 1 ≤ sizeLine; rw [sizeLine_eq]; omega, fun a2 h2 => ?_⟩
      · rw [ez]
        exact atI_nat (by rw [List.getElem?_map, hx] <;> rfl)
      have k2 := Ext.new (o := .tup [.int (x : Int)]) h2
      refine catA (k2.at e1) upd_same (by rw [List.length_take, hlen]; show _ + 1 ≤ _; rw [sizeLine_eq]; omega) fun a3 H3 k3 e3 => ?_
      have k123 := (k1.trans' k2).trans' k3
      refine ⟨_, rfl, _, rfl, _, _, rfl, rfl, _, rfl, ?_⟩
      unfold tNoPart
      refine slA (k123.at hm) fun a4 H4 k4 e4 => ?_
      rw [cut_from (by omega), show ((p : Int) + 1).toNat = p + 1 by omega] at e4
      refine catA (k4.at e3) e4 (by rw [List.length_append, List.length_take, List.length_drop, hlen]; show _ + 1 + _ ≤ _; rw [sizeLine_eq]; omega) fun a5 H5 k5 e5 => ?_
      refine q a5 H5 ((k123.trans' k4).trans' k5) ?_
      rw [e5, ← e]
      simp only [List.map_append, List.map_take, List.map_drop, List.map_cons, List.map_nil]
    cases b with
    | true =>
      refine ⟨_, rfl, rfl, _, rfl, iteT ⟨_, rfl, _, _, rfl, rfl, _, rfl, _, _, rfl, rfl, by show (0 : Int) < (n : Int); omega, ?_⟩⟩
      exact fin _ (left_mod (by omega))
    | false =>
      refine ⟨_, rfl, rfl, _, rfl, iteF ⟨_, rfl, _, _, rfl, rfl, _, rfl, _, _, rfl, rfl, by show (0 : Int) < (n : Int); omega, ?_⟩⟩
      exact fin _ right_mod
  · obtain ⟨a, b, c, rfl⟩ := len3 hl
    rfl
theorem cal_letters_of (T : Tx K mg) : C8.Cal P w K mg base 1 "letters_of" spLetters [] := by
  obtain ⟨fd, F⟩ := T.F_letters_of
  refine ⟨_, fd, ["mapping", "content"], [], fok F sc_letters_of (fun vs H Q E h => ?_) (fun cdv A outer s H vs Q E hr h => ⟨_, (pss_one (ps_ret (pe_join pe_str (pe_lc (own := [("place", 2)]) rfl sc_letters_of.nd (pi_tup (pv 0)) (blkOk_by (own := [("place", 2)]) (N := ["mapping", "content", "place"]) (sc := defScope s_letters_of) (by decide +kernel)) (fun _ _ _ _ _ => (pg_name (i := 2) sc_letters_of.nd rfl (Or.inl rfl))) (fun _ _ _ _ _ => pts_nil) (fun _ _ _ _ _ => (pe_ix ix_str (pv 1) (pv 2) (fun _ _ => rfl))))))), ?_⟩), T.g_letters_of, F.kp, F.bindsN (fun _ _ _ _ _ _ us hl => ?_), .nil⟩
  · obtain ⟨m, l, c, rfl, _⟩ := h
    rfl
  · obtain ⟨m, l, c, rfl, hm, hk, hl, hc, q⟩ := h
    have hlen : (nums l).length = l.length := List.length_map ..
    refine ⟨⟨_, rfl⟩, _, rfl, m, rfl, ⟨_, SqT.of hm⟩, fun D hD => lc_it (walk_tup (K := K) (xs := nums l)) (LcP [] IvT (RT (((pick c l).map fun x => S [x]).map V.str)) H D) (LcP.zero hD RT.zero trivial) (fun i H1 _ h1 => ?_) (fun i x H1 H2 hi1 h1 y => ?_) fun H1 h1 => ?_⟩
    · obtain ⟨_, _, _, _, k, _⟩ := h1
      exact SqT.of (k.at hm)
    · obtain ⟨rfl, y⟩ := y
      obtain ⟨acc, e1, e2, e3, k, _⟩ := h1
      obtain ⟨j, hj, rfl⟩ := nums_get y
      have hj2 := hk j (List.mem_of_getElem? hj)
      refine ⟨rfl, yes ⟨_, rfl, _, rfl, S c, (j : Int), c.getD j 0, rfl, rfl, by rw [S_len, sizeLine_eq]; omega, ?_, LcP.add hD (by rw [sizeLine_eq]; omega) e1 e3 k trivial (RT.add e2 ?_)⟩⟩
      · refine atI_nat ?_
        show c[j]? = _
        rw [List.getD_eq_getElem?_getD, List.getElem?_eq_getElem hj2] <;> rfl
      · unfold pick
        rw [List.getElem?_map, List.getElem?_map, List.getElem?_map, hj] <;> rfl
    · obtain ⟨acc, e1, e2, e3, k, _⟩ := h1
      rw [RT.full e2 (by unfold pick; simp)] at e3
      refine ⟨_, D, (pick c l).map fun x => S [x], rfl, rfl, .inl (SqL.of e3), ?_, ?_⟩
      · have h1 : ∀ l : List Nat, ((l.map fun x => S [x]).map (·.length)).sum = l.length := fun l => by
          induction l with
          | nil => rfl
          | cons a l ih =>
            show (S [a]).length + ((l.map fun x => S [x]).map (·.length)).sum = l.length + 1
            rw [ih, S_len]
            show 1 + _ = _
            omega
        rw [h1, eNil, S_len]
        unfold pick
        simp only [List.length_map, List.length_nil]
        omega
      · have e : ((pick c l).map fun x => S [x]) = ((pick c l).map fun x => [x]).map S := by rw [List.map_map] <;> rfl
        have e5 : ∀ l : List Nat, TL.joinL [] (l.map fun x => [x]) = l := fun l => by
          induction l with
          | nil => rfl
          | cons a l ih =>
            cases l with
            | nil => rfl
            | cons b l =>
              show [a] ++ ([] ++ TL.joinL [] ((b :: l).map fun x => [x])) = _
              rw [ih]
              rfl
        rw [e, eNil, join_S, e5]
        exact q _ k
  · obtain ⟨a, b, rfl⟩ := len2 hl
    rfl
end
end K71
set_option maxRecDepth 100000
set_option maxHeartbeats 4000000
/-! Walks 7: effect_of, the exceptions' __init__. -/
namespace K71
open PySem PySem.Spec PyProof.Rows L2 SX
theorem sc_effect_of : FnScope ["ring", "program", "found", "part"] ["ring", "program"] (defScope s_effect_of) := C8.fnScope_by (by decide +kernel)
theorem sc_InvalidInstruction_init : FnScope ["self", "instruction"] ["self", "instruction"] (defScope s_InvalidInstruction_init) := C8.fnScope_by (by decide +kernel)
theorem sc_InvalidLine_init : FnScope ["self", "line"] ["self", "line"] (defScope s_InvalidLine_init) := C8.fnScope_by (by decide +kernel)
theorem sc_TooMany_init : FnScope ["self", "limit"] ["self", "limit"] (defScope s_TooMany_init) := C8.fnScope_by (by decide +kernel)
def spEffect (K : PySem.W.Frag) : Sp := fun vs H Q _ => ∃ (a t : Addr) (r : RD) (ps : List PI), vs = [.ref a, .ref t] ∧ RingAt K H a r ∧ H t = some (.tup (refs ps)) ∧ InsL H ps ∧ (∀ q ∈ ps, q.2.1 < r.n) ∧ ∀ p H', Ext H H' → H' p = some (.tup (nums (run r.n (List.range r.n) (inss ps)))) → Q (.ref p) H'
theorem run_take {α : Type} {n : Nat} {l : List α} {is : List Ins} {j : Nat} {i : Ins} (h : is[j]? = some i) : run n l (is.take (j + 1)) = cp n (run n l (is.take j)) i := by
  rw [List.take_add_one, h]
  exact run_snoc
section
variable {P : Program} {w : World} {K : PySem.W.Frag} {mg : Str → Option Value} {base : Heap}
theorem cal_effect_of (T : Tx K mg) : C8.Cal P w K mg base 2 "effect_of" (spEffect K) [] := by
  have c_identity_of : C8.Cal P w K mg base 1 "identity_of" (spIdent K) [] := cal_identity_of T
  have c_is_pair : C8.Cal P w K mg base 1 "is_pair" spIsPair [] := cal_is_pair T
  have c_after : C8.Cal P w K mg base 1 "after" spAfter [] := cal_after T
  obtain ⟨fd, F⟩ := T.F_effect_of
  refine ⟨_, fd, ["ring", "program"], [], fok F sc_effect_of (fun vs H Q E h => ?_) (fun cdv A outer s H vs Q E hr h => ⟨_, (pss_cons (ps_set (i := 2) sc_effect_of.nd rfl (Or.inl rfl) (C8.pe_c c_identity_of hr (by decide) rfl (pa_cons (pv 0) pa_nil)))
        (pss_cons (ps_for PassesOwn.never rfl (pi_tup (pv 1)) (pg_name (i := 3) sc_effect_of.nd rfl (Or.inl rfl)) (pss_one (ps_if (pt_val (C8.pe_c c_is_pair hr (by decide) rfl (pa_cons (pv 3) pa_nil))) (pss_one ps_never) (pss_one (ps_set (i := 2) sc_effect_of.nd rfl (Or.inl rfl) (C8.pe_c c_after hr (by decide) rfl (pa_cons (pv 2) (pa_cons (pv 3) (pa_cons (pe_fld (pv 0) rfl) pa_nil)))))))))
        (pss_one (ps_ret (pv 2))))), ?_⟩), T.g_effect_of, F.kp, F.bindsN (fun _ _ _ _ _ _ us hl => ?_), .nil⟩
  · obtain ⟨a, t, r, ps, rfl, _⟩ := h
    rfl
  · obtain ⟨a, t, r, ps, rfl, h, ht, hi, hlt, q⟩ := h
    have hn : r.n ≤ 12 := by obtain ⟨_, _, _, _, h⟩ := h; exact h.ok.hi
    refine ⟨_, rfl, a, r, rfl, h, fun p H1 k1 e1 => ?_⟩
    refine ⟨_, rfl, t, rfl, ⟨_, SqT.of (k1.at ht)⟩, for_it (walk_tup (K := K) (xs := refs ps)) (fun i σ H1 => Ext H H1 ∧ ∃ p u, σ = [some (.ref a), some (.ref t), some (.ref p), u] ∧ H1 p = some (.tup (nums (run r.n (List.range r.n) ((inss ps).take i))))) ⟨k1, p, none, rfl, e1⟩ (fun i σ H1 _ h1 => SqT.of (h1.1.at ht)) (fun i x σ H1 H2 hi1 h1 y => ?_) fun σ H1 h1 => ?_⟩
    · obtain ⟨rfl, y⟩ := y
      obtain ⟨k, p, u, rfl, e⟩ := h1
      obtain ⟨q1, hq, rfl⟩ := map_get y
      have hm := List.mem_of_getElem? hq
      have hv := k.at (hi q1 hm)
      refine ⟨_, rfl, q1.1, q1.2, rfl, hv, false, rfl, iteF ?_⟩
      obtain ⟨dx, la, wa, pa, hr1⟩ := h.ext k
      refine ⟨_, rfl, _, rfl, _, rfl, a, _, _, _, _, rfl, hr1.at_, T.cl_Ring, T.n_Ring_size, rfl, p, q1.1, _, q1.2, r.n, rfl, e, by rw [run_len, List.length_range], by omega, hv, hlt q1 hm, fun p2 H3 k3 e3 => ⟨k.trans' k3, p2, _, rfl, ?_⟩⟩
      rw [e3, run_take (i := q1.2)]
      rw [List.getElem?_map, hq] <;> rfl
    · obtain ⟨k, p, u, rfl, e⟩ := h1
      refine ⟨_, rfl, q p _ k ?_⟩
      rw [e, List.take_of_length_le (by simp)]
  · obtain ⟨a, b, rfl⟩ := len2 hl
    rfl
theorem ok_II_init (T : Tx K mg) : ∃ fd, FnOk P w K mg base C8.CX0 1 (He.ma K (ga K "InvalidInstruction") "__init__") fd ["self", "instruction"] (spExI (ga K "InvalidInstruction") "instruction") ∧ Binds K fd ["self", "instruction"] [] := by
  obtain ⟨fd, F⟩ := T.F_InvalidInstruction_init
  refine ⟨fd, fok F sc_InvalidInstruction_init (fun vs H Q E h => ?_) (fun cdv A outer s H vs Q E hr h => ⟨_, (pss_one (ps_exS PySem.F.store_ValueError T.exII T.n_InvalidInstruction_instruction (pv 0) (pv 1))), ?_⟩), F.bindsN (fun _ _ _ _ _ _ us hl => ?_)⟩
  · obtain ⟨a, y, rfl, _⟩ := h
    rfl
  · obtain ⟨a, y, rfl, ha, q⟩ := h
    exact ⟨_, rfl, _, rfl, a, rfl, ha, q⟩
  · obtain ⟨a, b, rfl⟩ := len2 hl
    rfl
theorem ok_IL_init (T : Tx K mg) : ∃ fd, FnOk P w K mg base C8.CX0 1 (He.ma K (ga K "InvalidLine") "__init__") fd ["self", "line"] (spExI (ga K "InvalidLine") "line") ∧ Binds K fd ["self", "line"] [] := by
  obtain ⟨fd, F⟩ := T.F_InvalidLine_init
  refine ⟨fd, fok F sc_InvalidLine_init (fun vs H Q E h => ?_) (fun cdv A outer s H vs Q E hr h => ⟨_, (pss_one (ps_exS PySem.F.store_ValueError T.exIL T.n_InvalidLine_line (pv 0) (pv 1))), ?_⟩), F.bindsN (fun _ _ _ _ _ _ us hl => ?_)⟩
  · obtain ⟨a, y, rfl, _⟩ := h
    rfl
  · obtain ⟨a, y, rfl, ha, q⟩ := h
    exact ⟨_, rfl, _, rfl, a, rfl, ha, q⟩
  · obtain ⟨a, b, rfl⟩ := len2 hl
    rfl
theorem ok_TM_init (T : Tx K mg) : ∃ fd, FnOk P w K mg base C8.CX0 1 (He.ma K (ga K "TooMany") "__init__") fd ["self", "limit"] (spExI (ga K "TooMany") "limit") ∧ Binds K fd ["self", "limit"] [] := by
  obtain ⟨fd, F⟩ := T.F_TooMany_init
  refine ⟨fd, fok F sc_TooMany_init (fun vs H Q E h => ?_) (fun cdv A outer s H vs Q E hr h => ⟨_, (pss_one (ps_exS PySem.F.store_ArithmeticError T.exTM T.n_TooMany_limit (pv 0) (pv 1))), ?_⟩), F.bindsN (fun _ _ _ _ _ _ us hl => ?_)⟩
  · obtain ⟨a, y, rfl, _⟩ := h
    rfl
  · obtain ⟨a, y, rfl, ha, q⟩ := h
    exact ⟨_, rfl, _, rfl, a, rfl, ha, q⟩
  · obtain ⟨a, b, rfl⟩ := len2 hl
    rfl
end
end K71
set_option maxRecDepth 100000
set_option maxHeartbeats 4000000
/-! Walks 8: Recorder: __init__, __len__, __str__, __repr__, held, recorded, sources, spent, __eq__. -/
namespace K71
open PySem PySem.Spec PyProof.Rows L2 SX
theorem sc_Recorder_init : FnScope ["self", "ring", "content"] ["self", "ring", "content"] (defScope s_Recorder_init) := C8.fnScope_by (by decide +kernel)
theorem sc_Recorder_len : FnScope ["self"] ["self"] (defScope s_Recorder_len) := C8.fnScope_by (by decide +kernel)
theorem sc_Recorder_str : FnScope ["self"] ["self"] (defScope s_Recorder_str) := C8.fnScope_by (by decide +kernel)
theorem sc_Recorder_repr : FnScope ["self"] ["self"] (defScope s_Recorder_repr) := C8.fnScope_by (by decide +kernel)
theorem sc_Recorder_held : FnScope ["self"] ["self"] (defScope s_Recorder_held) := C8.fnScope_by (by decide +kernel)
theorem sc_Recorder_recorded : FnScope ["self", "instruction", "letters"] ["self"] (defScope s_Recorder_recorded) := C8.fnScope_by (by decide +kernel)
theorem sc_Recorder_sources : FnScope ["self"] ["self"] (defScope s_Recorder_sources) := C8.fnScope_by (by decide +kernel)
theorem sc_Recorder_spent : FnScope ["self", "place", "side", "letters"] ["self"] (defScope s_Recorder_spent) := C8.fnScope_by (by decide +kernel)
theorem sc_Recorder_eq : FnScope ["self", "other"] ["self", "other"] (defScope s_Recorder_eq) := C8.fnScope_by (by decide +kernel)
def spRecInit (K : PySem.W.Frag) : Sp := fun vs H Q _ => ∃ (p ra dx : Addr) (r : RD) (c : List Nat), vs = [.ref p, .ref ra, wS c] ∧ H p = some (.ins (ga K "Recorder") dx []) ∧ RingAt K H ra r ∧ c.length = r.n ∧ LetOk c ∧ ra ≠ p ∧
  ∀ d H', Kp [p] H H' → H d = none → RecP K H' p ra r c [] false 0 dx d → Q .non H'
/-- of the recorder alone -/
def spRec (K : PySem.W.Frag) (f : RD → List Nat → List DI → VK → Hp → Prop) : Sp := fun vs H Q _ => ∃ (p ra dx d : Addr) (r : RD) (c0 : List Nat) (qs : List DI) (rn : Bool) (k : Nat), vs = [.ref p] ∧ RecP K H p ra r c0 qs rn k dx d ∧ f r c0 qs Q H
abbrev pLen : RD → List Nat → List DI → VK → Hp → Prop := fun _ _ qs Q H => Q (.int (qs.length : Int)) H
abbrev pStr : RD → List Nat → List DI → VK → Hp → Prop := fun r _ qs Q H => Q (.str (recTxt r.n qs.length)) H
abbrev pHeld : RD → List Nat → List DI → VK → Hp → Prop := fun r c0 qs Q H => Q (wS (run r.n c0 (isD qs))) H
abbrev pRecd : RD → List Nat → List DI → VK → Hp → Prop := fun _ _ qs Q H => ∀ t H', Ext H H' → H' t = some (.tup (refs (psD qs))) → Q (.ref t) H'
abbrev pSrc : RD → List Nat → List DI → VK → Hp → Prop := fun r _ qs Q H => ∀ t H', Ext H H' → H' t = some (.tup (nums (run r.n (List.range r.n) (isD qs)))) → Q (.ref t) H'
abbrev pSpent : RD → List Nat → List DI → VK → Hp → Prop := fun r _ qs Q H => ∀ H', Ext H H' → Q (.int (spent r (isD qs) : Int)) H'
section
variable {P : Program} {w : World} {K : PySem.W.Frag} {mg : Str → Option Value} {base : Heap}
theorem mak_Recorder (T : Tx K mg) : C8.Mak P w K mg base 3 "Recorder" (ga K "Recorder") (spRecInit K) [] := by
  have c_check_ring : C8.Cal P w K mg base 1 "check_ring" (spCkRing K) [] := cal_check_ring T
  have c_check_content : C8.Cal P w K mg base 2 "check_content" (spCkCont K) [] := cal_check_content T
  obtain ⟨fd, F⟩ := T.F_Recorder_init
  refine ⟨_, fd, ["self", "ring", "content"], [], T.mk_Recorder, fok F sc_Recorder_init (fun vs H Q E h => ?_) (fun cdv A outer s H vs Q E hr h => ⟨_, (pss_cons (ps_expr (C8.pe_c c_check_ring hr (by decide) rfl (pa_cons (pv 1) pa_nil)))
        (pss_cons (ps_expr (C8.pe_c c_check_content hr (by decide) rfl (pa_cons (pv 1) (pa_cons (pv 2) pa_nil))))
        (pss_cons (ps_fld (pv 0) (pv 1) rfl)
        (pss_cons (ps_fld (pv 0) pe_bl rfl)
        (pss_cons (ps_fld (pv 0) pe_int rfl)
        (pss_cons (ps_fld (pv 0) (pv 2) rfl)
        (pss_one (ps_fld (pv 0) (pe_lst pa_nil) rfl)))))))), ?_⟩), T.g_Recorder, F.bindsN (fun _ _ _ _ _ _ us hl => ?_), .nil⟩
  · obtain ⟨p, ra, dx, r, c, rfl, _⟩ := h
    rfl
  · obtain ⟨p, ra, dx, r, c, rfl, hp, hr, hc, hl, ne, q⟩ := h
    refine ⟨_, rfl, ra, r, rfl, hr, ?_⟩
    refine ⟨_, rfl, _, rfl, ra, r, c, rfl, hr, hc, hl, fun H1 k1 => ?_⟩
    refine ⟨_, rfl, _, rfl, p, _, _, _, rfl, k1.at hp, T.cl_Recorder, T.n_Recorder_ring, (by show 0 < 1000; decide), ?_⟩
    refine ⟨_, rfl, p, _, _, _, rfl, upd_same, T.cl_Recorder, T.n_Recorder_running, (by show 1 < 1000; decide), ?_⟩
    refine ⟨_, rfl, p, _, _, _, rfl, upd_same, T.cl_Recorder, T.n_Recorder_runs, (by show 2 < 1000; decide), ?_⟩
    refine ⟨_, rfl, _, rfl, p, _, _, _, rfl, upd_same, T.cl_Recorder, T.n_Recorder_letters, (by show 3 < 1000; decide), ?_⟩
    refine ⟨by show 0 ≤ sizeLine; omega, fun d hd => ⟨_, rfl, p, _, _, _, rfl, (upd_ne (ne_of_none upd_same hd)).trans upd_same, T.cl_Recorder, T.n_Recorder_done, (by show 4 < 1000; decide), ?_⟩⟩
    have npd : p ≠ d := ne_of_none upd_same hd
    have hd1 : H1 d = none := by
      rw [upd_ne (Ne.symm npd), upd_ne (Ne.symm npd), upd_ne (Ne.symm npd), upd_ne (Ne.symm npd)] at hd
      exact hd
    have hd0 : H d = none := by
      cases e : H d with
      | none => rfl
      | some o => rw [k1.at e] at hd1; cases hd1
    refine (fun kk => q d _ kk hd0 ?body) ?kk
    case kk =>
      intro b o e n
      have hb : b ≠ p := by simpa using n
      rw [upd_ne hb, upd_ne (ne_of_none (k1.at e) hd1), upd_ne hb, upd_ne hb, upd_ne hb, upd_ne hb]
      exact k1.at e
    refine ⟨upd_same, hr.kpS kk (by simpa using ne) (fun s hs x => ?_), ?_, fun i q1 e => (by simp at e), hc, hl, fun q1 hq => (by simp at hq), by simp, ne⟩
    · rw [List.mem_singleton.mp hs, hp]
      intro z
      cases z
    · rw [upd_ne (Ne.symm npd), upd_same]
      rfl
  · obtain ⟨a, b, c, rfl⟩ := len3 hl
    rfl
theorem ok_Recorder_len (T : Tx K mg) : ∃ fd, FnOk P w K mg base C8.CX0 1 (He.ma K (ga K "Recorder") "__len__") fd ["self"] (spRec K pLen) ∧ Binds K fd ["self"] [] := by
  obtain ⟨fd, F⟩ := T.F_Recorder_len
  refine ⟨fd, fok F sc_Recorder_len (fun vs H Q E h => ?_) (fun cdv A outer s H vs Q E hr h => ⟨_, (pss_one (ps_ret (pe_callB call_len_seq rfl T.f_len (by decide +kernel) (pa_cons (pe_fld (pv 0) rfl) pa_nil)))), ?_⟩), F.bindsN (fun _ _ _ _ _ _ us hl => ?_)⟩
  · obtain ⟨p, ra, dx, d, r, c0, qs, rn, k, rfl, _⟩ := h
    rfl
  · obtain ⟨p, ra, dx, d, r, c0, qs, rn, k, rfl, h, q⟩ := h
    refine ⟨_, rfl, p, _, _, _, _, rfl, h.at_, T.cl_Recorder, T.n_Recorder_done, rfl, _, _, rfl, .inl (SqL.of h.dn), ?_⟩
    rw [List.length_map]
    exact q
  · obtain ⟨a, rfl⟩ := len1 hl
    rfl
theorem ok_Recorder_str (T : Tx K mg) : ∃ fd, FnOk P w K mg base C8.CX0 1 (He.ma K (ga K "Recorder") "__str__") fd ["self"] (spRec K pStr) ∧ Binds K fd ["self"] [] := by
  obtain ⟨fd, F⟩ := T.F_Recorder_str
  refine ⟨fd, fok F sc_Recorder_str (fun vs H Q E h => ?_) (fun cdv A outer s H vs Q E hr h => ⟨_, (pss_one (ps_ret (pe_joined (PJ.cons pe_str (PJ.cons (pe_fmt (pe_fld (pe_fld (pv 0) rfl) rfl)) (PJ.cons pe_str (PJ.cons (pe_fmt (pe_callB call_len_seq rfl T.f_len (by decide +kernel) (pa_cons (pe_fld (pv 0) rfl) pa_nil))) (PJ.cons pe_str PJ.nil)))))))), ?_⟩), F.bindsN (fun _ _ _ _ _ _ us hl => ?_)⟩
  · obtain ⟨p, ra, dx, d, r, c0, qs, rn, k, rfl, _⟩ := h
    rfl
  · obtain ⟨p, ra, dx, d, r, c0, qs, rn, k, rfl, h, q⟩ := h
    have hle := h.le
    obtain ⟨dr, la, wa, pa, hr1⟩ := h.ring
    have hn := hr1.ok.hi
    have l1 := numL_len4 (show r.n < 10000 by omega)
    have l2 := numL_len4 (show qs.length < 10000 by omega)
    have z : ∀ l : List Nat, l.length ≤ 100 → (S l).length ≤ sizeLine := fun l hl => by rw [S_len, sizeLine_eq]; omega
    have en : ∀ m : Nat, ((toString (m : Int) : String) : Str) = S (TL.numL m) := num_S
    have e0 : Str.empty ++ (("Recorder(" : String) : Str) = S [82, 101, 99, 111, 114, 100, 101, 114, 40] := by decide +kernel
    refine ⟨_, rfl, ?_, ?_⟩
    · rw [e0]; exact z _ (by decide)
    rw [e0]
    refine ⟨_, rfl, p, _, _, _, _, rfl, h.at_, T.cl_Recorder, T.n_Recorder_ring, rfl, ra, _, _, _, _, rfl, hr1.at_, T.cl_Ring, T.n_Ring_size, rfl, .inr ⟨(r.n : Int), rfl, log_small (by omega), _, rfl, ?_, ?_⟩⟩
    · rw [en, S_cat]; exact z _ (by simp; omega)
    rw [en, S_cat]
    refine ⟨_, rfl, ?_, ?_⟩
    · rw [eComma, S_cat]; exact z _ (by simp; omega)
    rw [eComma, S_cat]
    refine ⟨_, rfl, p, _, _, _, _, rfl, h.at_, T.cl_Recorder, T.n_Recorder_done, rfl, _, _, rfl, .inl (SqL.of h.dn), .inr ⟨(qs.length : Int), ?_, log_small (by omega), _, rfl, ?_, ?_⟩⟩
    · rw [List.length_map]
    · rw [en, S_cat]; exact z _ (by simp; omega)
    rw [en, S_cat]
    refine ⟨_, rfl, ?_, ?_⟩
    · rw [eClose, S_cat]; exact z _ (by simp; omega)
    rw [eClose, S_cat]
    exact q
  · obtain ⟨a, rfl⟩ := len1 hl
    rfl
theorem ok_Recorder_repr (T : Tx K mg) : ∃ fd, FnOk P w K mg base C8.CX0 4 (He.ma K (ga K "Recorder") "__repr__") fd ["self"] (spRec K pStr) ∧ Binds K fd ["self"] [] := by
  obtain ⟨fd1, F1, b1⟩ := ok_Recorder_str (P := P) (w := w) (base := base) T
  obtain ⟨fd, F⟩ := T.F_Recorder_repr
  refine ⟨fd, fok F sc_Recorder_repr (fun vs H Q E h => ?_) (fun cdv A outer s H vs Q E hr h => ⟨_, (pss_one (ps_ret (pe_callTy (call_strO (C := ga K "Recorder") F1 b1 T.m_Recorder_str (hr.mono (by decide))) rfl T.f_str (by decide +kernel) (pa_cons (pv 0) pa_nil)))), ?_⟩), F.bindsN (fun _ _ _ _ _ _ us hl => ?_)⟩
  · obtain ⟨p, ra, dx, d, r, c0, qs, rn, k, rfl, _⟩ := h
    rfl
  · obtain ⟨p, ra, dx, d, r, c0, qs, rn, k, rfl, h, q⟩ := h
    exact ⟨_, rfl, p, dx, _, rfl, h.at_, p, ra, dx, d, r, c0, qs, rn, k, rfl, h, _, rfl, q⟩
  · obtain ⟨a, rfl⟩ := len1 hl
    rfl
theorem met_held (T : Tx K mg) : C8.Met P w K mg base 1 (ga K "Recorder") "held" (spRec K pHeld) [] := by
  obtain ⟨fd, F⟩ := T.F_Recorder_held
  refine ⟨_, fd, ["self"], [], T.cl_Recorder, T.m_Recorder_held, fok F sc_Recorder_held (fun vs H Q E h => ?_) (fun cdv A outer s H vs Q E hr h => ⟨_, (pss_one (ps_ret (pe_fld (pv 0) rfl))), ?_⟩), F.bindsN (fun _ _ _ _ _ _ us hl => ?_), .nil⟩
  · obtain ⟨p, ra, dx, d, r, c0, qs, rn, k, rfl, _⟩ := h
    rfl
  · obtain ⟨p, ra, dx, d, r, c0, qs, rn, k, rfl, h, q⟩ := h
    exact ⟨_, rfl, p, _, _, _, _, rfl, h.at_, T.cl_Recorder, T.n_Recorder_letters, rfl, q⟩
  · obtain ⟨a, rfl⟩ := len1 hl
    rfl
end
end K71
set_option maxRecDepth 100000
set_option maxHeartbeats 4000000
/-! Walks 9: recorded, sources, spent, Recorder's __eq__. -/
namespace K71
open PySem PySem.Spec PyProof.Rows L2 SX
/-- two recorders of one ring and one content -/
def spRecEq (K : PySem.W.Frag) : Sp := fun vs H Q _ => ∃ (p p2 ra dx d dx2 d2 : Addr) (r : RD) (c0 c2 : List Nat) (qs qs2 : List DI) (rn rn2 : Bool) (k k2 : Nat), vs = [.ref p, .ref p2] ∧ RecP K H p ra r c0 qs rn k dx d ∧ RecP K H p2 ra r c2 qs2 rn2 k2 dx2 d2 ∧ run r.n c0 (isD qs) = run r.n c2 (isD qs2) ∧ ∀ H', Ext H H' → Q (.bl true) H'
theorem nat_sum : ∀ l : List Nat, (l.map fun (k : Nat) => (k : Int)).sum = ((l.sum : Nat) : Int)
  | [] => rfl
  | a :: l => by
    rw [List.map_cons, List.sum_cons, List.sum_cons, nat_sum l]
    omega
section
variable {P : Program} {w : World} {K : PySem.W.Frag} {mg : Str → Option Value} {base : Heap}
theorem met_recorded (T : Tx K mg) : C8.Met P w K mg base 1 (ga K "Recorder") "recorded" (spRec K pRecd) [] := by
  obtain ⟨fd, F⟩ := T.F_Recorder_recorded
  refine ⟨_, fd, ["self"], [], T.cl_Recorder, T.m_Recorder_recorded, fok F sc_Recorder_recorded (fun vs H Q E h => ?_) (fun cdv A outer s H vs Q E hr h => ⟨_, (pss_one (ps_ret (pe_callTy call_tuple_of rfl T.f_tuple (by decide +kernel) (pa_cons (pe_lc (own := [("instruction", 1), ("letters", 2)]) (g := (gTup K 2 (gCons (gName 1) (gCons (gName 2) gNil)))) rfl sc_Recorder_recorded.nd (pi_list (pe_fld (pv 0) rfl)) (blkOk_by (own := [("instruction", 1), ("letters", 2)]) (N := ["self", "instruction", "letters"]) (sc := defScope s_Recorder_recorded) (by decide +kernel)) (fun _ _ _ _ _ => (pg_tup rfl (pgs_cons (pg_name (i := 1) sc_Recorder_recorded.nd rfl (Or.inl rfl)) (pgs_cons (pg_name (i := 2) sc_Recorder_recorded.nd rfl (Or.inl rfl)) pgs_nil)))) (fun _ _ _ _ _ => pts_nil) (fun _ _ _ _ _ => (pv 1))) pa_nil)))), ?_⟩), F.bindsN (fun _ _ _ _ _ _ us hl => ?_), .nil⟩
  · obtain ⟨p, ra, dx, d, r, c0, qs, rn, k, rfl, _⟩ := h
    rfl
  · obtain ⟨p, ra, dx, d, r, c0, qs, rn, k, rfl, h, q⟩ := h
    have hle := h.le
    refine ⟨_, rfl, p, _, _, _, _, rfl, h.at_, T.cl_Recorder, T.n_Recorder_done, rfl, d, rfl, ⟨_, SqL.of h.dn⟩, fun D hD => lc_it (walk_list (K := K) (xs := refD qs)) (LcP [] IvT (RT (refs (psD qs))) H D) (LcP.zero hD RT.zero trivial) (fun i H1 _ h1 => ?_) (fun i x H1 H2 hi1 h1 y => ?_) fun H1 h1 => ?_⟩
    · obtain ⟨_, _, _, _, k, _⟩ := h1
      exact SqL.of (k.at h.dn)
    · obtain ⟨rfl, y⟩ := y
      obtain ⟨acc, e1, e2, e3, k1, _⟩ := h1
      obtain ⟨q1, hq, rfl⟩ := map_get y
      obtain ⟨g1, g2⟩ := h.el i q1 hq
      rw [List.length_map] at hi1
      refine ⟨q1.1, _, rfl, SqT.of (k1.at g1), rfl, _, _, rfl, _, _, rfl, rfl, rfl, yes ⟨_, rfl, LcP.add hD (by rw [sizeLine_eq]; omega) e1 e3 k1 trivial (RT.add e2 ?_)⟩⟩
      rw [List.getElem?_map, List.getElem?_map, hq] <;> rfl
    · obtain ⟨acc, e1, e2, e3, k1, _⟩ := h1
      rw [RT.full e2 (by simp)] at e3
      exact ⟨D, _, rfl, .inl ⟨SqL.of e3, fun t ht => q t _ (k1.newer ht) upd_same⟩⟩
  · obtain ⟨a, rfl⟩ := len1 hl
    rfl
theorem met_sources (T : Tx K mg) : C8.Met P w K mg base 3 (ga K "Recorder") "sources" (spRec K pSrc) [] := by
  have m_recorded : C8.Met P w K mg base 1 (ga K "Recorder") "recorded" (spRec K pRecd) [] := met_recorded T
  have c_effect_of : C8.Cal P w K mg base 2 "effect_of" (spEffect K) [] := cal_effect_of T
  obtain ⟨fd, F⟩ := T.F_Recorder_sources
  refine ⟨_, fd, ["self"], [], T.cl_Recorder, T.m_Recorder_sources, fok F sc_Recorder_sources (fun vs H Q E h => ?_) (fun cdv A outer s H vs Q E hr h => ⟨_, (pss_one (ps_ret (C8.pe_c c_effect_of hr (by decide) rfl (pa_cons (pe_fld (pv 0) rfl) (pa_cons (C8.pe_mt0 m_recorded hr (by decide) (pv 0)) pa_nil))))), ?_⟩), F.bindsN (fun _ _ _ _ _ _ us hl => ?_), .nil⟩
  · obtain ⟨p, ra, dx, d, r, c0, qs, rn, k, rfl, _⟩ := h
    rfl
  · obtain ⟨p, ra, dx, d, r, c0, qs, rn, k, rfl, h, q⟩ := h
    refine ⟨_, rfl, p, _, _, _, _, rfl, h.at_, T.cl_Recorder, T.n_Recorder_ring, rfl, _, rfl, p, dx, _, rfl, h.at_, rfl, p, ra, dx, d, r, c0, qs, rn, k, rfl, h, fun t H1 k1 e1 => ?_⟩
    refine ⟨ra, t, r, psD qs, rfl, h.ring.ext k1, e1, h.insL.ext k1, fun x hx => ?_, fun t2 H2 k2 e2 => q t2 H2 (k1.trans' k2) ?_⟩
    · obtain ⟨q1, hq, rfl⟩ := List.mem_map.mp hx
      exact (h.io q1 hq).1
    · rw [e2, show inss (psD qs) = isD qs from by simp [List.map_map]]
  · obtain ⟨a, rfl⟩ := len1 hl
    rfl
theorem met_spent (T : Tx K mg) : C8.Met P w K mg base 1 (ga K "Recorder") "spent" (spRec K pSpent) [] := by
  obtain ⟨fd, F⟩ := T.F_Recorder_spent
  refine ⟨_, fd, ["self"], [], T.cl_Recorder, T.m_Recorder_spent, fok F sc_Recorder_spent (fun vs H Q E h => ?_) (fun cdv A outer s H vs Q E hr h => ⟨_, (pss_one (ps_ret (pe_callB (cr_sum rfl) rfl T.f_sum (by decide +kernel) (pa_cons (pe_lc (own := [("letters", 3), ("place", 1), ("side", 2)]) (te := tOp (rIxT K) (tFld K (tFld K (tVar 0) "ring") "prices") (tVar 1)) (g := (gTup K 2 (gCons (gTup K 2 (gCons (gName 1) (gCons (gName 2) gNil))) (gCons (gName 3) gNil)))) rfl sc_Recorder_spent.nd (pi_list (pe_fld (pv 0) rfl)) (blkOk_by (own := [("letters", 3), ("place", 1), ("side", 2)]) (N := ["self", "place", "side", "letters"]) (sc := defScope s_Recorder_spent) (by decide +kernel)) (fun _ _ _ _ _ => (pg_tup rfl (pgs_cons (pg_tup rfl (pgs_cons (pg_name (i := 1) sc_Recorder_spent.nd rfl (Or.inl rfl)) (pgs_cons (pg_name (i := 2) sc_Recorder_spent.nd rfl (Or.inl rfl)) pgs_nil))) (pgs_cons (pg_name (i := 3) sc_Recorder_spent.nd rfl (Or.inl rfl)) pgs_nil)))) (fun _ _ _ _ _ => pts_nil) (fun _ _ _ _ _ => (pe_ix ix_tup (pe_fld (pe_fld (pv 0) rfl) rfl) (pv 1) (fun _ _ => rfl)))) pa_nil)))), ?_⟩), F.bindsN (fun _ _ _ _ _ _ us hl => ?_), .nil⟩
  · obtain ⟨p, ra, dx, d, r, c0, qs, rn, k, rfl, _⟩ := h
    rfl
  · obtain ⟨p, ra, dx, d, r, c0, qs, rn, k, rfl, h, q⟩ := h
    have hle := h.le
    refine ⟨_, rfl, p, _, _, _, _, rfl, h.at_, T.cl_Recorder, T.n_Recorder_done, rfl, d, rfl, ⟨_, SqL.of h.dn⟩, fun D hD => lc_it (walk_list (K := K) (xs := refD qs)) (LcP [] IvT (RT (nums (qs.map fun q => r.pr.getD q.2.2.1 0))) H D) (LcP.zero hD RT.zero trivial) (fun i H1 _ h1 => ?_) (fun i x H1 H2 hi1 h1 y => ?_) fun H1 h1 => ?_⟩
    · obtain ⟨_, _, _, _, k, _⟩ := h1
      exact SqL.of (k.at h.dn)
    · obtain ⟨rfl, y⟩ := y
      obtain ⟨acc, e1, e2, e3, k1, _⟩ := h1
      obtain ⟨q1, hq, rfl⟩ := map_get y
      obtain ⟨g1, g2⟩ := h.el i q1 hq
      rw [List.length_map] at hi1
      have hm := h.io q1 (List.mem_of_getElem? hq)
      obtain ⟨dr, la, wa, pa, hr1⟩ := h.ring.ext k1
      have hpr : q1.2.2.1 < r.pr.length := by rw [hr1.ok.prn]; exact hm.1
      refine ⟨q1.1, _, rfl, SqT.of (k1.at g1), rfl, _, _, rfl, ⟨q1.2.1, _, rfl, SqT.of (k1.at g2), rfl, _, _, rfl, _, _, rfl, rfl, ?_⟩⟩
      refine ⟨_, _, rfl, rfl, rfl, yes ⟨_, rfl, p, _, _, _, _, rfl, k1.at h.at_, T.cl_Recorder, T.n_Recorder_ring, rfl, ra, _, _, _, _, rfl, hr1.at_, T.cl_Ring, T.n_Ring_prices, rfl, _, rfl, pa, _, _, .int ((r.pr.getD q1.2.2.1 0 : Nat) : Int), rfl, rfl, SqT.of hr1.pa, atI_nat ?_, LcP.add hD (by rw [sizeLine_eq]; omega) e1 e3 k1 trivial (RT.add e2 ?_)⟩⟩
      · rw [List.getElem?_map, List.getElem?_eq_getElem hpr, List.getD_eq_getElem?_getD, List.getElem?_eq_getElem hpr] <;> rfl
      · rw [List.getElem?_map, List.getElem?_map, hq] <;> rfl
    · obtain ⟨acc, e1, e2, e3, k1, _⟩ := h1
      rw [RT.full e2 (by simp)] at e3
      refine ⟨D, (qs.map fun q => r.pr.getD q.2.2.1 0).map fun (k : Nat) => (k : Int), rfl, SqL.of (by rw [e3, List.map_map] <;> rfl), ?_⟩
      rw [nat_sum]
      have := q H1 k1
      unfold spent at this
      rw [List.map_map] at this
      exact this
  · obtain ⟨a, rfl⟩ := len1 hl
    rfl
theorem ok_Recorder_eq (T : Tx K mg) : ∃ fd, FnOk P w K mg base C8.CX0 2 (He.ma K (ga K "Recorder") "__eq__") fd ["self", "other"] (spRecEq K) ∧ Binds K fd ["self", "other"] [] := by
  obtain ⟨fd1, F0, b1⟩ := ok_Ring_eq (P := P) (w := w) (base := base) T
  have F1 : FnOk P w K mg base C8.CX0 1 (He.ma K (ga K "Ring") "__eq__") fd1 ["self", "other"] (spEq fun a b H => a = b ∧ ∃ r, RingAt K H a r) := F0.imp fun vs H Q E h => by
    obtain ⟨a, b, rfl, ⟨rfl, r, h⟩, q⟩ := h
    exact ⟨a, r, rfl, h, q H fun _ _ e => e⟩
  obtain ⟨fd, F⟩ := T.F_Recorder_eq
  refine ⟨fd, fok F sc_Recorder_eq (fun vs H Q E h => ?_) (fun cdv A outer s H vs Q E hr h => ⟨_, (pss_one (ps_ret (pe_and (pe_callB (C8.call_isC T.inRec) rfl T.f_isinstance (by decide +kernel) (pa_cons (pv 1) (pa_cons (C8.pe_gc (v := .ref (ga K "Recorder")) rfl ⟨_, T.g_Recorder, rfl⟩) pa_nil))) (pe_and (pe_cmpR (op_eqG (rcG_ins (C := ga K "Ring") F1 T.m_Ring_eq.at_ T.m_Ring_eq.fn b1 (C8.pass0 (E := C8.E0))) hr) (pe_fld (pv 0) rfl) (pe_fld (pv 1) rfl) (nomark _)) (pe_one (pe_cmpR op_eq (pe_fld (pv 0) rfl) (pe_fld (pv 1) rfl) (nomark _))))))), ?_⟩), F.bindsN (fun _ _ _ _ _ _ us hl => ?_)⟩
  · obtain ⟨p, p2, ra, dx, d, dx2, d2, r, c0, c2, qs, qs2, rn, rn2, k, k2, rfl, _⟩ := h
    rfl
  · obtain ⟨p, p2, ra, dx, d, dx2, d2, r, c0, c2, qs, qs2, rn, rn2, k, k2, rfl, h, h2, e, q⟩ := h
    obtain ⟨dr, la, wa, pa, hr1⟩ := h.ring
    refine ⟨_, rfl, p2, dx2, _, rfl, h2.at_, true, rfl, iteT ?_⟩
    refine ⟨_, rfl, p, _, _, _, _, rfl, h.at_, T.cl_Recorder, T.n_Recorder_ring, rfl, _, rfl, p2, _, _, _, _, rfl, h2.at_, T.cl_Recorder, T.n_Recorder_ring, rfl, ⟨ra, ra, dr, dr, _, _, rfl, rfl, hr1.at_, hr1.at_, rfl, r, h.ring⟩, fun H1 k1 => ⟨true, rfl, iteT ?_⟩⟩
    refine ⟨_, rfl, p, _, _, _, _, rfl, k1 _ _ h.at_, T.cl_Recorder, T.n_Recorder_letters, rfl, _, rfl, p2, _, _, _, _, rfl, k1 _ _ h2.at_, T.cl_Recorder, T.n_Recorder_letters, rfl, rfl, ?_⟩
    rw [e, decide_eq_true rfl]
    exact q _ fun b o e _ => k1 b o e
  · obtain ⟨a, b, rfl⟩ := len2 hl
    rfl
end
end K71
set_option maxRecDepth 100000
set_option maxHeartbeats 4000000
/-! Walks 10: write, undo. -/
namespace K71
open PySem PySem.Spec PyProof.Rows L2 SX
theorem sc_Recorder_write : FnScope ["self", "instruction"] ["self", "instruction"] (defScope s_Recorder_write) := C8.fnScope_by (by decide +kernel)
def spWrite (K : PySem.W.Frag) : Sp := fun vs H Q E => ∃ (p ra dx d : Addr) (r : RD) (c0 : List Nat) (qs : List DI) (rn : Bool) (k : Nat) (x : V), vs = [.ref p, x] ∧ RecP K H p ra r c0 qs rn k dx d ∧
  ((∃ v i, x = .ref v ∧ InsAt H v i ∧ InsOk r i ∧ qs.length < 400 ∧ ∀ H' b, Kp [p, d] H H' → RecP K H' p ra r c0 (qs ++ [(b, (v, i))]) rn k dx d → Q .non H') ∨
   (∃ v i, x = .ref v ∧ InsAt H v i ∧ InsOk r i ∧ qs.length = 400 ∧ ∀ H' dd, Ext H H' → H dd = none → H' dd = some (.xd [("limit", .int 400)]) → E (.ref (ga K "TooMany")) (some dd) H') ∨
   (∃ kk, OddAt H r.n kk x ∧ ∀ H' dd, Ext H H' → H dd = none → H' dd = some (.xd [("instruction", x)]) → E (.ref (ga K "InvalidInstruction")) (some dd) H'))
theorem isD_snoc {qs : List DI} {b v : Addr} {i : Ins} : isD (qs ++ [(b, (v, i))]) = isD qs ++ [i] := by simp
theorem EntAt.snoc {H : Hp} {n : Nat} {c0 : List Nat} {qs : List DI} {b v : Addr} {i : Ins} (h : EntAt H n c0 qs) (hb : H b = some (.tup [.ref v, wS (run n c0 (isD qs))])) (hv : InsAt H v i) : EntAt H n c0 (qs ++ [(b, (v, i))]) := fun j q e => by
  by_cases hj : j < qs.length
  · rw [List.getElem?_append_left hj] at e
    have := h j q e
    rw [isD_snoc, List.take_append_of_le_length (by simp; omega)]
    exact this
  · rw [List.getElem?_append_right (by omega)] at e
    have hj2 : j - qs.length = 0 := by
      cases z : j - qs.length with
      | zero => rfl
      | succ m => rw [z] at e; simp at e
    rw [hj2] at e
    cases e
    have hl : j = (isD qs).length := by simp; omega
    rw [isD_snoc, List.take_append_of_le_length (by omega), List.take_of_length_le (by omega)]
    exact ⟨hb, hv⟩
theorem none_of_ext {H H' : Hp} {d : Addr} (k : Ext H H') (h : H' d = none) : H d = none := by
  cases e : H d with
  | none => rfl
  | some o => rw [k.at e] at h; cases h
section
variable {P : Program} {w : World} {K : PySem.W.Frag} {mg : Str → Option Value} {base : Heap}
theorem ok_Recorder_write (T : Tx K mg) : ∃ fd, FnOk P w K mg base (L2N.CX P w) 3 (He.ma K (ga K "Recorder") "write") fd ["self", "instruction"] (spWrite K) ∧ Binds K fd ["self", "instruction"] [] := by
  have m_allows : C8.Met P w K mg base 2 (ga K "Ring") "allows" (spAllows K) [] := met_allows T
  have c_identity_of : C8.Cal P w K mg base 1 "identity_of" (spIdent K) [] := cal_identity_of T
  have c_after : C8.Cal P w K mg base 1 "after" spAfter [] := cal_after T
  have c_letters_of : C8.Cal P w K mg base 1 "letters_of" spLetters [] := cal_letters_of T
  obtain ⟨fd1, F1, b1⟩ := ok_II_init (P := P) (w := w) (base := base) T
  obtain ⟨fd2, F2, b2⟩ := ok_TM_init (P := P) (w := w) (base := base) T
  obtain ⟨fd, F⟩ := T.F_Recorder_write
  refine ⟨fd, F.ok sc_Recorder_write (fun vs H Q E h => ?_) (fun cdv A outer s H vs Q E hr h => ⟨_, (pss_cons (ps_if (pt_not (pt_val (C8.pe_mt m_allows hr (by decide) (pe_fld (pv 0) rfl) (pa_cons (pv 1) pa_nil)))) (pss_one (L2N.ps_raise rfl (L2N.takes_of rfl rfl rfl rfl) (pmk_xN PySem.F.excBase_ValueError T.exII T.k_InvalidInstruction F1 hr b1 rfl T.g_InvalidInstruction (pa_cons (pv 1) pa_nil)))) pss_nil)
        (pss_cons (ps_if (pt_cmpR op_ge (pe_callB call_len_seq rfl T.f_len (by decide +kernel) (pa_cons (pe_fld (pv 0) rfl) pa_nil)) (C8.pe_gc rfl T.i_MAX_RECORDS) (nomark _)) (pss_one (L2N.ps_raise rfl (L2N.takes_of rfl rfl rfl rfl) (pmk_xN PySem.F.excBase_ArithmeticError T.exTM T.k_TooMany F2 hr b2 rfl T.g_TooMany (pa_cons (C8.pe_gc rfl T.i_MAX_RECORDS) pa_nil)))) pss_nil)
        (pss_cons (ps_expr (pe_bm PySem.F.plainAttrs_list PySem.F.slot_list_append PySem.F.type_list_append mt_append (pe_fld (pv 0) rfl) (pa_cons (pe_tup (pa_cons (pv 1) (pa_cons (pe_fld (pv 0) rfl) pa_nil))) pa_nil)))
        (pss_one (ps_fld (pv 0) (C8.pe_c c_letters_of hr (by decide) rfl (pa_cons (C8.pe_c c_after hr (by decide) rfl (pa_cons (C8.pe_c c_identity_of hr (by decide) rfl (pa_cons (pe_fld (pv 0) rfl) pa_nil)) (pa_cons (pv 1) (pa_cons (pe_fld (pe_fld (pv 0) rfl) rfl) pa_nil)))) (pa_cons (pe_fld (pv 0) rfl) pa_nil))) rfl))))), ?_⟩), F.bindsN (fun _ _ _ _ _ _ us hl => ?_)⟩
  · obtain ⟨p, ra, dx, d, r, c0, qs, rn, k, x, rfl, _⟩ := h
    rfl
  · obtain ⟨p, ra, dx, d, r, c0, qs, rn, k, x, rfl, h, hx⟩ := h
    have hle := h.le
    obtain ⟨dr, la, wa, pa, hr1⟩ := h.ring
    have hn := hr1.ok.hi
    have hn0 := hr1.ok.lo
    refine ⟨_, rfl, p, _, _, _, _, rfl, h.at_, T.cl_Recorder, T.n_Recorder_ring, rfl, ra, dr, _, rfl, hr1.at_, rfl, _, rfl, ra, r, x, ?_⟩
    rcases hx with ⟨v, i, rfl, hv, hi, hlt, q⟩ | ⟨v, i, rfl, hv, hi, hlt, q⟩ | ⟨kk, ho, q⟩
    · refine ⟨true, rfl, h.ring, .inl ⟨v, i, rfl, hv, hi, rfl⟩, fun H1 k1 => ⟨true, rfl, iteF ?_⟩⟩
      have h1 := h.ext k1
      refine ⟨_, rfl, p, _, _, _, _, rfl, h1.at_, T.cl_Recorder, T.n_Recorder_done, rfl, d, _, rfl, .inl (SqL.of h1.dn), _, _, rfl, rfl, _, rfl, ?_⟩
      rw [List.length_map, decide_eq_false (show ¬ (400 : Int) ≤ ((qs.length : Nat) : Int) by omega)]
      refine iteF ⟨_, rfl, p, _, _, _, _, rfl, h1.at_, T.cl_Recorder, T.n_Recorder_done, rfl, .inl ⟨rfl, _, SqL.of h1.dn⟩, ?_⟩
      refine ⟨_, rfl, _, rfl, p, _, _, _, _, rfl, h1.at_, T.cl_Recorder, T.n_Recorder_letters, rfl, by show 2 ≤ sizeLine; rw [sizeLine_eq]; omega, fun b hb => ?_⟩
      have k2 := k1.newer (o := .tup [.ref v, wS (run r.n c0 (isD qs))]) hb
      have h2 := h.ext k2
      refine ⟨d, _, _, rfl, rfl, h2.dn, by rw [List.length_map, sizeLine_eq]; omega, ?_⟩
      have ndp : d ≠ p := addr_ne h.dn h.at_ (by intro z; cases z)
      have nbd : b ≠ d := Ne.symm (ne_of_none h1.dn hb)
      have kd : Kp [p, d] H (upd (upd H1 b (.tup [.ref v, wS (run r.n c0 (isD qs))])) d (.lst (refD qs ++ [.ref b]))) := fun y o e m => by
        rw [upd_ne (fun z => m (by rw [z]; simp))]
        exact k2.at e
      have atp : upd (upd H1 b (.tup [.ref v, wS (run r.n c0 (isD qs))])) d (.lst (refD qs ++ [.ref b])) p = some (.ins (ga K "Recorder") dx (recF ra rn k (run r.n c0 (isD qs)) d)) := by
        rw [upd_ne (Ne.symm ndp)]
        exact h2.at_
      have notup : ∀ s ∈ [p, d], ∀ x, H s ≠ some (.tup x) := fun s hs x z => by
        rcases List.mem_cons.mp hs with e | hs
        · rw [e, h.at_] at z; cases z
        · rw [List.mem_singleton.mp hs, h.dn] at z; cases z
      have rne : ra ∉ [p, d] := by
        have h1 := h.ne
        have h2 : ra ≠ d := addr_ne hr1.at_ h.dn (by intro z; cases z)
        simp [h1, h2]
      have r3 := h.ring.kpS kd rne notup
      have hv3 : InsAt _ v i := kd _ _ hv fun z => notup _ z _ hv
      obtain ⟨dr3, la3, wa3, pa3, g3⟩ := id r3
      refine ⟨_, rfl, p, _, _, _, _, rfl, atp, T.cl_Recorder, T.n_Recorder_ring, rfl, ra, r, rfl, r3, fun m H4 k4 e4 => ?_⟩
      refine ⟨_, rfl, _, rfl, p, _, _, _, _, rfl, k4.at atp, T.cl_Recorder, T.n_Recorder_ring, rfl, ra, _, _, _, _, rfl, k4.at g3.at_, T.cl_Ring, T.n_Ring_size, rfl, m, v, _, i, r.n, rfl, e4, by rw [List.length_range], by omega, k4.at hv3, hi.1, fun m2 H5 k5 e5 => ?_⟩
      have k45 := k4.trans' k5
      refine ⟨_, rfl, p, _, _, _, _, rfl, k45.at atp, T.cl_Recorder, T.n_Recorder_letters, rfl, m2, _, run r.n c0 (isD qs), rfl, e5, fun x hx => ?_, by rw [cp_len, List.length_range]; omega, by rw [h.clen]; omega, fun H6 k6 => ?_⟩
      · rw [h.clen]
        have hmem : ∀ {l : List Nat}, (∀ y ∈ l, y < r.n) → x ∈ cp r.n l i → x < r.n := fun {l} hl hx => by
          unfold cp at hx
          cases e : l[srcOf r.n i]? with
          | none => rw [e] at hx; exact hl x hx
          | some y =>
            rw [e] at hx
            rcases List.mem_or_eq_of_mem_set hx with h1 | h1
            · exact hl x h1
            · rw [h1]; exact hl y (List.mem_of_getElem? e)
        exact hmem (fun y hy => List.mem_range.mp hy) hx
      rw [pick_cp h.clen]
      have k456 := k45.trans' k6
      refine ⟨_, rfl, p, _, _, _, rfl, k456.at atp, T.cl_Recorder, T.n_Recorder_letters, (by show 5 < 1000; decide), ?_⟩
      have e6 : cp r.n (run r.n c0 (isD qs)) i = run r.n c0 (isD (qs ++ [(b, (v, i))])) := by rw [isD_snoc, run_snoc]
      rw [e6]
      have kk : Kp [p, d] H (upd H6 p (.ins (ga K "Recorder") dx (putF "letters" (wS (run r.n c0 (isD (qs ++ [(b, (v, i))])))) (recF ra rn k (run r.n c0 (isD qs)) d)))) := fun y o e m => by
        rw [upd_ne (fun z => m (by rw [z]; simp))]
        exact k456.at (kd y o e m)
      refine q _ b kk ⟨upd_same, h.ring.kpS kk rne notup, ?_, ?_, h.cl, h.ck, fun x hx => ?_, by rw [List.length_append]; show _ + 1 ≤ 400; omega, h.ne⟩
      · rw [upd_ne ndp]
        refine (k456.at upd_same).trans ?_
        simp
      · refine (h.el.kpS kk notup).snoc ?_ (kk _ _ hv fun z => notup _ z _ hv)
        have nbp : b ≠ p := Ne.symm (ne_of_none h1.at_ hb)
        rw [upd_ne nbp]
        refine k456.at ?_
        rw [upd_ne nbd, upd_same]
      · rcases List.mem_append.mp hx with hx | hx
        · exact h.io x hx
        · rw [List.mem_singleton.mp hx]; exact hi
    · refine ⟨true, rfl, h.ring, .inl ⟨v, i, rfl, hv, hi, rfl⟩, fun H1 k1 => ⟨true, rfl, iteF ?_⟩⟩
      have h1 := h.ext k1
      refine ⟨_, rfl, p, _, _, _, _, rfl, h1.at_, T.cl_Recorder, T.n_Recorder_done, rfl, d, _, rfl, .inl (SqL.of h1.dn), _, _, rfl, rfl, _, rfl, ?_⟩
      rw [List.length_map, decide_eq_true (show (400 : Int) ≤ ((qs.length : Nat) : Int) by omega)]
      exact iteT ⟨_, rfl, fun dd hd => q _ dd (k1.newer hd) (none_of_ext k1 hd) upd_same⟩
    · refine ⟨false, rfl, h.ring, .inr ⟨kk, ho, rfl⟩, fun H1 k1 => ⟨false, rfl, iteT ?_⟩⟩
      exact ⟨_, rfl, _, rfl, fun dd hd => q _ dd (k1.newer hd) (none_of_ext k1 hd) upd_same⟩
  · obtain ⟨a, b, rfl⟩ := len2 hl
    rfl
end
end K71
set_option maxRecDepth 100000
set_option maxHeartbeats 4000000
/-! Walks 11: undo, the law's watch. -/
namespace K71
open PySem PySem.Spec PyProof.Rows L2 SX
theorem sc_Lwatch : FnScope ["_law_seen", "_law_at", "_law_kind", "_law_recorder"] ["_law_seen", "_law_at", "_law_kind", "_law_recorder"] (defScope s_Lwatch) := C8.fnScope_by (by decide +kernel)
theorem sc_Recorder_undo : FnScope ["self", "instruction"] ["self"] (defScope s_Recorder_undo) := C8.fnScope_by (by decide +kernel)
def spUndo (K : PySem.W.Frag) : Sp := fun vs H Q E => ∃ (p ra dx d b v : Addr) (i : Ins) (r : RD) (c0 : List Nat) (qs : List DI) (rn : Bool) (k : Nat), vs = [.ref p] ∧ RecP K H p ra r c0 (qs ++ [(b, (v, i))]) rn k dx d ∧ ∀ H', Kp [p, d] H H' → RecP K H' p ra r c0 qs rn k dx d → Q .non H'
section
variable {P : Program} {w : World} {K : PySem.W.Frag} {mg : Str → Option Value} {base : Heap}
theorem met_undo (T : Tx K mg) : C8.Met P w K mg base 1 (ga K "Recorder") "undo" (spUndo K) [] := by
  obtain ⟨fd, F⟩ := T.F_Recorder_undo
  refine ⟨_, fd, ["self"], [], T.cl_Recorder, T.m_Recorder_undo, fok F sc_Recorder_undo (fun vs H Q E h => ?_) (fun cdv A outer s H vs Q E hr h => ⟨_, (pss_cons (ps_if (pt_cmpR (op_eqD (u64 hr)) (pe_fld (pv 0) rfl) (pe_lst pa_nil) (nomark _)) (pss_one ps_never) pss_nil)
        (pss_one (ps_asg (pe_bm0 PySem.F.plainAttrs_list PySem.F.slot_list_pop PySem.F.type_list_pop mt_pop (pe_fld (pv 0) rfl)) (pg_tup rfl (pgs_cons (pg_name (i := 1) sc_Recorder_undo.nd rfl (Or.inl rfl)) (pgs_cons (pg_fld (pv 0)) pgs_nil)))))), ?_⟩), F.bindsN (fun _ _ _ _ _ _ us hl => ?_), .nil⟩
  · obtain ⟨p, ra, dx, d, b, v, i, r, c0, qs, rn, k, rfl, _⟩ := h
    rfl
  · obtain ⟨p, ra, dx, d, b, v, i, r, c0, qs, rn, k, rfl, h, q⟩ := h
    have hle := h.le
    refine ⟨_, rfl, p, _, _, _, _, rfl, h.at_, T.cl_Recorder, T.n_Recorder_done, rfl, by show 0 ≤ sizeLine; omega, fun e he => ?_⟩
    have k1 := Ext.new (o := .lst []) he
    have h1 := h.ext k1
    refine done_eq h1 upd_same (by simp) ⟨false, rfl, iteF ?_⟩
    refine ⟨_, rfl, p, _, _, _, _, rfl, h1.at_, T.cl_Recorder, T.n_Recorder_done, rfl, .inl ⟨rfl, _, SqL.of h1.dn⟩, d, _, .ref b, rfl, rfl, h1.dn, by simp, ?_⟩
    have ndp : d ≠ p := addr_ne h.dn h.at_ (by intro z; cases z)
    obtain ⟨g1, g2⟩ := h1.el qs.length (b, (v, i)) (by simp)
    have nbd : b ≠ d := addr_ne g1 h1.dn (by intro z; cases z)
    have nbp : b ≠ p := addr_ne g1 h1.at_ (by intro z; cases z)
    have e1 : (isD (qs ++ [(b, (v, i))])).take qs.length = isD qs := by
      rw [isD_snoc, List.take_append_of_le_length (by simp), List.take_of_length_le (by simp)]
    rw [e1] at g1
    have e2 : (refD (qs ++ [(b, (v, i))])).dropLast = refD qs := by simp
    rw [e2]
    refine ⟨b, _, rfl, SqT.of ((upd_ne nbd).trans g1), rfl, _, _, rfl, _, _, rfl, ?_⟩
    refine ⟨_, rfl, p, _, _, _, rfl, (upd_ne (Ne.symm ndp)).trans h1.at_, T.cl_Recorder, T.n_Recorder_letters, (by show 5 < 1000; decide), rfl, ?_⟩
    have notup : ∀ s ∈ [p, d], ∀ x, H s ≠ some (.tup x) := fun s hs x z => by
      rcases List.mem_cons.mp hs with e | hs
      · rw [e, h.at_] at z; cases z
      · rw [List.mem_singleton.mp hs, h.dn] at z; cases z
    have rne : ra ∉ [p, d] := by
      obtain ⟨_, _, _, _, hr1⟩ := h.ring
      have h1 := h.ne
      have h2 : ra ≠ d := addr_ne hr1.at_ h.dn (by intro z; cases z)
      simp [h1, h2]
    refine (fun kk => q _ kk ?body) ?kk
    case kk =>
      intro y o ey m
      have hy1 : y ≠ p := fun z => m (by rw [z]; simp)
      have hy2 : y ≠ d := fun z => m (by rw [z]; simp)
      rw [upd_ne hy1, upd_ne hy2]
      exact k1.at ey
    have el0 : EntAt H r.n c0 qs := fun j q0 ej => by
      have hj := (List.getElem?_eq_some_iff.mp ej).1
      have := h.el j q0 (by rw [List.getElem?_append_left hj]; exact ej)
      rw [isD_snoc, List.take_append_of_le_length (by simp; omega)] at this
      exact this
    rw [List.length_append] at hle
    refine ⟨upd_same, h.ring.kpS kk rne notup, ?_, el0.kpS kk notup, h.cl, h.ck, fun x hx => h.io x (by simp [hx]), by have : qs.length + 1 ≤ 400 := hle; omega, h.ne⟩
    rw [upd_ne ndp, upd_same]
  · obtain ⟨a, rfl⟩ := len1 hl
    rfl
end
end K71
set_option maxRecDepth 100000
set_option maxHeartbeats 4000000
/-! Walks 12: the law's watch. -/
namespace K71
open PySem PySem.Spec PyProof.Rows L2 SX
/-- what a call of it asks and gives: the list of what was seen grows by one -/
def spWatch (K : PySem.W.Frag) : Sp := fun vs H Q E => ∃ (sa p ra dx d : Addr) (r : RD) (c0 : List Nat) (qs : List DI) (rn : Bool) (k : Nat) (sl : List V) (m kind : Nat), vs = [.ref sa, .int (m : Int), .int (kind : Int), .ref p] ∧ RecP K H p ra r c0 qs rn k dx d ∧ H sa = some (.lst sl) ∧ sl.length ≤ 1000 ∧
  ∀ H', Kp [sa] H H' → H' sa = some (.lst (sl ++ [.int (qs.length : Int)])) →
    (sl.length + 1 = m → kind = 1 → ∀ H2 dd, Ext H' H2 → H' dd = none → H2 dd = some (.xd [("line", .str "stop")]) → E (.ref (ga K "InvalidLine")) (some dd) H2) ∧
    (sl.length + 1 = m → kind = 2 → ∀ dd, E (.type "KeyError") dd H') ∧
    ((sl.length + 1 = m → kind ≠ 1 ∧ kind ≠ 2) → Q .non H')
theorem le_spent {r : RD} (h : ∀ k ∈ r.pr, 1 ≤ k) : ∀ {is : List Ins}, (∀ i ∈ is, i.1 < r.pr.length) → is.length ≤ spent r is
  | [], _ => Nat.zero_le _
  | i :: is, hi => by
    have ih := le_spent h (is := is) fun x hx => hi x (List.mem_cons_of_mem _ hx)
    have h1 := hi i (List.mem_cons_self ..)
    have h2 : 1 ≤ r.pr.getD i.1 0 := by
      rw [List.getD_eq_getElem?_getD, List.getElem?_eq_getElem h1]
      exact h _ (List.getElem_mem h1)
    have e : spent r (i :: is) = r.pr.getD i.1 0 + spent r is := by simp [spent]
    rw [e, List.length_cons]
    omega
section
variable {P : Program} {w : World} {K : PySem.W.Frag} {mg : Str → Option Value} {base : Heap}
theorem cal_watch (T : Tx K mg) : ∃ fd, FnOk P w K mg base (L2N.CX P w) 4 (ga K "_law_watch") fd ["_law_seen", "_law_at", "_law_kind", "_law_recorder"] (spWatch K) ∧ Binds K fd ["_law_seen", "_law_at", "_law_kind", "_law_recorder"] [] ∧ PySem.W.keepIn K (.ref (ga K "_law_watch")) = true := by
  have m_sources : C8.Met P w K mg base 3 (ga K "Recorder") "sources" (spRec K pSrc) [] := met_sources T
  have m_spent : C8.Met P w K mg base 1 (ga K "Recorder") "spent" (spRec K pSpent) [] := met_spent T
  have m_held : C8.Met P w K mg base 1 (ga K "Recorder") "held" (spRec K pHeld) [] := met_held T
  have m_recorded : C8.Met P w K mg base 1 (ga K "Recorder") "recorded" (spRec K pRecd) [] := met_recorded T
  obtain ⟨fd1, F1, b1⟩ := ok_Recorder_len (P := P) (w := w) (base := base) T
  obtain ⟨fd2, F2, b2⟩ := ok_IL_init (P := P) (w := w) (base := base) T
  obtain ⟨fd, F⟩ := T.F_Lwatch
  refine ⟨fd, F.ok sc_Lwatch (fun vs H Q E h => ?_) (fun cdv A outer s H vs Q E hr h => ⟨_, (pss_cons (ps_if (PW.pt (pw_or (pt_cmpR op_lt (pe_callB call_len_seq rfl T.f_len (by decide +kernel) (pa_cons (C8.pe_mt0 m_sources hr (by decide) (pv 3)) pa_nil)) pe_int (nomark _)) (pw_or (pt_cmpR op_lt (C8.pe_mt0 m_spent hr (by decide) (pv 3)) (pe_callB (call_lenO (C := ga K "Recorder") F1 b1 T.m_Recorder_len (hr.mono (by decide))) rfl T.f_len (by decide +kernel) (pa_cons (pv 3) pa_nil)) (nomark _)) (pw_or1 (pt_cmpR op_lt (pe_callB call_len_str rfl T.f_len (by decide +kernel) (pa_cons (C8.pe_mt0 m_held hr (by decide) (pv 3)) pa_nil)) pe_int (nomark _)))))) (pss_one ps_never) pss_nil)
        (pss_cons (ps_expr (pe_bm PySem.F.plainAttrs_list PySem.F.slot_list_append PySem.F.type_list_append mt_append (pv 0) (pa_cons (pe_callB call_len_seq rfl T.f_len (by decide +kernel) (pa_cons (C8.pe_mt0 m_recorded hr (by decide) (pv 3)) pa_nil)) pa_nil)))
        (pss_cons (ps_if (PW.pt (pw_and (pt_cmpR op_eq (pe_callB call_len_seq rfl T.f_len (by decide +kernel) (pa_cons (pv 0) pa_nil)) (pv 1) (nomark _)) (pw_and1 (pt_cmpR op_eq (pv 2) pe_int (nomark _))))) (pss_one (L2N.ps_raise rfl (L2N.takes_of rfl rfl rfl rfl) (pmk_xN PySem.F.excBase_ValueError T.exIL T.k_InvalidLine F2 (hr.mono (by decide)) b2 rfl T.g_InvalidLine (pa_cons pe_str pa_nil)))) pss_nil)
        (pss_one (ps_if (PW.pt (pw_and (pt_cmpR op_eq (pe_callB call_len_seq rfl T.f_len (by decide +kernel) (pa_cons (pv 0) pa_nil)) (pv 1) (nomark _)) (pw_and1 (pt_cmpR op_eq (pv 2) pe_int (nomark _))))) (pss_one (L2N.ps_raise rfl (L2N.takes_of rfl rfl rfl rfl) (pmk_excN PyProof.Rows.excClass_KeyError ty_KeyError rfl T.f_KeyError boot_KeyError (pa_cons pe_str pa_nil)))) pss_nil))))), ?_⟩), F.bindsN (fun _ _ _ _ _ _ us hl => ?_), F.kp⟩
  · obtain ⟨sa, p, ra, dx, d, r, c0, qs, rn, k, sl, m, kind, rfl, _⟩ := h
    rfl
  · obtain ⟨sa, p, ra, dx, d, r, c0, qs, rn, k, sl, m, kind, rfl, h, hs, hsl, q⟩ := h
    have hle := h.le
    obtain ⟨dr, la, wa, pa, hr1⟩ := h.ring
    have hn := hr1.ok.lo
    have hn2 := hr1.ok.hi
    refine ⟨_, rfl, p, dx, _, rfl, h.at_, rfl, p, ra, dx, d, r, c0, qs, rn, k, rfl, h, fun t H1 k1 e1 => ?_⟩
    have h1 := h.ext k1
    refine ⟨t, _, rfl, .inr (SqT.of e1), _, _, rfl, rfl, _, rfl, ?_⟩
    rw [decide_eq_false (show ¬ (((nums (run r.n (List.range r.n) (isD qs))).length : Nat) : Int) < 2 by rw [List.length_map, run_len, List.length_range]; omega)]
    refine iteF ?_
    refine ⟨_, rfl, p, dx, _, rfl, h1.at_, rfl, p, ra, dx, d, r, c0, qs, rn, k, rfl, h1, fun H2 k2 => ?_⟩
    have h2 := h1.ext k2
    refine ⟨_, rfl, p, dx, _, rfl, h2.at_, p, ra, dx, d, r, c0, qs, rn, k, rfl, h2, qs.length, rfl, by omega, _, _, rfl, rfl, _, rfl, ?_⟩
    have hsp : qs.length ≤ spent r (isD qs) := by
      have := le_spent (r := r) (fun k hk => (hr1.ok.pr k hk).1) (is := isD qs) fun i hi => by
        obtain ⟨x, hx, rfl⟩ := List.mem_map.mp hi
        rw [hr1.ok.prn]
        exact (h.io x hx).1
      rw [List.length_map] at this
      exact this
    rw [decide_eq_false (show ¬ ((spent r (isD qs) : Nat) : Int) < (qs.length : Int) by omega)]
    refine iteF ?_
    refine ⟨_, rfl, p, dx, _, rfl, h2.at_, rfl, p, ra, dx, d, r, c0, qs, rn, k, rfl, h2, S (run r.n c0 (isD qs)), rfl, by rw [S_len, h.clen, sizeLine_eq]; omega, _, _, rfl, rfl, _, rfl, ?_⟩
    rw [decide_eq_false (show ¬ (((S (run r.n c0 (isD qs))).length : Nat) : Int) < 2 by rw [S_len, h.clen]; omega)]
    refine iteF ?_
    have k12 := k1.trans' k2
    refine ⟨_, rfl, .inl ⟨rfl, _, SqL.of (k12.at hs)⟩, _, rfl, p, dx, _, rfl, h2.at_, rfl, p, ra, dx, d, r, c0, qs, rn, k, rfl, h2, fun t2 H3 k3 e3 => ?_⟩
    have k123 := k12.trans' k3
    refine ⟨t2, _, rfl, .inr (SqT.of e3), sa, sl, _, rfl, rfl, k123.at hs, by rw [sizeLine_eq]; omega, ?_⟩
    rw [show (((refs (psD qs)).length : Nat) : Int) = (qs.length : Int) by simp]
    have kk : Kp [sa] H (upd H3 sa (.lst (sl ++ [.int (qs.length : Int)]))) := fun y o e n => by
      rw [upd_ne (by simpa using n)]
      exact k123.at e
    obtain ⟨q1, q2, q3⟩ := q _ kk upd_same
    have hlen : (((sl ++ [V.int (qs.length : Int)]).length : Nat) : Int) = ((sl.length + 1 : Nat) : Int) := by simp
    refine ⟨_, rfl, _, _, rfl, .inl (SqL.of upd_same), _, rfl, rfl, _, rfl, ?_⟩
    rw [hlen]
    by_cases hm : sl.length + 1 = m
    · rw [show decide (V.int ((sl.length + 1 : Nat) : Int) = V.int (m : Int)) = true from decide_eq_true (by rw [hm])]
      by_cases h1 : kind = 1
      · subst h1
        exact iteT ⟨_, rfl, rfl, _, rfl, iteT ⟨_, rfl, fun dd hd => q1 hm rfl _ dd (Ext.new hd) hd upd_same⟩⟩
      · refine iteT ⟨_, rfl, rfl, _, rfl, ?_⟩
        rw [show decide (V.int (kind : Int) = V.int 1) = false from decide_eq_false fun z => h1 (by injection z with z; omega)]
        refine iteF ⟨_, rfl, _, _, rfl, .inl (SqL.of upd_same), _, rfl, rfl, _, rfl, ?_⟩
        rw [hlen, show decide (V.int ((sl.length + 1 : Nat) : Int) = V.int (m : Int)) = true from decide_eq_true (by rw [hm])]
        by_cases h2 : kind = 2
        · subst h2
          exact iteT ⟨_, rfl, rfl, _, rfl, iteT ⟨by show 1 ≤ sizeLine; rw [sizeLine_eq]; omega, fun dd => q2 hm rfl dd⟩⟩
        · refine iteT ⟨_, rfl, rfl, _, rfl, ?_⟩
          rw [show decide (V.int (kind : Int) = V.int 2) = false from decide_eq_false fun z => h2 (by injection z with z; omega)]
          exact iteF (q3 fun _ => ⟨h1, h2⟩)
    · have e0 : decide (V.int ((sl.length + 1 : Nat) : Int) = V.int (m : Int)) = false := decide_eq_false fun z => hm (by injection z with z; omega)
      rw [e0]
      refine iteF (iteF ⟨_, rfl, _, _, rfl, .inl (SqL.of upd_same), _, rfl, rfl, _, rfl, ?_⟩)
      rw [hlen, e0]
      exact iteF (iteF (q3 fun z => absurd z hm))
  · obtain ⟨a, b, c, d, rfl⟩ := len4 hl
    rfl
end
end K71
set_option maxRecDepth 100000
set_option maxHeartbeats 4000000
/-! Walks 13: write_all. -/
namespace K71
open PySem PySem.Spec PyProof.Rows L2 SX
theorem sc_Recorder_write_all : FnScope ["self", "instructions", "watch", "done", "letters", "instruction"] ["self", "instructions", "watch"] (defScope s_Recorder_write_all) := C8.fnScope_by (by decide +kernel)
/-- the loop of the try; tw W: what the call of watch asks -/
def tWAb (K : PySem.W.Frag) (tw : WX → TE) : WX → TS := fun W =>
  tSeq (tFor (iTup K (tVar 1)) (gName 5) (tSeq (tDrop (tMethS (ga K "Recorder") "write" (spWrite K) (WE W) (tVar 0) (tCons (tVar 5) tNil))) (tIfS (tTest (tOp (fun x y H Q => y = .non ∧ Q (.bl (!decide (x = .non))) H) (tVar 2) (tC .non))) (tDrop (tw W)) tNext))) (tAsg (tC .non) (gName 3))
/-- the suite of the finally -/
def tWAs (K : PySem.W.Frag) : TS := tSeq (sFld K (tVar 0) (tC (.bl false)) "running") (tIfS (tTest (tOp (fun x y H Q => y = .non ∧ Q (.bl (!decide (x = .non))) H) (tVar 3) (tC .non)))
  (tAsg (tTup (tCons (tVar 3) (tCons (tVar 4) tNil))) (gTup K 2 (gCons (gFld K (tVar 0) "done") (gCons (gFld K (tVar 0) "letters") gNil)))) tNext)
section
variable {P : Program} {w : World} {K : PySem.W.Frag} {mg : Str → Option Value} {base : Heap}
/-- the body's rules -/
theorem pss_wa (T : Tx K mg) {f : Addr} {cdv : Value} {A : Around} {outer : List Env} {s : Shared} {H : Hp} {E : XK} {tw : WX → TE} (hr : Room 3 (A.deeper (envOfC "Recorder.write_all" (defScope s_Recorder_write_all) s.heap.objs.size f cdv)))
    (hw : ∀ (W : WX) (pn : List (Addr × Obj)) (xe : Value → Shared → Prop) (p1 p2 p3 : Pos), L2N.Takes ((cxOf (L2N.CX P w) P w K mg base ["self", "instructions", "watch", "done", "letters", "instruction"] "Recorder.write_all" (defScope s_Recorder_write_all) f cdv A outer s H E).tr pn xe) W →
      PE ((cxOf (L2N.CX P w) P w K mg base ["self", "instructions", "watch", "done", "letters", "instruction"] "Recorder.write_all" (defScope s_Recorder_write_all) f cdv A outer s H E).tr pn xe) (.Call (.Name "watch" p1) [.Name "self" p2] [] p3) (tw W)) :
    ∃ t, PSs (cxOf (L2N.CX P w) P w K mg base ["self", "instructions", "watch", "done", "letters", "instruction"] "Recorder.write_all" (defScope s_Recorder_write_all) f cdv A outer s H E) (defBody s_Recorder_write_all) t ∧
      ∀ (D : Ends) (p ra dx d ta : Addr) (r : RD) (c0 : List Nat) (qs : List DI) (k : Nat) (xs : List V) (wv : V) (H' : Hp), RecP K H' p ra r c0 qs false k dx d → H' ta = some (.tup xs) →
        (∀ D0 H1, H' D0 = none → Kp [p] H' H1 → H1 D0 = some (.lst (refD qs)) → RecP K H1 p ra r c0 qs true (k + 1) dx d →
          tFinN (tWAb K tw) (tWAs K) (tWAs K) (fun cls dd _ H2 => E cls dd H2) D [some (.ref p), some (.ref ta), some wv, some (.ref D0), some (wS (run r.n c0 (isD qs))), none] H1) →
        t D (start ["self", "instructions", "watch", "done", "letters", "instruction"] [.ref p, .ref ta, wv]) H' := by
  obtain ⟨fdW, FW, bW⟩ := ok_Recorder_write (P := P) (w := w) (base := base) T
  refine ⟨_, (pss_cons (ps_if (pt_not (pt_val (pe_callB call_isi rfl T.f_isinstance (by decide +kernel) (pa_cons (pv 1) (pa_cons (pe_bltn (v := .ty "tuple") rfl T.f_tuple (by decide +kernel) rfl) pa_nil))))) (pss_one ps_never) pss_nil)
        (pss_cons (ps_par (i := 3) (j := 4) rfl sc_Recorder_write_all.nd rfl rfl (by decide) rfl rfl (pa_cons (pe_callTy call_list_of rfl T.f_list (by decide +kernel) (pa_cons (pe_fld (pv 0) rfl) pa_nil)) (pa_cons (pe_fld (pv 0) rfl) pa_nil)) (by rfl))
        (pss_cons (ps_fldaug (pv 0) pe_int in_add)
        (pss_cons (ps_fld (pv 0) pe_bl rfl)
        (pss_one (ps_finN (tb := tWAb K tw) (tf := tWAs K) (tfs := tWAs K) rfl rfl rfl (L2N.takes_of rfl rfl rfl rfl)
          (fun W pn xe tk hp => pss_cons (ps_for hp rfl (pi_tup (pv 1)) (pg_name (i := 5) sc_Recorder_write_all.nd rfl (Or.inl rfl)) (pss_cons (ps_expr (pe_methS (pv 0) T.cl_Recorder T.m_Recorder_write FW (hr.mono (by decide)) bW (fun σ => L2N.passAt tk σ) (by exact pa_cons (pv 5) pa_nil))) (pss_one (ps_if (pt_cmpR op_notN (pv 2) pe_non (nomark _)) (pss_one (ps_expr (hw W pn xe _ _ _ tk))) pss_nil)))) (pss_one (ps_set (i := 3) sc_Recorder_write_all.nd rfl (Or.inl rfl) pe_non)))
          (pss_cons (ps_fld (pv 0) pe_bl rfl) (pss_one (ps_if (pt_cmpR op_notN (pv 3) pe_non (nomark _)) (pss_one (ps_asg (pe_tup (pa_cons (pv 3) (pa_cons (pv 4) pa_nil))) (pg_tup rfl (pgs_cons (pg_fld (pv 0)) (pgs_cons (pg_fld (pv 0)) pgs_nil))))) pss_nil)))
          (fun a pn hot => (pss_cons (ps_fld (pv 0) pe_bl rfl) (pss_one (ps_if (pt_cmpR op_notN (pv 3) pe_non (nomark _)) (pss_one (ps_asg (pe_tup (pa_cons (pv 3) (pa_cons (pv 4) pa_nil))) (pg_tupH hot (pgs_cons (pg_fld (pv 0)) (pgs_cons (pg_fld (pv 0)) pgs_nil))))) pss_nil)))))))))), ?_⟩
  intro D p ra dx d ta r c0 qs k xs wv H' h ht q
  refine ⟨_, rfl, _, _, _, _, true, rfl, .ty "tuple", .base (.tup ht), kit_ty (by decide +kernel), true, rfl, iteF ?_⟩
  refine ⟨_, rfl, p, _, _, _, _, rfl, h.at_, T.cl_Recorder, T.n_Recorder_done, rfl, d, _, rfl, .inl (SqL.of h.dn), fun D0 hD => ?_⟩
  have k1 := Ext.new (o := .lst (refD qs)) hD
  have h1 := h.ext k1
  refine ⟨_, rfl, p, _, _, _, _, rfl, h1.at_, T.cl_Recorder, T.n_Recorder_letters, rfl, _, _, rfl, ?_⟩
  refine ⟨_, rfl, p, _, _, _, _, rfl, h1.at_, T.cl_Recorder, T.n_Recorder_runs, rfl, ?_⟩
  refine ⟨_, _, rfl, rfl, dx, _, h1.at_, (by show 5 < 1000; decide), ?_⟩
  refine ⟨_, rfl, p, _, _, _, rfl, upd_same, T.cl_Recorder, T.n_Recorder_running, (by show 5 < 1000; decide), ?_⟩
  have e1 : ((k : Int) + 1) = ((k + 1 : Nat) : Int) := by omega
  have npD : p ≠ D0 := ne_of_none h.at_ hD
  refine (fun kk => q D0 _ hD kk ?a1 ?a2) ?kk
  case kk =>
    intro b o e n
    have hb : b ≠ p := by simpa using n
    rw [upd_ne hb, upd_ne hb]
    exact k1.at e
  · rw [upd_ne (Ne.symm npD), upd_ne (Ne.symm npD), upd_same]
  · have notup : ∀ s ∈ [p], ∀ x, H' s ≠ some (.tup x) := fun s hs x z => by
      rw [List.mem_singleton.mp hs, h.at_] at z; cases z
    have ndp : d ≠ p := addr_ne h.dn h.at_ (by intro z; cases z)
    refine ⟨?_, h.ring.kpS kk (by simpa using h.ne) notup, ?_, h.el.kpS kk notup, h.cl, h.ck, h.io, h.le, h.ne⟩
    · rw [upd_same]
      refine congrArg some (congrArg (HO.ins (ga K "Recorder") dx) ?_)
      rw [e1]
      rfl
    · rw [upd_ne ndp, upd_ne ndp]
      exact k1.at h.dn
end
end K71
set_option maxRecDepth 100000
set_option maxHeartbeats 4000000
/-! Walks 14: write_all without a watch. -/
namespace K71
open PySem PySem.Spec PyProof.Rows L2 SX
/-- no watch: all is written -/
def spWA (K : PySem.W.Frag) : Sp := fun vs H Q _ => ∃ (p ra dx d ta : Addr) (r : RD) (c0 : List Nat) (qs : List DI) (k : Nat) (ps : List PI), vs = [.ref p, .ref ta, .non] ∧ RecP K H p ra r c0 qs false k dx d ∧ H ta = some (.tup (refs ps)) ∧ InsL H ps ∧ (∀ q ∈ ps, InsOk r q.2) ∧ qs.length + ps.length ≤ 400 ∧
  ∀ H' qs', Kp [p, d] H H' → psD qs' = ps → RecP K H' p ra r c0 (qs ++ qs') false (k + 1) dx d → Q .non H'
theorem RecP.notup {K : PySem.W.Frag} {H : Hp} {p ra : Addr} {r : RD} {c0 : List Nat} {qs : List DI} {rn : Bool} {k : Nat} {dx d : Addr} (h : RecP K H p ra r c0 qs rn k dx d) : ∀ s ∈ [p, d], ∀ x, H s ≠ some (.tup x) := fun s hs x z => by
  rcases List.mem_cons.mp hs with e | hs
  · rw [e, h.at_] at z; cases z
  · rw [List.mem_singleton.mp hs, h.dn] at z; cases z
theorem RecP.ndp {K : PySem.W.Frag} {H : Hp} {p ra : Addr} {r : RD} {c0 : List Nat} {qs : List DI} {rn : Bool} {k : Nat} {dx d : Addr} (h : RecP K H p ra r c0 qs rn k dx d) : d ≠ p := addr_ne h.dn h.at_ (by intro z; cases z)
theorem RecP.rne {K : PySem.W.Frag} {H : Hp} {p ra : Addr} {r : RD} {c0 : List Nat} {qs : List DI} {rn : Bool} {k : Nat} {dx d : Addr} (h : RecP K H p ra r c0 qs rn k dx d) : ra ∉ [p, d] := by
  obtain ⟨_, _, _, _, hr1⟩ := h.ring
  have h1 := h.ne
  have h2 : ra ≠ d := addr_ne hr1.at_ h.dn (by intro z; cases z)
  simp [h1, h2]
/-- the recorder's own fields written anew -/
theorem RecP.setRun {K : PySem.W.Frag} {H : Hp} {p ra : Addr} {r : RD} {c0 : List Nat} {qs : List DI} {rn : Bool} {k : Nat} {dx d : Addr} (h : RecP K H p ra r c0 qs rn k dx d) (b : Bool) : RecP K (upd H p (.ins (ga K "Recorder") dx (putF "running" (.bl b) (recF ra rn k (run r.n c0 (isD qs)) d)))) p ra r c0 qs b k dx d := by
  have kk : Kp [p] H (upd H p (.ins (ga K "Recorder") dx (putF "running" (.bl b) (recF ra rn k (run r.n c0 (isD qs)) d)))) := Kp.set (by simp)
  have notup : ∀ s ∈ [p], ∀ x, H s ≠ some (.tup x) := fun s hs x z => by
    rw [List.mem_singleton.mp hs, h.at_] at z; cases z
  refine ⟨upd_same, h.ring.kpS kk (by simpa using h.ne) notup, ?_, h.el.kpS kk notup, h.cl, h.ck, h.io, h.le, h.ne⟩
  rw [upd_ne h.ndp]
  exact h.dn
section
variable {P : Program} {w : World} {K : PySem.W.Frag} {mg : Str → Option Value} {base : Heap}
theorem fin_none (T : Tx K mg) {Wout : WX} {D : Ends} {p ra dx d ta D0 : Addr} {r : RD} {c0 c : List Nat} {qs : List DI} {k : Nat} {ps : List PI} {H1 : Hp} (h : RecP K H1 p ra r c0 qs true k dx d) (ht : H1 ta = some (.tup (refs ps))) (hi : InsL H1 ps) (ho : ∀ q ∈ ps, InsOk r q.2) (hl : qs.length + ps.length ≤ 400)
    (q : ∀ σ H' qs', Kp [p, d] H1 H' → psD qs' = ps → RecP K H' p ra r c0 (qs ++ qs') false k dx d → D.nx σ H') :
    tFinN (tWAb K fun _ _ _ _ => False) (tWAs K) (tWAs K) Wout D [some (.ref p), some (.ref ta), some .non, some (.ref D0), some (wS c), none] H1 := by
  refine ⟨_, rfl, ta, rfl, ⟨_, SqT.of ht⟩, for_it (walk_tup (K := K) (xs := refs ps)) (fun i σ H => ∃ qs' u, psD qs' = ps.take i ∧ RecP K H p ra r c0 (qs ++ qs') true k dx d ∧ Kp [p, d] H1 H ∧ σ = [some (.ref p), some (.ref ta), some .non, some (.ref D0), some (wS c), u]) ⟨[], none, rfl, by rw [List.append_nil]; exact h, Kp.refl, rfl⟩ (fun i σ H _ h1 => ?_) (fun i x σ H H' hi1 h1 y => ?_) fun σ H h1 => ?_⟩
  · obtain ⟨qs', u, e1, e2, e3, rfl⟩ := h1
    exact SqT.of (e3 _ _ ht fun z => h.notup _ z _ ht)
  · obtain ⟨rfl, y⟩ := y
    obtain ⟨qs', u, e1, e2, e3, rfl⟩ := h1
    obtain ⟨q1, hq, rfl⟩ := map_get y
    have hm := List.mem_of_getElem? hq
    have hv := e3 _ _ (hi q1 hm) fun z => h.notup _ z _ (hi q1 hm)
    have hlen : qs'.length = i := by
      have := congrArg List.length e1
      rw [List.length_map, List.length_take] at this
      rw [List.length_map] at hi1
      omega
    rw [List.length_map] at hi1
    refine ⟨_, rfl, p, dx, _, rfl, e2.at_, rfl, _, rfl, p, ra, dx, d, r, c0, qs ++ qs', true, k, .ref q1.1, rfl, e2, .inl ⟨q1.1, q1.2, rfl, hv, ho q1 hm, by rw [List.length_append]; omega, fun H2 b k2 h2 => ?_⟩⟩
    refine ⟨_, rfl, rfl, _, rfl, ?_⟩
    rw [decide_eq_true rfl]
    refine iteF ⟨qs' ++ [(b, (q1.1, q1.2))], _, ?_, ?_, e3.trans k2, rfl⟩
    · show (qs' ++ [(b, q1)]).map _ = _
      rw [List.map_append, List.take_add_one, hq, ← e1]
      rfl
    · rw [← List.append_assoc]
      exact h2
  · obtain ⟨qs', u, e1, e2, e3, rfl⟩ := h1
    rw [List.length_map, List.take_length] at e1
    refine ⟨_, rfl, p, _, _, _, rfl, e2.at_, T.cl_Recorder, T.n_Recorder_running, (by show 5 < 1000; decide), ?_⟩
    refine ⟨_, rfl, rfl, _, rfl, ?_⟩
    rw [decide_eq_true rfl]
    refine iteF (q _ _ qs' ?_ e1 (e2.setRun false))
    intro b o e n
    rw [upd_ne (fun z => n (by rw [z]; simp))]
    exact e3 b o e n
theorem fn_cx0 {k : Nat} {f : Addr} {fd : FuncData} {ps : List Str} {sp : Sp} (F : FnOk P w K mg base (L2N.CX P w) k f fd ps sp) (h : ∀ vs H Q E, sp vs H Q E → sp vs H Q C8.E0) : FnOk P w K mg base C8.CX0 k f fd ps sp := by
  refine ⟨F.len, fun A outer s H args us vs Q E hr e0 b r hs => codeAny_mono (F.run A outer s H args us vs Q C8.E0 hr e0 b r (h _ _ _ _ hs)) fun r s' hq => ?_⟩
  cases r with
  | error e =>
    obtain ⟨_, _, _, _, _, _, _, _, _, _, _, _, z⟩ := (show L2N.CX P w outer H s C8.E0 e s' from hq)
    exact z.elim
  | ok fl => cases fl <;> exact hq
theorem met_write_all (T : Tx K mg) : C8.Met P w K mg base 4 (ga K "Recorder") "write_all" (spWA K) [.non] := by
  obtain ⟨fd, F⟩ := T.F_Recorder_write_all
  obtain ⟨ds, rd, bd⟩ := F.binds0 (ps := ["self", "instructions", "watch"]) 2 (by simp) rfl (fun Dd doc pm an cdv ct us ks h1 h2 => by
    obtain ⟨a, b, rfl⟩ := len2 h1
    obtain ⟨c, rfl⟩ := len1 h2
    exact ⟨_, _, _, _, _, _, rfl, rfl, rfl⟩)
  refine ⟨_, fd, ["self", "instructions", "watch"], ds, T.cl_Recorder, T.m_Recorder_write_all, fn_cx0 (F.ok sc_Recorder_write_all (fun vs H Q E h => ?_) fun cdv A outer s H vs Q E hr h => ?_) (fun vs H Q E h => h), bd, rd⟩
  · obtain ⟨p, ra, dx, d, ta, r, c0, qs, k, ps, rfl, _⟩ := h
    rfl
  · obtain ⟨p, ra, dx, d, ta, r, c0, qs, k, ps, rfl, h, ht, hi, ho, hl, q⟩ := h
    obtain ⟨t, h1, h2⟩ := pss_wa T (P := P) (w := w) (base := base) (tw := fun _ _ _ _ => False) hr (fun _ _ _ _ _ _ _ => ⟨fun _ _ _ _ _ _ z => z.elim⟩)
    refine ⟨t, h1, h2 _ p ra dx d ta r c0 qs k (refs ps) .non H h ht fun D0 H1 hD k1 e1 g1 => ?_⟩
    have np : ∀ {v : Addr} {x : List V}, H v = some (.tup x) → v ∉ [p] := fun {v x} hv hm => by
      rw [List.mem_singleton.mp hm, h.at_] at hv; cases hv
    refine fin_none T g1 (k1 _ _ ht (np ht)) (fun x hx => k1 _ _ (hi x hx) (np (hi x hx))) ho hl fun σ H2 qs' k2 e2 g2 => q H2 qs' ((k1.mono (by simp)).trans k2) e2 g2
end
end K71
set_option maxRecDepth 100000
set_option maxHeartbeats 4000000
/-! Walks 15: write_all with the law's watch: how it fails. -/
namespace K71
open PySem PySem.Spec PyProof.Rows L2 SX LamX NdefX
/-- behind an error: the done list and the content as they were -/
theorem fin_back {K : PySem.W.Frag} {mg : Str → Option Value} (T : Tx K mg) {D : Ends} {p ra dx d D0 : Addr} {r : RD} {c0 : List Nat} {qs qs' : List DI} {k : Nat} {x1 x2 x5 : Option V} {H : Hp} (h : RecP K H p ra r c0 (qs ++ qs') true k dx d) (hD : H D0 = some (.lst (refD qs)))
    (q : ∀ σ H', Kp [p] H H' → RecP K H' p ra r c0 qs false k dx D0 → D.nx σ H') : tWAs K D [some (.ref p), x1, x2, some (.ref D0), some (wS (run r.n c0 (isD qs))), x5] H := by
  have nDp : D0 ≠ p := addr_ne hD h.at_ (by intro z; cases z)
  have h1 := h.setRun false
  refine ⟨_, rfl, p, _, _, _, rfl, h.at_, T.cl_Recorder, T.n_Recorder_running, (by show 5 < 1000; decide), ?_⟩
  refine ⟨_, rfl, rfl, _, rfl, ?_⟩
  rw [decide_eq_false (show ¬ V.ref D0 = V.non from fun z => by cases z)]
  refine iteT ⟨_, rfl, _, rfl, by show 2 ≤ sizeLine; rw [sizeLine_eq]; omega, fun t ht => ?_⟩
  have k2 := Ext.new (o := .tup [.ref D0, wS (run r.n c0 (isD qs))]) ht
  have h2 := h1.ext k2
  refine ⟨t, _, rfl, SqT.of upd_same, rfl, _, _, rfl, _, rfl, p, _, _, _, rfl, h2.at_, T.cl_Recorder, T.n_Recorder_done, (by show 5 < 1000; decide), _, _, rfl, _, rfl, p, _, _, _, rfl, upd_same, T.cl_Recorder, T.n_Recorder_letters, (by show 5 < 1000; decide), rfl, ?_⟩
  have ntp : t ≠ p := Ne.symm (ne_of_none h1.at_ ht)
  refine (fun kk => q _ _ kk ?body) ?kk
  case kk =>
    intro b o e n
    have hb : b ≠ p := by simpa using n
    rw [upd_ne hb, upd_ne hb]
    refine k2.at ?_
    rw [upd_ne hb]
    exact e
  have notup : ∀ s ∈ [p], ∀ x, H s ≠ some (.tup x) := fun s hs x z => by
    rw [List.mem_singleton.mp hs, h.at_] at z; cases z
  have el0 : EntAt H r.n c0 qs := fun j q0 ej => by
    have hj := (List.getElem?_eq_some_iff.mp ej).1
    have := h.el j q0 (by rw [List.getElem?_append_left hj]; exact ej)
    rw [show isD (qs ++ qs') = isD qs ++ isD qs' from List.map_append, List.take_append_of_le_length (by rw [List.length_map]; omega)] at this
    exact this
  have hle := h.le
  rw [List.length_append] at hle
  refine ⟨upd_same, h.ring.kpS kk (by simpa using h.ne) notup, ?_, el0.kpS kk notup, h.cl, h.ck, fun x hx => h.io x (by simp [hx]), by omega, h.ne⟩
  rw [upd_ne nDp, upd_ne nDp]
  refine k2.at ?_
  rw [upd_ne nDp]
  exact hD
/-- the names of the law's lambda: its parameter, then what it captured -/
abbrev lamN : List Str := ["_law_one", "_law_seen", "_law_at", "_law_kind"]
/-- what the call of watch asks: that of the law's watch -/
def twL (K : PySem.W.Frag) (f c' : Addr) (q : Str) (ws : List (Option V)) : WX → TE := fun W σZ HZ Q => σZ[2]? = some (some (.ref f)) ∧ ∃ v, σZ[0]? = some (some v) ∧ HZ c' = some (CodeO c' q) ∧
  tCallS (spWatch K) (fun σ => WE (fun cls d _ H' => W cls d σZ H') σ) (tCons (tVar 1) (tCons (tVar 2) (tCons (tVar 3) (tCons (tVar 0) tNil)))) (startF lamN [v] ws) HZ Q
/-- what was seen: the lengths -/
def seenL (n m : Nat) : List V := (List.range m).map fun i => V.int ((n + 1 + i : Nat) : Int)
theorem seenL_succ (n m : Nat) : seenL n (m + 1) = seenL n m ++ [V.int ((n + 1 + m : Nat) : Int)] := by
  unfold seenL
  rw [List.range_succ, List.map_append]
  rfl
def ResI (K : PySem.W.Frag) (x : V) : Value → Option Addr → Hp → Prop := fun cls dd H => cls = .ref (ga K "InvalidInstruction") ∧ ∃ a, dd = some a ∧ H a = some (.xd [("instruction", x)])
def ResM (K : PySem.W.Frag) : Value → Option Addr → Hp → Prop := fun cls dd H => cls = .ref (ga K "TooMany") ∧ ∃ a, dd = some a ∧ H a = some (.xd [("limit", .int 400)])
def ResL (K : PySem.W.Frag) : Value → Option Addr → Hp → Prop := fun cls dd H => cls = .ref (ga K "InvalidLine") ∧ ∃ a, dd = some a ∧ H a = some (.xd [("line", .str "stop")])
def ResK : Value → Option Addr → Hp → Prop := fun cls _ _ => cls = .type "KeyError"
/-- how the writing of xs comes to its end behind the good ones ps; Rs: with what -/
def EndsBy (K : PySem.W.Frag) (H : Hp) (S : List Addr) (r : RD) (nq m kind : Nat) (ps : List PI) (rest : List V) (Rs : Value → Option Addr → Hp → Prop) : Prop :=
  (kind = 0 ∧ ∃ x rest' kk, rest = x :: rest' ∧ OddAt H r.n kk x ∧ (∀ v, x = .ref v → v ∉ S) ∧ Rs = ResI K x) ∨
  (kind = 0 ∧ ∃ v i rest', rest = .ref v :: rest' ∧ InsAt H v i ∧ InsOk r i ∧ nq + ps.length = 400 ∧ Rs = ResM K) ∨
  (kind = 1 ∧ m = ps.length ∧ 0 < m ∧ Rs = ResL K) ∨ (kind = 2 ∧ m = ps.length ∧ 0 < m ∧ Rs = ResK)
theorem OddAt.kp {H H' : Hp} {n k : Nat} {x : V} {S : List Addr} (h : OddAt H n k x) (kp : Kp S H H') (hS : ∀ v, x = .ref v → v ∉ S) : OddAt H' n k x := by
  match k, h with
  | 0, ⟨v, e, h⟩ => exact ⟨v, e, kp _ _ h (hS v e)⟩
  | 1, ⟨v, e, h⟩ => exact ⟨v, e, kp _ _ h (hS v e)⟩
  | 2, h => exact h
  | k + 3, ⟨v, e, h⟩ => exact ⟨v, e, kp _ _ h (hS v e)⟩
end K71
set_option maxRecDepth 100000
set_option maxHeartbeats 4000000
/-! Walks 16: write_all with the law's watch, to its error. -/
namespace K71
open PySem PySem.Spec PyProof.Rows L2 SX LamX NdefX
theorem fin_watch {K : PySem.W.Frag} {mg : Str → Option Value} (T : Tx K mg) {Wout : WX} {D : Ends} {p ra dx d ta D0 sa f c' : Addr} {q : Str} {r : RD} {c0 : List Nat} {qs : List DI} {k m kind : Nat} {ps : List PI} {rest : List V} {Rs : Value → Option Addr → Hp → Prop} {H1 : Hp}
    (h : RecP K H1 p ra r c0 qs true k dx d) (ht : H1 ta = some (.tup (refs ps ++ rest))) (hi : InsL H1 ps) (ho : ∀ q ∈ ps, InsOk r q.2) (hl : qs.length + ps.length ≤ 400)
    (hD : H1 D0 = some (.lst (refD qs))) (nD : D0 ∉ [p, d, sa]) (hs : H1 sa = some (.lst [])) (ns : sa ∉ [p, d]) (hc : H1 c' = some (CodeO c' q))
    (he : EndsBy K H1 [p, d, sa] r qs.length m kind ps rest Rs)
    (fin : ∀ σ H' cls dd, Kp [p, d, sa] H1 H' → RecP K H' p ra r c0 qs false k dx D0 → H' sa = some (.lst (seenL qs.length ps.length)) → Rs cls dd H' → Wout cls dd σ H') :
    tFinN (tWAb K (twL K f c' q [some (.ref sa), some (.int (m : Int)), some (.int (kind : Int))])) (tWAs K) (tWAs K) Wout D [some (.ref p), some (.ref ta), some (.ref f), some (.ref D0), some (wS (run r.n c0 (isD qs))), none] H1 := by
  have notup : ∀ s ∈ [p, d, sa], ∀ x, H1 s ≠ some (.tup x) := fun s hs' x z => by
    rcases List.mem_cons.mp hs' with e | hs'
    · rw [e, h.at_] at z; cases z
    · rcases List.mem_cons.mp hs' with e | hs'
      · rw [e, h.dn] at z; cases z
      · rw [List.mem_singleton.mp hs', hs] at z; cases z
  have nsp : sa ≠ p := fun z => ns (by rw [z]; simp)
  have nsd : sa ≠ d := fun z => ns (by rw [z]; simp)
  have ncS : c' ∉ [p, d, sa] := fun hm => by
    rcases List.mem_cons.mp hm with e | hm
    · rw [e, h.at_] at hc; unfold CodeO at hc; cases hc
    · rcases List.mem_cons.mp hm with e | hm
      · rw [e, h.dn] at hc; unfold CodeO at hc; cases hc
      · rw [List.mem_singleton.mp hm, hs] at hc; unfold CodeO at hc; cases hc
  -- behind an error in the loop
  have back : ∀ {qs' : List DI} {x5 : Option V} {H H' : Hp} {cls : Value} {dd : Option Addr}, RecP K H' p ra r c0 (qs ++ qs') true k dx d → Kp [p, d, sa] H1 H' → H' sa = some (.lst (seenL qs.length ps.length)) → (∀ H2, Kp [p] H' H2 → Rs cls dd H2) →
      wFin (tWAs K) Wout cls dd [some (.ref p), some (.ref ta), some (.ref f), some (.ref D0), some (wS (run r.n c0 (isD qs))), x5] H' := fun {qs' x5 H H' cls dd} g kk gs gr => by
    refine fin_back T g (kk _ _ hD nD) fun σ H2 k2 g2 => ?_
    exact fin σ H2 cls dd (kk.trans (k2.mono (by simp))) g2 (k2 _ _ gs (by simpa using nsp)) (gr H2 k2)
  refine ⟨_, rfl, ta, rfl, ⟨_, SqT.of ht⟩, for_it (walk_tup (K := K) (xs := refs ps ++ rest)) (fun i σ H => i ≤ ps.length ∧ (kind ≠ 0 → i < ps.length) ∧ ∃ qs' u, psD qs' = ps.take i ∧ RecP K H p ra r c0 (qs ++ qs') true k dx d ∧ Kp [p, d, sa] H1 H ∧ H sa = some (.lst (seenL qs.length i)) ∧ σ = [some (.ref p), some (.ref ta), some (.ref f), some (.ref D0), some (wS (run r.n c0 (isD qs))), u])
    ⟨Nat.zero_le _, fun hk => ?_, [], none, rfl, by rw [List.append_nil]; exact h, Kp.refl, hs, rfl⟩ (fun i σ H _ h1 => ?_) (fun i x σ H H' hi1 h1 y => ?_) fun σ H h1 => ?_⟩
  · rcases he with ⟨k0, _⟩ | ⟨k0, _⟩ | ⟨_, e1, e2, _⟩ | ⟨_, e1, e2, _⟩
    · exact absurd k0 hk
    · exact absurd k0 hk
    · omega
    · omega
  · obtain ⟨_, _, qs', u, e1, e2, e3, e4, rfl⟩ := h1
    exact SqT.of (e3 _ _ ht fun z => notup _ z _ ht)
  · obtain ⟨rfl, y⟩ := y
    obtain ⟨hi2, hik, qs', u, e1, e2, e3, e4, rfl⟩ := h1
    have hlen : qs'.length = i := by
      have := congrArg List.length e1
      rw [List.length_map, List.length_take] at this
      omega
    by_cases hlt : i < ps.length
    · -- a good one
      rw [List.getElem?_append_left (by rw [List.length_map]; exact hlt)] at y
      obtain ⟨q1, hq, rfl⟩ := map_get y
      have hm := List.mem_of_getElem? hq
      have hv := e3 _ _ (hi q1 hm) fun z => notup _ z _ (hi q1 hm)
      refine ⟨_, rfl, p, dx, _, rfl, e2.at_, rfl, _, rfl, p, ra, dx, d, r, c0, qs ++ qs', true, k, .ref q1.1, rfl, e2, .inl ⟨q1.1, q1.2, rfl, hv, ho q1 hm, by rw [List.length_append]; omega, fun H2 b k2 h2 => ?_⟩⟩
      refine ⟨_, rfl, rfl, _, rfl, ?_⟩
      rw [decide_eq_false (show ¬ V.ref f = V.non from fun z => by cases z)]
      have s2 : H2 sa = some (.lst (seenL qs.length i)) := k2 _ _ e4 ns
      have e3' : Kp [p, d, sa] H1 H2 := e3.trans (k2.mono (by simp))
      rw [List.append_assoc] at h2
      have hq2 : psD (qs' ++ [(b, (q1.1, q1.2))]) = ps.take (i + 1) := by
        show (qs' ++ [(b, q1)]).map _ = _
        rw [List.map_append, List.take_add_one, hq, ← e1]
        rfl
      have hlen2 : (qs ++ (qs' ++ [(b, (q1.1, q1.2))])).length = qs.length + 1 + i := by
        rw [List.length_append, List.length_append, hlen]
        show _ + (_ + 1) = _
        omega
      refine iteT ⟨rfl, _, rfl, e3' _ _ hc ncS, _, rfl, _, rfl, _, rfl, _, rfl, sa, p, ra, dx, d, r, c0, qs ++ (qs' ++ [(b, (q1.1, q1.2))]), true, k, seenL qs.length i, m, kind, rfl, h2, s2, by unfold seenL; rw [List.length_map, List.length_range]; omega, fun H3 k3 e5 => ?_⟩
      rw [hlen2, ← seenL_succ] at e5
      have hsl : (seenL qs.length i).length = i := by unfold seenL; rw [List.length_map, List.length_range]
      have k13 : Kp [p, d, sa] H1 H3 := e3'.trans (k3.mono (by simp))
      have notup3 : ∀ s ∈ [sa], ∀ x, H2 s ≠ some (.tup x) := fun s hs' x z => by
        rw [List.mem_singleton.mp hs', s2] at z; cases z
      have h3 : RecP K H3 p ra r c0 (qs ++ (qs' ++ [(b, (q1.1, q1.2))])) true k dx d := by
        refine ⟨k3 _ _ h2.at_ (by simpa using Ne.symm nsp), h2.ring.kpS k3 ?_ notup3, k3 _ _ h2.dn (by simpa using Ne.symm nsd), h2.el.kpS k3 notup3, h2.cl, h2.ck, h2.io, h2.le, h2.ne⟩
        obtain ⟨_, _, _, _, hr1⟩ := h2.ring
        have : ra ≠ sa := addr_ne hr1.at_ s2 (by intro z; cases z)
        simpa using this
      rw [hsl]
      refine ⟨fun z1 z2 H4 dd k4 n4 e6 => ?_, fun z1 z2 dd => ?_, fun z => ⟨by omega, fun hk => ?_, _, _, hq2, h3, k13, e5, rfl⟩⟩
      · -- the line
        rcases he with ⟨k0, _⟩ | ⟨k0, _⟩ | ⟨_, g1, g2, rfl⟩ | ⟨k0, _⟩
        · omega
        · omega
        · have nps : p ≠ dd := ne_of_none h3.at_ n4
          refine back (H := H4) (h3.ext k4) (k13.trans k4.kp) (k4.at (by rw [← g1, ← z1]; exact e5)) fun H5 k5 => ⟨rfl, dd, rfl, k5 _ _ e6 (by simpa using Ne.symm nps)⟩
        · omega
      · rcases he with ⟨k0, _⟩ | ⟨k0, _⟩ | ⟨k0, _⟩ | ⟨_, g1, g2, rfl⟩
        · omega
        · omega
        · omega
        · refine back (H := H3) h3 k13 (by rw [← g1, ← z1]; exact e5) fun H5 k5 => rfl
      · rcases he with ⟨k0, _⟩ | ⟨k0, _⟩ | ⟨k0, g1, g2, _⟩ | ⟨k0, g1, g2, _⟩
        · exact absurd k0 hk
        · exact absurd k0 hk
        · by_cases z2 : i + 1 = m
          · exact absurd k0 (z z2).1
          · omega
        · by_cases z2 : i + 1 = m
          · exact absurd k0 (z z2).2
          · omega
    · -- the bad one
      have ei : i = ps.length := by omega
      subst ei
      have k0 : kind = 0 := Classical.byContradiction fun hk => by have := hik hk; omega
      rw [List.getElem?_append_right (by rw [List.length_map]; omega), List.length_map, Nat.sub_self] at y
      rcases he with ⟨_, x0, rest', kk, rfl, hx, hxS, rfl⟩ | ⟨_, v, ins, rest', rfl, hv, hok, h400, rfl⟩ | ⟨k1, _⟩ | ⟨k1, _⟩
      · obtain rfl : x0 = x := Option.some.inj y
        refine ⟨_, rfl, p, dx, _, rfl, e2.at_, rfl, _, rfl, p, ra, dx, d, r, c0, qs ++ qs', true, k, x0, rfl, e2, .inr (.inr ⟨kk, hx.kp e3 hxS, fun H2 dd k2 n2 e5 => ?_⟩)⟩
        have nps : p ≠ dd := ne_of_none e2.at_ n2
        exact back (H := H2) (e2.ext k2) (e3.trans k2.kp) (k2.at e4) fun H5 k5 => ⟨rfl, dd, rfl, k5 _ _ e5 (by simpa using Ne.symm nps)⟩
      · obtain rfl : V.ref v = x := Option.some.inj y
        refine ⟨_, rfl, p, dx, _, rfl, e2.at_, rfl, _, rfl, p, ra, dx, d, r, c0, qs ++ qs', true, k, .ref v, rfl, e2, .inr (.inl ⟨v, ins, rfl, e3 _ _ hv fun z => notup _ z _ hv, hok, by rw [List.length_append]; omega, fun H2 dd k2 n2 e5 => ?_⟩)⟩
        have nps : p ≠ dd := ne_of_none e2.at_ n2
        exact back (H := H2) (e2.ext k2) (e3.trans k2.kp) (k2.at e4) fun H5 k5 => ⟨rfl, dd, rfl, k5 _ _ e5 (by simpa using Ne.symm nps)⟩
      · omega
      · omega
  · obtain ⟨hi2, hik, _⟩ := h1
    rw [List.length_append, List.length_map] at hi2 hik
    exfalso
    rcases he with ⟨_, x0, rest', kk, rfl, _⟩ | ⟨_, v, ins, rest', rfl, _⟩ | ⟨k1, _⟩ | ⟨k1, _⟩
    · simp at hi2; omega
    · simp at hi2; omega
    · have := hik (by omega); omega
    · have := hik (by omega); omega
end K71
set_option maxRecDepth 100000
set_option maxHeartbeats 4000000
/-! Walks 17: what _law_failed needs. -/
namespace K71
open PySem PySem.Spec PyProof.Rows L2 SX LamX NdefX
theorem takesN0 {X : Cx} : L2N.Takes X (fun _ _ _ _ => False) := fun _ _ x => by
  obtain ⟨_, _, _, _, _, _, _, _, _, _, _, _, _, _, _, _, z⟩ := x
  exact z.elim
/-- repr of data, or of None -/
def rReprA (K : PySem.W.Frag) : List V → Hp → VK → Prop := fun xs H Q => rRepr K xs H Q ∨ (xs = [.non] ∧ Q (.str "None") H)
theorem call_reprA {X : Cx} (hg : X.A.guards = some []) (hu : X.A.units + 64 < cLine) : CallR X (.builtin "repr") (rReprA X.K) := by
  intro pins s σ H xs us Q I r h
  rcases h with h | h
  · exact call_reprD hg hu pins s σ H xs us Q I r h
  · exact call_reprN pins s σ H xs us Q I r h
/-- the code object of _law_failed, its table, the lambda's name -/
abbrev cP (K : PySem.W.Frag) : Addr := (He.cT K ("_law_failed", none)).1
abbrev tP (K : PySem.W.Frag) : Addr := (He.cT K ("_law_failed", none)).2
abbrev lamQ : Str := ("_law_failed" : Str) ++ ".<locals>." ++ "<lambda>"
theorem tab_kp {H H' : Hp} {P : Addr} {q : Str} {S : List Addr} (t : TabS H P q) (k : Kp S H H') (hS : ∀ s ∈ S, (∀ ps, H s ≠ some (.tbl ps)) ∧ ∀ φ, H s ≠ some (.ext φ)) : TabS H' P q := by
  obtain ⟨ps, h1, h2, h3⟩ := t
  refine ⟨ps, k _ _ h1 fun z => (hS _ z).1 _ h1, h2, fun pos cv hc => ?_⟩
  obtain ⟨c, e1, e2⟩ := h3 pos cv hc
  exact ⟨c, e1, k _ _ e2 fun z => (hS _ z).2 _ e2⟩
theorem tab_ext {H H' : Hp} {P : Addr} {q : Str} (t : TabS H P q) (k : Ext H H') : TabS H' P q := tab_kp t k (by simp)
/-- all that stood stands, but for the addresses in S and the tables -/
def KpT (S : List Addr) (H H' : Hp) : Prop := ∀ b o, H b = some o → b ∉ S → (∀ q, o ≠ .tbl q) → H' b = some o
theorem KpT.of {S : List Addr} {H H' : Hp} (k : Kp S H H') : KpT S H H' := fun b o e n _ => k b o e n
theorem KpT.trans {S : List Addr} {H H1 H2 : Hp} (a : KpT S H H1) (b : KpT S H1 H2) : KpT S H H2 := fun c o h n t => b c o (a c o h n t) n t
theorem KpT.mono {S S' : List Addr} {H H' : Hp} (a : KpT S H H') (h : ∀ b ∈ S, b ∈ S') : KpT S' H H' := fun c o e n t => a c o e (fun z => n (h c z)) t
theorem KpT.ext {S : List Addr} {H H' : Hp} (a : ExtN H H') : KpT S H H' := fun c o e _ t => a c o e t
section
variable {K : PySem.W.Frag} {H H' : Hp} {S : List Addr}
theorem KpT.ring {a : Addr} {r : RD} (k : KpT S H H') (h : RingAt K H a r) (ha : a ∉ S) (hS : ∀ s ∈ S, ∀ x, H s ≠ some (.tup x)) : RingAt K H' a r := by
  obtain ⟨dx, la, wa, pa, h⟩ := h
  exact ⟨dx, la, wa, pa, k _ _ h.at_ ha (by intro q z; cases z), k _ _ h.la (fun z => hS _ z _ h.la) (by intro q z; cases z), k _ _ h.wa (fun z => hS _ z _ h.wa) (by intro q z; cases z), k _ _ h.pa (fun z => hS _ z _ h.pa) (by intro q z; cases z), h.ok⟩
theorem KpT.insL {ps : List PI} (k : KpT S H H') (h : InsL H ps) (hS : ∀ s ∈ S, ∀ x, H s ≠ some (.tup x)) : InsL H' ps := fun q hq => k _ _ (h q hq) (fun z => hS _ z _ (h q hq)) (by intro q z; cases z)
theorem KpT.ent {n : Nat} {c0 : List Nat} {qs : List DI} (k : KpT S H H') (h : EntAt H n c0 qs) (hS : ∀ s ∈ S, ∀ x, H s ≠ some (.tup x)) : EntAt H' n c0 qs := fun i q e => by
  obtain ⟨h1, h2⟩ := h i q e
  exact ⟨k _ _ h1 (fun z => hS _ z _ h1) (by intro q z; cases z), k _ _ h2 (fun z => hS _ z _ h2) (by intro q z; cases z)⟩
theorem KpT.rec {p ra : Addr} {r : RD} {c0 : List Nat} {qs : List DI} {rn : Bool} {n : Nat} {dx d : Addr} (k : KpT S H H') (h : RecP K H p ra r c0 qs rn n dx d) (hp : p ∉ S) (hr : ra ∉ S) (hd : d ∉ S) (hS : ∀ s ∈ S, ∀ x, H s ≠ some (.tup x)) : RecP K H' p ra r c0 qs rn n dx d :=
  ⟨k _ _ h.at_ hp (by intro q z; cases z), k.ring h.ring hr hS, k _ _ h.dn hd (by intro q z; cases z), k.ent h.el hS, h.cl, h.ck, h.io, h.le, h.ne⟩
end
/-- the odd orders as data -/
def oddD (n k : Nat) : PyData := match k with
  | 0 => .tuple [.int (n : Int), .str "left"]
  | 1 => .tuple [.int 0, .str "up"]
  | 2 => .none
  | _ => .list [.int 0, .str "left"]
theorem odd_repr {K : PySem.W.Frag} {H : Hp} {n k : Nat} {x : V} {Q : VK} (hn : n ≤ 12) (h : OddAt H n k x) (q : Q (.str (oddD n k).shown) H) : rReprA K [x] H Q := by
  match k, h with
  | 0, ⟨v, e, g⟩ =>
    subst e
    refine .inl ⟨v, oddD n 0, rfl, .tup (SqT.of g) (.cons (.int _) (.cons (.str _) .nil)), ?_, rfl, by show 1 ≤ 32; decide, ?_, q⟩
    · have : ∀ n ≤ 12, (oddD n 0).showable = true := by decide +kernel
      exact this n hn
    · have : ∀ n ≤ 12, (oddD n 0).shown.length ≤ 100 := by decide +kernel
      have := this n hn
      rw [sizeLine_eq]
      omega
  | 1, ⟨v, e, g⟩ =>
    subst e
    have hs : (PyData.tuple [.int 0, .str "up"]).showable = true := by decide +kernel
    have hl : (PyData.tuple [.int 0, .str "up"]).shown.length ≤ sizeLine := by decide +kernel
    exact .inl ⟨v, .tuple [.int 0, .str "up"], rfl, .tup (SqT.of g) (.cons (.int _) (.cons (.str _) .nil)), hs, rfl, by show 1 ≤ 32; decide, hl, q⟩
  | 2, h =>
    obtain rfl : x = .non := h
    exact .inr ⟨rfl, q⟩
  | k + 3, ⟨v, e, g⟩ =>
    subst e
    have hs : (PyData.list [.int 0, .str "left"]).showable = true := by decide +kernel
    have hl : (PyData.list [.int 0, .str "left"]).shown.length ≤ sizeLine := by decide +kernel
    exact .inl ⟨v, .list [.int 0, .str "left"], rfl, .lst (SqL.of g) (.cons (.int _) (.cons (.str _) .nil)), hs, rfl, by show 1 ≤ 32; decide, hl, q⟩
theorem odd_len {n k : Nat} (hn : n ≤ 12) : (oddD n k).shown.length ≤ 100 := by
  match k with
  | 0 =>
    have : ∀ n ≤ 12, (oddD n 0).shown.length ≤ 100 := by decide +kernel
    exact this n hn
  | 1 => exact (by decide +kernel : (PyData.tuple [.int 0, .str "up"]).shown.length ≤ 100)
  | 2 => exact (by decide +kernel : (PyData.none).shown.length ≤ 100)
  | k + 3 => exact (by decide +kernel : (PyData.list [.int 0, .str "left"]).shown.length ≤ 100)
def insTxt (n k : Nat) : Str := ("instruction " : Str) ++ (oddD n k).shown
/-- what _law_failed tells of the end -/
def EndTxt (K : PySem.W.Frag) (H : Hp) (S : List Addr) (n : Nat) (Rs : Value → Option Addr → Hp → Prop) (z : Str) : Prop :=
  (∃ x kk, Rs = ResI K x ∧ OddAt H n kk x ∧ (∀ v, x = .ref v → v ∉ S) ∧ z = insTxt n kk) ∨ (Rs = ResM K ∧ z = "many 400") ∨ (Rs = ResL K ∧ z = "line stop") ∨ (Rs = ResK ∧ z = "key")
end K71
set_option maxRecDepth 100000
set_option maxHeartbeats 4000000
/-! Walks 18: _law_failed. -/
namespace K71
open PySem PySem.Spec PyProof.Rows L2 SX LamX NdefX
theorem sc_Lfailed : FnScope ["_law_recorder", "_law_orders_here", "_law_seen", "_law_at", "_law_kind", "e"] ["_law_recorder", "_law_orders_here", "_law_seen", "_law_at", "_law_kind"] (defScope s_Lfailed) := C8.fnScope_by (by decide +kernel)
def rTupOf (K : PySem.W.Frag) : List V → Hp → VK → Prop := fun xs H Q => ∃ p ys, xs = [.ref p] ∧ ((SqL K H p ys ∧ ∀ l, H l = none → Q (.ref l) (upd H l (.tup ys))) ∨ (SqT K H p ys ∧ Q (.ref p) H))
theorem call_tupOf {X : Cx} : CallR X (.type "tuple") (rTupOf X.K) := call_tuple_of
def rCS : R2 := fun x y H Q => ∃ i j, x = .str i ∧ y = .str j ∧ i.length + j.length ≤ sizeLine ∧ Q (.str (i ++ j)) H
theorem op_CS {X : Cx} : OpR X (binaryOp .Add) rCS := op_add_str
theorem EndsBy.kp {K : PySem.W.Frag} {H H' : Hp} {S S' : List Addr} {r : RD} {nq m kind : Nat} {ps : List PI} {rest : List V} {Rs : Value → Option Addr → Hp → Prop} (h : EndsBy K H S r nq m kind ps rest Rs) (k : Kp S' H H') (hS : ∀ b ∈ S', b ∈ S) (hT : ∀ s ∈ S', ∀ x, H s ≠ some (.tup x)) : EndsBy K H' S r nq m kind ps rest Rs := by
  rcases h with ⟨k0, x, rest', kk, e, ho, hx, eR⟩ | ⟨k0, v, i, rest', e, hv, hi, hn, eR⟩ | h | h
  · exact .inl ⟨k0, x, rest', kk, e, ho.kp k fun v z w => hx v z (hS v w), hx, eR⟩
  · exact .inr (.inl ⟨k0, v, i, rest', e, k _ _ hv fun z => hT _ z _ hv, hi, hn, eR⟩)
  · exact .inr (.inr (.inl h))
  · exact .inr (.inr (.inr h))
/-- what write_all with the lambda asks; W: what is wished of its error -/
def TTf (K : PySem.W.Frag) (W : WX) : Addr → Addr → List (Option V) → V → V → L2.St → Hp → VK → Prop := fun _ c' ws x v σ H _ =>
  ∃ (p ra dx d ta sa : Addr) (r : RD) (c0 : List Nat) (qs : List DI) (k m kind : Nat) (ps : List PI) (rest : List V) (Rs : Value → Option Addr → Hp → Prop), x = .ref p ∧ v = .ref ta ∧ ws = [some (.ref sa), some (.int (m : Int)), some (.int (kind : Int))] ∧
    RecP K H p ra r c0 qs false k dx d ∧ H ta = some (.tup (refs ps ++ rest)) ∧ InsL H ps ∧ (∀ q ∈ ps, InsOk r q.2) ∧ qs.length + ps.length ≤ 400 ∧ H sa = some (.lst []) ∧ sa ∉ [p, d] ∧ H c' = some (CodeO c' lamQ) ∧ EndsBy K H [p, d, sa] r qs.length m kind ps rest Rs ∧
    ∀ D0 H' cls dd, Kp [p, d, sa] H H' → H D0 = none → RecP K H' p ra r c0 qs false (k + 1) dx D0 → H' sa = some (.lst (seenL qs.length ps.length)) → Rs cls dd H' → W cls dd σ H'
section
variable {P : Program} {w : World} {K : PySem.W.Frag} {mg : Str → Option Value} {base : Heap}
/-- a def by its body, its code object known -/
theorem fnGc {params : Arguments} {body : List Stmt} {scope : Scope} {fd : FuncData} {N ps : List Str} {k : Nat} {sp : Sp} (F : FunD K "_law_failed" "_law_failed" params body scope [] [] (ga K "_law_failed") fd) (S : FnScope N ps scope) (len : ∀ vs H Q E, sp vs H Q E → vs.length = ps.length)
    (hbody : ∀ (A : Around) (outer : List Env) (s : Shared) (H : Hp) (vs : List V) (Q : VK) (E : XK), A.guards = some [] → Room k (A.deeper (envOfC "_law_failed" scope s.heap.objs.size (ga K "_law_failed") (.ref (cP K)))) → sp vs H Q E →
      ∃ t, PSs (cxOf C8.CX0 P w K mg base N "_law_failed" scope (ga K "_law_failed") (.ref (cP K)) A outer s H E).nox body t ∧ t { nx := fun _ H' => Q .non H', rt := Q } (start N vs) H) : FnG P w K mg base (k + 1) (ga K "_law_failed") fd ps sp := by
  obtain ⟨oc, od, dV, kV, doc, pm, an, cdv, ct, osl, rfl, lk, hcd, _, _⟩ := F.ex
  obtain ⟨c, rfl⟩ := He.codeIn_ref hcd
  have ec : cP K = c := He.codeOf_eq (p := ("_law_failed", none)) lk rfl
  subst ec
  refine ⟨len, fun A outer s H args us vs Q E hg hr e0 hb r hsp => ?_⟩
  refine LamX.run_ofS (N := N) lk hcd S hr e0 hb r (len _ _ _ _ hsp) fun hr' => ?_
  obtain ⟨t, h, q⟩ := hbody A outer s H vs Q E hg hr' hsp
  exact ⟨t, h.nox, q⟩
end
end K71
set_option maxRecDepth 100000
set_option maxHeartbeats 4000000
/-! Walks 19: _law_failed, its body. -/
namespace K71
open PySem PySem.Spec PyProof.Rows L2 SX LamX NdefX
section
variable {P : Program} {w : World} {K : PySem.W.Frag} {mg : Str → Option Value} {base : Heap}
theorem OddAt.kpT {H H' : Hp} {n k : Nat} {x : V} {S : List Addr} (h : OddAt H n k x) (kp : KpT S H H') (hS : ∀ v, x = .ref v → v ∉ S) : OddAt H' n k x := by
  match k, h with
  | 0, ⟨v, e, h⟩ => exact ⟨v, e, kp _ _ h (hS v e) (by intro q z; cases z)⟩
  | 1, ⟨v, e, h⟩ => exact ⟨v, e, kp _ _ h (hS v e) (by intro q z; cases z)⟩
  | 2, h => exact h
  | k + 3, ⟨v, e, h⟩ => exact ⟨v, e, kp _ _ h (hS v e) (by intro q z; cases z)⟩
theorem EndsBy.kpT {K : PySem.W.Frag} {H H' : Hp} {S : List Addr} {r : RD} {nq m kind : Nat} {ps : List PI} {rest : List V} {Rs : Value → Option Addr → Hp → Prop} (h : EndsBy K H S r nq m kind ps rest Rs) (k : KpT [] H H') : EndsBy K H' S r nq m kind ps rest Rs := by
  rcases h with ⟨k0, x, rest', kk, e, ho, hx, eR⟩ | ⟨k0, v, i, rest', e, hv, hi, hn, eR⟩ | h | h
  · exact .inl ⟨k0, x, rest', kk, e, ho.kpT k (by simp), hx, eR⟩
  · exact .inr (.inl ⟨k0, v, i, rest', e, k _ _ hv (by simp) (by intro q z; cases z), hi, hn, eR⟩)
  · exact .inr (.inr (.inl h))
  · exact .inr (.inr (.inr h))
/-- D0 is none of what stood -/
def NewN (H : Hp) (D0 : Addr) : Prop := ∀ b o, H b = some o → (∀ q, o ≠ .tbl q) → b ≠ D0
def spFailed (K : PySem.W.Frag) : Sp := fun vs H Q _ => ∃ (p ra dx d oa sa : Addr) (r : RD) (c0 : List Nat) (qs : List DI) (k m kind : Nat) (ps : List PI) (rest : List V) (Rs : Value → Option Addr → Hp → Prop) (z : Str), vs = [.ref p, .ref oa, .ref sa, .int (m : Int), .int (kind : Int)] ∧
  RecP K H p ra r c0 qs false k dx d ∧ H oa = some (.lst (refs ps ++ rest)) ∧ InsL H ps ∧ (∀ q ∈ ps, InsOk r q.2) ∧ qs.length + ps.length ≤ 400 ∧ H sa = some (.lst []) ∧ sa ∉ [p, d] ∧ EndsBy K H [p, d, sa] r qs.length m kind ps rest Rs ∧ EndTxt K H [p, d, sa] r.n Rs z ∧
  TabS H (tP K) lamQ ∧ ∀ D0 H', KpT [p, d, sa] H H' → NewN H D0 → RecP K H' p ra r c0 qs false (k + 1) dx D0 → H' sa = some (.lst (seenL qs.length ps.length)) → TabS H' (tP K) lamQ → Q (.str z) H'
theorem cal_failed (T : Tx K mg) (TB : TabB base mg (cP K) (tP K)) : CalG P w K mg base 7 "_law_failed" (spFailed K) := by
  obtain ⟨fdW, FW, bW, kW⟩ := cal_watch (P := P) (w := w) (base := base) T
  obtain ⟨fdA, FA⟩ := T.F_Recorder_write_all
  obtain ⟨mv, KB⟩ := FA.kbinds0 (ps := ["self", "instructions", "watch"]) 2 ["watch"] [] (fun us mv ws => us ++ ws) (by simp) (by simp) (fun r1 _ r2 => r1.append r2) (fun Dd doc pm an cdv ct us mv ws h1 h2 h3 => by
    obtain ⟨a, b, rfl⟩ := len2 h1
    obtain ⟨c, rfl⟩ := len1 h3
    obtain rfl : mv = [] := List.eq_nil_of_length_eq_zero h2
    rfl)
  obtain ⟨oc, od, dV, kV, doc, pm, an, cdv, ct, osl, rfl, lk, hcd, _, _⟩ := FA.ex
  obtain ⟨fd, F⟩ := T.F_Lfailed
  refine ⟨_, fd, ["_law_recorder", "_law_orders_here", "_law_seen", "_law_at", "_law_kind"], fnGc F sc_Lfailed (fun vs H Q E h => ?_) (fun A outer s H vs Q E hg hr h => ⟨_, pss_cons (ps_try_manyN
      (tb := fun W => tDrop (tCallL K (ga K "Recorder") "write_all" [(tP K, lamQ)] lamQ [2, 3, 4] (tVar 0) (tCons (tCB (rTupOf K) (tCons (tVar 1) tNil)) tNil) (TTf K W))) rfl rfl takesN0
      (fun W pn xe tk hp => pss_one (ps_expr (by
        refine pe_callL (k := 5) (Ng := ["self", "instructions", "watch", "done", "letters", "instruction"]) (ps := ["self", "instructions", "watch"]) (fr := ["_law_seen", "_law_at", "_law_kind"]) (js := [2, 3, 4]) (x := "_law_one") (pv 0) T.cl_Recorder T.m_Recorder_write_all (pa_cons (pe_callTy call_tupOf rfl T.f_tuple (by decide +kernel) (pa_cons (pv 1) pa_nil)) pa_nil) lk hcd sc_Recorder_write_all rfl (fun s us u X h => KB.to s us [u] X h rfl) tk hr TB rfl List.mem_cons_self (fun q hq _ => by rw [List.mem_singleton.mp hq] <;> rfl) rfl ?_ ?_ rfl ?_
        · exact fun y hy e => ndef_free (sc := defScope s_Lfailed) (fr := ["_law_seen", "_law_at", "_law_kind"]) (by decide +kernel) y hy e
        · exact fun y hy => ndef_fr (sc := defScope s_Lfailed) (fr := ["_law_seen", "_law_at", "_law_kind"]) (by decide +kernel) y hy
        · intro pins s1 σ H1 f c' pvv ctv x v Q1 I hf hfn hfr C hr' tt
          obtain ⟨p, ra, dx, d, ta, sa, r, c0, qs, k, m, kind, ps, rest, Rs, rfl, rfl, ews, h1, h2, h3, h4, h5, h6, h7, h8, h9, post⟩ := tt
          rw [ews] at C
          obtain ⟨t, t1, t2⟩ := pss_wa T (P := P) (w := w) (base := base) (f := He.ma K (ga K "Recorder") "write_all") (cdv := cdv) (A := (cxOf C8.CX0 P w K mg base ["_law_recorder", "_law_orders_here", "_law_seen", "_law_at", "_law_kind", "e"] "_law_failed" (defScope s_Lfailed) (ga K "_law_failed") (.ref (cP K)) A outer s H E).A) (outer := (cxOf C8.CX0 P w K mg base ["_law_recorder", "_law_orders_here", "_law_seen", "_law_at", "_law_kind", "e"] "_law_failed" (defScope s_Lfailed) (ga K "_law_failed") (.ref (cP K)) A outer s H E).stack) (s := s1) (H := H1) (E := fun cls dd H' => W cls dd σ H') (tw := twL K f c' lamQ [some (.ref sa), some (.int (m : Int)), some (.int (kind : Int))]) (hr'.mono (by decide))
            (fun W' pn' xe' p1 p2 p3 tk' => by
              refine pe_actP (k := 4) (NL := lamN) (x := "_law_one") (i := 2) (j := 0) (tb := fun E => tCallS (spWatch K) (fun σ => WE (fun cls d _ H' => E cls d H') σ) (tCons (tVar 1) (tCons (tVar 2) (tCons (tVar 3) (tCons (tVar 0) tNil))))) I (nscope_by (by decide +kernel)) hf hfn hfr C (fun u => rfl) tk' hr' (fun A2 outer2 s2 H2 E2 hr2 => ?_) rfl (Or.inl rfl) rfl (Or.inl rfl)
              exact pe_callS FW hr2 rfl T.g_law_watch kW bW (fun σ => L2N.passAt (L2N.takes_of rfl rfl rfl rfl) σ) (by exact pa_cons (pv 1) (pa_cons (pv 2) (pa_cons (pv 3) (pa_cons (pv 0) pa_nil)))))
          refine ⟨fun cls dd H' => W cls dd σ H', t, fun _ _ _ z => z, t1, t2 _ p ra dx d ta r c0 qs k (refs ps ++ rest) (.ref f) H1 h1 h2 fun D0 H2 hD k2 e2 g2 => ?_⟩
          have np : ∀ {v : Addr} {x : List V}, H1 v = some (.tup x) → v ∉ [p] := fun {v x} hv hm => by
            rw [List.mem_singleton.mp hm, h1.at_] at hv; cases hv
          have notp : ∀ s ∈ [p], ∀ x, H1 s ≠ some (.tup x) := fun s hs x z => np z hs
          have nsp : sa ≠ p := fun z => h7 (by rw [z]; simp)
          refine fin_watch T g2 (k2 _ _ h2 (np h2)) (fun y hy => k2 _ _ (h3 y hy) (np (h3 y hy))) h4 h5 e2 ?_ (k2 _ _ h6 (by simpa using nsp)) h7 (k2 _ _ h8 fun hm => ?_) (h9.kp k2 (by simp) notp) fun σ3 H3 cls dd k3 g3 gs gr => post D0 H3 cls dd ((k2.mono (by simp)).trans k3) hD g3 gs gr
          · intro hm
            rcases List.mem_cons.mp hm with e | hm
            · rw [e, h1.at_] at hD; cases hD
            · rcases List.mem_cons.mp hm with e | hm
              · rw [e, h1.dn] at hD; cases hD
              · rw [List.mem_singleton.mp hm, h6] at hD; cases hD
          · rw [List.mem_singleton.mp hm, h1.at_] at h8
            unfold CodeO at h8
            cases h8)))
      (HdsN.named (i := 5) sc_Lfailed.nd rfl rfl ⟨rfl, by decide, .inl T.g_InvalidLine⟩ (fun a oe cls d pn hz hf => pss_one (ps_ret (pe_op op_CS pe_str (pe_xf T.exIL.xf T.n_InvalidLine_line hz.zc hf (pv 5)))))
        (HdsN.plain (names_blt rfl T.f_KeyError boot_KeyError) (fun a oe cls d pn hz hf => pss_one (ps_ret pe_str))
        (HdsN.named (i := 5) (ts := fun a cls d => tRet (tOp rCS (tC (.str "instruction ")) (tCB (rReprA K) (tCons (tXf a cls d (ga K "InvalidInstruction") "instruction" (tVar 5)) tNil)))) sc_Lfailed.nd rfl rfl ⟨rfl, by decide, .inl T.g_InvalidInstruction⟩ (fun a oe cls d pn hz hf => pss_one (ps_ret (pe_op op_CS pe_str (pe_callB (call_reprA hg (by exact (u64 hr : (A.deeper _).units + 64 < cLine))) rfl T.f_repr (by decide +kernel) (pa_cons (pe_xf T.exII.xf T.n_InvalidInstruction_instruction hz.zc hf (pv 5)) pa_nil)))))
        (HdsN.named (i := 5) sc_Lfailed.nd rfl rfl ⟨rfl, by decide, .inl T.g_TooMany⟩ (fun a oe cls d pn hz hf => pss_one (ps_ret (pe_op op_CS pe_str (pe_callB SkE.call_repr_int rfl T.f_repr (by decide +kernel) (pa_cons (pe_xf T.exTM.xf T.n_TooMany_limit hz.zc hf (pv 5)) pa_nil)))))
        HdsN.nil))))) (pss_one (ps_ret pe_str)), ?_⟩), T.g_law_failed, F.kp, F.bindsN (fun _ _ _ _ _ _ us hl => ?_)⟩
  · obtain ⟨p, ra, dx, d, oa, sa, r, c0, qs, k, m, kind, ps, rest, Rs, z, rfl, _⟩ := h
    rfl
  · obtain ⟨p, ra, dx, d, oa, sa, r, c0, qs, k, m, kind, ps, rest, Rs, z, rfl, h, hoa, hi, hik, hle, hsa, hsn, hends, hetx, htab, q⟩ := h
    have hn : r.n ≤ 12 := by obtain ⟨_, _, _, _, hr1⟩ := h.ring; exact hr1.ok.hi
    have tb : ∀ {G : Hp}, TabS G (tP K) lamQ → Tabs [(tP K, lamQ)] G := fun t y hy => by
      rw [List.mem_singleton.mp hy]
      exact t
    refine ⟨_, rfl, p, dx, _, rfl, h.at_, rfl, _, rfl, oa, _, rfl, .inl ⟨SqL.of hoa, fun ta hta => ⟨_, rfl, tb (tab_ext htab (Ext.new hta)), fun f c' H3 kn t3 hf hc' => ?_⟩⟩⟩
    have k1 := Ext.new (o := .tup (refs ps ++ rest)) hta
    have k3 : KpT [] H H3 := (KpT.of k1).trans (KpT.ext kn)
    have at3 : ∀ {b : Addr} {o : HO}, H b = some o → (∀ q, o ≠ .tbl q) → H3 b = some o := fun e t => k3 _ _ e (by simp) t
    have h3 : RecP K H3 p ra r c0 qs false k dx d := k3.rec h (by simp) (by simp) (by simp) (by simp)
    have sa3 := at3 hsa (by intro q z; cases z)
    refine ⟨p, ra, dx, d, ta, sa, r, c0, qs, k, m, kind, ps, rest, Rs, rfl, rfl, rfl, h3, kn _ _ upd_same (by intro q z; cases z), k3.insL hi (by simp), hik, hle, sa3, hsn, hc', hends.kpT k3, fun D0 H' cls dd kk hD rc es hRs => ?_⟩
    have kt : KpT [p, d, sa] H H' := (k3.mono (by simp)).trans (KpT.of kk)
    have fin : Q (.str z) H' := q D0 H' kt (fun b o e t => ne_of_none (at3 e t) hD) rc es (tab_kp (t3 _ (List.mem_singleton.mpr rfl)) kk fun y hy => by
      rcases List.mem_cons.mp hy with e | hy
      · rw [e, h3.at_]
        exact ⟨fun _ z => (by cases z), fun _ z => (by cases z)⟩
      · rcases List.mem_cons.mp hy with e | hy
        · rw [e, h3.dn]
          exact ⟨fun _ z => (by cases z), fun _ z => (by cases z)⟩
        · rw [List.mem_singleton.mp hy, sa3]
          exact ⟨fun _ z => (by cases z), fun _ z => (by cases z)⟩)
    have no : ∀ {A : Prop}, false = true → A := fun z => (by cases z)
    have no' : ∀ {A : Prop}, true = false → A := fun z => (by cases z)
    rcases hetx with ⟨x, ko, rfl, hodd, hx, rfl⟩ | ⟨rfl, rfl⟩ | ⟨rfl, rfl⟩ | ⟨rfl, rfl⟩
    · obtain ⟨rfl, a0, rfl, ha0⟩ := hRs
      have hodd' : OddAt H' r.n ko x := hodd.kpT kt hx
      refine ⟨false, T.x_InvalidInstruction_InvalidLine, no, fun _ => ⟨false, T.II_ke, no, fun _ => ⟨true, T.x_InvalidInstruction_InvalidInstruction, fun _ a ha => ?_, no'⟩⟩⟩
      refine ⟨_, rfl, rfl, rfl, a0, _, x, rfl, ha0, rfl, odd_repr hn hodd' ⟨_, _, rfl, rfl, ?_, fin⟩⟩
      have := odd_len (k := ko) hn
      show 12 + _ ≤ _
      rw [sizeLine_eq]
      omega
    · obtain ⟨rfl, a0, rfl, ha0⟩ := hRs
      refine ⟨false, T.x_TooMany_InvalidLine, no, fun _ => ⟨false, T.TM_ke, no, fun _ => ⟨false, T.x_TooMany_InvalidInstruction, no, fun _ => ⟨true, T.x_TooMany_TooMany, fun _ a ha => ?_, no'⟩⟩⟩⟩
      refine ⟨_, rfl, rfl, rfl, a0, _, .int 400, rfl, ha0, rfl, 400, rfl, by decide +kernel, _, _, rfl, rfl, by decide +kernel, ?_⟩
      have e : (("many " : Str) ++ (toString (400 : Int) : String) : Str) = "many 400" := by decide +kernel
      exact e ▸ fin
    · obtain ⟨rfl, a0, rfl, ha0⟩ := hRs
      refine ⟨true, T.x_InvalidLine_InvalidLine, fun _ a ha => ?_, no'⟩
      refine ⟨_, rfl, rfl, rfl, a0, _, .str "stop", rfl, ha0, rfl, _, _, rfl, rfl, by decide +kernel, ?_⟩
      have e : (("line " : Str) ++ ("stop" : Str) : Str) = "line stop" := by decide +kernel
      exact e ▸ fin
    · obtain rfl : cls = .type "KeyError" := hRs
      exact ⟨false, T.ke_IL, no, fun _ => ⟨true, by rfl, fun _ a ha => fin, no'⟩⟩
  · obtain ⟨a, b, c, d, e, rfl⟩ := len5 hl
    rfl
end
end K71
set_option maxRecDepth 100000
set_option maxHeartbeats 4000000
/-! Walks 20: _law_state. -/
namespace K71
open PySem PySem.Spec PyProof.Rows L2 SX
theorem sc_Lstate : FnScope ["_law_recorder", "_law_found"] ["_law_recorder"] (defScope s_Lstate) := C8.fnScope_by (by decide +kernel)
def spState (K : PySem.W.Frag) : Sp := fun vs H Q _ => ∃ (p ra dx d : Addr) (r : RD) (c0 : List Nat) (qs : List DI) (k : Nat), vs = [.ref p] ∧ RecP K H p ra r c0 qs false k dx d ∧ ∀ H', Ext H H' → Q (.str (stD r c0 (isD qs)).shown) H'
section
variable {P : Program} {w : World} {K : PySem.W.Frag} {mg : Str → Option Value} {base : Heap}
theorem cal_state (T : Tx K mg) : CalG P w K mg base 6 "_law_state" (spState K) := by
  have m_held : C8.Met P w K mg base 1 (ga K "Recorder") "held" (spRec K pHeld) [] := met_held T
  have m_recorded : C8.Met P w K mg base 1 (ga K "Recorder") "recorded" (spRec K pRecd) [] := met_recorded T
  have m_sources : C8.Met P w K mg base 3 (ga K "Recorder") "sources" (spRec K pSrc) [] := met_sources T
  have m_spent : C8.Met P w K mg base 1 (ga K "Recorder") "spent" (spRec K pSpent) [] := met_spent T
  obtain ⟨fdL, FL, bL⟩ := ok_Recorder_len (P := P) (w := w) (base := base) T
  obtain ⟨fdS, FS, bS⟩ := ok_Recorder_str (P := P) (w := w) (base := base) T
  obtain ⟨fdR, FR, bR⟩ := ok_Recorder_repr (P := P) (w := w) (base := base) T
  obtain ⟨fdQ, FQ, bQ⟩ := ok_Ring_str (P := P) (w := w) (base := base) T
  obtain ⟨fd, F⟩ := T.F_Lstate
  refine ⟨_, fd, ["_law_recorder"], fnG (k := 5) F sc_Lstate (fun vs H Q E h => ?_) (fun cdv A outer s H vs Q E hg hr h => ⟨_, (pss_cons (ps_set (i := 1) sc_Lstate.nd rfl (Or.inl rfl) (pe_lst (pa_cons (C8.pe_mt0 m_held hr (by decide) (pv 0)) (pa_cons (C8.pe_mt0 m_recorded hr (by decide) (pv 0)) (pa_cons (C8.pe_mt0 m_sources hr (by decide) (pv 0)) (pa_cons (C8.pe_mt0 m_spent hr (by decide) (pv 0)) (pa_cons (pe_callB (call_lenO (C := ga K "Recorder") FL bL T.m_Recorder_len (hr.mono (by decide))) rfl T.f_len (by decide +kernel) (pa_cons (pv 0) pa_nil)) pa_nil)))))))
        (pss_cons (ps_set (i := 1) sc_Lstate.nd rfl (Or.inl rfl) (pe_op op_cat (pv 1) (pe_lst (pa_cons (pe_callTy (call_strO (C := ga K "Recorder") FS bS T.m_Recorder_str (hr.mono (by decide))) rfl T.f_str (by decide +kernel) (pa_cons (pv 0) pa_nil)) (pa_cons (pe_callB (call_reprO (C := ga K "Recorder") FR bR T.m_Recorder_repr hr) rfl T.f_repr (by decide +kernel) (pa_cons (pv 0) pa_nil)) (pa_cons (pe_fld (pv 0) rfl) (pa_cons (pe_callTy (call_boolO (C := ga K "Recorder") FL bL T.m_Recorder_len T.n_Recorder_bool (hr.mono (by decide))) rfl T.f_bool (by decide +kernel) (pa_cons (pv 0) pa_nil)) (pa_cons (pe_callTy (call_strO (C := ga K "Ring") FQ bQ T.m_Ring_str (hr.mono (by decide))) rfl T.f_str (by decide +kernel) (pa_cons (pe_fld (pv 0) rfl) pa_nil)) pa_nil))))))))
        (pss_one (ps_ret (pe_callB (call_reprD hg (u64 hr)) rfl T.f_repr (by decide +kernel) (pa_cons (pv 1) pa_nil)))))), ?_⟩), T.g_law_state, F.kp, F.bindsN (fun _ _ _ _ _ _ us hl => ?_)⟩
  · obtain ⟨p, ra, dx, d, r, c0, qs, k, rfl, _⟩ := h
    rfl
  · obtain ⟨p, ra, dx, d, r, c0, qs, k, rfl, h, q⟩ := h
    have hle := h.le
    have z : ∀ n, n ≤ 100 → n ≤ sizeLine := fun n hn => by rw [sizeLine_eq]; omega
    refine ⟨_, rfl, p, dx, _, rfl, h.at_, rfl, p, ra, dx, d, r, c0, qs, false, k, rfl, h, ?_⟩
    refine ⟨_, rfl, p, dx, _, rfl, h.at_, rfl, p, ra, dx, d, r, c0, qs, false, k, rfl, h, fun t1 H1 k1 e1 => ?_⟩
    have h1 := h.ext k1
    refine ⟨_, rfl, p, dx, _, rfl, h1.at_, rfl, p, ra, dx, d, r, c0, qs, false, k, rfl, h1, fun t2 H2 k2 e2 => ?_⟩
    have h2 := h1.ext k2
    refine ⟨_, rfl, p, dx, _, rfl, h2.at_, rfl, p, ra, dx, d, r, c0, qs, false, k, rfl, h2, fun H3 k3 => ?_⟩
    have h3 := h2.ext k3
    refine ⟨_, rfl, p, dx, _, rfl, h3.at_, p, ra, dx, d, r, c0, qs, false, k, rfl, h3, qs.length, rfl, by omega, z _ (by show 5 ≤ 100; decide), fun a ha => ?_⟩
    have k4 := k3.newer (o := .lst [wS (run r.n c0 (isD qs)), .ref t1, .ref t2, .int ((spent r (isD qs) : Nat) : Int), .int (qs.length : Int)]) ha
    have h4 := h2.ext k4
    refine ⟨_, rfl, _, rfl, p, dx, _, rfl, h4.at_, p, ra, dx, d, r, c0, qs, false, k, rfl, h4, _, rfl, ?_⟩
    refine ⟨_, rfl, p, dx, _, rfl, h4.at_, p, ra, dx, d, r, c0, qs, false, k, rfl, h4, _, rfl, ?_⟩
    refine ⟨_, rfl, p, _, _, _, _, rfl, h4.at_, T.cl_Recorder, T.n_Recorder_running, rfl, ?_⟩
    refine ⟨_, rfl, p, dx, _, rfl, h4.at_, p, ra, dx, d, r, c0, qs, false, k, rfl, h4, qs.length, rfl, by omega, ?_⟩
    obtain ⟨dr, la, wa, pa, hr4⟩ := h4.ring
    refine ⟨_, rfl, p, _, _, _, _, rfl, h4.at_, T.cl_Recorder, T.n_Recorder_ring, rfl, ra, dr, _, rfl, hr4.at_, ra, r, rfl, h4.ring, fun H5 k5 => ⟨_, rfl, z _ (by show 5 ≤ 100; decide), fun b hb => ?_⟩⟩
    have k6 := k5.newer (o := .lst [.str (recTxt r.n qs.length), .str (recTxt r.n qs.length), .bl false, .bl ((qs.length : Int) != 0), .str (ringTxt r)]) hb
    refine ⟨a, b, _, _, rfl, rfl, k6.at upd_same, upd_same, z _ (by show 10 ≤ 100; decide), fun e he => ?_⟩
    have k7 := k6.newer (o := .lst ([wS (run r.n c0 (isD qs)), .ref t1, .ref t2, .int ((spent r (isD qs) : Nat) : Int), .int (qs.length : Int)] ++ [.str (recTxt r.n qs.length), .str (recTxt r.n qs.length), .bl false, .bl ((qs.length : Int) != 0), .str (ringTxt r)])) he
    have ok := st_ok h.ok h.cl h.ck (is := isD qs) (fun i hi => by
      obtain ⟨x, hx, rfl⟩ := List.mem_map.mp hi
      exact (h.io x hx).1) (by rw [List.length_map]; exact h.le)
    have kt : Ext H2 _ := k4.trans' k7
    refine ⟨_, rfl, e, stD r c0 (isD qs), rfl, .lst (SqL.of upd_same) ?_, ok.sh, ok.nd, ok.dp, ok.ln, q _ ((k1.trans' k2).trans' kt)⟩
    have il : InsL _ (psD qs) := (h2.insL).ext kt
    have e2b : (!(isD qs).isEmpty) = ((qs.length : Int) != 0) := by
      cases qs with
      | nil => rfl
      | cons x xs =>
        show true = _
        have : ((x :: xs).length : Int) ≠ 0 := by simp; omega
        exact (bne_iff_ne.mpr this).symm
    have e2l : (isD qs).length = qs.length := List.length_map ..
    have e2i : (isD qs).map insD = (inss (psD qs)).map insD := by simp [List.map_map]
    rw [e2b, e2l, e2i]
    exact .cons (.str _) (.cons (.tup (SqT.of (kt.at (k2.at e1))) (dp_inss il)) (.cons (dp_tup (kt.at e2)) (.cons (.int _) (.cons (.int _) (.cons (.str _) (.cons (.str _) (.cons (.bl _) (.cons (.bl _) (.cons (.str _) .nil)))))))))
  · obtain ⟨a, rfl⟩ := len1 hl
    rfl
end
end K71
set_option maxRecDepth 100000
set_option maxHeartbeats 4000000
/-! Walks 21: tuple(text); _law_copied. -/
namespace K71
open PySem PySem.Spec PyProof.Rows L2 SX
theorem sc_Lcopied : FnScope ["_law_values", "_law_order", "_law_spot", "_law_many", "_law_beside"] ["_law_values", "_law_order"] (defScope s_Lcopied) := C8.fnScope_by (by decide +kernel)
def rTupS : List V → Hp → VK → Prop := fun xs H Q => ∃ c : List Nat, xs = [wS c] ∧ c.length ≤ sizeLine ∧ ∀ p, H p = none → Q (.ref p) (upd H p (.tup (c.map cstr)))
theorem call_tupS {X : Cx} (hc : X.calm = true) : CallR X (.type "tuple") rTupS := by
  intro pins s σ H xs us Q I r h
  obtain ⟨c, rfl, hl, q⟩ := h
  obtain ⟨u, rfl, ru⟩ := vals1 r
  obtain ⟨t, rfl⟩ := (show ∃ t, u = Value.str (S c) t from ru)
  have hz : (S c).cps.size = c.length := S_len c
  refine call_tuple_str (I.ok.hd hc) (S c) t (fun h' tk acc kp hacc => ?_) (by rw [hz]; exact hl)
  have I1 : Inv X pins σ H { s with heap := h', toks := tk } := I.kept kp
  have hv : Vals (c.map cstr) acc.toList := by
    obtain ⟨h1, h2⟩ := hacc
    have v := vals_of_get acc.toList (fun j => cstr (c.getD j 0)) (fun j u hj => by
      have hj : acc[j]? = some u := by simpa using hj
      obtain ⟨x, t1, e1, rfl⟩ := h2 j u hj
      have e1 : c[j]? = some x := by simpa using e1
      refine ⟨t1, ?_⟩
      rw [List.getD_eq_getElem?_getD, e1]
      rfl)
    have e : (List.range acc.toList.length).map (fun j => cstr (c.getD j 0)) = c.map cstr := by
      rw [Array.length_toList, h1, hz]
      refine List.ext_getElem (by simp) fun i h1 h2 => ?_
      have hi : i < c.length := by simpa using h2
      simp only [List.getElem_map, List.getElem_range]
      rw [List.getD_eq_getElem?_getD, List.getElem?_eq_getElem hi]
      rfl
    rw [e] at v
    exact v
  have I2 : Inv X pins σ (upd H h'.objs.size (.tup (c.map cstr))) { s with heap := h'.push { cls := .type "tuple", data := .seq acc }, toks := tk } :=
    I1.laid (t' := tk) (fun b o e => Heap.get?_push_of_some _ e) (Nat.le_refl _) (show ObjOk X.prog X.w _ _ _ (.tup (c.map cstr)) from ⟨by rw [List.length_map]; exact hl, acc.toList, hv, by rw [show acc = acc.toList.toArray by simp]; exact IsTup.new _ _⟩)
  exact ⟨.ref h'.objs.size, _, I2, rfl, q _ (I1.hok.fresh (Nat.le_refl _))⟩
def spCopied : Sp := fun vs H Q _ => ∃ (m v : Addr) (xs : List V) (i : Ins) (n : Nat), vs = [.ref m, .ref v] ∧ H m = some (.tup xs) ∧ xs.length = n ∧ n ≤ 1000 ∧ InsAt H v i ∧ i.1 < n ∧ ∀ p H', Ext H H' → H' p = some (.tup (cp n xs i)) → Q (.ref p) H'
section
variable {P : Program} {w : World} {K : PySem.W.Frag} {mg : Str → Option Value} {base : Heap}
theorem cal_copied (T : Tx K mg) : C8.Cal P w K mg base 1 "_law_copied" spCopied [] := by
  obtain ⟨fd, F⟩ := T.F_Lcopied
  refine ⟨_, fd, ["_law_values", "_law_order"], [], fok F sc_Lcopied (fun vs H Q E h => ?_) (fun cdv A outer s H vs Q E hr h => ⟨_, (pss_cons (ps_par (i := 2) (j := 3) rfl sc_Lcopied.nd rfl rfl (by decide) rfl rfl (pa_cons (pe_ix ix_tup (pv 1) pe_int (fun _ _ => rfl)) (pa_cons (pe_callB call_len_seq rfl T.f_len (by decide +kernel) (pa_cons (pv 0) pa_nil)) pa_nil)) (by rfl))
        (pss_cons (ps_set (i := 4) sc_Lcopied.nd rfl (Or.inl rfl) (pe_ifExp (pt_cmpR op_eq (pe_ix ix_tup (pv 1) pe_int (fun _ _ => rfl)) pe_str (nomark _)) (pe_ix ix_tup (pv 0) (pe_op op_mod (pe_op op_sub (pe_op op_add (pv 2) (pv 3)) pe_int) (pv 3)) (fun _ _ => rfl)) (pe_ix ix_tup (pv 0) (pe_op op_mod (pe_op op_add (pv 2) pe_int) (pv 3)) (fun _ _ => rfl))))
        (pss_one (ps_ret (pe_op op_catA (pe_op op_catA (pe_slice sl_tupA (pv 0) po_none (po_some (pv 2))) (pe_tup (pa_cons (pv 4) pa_nil))) (pe_slice sl_tupA (pv 0) (po_some (pe_op op_add (pv 2) pe_int)) po_none)))))), ?_⟩), T.g_law_copied, F.kp, F.bindsN (fun _ _ _ _ _ _ us hl => ?_), .nil⟩
  · obtain ⟨m, v, xs, i, n, rfl, _⟩ := h
    rfl
  · obtain ⟨m, v, xs, i, n, rfl, hm, hln, hn, hv, hi, q⟩ := h
    obtain ⟨p, b⟩ := i
    have hi : p < n := hi
    obtain ⟨x, hx, e⟩ := cp_slices (i := (p, b)) hln hi
    refine ⟨_, rfl, v, _, _, _, rfl, rfl, SqT.of hv, atI0, _, rfl, m, _, rfl, .inr (SqT.of hm), _, _, rfl, ?_⟩
    have fin : (tRet (tOp (rCatA K) (tOp (rCatA K) (tSl (rSlA K) (tVar 0) tNoPart (tPart (tVar 2))) (tTup (tCons (tVar 4) tNil))) (tSl (rSlA K) (tVar 0) (tPart (tOp (rI0 fun i j => .int (i + j)) (tVar 2) (tC (.int 1)))) tNoPart)) : TS) { nx := fun _ H' => Q .non H', rt := Q }
        [some (.ref m), some (.ref v), some (.int (p : Int)), some (.int (xs.length : Int)), some x] H := by
      refine ⟨_, rfl, _, rfl, _, rfl, ?_⟩
      refine slA hm fun a1 H1 k1 e1 => ?_
      rw [cut_to (by omega), Int.toNat_natCast] at e1
      refine ⟨_, rfl, by show 1 ≤ sizeLine; rw [sizeLine_eq]; omega, fun a2 h2 => ?_⟩
      have k2 := Ext.new (o := .tup [x]) h2
      refine catA (k2.at e1) upd_same (by rw [List.length_take, hln]; show _ + 1 ≤ _; rw [sizeLine_eq]; omega) fun a3 H3 k3 e3 => ?_
      have k123 := (k1.trans' k2).trans' k3
      refine ⟨_, rfl, _, rfl, _, _, rfl, rfl, _, rfl, ?_⟩
      unfold tNoPart
      refine slA (k123.at hm) fun a4 H4 k4 e4 => ?_
      rw [cut_from (by omega), show ((p : Int) + 1).toNat = p + 1 by omega] at e4
      refine catA (k4.at e3) e4 (by rw [List.length_append, List.length_take, List.length_drop, hln]; show _ + 1 + _ ≤ _; rw [sizeLine_eq]; omega) fun a5 H5 k5 e5 => ?_
      refine q a5 H5 ((k123.trans' k4).trans' k5) ?_
      rw [e5, ← e]
    refine ⟨_, rfl, v, _, _, _, rfl, rfl, SqT.of hv, atI1, rfl, _, rfl, ?_⟩
    rw [side_left]
    cases b with
    | true =>
      refine iteT ⟨_, rfl, _, rfl, _, rfl, _, _, rfl, rfl, _, _, rfl, rfl, _, rfl, _, _, rfl, rfl, ?_, m, _, _, x, rfl, rfl, SqT.of hm, ?_, fin⟩
      · show (0 : Int) < (xs.length : Int)
        omega
      · rw [hln, left_mod2 (by omega)]
        exact atI_nat hx
    | false =>
      refine iteF ⟨_, rfl, _, rfl, _, _, rfl, rfl, _, rfl, _, _, rfl, rfl, ?_, m, _, _, x, rfl, rfl, SqT.of hm, ?_, fin⟩
      · show (0 : Int) < (xs.length : Int)
        omega
      · rw [hln, right_mod]
        exact atI_nat hx
  · obtain ⟨a, b, rfl⟩ := len2 hl
    rfl
end
end K71
set_option maxRecDepth 100000
set_option maxHeartbeats 4000000
/-! Walks 22: _law_due. -/
namespace K71
open PySem PySem.Spec PyProof.Rows L2 SX
theorem sc_Ldue : FnScope ["_law_land_here", "_law_circle_here", "_law_first", "_law_done", "_law_letters", "_law_image", "_law_spent", "_law_order", "_law_shown", "_law_found"] ["_law_land_here", "_law_circle_here", "_law_first", "_law_done"] (defScope s_Ldue) := C8.fnScope_by (by decide +kernel)
/-- the law's land: a list of the size, the locks, the walls, the prices -/
structure LandP (H : Hp) (a : Addr) (r : RD) (t1 t2 t3 : Addr) : Prop where
  at_ : H a = some (.lst [.int (r.n : Int), .ref t1, .ref t2, .ref t3])
  lk : H t1 = some (.tup (nums r.lk))
  wl : H t2 = some (.tup (nums r.wl))
  pr : H t3 = some (.tup (nums r.pr))
theorem LandP.ext {H H' : Hp} {a : Addr} {r : RD} {t1 t2 t3 : Addr} (h : LandP H a r t1 t2 t3) (k : Ext H H') : LandP H' a r t1 t2 t3 := ⟨k.at h.at_, k.at h.lk, k.at h.wl, k.at h.pr⟩
theorem canLay_inss : ∀ l : List Ins, PyData.canLayAll0 (l.map insD) = true
  | [] => rfl
  | i :: l => by
    show (PyData.canLay0 (insD i) && PyData.canLayAll0 (l.map insD)) = true
    rw [canLay_ins, canLay_inss l] <;> rfl
/-- done != [] -/
theorem ne_nil {K : PySem.W.Frag} {H : Hp} {d e : Addr} {ps : List PI} {Q : VK} (h : H d = some (.lst (refs ps))) (hi : InsL H ps) (he : H e = some (.lst [])) (q : Q (.bl (!(inss ps).isEmpty)) H) : rNeD K (.ref d) (.ref e) H Q := by
  refine ⟨.list ((inss ps).map insD), .list [], .lst (SqL.of h) (dp_inss hi), .lst (SqL.of he) .nil, ?_, rfl, ?_⟩
  · have h4 := depth_inss (inss ps)
    unfold SeqAt.shaped
    rw [show PyData.canLay0 (.list ((inss ps).map insD)) = true from canLay_inss _, decide_eq_true (show PyData.depth (.list ((inss ps).map insD)) ≤ 64 from by show PyData.depthAll _ + 1 ≤ 64; omega)]
    rfl
  · cases ps with
    | nil => exact q
    | cons a b => exact q
def spDue (K : PySem.W.Frag) : Sp := fun vs H Q _ => ∃ (la ra dl t1 t2 t3 : Addr) (r : RD) (c0 : List Nat) (ps : List PI), vs = [.ref la, .ref ra, wS c0, .ref dl] ∧ LandP H la r t1 t2 t3 ∧ RingAt K H ra r ∧ c0.length = r.n ∧ LetOk c0 ∧ H dl = some (.lst (refs ps)) ∧ InsL H ps ∧ (∀ q ∈ ps, q.2.1 < r.n) ∧ ps.length ≤ 400 ∧
  ∀ H', Ext H H' → Q (.str (stD r c0 (inss ps)).shown) H'
section
variable {P : Program} {w : World} {K : PySem.W.Frag} {mg : Str → Option Value} {base : Heap}
theorem cal_due (T : Tx K mg) : CalG P w K mg base 4 "_law_due" (spDue K) := by
  have c_law_copied : C8.Cal P w K mg base 1 "_law_copied" spCopied [] := cal_copied T
  obtain ⟨fdQ, FQ, bQ⟩ := ok_Ring_str (P := P) (w := w) (base := base) T
  obtain ⟨fd, F⟩ := T.F_Ldue
  refine ⟨_, fd, ["_law_land_here", "_law_circle_here", "_law_first", "_law_done"], fnG (k := 3) F sc_Ldue (fun vs H Q E h => ?_) (fun cdv A outer s H vs Q E hg hr h => ⟨_, (pss_cons (ps_par3 (i := 4) (j := 5) (l := 6) rfl sc_Ldue.nd rfl rfl rfl (by decide) (by decide) (by decide) rfl rfl rfl (pa_cons (pe_callTy (call_tupS rfl) rfl T.f_tuple (by decide +kernel) (pa_cons (pv 2) pa_nil)) (pa_cons (pe_tupRg rfl rfl T.f_tuple (prg_1 rfl T.f_range (pe_ix ix_list (pv 0) pe_int (fun _ _ => rfl)))) (pa_cons pe_int pa_nil))) (by rfl))
        (pss_cons (ps_for PassesOwn.never rfl (pi_list (pv 3)) (pg_name (i := 7) sc_Ldue.nd rfl (Or.inl rfl)) (pss_one (ps_par3 (i := 4) (j := 5) (l := 6) rfl sc_Ldue.nd rfl rfl rfl (by decide) (by decide) (by decide) rfl rfl rfl (pa_cons (C8.pe_c c_law_copied hr (by decide) rfl (pa_cons (pv 4) (pa_cons (pv 7) pa_nil))) (pa_cons (C8.pe_c c_law_copied hr (by decide) rfl (pa_cons (pv 5) (pa_cons (pv 7) pa_nil))) (pa_cons (pe_op op_add (pv 6) (pe_ix ix_tup (pe_ix ix_list (pv 0) pe_int (fun _ _ => rfl)) (pe_ix ix_tup (pv 7) pe_int (fun _ _ => rfl)) (fun _ _ => rfl))) pa_nil))) (by rfl))))
        (pss_cons (ps_set (i := 8) sc_Ldue.nd rfl (Or.inl rfl) (pe_op op_add_str (pe_op op_add_str (pe_op op_add_str (pe_op op_add_str pe_str (pe_callTy call_str_int rfl T.f_str (by decide +kernel) (pa_cons (pe_ix ix_list (pv 0) pe_int (fun _ _ => rfl)) pa_nil))) pe_str) (pe_callTy call_str_int rfl T.f_str (by decide +kernel) (pa_cons (pe_callB call_len_seq rfl T.f_len (by decide +kernel) (pa_cons (pv 3) pa_nil)) pa_nil))) pe_str))
        (pss_cons (ps_set (i := 9) sc_Ldue.nd rfl (Or.inl rfl) (pe_lst (pa_cons (pe_join pe_str (pv 4)) (pa_cons (pe_callTy call_tuple_of rfl T.f_tuple (by decide +kernel) (pa_cons (pv 3) pa_nil)) (pa_cons (pv 5) (pa_cons (pv 6) (pa_cons (pe_callB call_len_seq rfl T.f_len (by decide +kernel) (pa_cons (pv 3) pa_nil)) pa_nil)))))))
        (pss_one (ps_ret (pe_callB (call_reprD hg (u64 hr)) rfl T.f_repr (by decide +kernel) (pa_cons (pe_op op_cat (pv 9) (pe_lst (pa_cons (pv 8) (pa_cons (pv 8) (pa_cons pe_bl (pa_cons (pe_cmpR (op_neD (u64 hr)) (pv 3) (pe_lst pa_nil) (nomark _)) (pa_cons (pe_callTy (call_strO (C := ga K "Ring") FQ bQ T.m_Ring_str (hr.mono (by decide))) rfl T.f_str (by decide +kernel) (pa_cons (pv 1) pa_nil)) pa_nil))))))) pa_nil)))))))), ?_⟩), T.g_law_due, F.kp, F.bindsN (fun _ _ _ _ _ _ us hl => ?_)⟩
  · obtain ⟨la, ra, dl, t1, t2, t3, r, c0, ps, rfl, _⟩ := h
    rfl
  · obtain ⟨la, ra, dl, t1, t2, t3, r, c0, ps, rfl, h, hr1, hc, hcl, hdl, hi, hlt, hn, q⟩ := h
    have ok : r.Ok := by obtain ⟨_, _, _, _, z⟩ := hr1; exact z.ok
    have n12 := ok.hi
    have n2 := ok.lo
    have z : ∀ n, n ≤ 1000 → n ≤ sizeLine := fun n hn => by rw [sizeLine_eq]; omega
    have lrefs : (refs ps).length = ps.length := List.length_map ..
    refine ⟨_, rfl, c0, rfl, z _ (by omega), fun a1 ha1 => ?_⟩
    have k1 := Ext.new (o := .tup (c0.map cstr)) ha1
    refine ⟨_, rfl, la, _, 0, _, rfl, rfl, SqL.of (k1.at h.at_), atI0, (r.n : Int), rfl, rg_ok (by omega), fun a2 ha2 => ?_⟩
    have k2 := k1.newer (o := .tup (rgV 0 (r.n : Int))) ha2
    refine ⟨_, _, _, rfl, ?_⟩
    have e2 := rg_nums r.n
    refine ⟨_, rfl, dl, rfl, ⟨_, SqL.of (k2.at hdl)⟩, for_it (walk_list (K := K) (xs := refs ps)) (fun i σ H1 => Ext H H1 ∧ ∃ l m u, H1 l = some (.tup ((run r.n c0 ((inss ps).take i)).map cstr)) ∧ H1 m = some (.tup (nums (run r.n (List.range r.n) ((inss ps).take i)))) ∧
      σ = [some (.ref la), some (.ref ra), some (wS c0), some (.ref dl), some (.ref l), some (.ref m), some (.int ((spent r ((inss ps).take i) : Nat) : Int)), u, none, none]) ⟨k2, a1, a2, none, (upd_ne (ne_of_none upd_same ha2)).trans upd_same, by rw [upd_same, e2]; rfl, rfl⟩ (fun i σ H1 _ h1 => SqL.of (h1.1.at hdl)) (fun i x σ H1 H2 hi1 h1 y => ?_) fun σ H1 h1 => ?_⟩
    · obtain ⟨rfl, y⟩ := y
      obtain ⟨k, l, m, u, hl1, hm1, rfl⟩ := h1
      obtain ⟨q1, hq, rfl⟩ := map_get y
      have hm := List.mem_of_getElem? hq
      have hv := k.at (hi q1 hm)
      have hlq := hlt q1 hm
      refine ⟨_, rfl, _, rfl, l, q1.1, _, q1.2, r.n, rfl, hl1, by rw [List.length_map, run_len, hc], by omega, hv, hlq, fun b1 H3 k3 e3 => ?_⟩
      refine ⟨_, rfl, _, rfl, m, q1.1, _, q1.2, r.n, rfl, k3.at hm1, by rw [List.length_map, run_len, List.length_range], by omega, k3.at hv, hlq, fun b2 H4 k4 e4 => ?_⟩
      have k34 := k3.trans' k4
      have kt := k.trans' k34
      have hld := h.ext kt
      have hpr : q1.2.1 < r.pr.length := by rw [ok.prn]; exact hlq
      have ein : (inss ps)[i]? = some q1.2 := by rw [List.getElem?_map, hq] <;> rfl
      refine ⟨_, rfl, _, rfl, la, _, 3, _, rfl, rfl, SqL.of hld.at_, atI3, _, rfl, q1.1, _, 0, _, rfl, rfl, SqT.of (k34.at hv), atI0, t3, _, _, .int ((r.pr.getD q1.2.1 0 : Nat) : Int), rfl, rfl, SqT.of hld.pr, atI_nat ?_, _, _, rfl, rfl, _, _, _, rfl, ?_⟩
      · rw [List.getElem?_map, List.getElem?_eq_getElem hpr, List.getD_eq_getElem?_getD, List.getElem?_eq_getElem hpr] <;> rfl
      refine ⟨kt, b1, b2, some (.ref q1.1), ?_, ?_, ?_⟩
      · rw [k4.at e3, run_take ein, cp_map]
      · rw [e4, run_take ein, show nums (cp r.n (run r.n (List.range r.n) ((inss ps).take i)) q1.2) = cp r.n (nums (run r.n (List.range r.n) ((inss ps).take i))) q1.2 from cp_map]
      · have es : spent r ((inss ps).take (i + 1)) = spent r ((inss ps).take i) + r.pr.getD q1.2.1 0 := by
          rw [List.take_add_one, ein]
          exact spent_snoc
        rw [es, show (((spent r ((inss ps).take i) + r.pr.getD q1.2.1 0 : Nat)) : Int) = ((spent r ((inss ps).take i) : Nat) : Int) + ((r.pr.getD q1.2.1 0 : Nat) : Int) by omega]
        rfl
    · obtain ⟨k, l, m, u, hl1, hm1, rfl⟩ := h1
      have elen : (inss ps).take (refs ps).length = inss ps := List.take_of_length_le (by simp)
      rw [elen] at hl1 hm1 ⊢
      have hld := h.ext k
      have hdl1 := k.at hdl
      have en : ∀ m : Nat, ((toString (m : Int) : String) : Str) = S (TL.numL m) := num_S
      have l1 := numL_len4 (show r.n < 10000 by omega)
      have l2 := numL_len4 (show ps.length < 10000 by omega)
      have zz : ∀ a b : List Nat, a.length + b.length ≤ 100 → (S a).length + (S b).length ≤ sizeLine := fun a b hab => by rw [S_len, S_len, sizeLine_eq]; omega
      refine ⟨_, rfl, la, _, 0, _, rfl, rfl, SqL.of hld.at_, atI0, (r.n : Int), rfl, log_small (by omega), _, _, rfl, rfl, ?_, ?_⟩
      · rw [eRec, en]; exact zz _ _ (by simp; omega)
      rw [eRec, en, S_cat]
      refine ⟨_, _, rfl, rfl, ?_, ?_⟩
      · rw [eComma]; exact zz _ _ (by simp; omega)
      rw [eComma, S_cat]
      refine ⟨_, rfl, dl, _, rfl, .inl (SqL.of hdl1), (ps.length : Int), by rw [lrefs], log_small (by omega), _, _, rfl, rfl, ?_, ?_⟩
      · rw [en]; exact zz _ _ (by simp; omega)
      rw [en, S_cat]
      refine ⟨_, _, rfl, rfl, ?_, ?_⟩
      · rw [eClose]; exact zz _ _ (by simp; omega)
      rw [eClose, S_cat]
      have ecs : (run r.n c0 (inss ps)).map cstr = ((run r.n c0 (inss ps)).map fun x => S [x]).map V.str := by rw [List.map_map]; rfl
      rw [ecs] at hl1
      refine ⟨⟨_, rfl⟩, _, rfl, _, l, _, rfl, rfl, .inr (SqT.of hl1), ?_, ?_⟩
      · have h1 : ∀ l : List Nat, ((l.map fun x => S [x]).map (·.length)).sum = l.length := fun l => by
          induction l with
          | nil => rfl
          | cons a l ih =>
            show (S [a]).length + ((l.map fun x => S [x]).map (·.length)).sum = l.length + 1
            rw [ih, S_len]
            show 1 + _ = _
            omega
        rw [h1, eNil, S_len, List.length_map, run_len, hc]
        simp only [List.length_nil]
        omega
      have e5 : ∀ l : List Nat, TL.joinL [] (l.map fun x => [x]) = l := fun l => by
        induction l with
        | nil => rfl
        | cons a l ih =>
          cases l with
          | nil => rfl
          | cons b l =>
            show [a] ++ ([] ++ TL.joinL [] ((b :: l).map fun x => [x])) = _
            rw [ih]
            rfl
      rw [eNil, show ((run r.n c0 (inss ps)).map fun x => S [x]) = ((run r.n c0 (inss ps)).map fun x => [x]).map S by rw [List.map_map]; rfl, join_S, e5]
      refine ⟨_, rfl, dl, _, rfl, .inl ⟨SqL.of hdl1, fun t ht => ?_⟩⟩
      have k3 := Ext.new (o := .tup (refs ps)) ht
      refine ⟨_, rfl, _, rfl, _, rfl, dl, _, rfl, .inl (SqL.of (k3.at hdl1)), z _ (by show 5 ≤ 1000; decide), fun e he => ?_⟩
      have k4 := k3.newer (o := .lst [wS (run r.n c0 (inss ps)), .ref t, .ref m, .int ((spent r (inss ps) : Nat) : Int), .int ((refs ps).length : Int)]) he
      refine ⟨_, rfl, _, rfl, _, rfl, _, rfl, by show 0 ≤ sizeLine; omega, fun n0 hn0 => ?_⟩
      have k5 := k4.newer (o := .lst []) hn0
      refine ne_nil (k5.at hdl1) ((hi.ext k).ext k5) upd_same ?_
      obtain ⟨dr, wa, wb, wc, hrr⟩ := (hr1.ext k).ext k5
      refine ⟨_, rfl, ra, dr, _, rfl, hrr.at_, ra, r, rfl, (hr1.ext k).ext k5, fun H6 k6 => ⟨_, rfl, z _ (by show 5 ≤ 1000; decide), fun b hb => ?_⟩⟩
      have k7 := k6.newer (o := .lst [.str (recTxt r.n ps.length), .str (recTxt r.n ps.length), .bl false, .bl (!(inss ps).isEmpty), .str (ringTxt r)]) hb
      have he5 : (upd (upd (upd H1 t (.tup (refs ps))) e (.lst [wS (run r.n c0 (inss ps)), .ref t, .ref m, .int ((spent r (inss ps) : Nat) : Int), .int ((refs ps).length : Int)])) n0 (.lst [])) e = some (.lst [wS (run r.n c0 (inss ps)), .ref t, .ref m, .int ((spent r (inss ps) : Nat) : Int), .int ((refs ps).length : Int)]) := (upd_ne (ne_of_none upd_same hn0)).trans upd_same
      refine ⟨e, b, _, _, rfl, rfl, k7.at he5, upd_same, z _ (by show 10 ≤ 1000; decide), fun f hf => ?_⟩
      have k8 := k7.newer (o := .lst ([wS (run r.n c0 (inss ps)), .ref t, .ref m, .int ((spent r (inss ps) : Nat) : Int), .int ((refs ps).length : Int)] ++ [.str (recTxt r.n ps.length), .str (recTxt r.n ps.length), .bl false, .bl (!(inss ps).isEmpty), .str (ringTxt r)])) hf
      have ok2 := st_ok ok hc hcl (is := inss ps) (fun i hi2 => by
        obtain ⟨x, hx, rfl⟩ := List.mem_map.mp hi2
        exact hlt x hx) (by rw [List.length_map]; exact hn)
      have kt : Ext H1 _ := k5.trans' k8
      refine ⟨f, stD r c0 (inss ps), rfl, .lst (SqL.of upd_same) ?_, ok2.sh, ok2.nd, ok2.dp, ok2.ln, q _ (k.trans' kt)⟩
      have il : InsL _ ps := (hi.ext k).ext kt
      have e2l : (inss ps).length = ps.length := List.length_map ..
      have et : (upd (upd (upd H1 t (.tup (refs ps))) e (.lst [wS (run r.n c0 (inss ps)), .ref t, .ref m, .int ((spent r (inss ps) : Nat) : Int), .int ((refs ps).length : Int)])) n0 (.lst [])) t = some (.tup (refs ps)) := by
        rw [upd_ne (ne_of_none (show (upd (upd H1 t (.tup (refs ps))) e _) t = some (.tup (refs ps)) from (upd_ne (ne_of_none upd_same he)).trans upd_same) hn0), upd_ne (ne_of_none upd_same he), upd_same]
      show DpAll _ _ _ [.str (S (run r.n c0 (inss ps))), .tuple ((inss ps).map insD), .tuple (numsD (run r.n (List.range r.n) (inss ps))), numD (spent r (inss ps)), numD (inss ps).length, .str (recTxt r.n (inss ps).length), .str (recTxt r.n (inss ps).length), .bool false, .bool (!(inss ps).isEmpty), .str (ringTxt r)]
      rw [e2l]
      exact .cons (.str _) (.cons (.tup (SqT.of (k8.at et)) (dp_inss il)) (.cons (dp_tup (kt.at hm1)) (.cons (.int _) (.cons (by rw [lrefs]; exact .int _) (.cons (.str _) (.cons (.str _) (.cons (.bl _) (.cons (.bl _) (.cons (.str _) .nil)))))))))
  · obtain ⟨a, b, c, d, rfl⟩ := len4 hl
    rfl
end
end K71
set_option maxRecDepth 100000
set_option maxHeartbeats 4000000
/-! Walks 23: cells, sources, draws. -/
namespace K71
open PySem PySem.Spec PyProof.Rows L2 SX
theorem sc_Lcell : FnScope ["_law_script", "_law_k", "_law_mixed", "_law_cell_here"] ["_law_script", "_law_k"] (defScope s_Lcell) := C8.fnScope_by (by decide +kernel)
theorem sc_Lsource : FnScope ["_law_cell_here", "_law_digits"] ["_law_cell_here"] (defScope s_Lsource) := C8.fnScope_by (by decide +kernel)
theorem sc_Ldraw : FnScope ["_law_source_here", "_law_size", "_law_digit", "_law_state_here"] ["_law_source_here", "_law_size"] (defScope s_Ldraw) := C8.fnScope_by (by decide +kernel)
def spCellA (K : PySem.W.Frag) : Sp := fun vs H Q _ => ∃ (l : Addr) (ns : List Int) (k : Nat), vs = [.ref l, .int (k : Int)] ∧ SqL K H l (ns.map V.int) ∧ k < 1000 ∧ ∀ v H', Ext H H' → Q (.int v) H'
/-- a source of draws: digits, a state, a count -/
def SrcAt (H : Hp) (s : Addr) : Prop := ∃ d e c : Int, H s = some (.lst [.int d, .int e, .int c]) ∧ 0 ≤ d
theorem SrcAt.ext {H H' : Hp} {s : Addr} (h : SrcAt H s) (k : Ext H H') : SrcAt H' s := by
  obtain ⟨d, e, c, h1, h2⟩ := h
  exact ⟨d, e, c, k.at h1, h2⟩
theorem SrcAt.kp {H H' : Hp} {s : Addr} {S : List Addr} (h : SrcAt H s) (k : Kp S H H') (hs : s ∉ S) : SrcAt H' s := by
  obtain ⟨d, e, c, h1, h2⟩ := h
  exact ⟨d, e, c, k _ _ h1 hs, h2⟩
def spSource : Sp := fun vs H Q _ => ∃ v : Int, vs = [.int v] ∧ ∀ s H', Ext H H' → H s = none → SrcAt H' s → Q (.ref s) H'
def spDraw : Sp := fun vs H Q _ => ∃ (s : Addr) (n : Nat), vs = [.ref s, .int (n : Int)] ∧ SrcAt H s ∧ 0 < n ∧ n < 1000000 ∧ ∀ (k : Nat) H', k < n → Kp [s] H H' → SrcAt H' s → Q (.int (k : Int)) H'
theorem SqL.kpx {K : PySem.W.Frag} {H H' : Hp} {a : Addr} {xs : List V} (h : SqL K H a xs) (k : Ext H H') : SqL K H' a xs := by
  rcases h with h | h
  · rcases h with h | ⟨o, h⟩
    · exact .inl (.inl (k.at h))
    · exact .inl (.inr ⟨o, k.at h⟩)
  · exact .inr h
section
variable {P : Program} {w : World} {K : PySem.W.Frag} {mg : Str → Option Value} {base : Heap}
theorem cal_cell (T : Tx K mg) : C8.Cal P w K mg base 1 "_law_cell" (spCellA K) [] := by
  obtain ⟨fd, F⟩ := T.F_Lcell
  refine ⟨_, fd, ["_law_script", "_law_k"], [], fok F sc_Lcell (fun vs H Q E h => ?_) (fun cdv A outer s H vs Q E hr h => ⟨_, (pss_cons (ps_if (pt_cmpR op_lt (pv 1) (pe_callB call_len_seq rfl T.f_len (by decide +kernel) (pa_cons (pv 0) pa_nil)) (nomark _)) (pss_one (ps_ret (pe_ix ix_list (pv 0) (pv 1) (fun _ _ => rfl)))) pss_nil)
        (pss_cons (ps_set (i := 2) sc_Lcell.nd rfl (Or.inl rfl) (pe_op op_mod (pe_op op_mul pe_int (pe_op op_add (pe_op op_add (pe_op op_mul (pv 1) (pv 1)) (pe_op op_mul pe_int (pv 1))) pe_int)) pe_int))
        (pss_cons (ps_for PassesOwn.never rfl (pi_list (pe_slice sl_list (pv 0) po_none (po_some pe_int))) (pg_name (i := 3) sc_Lcell.nd rfl (Or.inl rfl)) (pss_one (ps_set (i := 2) sc_Lcell.nd rfl (Or.inl rfl) (pe_op op_mod (pe_op op_add (pe_op op_mul (pv 2) pe_int) (pv 3)) pe_int))))
        (pss_one (ps_ret (pv 2)))))), ?_⟩), T.g_law_cell, F.kp, F.bindsN (fun _ _ _ _ _ _ us hl => ?_), .nil⟩
  · obtain ⟨l, ns, k, rfl, _⟩ := h
    rfl
  · obtain ⟨l, ns, k, rfl, h, hk, q⟩ := h
    refine ⟨_, rfl, _, rfl, l, _, rfl, .inl h, _, _, rfl, rfl, _, rfl, ?_⟩
    by_cases c : (k : Int) < ((ns.map V.int).length : Int)
    · rw [decide_eq_true c]
      have c2 : k < ns.length := by rw [List.length_map] at c; omega
      refine iteT ⟨_, rfl, _, rfl, l, _, _, .int ns[k], rfl, rfl, h, atI_nat ?_, q _ _ Ext.refl⟩
      rw [List.getElem?_map, List.getElem?_eq_getElem c2] <;> rfl
    · rw [decide_eq_false c]
      refine iteF ⟨_, rfl, _, rfl, _, _, rfl, rfl, .inl ⟨by omega, by omega⟩, _, rfl, _, _, rfl, rfl, .inl ⟨by decide, by decide⟩, _, _, rfl, rfl, _, _, rfl, rfl, _, _, rfl, rfl, .inl ⟨by decide, by decide⟩, _, _, rfl, rfl, ?_, ?_⟩
      · show (0 : Int) < 1000000093
        decide
      refine ⟨_, rfl, _, rfl, l, _, rfl, h, fun p hp => ?_⟩
      rw [cut_to (by decide), ← List.map_take]
      have md : ∀ z : Int, 0 ≤ z % 1000000093 ∧ z % 1000000093 < 1000000093 := fun z => ⟨Int.emod_nonneg _ (by decide), Int.emod_lt_of_pos _ (by decide)⟩
      refine ⟨p, rfl, ⟨_, SqL.of upd_same⟩, for_it (walk_list (K := K)) (fun i σ H1 => Ext (upd H p (.lst ((ns.take (4 : Int).toNat).map V.int))) H1 ∧ ∃ (z : Int) (u : Option V), 0 ≤ z ∧ z < 1000000093 ∧ σ = [some (.ref l), some (.int (k : Int)), some (.int z), u]) ⟨Ext.refl, _, _, (md _).1, (md _).2, rfl⟩ (fun i σ H1 _ h1 => SqL.of (h1.1.at upd_same)) (fun i x σ H1 H2 hi h1 y => ?_) fun σ H1 h1 => ?_⟩
      · obtain ⟨rfl, y⟩ := y
        obtain ⟨k1, z, u, hz, hz2, rfl⟩ := h1
        obtain ⟨m, _, rfl⟩ := map_get y
        refine ⟨_, rfl, _, _, rfl, rfl, .inl ⟨by omega, by omega⟩, _, rfl, _, _, rfl, rfl, _, _, rfl, rfl, by show (0 : Int) < 1000000093; decide, k1, _, _, (md _).1, (md _).2, rfl⟩
      · obtain ⟨k1, z, u, _, _, rfl⟩ := h1
        exact ⟨_, rfl, q z _ ((Ext.new hp).trans' k1)⟩
  · obtain ⟨a, b, rfl⟩ := len2 hl
    rfl
theorem cal_source (T : Tx K mg) : C8.Cal P w K mg base 1 "_law_source" spSource [] := by
  obtain ⟨fd, F⟩ := T.F_Lsource
  refine ⟨_, fd, ["_law_cell_here"], [], fok F sc_Lsource (fun vs H Q E h => ?_) (fun cdv A outer s H vs Q E hr h => ⟨_, (pss_cons (ps_set (i := 1) sc_Lsource.nd rfl (Or.inl rfl) (pe_ifExp (PW.pt (pw_or (pt_cmpR op_lt (pv 0) pe_int (nomark _)) (pw_or1 (pt_cmpR op_ge (pv 0) (pe_op op_pow pe_int pe_int) (nomark _))))) (pe_callB call_abs rfl T.f_abs (by decide +kernel) (pa_cons (pv 0) pa_nil)) pe_int))
        (pss_one (ps_ret (pe_lst (pa_cons (pv 1) (pa_cons (pe_op op_add (pe_op op_mul (pe_op op_mod (pv 0) pe_int) pe_int) pe_int) (pa_cons pe_int pa_nil))))))), ?_⟩), T.g_law_source, F.kp, F.bindsN (fun _ _ _ _ _ _ us hl => ?_), .nil⟩
  · obtain ⟨v, rfl, _⟩ := h
    rfl
  · obtain ⟨v, rfl, q⟩ := h
    have fin : ∀ d : Int, 0 ≤ d → (tRet (tLst (tCons (tVar 1) (tCons (tOp (rI0 fun i j => .int (i + j)) (tOp (rI CMul fun i j => .int (i * j)) (tOp (rI (fun _ j => 0 < j) fun i j => .int (i % j)) (tVar 0) (tC (.int 1000000093))) (tC (.int 6007))) (tC (.int 3011))) (tCons (tC (.int 0)) tNil)))) : TS) { nx := fun _ H' => Q .non H', rt := Q } [some (.int v), some (.int d)] H := fun d hd => by
      refine ⟨_, rfl, _, rfl, _, _, rfl, rfl, (by show (0 : Int) < 1000000093; decide), _, _, rfl, rfl, .inr ⟨by decide, by decide⟩, _, _, rfl, rfl, by show 3 ≤ sizeLine; rw [sizeLine_eq]; omega, fun p hp => ?_⟩
      exact q p _ (Ext.new hp) hp ⟨d, _, 0, upd_same, hd⟩
    have nn : 0 ≤ (if v < 0 then -v else v) := by
      split <;> omega
    refine ⟨_, rfl, _, _, rfl, rfl, _, rfl, ?_⟩
    by_cases c : v < 0
    · rw [decide_eq_true c]
      exact iteT (iteT ⟨_, rfl, v, rfl, fin _ nn⟩)
    · rw [decide_eq_false c]
      refine iteF ⟨_, rfl, _, _, rfl, rfl, ⟨by decide, by decide, by decide⟩, _, _, rfl, rfl, _, rfl, ?_⟩
      refine ite2 (fun _ => ⟨_, rfl, v, rfl, fin _ nn⟩) fun _ => fin _ (by decide)
  · obtain ⟨a, rfl⟩ := len1 hl
    rfl
theorem cal_draw (T : Tx K mg) : C8.Cal P w K mg base 1 "_law_draw" spDraw [] := by
  obtain ⟨fd, F⟩ := T.F_Ldraw
  refine ⟨_, fd, ["_law_source_here", "_law_size"], [], fok F sc_Ldraw (fun vs H Q E h => ?_) (fun cdv A outer s H vs Q E hr h => ⟨_, (pss_cons (ps_asg (pe_op op_add (pe_ix ix_list (pv 0) pe_int (fun _ _ => rfl)) pe_int) (pg_sub (pv 0) pe_int set_list))
        (pss_cons (ps_if (pt_cmpR op_gt (pe_ix ix_list (pv 0) pe_int (fun _ _ => rfl)) pe_int (nomark _)) (pss_cons (ps_asg (pe_callB call_divmodW rfl T.f_divmod (by decide +kernel) (pa_cons (pe_ix ix_list (pv 0) pe_int (fun _ _ => rfl)) (pa_cons (pv 1) pa_nil))) (pg_tup rfl (pgs_cons (pg_sub (pv 0) pe_int set_list) (pgs_cons (pg_name (i := 2) sc_Ldraw.nd rfl (Or.inl rfl)) pgs_nil)))) (pss_one (ps_ret (pv 2)))) pss_nil)
        (pss_cons (ps_set (i := 3) sc_Ldraw.nd rfl (Or.inl rfl) (pe_op op_mod (pe_ix ix_list (pv 0) pe_int (fun _ _ => rfl)) pe_int))
        (pss_cons (ps_asg (pe_op op_add (pe_op op_mul (pv 3) (pe_op op_add (pe_op op_mod (pv 3) pe_int) pe_int)) (pe_op op_mul pe_int (pe_ix ix_list (pv 0) pe_int (fun _ _ => rfl)))) (pg_sub (pv 0) pe_int set_list))
        (pss_one (ps_ret (pe_op op_mod (pe_op op_fdivN (pe_op op_mod (pe_ix ix_list (pv 0) pe_int (fun _ _ => rfl)) pe_int) pe_int) (pv 1)))))))), ?_⟩), T.g_law_draw, F.kp, F.bindsN (fun _ _ _ _ _ _ us hl => ?_), .nil⟩
  · obtain ⟨s, n, rfl, _⟩ := h
    rfl
  · obtain ⟨s, n, rfl, ⟨d, e, c, h, hd⟩, hn, hn2, q⟩ := h
    have lt : ∀ z : Int, 0 ≤ z % (n : Int) ∧ z % (n : Int) < n := fun z => ⟨Int.emod_nonneg _ (by omega), Int.emod_lt_of_pos _ (by omega)⟩
    have fin : ∀ (z : Int) H', Kp [s] H H' → SrcAt H' s → Q (.int (z % (n : Int))) H' := fun z H' k1 h1 => by
      obtain ⟨m, hm⟩ := Int.eq_ofNat_of_zero_le (lt z).1
      rw [hm]
      exact q m H' (by have := (lt z).2; omega) k1 h1
    refine ⟨_, rfl, s, _, _, _, rfl, rfl, SqL.of h, atI2, _, _, rfl, rfl, ?_⟩
    refine ⟨_, rfl, s, _, _, 2, rfl, rfl, h, rfl, ?_⟩
    have k1 : Kp [s] H (upd H s (.lst [.int d, .int e, .int (c + 1)])) := Kp.set (by simp)
    refine ⟨_, rfl, s, _, _, _, rfl, rfl, SqL.of upd_same, atI0, _, _, rfl, rfl, _, rfl, ?_⟩
    have mf : ∀ z : Int, 0 ≤ z → z.fdiv 32 = z / 32 := fun z hz => Int.fdiv_eq_ediv_of_nonneg _ (by decide)
    refine ite2 (fun c0 => ?_) fun c0 => ?_
    · have hd0 : 0 ≤ d / (n : Int) := Int.ediv_nonneg hd (by omega)
      refine ⟨_, rfl, s, _, _, _, rfl, rfl, SqL.of upd_same, atI0, _, rfl, _, _, rfl, ⟨by omega, PyProof.noPylong_small (by omega)⟩, fun t ht => ?_⟩
      refine ⟨t, _, rfl, SqT.of upd_same, rfl, ?_⟩
      have hs2 : s ≠ t := ne_of_none upd_same ht
      refine ⟨_, _, rfl, _, rfl, s, _, _, 0, rfl, rfl, (upd_ne hs2).trans upd_same, rfl, _, _, rfl, ?_⟩
      refine ⟨rfl, _, rfl, fin d _ ((k1.trans (Ext.new ht).kp).trans (Kp.set (by simp))) ⟨_, _, _, upd_same, hd0⟩⟩
    · refine ⟨_, rfl, s, _, _, _, rfl, rfl, SqL.of upd_same, atI1, _, _, rfl, rfl, by show (0 : Int) < 1000000093; decide, ?_⟩
      have he := Int.emod_nonneg e (show (1000000093 : Int) ≠ 0 by decide)
      have he2 := Int.emod_lt_of_pos e (show (0 : Int) < 1000000093 by decide)
      refine ⟨_, rfl, _, rfl, _, _, rfl, rfl, by show (0 : Int) < 47017; decide, _, _, rfl, rfl, _, _, rfl, rfl, .inl ⟨by omega, by omega⟩, ?_⟩
      refine ⟨_, rfl, s, _, _, _, rfl, rfl, SqL.of upd_same, atI2, _, _, rfl, rfl, .inl ⟨by decide, by decide⟩, _, _, rfl, rfl, ?_⟩
      refine ⟨_, rfl, s, _, _, 1, rfl, rfl, upd_same, rfl, ?_⟩
      refine ⟨_, rfl, s, _, _, _, rfl, rfl, SqL.of upd_same, atI1, _, _, rfl, rfl, by show (0 : Int) < 1000000093; decide, _, _, rfl, rfl, ⟨by decide, by decide⟩, _, rfl, _, _, rfl, rfl, by show (0 : Int) < n; omega, ?_⟩
      exact fin _ _ (k1.trans (Kp.set (by simp))) ⟨_, _, _, upd_same, hd⟩
  · obtain ⟨a, b, rfl⟩ := len2 hl
    rfl
end
end K71
set_option maxRecDepth 100000
set_option maxHeartbeats 4000000
/-! Walks 24: _law_orders. -/
namespace K71
open PySem PySem.Spec PyProof.Rows L2 SX
theorem sc_Lorders : FnScope ["_law_land_here", "_law_found", "_law_many", "_law_spot"] ["_law_land_here"] (defScope s_Lorders) := C8.fnScope_by (by decide +kernel)
def spOrders (K : PySem.W.Frag) : Sp := fun vs H Q _ => ∃ (la t1 t2 t3 : Addr) (r : RD), vs = [.ref la] ∧ LandP H la r t1 t2 t3 ∧ r.Ok ∧
  ∀ (o : Addr) (ps : List PI) H', Ext H H' → H o = none → H' o = some (.lst (refs ps)) → InsL H' ps → (∀ q ∈ ps, InsOk r q.2) → ps.length ≤ 24 → Q (.ref o) H'
/-- the orders found by turn i -/
def OrdP (H : Hp) (r : RD) (o : Addr) (m : Nat) (H1 : Hp) : Prop := Ext H H1 ∧ ∃ ps, H1 o = some (.lst (refs ps)) ∧ InsL H1 ps ∧ (∀ q ∈ ps, InsOk r q.2) ∧ ps.length ≤ m
theorem OrdP.up {H H1 : Hp} {r : RD} {o : Addr} {m m' : Nat} (h : OrdP H r o m H1) (l : m ≤ m') : OrdP H r o m' H1 := by
  obtain ⟨k, ps, h1, h2, h3, h4⟩ := h
  exact ⟨k, ps, h1, h2, h3, by omega⟩
theorem OrdP.add {H H1 : Hp} {r : RD} {o v : Addr} {m : Nat} {i : Ins} (ho : H o = none) (h : OrdP H r o m H1) (hv : H1 v = none) (hi : InsOk r i) (hm : m ≤ 1000) : ∃ xs, upd H1 v (.tup (insV i)) o = some (.lst xs) ∧ xs.length < sizeLine ∧ OrdP H r o (m + 1) (upd (upd H1 v (.tup (insV i))) o (.lst (xs ++ [.ref v]))) := by
  obtain ⟨k, ps, h1, h2, h3, h4⟩ := h
  have k1 := k.newer (o := .tup (insV i)) hv
  refine ⟨refs ps, (Ext.new hv).at h1, by simp; rw [sizeLine_eq]; omega, kp_new ho k1, ps ++ [(v, i)], ?_, fun q hq => ?_, fun q hq => ?_, by simp; omega⟩
  · rw [upd_same, show refs (ps ++ [(v, i)]) = refs ps ++ refs [(v, i)] from List.map_append]
    rfl
  · have e : upd H1 v (.tup (insV i)) q.1 = some (.tup (insV q.2)) := by
      rcases List.mem_append.mp hq with hq | hq
      · exact (Ext.new hv).at (h2 q hq)
      · rw [List.mem_singleton.mp hq]
        exact upd_same
    have ne : q.1 ≠ o := fun z => by
      rw [z, (Ext.new hv).at h1] at e
      cases e
    exact (upd_ne ne).trans e
  · rcases List.mem_append.mp hq with hq | hq
    · exact h3 q hq
    · rw [List.mem_singleton.mp hq]
      exact hi
theorem ord_if {K : PySem.W.Frag} {H H1 : Hp} {la o t1 t2 t3 : Addr} {r : RD} {te : TE} {D : Ends} {i m n : Nat} {z : Int} {b : Bool} (ho : H o = none) (hl : LandP H la r t1 t2 t3) (hn : i < r.n) (h : OrdP H r o m H1) (hm : m ≤ 1000) (e : n = if b then (i + r.n - 1) % r.n else i) (hz : z = (i : Int))
    (hte : ∀ Q : VK, Q (.int (n : Int)) H1 → te [some (.ref la), some (.ref o), some (.int (r.n : Int)), some (.int z)] H1 Q)
    (q : ∀ H2, OrdP H r o (m + 1) H2 → D.nx [some (.ref la), some (.ref o), some (.int (r.n : Int)), some (.int z)] H2) :
    tIfS (tAnd (tTest (tOp (rIn K true) (tVar 3) (tOp (rIxL K) (tVar 0) (tC (.int 1))))) (tTest (tOp (rIn K true) te (tOp (rIxL K) (tVar 0) (tC (.int 2))))))
      (tDrop (tBM K "list" rAppend (tVar 1) (tCons (tTup (tCons (tVar 3) (tCons (tC (.str (sideS b))) tNil))) tNil))) tNext D [some (.ref la), some (.ref o), some (.int (r.n : Int)), some (.int z)] H1 := by
  have hl1 := hl.ext h.1
  subst hz
  refine ⟨_, rfl, _, rfl, la, _, _, _, rfl, rfl, SqL.of hl1.at_, atI1, t1, _, rfl, .inr (SqT.of hl1.lk), rfl, flat_nums _, _, rfl, ?_⟩
  refine ite2 (fun c1 => ?_) fun c1 => iteF (q _ (h.up (by omega)))
  refine hte _ ⟨_, rfl, la, _, _, _, rfl, rfl, SqL.of hl1.at_, atI2, t2, _, rfl, .inr (SqT.of hl1.wl), rfl, flat_nums _, _, rfl, ?_⟩
  refine ite2 (fun c2 => ?_) fun c2 => q _ (h.up (by omega))
  rw [if_pos rfl, inV_nums] at c1 c2
  refine ⟨_, rfl, .inl ⟨rfl, ?_⟩, _, rfl, by show 2 ≤ sizeLine; decide, fun v hv => ?_⟩
  · obtain ⟨ps, h1, _⟩ := h.2
    exact ⟨_, SqL.of h1⟩
  obtain ⟨xs, e1, e2, e3⟩ := h.add (i := (i, b)) ho hv ⟨hn, by simpa using c1, by rw [← e]; simpa using c2⟩ hm
  exact ⟨o, xs, _, rfl, rfl, e1, e2, q _ e3⟩
section
variable {P : Program} {w : World} {K : PySem.W.Frag} {mg : Str → Option Value} {base : Heap}
theorem cal_orders (T : Tx K mg) : C8.Cal P w K mg base 1 "_law_orders" (spOrders K) [] := by
  obtain ⟨fd, F⟩ := T.F_Lorders
  refine ⟨_, fd, ["_law_land_here"], [], fok F sc_Lorders (fun vs H Q E h => ?_) (fun cdv A outer s H vs Q E hr h => ⟨_, (pss_cons (ps_par (i := 1) (j := 2) rfl sc_Lorders.nd rfl rfl (by decide) rfl rfl (pa_cons (pe_lst pa_nil) (pa_cons (pe_ix ix_list (pv 0) pe_int (fun _ _ => rfl)) pa_nil)) (by rfl))
        (pss_cons (ps_for PassesOwn.never rfl (pi_range1 rfl T.f_range (pa_cons (pv 2) pa_nil)) (pg_name (i := 3) sc_Lorders.nd rfl (Or.inl rfl)) (pss_cons (ps_if (PW.pt (pw_and (pt_cmpR op_notIn_seq (pv 3) (pe_ix ix_list (pv 0) pe_int (fun _ _ => rfl)) rfl) (pw_and1 (pt_cmpR op_notIn_seq (pe_op op_mod (pe_op op_sub (pe_op op_add (pv 3) (pv 2)) pe_int) (pv 2)) (pe_ix ix_list (pv 0) pe_int (fun _ _ => rfl)) rfl)))) (pss_one (ps_expr (pe_bm PySem.F.plainAttrs_list PySem.F.slot_list_append PySem.F.type_list_append mt_append (pv 1) (pa_cons (pe_tup (pa_cons (pv 3) (pa_cons pe_str pa_nil))) pa_nil)))) pss_nil) (pss_one (ps_if (PW.pt (pw_and (pt_cmpR op_notIn_seq (pv 3) (pe_ix ix_list (pv 0) pe_int (fun _ _ => rfl)) rfl) (pw_and1 (pt_cmpR op_notIn_seq (pv 3) (pe_ix ix_list (pv 0) pe_int (fun _ _ => rfl)) rfl)))) (pss_one (ps_expr (pe_bm PySem.F.plainAttrs_list PySem.F.slot_list_append PySem.F.type_list_append mt_append (pv 1) (pa_cons (pe_tup (pa_cons (pv 3) (pa_cons pe_str pa_nil))) pa_nil)))) pss_nil))))
        (pss_one (ps_ret (pv 1))))), ?_⟩), T.g_law_orders, F.kp, F.bindsN (fun _ _ _ _ _ _ us hl => ?_), .nil⟩
  · obtain ⟨la, t1, t2, t3, r, rfl, _⟩ := h
    rfl
  · obtain ⟨la, t1, t2, t3, r, rfl, h, ok, q⟩ := h
    have n12 := ok.hi
    have n2 := ok.lo
    refine ⟨by show 0 ≤ sizeLine; omega, fun o ho => ?_⟩
    have k1 := Ext.new (o := .lst []) ho
    refine ⟨_, rfl, la, _, 0, _, rfl, rfl, SqL.of (k1.at h.at_), atI0, _, _, rfl, _, rfl, (r.n : Int), rfl, by omega, by omega, ?_⟩
    refine for_it (walk_range) (fun i σ H1 => OrdP H r o (2 * i) H1 ∧ ∃ u, σ = [some (.ref la), some (.ref o), some (.int (r.n : Int)), u]) ⟨⟨k1, [], upd_same, fun _ z => (nomatch z), fun _ z => (nomatch z), Nat.le_refl _⟩, none, rfl⟩ (fun i σ H1 _ h1 => trivial) (fun i x σ H1 H2 hi1 h1 y => ?_) fun σ H1 h1 => ?_
    · obtain ⟨h1, u, rfl⟩ := h1
      obtain ⟨rfl, rfl⟩ := y
      have hi2 : i < r.n := by omega
      refine ord_if (K := K) (b := true) (n := (i + r.n - 1) % r.n) ho h hi2 h1 (by omega) rfl (Int.zero_add _) (fun Q q => ?_) fun H2 h2 => ?_
      · refine ⟨_, rfl, _, rfl, _, _, rfl, rfl, _, _, rfl, rfl, _, rfl, _, _, rfl, rfl, by show (0 : Int) < (r.n : Int); omega, ?_⟩
        rw [Int.zero_add]
        show Q (.int (((i : Int) + (r.n : Int) - 1) % (r.n : Int))) H2
        rw [left_mod2 (show 0 < r.n by omega)]
        exact q
      refine ord_if (K := K) (b := false) (n := i) ho h hi2 h2 (by omega) rfl (Int.zero_add _) (fun Q q => ?_) fun H3 h3 => ?_
      · refine ⟨_, rfl, ?_⟩
        rw [Int.zero_add]
        exact q
      exact ⟨h3.up (by omega), _, rfl⟩
    · obtain ⟨⟨k, ps, h1, h2, h3, h4⟩, u, rfl⟩ := h1
      exact ⟨_, rfl, q o ps H1 k ho h1 h2 h3 (by omega)⟩
  · obtain ⟨a, rfl⟩ := len1 hl
    rfl
end
end K71
set_option maxRecDepth 100000
set_option maxHeartbeats 4000000
/-! Walks 25: _law_filled, _law_some. -/
namespace K71
open PySem PySem.Spec PyProof.Rows L2 SX
theorem sc_Lfilled : FnScope ["_law_source_here", "_law_many", "_law_letters", "_law_begin", "_law_span", "_law_spot"] ["_law_source_here", "_law_many"] (defScope s_Lfilled) := C8.fnScope_by (by decide +kernel)
theorem sc_Lsome : FnScope ["_law_source_here", "_law_orders_here", "_law_most", "_law_turn"] ["_law_source_here", "_law_orders_here", "_law_most"] (defScope s_Lsome) := C8.fnScope_by (by decide +kernel)
def spFilled : Sp := fun vs H Q _ => ∃ (s : Addr) (n : Nat), vs = [.ref s, .int (n : Int)] ∧ SrcAt H s ∧ n ≤ 12 ∧
  ∀ (c : List Nat) H', c.length = n → LetOk c → Kp [s] H H' → SrcAt H' s → Q (wS c) H'
def spSome : Sp := fun vs H Q _ => ∃ (s o : Addr) (ps : List PI) (m : Nat), vs = [.ref s, .ref o, .int (m : Int)] ∧ SrcAt H s ∧ H o = some (.lst (refs ps)) ∧ InsL H ps ∧ ps ≠ [] ∧ ps.length ≤ 1000 ∧ m ≤ 1000 ∧
  ∀ (a : Addr) (qs : List PI) H', Kp [s] H H' → SrcAt H' s → H a = none → H' a = some (.lst (refs qs)) → (∀ q ∈ qs, q ∈ ps) → qs.length ≤ m → Q (.ref a) H'
theorem SrcAt.set {H : Hp} {s D : Addr} {l : List V} (h : SrcAt H s) (n : s ≠ D) : SrcAt (upd H D (.lst l)) s := by
  obtain ⟨d, e, c, h1, h2⟩ := h
  exact ⟨d, e, c, (upd_ne n).trans h1, h2⟩
theorem none_kp {H H' : Hp} {s D : Addr} (k : Kp [s] H H') (h : SrcAt H' s) (n : H' D = none) : H D = none := by
  cases e : H D with
  | none => rfl
  | some o =>
    exfalso
    obtain ⟨_, _, _, h, _⟩ := h
    by_cases z : D = s
    · rw [z, h] at n; cases n
    · have := k D o e (by simpa using z)
      rw [n] at this; cases this
theorem SrcAt.ne {H : Hp} {s D : Addr} (h : SrcAt H s) (n : H D = none) : s ≠ D := by
  obtain ⟨_, _, _, h, _⟩ := h
  exact ne_of_none h n
theorem SrcAt.notup {H : Hp} {s v : Addr} {x : List V} (h : SrcAt H s) (e : H v = some (.tup x)) : v ≠ s := by
  obtain ⟨_, _, _, h, _⟩ := h
  intro z
  rw [z, h] at e; cases e
/-- done == [] -/
theorem eq_nilL {K : PySem.W.Frag} {H : Hp} {d e : Addr} {ps : List PI} {Q : VK} (h : H d = some (.lst (refs ps))) (hi : InsL H ps) (he : H e = some (.lst [])) (q : Q (.bl (inss ps).isEmpty) H) : rEqD K (.ref d) (.ref e) H Q := by
  refine ⟨.list ((inss ps).map insD), .list [], .lst (SqL.of h) (dp_inss hi), .lst (SqL.of he) .nil, ?_, rfl, ?_⟩
  · have h4 := depth_inss (inss ps)
    unfold SeqAt.shaped
    rw [show PyData.canLay0 (.list ((inss ps).map insD)) = true from canLay_inss _, decide_eq_true (show PyData.depth (.list ((inss ps).map insD)) ≤ 64 from by show PyData.depthAll _ + 1 ≤ 64; omega)]
    rfl
  · cases ps with
    | nil => exact q
    | cons a b => exact q
/-- some of the orders -/
def OneOf (ps : List PI) : Nat → List V → Prop := fun _ acc => ∃ qs, acc = refs qs ∧ ∀ q ∈ qs, q ∈ ps
def LetsR : Nat → List V → Prop := fun i acc => ∃ c, acc = c.map cstr ∧ LetOk c ∧ c.length = i
theorem sumS1 : ∀ l : List Nat, ((l.map fun x => S [x]).map (·.length)).sum = l.length
  | [] => rfl
  | a :: l => by
    show (S [a]).length + ((l.map fun x => S [x]).map (·.length)).sum = l.length + 1
    rw [sumS1 l, S_len]
    show 1 + _ = _
    omega
theorem joinL1 : ∀ l : List Nat, TL.joinL [] (l.map fun x => [x]) = l
  | [] => rfl
  | [a] => rfl
  | a :: b :: l => by
    show [a] ++ ([] ++ TL.joinL [] ((b :: l).map fun x => [x])) = _
    rw [joinL1 (b :: l)]
    rfl
theorem joinS1 (l : List Nat) : Txt.join (S []) (l.map fun x => S [x]) = S l := by
  rw [show (l.map fun x => S [x]) = (l.map fun x => [x]).map S by rw [List.map_map]; rfl, join_S, joinL1]
section
variable {P : Program} {w : World} {K : PySem.W.Frag} {mg : Str → Option Value} {base : Heap}
theorem cal_some (T : Tx K mg) : C8.Cal P w K mg base 2 "_law_some" spSome [] := by
  have c_law_draw : C8.Cal P w K mg base 1 "_law_draw" spDraw [] := cal_draw T
  obtain ⟨fd, F⟩ := T.F_Lsome
  refine ⟨_, fd, ["_law_source_here", "_law_orders_here", "_law_most"], [], fok F sc_Lsome (fun vs H Q E h => ?_) (fun cdv A outer s H vs Q E hr h => ⟨_, (pss_cons (ps_if (pt_cmpR (op_eqD (u64 hr)) (pv 1) (pe_lst pa_nil) (nomark _)) (pss_one (ps_ret (pe_lst pa_nil))) pss_nil)
        (pss_one (ps_ret (pe_lc (own := [("_law_turn", 3)]) (te := tOp (rIxL K) (tVar 1) (tCall spDraw [] C8.E0 (tCons (tVar 0) (tCons (tCB (fun xs H Q => ∃ p ys, xs = [.ref p] ∧ (SqL K H p ys ∨ SqT K H p ys) ∧ Q (.int (ys.length : Int)) H) (tCons (tVar 1) tNil)) tNil)))) rfl sc_Lsome.nd (pi_range1 rfl T.f_range (pa_cons (C8.pe_c c_law_draw hr (by decide) rfl (pa_cons (pv 0) (pa_cons (pe_op op_add (pv 2) pe_int) pa_nil))) pa_nil)) (blkOk_by (own := [("_law_turn", 3)]) (N := ["_law_source_here", "_law_orders_here", "_law_most", "_law_turn"]) (sc := defScope s_Lsome) (by decide +kernel)) (fun _ _ _ _ _ => (pg_name (i := 3) sc_Lsome.nd rfl (Or.inl rfl))) (fun _ _ _ _ _ => pts_nil) (fun _ _ _ _ _ => (pe_ix ix_list (pv 1) (C8.pe_c c_law_draw hr (by decide) rfl (pa_cons (pv 0) (pa_cons (pe_callB call_len_seq rfl T.f_len (by decide +kernel) (pa_cons (pv 1) pa_nil)) pa_nil))) (fun _ _ => rfl))))))), ?_⟩), T.g_law_some, F.kp, F.bindsN (fun _ _ _ _ _ _ us hl => ?_), .nil⟩
  · obtain ⟨s, o, ps, m, rfl, _⟩ := h
    rfl
  · obtain ⟨s, o, ps, m, rfl, hs, ho, hi, hne, hl, hm, q⟩ := h
    refine ⟨_, rfl, by show 0 ≤ sizeLine; omega, fun e he => eq_nilL (Kp.at (Ext.new he) ho) (hi.ext (Ext.new he)) upd_same ?_⟩
    have k0 : Ext H (upd H e (.lst [])) := Ext.new he
    have hpos : 0 < ps.length := by
      cases ps with
      | nil => exact absurd rfl hne
      | cons _ _ => simp
    have emp : (inss ps).isEmpty = false := by
      cases ps with
      | nil => exact absurd rfl hne
      | cons _ _ => rfl
    rw [emp]
    refine ⟨_, rfl, iteF ?_⟩
    refine ⟨_, rfl, _, rfl, _, _, rfl, rfl, s, m + 1, rfl, hs.ext k0, by omega, by omega, fun k H1 hk k1 hs1 => ?_⟩
    have k01 : Kp [s] H H1 := k0.kp.trans k1
    refine ⟨(k : Int), rfl, by omega, by omega, fun D hD => ?_⟩
    have os : o ≠ s := by
      obtain ⟨_, _, _, h, _⟩ := hs
      intro z
      rw [z, h] at ho; injection ho with ho; injection ho with ho
      have := congrArg (fun l => l.head?) ho
      cases ps with
      | nil => exact hne rfl
      | cons a b => cases this
    refine lc_it walk_range (LcP [s] (fun H => SrcAt H s) (OneOf ps) H1 D) (LcP.zero hD ⟨[], rfl, fun _ z => nomatch z⟩ (hs1.set (hs1.ne hD))) (fun i H2 _ h1 => trivial) (fun i x H2 H3 hi1 h1 y => ?_) fun H2 h1 => ?_
    · obtain ⟨rfl, rfl⟩ := y
      obtain ⟨acc, e1, ⟨qs, rfl, e2⟩, e3, k2, hs2⟩ := h1
      have ho2 := (k01.trans k2) _ _ ho (by simpa using os)
      refine ⟨rfl, yes ⟨_, rfl, _, rfl, _, rfl, o, _, rfl, .inl (SqL.of ho2), s, ps.length, by simp, hs2, hpos, by omega, fun j H4 hj k3 hs3 => ?_⟩⟩
      have hD4 : H4 D = some (.lst (refs qs)) := k3 _ _ e3 (by simpa using (hs1.ne hD).symm)
      have ho4 := k3 _ _ ho2 (by simpa using os)
      refine ⟨o, _, _, .ref ps[j].1, rfl, rfl, SqL.of ho4, atI_nat ?_, LcP.add hD (by rw [sizeLine_eq]; omega) e1 hD4 (k2.trans k3) (hs3.set (hs1.ne hD)) ⟨qs ++ [ps[j]], ?_, fun q hq => ?_⟩⟩
      · rw [List.getElem?_map, List.getElem?_eq_getElem hj] <;> rfl
      · show refs qs ++ refs [ps[j]] = _
        exact (List.map_append ..).symm
      · rcases List.mem_append.mp hq with h | h
        · exact e2 q h
        · rw [List.mem_singleton.mp h]
          exact List.getElem_mem hj
    · obtain ⟨acc, e1, ⟨qs, rfl, e2⟩, e3, k2, hs2⟩ := h1
      exact q D qs H2 (k01.trans k2) hs2 (none_kp k01 hs1 hD) e3 e2 (by rw [List.length_map] at e1; omega)
  · obtain ⟨a, b, c, rfl⟩ := len3 hl
    rfl
theorem cal_filled (T : Tx K mg) : C8.Cal P w K mg base 2 "_law_filled" spFilled [] := by
  have c_law_draw : C8.Cal P w K mg base 1 "_law_draw" spDraw [] := cal_draw T
  obtain ⟨fd, F⟩ := T.F_Lfilled
  refine ⟨_, fd, ["_law_source_here", "_law_many"], [], fok F sc_Lfilled (fun vs H Q E h => ?_) (fun cdv A outer s H vs Q E hr h => ⟨_, (pss_cons (ps_set (i := 2) sc_Lfilled.nd rfl (Or.inr rfl) pe_str)
        (pss_cons (ps_asg (pe_tup (pa_cons (C8.pe_c c_law_draw hr (by decide) rfl (pa_cons (pv 0) (pa_cons pe_int pa_nil))) (pa_cons (pe_ix ix_list (pe_lst (pa_cons pe_int (pa_cons pe_int (pa_cons pe_int (pa_cons pe_int (pa_cons pe_int pa_nil)))))) (C8.pe_c c_law_draw hr (by decide) rfl (pa_cons (pv 0) (pa_cons pe_int pa_nil))) (fun _ _ => rfl)) pa_nil))) (pg_tup rfl (pgs_cons (pg_name (i := 3) sc_Lfilled.nd rfl (Or.inr rfl)) (pgs_cons (pg_name (i := 4) sc_Lfilled.nd rfl (Or.inr rfl)) pgs_nil))))
        (pss_cons (ps_if (pt_cmpR op_eq (pv 4) pe_int (nomark _)) (pss_one (ps_ret (pe_slice C8.sl_txt (pv 2) (po_some (pv 3)) (po_some (pe_op op_add (pv 3) (pv 1)))))) pss_nil)
        (pss_one (ps_ret (pe_join pe_str (pe_lc (own := [("_law_spot", 5)]) rfl sc_Lfilled.nd (pi_range1 rfl T.f_range (pa_cons (pv 1) pa_nil)) (blkOk_by (own := [("_law_spot", 5)]) (N := ["_law_source_here", "_law_many", "_law_letters", "_law_begin", "_law_span", "_law_spot"]) (sc := defScope s_Lfilled) (by decide +kernel)) (fun _ _ _ _ _ => (pg_name (i := 5) sc_Lfilled.nd rfl (Or.inl rfl))) (fun _ _ _ _ _ => pts_nil) (fun _ _ _ _ _ => (pe_ix ix_str (pv 2) (pe_op op_add (pv 3) (C8.pe_c c_law_draw hr (by decide) rfl (pa_cons (pv 0) (pa_cons (pv 4) pa_nil)))) (fun _ _ => rfl)))))))))), ?_⟩), T.g_law_filled, F.kp, F.bindsN (fun _ _ _ _ _ _ us hl => ?_), .nil⟩
  · obtain ⟨s, n, rfl, _⟩ := h
    rfl
  · obtain ⟨s, n, rfl, hs, hn, q⟩ := h
    refine ⟨_, rfl, s, 14, rfl, hs, by decide, by decide, fun b H1 hb k1 hs1 => ?_⟩
    refine ⟨by show 5 ≤ sizeLine; decide, fun l hl => ?_⟩
    have k2 := k1.trans (Ext.new (o := .lst [.int 1, .int 2, .int 3, .int 12, .int 0]) hl).kp
    have hs2 := hs1.ext (Ext.new (o := .lst [.int 1, .int 2, .int 3, .int 12, .int 0]) hl)
    have ls : l ≠ s := (hs1.ne hl).symm
    refine ⟨_, rfl, s, 5, rfl, hs2, by decide, by decide, fun j H2 hj k3 hs3 => ?_⟩
    obtain ⟨sp, esp, hsp⟩ : ∃ sp : Nat, atI [V.int 1, .int 2, .int 3, .int 12, .int 0] (j : Int) = some (.int (sp : Int)) ∧ sp ≤ 12 := by
      match j, hj with
      | 0, _ => exact ⟨1, atI_nat rfl, by decide⟩
      | 1, _ => exact ⟨2, atI_nat rfl, by decide⟩
      | 2, _ => exact ⟨3, atI_nat rfl, by decide⟩
      | 3, _ => exact ⟨12, atI_nat rfl, by decide⟩
      | 4, _ => exact ⟨0, atI_nat rfl, by decide⟩
    have k4 := k2.trans k3
    refine ⟨l, _, _, _, rfl, rfl, SqL.of (k3 _ _ upd_same (by simpa using ls)), esp, by show 2 ≤ sizeLine; decide, fun p hp => ?_⟩
    refine ⟨p, _, rfl, SqT.of upd_same, rfl, _, _, rfl, _, _, rfl, rfl, ?_⟩
    have k5 := k4.trans (Ext.new (o := .tup [.int (b : Int), .int (sp : Int)]) hp).kp
    have hs5 := hs3.ext (Ext.new (o := .tup [.int (b : Int), .int (sp : Int)]) hp)
    have eL : (("abcdefghijklmnopqrstuvwxyz" : String) : Str) = S (List.range' 97 26) := by decide +kernel
    refine ⟨_, rfl, rfl, _, rfl, ?_⟩
    have lm : ∀ x ∈ List.range' 97 26, 97 ≤ x ∧ x ≤ 122 := fun x hx => by
      rw [List.mem_range'_1] at hx
      omega
    refine ite2 (fun c0 => ?_) fun c0 => ?_
    · refine ⟨_, rfl, _, rfl, _, rfl, _, rfl, _, rfl, _, _, rfl, rfl, _, rfl, _, rfl, by decide +kernel, ?_⟩
      rw [eL, ← C8.cutS_slice]
      have e1 : cutS (S (List.range' 97 26)) (some (b : Int)) (some ((b : Int) + (n : Int))) = S (((List.range' 97 26).drop b).take n) := by
        unfold cutS
        have el : (S (List.range' 97 26)).length = 26 := by rw [S_len, List.length_range']
        rw [show (b : Int) + (n : Int) = ((b + n : Nat) : Int) by omega, HT.sIx_nat, HT.sIx_nat, el, Nat.min_eq_left (by omega), Nat.min_eq_left (by omega), Nat.add_sub_cancel_left]
      rw [e1]
      refine q _ _ ?_ (fun x hx => lm x (List.mem_of_mem_drop (List.mem_of_mem_take hx))) k5 hs5
      rw [List.length_take, List.length_drop, List.length_range']
      omega
    · have hsp0 : 0 < sp := by
        rcases Nat.eq_zero_or_pos sp with z | z
        · rw [z] at c0
          exact absurd rfl c0
        · exact z
      refine ⟨⟨_, rfl⟩, _, rfl, (n : Int), rfl, by omega, by omega, fun D hD => ?_⟩
      refine lc_it walk_range (LcP [s] (fun H => SrcAt H s) LetsR _ D) (LcP.zero hD ⟨[], rfl, fun _ z => (nomatch z), rfl⟩ (hs5.set (hs5.ne hD))) (fun i H2 _ h1 => trivial) (fun i x H2 H3 hi1 h1 y => ?_) fun H2 h1 => ?_
      · obtain ⟨rfl, rfl⟩ := y
        obtain ⟨acc, e1, ⟨c, rfl, e2, e4⟩, e3, k6, hs6⟩ := h1
        refine ⟨rfl, yes ⟨_, rfl, _, rfl, _, rfl, _, rfl, s, sp, rfl, hs6, hsp0, by omega, fun m H4 hm k7 hs7 => ?_⟩⟩
        have hD4 := k7 _ _ e3 (by simpa using (hs5.ne hD).symm)
        refine ⟨_, _, rfl, rfl, _, _, 97 + (b + m), rfl, rfl, by decide +kernel, ?_, LcP.add hD (by rw [sizeLine_eq]; omega) e1 hD4 (k6.trans k7) (hs7.set (hs5.ne hD)) ⟨c ++ [97 + (b + m)], ?_, fun q hq => ?_, by simp [e4]⟩⟩
        · rw [eL, show (b : Int) + (m : Int) = ((b + m : Nat) : Int) by omega]
          refine atI_nat ?_
          show (List.range' 97 26)[b + m]? = _
          rw [List.getElem?_range' (by omega)] <;> simp
        · show c.map cstr ++ [97 + (b + m)].map cstr = _
          exact List.map_append.symm
        · rcases List.mem_append.mp hq with h | h
          · exact e2 q h
          · rw [List.mem_singleton.mp h]
            omega
      · obtain ⟨acc, e1, ⟨c, rfl, e2, e4⟩, e3, k6, hs6⟩ := h1
        have ecs : c.map cstr = (c.map fun x => S [x]).map V.str := by rw [List.map_map]; rfl
        rw [ecs] at e3
        refine ⟨_, D, _, rfl, rfl, .inl (SqL.of e3), ?_, ?_⟩
        · rw [sumS1, List.length_map, eNil, S_len]
          simp only [List.length_nil]
          omega
        · rw [eNil, joinS1]
          exact q c _ (by omega) e2 (k5.trans k6) hs6
  · obtain ⟨a, b, rfl⟩ := len2 hl
    rfl
end
end K71
set_option maxRecDepth 100000
set_option maxHeartbeats 4000000
/-! Walks 26: _law_land. -/
namespace K71
open PySem PySem.Spec PyProof.Rows L2 SX
theorem sc_Lland : FnScope ["_law_source_here", "_law_least", "_law_most", "_law_many", "_law_way", "_law_fixed", "_law_barred", "_law_worth", "_law_spot"] ["_law_source_here", "_law_least", "_law_most"] (defScope s_Lland) := C8.fnScope_by (by decide +kernel)
def spLand : Sp := fun vs H Q _ => ∃ (s : Addr), vs = [.ref s, .int 2, .int 12] ∧ SrcAt H s ∧
  ∀ (la t1 t2 t3 : Addr) (r : RD) H', Kp [s] H H' → SrcAt H' s → r.Ok → LandP H' la r t1 t2 t3 → Q (.ref la) H'
/-- places drawn, in order -/
def AscR : Nat → List V → Prop := fun i acc => ∃ l, acc = nums l ∧ (∀ k ∈ l, k < i) ∧ l.Pairwise (· < ·)
theorem AscR.keep {i : Nat} {acc : List V} (h : AscR i acc) : AscR (i + 1) acc := by
  obtain ⟨l, e, h1, h2⟩ := h
  exact ⟨l, e, fun k hk => by have := h1 k hk; omega, h2⟩
theorem AscR.add {i : Nat} {acc : List V} (h : AscR i acc) : AscR (i + 1) (acc ++ [.int (i : Int)]) := by
  obtain ⟨l, rfl, h1, h2⟩ := h
  refine ⟨l ++ [i], by simp, fun k hk => ?_, ?_⟩
  · rcases List.mem_append.mp hk with h | h
    · have := h1 k h; omega
    · rw [List.mem_singleton.mp h]; omega
  · rw [List.pairwise_append]
    exact ⟨h2, List.pairwise_singleton .., fun a ha b hb => by rw [List.mem_singleton.mp hb]; exact h1 a ha⟩
abbrev landσ (s : Addr) (n w : Nat) (v5 v6 v7 : Option V) : L2.St := [some (.ref s), some (.int 2), some (.int 12), some (.int (n : Int)), some (.int (w : Int)), v5, v6, v7, none]
/-- places with a list -/
def PlL (n : Nat) (H : Hp) (f : Addr) (l : List Nat) : Prop := H f = some (.lst (nums l)) ∧ (∀ k ∈ l, k < n) ∧ l.Pairwise (· < ·)
theorem PlL.kp {n : Nat} {H H' : Hp} {s f : Addr} {l : List Nat} (h : PlL n H f l) (k : Kp [s] H H') (ne : f ≠ s) : PlL n H' f l := ⟨k _ _ h.1 (by simpa using ne), h.2⟩
theorem way_lc {K : PySem.W.Frag} {H : Hp} {Q : VK} {s : Addr} {n w : Nat} {v5 v6 v7 : Option V} {a b c : Int} (hs : SrcAt H s) (hn : n ≤ 12)
    (q : ∀ D l H', Kp [s] H H' → SrcAt H' s → PlL n H' D l → D ≠ s → Q (.ref D) H') :
    tLc (iRng1 (tCons (tVar 3) tNil)) (gName 8) (tAnd (tTest (tOp (rIn K false) (tVar 4) (tTup (tCons (tC (.int a)) (tCons (tC (.int b)) (tCons (tC (.int c)) tNil)))))) (tTest (tOp rEq (tCall spDraw [] C8.E0 (tCons (tVar 0) (tCons (tC (.int 3)) tNil))) (tC (.int 0))))) (tVar 8) [8] (landσ s n w v5 v6 v7) H Q := by
  refine ⟨_, rfl, (n : Int), rfl, by omega, by omega, fun D hD => ?_⟩
  have nD := hs.ne hD
  refine lc_it walk_range (LcP [s] (fun H => SrcAt H s) AscR H D) (LcP.zero hD ⟨[], rfl, fun _ z => (nomatch z), List.Pairwise.nil⟩ (hs.set nD)) (fun i H2 _ h1 => trivial) (fun i x H2 H3 hi1 h1 y => ?_) fun H2 h1 => ?_
  · obtain ⟨rfl, rfl⟩ := y
    obtain ⟨acc, e1, e2, e3, k2, hs2⟩ := h1
    refine ⟨rfl, _, rfl, by show 3 ≤ sizeLine; decide, fun t ht => ⟨t, _, rfl, .inr (SqT.of upd_same), rfl, rfl, _, rfl, ?_⟩⟩
    have k3 := k2.trans (Ext.new (o := .tup [.int a, .int b, .int c]) ht).kp
    have hs3 := hs2.ext (Ext.new (o := .tup [.int a, .int b, .int c]) ht)
    have e4 := Kp.at (Ext.new (o := .tup [.int a, .int b, .int c]) ht) e3
    refine ite2 (fun _ => ?_) fun _ => iteF (LcP.keep e1 e4 k3 hs3 e2.keep)
    refine ⟨_, rfl, s, 3, rfl, hs3, by decide, by decide, fun m H4 hm k4 hs4 => ⟨rfl, _, rfl, ?_⟩⟩
    have e5 := k4 _ _ e4 (by simpa using nD.symm)
    refine ite2 (fun _ => ?_) fun _ => LcP.keep e1 e5 (k3.trans k4) hs4 e2.keep
    refine ⟨_, rfl, LcP.add hD (by rw [sizeLine_eq]; omega) e1 e5 (k3.trans k4) (hs4.set nD) ?_⟩
    rw [show (fun i : Nat => V.int (0 + (i : Int))) i = .int (i : Int) from congrArg V.int (Int.zero_add _)]
    exact e2.add
  · obtain ⟨acc, e1, ⟨l, rfl, h1, h2⟩, e3, k2, hs2⟩ := h1
    exact q D l H2 k2 hs2 ⟨e3, fun k hk => by have := h1 k hk; omega, h2⟩ nD.symm
theorem way_s {K : PySem.W.Frag} {H : Hp} {E : Ends} {s : Addr} {n w j : Nat} {v5 v6 v7 : Option V} {a b c : Int} (hs : SrcAt H s) (hn : n ≤ 12)
    (q : ∀ D l H', Kp [s] H H' → SrcAt H' s → PlL n H' D l → D ≠ s → E.nx ((landσ s n w v5 v6 v7).set j (some (.ref D))) H') :
    tAsg (tLc (iRng1 (tCons (tVar 3) tNil)) (gName 8) (tAnd (tTest (tOp (rIn K false) (tVar 4) (tTup (tCons (tC (.int a)) (tCons (tC (.int b)) (tCons (tC (.int c)) tNil)))))) (tTest (tOp rEq (tCall spDraw [] C8.E0 (tCons (tVar 0) (tCons (tC (.int 3)) tNil))) (tC (.int 0))))) (tVar 8) [8]) (gName j) E (landσ s n w v5 v6 v7) H := way_lc hs hn q
theorem pick_if {H : Hp} {D : Ends} {s f : Addr} {n w i : Nat} {c : Int} {l : List Nat} {σ : L2.St} (hs : SrcAt H s) (hn : n ≤ 12) (h0 : 0 < n) (σ0 : σ[0]? = some (some (.ref s))) (σ3 : σ[3]? = some (some (.int (n : Int)))) (σ4 : σ[4]? = some (some (.int (w : Int)))) (σi : σ.set i (some (.ref f)) = σ) (hf : PlL n H f l) (nf : f ≠ s)
    (q : ∀ f l H', Kp [s] H H' → SrcAt H' s → PlL n H' f l → f ≠ s → D.nx (σ.set i (some (.ref f))) H') :
    tIfS (tTest (tOp rEq (tVar 4) (tC (.int c)))) (tAsg (tLst (tCons (tCall spDraw [] C8.E0 (tCons (tVar 0) (tCons (tVar 3) tNil))) tNil)) (gName i)) tNext D σ H := by
  refine ⟨_, σ4, rfl, _, rfl, ?_⟩
  refine ite2 (fun _ => ?_) fun _ => ?_
  · refine ⟨_, σ0, _, σ3, s, n, rfl, hs, h0, by omega, fun k H1 hk k1 hs1 => ⟨by show 1 ≤ sizeLine; decide, fun p hp => ?_⟩⟩
    refine q p [k] _ (k1.trans (Ext.new hp).kp) (hs1.ext (Ext.new hp)) ⟨upd_same, fun j hj => ?_, List.pairwise_singleton ..⟩ (hs1.ne hp).symm
    rw [List.mem_singleton.mp hj]
    exact hk
  · have := q f l H Kp.refl hs hf nf
    rw [σi] at this
    exact this
def FeeR : Nat → List V → Prop := fun i acc => ∃ c, acc = nums c ∧ (∀ k ∈ c, 1 ≤ k ∧ k ≤ 999) ∧ c.length = i
section
variable {P : Program} {w : World} {K : PySem.W.Frag} {mg : Str → Option Value} {base : Heap}
theorem cal_land (T : Tx K mg) : C8.Cal P w K mg base 2 "_law_land" spLand [] := by
  have c_law_draw : C8.Cal P w K mg base 1 "_law_draw" spDraw [] := cal_draw T
  obtain ⟨fd, F⟩ := T.F_Lland
  refine ⟨_, fd, ["_law_source_here", "_law_least", "_law_most"], [], fok F sc_Lland (fun vs H Q E h => ?_) (fun cdv A outer s H vs Q E hr h => ⟨_, (pss_cons (ps_asg (pe_tup (pa_cons (pe_op op_add (pv 1) (C8.pe_c c_law_draw hr (by decide) rfl (pa_cons (pv 0) (pa_cons (pe_op op_add (pe_op op_sub (pv 2) (pv 1)) pe_int) pa_nil)))) (pa_cons (C8.pe_c c_law_draw hr (by decide) rfl (pa_cons (pv 0) (pa_cons pe_int pa_nil))) pa_nil))) (pg_tup rfl (pgs_cons (pg_name (i := 3) sc_Lland.nd rfl (Or.inl rfl)) (pgs_cons (pg_name (i := 4) sc_Lland.nd rfl (Or.inr rfl)) pgs_nil))))
        (pss_cons (ps_setLc (i := 5) (own := [("_law_spot", 8)]) (tt := tAnd (tTest (tOp (rIn K false) (tVar 4) (tTup (tCons (tC (.int 4)) (tCons (tC (.int 6)) (tCons (tC (.int 7)) tNil)))))) (tTest (tOp rEq (tCall spDraw [] C8.E0 (tCons (tVar 0) (tCons (tC (.int 3)) tNil))) (tC (.int 0))))) rfl sc_Lland.nd rfl rfl (sw_true rfl rfl rfl (by decide +kernel)) (pi_range1 rfl T.f_range (pa_cons (pv 3) pa_nil)) (blkOk_by (own := [("_law_spot", 8)]) (N := ["_law_source_here", "_law_least", "_law_most", "_law_many", "_law_way", "_law_fixed", "_law_barred", "_law_worth", "_law_spot"]) (sc := defScope s_Lland) (by decide +kernel)) (fun _ _ _ _ _ => (pg_name (i := 8) sc_Lland.nd rfl (Or.inl rfl))) (fun _ _ _ _ _ => (pts_one (PW.pt (pw_and (pt_cmpR op_in_seq (pv 4) (pe_tup (pa_cons pe_int (pa_cons pe_int (pa_cons pe_int pa_nil)))) rfl) (pw_and1 (pt_cmpR op_eq (C8.pe_c c_law_draw hr (by decide) rfl (pa_cons (pv 0) (pa_cons pe_int pa_nil))) pe_int (nomark _))))))) (fun _ _ _ _ _ => (pv 8)))
        (pss_cons (ps_setLc (i := 6) (own := [("_law_spot", 8)]) (tt := tAnd (tTest (tOp (rIn K false) (tVar 4) (tTup (tCons (tC (.int 5)) (tCons (tC (.int 6)) (tCons (tC (.int 7)) tNil)))))) (tTest (tOp rEq (tCall spDraw [] C8.E0 (tCons (tVar 0) (tCons (tC (.int 3)) tNil))) (tC (.int 0))))) rfl sc_Lland.nd rfl rfl (sw_true rfl rfl rfl (by decide +kernel)) (pi_range1 rfl T.f_range (pa_cons (pv 3) pa_nil)) (blkOk_by (own := [("_law_spot", 8)]) (N := ["_law_source_here", "_law_least", "_law_most", "_law_many", "_law_way", "_law_fixed", "_law_barred", "_law_worth", "_law_spot"]) (sc := defScope s_Lland) (by decide +kernel)) (fun _ _ _ _ _ => (pg_name (i := 8) sc_Lland.nd rfl (Or.inl rfl))) (fun _ _ _ _ _ => (pts_one (PW.pt (pw_and (pt_cmpR op_in_seq (pv 4) (pe_tup (pa_cons pe_int (pa_cons pe_int (pa_cons pe_int pa_nil)))) rfl) (pw_and1 (pt_cmpR op_eq (C8.pe_c c_law_draw hr (by decide) rfl (pa_cons (pv 0) (pa_cons pe_int pa_nil))) pe_int (nomark _))))))) (fun _ _ _ _ _ => (pv 8)))
        (pss_cons (ps_if (pt_cmpR op_eq (pv 4) pe_int (nomark _)) (pss_one (ps_set (i := 5) sc_Lland.nd rfl (Or.inl rfl) (pe_lst (pa_cons (C8.pe_c c_law_draw hr (by decide) rfl (pa_cons (pv 0) (pa_cons (pv 3) pa_nil))) pa_nil)))) pss_nil)
        (pss_cons (ps_if (pt_cmpR op_eq (pv 4) pe_int (nomark _)) (pss_one (ps_set (i := 6) sc_Lland.nd rfl (Or.inl rfl) (pe_lst (pa_cons (C8.pe_c c_law_draw hr (by decide) rfl (pa_cons (pv 0) (pa_cons (pv 3) pa_nil))) pa_nil)))) pss_nil)
        (pss_cons (ps_set (i := 7) sc_Lland.nd rfl (Or.inr rfl) (pe_ix ix_list (pe_lst (pa_cons pe_int (pa_cons pe_int (pa_cons pe_int pa_nil)))) (C8.pe_c c_law_draw hr (by decide) rfl (pa_cons (pv 0) (pa_cons pe_int pa_nil))) (fun _ _ => rfl)))
        (pss_one (ps_ret (pe_lst (pa_cons (pv 3) (pa_cons (pe_callTy call_tuple_of rfl T.f_tuple (by decide +kernel) (pa_cons (pv 5) pa_nil)) (pa_cons (pe_callTy call_tuple_of rfl T.f_tuple (by decide +kernel) (pa_cons (pv 6) pa_nil)) (pa_cons (pe_callTy call_tuple_of rfl T.f_tuple (by decide +kernel) (pa_cons (pe_lc (own := [("_law_spot", 8)]) rfl sc_Lland.nd (pi_range1 rfl T.f_range (pa_cons (pv 3) pa_nil)) (blkOk_by (own := [("_law_spot", 8)]) (N := ["_law_source_here", "_law_least", "_law_most", "_law_many", "_law_way", "_law_fixed", "_law_barred", "_law_worth", "_law_spot"]) (sc := defScope s_Lland) (by decide +kernel)) (fun _ _ _ _ _ => (pg_name (i := 8) sc_Lland.nd rfl (Or.inl rfl))) (fun _ _ _ _ _ => pts_nil) (fun _ _ _ _ _ => (pe_op op_add pe_int (C8.pe_c c_law_draw hr (by decide) rfl (pa_cons (pv 0) (pa_cons (pv 7) pa_nil)))))) pa_nil)) pa_nil))))))))))))), ?_⟩), T.g_law_land, F.kp, F.bindsN (fun _ _ _ _ _ _ us hl => ?_), .nil⟩
  · obtain ⟨s, rfl, _⟩ := h
    rfl
  · obtain ⟨s, rfl, hs, q⟩ := h
    refine ⟨_, rfl, _, rfl, _, rfl, _, rfl, _, _, rfl, rfl, _, _, rfl, rfl, s, 11, rfl, hs, by decide, by decide, fun a H1 ha k1 hs1 => ?_⟩
    refine ⟨_, _, rfl, rfl, _, rfl, s, 8, rfl, hs1, by decide, by decide, fun wy H2 hw k2 hs2 => ⟨by show 2 ≤ sizeLine; decide, fun p hp => ?_⟩⟩
    refine ⟨p, _, rfl, SqT.of upd_same, rfl, _, _, rfl, _, _, rfl, rfl, ?_⟩
    have k3 := Ext.new (o := .tup [.int (2 + (a : Int)), .int (wy : Int)]) hp
    have k4 := (k1.trans k2).trans k3.kp
    have hs4 := hs2.ext k3
    clear k1 k2 k3
    obtain ⟨n, en, n2, n12⟩ : ∃ n : Nat, (2 : Int) + (a : Int) = (n : Int) ∧ 2 ≤ n ∧ n ≤ 12 := ⟨2 + a, by omega, by omega, by omega⟩
    simp only [en]
    rw [en] at hs4 k4
    refine way_s (v5 := none) (v6 := none) (v7 := none) hs4 n12 fun f1 l1 H3 k5 hs5 g1 nf1 => ?_
    refine way_s (v5 := some (.ref f1)) (v6 := none) (v7 := none) hs5 n12 fun f2 l2 H5 k6 hs6 g2 nf2 => ?_
    have k46 := (k4.trans k5).trans k6
    refine pick_if hs6 n12 (by omega) rfl rfl rfl rfl (g1.kp k6 nf1) nf1 fun f3 l3 H6 k7 hs7 g3 nf3 => ?_
    refine pick_if hs7 n12 (by omega) rfl rfl rfl rfl (g2.kp k7 nf2) nf2 fun f4 l4 H7 k8 hs8 g4 nf4 => ?_
    have g3' := g3.kp k8 nf3
    have k48 := (k46.trans k7).trans k8
    clear k46 k4 k5 k6
    refine ⟨by show 3 ≤ sizeLine; decide, fun wl hwl => ?_⟩
    have kw := Ext.new (o := .lst [.int 1, .int 9, .int 999]) hwl
    refine ⟨_, rfl, s, 3, rfl, hs8.ext kw, by decide, by decide, fun j H8 hj k9 hs9 => ?_⟩
    obtain ⟨wv, ewv, hw1, hw2⟩ : ∃ wv : Nat, atI [V.int 1, .int 9, .int 999] (j : Int) = some (.int (wv : Int)) ∧ 0 < wv ∧ wv ≤ 999 := by
      match j, hj with
      | 0, _ => exact ⟨1, atI_nat rfl, by decide, by decide⟩
      | 1, _ => exact ⟨9, atI_nat rfl, by decide, by decide⟩
      | 2, _ => exact ⟨999, atI_nat rfl, by decide, by decide⟩
    refine ⟨wl, _, _, _, rfl, rfl, SqL.of (k9 _ _ upd_same (by simpa using (hs8.ne hwl).symm)), ewv, ?_⟩
    have kx : Kp [s] H7 H8 := kw.kp.trans k9
    have k50 := k48.trans kx
    have g3 := g3'.kp kx nf3
    have g4 := g4.kp kx nf4
    clear kx k48 g3' kw k9
    refine ⟨_, rfl, _, rfl, f3, _, rfl, .inl ⟨SqL.of g3.1, fun t1 ht1 => ?_⟩⟩
    have ka := Ext.new (o := .tup (nums l3)) ht1
    have n1 := hs9.ne ht1
    have hs10 := hs9.ext ka
    refine ⟨_, rfl, f4, _, rfl, .inl ⟨SqL.of (ka.at g4.1), fun t2 ht2 => ?_⟩⟩
    have kb := ka.newer (o := .tup (nums l4)) ht2
    have n2' := hs10.ne ht2
    have hs11 := hs9.ext kb
    have e1 : upd (upd H8 t1 (.tup (nums l3))) t2 (.tup (nums l4)) t1 = some (.tup (nums l3)) := (Ext.new ht2).at upd_same
    refine ⟨_, rfl, (n : Int), rfl, by omega, by omega, fun D hD => ?_⟩
    have nD := hs11.ne hD
    refine lc_it walk_range (LcP [s] (fun H => SrcAt H s) FeeR _ D) (LcP.zero hD ⟨[], rfl, fun _ z => (nomatch z), rfl⟩ (hs11.set nD)) (fun i H2 _ h1 => trivial) (fun i x H2 H3 hi1 h1 y => ?_) fun H9 h1 => ?_
    · obtain ⟨rfl, rfl⟩ := y
      obtain ⟨acc, z1, ⟨c, rfl, z2, z4⟩, z3, k6, hs6⟩ := h1
      refine ⟨rfl, yes ⟨_, rfl, _, rfl, s, wv, rfl, hs6, hw1, by omega, fun m H4 hm k7 hs7 => ?_⟩⟩
      have hD4 := k7 _ _ z3 (by simpa using nD.symm)
      refine ⟨_, _, rfl, rfl, LcP.add hD (by rw [sizeLine_eq]; omega) z1 hD4 (k6.trans k7) (hs7.set nD) ⟨c ++ [1 + m], ?_, fun q hq => ?_, by simp [z4]⟩⟩
      · rw [show (fun i j => V.int (i + j)) 1 (m : Int) = .int ((1 + m : Nat) : Int) from congrArg V.int (by omega)]
        show nums c ++ nums [1 + m] = _
        exact List.map_append.symm
      · rcases List.mem_append.mp hq with h | h
        · exact z2 q h
        · rw [List.mem_singleton.mp h]
          omega
    · obtain ⟨acc, z1, ⟨c, rfl, z2, z4⟩, z3, k6, hs6⟩ := h1
      refine ⟨D, _, rfl, .inl ⟨SqL.of z3, fun t3 ht3 => ⟨by show 4 ≤ sizeLine; decide, fun la hla => ?_⟩⟩⟩
      have kc := (Ext.new (o := .tup (nums c)) ht3).newer (o := .lst [.int (n : Int), .ref t1, .ref t2, .ref t3]) hla
      have kk := k6.trans kc.kp
      refine q la t1 t2 t3 ⟨n, l3, l4, c⟩ _ ((k50.trans kb.kp).trans kk) (hs6.ext kc) ⟨n2, n12, g3.2.1, g3.2.2, g4.2.1, g4.2.2, by show c.length = n; omega, z2⟩ ⟨upd_same, kk _ _ e1 (by simpa using n1.symm), kk _ _ upd_same (by simpa using n2'.symm), (Ext.new hla).at upd_same⟩
  · obtain ⟨a, b, c, rfl⟩ := len3 hl
    rfl
end
end K71
set_option maxRecDepth 100000
set_option maxHeartbeats 4000000
/-! Walks 27: read_number, numbers_of. -/
namespace K71
open PySem PySem.Spec PyProof.Rows L2 SX
theorem sc_read_number : FnScope ["text", "start", "end", "digits"] ["text", "start"] (defScope s_read_number) := C8.fnScope_by (by decide +kernel)
theorem sc_numbers_of : FnScope ["words", "found", "word", "number", "end"] ["words"] (defScope s_numbers_of) := C8.fnScope_by (by decide +kernel)
section
variable {X : Cx} {a b c d : Expr} {ta tb tc td : TE} {pos : Pos}
/-- a op1 b op2 c op3 d, as a test -/
def tT3 (r r' r'' : R2) (ta tb tc td : TE) : TT := fun σ H Q => ta σ H fun x H1 => tb σ H1 fun y H2 => r x y H2 fun z H3 => ∃ k, z = .bl k ∧
  (if k = true then tc σ H3 fun w' H4 => r' y w' H4 fun z2 H5 => ∃ k2, z2 = .bl k2 ∧ (if k2 = true then td σ H5 fun u' H6 => r'' w' u' H6 fun z3 H7 => ∃ k3, z3 = .bl k3 ∧ Q k3 H7 else Q false H5) else Q false H3)
theorem pt_chain3 {op op' op'' : CmpOp} {r r' r'' : R2} (ho : OpR X (compareOp op) r) (ho' : OpR X (compareOp op') r') (ho2 : OpR X (compareOp op'') r'') (ha : PE X a ta) (hb : PE X b tb) (hc : PE X c tc) (hd : PE X d td)
    (hm : lastMarks [op, op', op''] [b, c, d] = false := by with_unfolding_all rfl) : PT X (.Compare a [op, op', op''] [b, c, d] pos) (tT3 r r' r'' ta tb tc td) := by
  refine ⟨fun pins s σ H Q I h => ?_⟩
  refine isTrue_chain (thn (ha.run pins s σ H _ I h) fun v s1 ⟨x, H1, I1, r1, q1⟩ => test_link (thn (hb.run pins s1 σ H1 _ I1 q1) fun u s2 ⟨y, H2, I2, r2, q2⟩ =>
    thn (ho pins s2 σ H2 x y v u _ I2 r1 r2 q2) fun d s3 ⟨z, H3, I3, r3, k, e, q3⟩ => ?_)) hm
  subst e
  cases r3
  refine wpAny_truthy_bool ?_
  cases k with
  | false => exact ite_ff ⟨H3, I3, q3⟩
  | true =>
    refine ite_tt (test_link (thn (hc.run pins s3 σ H3 _ I3 q3) fun w' s4 ⟨z', H4, I4, r4, q4⟩ => thn (ho' pins s4 σ H4 y z' u w' _ I4 r2 r4 q4) fun d' s5 ⟨z2, H5, I5, r5, k2, e2, q5⟩ => ?_))
    subst e2
    cases r5
    refine wpAny_truthy_bool ?_
    cases k2 with
    | false => exact ite_ff ⟨H5, I5, q5⟩
    | true =>
      refine ite_tt (test_last (thn (hd.run pins s5 σ H5 _ I5 q5) fun u' s6 ⟨z6, H6, I6, r6, q6⟩ => thn (ho2 pins s6 σ H6 z' z6 w' u' _ I6 r4 r6 q6) fun d2 s7 ⟨z7, H7, I7, r7, k3, e3, q7⟩ => ?_))
      subst e3
      cases r7
      exact wpAny_truthy_bool ⟨H7, I7, q7⟩
end
theorem numL_head {n : Nat} (h : 1 ≤ n) : ∃ c l, TL.numL n = c :: l ∧ c ≠ 48 := by
  induction n using Nat.strongRecOn with
  | ind n ih =>
    by_cases c : n < 10
    · exact ⟨48 + n, [], TL.numL_lt c, by omega⟩
    · obtain ⟨d, l, e, hd⟩ := ih (n / 10) (by omega) (by omega)
      exact ⟨d, l ++ [48 + n % 10], by rw [TL.numL_step (by omega), e] <;> rfl, hd⟩
theorem numL_head' (n : Nat) : ∃ c l, TL.numL n = c :: l ∧ (n = 0 ∨ c ≠ 48) := by
  rcases Nat.eq_zero_or_pos n with h | h
  · exact ⟨48, [], by rw [h, TL.numL_lt (by decide)], .inl h⟩
  · obtain ⟨c, l, e, hc⟩ := numL_head h
    exact ⟨c, l, e, .inr hc⟩
theorem eDigits : (("0123456789" : String) : Str).cps.toList = [48, 49, 50, 51, 52, 53, 54, 55, 56, 57] := by decide +kernel
theorem eZero : (("0" : String) : Str) = S [48] := by decide +kernel
def spReadNum : Sp := fun vs H Q _ => ∃ k : Nat, vs = [numW k, .int 0] ∧ k < 1000 ∧ ∀ p, H p = none → Q (.ref p) (upd H p (.tup [.int (k : Int), .int ((TL.numL k).length : Int)]))
section
variable {P : Program} {w : World} {K : PySem.W.Frag} {mg : Str → Option Value} {base : Heap}
theorem cal_read_number (T : Tx K mg) : C8.Cal P w K mg base 1 "read_number" spReadNum [] := by
  obtain ⟨fd, F⟩ := T.F_read_number
  refine ⟨_, fd, ["text", "start"], [], fok F sc_read_number (fun vs H Q E h => ?_) (fun cdv A outer s H vs Q E hr h => ⟨_, (pss_cons (ps_set (i := 2) sc_read_number.nd rfl (Or.inl rfl) (pv 1))
        (pss_cons (ps_while PassesOwn.never (PW.pt (pw_and (pt_cmpR op_lt (pv 2) (pe_callB call_len_str rfl T.f_len (by decide +kernel) (pa_cons (pv 0) pa_nil)) (nomark _)) (pw_and1 (pt_cmpR op_in_sign (pe_ix ix_str (pv 0) (pv 2) (fun _ _ => rfl)) (C8.pe_gc rfl T.t_DIGITS) rfl)))) (pss_one (ps_aug (i := 2) sc_read_number.nd rfl (Or.inl rfl) pe_int ip_add)))
        (pss_cons (ps_set (i := 3) sc_read_number.nd rfl (Or.inl rfl) (pe_slice C8.sl_txt (pv 0) (po_some (pv 1)) (po_some (pv 2))))
        (pss_cons (ps_if (PW.pt (pw_or (pt_not (pt_chain op_le op_le pe_int (pe_callB call_len_str rfl T.f_len (by decide +kernel) (pa_cons (pv 3) pa_nil)) (C8.pe_gc rfl T.i_MAX_DIGITS))) (pw_or1 (PW.pt (pw_and (pt_cmpR op_ne (pv 3) pe_str (nomark _)) (pw_and1 (pt_cmpR op_eq (pe_ix ix_str (pv 3) pe_int (fun _ _ => rfl)) pe_str (nomark _)))))))) (pss_one (ps_ret (pe_tup (pa_cons pe_non (pa_cons (pv 2) pa_nil))))) pss_nil)
        (pss_one (ps_ret (pe_tup (pa_cons (pe_callTy call_int_str rfl T.f_int (by decide +kernel) (pa_cons (pv 3) pa_nil)) (pa_cons (pv 2) pa_nil))))))))), ?_⟩), T.g_read_number, F.kp, F.bindsN (fun _ _ _ _ _ _ us hl => ?_), .nil⟩
  · obtain ⟨k, rfl, _⟩ := h
    rfl
  · obtain ⟨k, rfl, hk, q⟩ := h
    have l3 := numL_len3 hk
    have dg := TL.numL_digits k
    have sz : (S (TL.numL k)).length ≤ sizeLine := by rw [S_len, sizeLine_eq]; omega
    refine ⟨_, rfl, ?_⟩
    refine ⟨fun m σ H1 => ∃ e : Nat, H1 = H ∧ e ≤ (TL.numL k).length ∧ m = (TL.numL k).length - e ∧ σ = [some (numW k), some (.int 0), some (.int (e : Int)), none], ⟨_, 0, rfl, Nat.zero_le _, rfl, rfl⟩, fun m σ H1 w1 => ?_⟩
    obtain ⟨e, rfl, he, rfl, rfl⟩ := w1
    have h0 : (decide ((e : Int) < ((S (TL.numL k)).length : Int))) = decide (e < (TL.numL k).length) := by
      rw [S_len]; exact decide_eq_decide.mpr (by omega)
    refine ⟨_, rfl, _, rfl, _, rfl, sz, _, _, rfl, rfl, _, rfl, ?_⟩
    rw [h0]
    refine ite2 (fun c0 => ?_) fun c0 => iteF ?_
    · have c1 := of_decide_eq_true c0
      have hc := dg _ (List.getElem_mem c1)
      refine ⟨_, rfl, _, rfl, _, _, (TL.numL k)[e], rfl, rfl, sz, atI_nat (List.getElem?_eq_getElem c1), _, _, rfl, rfl, _, rfl, ?_⟩
      rw [eDigits, decide_eq_true (show (TL.numL k)[e] ∈ [48, 49, 50, 51, 52, 53, 54, 55, 56, 57] by simp only [List.mem_cons, List.not_mem_nil, or_false]; omega)]
      refine iteT ⟨fun σ' H' => σ' = [some (numW k), some (.int 0), some (.int ((e + 1 : Nat) : Int)), none] ∧ H' = H1, fun σ' H' z => ⟨(TL.numL k).length - (e + 1), by omega, e + 1, z.2, c1, rfl, z.1⟩, ?_⟩
      exact ⟨_, rfl, _, _, rfl, rfl, rfl, rfl⟩
    · have ee : e = (TL.numL k).length := by
        have := of_decide_eq_false (by simpa using c0 : decide (e < (TL.numL k).length) = false)
        omega
      subst ee
      refine ⟨_, rfl, _, rfl, _, rfl, _, rfl, _, rfl, _, rfl, sz, ?_⟩
      rw [← C8.cutS_slice]
      have e1 : cutS (S (TL.numL k)) (some 0) (some ((TL.numL k).length : Int)) = S (TL.numL k) := by
        unfold cutS
        rw [show (0 : Int) = ((0 : Nat) : Int) from rfl, HT.sIx_nat, HT.sIx_nat, S_len, Nat.min_self, Nat.zero_min, Nat.sub_zero, List.drop_zero, show (S (TL.numL k)).cps.toList = TL.numL k from rfl, List.take_length]
      rw [e1]
      obtain ⟨c, l, el, hc⟩ := numL_head' k
      have hl1 : 1 ≤ (TL.numL k).length := by rw [el]; simp
      have it : PySem.intText? (S (TL.numL k)) = some (k : Int) := by
        rw [← num_S]
        exact TL.int_num (by omega)
      have fin : (tRet (tTup (tCons (tCB (fun xs H Q => ∃ a n, xs = [.str a] ∧ PySem.intText? a = some n ∧ a.length ≤ 640 ∧ Q (.int n) H) (tCons (tVar 3) tNil)) (tCons (tVar 2) tNil))) : TS) { nx := fun _ H' => Q .non H', rt := Q } [some (numW k), some (.int 0), some (.int ((TL.numL k).length : Int)), some (numW k)] H1 :=
        ⟨_, rfl, _, _, rfl, it, by rw [S_len]; omega, _, rfl, by show 2 ≤ sizeLine; decide, fun p hp => q p hp⟩
      refine ⟨_, rfl, _, rfl, sz, _, _, rfl, rfl, true, congrArg V.bl (decide_eq_true (by rw [S_len]; omega)), iteT ⟨_, _, rfl, rfl, true, congrArg V.bl (decide_eq_true (by rw [S_len]; omega)), iteF ?_⟩⟩
      refine ⟨_, rfl, rfl, _, rfl, ?_⟩
      refine ite2 (fun c1 => ?_) fun c1 => iteF fin
      have hc8 : c ≠ 48 := by
        rcases hc with h | h
        · exfalso
          rw [eZero, h, TL.numL_lt (by decide)] at c1
          simp at c1
        · exact h
      refine ⟨_, rfl, _, _, c, rfl, rfl, sz, ?_, rfl, _, rfl, ?_⟩
      · rw [show (S (TL.numL k)).cps.toList = TL.numL k from rfl, el]
        exact atI0
      rw [decide_eq_false (show ¬ V.str ⟨#[c]⟩ = V.str "0" by
        rw [eZero]
        intro z
        injection z with z
        have := S_inj (a := [c]) (b := [48]) z
        injection this with this
        exact hc8 this)]
      exact iteF fin
  · obtain ⟨a, b, rfl⟩ := len2 hl
    rfl
/-- numbers of words -/
def spNumsOf : Sp := fun vs H Q _ => ∃ (l : Addr) (ks : List Nat), vs = [.ref l] ∧ H l = some (.lst (ks.map numW)) ∧ (∀ k ∈ ks, k < 1000) ∧ ks.length ≤ 100 ∧ ∀ t H', Ext H H' → H' t = some (.tup (nums ks)) → Q (.ref t) H'
theorem cal_numbers_of (T : Tx K mg) : C8.Cal P w K mg base 2 "numbers_of" spNumsOf [] := by
  have c_read_number : C8.Cal P w K mg base 1 "read_number" spReadNum [] := cal_read_number T
  obtain ⟨fd, F⟩ := T.F_numbers_of
  refine ⟨_, fd, ["words"], [], fok F sc_numbers_of (fun vs H Q E h => ?_) (fun cdv A outer s H vs Q E hr h => ⟨_, (pss_cons (ps_set (i := 1) sc_numbers_of.nd rfl (Or.inl rfl) (pe_lst pa_nil))
        (pss_cons (ps_for PassesOwn.never rfl (pi_list (pv 0)) (pg_name (i := 2) sc_numbers_of.nd rfl (Or.inl rfl)) (pss_cons (ps_asg (C8.pe_c c_read_number hr (by decide) rfl (pa_cons (pv 2) (pa_cons pe_int pa_nil))) (pg_tup rfl (pgs_cons (pg_name (i := 3) sc_numbers_of.nd rfl (Or.inl rfl)) (pgs_cons (pg_name (i := 4) sc_numbers_of.nd rfl (Or.inl rfl)) pgs_nil)))) (pss_one (ps_expr (pe_bm PySem.F.plainAttrs_list PySem.F.slot_list_append PySem.F.type_list_append mt_append (pv 1) (pa_cons (pe_ifExp (PW.pt (pw_and (pt_cmpR op_notN (pv 3) pe_non (nomark _)) (pw_and1 (pt_cmpR op_eq (pv 4) (pe_callB call_len_str rfl T.f_len (by decide +kernel) (pa_cons (pv 2) pa_nil)) (nomark _))))) (pv 3) (pe_un un_neg pe_int)) pa_nil))))))
        (pss_one (ps_ret (pe_callTy call_tuple_of rfl T.f_tuple (by decide +kernel) (pa_cons (pv 1) pa_nil)))))), ?_⟩), T.g_numbers_of, F.kp, F.bindsN (fun _ _ _ _ _ _ us hl => ?_), .nil⟩
  · obtain ⟨l, ks, rfl, _⟩ := h
    rfl
  · obtain ⟨l, ks, rfl, h, hk, hl, q⟩ := h
    refine ⟨by show 0 ≤ sizeLine; omega, fun o ho => ?_⟩
    have k1 := Ext.new (o := .lst []) ho
    refine ⟨_, rfl, l, rfl, ⟨_, SqL.of (k1.at h)⟩, ?_⟩
    refine for_it (walk_list (K := K) (xs := ks.map numW)) (fun i σ H1 => Ext H H1 ∧ H1 o = some (.lst (nums (ks.take i))) ∧ ∃ u1 u2 u3, σ = [some (.ref l), some (.ref o), u1, u2, u3]) ⟨k1, upd_same, _, _, _, rfl⟩ (fun i σ H1 _ h1 => SqL.of (h1.1.at h)) (fun i x σ H1 H2 hi h1 y => ?_) fun σ H1 h1 => ?_
    · obtain ⟨rfl, y⟩ := y
      obtain ⟨k2, e1, u1, u2, u3, rfl⟩ := h1
      obtain ⟨k, gk, rfl⟩ := map_get y
      have hk3 := hk k (List.mem_of_getElem? gk)
      have l3 := numL_len3 hk3
      have sz : (S (TL.numL k)).length ≤ sizeLine := by rw [S_len, sizeLine_eq]; omega
      refine ⟨_, rfl, k, rfl, hk3, fun p hp => ?_⟩
      have k3 := Ext.new (o := .tup [.int (k : Int), .int ((TL.numL k).length : Int)]) hp
      have e2 := k3.at e1
      refine ⟨p, _, rfl, SqT.of upd_same, rfl, _, _, rfl, _, _, rfl, rfl, ?_⟩
      refine ⟨_, rfl, .inl ⟨rfl, _, SqL.of e2⟩, ?_⟩
      refine ⟨_, rfl, rfl, _, rfl, iteT ?_⟩
      refine ⟨_, rfl, _, rfl, _, rfl, sz, rfl, _, rfl, ?_⟩
      rw [decide_eq_true (show V.int ((TL.numL k).length : Int) = V.int ((S (TL.numL k)).length : Int) by rw [S_len])]
      refine iteT ⟨_, rfl, o, _, _, rfl, rfl, e2, ?_, kp_new ho (k2.trans' k3), ?_, _, _, _, rfl⟩
      · rw [List.length_map, List.length_take, sizeLine_eq]
        omega
      · rw [upd_same, List.take_add_one, gk]
        show some (HO.lst (nums (ks.take i) ++ nums [k])) = some (HO.lst (nums (ks.take i ++ [k])))
        rw [show nums (ks.take i ++ [k]) = nums (ks.take i) ++ nums [k] from List.map_append]
    · obtain ⟨k2, e1, u1, u2, u3, rfl⟩ := h1
      rw [List.length_map, List.take_length] at e1
      exact ⟨_, rfl, o, _, rfl, .inl ⟨SqL.of e1, fun t ht => q t _ (k2.newer ht) upd_same⟩⟩
  · obtain ⟨a, rfl⟩ := len1 hl
    rfl
end
end K71
set_option maxRecDepth 100000
set_option maxHeartbeats 4000000
/-! Walks 28: read_ring. -/
namespace K71
open PySem PySem.Spec PyProof.Rows L2 SX
section
variable {X : Cx}
/-- list.count of a text among texts -/
def rCntS (K : PySem.W.Frag) : V → List V → Hp → VK → Prop := fun x xs H Q => ∃ (p : Addr) (ys : List Str) (k : Str), x = .ref p ∧ xs = [.str k] ∧ SqL K H p (ys.map V.str) ∧ Q (.int (countIn (.str k) (ys.map PyData.str))) H
theorem mt_lcountS : MtR X "list.count" (rCntS X.K) := by
  intro pins s σ H x xs v us Q I rx rxs h
  obtain ⟨p, ys, k, rfl, rfl, hs, q⟩ := h
  cases rx
  obtain ⟨u, rfl, ru⟩ := rxs.one
  obtain ⟨t, rfl⟩ := ru
  obtain ⟨its, rv, ⟨⟨cls, dd, data, sl⟩, n, ho, hc, hdn, hd⟩, hlen⟩ := I.list hs
  simp only at hc hd
  subst hc hd
  have hi := rv.strs
  refine call_meets PySem.F.slot_list_count ⟨_, ho, rfl⟩ PySem.F.entry_list_count (PySem.F.args_list_count_2 _ _) (SeqAt.list_countAt p its.toArray n dd sl (.str k t) (isStrOf k)) ⟨ho, fun y hy => (eq_isStrOf k t hi y (by simpa using hy)).at _ _, ?_⟩
  rw [show its.toArray.toList = its from rfl, countP_isStrOf_map k hi]
  exact ⟨.int (countIn (.str k) (ys.map PyData.str)), H, I.tok _, ⟨s.toks, rfl⟩, q⟩
end
theorem countIn_S (k : List Nat) : ∀ l : List (List Nat), countIn (.str (S k)) ((l.map S).map PyData.str) = ((l.countP (fun w => w == k) : Nat) : Int)
  | [] => rfl
  | w :: l => by
    rw [List.map_cons, List.map_cons, countIn, countIn_S k l, List.countP_cons]
    have e : same (.str (S w)) (.str (S k)) = (w == k) := S_beq w k
    rw [e]
    cases (w == k) <;> simp <;> omega
theorem count_nums {k : List Nat} (h : ∃ x ∈ k, x < 48 ∨ 57 < x) (l : List Nat) : (l.map TL.numL).countP (fun w => w == k) = 0 := by
  rw [List.countP_eq_zero]
  intro w hw e
  obtain ⟨n, _, rfl⟩ := List.mem_map.mp hw
  obtain ⟨x, hx, hx2⟩ := h
  have e : TL.numL n = k := by simpa using e
  exact TL.numL_free hx2 (by rw [e]; exact hx)
theorem num_ne {k : List Nat} (h : ∃ x ∈ k, x < 48 ∨ 57 < x) (n : Nat) : (TL.numL n == k) = false := by
  have := count_nums h [n]
  rw [List.map_singleton, List.countP_singleton] at this
  cases e : (TL.numL n == k) with
  | false => rfl
  | true => rw [e] at this; cases this
theorem hLocks : ∃ x ∈ lLocks, x < 48 ∨ 57 < x := ⟨108, by simp, by decide⟩
theorem hWalls : ∃ x ∈ lWalls, x < 48 ∨ 57 < x := ⟨119, by simp, by decide⟩
theorem hPrices : ∃ x ∈ lPrices, x < 48 ∨ 57 < x := ⟨112, by simp, by decide⟩
theorem count_locks (r : RD) : (wordsOf r).countP (fun w => w == lLocks) = 1 := by
  have h := hLocks
  simp only [wordsOf, List.countP_append, count_nums h, List.countP_cons, List.countP_nil, num_ne h]
  decide
theorem count_walls (r : RD) : (wordsOf r).countP (fun w => w == lWalls) = 1 := by
  have h := hWalls
  simp only [wordsOf, List.countP_append, count_nums h, List.countP_cons, List.countP_nil, num_ne h]
  decide
theorem count_prices (r : RD) : (wordsOf r).countP (fun w => w == lPrices) = 1 := by
  have h := hPrices
  simp only [wordsOf, List.countP_append, count_nums h, List.countP_cons, List.countP_nil, num_ne h]
  decide
/-- list.index of a word -/
theorem index_S {K : PySem.W.Frag} {H : Hp} {p : Addr} {A B : List (List Nat)} {k : List Nat} {Q : VK} {ws : List (List Nat)} {z : Str} (hk : z = S k) (e : ws = A ++ k :: B) (hn : A.countP (fun w => w == k) = 0) (hp : H p = some (.lst (ws.map wS))) (q : Q (.int (A.length : Int)) H) : rIndex K (.ref p) [.str z] H Q := by
  subst hk
  subst e
  have fl : ((A ++ k :: B).map wS).all flatV = true := by
    rw [List.all_eq_true]
    intro x hx
    obtain ⟨w, _, rfl⟩ := List.mem_map.mp hx
    rfl
  refine ⟨p, _, wS k, A.length, wS k, rfl, rfl, SqL.of hp, rfl, fl, ?_, ?_, fun m z hm hz => ?_, q⟩
  · rw [List.getElem?_map, List.getElem?_append_right (Nat.le_refl _), Nat.sub_self] <;> rfl
  · show (S k == S k) = true
    simp
  · rw [List.getElem?_map, List.getElem?_append_left hm] at hz
    rw [List.getElem?_eq_getElem hm] at hz
    injection hz with hz
    subst hz
    have := List.countP_eq_zero.mp hn _ (List.getElem_mem hm)
    show (S A[m] == S k) = false
    rw [S_beq]
    cases e : (A[m] == k) with
    | false => rfl
    | true => exact absurd e this
theorem index_T {K : PySem.W.Frag} {H : Hp} {p : Addr} {A B : List (List Nat)} {k : List Nat} {Q : VK} {ws : List (List Nat)} {z : Str} {σ : L2.St} (hk : z = S k) (e : ws = A ++ k :: B) (hn : A.countP (fun w => w == k) = 0) (hp : H p = some (.lst (ws.map wS))) (q : Q (.int (A.length : Int)) H) : tCons (tC (.str z)) tNil σ H (fun xs H2 => rIndex K (.ref p) xs H2 Q) := index_S hk e hn hp q
theorem ext_of_kp {H H' : Hp} {x : Addr} (hx : H x = none) (k : Kp [x] H H') : Ext H H' := fun b o e _ => k b o e (by simpa using ne_of_none e hx)
theorem cut_app {A B C : List V} {i j : Int} (hi : i = (A.length : Int)) (hj : j = ((A.length + B.length : Nat) : Int)) : cutV (A ++ B ++ C) (some i) (some j) = B := by
  subst hi
  subst hj
  unfold cutV
  have l : (A ++ B ++ C).length = A.length + B.length + C.length := by rw [List.length_append, List.length_append]
  rw [HT.sIx_nat, HT.sIx_nat, l, Nat.min_eq_left (by omega), Nat.min_eq_left (by omega), Nat.add_sub_cancel_left, List.append_assoc, List.drop_left, List.take_left]
theorem joinL_le {m : Nat} : ∀ {ws : List (List Nat)}, (∀ w ∈ ws, w.length ≤ m) → (TL.joinL [32] ws).length ≤ (m + 1) * ws.length
  | [], _ => by show 0 ≤ _; omega
  | [w], h => by
    have := h w (by simp)
    show w.length ≤ (m + 1) * 1
    omega
  | w :: x :: ws, h => by
    have h1 := h w (by simp)
    have ih := joinL_le (ws := x :: ws) fun y hy => h y (List.mem_cons_of_mem _ hy)
    show (w ++ ([32] ++ TL.joinL [32] (x :: ws))).length ≤ (m + 1) * ((x :: ws).length + 1)
    rw [List.length_append, List.length_append, Nat.mul_succ]
    simp only [List.length_singleton]
    omega
theorem words_free {r : RD} : ∀ w ∈ wordsOf r, 32 ∉ w := fun w hw => by
  have nm : ∀ {l : List Nat}, w ∈ l.map TL.numL → 32 ∉ w := fun {l} h => by
    obtain ⟨n, _, rfl⟩ := List.mem_map.mp h
    exact TL.numL_free (.inl (by decide))
  simp only [wordsOf, List.mem_append, List.mem_cons, List.not_mem_nil, or_false] at hw
  rcases hw with ((((((rfl | rfl | rfl) | h) | rfl) | h) | rfl) | h)
  · decide
  · exact TL.numL_free (.inl (by decide))
  · decide
  · exact nm h
  · decide
  · exact nm h
  · decide
  · exact nm h
theorem txt_len {r : RD} (ok : r.Ok) : (ringTxt r).length ≤ 1000 := by
  have h1 := joinL_le (words_short ok)
  have h2 := words_len ok
  show (S _).length ≤ 1000
  rw [S_len]
  omega
theorem split_txt (r : RD) : (Txt.split (ringTxt r) (" " : String)).map V.str = (wordsOf r).map wS := by
  rw [eSpace]
  unfold ringTxt
  rw [split_S (by simp) (by decide), spl_join (by simp [wordsOf]) words_free, List.map_map]
  rfl
theorem sc_read_ring : FnScope ["text", "words", "first", "second", "third", "size", "prices", "word"] ["text"] (defScope s_read_ring) := C8.fnScope_by (by decide +kernel)
def spReadRing (K : PySem.W.Frag) : Sp := fun vs H Q _ => ∃ (r : RD), vs = [.str (ringTxt r)] ∧ r.Ok ∧ ∀ a H', Ext H H' → RingAt K H' a r → Q (.ref a) H'
section
variable {P : Program} {w : World} {K : PySem.W.Frag} {mg : Str → Option Value} {base : Heap}
theorem cal_read_ring (T : Tx K mg) : C8.Cal P w K mg base 5 "read_ring" (spReadRing K) [] := by
  have c_numbers_of : C8.Cal P w K mg base 2 "numbers_of" spNumsOf [] := cal_numbers_of T
  obtain ⟨fdR, FR, KR⟩ := mak_Ring (P := P) (w := w) (base := base) T
  obtain ⟨fd, F⟩ := T.F_read_ring
  refine ⟨_, fd, ["text"], [], fok F sc_read_ring (fun vs H Q E h => ?_) (fun cdv A outer s H vs Q E hr h => ⟨_, (pss_cons (ps_set (i := 1) sc_read_ring.nd rfl (Or.inr rfl) (pe_split (pv 0) pe_str))
        (pss_cons (ps_if (PW.pt (pw_or (pt_cmpR op_ne (pe_ix ix_list (pv 1) pe_int (fun _ _ => rfl)) pe_str (nomark _)) (pw_or1 (pt_cmpR (op_neD (u64 hr)) (pe_lc (own := [("word", 7)]) (te := tBM K "list" (rCntS K) (tVar 1) (tCons (tVar 7) tNil)) rfl sc_read_ring.nd (pi_tup (pe_tup (pa_cons pe_str (pa_cons pe_str (pa_cons pe_str pa_nil))))) (blkOk_by (own := [("word", 7)]) (N := ["text", "words", "first", "second", "third", "size", "prices", "word"]) (sc := defScope s_read_ring) (by decide +kernel)) (fun _ _ _ _ _ => (pg_name (i := 7) sc_read_ring.nd rfl (Or.inl rfl))) (fun _ _ _ _ _ => pts_nil) (fun _ _ _ _ _ => (pe_bm PySem.F.plainAttrs_list PySem.F.slot_list_count PySem.F.type_list_count mt_lcountS (pv 1) (pa_cons (pv 7) pa_nil)))) (pe_lst (pa_cons pe_int (pa_cons pe_int (pa_cons pe_int pa_nil)))) (nomark _))))) (pss_one ps_never) pss_nil)
        (pss_cons (ps_par3 (i := 2) (j := 3) (l := 4) rfl sc_read_ring.nd rfl rfl rfl (by decide) (by decide) (by decide) rfl rfl rfl (pa_cons (pe_bm PySem.F.plainAttrs_list PySem.F.slot_list_index PySem.F.type_list_index mt_index (pv 1) (pa_cons pe_str pa_nil)) (pa_cons (pe_bm PySem.F.plainAttrs_list PySem.F.slot_list_index PySem.F.type_list_index mt_index (pv 1) (pa_cons pe_str pa_nil)) (pa_cons (pe_bm PySem.F.plainAttrs_list PySem.F.slot_list_index PySem.F.type_list_index mt_index (pv 1) (pa_cons pe_str pa_nil)) pa_nil))) (by rfl))
        (pss_cons (ps_if (pt_not (pt_chain3 op_eq op_lt op_lt pe_int (pv 2) (pv 3) (pv 4))) (pss_one ps_never) pss_nil)
        (pss_cons (ps_par (i := 5) (j := 6) rfl sc_read_ring.nd rfl rfl (by decide) rfl rfl (pa_cons (pe_ix ix_tup (C8.pe_c c_numbers_of hr (by decide) rfl (pa_cons (pe_slice sl_list (pv 1) (po_some pe_int) (po_some pe_int)) pa_nil)) pe_int (fun _ _ => rfl)) (pa_cons (C8.pe_c c_numbers_of hr (by decide) rfl (pa_cons (pe_slice sl_list (pv 1) (po_some (pe_op op_add (pv 4) pe_int)) po_none) pa_nil)) pa_nil)) (by rfl))
        (pss_one (ps_ret (pe_makeK T.mk_Ring FR hr rfl T.g_Ring KR (C8.pass0 (E := C8.E0)) (pa_cons (pv 5) pa_nil) (pk_cons (C8.pe_c c_numbers_of hr (by decide) rfl (pa_cons (pe_slice sl_list (pv 1) (po_some pe_int) (po_some (pv 3))) pa_nil)) (pk_cons (C8.pe_c c_numbers_of hr (by decide) rfl (pa_cons (pe_slice sl_list (pv 1) (po_some (pe_op op_add (pv 3) pe_int)) (po_some (pv 4))) pa_nil)) (pk_cons (pv 6) pk_nil))))))))))), ?_⟩), T.g_read_ring, F.kp, F.bindsN (fun _ _ _ _ _ _ us hl => ?_), .nil⟩
  · obtain ⟨r, rfl, _⟩ := h
    rfl
  · obtain ⟨r, rfl, ok, q⟩ := h
    have wl := words_len ok
    refine ⟨_, rfl, ⟨_, rfl⟩, _, _, rfl, rfl, by decide +kernel, Nat.le_trans (Nat.add_le_add_right (txt_len ok) 2) (by decide), fun p hp => ?_⟩
    have k1 := Ext.new (o := .lst ((Txt.split (ringTxt r) (" " : String)).map V.str)) hp
    have e1 : upd H p (.lst ((Txt.split (ringTxt r) (" " : String)).map V.str)) p = some (.lst ((wordsOf r).map wS)) := by rw [upd_same, split_txt]
    generalize upd H p (.lst ((Txt.split (ringTxt r) (" " : String)).map V.str)) = H1 at k1 e1 ⊢
    refine ⟨_, rfl, p, _, _, wS lRing, rfl, rfl, SqL.of e1, atI_nat (j := 0) rfl, rfl, false, congrArg V.bl (by rw [eRing]; simp), iteF ?_⟩
    refine ⟨by show 3 ≤ sizeLine; decide, fun t ht => ?_⟩
    have k2 := Ext.new (o := .tup [.str "locks", .str "walls", .str "prices"]) ht
    refine ⟨t, rfl, ⟨_, SqT.of upd_same⟩, fun D hD => ?_⟩
    refine lc_it (walk_tup (K := K) (xs := [wS lLocks, wS lWalls, wS lPrices])) (LcP [] IvT (RF fun _ => .int 1) _ D) (LcP.zero hD RF.zero trivial) (fun i H2 _ h1 => ?_) (fun i x H2 H3 hi1 h1 y => ?_) fun H2 h1 => ?_
    · obtain ⟨_, _, _, _, k, _⟩ := h1
      exact SqT.of (by rw [show [wS lLocks, wS lWalls, wS lPrices] = [V.str "locks", V.str "walls", V.str "prices"] from by rw [eLocks, eWalls, ePrices]]; exact k.at upd_same)
    · obtain ⟨rfl, y⟩ := y
      obtain ⟨acc, z1, z2, z3, k3, _⟩ := h1
      obtain ⟨k, rfl, hk⟩ : ∃ k, x = wS k ∧ (wordsOf r).countP (fun w => w == k) = 1 := by
        match i, y with
        | 0, y => exact ⟨_, (Option.some.inj y).symm, count_locks r⟩
        | 1, y => exact ⟨_, (Option.some.inj y).symm, count_walls r⟩
        | 2, y => exact ⟨_, (Option.some.inj y).symm, count_prices r⟩
        | n + 3, y => cases y
      have e3 := k3.at (k2.at e1)
      refine ⟨rfl, yes ⟨_, rfl, .inl ⟨rfl, _, SqL.of e3⟩, _, rfl, p, (wordsOf r).map S, S k, rfl, rfl, SqL.of (by rw [e3, List.map_map] <;> rfl), ?_⟩⟩
      rw [countIn_S, hk]
      exact LcP.add hD (by rw [sizeLine_eq]; simp at hi1; omega) z1 z3 k3 trivial (RF.add z2 rfl)
    · obtain ⟨acc, z1, z2, z3, k3, _⟩ := h1
      refine ⟨by show 3 ≤ sizeLine; decide, fun o ho => ?_⟩
      have k4 := Ext.new (o := .lst [.int 1, .int 1, .int 1]) ho
      have kk := (k2.trans' k3).trans' k4
      refine ⟨.list (numsD [1, 1, 1]), .list (numsD [1, 1, 1]), .lst (SqL.of (k4.at (by rw [z3, z2] <;> rfl))) (dp_nums [1, 1, 1]), .lst (SqL.of upd_same) (dp_nums [1, 1, 1]), by decide +kernel, by decide +kernel, false, congrArg V.bl (by decide +kernel), iteF ?_⟩
      have e4 := kk.at e1
      have k5 := k1.trans' kk
      clear z1 z2 z3 hD ht k2 k3 k4 kk e1 k1 hp
      have w1 : wordsOf r = [lRing, TL.numL r.n] ++ lLocks :: (r.lk.map TL.numL ++ [lWalls] ++ r.wl.map TL.numL ++ [lPrices] ++ r.pr.map TL.numL) := by simp [wordsOf]
      have w2 : wordsOf r = words1 r ++ lWalls :: (r.wl.map TL.numL ++ [lPrices] ++ r.pr.map TL.numL) := by simp [wordsOf]
      have w3 : wordsOf r = words2 r ++ lPrices :: r.pr.map TL.numL := by simp [wordsOf]
      have n1 : [lRing, TL.numL r.n].countP (fun w => w == lLocks) = 0 := by
        simp only [List.countP_cons, List.countP_nil, num_ne hLocks]
        decide
      have n2 : (words1 r).countP (fun w => w == lWalls) = 0 := by
        simp only [List.countP_append, count_nums hWalls, List.countP_cons, List.countP_nil, num_ne hWalls]
        decide
      have n3 : (words2 r).countP (fun w => w == lPrices) = 0 := by
        simp only [List.countP_append, count_nums hPrices, List.countP_cons, List.countP_nil, num_ne hPrices]
        decide
      have c1 : (words1 r).length = 3 + r.lk.length := by simp; omega
      have c2 : (words2 r).length = 4 + r.lk.length + r.wl.length := by simp; omega
      refine ⟨_, rfl, .inl ⟨rfl, _, SqL.of e4⟩, index_T (K := K) eLocks w1 n1 e4 ?_⟩
      refine ⟨_, rfl, .inl ⟨rfl, _, SqL.of e4⟩, index_T (K := K) eWalls w2 n2 e4 ?_⟩
      refine ⟨_, rfl, .inl ⟨rfl, _, SqL.of e4⟩, index_T (K := K) ePrices w3 n3 e4 ?_⟩
      rw [c1, c2, show [lRing, TL.numL r.n].length = 2 from rfl]
      refine ⟨_, _, _, rfl, ?_⟩
      refine ⟨_, rfl, rfl, true, congrArg V.bl (decide_eq_true rfl), iteT ⟨_, rfl, _, _, rfl, rfl, true, congrArg V.bl (decide_eq_true (by omega)), iteT ⟨_, rfl, _, _, rfl, rfl, true, congrArg V.bl (decide_eq_true (by omega)), iteF ?_⟩⟩⟩
      have v1 : (wordsOf r).map wS = [wS lRing] ++ [numW r.n] ++ (wS lLocks :: (r.lk.map TL.numL ++ [lWalls] ++ r.wl.map TL.numL ++ [lPrices] ++ r.pr.map TL.numL).map wS) := by simp [wordsOf]
      have v2 : (wordsOf r).map wS = [wS lRing, numW r.n, wS lLocks] ++ r.lk.map numW ++ ([lWalls] ++ r.wl.map TL.numL ++ [lPrices] ++ r.pr.map TL.numL).map wS := by simp [wordsOf]
      have v3 : (wordsOf r).map wS = (words1 r ++ [lWalls]).map wS ++ r.wl.map numW ++ ([lPrices] ++ r.pr.map TL.numL).map wS := by simp [wordsOf]
      have v4 : (wordsOf r).map wS = (words2 r ++ [lPrices]).map wS ++ r.pr.map numW := by simp [wordsOf]
      have cu1 : cutV ((wordsOf r).map wS) (some 1) (some 2) = [r.n].map numW := by rw [v1]; exact cut_app rfl rfl
      have cu2 : cutV ((wordsOf r).map wS) (some 3) (some ((3 + r.lk.length : Nat) : Int)) = r.lk.map numW := by
        rw [v2]
        exact cut_app rfl (by rw [List.length_map]; rfl)
      have cu3 : cutV ((wordsOf r).map wS) (some (((3 + r.lk.length : Nat) : Int) + 1)) (some ((4 + r.lk.length + r.wl.length : Nat) : Int)) = r.wl.map numW := by
        rw [v3]
        exact cut_app (by simp; omega) (by simp; omega)
      have cu4 : cutV ((wordsOf r).map wS) (some (((4 + r.lk.length + r.wl.length : Nat) : Int) + 1)) none = r.pr.map numW := by
        rw [v4, cut_from (by omega)]
        have e : ((((4 + r.lk.length + r.wl.length : Nat) : Int) + 1).toNat) = ((words2 r ++ [lPrices]).map wS).length := by simp; omega
        rw [e, List.drop_left]
      clear v1 v2 v3 v4 w1 w2 w3 n1 n2 n3 c1 c2
      refine ⟨_, rfl, _, rfl, _, rfl, p, _, rfl, SqL.of e4, fun l1 hl1 => ?_⟩
      have k6 := k5.newer (o := .lst (cutV ((wordsOf r).map wS) (some 1) (some 2))) hl1
      have e6 := (Ext.new (o := .lst (cutV ((wordsOf r).map wS) (some 1) (some 2))) hl1).at e4
      refine ⟨l1, [r.n], rfl, by rw [upd_same, cu1], fun k hk => ?_, by show 1 ≤ 100; decide, fun t1 H7 k7 e7 => ?_⟩
      · rw [List.mem_singleton.mp hk]
        have := ok.hi
        omega
      have e8 := k7.at e6
      have k8 := k6.trans' k7
      refine ⟨t1, _, _, .int (r.n : Int), rfl, rfl, SqT.of e7, atI0, ?_⟩
      refine ⟨_, rfl, _, rfl, _, _, rfl, rfl, _, rfl, p, _, rfl, SqL.of e8, fun l2 hl2 => ?_⟩
      have k9 := Ext.new (o := .lst (cutV ((wordsOf r).map wS) (some (((4 + r.lk.length + r.wl.length : Nat) : Int) + 1)) none)) hl2
      refine ⟨l2, r.pr, rfl, by rw [← cu4]; exact upd_same, ok.prs3, by have := ok.prl; omega, fun t2 H8 k10 e10 => ?_⟩
      have kA := k9.trans' k10
      have eA := kA.at e8
      have kB := k8.trans' kA
      refine ⟨_, _, rfl, ?_⟩
      refine ⟨_, rfl, _, rfl, _, rfl, _, rfl, _, rfl, p, _, rfl, SqL.of eA, fun l3 hl3 => ?_⟩
      have k11 := Ext.new (o := .lst (cutV ((wordsOf r).map wS) (some 3) (some ((3 + r.lk.length : Nat) : Int)))) hl3
      refine ⟨l3, r.lk, rfl, by rw [← cu2]; exact upd_same, ok.lks3, by have := ok.lkl; omega, fun t3 H9 k12 e12 => ?_⟩
      have kC := k11.trans' k12
      have eC := kC.at eA
      refine ⟨_, rfl, _, rfl, _, _, rfl, rfl, _, rfl, _, rfl, _, rfl, p, _, rfl, SqL.of eC, fun l4 hl4 => ?_⟩
      have k13 := Ext.new (o := .lst (cutV ((wordsOf r).map wS) (some (((3 + r.lk.length : Nat) : Int) + 1)) (some ((4 + r.lk.length + r.wl.length : Nat) : Int)))) hl4
      refine ⟨l4, r.wl, rfl, by rw [← cu3]; exact upd_same, ok.wls3, by have := ok.wll; omega, fun t4 H10 k14 e14 => ?_⟩
      have kD := k13.trans' k14
      have kE := kC.trans' kD
      refine ⟨_, rfl, rfl, rfl, fun x dx hx hdx ne => ?_⟩
      have kF : Ext H10 (upd (upd H10 dx (.own x)) x (.ins (ga K "Ring") dx [])) := fun b u e _ => by
        rw [upd_ne (ne_of_none e hx), upd_ne (ne_of_none e hdx)]
        exact e
      refine ⟨x, dx, t3, t4, t2, r, rfl, upd_same, kF.at (kD.at e12), kF.at e14, kF.at (kE.at e10), ok, fun H' kk rp => ⟨rfl, q x H' ?_ ⟨dx, t3, t4, t2, rp⟩⟩⟩
      exact (kB.trans' kE).trans' (ext_of_kp hx (kF.kp.trans kk))
  · obtain ⟨a, rfl⟩ := len1 hl
    rfl
end
end K71
set_option maxRecDepth 100000
set_option maxHeartbeats 4000000
/-! Walks 29: parse_ring, _law_circle. -/
namespace K71
open PySem PySem.Spec PyProof.Rows L2 SX
theorem sc_parse_ring : FnScope ["text", "ring"] ["text"] (defScope s_parse_ring) := C8.fnScope_by (by decide +kernel)
theorem sc_Lcircle : FnScope ["_law_source_here", "_law_land_here", "_law_many", "_law_fixed", "_law_barred", "_law_fees", "_law_words", "_law_spot", "_law_fee"] ["_law_source_here", "_law_land_here"] (defScope s_Lcircle) := C8.fnScope_by (by decide +kernel)
section
variable {P : Program} {w : World} {K : PySem.W.Frag} {mg : Str → Option Value} {base : Heap}
theorem cal_parse_ring (T : Tx K mg) : C8.Cal P w K mg base 6 "parse_ring" (spReadRing K) [] := by
  have c_read_ring : C8.Cal P w K mg base 5 "read_ring" (spReadRing K) [] := cal_read_ring T
  obtain ⟨fdQ, FQ, bQ⟩ := ok_Ring_str (P := P) (w := w) (base := base) T
  obtain ⟨fd, F⟩ := T.F_parse_ring
  refine ⟨_, fd, ["text"], [], fok F sc_parse_ring (fun vs H Q E h => ?_) (fun cdv A outer s H vs Q E hr h => ⟨_, (pss_cons (ps_if (pt_not (pt_val (pe_callB call_isi rfl T.f_isinstance (by decide +kernel) (pa_cons (pv 0) (pa_cons (pe_bltn (v := .ty "str") rfl T.f_str (by decide +kernel) rfl) pa_nil))))) (pss_one ps_never) pss_nil)
        (pss_cons (ps_try_thru0 (pss_one (ps_set (i := 1) sc_parse_ring.nd rfl (Or.inl rfl) (C8.pe_c c_read_ring hr (by decide) rfl (pa_cons (pv 0) pa_nil)))))
        (pss_cons (ps_if (pt_cmpR op_ne (pe_callTy (call_strO (C := ga K "Ring") FQ bQ T.m_Ring_str (hr.mono (by decide))) rfl T.f_str (by decide +kernel) (pa_cons (pv 1) pa_nil)) (pv 0) (nomark _)) (pss_one ps_never) pss_nil)
        (pss_one (ps_ret (pv 1)))))), ?_⟩), T.g_parse_ring, F.kp, F.bindsN (fun _ _ _ _ _ _ us hl => ?_), .nil⟩
  · obtain ⟨r, rfl, _⟩ := h
    rfl
  · obtain ⟨r, rfl, ok, q⟩ := h
    refine ⟨_, rfl, _, _, _, _, true, rfl, .ty "str", .base (.str _), kit_ty (by decide +kernel), true, rfl, iteF ?_⟩
    refine ⟨_, rfl, r, rfl, ok, fun a H1 k1 h1 => ?_⟩
    obtain ⟨dx, x1, x2, x3, hr1⟩ := id h1
    refine ⟨_, rfl, a, dx, _, rfl, hr1.at_, a, r, rfl, h1, fun H2 k2 => ⟨_, rfl, _, rfl, rfl, false, congrArg V.bl (by simp), iteF ⟨_, rfl, q a H2 (k1.trans' k2) (h1.ext k2)⟩⟩⟩
  · obtain ⟨a, rfl⟩ := len1 hl
    rfl
theorem LandP.kps {H H' : Hp} {s la t1 t2 t3 : Addr} {r : RD} (h : LandP H la r t1 t2 t3) (hs : SrcAt H s) (k : Kp [s] H H') : LandP H' la r t1 t2 t3 := by
  have nl : la ≠ s := by
    obtain ⟨_, _, _, e, _⟩ := hs
    intro z
    have e2 := h.at_
    rw [z, e] at e2
    cases e2
  exact ⟨k _ _ h.at_ (by simpa using nl), k _ _ h.lk (by simpa using hs.notup h.lk), k _ _ h.wl (by simpa using hs.notup h.wl), k _ _ h.pr (by simpa using hs.notup h.pr)⟩
def spCircle (K : PySem.W.Frag) : Sp := fun vs H Q _ => ∃ (s la t1 t2 t3 : Addr) (r : RD), vs = [.ref s, .ref la] ∧ SrcAt H s ∧ LandP H la r t1 t2 t3 ∧ r.Ok ∧ ∀ a H', Kp [s] H H' → SrcAt H' s → RingAt K H' a r → Q (.ref a) H'
theorem cal_circle (T : Tx K mg) : C8.Cal P w K mg base 7 "_law_circle" (spCircle K) [] := by
  have c_law_draw : C8.Cal P w K mg base 1 "_law_draw" spDraw [] := cal_draw T
  have c_parse_ring : C8.Cal P w K mg base 6 "parse_ring" (spReadRing K) [] := cal_parse_ring T
  obtain ⟨fdR, FR, KR⟩ := mak_Ring (P := P) (w := w) (base := base) T
  obtain ⟨fd, F⟩ := T.F_Lcircle
  refine ⟨_, fd, ["_law_source_here", "_law_land_here"], [], fok F sc_Lcircle (fun vs H Q E h => ?_) (fun cdv A outer s H vs Q E hr h => ⟨_, (pss_cons (ps_asg (pv 1) (pg_lst rfl (pgs_cons (pg_name (i := 2) sc_Lcircle.nd rfl (Or.inl rfl)) (pgs_cons (pg_name (i := 3) sc_Lcircle.nd rfl (Or.inl rfl)) (pgs_cons (pg_name (i := 4) sc_Lcircle.nd rfl (Or.inl rfl)) (pgs_cons (pg_name (i := 5) sc_Lcircle.nd rfl (Or.inl rfl)) pgs_nil))))))
        (pss_cons (ps_if (pt_cmpR op_gt (C8.pe_c c_law_draw hr (by decide) rfl (pa_cons (pv 0) (pa_cons pe_int pa_nil))) pe_int (nomark _)) (pss_one (ps_ret (pe_makeK T.mk_Ring FR (hr.mono (by decide)) rfl T.g_Ring KR (C8.pass0 (E := C8.E0)) (pa_cons (pv 2) pa_nil) (pk_cons (pv 3) (pk_cons (pv 4) (pk_cons (pv 5) pk_nil)))))) pss_nil)
        (pss_cons (ps_set (i := 6) sc_Lcircle.nd rfl (Or.inl rfl) (pe_op op_cat (pe_op op_cat (pe_lst (pa_cons pe_str (pa_cons (pe_callTy call_str_int rfl T.f_str (by decide +kernel) (pa_cons (pv 2) pa_nil)) (pa_cons pe_str pa_nil)))) (pe_lc (own := [("_law_spot", 7)]) rfl sc_Lcircle.nd (pi_tup (pv 3)) (blkOk_by (own := [("_law_spot", 7)]) (N := ["_law_source_here", "_law_land_here", "_law_many", "_law_fixed", "_law_barred", "_law_fees", "_law_words", "_law_spot", "_law_fee"]) (sc := defScope s_Lcircle) (by decide +kernel)) (fun _ _ _ _ _ => (pg_name (i := 7) sc_Lcircle.nd rfl (Or.inl rfl))) (fun _ _ _ _ _ => pts_nil) (fun _ _ _ _ _ => (pe_callTy call_str_int rfl T.f_str (by decide +kernel) (pa_cons (pv 7) pa_nil))))) (pe_lst (pa_cons pe_str pa_nil))))
        (pss_cons (ps_set (i := 6) sc_Lcircle.nd rfl (Or.inl rfl) (pe_op op_cat (pe_op op_cat (pe_op op_cat (pv 6) (pe_lc (own := [("_law_spot", 7)]) rfl sc_Lcircle.nd (pi_tup (pv 4)) (blkOk_by (own := [("_law_spot", 7)]) (N := ["_law_source_here", "_law_land_here", "_law_many", "_law_fixed", "_law_barred", "_law_fees", "_law_words", "_law_spot", "_law_fee"]) (sc := defScope s_Lcircle) (by decide +kernel)) (fun _ _ _ _ _ => (pg_name (i := 7) sc_Lcircle.nd rfl (Or.inl rfl))) (fun _ _ _ _ _ => pts_nil) (fun _ _ _ _ _ => (pe_callTy call_str_int rfl T.f_str (by decide +kernel) (pa_cons (pv 7) pa_nil))))) (pe_lst (pa_cons pe_str pa_nil))) (pe_lc (own := [("_law_fee", 8)]) rfl sc_Lcircle.nd (pi_tup (pv 5)) (blkOk_by (own := [("_law_fee", 8)]) (N := ["_law_source_here", "_law_land_here", "_law_many", "_law_fixed", "_law_barred", "_law_fees", "_law_words", "_law_spot", "_law_fee"]) (sc := defScope s_Lcircle) (by decide +kernel)) (fun _ _ _ _ _ => (pg_name (i := 8) sc_Lcircle.nd rfl (Or.inl rfl))) (fun _ _ _ _ _ => pts_nil) (fun _ _ _ _ _ => (pe_callTy call_str_int rfl T.f_str (by decide +kernel) (pa_cons (pv 8) pa_nil))))))
        (pss_one (ps_ret (C8.pe_c c_parse_ring hr (by decide) rfl (pa_cons (pe_join pe_str (pv 6)) pa_nil)))))))), ?_⟩), T.g_law_circle, F.kp, F.bindsN (fun _ _ _ _ _ _ us hl => ?_), .nil⟩
  · obtain ⟨s, la, t1, t2, t3, r, rfl, _⟩ := h
    rfl
  · obtain ⟨s, la, t1, t2, t3, r, rfl, hs, hl, ok, q⟩ := h
    have hn := ok.hi
    have ll := ok.lkl
    have lw := ok.wll
    have lp := ok.prl
    have z : ∀ n, n ≤ 100 → n ≤ sizeLine := fun n hn => by rw [sizeLine_eq]; omega
    refine ⟨_, rfl, la, _, rfl, SqL.of hl.at_, rfl, _, _, rfl, _, _, rfl, _, _, rfl, _, _, rfl, rfl, ?_⟩
    refine ⟨_, rfl, s, 3, rfl, hs, by decide, by decide, fun k H1 hk k1 hs1 => ⟨_, _, rfl, rfl, _, rfl, ?_⟩⟩
    have h1 := hl.kps hs k1
    refine ite2 (fun _ => ?_) fun _ => ?_
    · refine ⟨_, rfl, _, rfl, _, rfl, _, rfl, rfl, rfl, fun x dx hx hdx ne => ?_⟩
      have kF : Ext H1 (upd (upd H1 dx (.own x)) x (.ins (ga K "Ring") dx [])) := fun b u e _ => by
        rw [upd_ne (ne_of_none e hx), upd_ne (ne_of_none e hdx)]
        exact e
      refine ⟨x, dx, t1, t2, t3, r, rfl, upd_same, kF.at h1.lk, kF.at h1.wl, kF.at h1.pr, ok, fun H' kk rp => ⟨rfl, ?_⟩⟩
      have kG := ext_of_kp hx (kF.kp.trans kk)
      exact q x H' (k1.trans kG.kp) (hs1.ext kG) ⟨dx, t1, t2, t3, rp⟩
    · refine ⟨_, rfl, (r.n : Int), rfl, log_small (by omega), by show 3 ≤ sizeLine; rw [sizeLine_eq]; omega, fun p hp => ?_⟩
      have k1' := Ext.new (o := .lst [.str "ring", .str (toString (r.n : Int)), .str "locks"]) hp
      have h1' := h1.ext k1'
      refine ⟨_, rfl, t1, rfl, ⟨_, SqT.of h1'.lk⟩, fun D hD => lc_strs (by show 7 < 9; decide) h1'.lk hD ok.lks3 (by omega) fun H2 k2 e2 => ?_⟩
      refine ⟨p, D, _, _, rfl, rfl, k2.at upd_same, e2, z _ (by simp; omega), fun p2 hp2 => ?_⟩
      have e3 : ([.str "ring", .str (toString (r.n : Int)), .str "locks"] ++ r.lk.map numW : List V) = (words1 r).map wS := by
        rw [str_num, eRing, eLocks]
        simp only [words1, List.map_append, List.map_map]
        rfl
      rw [e3]
      have k3 := k2.newer (o := .lst ((words1 r).map wS)) hp2
      have h3 := h1'.ext k3
      refine ⟨by show 1 ≤ sizeLine; exact z _ (by omega), fun p3 hp3 => ?_⟩
      have e4 : p2 ≠ p3 := ne_of_none upd_same hp3
      refine ⟨p2, p3, (words1 r).map wS, _, rfl, rfl, ?_, upd_same, z _ (by simp; omega), fun p4 hp4 => ?_⟩
      · rw [upd_ne e4]; exact upd_same
      have k4 := (Ext.new (o := .lst [.str "walls"]) hp3).newer (o := .lst ((words1 r).map wS ++ [.str "walls"])) hp4
      have h4 := h3.ext k4
      refine ⟨_, rfl, _, rfl, t2, rfl, ⟨_, SqT.of h4.wl⟩, fun D2 hD2 => lc_strs (by show 7 < 9; decide) h4.wl hD2 ok.wls3 (by omega) fun H5 k5 e5 => ?_⟩
      refine ⟨p4, D2, _, _, rfl, rfl, k5.at upd_same, e5, z _ (by simp; omega), fun p6 hp6 => ?_⟩
      have e6 : ((words1 r).map wS ++ [.str "walls"] ++ r.wl.map numW : List V) = (words2 r).map wS := by
        rw [eWalls]
        simp only [words2, List.map_append, List.map_map]
        rfl
      rw [e6]
      have k6 := k5.newer (o := .lst ((words2 r).map wS)) hp6
      have h6 := h4.ext k6
      refine ⟨by show 1 ≤ sizeLine; exact z _ (by omega), fun p7 hp7 => ?_⟩
      have e7 : p6 ≠ p7 := ne_of_none upd_same hp7
      refine ⟨p6, p7, (words2 r).map wS, _, rfl, rfl, ?_, upd_same, z _ (by simp; omega), fun p8 hp8 => ?_⟩
      · rw [upd_ne e7]; exact upd_same
      have k8 := (Ext.new (o := .lst [.str "prices"]) hp7).newer (o := .lst ((words2 r).map wS ++ [.str "prices"])) hp8
      have h8 := h6.ext k8
      refine ⟨_, rfl, t3, rfl, ⟨_, SqT.of h8.pr⟩, fun D3 hD3 => lc_strs (by show 8 < 9; decide) h8.pr hD3 ok.prs3 (by omega) fun H9 k9 e9 => ?_⟩
      refine ⟨p8, D3, _, _, rfl, rfl, k9.at upd_same, e9, z _ (by simp; omega), fun p10 hp10 => ?_⟩
      have e10 : ((words2 r).map wS ++ [.str "prices"] ++ r.pr.map numW : List V) = ((wordsOf r).map S).map V.str := by
        rw [ePrices]
        simp only [wordsOf, List.map_append, List.map_map]
        rfl
      rw [e10]
      refine ⟨⟨_, rfl⟩, _, rfl, _, p10, (wordsOf r).map S, rfl, rfl, .inl (SqL.of upd_same), ?_, ?_⟩
      · have h1 := sum_le (words_short ok)
        have h2 := words_len ok
        rw [List.length_map, eSpace, S_len]
        have : 6 * (wordsOf r).length ≤ 6 * 41 := Nat.mul_le_mul_left _ h2
        show _ + _ * 1 ≤ _
        omega
      · rw [eSpace, join_S]
        have kk := (((k1'.trans' k3).trans' (k4.trans' k6)).trans' (k8.trans' k9)).newer (o := .lst (((wordsOf r).map S).map V.str)) hp10
        refine ⟨r, rfl, ok, fun a H' k11 hr => q a H' (k1.trans (kk.trans' k11).kp) (hs1.ext (kk.trans' k11)) hr⟩
  · obtain ⟨a, b, rfl⟩ := len2 hl
    rfl
end
end K71
set_option maxRecDepth 100000
set_option maxHeartbeats 4000000
/-! Walks 30: what the turns need. -/
namespace K71
open PySem PySem.Spec PyProof.Rows L2 SX LamX NdefX
/-- what stands in every turn -/
structure Tf (K : PySem.W.Frag) (H : Hp) (s la t1 t2 t3 oa p ra dx d : Addr) (r : RD) (c0 : List Nat) (ps : List PI) (qs : List DI) (k : Nat) : Prop where
  src : SrcAt H s
  land : LandP H la r t1 t2 t3
  ords : H oa = some (.lst (refs ps))
  insl : InsL H ps
  insk : ∀ q ∈ ps, InsOk r q.2
  pne : ps ≠ []
  ple : ps.length ≤ 24
  rcd : RecP K H p ra r c0 qs false k dx d
  tab : TabS H (tP K) lamQ
section
variable {K : PySem.W.Frag} {H H' : Hp} {s la t1 t2 t3 oa p ra dx d : Addr} {r : RD} {c0 : List Nat} {ps : List PI} {qs : List DI} {k : Nat}
theorem Tf.ext (h : Tf K H s la t1 t2 t3 oa p ra dx d r c0 ps qs k) (e : Ext H H') : Tf K H' s la t1 t2 t3 oa p ra dx d r c0 ps qs k :=
  ⟨h.src.ext e, h.land.ext e, e.at h.ords, h.insl.ext e, h.insk, h.pne, h.ple, h.rcd.ext e, tab_ext h.tab e⟩
theorem SrcAt.nins {K : PySem.W.Frag} {C dx v : Addr} {fs : List (Str × V)} (h : SrcAt H s) (e : H v = some (.ins C dx fs)) : v ≠ s := by
  obtain ⟨_, _, _, h, _⟩ := h
  intro z
  rw [z, h] at e; cases e
theorem SrcAt.nrefs {v : Addr} {x : List Addr} (h : SrcAt H s) (e : H v = some (.lst (x.map V.ref))) : v ≠ s := by
  obtain ⟨_, _, _, h, _⟩ := h
  intro z
  rw [z, h] at e
  injection e with e
  injection e with e
  cases x with
  | nil => cases e
  | cons a b => injection e with e1 e2; cases e1
theorem refs_eq (ps : List PI) : refs ps = (ps.map fun q => q.1).map V.ref := by rw [List.map_map]; rfl
theorem refD_eq (qs : List DI) : refD qs = (qs.map fun q => q.1).map V.ref := by rw [List.map_map]; rfl
theorem Tf.ne_ps (h : Tf K H s la t1 t2 t3 oa p ra dx d r c0 ps qs k) : p ≠ s := h.src.nins (K := K) h.rcd.at_
theorem Tf.ne_ds (h : Tf K H s la t1 t2 t3 oa p ra dx d r c0 ps qs k) : d ≠ s := h.src.nrefs (by rw [← refD_eq]; exact h.rcd.dn)
theorem Tf.ne_os (h : Tf K H s la t1 t2 t3 oa p ra dx d r c0 ps qs k) : oa ≠ s := h.src.nrefs (by rw [← refs_eq]; exact h.ords)
theorem Tf.ne_ras (h : Tf K H s la t1 t2 t3 oa p ra dx d r c0 ps qs k) : ra ≠ s := by
  obtain ⟨_, _, _, _, hr⟩ := h.rcd.ring
  exact h.src.nins (K := K) hr.at_
theorem Tf.ntup (h : Tf K H s la t1 t2 t3 oa p ra dx d r c0 ps qs k) : ∀ a ∈ [s], ∀ x, H a ≠ some (.tup x) := fun a ha x z => by
  rw [List.mem_singleton.mp ha] at z
  exact h.src.notup z rfl
theorem Tf.drw (h : Tf K H s la t1 t2 t3 oa p ra dx d r c0 ps qs k) (e : Kp [s] H H') (hs : SrcAt H' s) : Tf K H' s la t1 t2 t3 oa p ra dx d r c0 ps qs k := by
  refine ⟨hs, h.land.kps h.src e, e _ _ h.ords (by simpa using h.ne_os), h.insl.kp e h.ntup, h.insk, h.pne, h.ple, (KpT.of e).rec h.rcd (by simpa using h.ne_ps) (by simpa using h.ne_ras) (by simpa using h.ne_ds) h.ntup, tab_kp h.tab e fun a ha => ?_⟩
  rw [List.mem_singleton.mp ha]
  obtain ⟨_, _, _, hh, _⟩ := h.src
  exact ⟨fun q z => (by rw [hh] at z; cases z), fun q z => (by rw [hh] at z; cases z)⟩
/-- the orders' list is not the done list -/
theorem Tf.ne_od (h : Tf K H s la t1 t2 t3 oa p ra dx d r c0 ps qs k) : oa ≠ d := by
  intro z
  have e1 := h.ords
  rw [z, h.rcd.dn] at e1
  injection e1 with e1
  injection e1 with e1
  cases ps with
  | nil => exact h.pne rfl
  | cons a b =>
    cases qs with
    | nil => cases e1
    | cons x y =>
      have h1 := (h.rcd.el 0 x rfl).1
      have h2 := h.insl a (by simp)
      injection e1 with e1 _
      injection e1 with e1
      rw [e1] at h1
      unfold InsAt at h2
      rw [h2] at h1
      cases h1
theorem Tf.ne_la (h : Tf K H s la t1 t2 t3 oa p ra dx d r c0 ps qs k) : la ∉ [p, d] := by
  have e := h.land.at_
  intro z
  rcases List.mem_cons.mp z with z | z
  · rw [z, h.rcd.at_] at e; cases e
  · rw [List.mem_singleton.mp z, h.rcd.dn] at e
    injection e with e
    injection e with e
    cases qs with
    | nil => cases e
    | cons x y => injection e with e1 _; cases e1
theorem Tf.ne_ra (h : Tf K H s la t1 t2 t3 oa p ra dx d r c0 ps qs k) : ra ∉ [p, d] := by
  intro z
  obtain ⟨_, _, _, _, hr⟩ := h.rcd.ring
  rcases List.mem_cons.mp z with z | z
  · exact h.rcd.ne z
  · have e := hr.at_
    rw [List.mem_singleton.mp z, h.rcd.dn] at e; cases e
theorem Tf.ne_oa (h : Tf K H s la t1 t2 t3 oa p ra dx d r c0 ps qs k) : oa ∉ [p, d] := by
  intro z
  rcases List.mem_cons.mp z with z | z
  · have e := h.ords
    rw [z, h.rcd.at_] at e; cases e
  · exact h.ne_od (List.mem_singleton.mp z)
theorem Tf.ne_s (h : Tf K H s la t1 t2 t3 oa p ra dx d r c0 ps qs k) : s ∉ [p, d] := by
  intro z
  rcases List.mem_cons.mp z with z | z
  · exact h.ne_ps z.symm
  · exact h.ne_ds (List.mem_singleton.mp z).symm
/-- behind what changes the recorder, its done list and new things alone -/
theorem Tf.kpt {S : List Addr} {D0 : Addr} {qs' : List DI} {k' : Nat} (h : Tf K H s la t1 t2 t3 oa p ra dx d r c0 ps qs k) (e : KpT S H H') (hs : s ∉ S) (hl : la ∉ S) (ho : oa ∉ S) (hS : ∀ a ∈ S, ∀ x, H a ≠ some (.tup x)) (hr : RecP K H' p ra r c0 qs' false k' dx D0) (ht : TabS H' (tP K) lamQ) : Tf K H' s la t1 t2 t3 oa p ra dx D0 r c0 ps qs' k' := by
  have nt : ∀ {b : Addr} {x : List V}, H b = some (.tup x) → H' b = some (.tup x) := fun {b x} e1 => e _ _ e1 (fun z => hS _ z _ e1) (by intro q z; cases z)
  refine ⟨?_, ⟨e _ _ h.land.at_ hl (by intro q z; cases z), nt h.land.lk, nt h.land.wl, nt h.land.pr⟩, e _ _ h.ords ho (by intro q z; cases z), e.insL h.insl hS, h.insk, h.pne, h.ple, hr, ht⟩
  obtain ⟨a, b, c, h1, h2⟩ := h.src
  exact ⟨a, b, c, e _ _ h1 hs (by intro q z; cases z), h2⟩
theorem Tf.ntupS {sa : Addr} {l : List V} (h : Tf K H s la t1 t2 t3 oa p ra dx d r c0 ps qs k) (e : H sa = some (.lst l)) : ∀ a ∈ [p, d, sa], ∀ x, H a ≠ some (.tup x) := fun a ha x z => by
  rcases List.mem_cons.mp ha with e1 | ha
  · rw [e1, h.rcd.at_] at z; cases z
  · rcases List.mem_cons.mp ha with e1 | ha
    · rw [e1, h.rcd.dn] at z; cases z
    · rw [List.mem_singleton.mp ha, e] at z; cases z
/-- the orders given: with the odd one among them, or as drawn -/
theorem given_te {Q : VK} {σ : L2.St} {D : Addr} {kd a : Nat} {x : V} {row : List PI} (s9 : σ[9]? = some (some (.ref D))) (s10 : σ[10]? = some (some (.int (kd : Int)))) (s11 : σ[11]? = some (some (.int ((a + 1 : Nat) : Int)))) (s13 : σ[13]? = some (some x)) (hD : H D = some (.lst (refs row))) (ha : a < row.length) (hl : row.length ≤ 1000)
    (q : ∀ gv H', Ext H H' → (kd = 0 ∧ H' gv = some (.lst (refs (row.take a) ++ x :: refs (row.drop a))) ∨ kd ≠ 0 ∧ H' gv = some (.lst (refs row))) → Q (.ref gv) H') :
    tIf (tTest (tOp rEq (tVar 10) (tC (.int 0)))) (tOp rCat (tOp rCat (tSl (rSlL K) (tVar 9) tNoPart (tPart (tOp (rI0 fun i j => .int (i - j)) (tVar 11) (tC (.int 1))))) (tLst (tCons (tVar 13) tNil))) (tSl (rSlL K) (tVar 9) (tPart (tOp (rI0 fun i j => .int (i - j)) (tVar 11) (tC (.int 1)))) tNoPart)) (tVar 9) σ H Q := by
  refine ⟨_, s10, rfl, _, rfl, ?_⟩
  refine ite2 (fun c => ?_) fun c => ⟨_, s9, q D H Ext.refl (.inr ⟨fun z => c (decide_eq_true (by rw [z]; rfl)), hD⟩)⟩
  have c0 : kd = 0 := by
    have := of_decide_eq_true c
    injection this with this
    omega
  have ei : ((a + 1 : Nat) : Int) - 1 = (a : Int) := by omega
  refine ⟨_, s9, _, s11, _, _, rfl, rfl, _, rfl, D, _, rfl, SqL.of hD, fun g1 h1 => ?_⟩
  have k1 := Ext.new (o := .lst (cutV (refs row) none (some (((a + 1 : Nat) : Int) - 1)))) h1
  have e1 : cutV (refs row) none (some (((a + 1 : Nat) : Int) - 1)) = refs (row.take a) := by
    rw [ei, cut_to (by omega), Int.toNat_natCast]
    exact List.map_take.symm
  refine ⟨_, s13, by show 1 ≤ sizeLine; decide, fun g2 h2 => ?_⟩
  have k2 := Ext.new (o := .lst [x]) h2
  refine ⟨g1, g2, _, _, rfl, rfl, k2.at upd_same, upd_same, by rw [e1, List.length_map, List.length_take, sizeLine_eq]; show _ + 1 ≤ _; omega, fun g3 h3 => ?_⟩
  have k3 := Ext.new (o := .lst (cutV (refs row) none (some (((a + 1 : Nat) : Int) - 1)) ++ [x])) h3
  have k4 := (k1.trans' k2).trans' k3
  refine ⟨_, s9, _, s11, _, _, rfl, rfl, _, rfl, D, _, rfl, SqL.of (k4.at hD), fun g4 h4 => ?_⟩
  have k5 := Ext.new (o := .lst (cutV (refs row) (some (((a + 1 : Nat) : Int) - 1)) none)) h4
  have e2 : cutV (refs row) (some (((a + 1 : Nat) : Int) - 1)) none = refs (row.drop a) := by
    rw [ei, cut_from (by omega), Int.toNat_natCast]
    exact List.map_drop.symm
  refine ⟨g3, g4, _, _, rfl, rfl, k5.at upd_same, upd_same, ?_, fun g6 h6 => ?_⟩
  · rw [e1, e2, List.length_append, List.length_map, List.length_map, List.length_take, List.length_drop, sizeLine_eq]
    show _ + 1 + _ ≤ _
    omega
  · refine q g6 _ ((k4.trans' k5).trans' (Ext.new h6)) (.inl ⟨c0, ?_⟩)
    rw [upd_same, e1, e2, List.append_assoc]
    rfl
theorem shaped_numsL (l : List Nat) : SeqAt.shaped (.list (numsD l)) = true := by
  have h1 : PyData.canLay0 (.list (numsD l)) = true := canLay_nums l
  have h2 : PyData.depth (.list (numsD l)) = 1 := by
    show PyData.depthAll (numsD l) + 1 = 1
    rw [depth_nums l]
  unfold SeqAt.shaped
  rw [h1, h2] <;> rfl
theorem seenL_eq (n m : Nat) : seenL n m = nums ((List.range m).map fun i => n + 1 + i) := by
  unfold seenL
  rw [nums, List.map_map]
  rfl
theorem rgV_eq {a b : Int} {n m : Nat} (ha : a = ((n + 1 : Nat) : Int)) (hb : b = ((n + 1 + m : Nat) : Int)) : rgV a b = seenL n m := by
  subst ha
  subst hb
  unfold rgV seenL
  rw [show ((((n + 1 + m : Nat) : Int) - ((n + 1 : Nat) : Int)).toNat) = m by omega]
  refine List.map_congr_left fun i _ => congrArg V.int (by omega)
/-- the same numbers in two lists -/
theorem ne_numsL {a b : Addr} {l : List Nat} {Q : VK} (h1 : H a = some (.lst (nums l))) (h2 : H b = some (.lst (nums l))) (q : Q (.bl false) H) : rNeD K (.ref a) (.ref b) H Q := by
  refine ⟨.list (numsD l), .list (numsD l), .lst (SqL.of h1) (dp_nums l), .lst (SqL.of h2) (dp_nums l), shaped_numsL l, shaped_numsL l, ?_⟩
  rw [SeqAt.eqv_refl _ (SeqAt.canLay_of_shaped (shaped_numsL l))]
  exact q
theorem ext_of_kps {S : List Addr} (hS : ∀ a ∈ S, H a = none) (k : Kp S H H') : Ext H H' := fun b o e _ => k b o e fun z => by
  rw [hS b z] at e; cases e
end
end K71
set_option maxRecDepth 100000
set_option maxHeartbeats 4000000
/-! Walks 31: the second half of _law_turn_right. -/
namespace K71
open PySem PySem.Spec PyProof.Rows L2 SX LamX NdefX
def turnB (K : PySem.W.Frag) : TS :=
  tSeq (tAsg (tMake (ga K "Recorder") (spRecInit K) [] C8.E0 (tCons (tVar 2) (tCons (tVar 3) tNil))) (gName 16))
  (tSeq (tDrop (tMeth (ga K "Recorder") "write_all" (spWA K) [V.non] C8.E0 (tVar 16) (tCons (tCB (rTupOf K) (tCons (tVar 8) tNil)) tNil)))
  (tSeq (tIfS (tOr (tTest (tOp (rNeO (ga K "Recorder") (spRecEq K)) (tVar 16) (tVar 4))) (tTest (tOp rNe (tCall (spState K) [] C8.E0 (tCons (tVar 16) tNil)) (tVar 6)))) (tRet (tC (V.bl false))) tNext)
  (tSeq (tIfS (tTest (tOp (fun x y H Q => y = V.non ∧ Q (V.bl !decide (x = V.non)) H) (tMeth (ga K "Recorder") "write_all" (spWA K) [V.non] C8.E0 (tVar 4) (tCons (tCB (rTupOf K) (tCons (tVar 9) tNil)) tNil)) (tC V.non))) (tRet (tC (V.bl false))) tNext)
  (tSeq (tIfS (tTest (tOp rNe (tCall (spState K) [] C8.E0 (tCons (tVar 4) tNil)) (tCall (spDue K) [] C8.E0 (tCons (tVar 1) (tCons (tVar 2) (tCons (tVar 3) (tCons (tOp rCat (tVar 8) (tVar 9)) tNil))))))) (tRet (tC (V.bl false))) tNext)
  (tSeq (tFor (iList K (tVar 9)) (gName 17) (tDrop (tMeth (ga K "Recorder") "undo" (spUndo K) [] C8.E0 (tVar 4) tNil)))
  (tRet (tAndV (tOp rEq (tCall (spState K) [] C8.E0 (tCons (tVar 4) tNil)) (tVar 6)) (tOp rEq (tFld K (tVar 4) "runs") (tOp (rI0 fun i j => V.int (i + j)) (tVar 7) (tC (V.int 2)))))))))))
section
variable {K : PySem.W.Frag} {mg : Str → Option Value}
theorem turn_b (T : Tx K mg) {H : Hp} {Q : VK} {s la t1 t2 t3 oa p ra dx D0 dn D : Addr} {r : RD} {c0 : List Nat} {ps ws : List PI} {qs : List DI} {k : Nat} {x10 x11 x12 x13 x14 x15 : Option V} (h : Tf K H s la t1 t2 t3 oa p ra dx D0 r c0 ps qs (k + 1)) (eD : H D = some (.lst (refs ws))) (e3D : H dn = some (.lst (refs (psD qs)))) (hws : ∀ q ∈ ws, q ∈ ps) (wsl : ws.length ≤ 12) (hq : qs.length ≤ 12)
    (npD : D ∉ [p, D0]) (npd : dn ∉ [p, D0]) (q : ∀ H', Kp [p, D0] H H' → RecP K H' p ra r c0 qs false (k + 2) dx D0 → TabS H' (tP K) lamQ → Q (.bl true) H') :
    turnB K { nx := fun _ H' => Q .non H', rt := Q } [some (.ref s), some (.ref la), some (.ref ra), some (wS c0), some (.ref p), some (.ref oa), some (.str (stD r c0 (isD qs)).shown), some (.int (k : Int)), some (.ref dn), some (.ref D), x10, x11, x12, x13, x14, x15, none, none, none] H := by
  have ok := h.rcd.ok
  -- the fresh one
  refine ⟨_, rfl, _, rfl, fun f fx hf hfx ne => ⟨f, ra, fx, r, c0, rfl, upd_same, ?_, h.rcd.cl, h.rcd.ck, ?_, fun fd H1 k1 hfd rf => ⟨rfl, ?_⟩⟩⟩
  · have kF : Ext H (upd (upd H fx (.own f)) f (.ins (ga K "Recorder") fx [])) := fun b u e _ => by
      rw [upd_ne (ne_of_none e hf), upd_ne (ne_of_none e hfx)]
      exact e
    exact h.rcd.ring.ext kF
  · intro z
    obtain ⟨_, _, _, _, hr⟩ := h.rcd.ring
    exact ne_of_none hr.at_ hf z
  have kF : Ext H (upd (upd H fx (.own f)) f (.ins (ga K "Recorder") fx [])) := fun b u e _ => by
    rw [upd_ne (ne_of_none e hf), upd_ne (ne_of_none e hfx)]
    exact e
  have fdn : H fd = none := by
    cases e : H fd with
    | none => rfl
    | some o => rw [kF.at e] at hfd; cases hfd
  have kE1 : Ext H H1 := ext_of_kp hf (kF.kp.trans k1)
  refine ⟨_, rfl, f, fx, _, rfl, rf.at_, rfl, _, rfl, dn, _, rfl, .inl ⟨SqL.of (kE1.at e3D), fun td htd => ?_⟩⟩
  have k2 := Ext.new (o := .tup (refs (psD qs))) htd
  have kE2 := kE1.trans' k2
  refine ⟨f, ra, fx, fd, td, r, c0, [], 0, psD qs, rfl, rf.ext k2, upd_same, h.rcd.insL.ext kE2, fun q1 hq1 => ?_, by simp; omega, fun H3 qs2 k3 eqs rf2 => ?_⟩
  · obtain ⟨x, hx, rfl⟩ := List.mem_map.mp hq1
    exact h.rcd.io x hx
  have ei : isD qs2 = isD qs := by
    have := congrArg (fun l => l.map fun q : PI => q.2) eqs
    rw [List.map_map, List.map_map] at this
    exact this
  have kE3 : Ext H H3 := ext_of_kps (S := [f, fd]) (fun a ha => by
    rcases List.mem_cons.mp ha with e | ha
    · rw [e]; exact hf
    · rw [List.mem_singleton.mp ha]; exact fdn) (kE2.kp.trans k3)
  have rf2 : RecP K H3 f ra r c0 qs2 false 1 fx fd := rf2
  have h3 := h.ext kE3
  refine ⟨_, rfl, _, rfl, f, p, fx, dx, _, _, rfl, rfl, rf2.at_, h3.rcd.at_, f, p, ra, fx, fd, dx, D0, r, c0, c0, qs2, qs, false, false, 1, k + 1, rfl, rf2, h3.rcd, by rw [ei], fun H4 k4 => ⟨true, rfl, false, rfl, iteF ?_⟩⟩
  refine ⟨_, rfl, f, ra, fx, fd, r, c0, qs2, 1, rfl, rf2.ext k4, fun H5 k5 => ⟨_, rfl, rfl, false, congrArg V.bl (by rw [ei]; simp), iteF ?_⟩⟩
  have kE5 := (kE3.trans' k4).trans' k5
  have h5 := h.ext kE5
  -- the row written
  refine ⟨_, rfl, p, dx, _, rfl, h5.rcd.at_, rfl, _, rfl, D, _, rfl, .inl ⟨SqL.of (kE5.at eD), fun tr htr => ?_⟩⟩
  have k6 := kE5.newer (o := .tup (refs ws)) htr
  have h6 := h.ext k6
  refine ⟨p, ra, dx, D0, tr, r, c0, qs, k + 1, ws, rfl, h6.rcd, upd_same, fun q1 hq1 => h6.insl q1 (hws q1 hq1), fun q1 hq1 => h.insk q1 (hws q1 hq1), by omega, fun H7 qs' k7 eqs' r7 => ⟨rfl, false, by simp, iteF ?_⟩⟩
  have k67 := k6.kp.trans k7
  have np : ∀ a ∈ [p, D0], ∀ x, H a ≠ some (.tup x) := h.rcd.notup
  have e7D := k67 _ _ eD npD
  have e7d := k67 _ _ e3D npd
  have land7 : LandP H7 la r t1 t2 t3 := ⟨k67 _ _ h.land.at_ h.ne_la, k67 _ _ h.land.lk (fun z => np _ z _ h.land.lk), k67 _ _ h.land.wl (fun z => np _ z _ h.land.wl), k67 _ _ h.land.pr (fun z => np _ z _ h.land.pr)⟩
  have il : (psD qs ++ ws).length ≤ 24 := by simp; omega
  have eI : inss (psD qs ++ ws) = isD (qs ++ qs') := by
    show (psD qs ++ ws).map (fun q : PI => q.2) = _
    rw [← eqs', List.map_append, List.map_map, List.map_map]
    exact List.map_append.symm
  refine ⟨_, rfl, p, ra, dx, D0, r, c0, qs ++ qs', k + 2, rfl, r7, fun H8 k8 => ?_⟩
  refine ⟨_, rfl, _, rfl, _, rfl, _, rfl, _, rfl, dn, D, _, _, rfl, rfl, k8.at e7d, k8.at e7D, by simp; rw [sizeLine_eq]; omega, fun dr hdr => ?_⟩
  have k9 := k8.newer (o := .lst (refs (psD qs) ++ refs ws)) hdr
  have r9 := r7.ext k9
  refine ⟨la, ra, dr, t1, t2, t3, r, c0, psD qs ++ ws, rfl, land7.ext k9, r9.ring, r9.cl, r9.ck, ?_, ?_, fun q1 hq1 => ?_, by omega, fun H10 k10 => ⟨rfl, false, congrArg V.bl (by rw [eI]; simp), iteF ?_⟩⟩
  · rw [upd_same, show refs (psD qs ++ ws) = refs (psD qs) ++ refs ws from List.map_append]
  · have e : psD (qs ++ qs') = psD qs ++ ws := by rw [← eqs']; exact List.map_append
    have := r9.insL
    rw [e] at this
    exact this
  · rw [← eqs', show psD qs ++ psD qs' = psD (qs ++ qs') from List.map_append.symm] at hq1
    obtain ⟨x, hx, rfl⟩ := List.mem_map.mp hq1
    exact (r9.io x hx).1
  have k910 := k9.trans' k10
  have kA := k67.trans k910.kp
  have rA := r7.ext k910
  have eDA := k910.at e7D
  have wl : ws.length = qs'.length := by rw [← eqs']; simp
  -- the row taken back
  refine ⟨_, rfl, D, rfl, ⟨_, SqL.of eDA⟩, for_it (walk_list (K := K) (xs := refs ws)) (fun i σ H' => Kp [p, D0] H10 H' ∧ RecP K H' p ra r c0 (qs ++ qs'.take (ws.length - i)) false (k + 2) dx D0 ∧ ∃ u, σ = [some (.ref s), some (.ref la), some (.ref ra), some (wS c0), some (.ref p), some (.ref oa), some (.str (stD r c0 (isD qs)).shown), some (.int (k : Int)), some (.ref dn), some (.ref D), x10, x11, x12, x13, x14, x15, some (.ref f), u, none]) ⟨Kp.refl, by rw [Nat.sub_zero, List.take_of_length_le (by omega)]; exact rA, _, rfl⟩ (fun i σ H' _ h1 => SqL.of (h1.1 _ _ eDA npD)) (fun i x σ H1 H2 hi h1 y => ?_) fun σ H1 h1 => ?_⟩
  · obtain ⟨rfl, y⟩ := y
    obtain ⟨kk, rr, u, rfl⟩ := h1
    have hi2 : i < ws.length := by simpa using hi
    have e1 : ws.length - i = (ws.length - (i + 1)) + 1 := by omega
    have hj : ws.length - (i + 1) < qs'.length := by omega
    rw [e1, List.take_succ_eq_append_getElem hj, ← List.append_assoc] at rr
    generalize eb : qs'[ws.length - (i + 1)] = b at rr
    obtain ⟨b1, b2, b3⟩ := b
    refine ⟨_, rfl, p, dx, _, rfl, rr.at_, rfl, p, ra, dx, D0, b1, b2, b3, r, c0, qs ++ qs'.take (ws.length - (i + 1)), false, k + 2, rfl, rr, fun H' k' r' => ⟨kk.trans k', r', _, rfl⟩⟩
  · obtain ⟨kk, rr, u, rfl⟩ := h1
    rw [show (refs ws).length = ws.length by simp, Nat.sub_self, List.take_zero, List.append_nil] at rr
    refine ⟨_, rfl, p, ra, dx, D0, r, c0, qs, k + 2, rfl, rr, fun H' k' => ⟨_, rfl, rfl, true, congrArg V.bl (by simp), iteT ?_⟩⟩
    have r' := rr.ext k'
    have kZ : Kp [p, D0] H H' := (kA.trans kk).trans k'.kp
    refine ⟨_, rfl, p, _, _, _, _, rfl, r'.at_, T.cl_Recorder, T.n_Recorder_runs, rfl, _, rfl, _, _, rfl, rfl, rfl, ?_⟩
    rw [decide_eq_true (show V.int ((k + 2 : Nat) : Int) = V.int ((k : Int) + 2) from congrArg V.int (by omega))]
    refine q H' kZ r' (tab_kp h.tab kZ fun a ha => ?_)
    rcases List.mem_cons.mp ha with e | ha
    · rw [e, h.rcd.at_]
      exact ⟨fun _ z => (by cases z), fun _ z => (by cases z)⟩
    · rw [List.mem_singleton.mp ha, h.rcd.dn]
      exact ⟨fun _ z => (by cases z), fun _ z => (by cases z)⟩
end
end K71
set_option maxRecDepth 100000
set_option maxHeartbeats 8000000
/-! Walks 31: _law_turn_right. -/
namespace K71
open PySem PySem.Spec PyProof.Rows L2 SX LamX NdefX
theorem sc_Lturn_right : FnScope ["_law_source_here", "_law_land_here", "_law_circle_here", "_law_word", "_law_recorder", "_law_orders_here", "_law_kept", "_law_calls", "_law_done", "_law_row", "_law_kind", "_law_at", "_law_seen", "_law_odd", "_law_given", "_law_due_here", "_law_fresh", "_law_order", "_law_turn"] ["_law_source_here", "_law_land_here", "_law_circle_here", "_law_word", "_law_recorder", "_law_orders_here"] (defScope s_Lturn_right) := C8.fnScope_by (by decide +kernel)
def spTurn (K : PySem.W.Frag) : Sp := fun vs H Q _ => ∃ (s la t1 t2 t3 oa p ra dx d : Addr) (r : RD) (c0 : List Nat) (ps : List PI) (qs : List DI) (k : Nat), vs = [.ref s, .ref la, .ref ra, wS c0, .ref p, .ref oa] ∧ Tf K H s la t1 t2 t3 oa p ra dx d r c0 ps qs k ∧ qs.length ≤ 12 ∧
  ∀ D0 H', KpT [p, d, s] H H' → NewN H D0 → Tf K H' s la t1 t2 t3 oa p ra dx D0 r c0 ps qs (k + 2) → Q (.bl true) H'
/-- rows drawn -/
def RowR (ps : List PI) : Nat → List V → Prop := fun i acc => ∃ qs, acc = refs qs ∧ (∀ q ∈ qs, q ∈ ps) ∧ qs.length = i
section
variable {P : Program} {w : World} {K : PySem.W.Frag} {mg : Str → Option Value} {base : Heap}
theorem cal_turn (T : Tx K mg) (TB : TabB base mg (cP K) (tP K)) : CalG P w K mg base 8 "_law_turn_right" (spTurn K) := by
  have G_law_state : CalG P w K mg base 6 "_law_state" (spState K) := cal_state T
  have G_law_failed : CalG P w K mg base 7 "_law_failed" (spFailed K) := cal_failed T TB
  have G_law_due : CalG P w K mg base 4 "_law_due" (spDue K) := cal_due T
  have c_law_draw : C8.Cal P w K mg base 1 "_law_draw" spDraw [] := cal_draw T
  have m_recorded : C8.Met P w K mg base 1 (ga K "Recorder") "recorded" (spRec K pRecd) [] := met_recorded T
  have m_undo : C8.Met P w K mg base 1 (ga K "Recorder") "undo" (spUndo K) [] := met_undo T
  have m_write_all : C8.Met P w K mg base 4 (ga K "Recorder") "write_all" (spWA K) [.non] := met_write_all T
  have c_Recorder : C8.Mak P w K mg base 3 "Recorder" (ga K "Recorder") (spRecInit K) [] := mak_Recorder T
  obtain ⟨fdE, FE, bE⟩ := ok_Recorder_eq (P := P) (w := w) (base := base) T
  obtain ⟨fd, F⟩ := T.F_Lturn_right
  refine ⟨_, fd, ["_law_source_here", "_law_land_here", "_law_circle_here", "_law_word", "_law_recorder", "_law_orders_here"], fnG (k := 7) F sc_Lturn_right (fun vs H Q E h => ?_) (fun cdv A outer s0 H vs Q E hgu hr h => ?_), T.g_law_turn_right, F.kp, F.bindsN (fun _ _ _ _ _ _ us hl => ?_)⟩
  · obtain ⟨s, la, t1, t2, t3, oa, p, ra, dx, d, r, c0, ps, qs, k, rfl, _⟩ := h
    rfl
  · have hg := hgu
    refine ⟨_, (pss_cons (ps_par3 (i := 6) (j := 7) (l := 8) rfl sc_Lturn_right.nd rfl rfl rfl (by decide) (by decide) (by decide) rfl rfl rfl (pa_cons (pe_g G_law_state hgu hr (by decide) rfl (pa_cons (pv 4) pa_nil)) (pa_cons (pe_fld (pv 4) rfl) (pa_cons (pe_callTy call_list_of rfl T.f_list (by decide +kernel) (pa_cons (C8.pe_mt0 m_recorded hr (by decide) (pv 4)) pa_nil)) pa_nil))) (by rfl))
        (pss_cons (ps_setLc (i := 9) (own := [("_law_turn", 18)]) (te := tOp (rIxL K) (tVar 5) (tCall spDraw [] C8.E0 (tCons (tVar 0) (tCons (tCB (fun xs H Q => ∃ p ys, xs = [.ref p] ∧ (SqL K H p ys ∨ SqT K H p ys) ∧ Q (.int (ys.length : Int)) H) (tCons (tVar 5) tNil)) tNil)))) rfl sc_Lturn_right.nd rfl rfl (sw_true rfl rfl rfl (by decide +kernel)) (pi_range1 rfl T.f_range (pa_cons (pe_op op_add pe_int (C8.pe_c c_law_draw hr (by decide) rfl (pa_cons (pv 0) (pa_cons pe_int pa_nil)))) pa_nil)) (blkOk_by (own := [("_law_turn", 18)]) (N := ["_law_source_here", "_law_land_here", "_law_circle_here", "_law_word", "_law_recorder", "_law_orders_here", "_law_kept", "_law_calls", "_law_done", "_law_row", "_law_kind", "_law_at", "_law_seen", "_law_odd", "_law_given", "_law_due_here", "_law_fresh", "_law_order", "_law_turn"]) (sc := defScope s_Lturn_right) (by decide +kernel)) (fun _ _ _ _ _ => (pg_name (i := 18) sc_Lturn_right.nd rfl (Or.inl rfl))) (fun _ _ _ _ _ => pts_nil) (fun _ _ _ _ _ => (pe_ix ix_list (pv 5) (C8.pe_c c_law_draw hr (by decide) rfl (pa_cons (pv 0) (pa_cons (pe_callB call_len_seq rfl T.f_len (by decide +kernel) (pa_cons (pv 5) pa_nil)) pa_nil))) (fun _ _ => rfl))))
        (pss_cons (ps_par3 (i := 10) (j := 11) (l := 12) rfl sc_Lturn_right.nd rfl rfl rfl (by decide) (by decide) (by decide) rfl rfl rfl (pa_cons (C8.pe_c c_law_draw hr (by decide) rfl (pa_cons (pv 0) (pa_cons pe_int pa_nil))) (pa_cons (pe_op op_add pe_int (C8.pe_c c_law_draw hr (by decide) rfl (pa_cons (pv 0) (pa_cons (pe_callB call_len_seq rfl T.f_len (by decide +kernel) (pa_cons (pv 9) pa_nil)) pa_nil)))) (pa_cons (pe_lst pa_nil) pa_nil))) (by rfl))
        (pss_cons (ps_set (i := 13) sc_Lturn_right.nd rfl (Or.inl rfl) (pe_ix ix_list (pe_lst (pa_cons (pe_tup (pa_cons (pe_ix ix_list (pv 1) pe_int (fun _ _ => rfl)) (pa_cons pe_str pa_nil))) (pa_cons (pe_tup (pa_cons pe_int (pa_cons pe_str pa_nil))) (pa_cons pe_non (pa_cons (pe_lst (pa_cons pe_int (pa_cons pe_str pa_nil))) pa_nil))))) (C8.pe_c c_law_draw hr (by decide) rfl (pa_cons (pv 0) (pa_cons pe_int pa_nil))) (fun _ _ => rfl)))
        (pss_cons (ps_set (i := 14) sc_Lturn_right.nd rfl (Or.inl rfl) (pe_ifExp (pt_cmpR op_eq (pv 10) pe_int (nomark _)) (pe_op op_cat (pe_op op_cat (pe_slice sl_list (pv 9) po_none (po_some (pe_op op_sub (pv 11) pe_int))) (pe_lst (pa_cons (pv 13) pa_nil))) (pe_slice sl_list (pv 9) (po_some (pe_op op_sub (pv 11) pe_int)) po_none)) (pv 9)))
        (pss_cons (ps_set (i := 15) sc_Lturn_right.nd rfl (Or.inl rfl) (pe_ix ix_list (pe_lst (pa_cons (pe_op op_add_str pe_str (pe_callB (call_reprA hg (u64 hr)) rfl T.f_repr (by decide +kernel) (pa_cons (pv 13) pa_nil))) (pa_cons pe_str (pa_cons pe_str pa_nil)))) (pv 10) (fun _ _ => rfl)))
        (pss_cons (ps_if (PW.pt (pw_or (pt_cmpR op_ne (pe_g G_law_failed hgu hr (by decide) rfl (pa_cons (pv 4) (pa_cons (pv 14) (pa_cons (pv 12) (pa_cons (pv 11) (pa_cons (pv 10) pa_nil)))))) (pv 15) (nomark _)) (pw_or1 (pt_cmpR op_ne (pe_g G_law_state hgu hr (by decide) rfl (pa_cons (pv 4) pa_nil)) (pv 6) (nomark _))))) (pss_one (ps_ret pe_bl)) pss_nil)
        (pss_cons (ps_if (PW.pt (pw_or (pt_cmpR (op_neD (u64 hr)) (pv 12) (pe_listRg rfl rfl T.f_list (prg_2 rfl T.f_range (pe_op op_add (pe_callB call_len_seq rfl T.f_len (by decide +kernel) (pa_cons (pv 8) pa_nil)) pe_int) (pe_op op_add (pe_op op_add (pe_callB call_len_seq rfl T.f_len (by decide +kernel) (pa_cons (pv 8) pa_nil)) (pv 11)) (pe_callTy call_int1 rfl T.f_int (by decide +kernel) (pa_cons (pe_cmpR op_gt (pv 10) pe_int (nomark _)) pa_nil))))) (nomark _)) (pw_or1 (pt_cmpR op_ne (pe_fld (pv 4) rfl) (pe_op op_add (pv 7) pe_int) (nomark _))))) (pss_one (ps_ret pe_bl)) pss_nil)
        (pss_cons (ps_set (i := 16) sc_Lturn_right.nd rfl (Or.inl rfl) (C8.pe_mk c_Recorder hr (by decide) rfl (pa_cons (pv 2) (pa_cons (pv 3) pa_nil))))
        (pss_cons (ps_expr (C8.pe_mt m_write_all hr (by decide) (pv 16) (pa_cons (pe_callTy call_tuple_of rfl T.f_tuple (by decide +kernel) (pa_cons (pv 8) pa_nil)) pa_nil)))
        (pss_cons (ps_if (PW.pt (pw_or (pt_cmpR (op_neO (C := ga K "Recorder") FE bE T.m_Recorder_eq T.ne_Rec T.inRec.hm (hr.mono (by decide))) (pv 16) (pv 4) (nomark _)) (pw_or1 (pt_cmpR op_ne (pe_g G_law_state hgu hr (by decide) rfl (pa_cons (pv 16) pa_nil)) (pv 6) (nomark _))))) (pss_one (ps_ret pe_bl)) pss_nil)
        (pss_cons (ps_if (pt_cmpR op_notN (C8.pe_mt m_write_all hr (by decide) (pv 4) (pa_cons (pe_callTy call_tuple_of rfl T.f_tuple (by decide +kernel) (pa_cons (pv 9) pa_nil)) pa_nil)) pe_non (nomark _)) (pss_one (ps_ret pe_bl)) pss_nil)
        (pss_cons (ps_if (pt_cmpR op_ne (pe_g G_law_state hgu hr (by decide) rfl (pa_cons (pv 4) pa_nil)) (pe_g G_law_due hgu hr (by decide) rfl (pa_cons (pv 1) (pa_cons (pv 2) (pa_cons (pv 3) (pa_cons (pe_op op_cat (pv 8) (pv 9)) pa_nil))))) (nomark _)) (pss_one (ps_ret pe_bl)) pss_nil)
        (pss_cons (ps_for PassesOwn.never rfl (pi_list (pv 9)) (pg_name (i := 17) sc_Lturn_right.nd rfl (Or.inl rfl)) (pss_one (ps_expr (C8.pe_mt0 m_undo hr (by decide) (pv 4)))))
        (pss_one (ps_ret (pe_and (pe_cmpR op_eq (pe_g G_law_state hgu hr (by decide) rfl (pa_cons (pv 4) pa_nil)) (pv 6) (nomark _)) (pe_one (pe_cmpR op_eq (pe_fld (pv 4) rfl) (pe_op op_add (pv 7) pe_int) (nomark _)))))))))))))))))))), ?_⟩
    obtain ⟨s, la, t1, t2, t3, oa, p, ra, dx, d, r, c0, ps, qs, k, rfl, h, hq12, q⟩ := h
    have ok := h.rcd.ok
    have hn := ok.hi
    have n2 := ok.lo
    have hpos : 0 < ps.length := by
      cases e : ps with
      | nil => exact absurd e h.pne
      | cons _ _ => simp
    have hp24 := h.ple
    -- the state, the calls, the done ones
    refine ⟨_, rfl, p, ra, dx, d, r, c0, qs, k, rfl, h.rcd, fun H1 k1 => ?_⟩
    have h1 := h.ext k1
    refine ⟨_, rfl, p, _, _, _, _, rfl, h1.rcd.at_, T.cl_Recorder, T.n_Recorder_runs, rfl, ?_⟩
    refine ⟨_, rfl, p, dx, _, rfl, h1.rcd.at_, rfl, p, ra, dx, d, r, c0, qs, false, k, rfl, h1.rcd, fun td H2 k2 e2 => ⟨td, _, rfl, .inr (SqT.of e2), fun dn hdn => ⟨_, _, _, rfl, ?_⟩⟩⟩
    have k3 := (k1.trans' k2).newer (o := .lst (refs (psD qs))) hdn
    have h3 := h.ext k3
    have e3 : upd H2 dn (.lst (refs (psD qs))) dn = some (.lst (refs (psD qs))) := upd_same
    have nN : ∀ b o, H b = some o → b ≠ dn := fun b o e => ne_of_none ((k1.trans' k2).at e) hdn
    have dnS : dn ∉ [p, d, s] := fun z => by
      rcases List.mem_cons.mp z with z | z
      · exact nN _ _ h.rcd.at_ z.symm
      · rcases List.mem_cons.mp z with z | z
        · exact nN _ _ h.rcd.dn z.symm
        · obtain ⟨_, _, _, hh, _⟩ := h.src
          exact nN _ _ hh (List.mem_singleton.mp z).symm
    generalize upd H2 dn (.lst (refs (psD qs))) = H3 at k3 h3 e3 ⊢
    clear hdn e2 k2 k1 h1
    -- the row
    refine ⟨_, rfl, s, 12, rfl, h3.src, by decide, by decide, fun kr H4 hkr k4 hs4 => ⟨_, _, rfl, rfl, (1 : Int) + (kr : Int), rfl, by omega, by omega, fun D hD => ?_⟩⟩
    have h4 := h3.drw k4 hs4
    refine lc_it walk_range (LcP [s] (fun H => SrcAt H s) (RowR ps) H4 D) (LcP.zero hD ⟨[], rfl, fun _ z => (nomatch z), rfl⟩ (hs4.set (hs4.ne hD))) (fun i H2 _ h1 => trivial) (fun i x H5 H6 hi1 h1 y => ?_) fun H5 h1 => ?_
    · obtain ⟨rfl, rfl⟩ := y
      obtain ⟨acc, e1, ⟨ws, rfl, e2, e4⟩, e5, k5, hs5⟩ := h1
      have ho5 := k5 _ _ h4.ords (by simpa using h.ne_os)
      refine ⟨rfl, yes ⟨_, rfl, _, rfl, _, rfl, oa, _, rfl, .inl (SqL.of ho5), s, ps.length, by simp, hs5, hpos, by omega, fun j H7 hj k7 hs7 => ?_⟩⟩
      have hD4 : H7 D = some (.lst (refs ws)) := k7 _ _ e5 (by simpa using (hs4.ne hD).symm)
      have ho7 := k7 _ _ ho5 (by simpa using h.ne_os)
      refine ⟨oa, _, _, .ref ps[j].1, rfl, rfl, SqL.of ho7, atI_nat ?_, LcP.add hD (by rw [sizeLine_eq]; omega) e1 hD4 (k5.trans k7) (hs7.set (hs4.ne hD)) ⟨ws ++ [ps[j]], ?_, fun q hq => ?_, by simp [e4]⟩⟩
      · rw [List.getElem?_map, List.getElem?_eq_getElem hj] <;> rfl
      · show refs ws ++ refs [ps[j]] = _
        exact (List.map_append ..).symm
      · rcases List.mem_append.mp hq with h | h
        · exact e2 q h
        · rw [List.mem_singleton.mp h]
          exact List.getElem_mem hj
    obtain ⟨acc, _, ⟨ws, rfl, hws, hwl⟩, e5, k5, hs5⟩ := h1
    have hwl : ws.length = 1 + kr := by omega
    have nD := (hs4.ne hD).symm
    have dD : dn ≠ D := ne_of_none (k4 _ _ e3 (fun z => dnS (by simp at z; simp [z]))) hD
    have k45 := k4.trans k5
    have e3b := k45 _ _ e3 (fun z => dnS (by simp at z; simp [z]))
    have h5 := h3.drw k45 hs5
    have kt5 : Kp [s] H H5 := k3.kp.trans k45
    have rwS : D ∉ [p, d, s] := fun z => by
      have k03 : Kp [s] H H4 := k3.kp.trans k4
      rcases List.mem_cons.mp z with z | z
      · exact ne_of_none (k03 _ _ h.rcd.at_ (by simpa using h.ne_ps)) hD z.symm
      · rcases List.mem_cons.mp z with z | z
        · exact ne_of_none (k03 _ _ h.rcd.dn (by simpa using h.ne_ds)) hD z.symm
        · exact nD (List.mem_singleton.mp z)
    have rwN : ∀ b o, H b = some o → b ≠ s → b ≠ D := fun b o e n => ne_of_none ((k3.kp.trans k4) _ _ e (by simpa using n)) hD
    -- the kind, the place, what is seen
    refine ⟨_, rfl, s, 3, rfl, hs5, by decide, by decide, fun kd H6 hkd k6 hs6 => ?_⟩
    have h6 := h5.drw k6 hs6
    refine ⟨_, rfl, _, rfl, D, _, rfl, .inl (SqL.of (k6 _ _ e5 (by simpa using nD))), s, ws.length, by simp, hs6, by omega, by omega, fun ka H7 hka k7 hs7 => ?_⟩
    have h7 := h6.drw k7 hs7
    refine ⟨_, _, rfl, rfl, by show 0 ≤ sizeLine; omega, fun sa hsa => ⟨_, _, _, rfl, ?_⟩⟩
    rw [show (fun (i j : Int) => V.int (i + j)) 1 (ka : Int) = V.int ((ka + 1 : Nat) : Int) from congrArg V.int (by omega)]
    have k8 := Ext.new (o := .lst []) hsa
    have h8 := h7.ext k8
    have k68 := (k6.trans k7).trans k8.kp
    have e8 := k68 _ _ e5 (by simpa using nD)
    have e3c := k68 _ _ e3b (fun z => dnS (by simp at z; simp [z]))
    have kt8 := kt5.trans k68
    have saN : ∀ b o, H b = some o → b ≠ s → b ≠ sa := fun b o e n => ne_of_none ((kt5.trans (k6.trans k7)) _ _ e (by simpa using n)) hsa
    have esa : upd H7 sa (.lst []) sa = some (.lst []) := upd_same
    have snS : sa ∉ [p, d] := fun z => by
      rcases List.mem_cons.mp z with z | z
      · exact ne_of_none h7.rcd.at_ hsa z.symm
      · exact ne_of_none h7.rcd.dn hsa (List.mem_singleton.mp z).symm
    have sas : sa ≠ s := (h7.src.ne hsa).symm
    have saD : D ≠ sa := ne_of_none ((k6.trans k7) _ _ e5 (by simpa using nD)) hsa
    have sadn : dn ≠ sa := ne_of_none ((k6.trans k7) _ _ e3b (fun z => dnS (by simp at z; simp [z]))) hsa
    generalize upd H7 sa (.lst []) = H8 at k8 h8 k68 e8 e3c kt8 esa ⊢
    clear k8 hsa k6 k7 h6 h7 hs6 hs7 e3b h5 hs5 kt5 k45 k5 e5 k4 hs4 h4 hD
    -- the odd one
    refine ⟨_, rfl, la, _, 0, _, rfl, rfl, SqL.of h8.land.at_, atI0, by show 2 ≤ sizeLine; decide, fun o1 ho1 => ?_⟩
    refine ⟨by show 2 ≤ sizeLine; decide, fun o2 ho2 => ⟨by show 2 ≤ sizeLine; decide, fun o3 ho3 => ⟨by show 4 ≤ sizeLine; decide, fun ol hol => ?_⟩⟩⟩
    have m1 := Ext.new (o := .tup [.int (r.n : Int), .str "left"]) ho1
    have m2 := Ext.new (o := .tup [.int 0, .str "up"]) ho2
    have m3 := Ext.new (o := .lst [.int 0, .str "left"]) ho3
    have m4 := Ext.new (o := .lst [.ref o1, .ref o2, .non, .ref o3]) hol
    have m0 := ((m1.trans' m2).trans' m3).trans' m4
    have h9 := h8.ext m0
    have old : ∀ {v : Addr} {G : Hp}, Ext H8 G → G v = none → v ∉ [p, d, sa] ∧ v ≠ s := fun {v G} e z => by
      refine ⟨fun y => ?_, ?_⟩
      · rcases List.mem_cons.mp y with y | y
        · exact ne_of_none (e.at h8.rcd.at_) z y.symm
        · rcases List.mem_cons.mp y with y | y
          · exact ne_of_none (e.at h8.rcd.dn) z y.symm
          · exact ne_of_none (e.at esa) z (List.mem_singleton.mp y).symm
      · exact ((h8.src.ext e).ne z).symm
    have q1 := old Ext.refl ho1
    have q2 := old m1 ho2
    have q3 := old (m1.trans' m2) ho3
    have q4 := old ((m1.trans' m2).trans' m3) hol
    refine ⟨_, rfl, s, 4, rfl, h9.src, by decide, by decide, fun ko H9 hko k9 hs9 => ?_⟩
    have h9 := h9.drw k9 hs9
    obtain ⟨x, ex, hodd, hx, hxs⟩ : ∃ x, atI [V.ref o1, .ref o2, .non, .ref o3] (ko : Int) = some x ∧ OddAt H9 r.n ko x ∧ (∀ v, x = .ref v → v ∉ [p, d, sa]) ∧ (∀ v, x = .ref v → v ≠ s) := by
      match ko, hko with
      | 0, _ => exact ⟨_, atI_nat rfl, ⟨o1, rfl, k9 _ _ (((m2.trans' m3).trans' m4).at upd_same) (by simpa using q1.2)⟩, fun v e => by cases e; exact q1.1, fun v e => by cases e; exact q1.2⟩
      | 1, _ => exact ⟨_, atI_nat rfl, ⟨o2, rfl, k9 _ _ ((m3.trans' m4).at upd_same) (by simpa using q2.2)⟩, fun v e => by cases e; exact q2.1, fun v e => by cases e; exact q2.2⟩
      | 2, _ => exact ⟨.non, atI_nat rfl, rfl, fun v e => (by cases e), fun v e => (by cases e)⟩
      | 3, _ => exact ⟨_, atI_nat rfl, ⟨o3, rfl, k9 _ _ (m4.at upd_same) (by simpa using q3.2)⟩, fun v e => by cases e; exact q3.1, fun v e => by cases e; exact q3.2⟩
    refine ⟨ol, _, _, x, rfl, rfl, SqL.of (k9 _ _ upd_same (by simpa using q4.2)), ex, ?_⟩
    have k89 := m0.kp.trans k9
    have e9 := k89 _ _ e8 (by simpa using nD)
    have e3d := k89 _ _ e3c (fun z => dnS (by simp at z; simp [z]))
    have esa9 := k89 _ _ esa (by simpa using sas)
    have kt9 := kt8.trans k89
    clear q1 q2 q3 q4 old m0 m1 m2 m3 m4 ho1 ho2 ho3 hol k89 k9 ex e8 e3c esa h8 kt8
    -- what is given
    refine given_te (K := K) (D := D) (row := ws) rfl rfl rfl rfl e9 hka (by omega) fun gv HA kA hgv => ?_
    have hA := h9.ext kA
    have eA := kA.at e9
    have e3e := kA.at e3d
    have esaA := kA.at esa9
    have ktA := kt9.trans kA.kp
    have hoddA : OddAt HA r.n ko x := hodd.kp kA (by simp)
    clear kA e9 e3d esa9 kt9 hodd h9
    -- what is due
    refine ⟨_, rfl, odd_repr hn hoddA ⟨_, _, rfl, rfl, by have := odd_len (k := ko) hn; show 12 + _ ≤ _; rw [sizeLine_eq]; omega, by show 3 ≤ sizeLine; decide, fun du hdu => ?_⟩⟩
    have kB := Ext.new (o := .lst [.str (("instruction " : Str) ++ (oddD r.n ko).shown), .str "line stop", .str "key"]) hdu
    have hB := hA.ext kB
    have eB := kB.at eA
    have e3f := kB.at e3e
    have esaB := kB.at esaA
    have ktB := ktA.trans kB.kp
    have hoddB : OddAt _ r.n ko x := hoddA.kp kB (by simp)
    have hka' : ka < ws.length := hka
    obtain ⟨z, m, ps', rest, Rs, ez, em, egv, hsub, hmm, hends, hetx⟩ : ∃ (z : Str) (m : Nat) (ps' : List PI) (rest : List V) (Rs : Value → Option Addr → Hp → Prop), atI [V.str (("instruction " : Str) ++ (oddD r.n ko).shown), .str "line stop", .str "key"] (kd : Int) = some (.str z) ∧ ps'.length = m ∧ HA gv = some (.lst (refs ps' ++ rest)) ∧ (∀ q ∈ ps', q ∈ ws) ∧ (m : Int) = (ka : Int) + (if 0 < (kd : Int) then 1 else 0) ∧
        EndsBy K (upd HA du (.lst [.str (("instruction " : Str) ++ (oddD r.n ko).shown), .str "line stop", .str "key"])) [p, d, sa] r qs.length (ka + 1) kd ps' rest Rs ∧ EndTxt K (upd HA du (.lst [.str (("instruction " : Str) ++ (oddD r.n ko).shown), .str "line stop", .str "key"])) [p, d, sa] r.n Rs z := by
      match kd, hkd, hgv with
      | 0, _, hgv =>
        rcases hgv with ⟨_, hgv⟩ | ⟨y, _⟩
        · exact ⟨_, ka, ws.take ka, x :: refs (ws.drop ka), ResI K x, atI_nat rfl, by rw [List.length_take]; omega, hgv, fun q hq => List.mem_of_mem_take hq, by simp, .inl ⟨rfl, x, _, ko, rfl, hoddB, hx, rfl⟩, .inl ⟨x, ko, rfl, hoddB, hx, rfl⟩⟩
        · exact absurd rfl y
      | 1, _, hgv =>
        rcases hgv with ⟨y, _⟩ | ⟨_, hgv⟩
        · cases y
        · refine ⟨_, ka + 1, ws.take (ka + 1), refs (ws.drop (ka + 1)), ResL K, atI_nat rfl, by rw [List.length_take]; omega, ?_, fun q hq => List.mem_of_mem_take hq, by simp, .inr (.inr (.inl ⟨rfl, by rw [List.length_take]; omega, by omega, rfl⟩)), .inr (.inr (.inl ⟨rfl, rfl⟩))⟩
          rw [hgv, show refs (ws.take (ka + 1)) ++ refs (ws.drop (ka + 1)) = refs (ws.take (ka + 1) ++ ws.drop (ka + 1)) from List.map_append.symm, List.take_append_drop]
      | 2, _, hgv =>
        rcases hgv with ⟨y, _⟩ | ⟨_, hgv⟩
        · cases y
        · refine ⟨_, ka + 1, ws.take (ka + 1), refs (ws.drop (ka + 1)), ResK, atI_nat rfl, by rw [List.length_take]; omega, ?_, fun q hq => List.mem_of_mem_take hq, by simp, .inr (.inr (.inr ⟨rfl, by rw [List.length_take]; omega, by omega, rfl⟩)), .inr (.inr (.inr ⟨rfl, rfl⟩))⟩
          rw [hgv, show refs (ws.take (ka + 1)) ++ refs (ws.drop (ka + 1)) = refs (ws.take (ka + 1) ++ ws.drop (ka + 1)) from List.map_append.symm, List.take_append_drop]
    have egv := kB.at egv
    refine ⟨_, rfl, du, _, _, _, rfl, rfl, SqL.of upd_same, ez, ?_⟩
    generalize upd HA du (.lst [.str (("instruction " : Str) ++ (oddD r.n ko).shown), .str "line stop", .str "key"]) = HB at kB hB eB e3f esaB ktB hoddB hends hetx egv ⊢
    clear kB hdu hA eA e3e esaA ktA hoddA hgv ez
    have wsl : ws.length ≤ 12 := by omega
    have msl : m ≤ 12 := by split at hmm <;> omega
    have snS3 : sa ∉ [p, d] := snS
    refine ⟨_, rfl, _, rfl, _, rfl, _, rfl, _, rfl, p, ra, dx, d, gv, sa, r, c0, qs, k, ka + 1, kd, ps', rest, Rs, z, rfl, hB.rcd, egv, fun q hq => hB.insl q (hws q (hsub q hq)), fun q hq => hB.insk q (hws q (hsub q hq)), by omega, esaB, snS, hends, hetx, hB.tab, fun D0 HC kC nC rC esC tC => ?_⟩
    refine ⟨_, rfl, rfl, false, congrArg V.bl (by simp), iteF ?_⟩
    have notin : ∀ {b : Addr}, b ∉ [p, d] → b ≠ sa → b ∉ [p, d, sa] := fun {b} h1 h2 z => by
      rcases List.mem_cons.mp z with z | z
      · exact h1 (by simp [z])
      · rcases List.mem_cons.mp z with z | z
        · exact h1 (by simp [z])
        · exact h2 (List.mem_singleton.mp z)
    have m23 : ∀ {b : Addr}, b ∈ [p, d] → b ∈ [p, d, s] := fun {b} z => by
      rcases List.mem_cons.mp z with z | z
      · rw [z]; exact List.mem_cons_self
      · rw [List.mem_singleton.mp z]; exact List.mem_cons_of_mem _ List.mem_cons_self
    have las : la ≠ sa := fun z => by
      have e := hB.land.at_
      rw [z, esaB] at e
      injection e with e
      injection e with e
      cases e
    have oas : oa ≠ sa := fun z => by
      have e := hB.ords
      rw [z, esaB] at e
      injection e with e
      injection e with e
      cases hps : ps with
      | nil => exact h.pne hps
      | cons a b => rw [hps] at e; cases e
    have hC : Tf K HC s la t1 t2 t3 oa p ra dx D0 r c0 ps qs (k + 1) := hB.kpt kC (notin hB.ne_s (Ne.symm sas)) (notin hB.ne_la las) (notin hB.ne_oa oas) (hB.ntupS esaB) rC tC
    have eC : HC D = some (.lst (refs ws)) := kC _ _ eB (notin (fun z => rwS (m23 z)) saD) (by intro q z; cases z)
    have e3C : HC dn = some (.lst (refs (psD qs))) := kC _ _ e3f (notin (fun z => dnS (m23 z)) sadn) (by intro q z; cases z)
    have ktC : KpT [p, d, s] H HC := fun b o e n t => by
      have nb : b ≠ s := fun z => n (by simp [z])
      refine kC _ _ (ktB _ _ e (by simpa using nb)) (notin (fun z => n ?_) (saN _ _ e nb)) t
      rcases List.mem_cons.mp z with z | z
      · simp [z]
      · simp [List.mem_singleton.mp z]
    have nH : NewN H D0 := fun b o e t => by
      by_cases nb : b = s
      · obtain ⟨_, _, _, hh, _⟩ := hB.src
        rw [nb]
        exact nC _ _ hh (by intro q z; cases z)
      · exact nC _ _ (ktB _ _ e (by simpa using nb)) t
    have nDD : D ≠ D0 := nC _ _ eB (by intro q z; cases z)
    have ndD : dn ≠ D0 := nC _ _ e3f (by intro q z; cases z)
    have npD : D ≠ p := fun z => rwS (by simp [z])
    have npd : dn ≠ p := fun z => dnS (by simp [z])
    clear esaB hB kC nC ktB hends hetx egv hoddB eB e3f tC rC las oas saN hx hxs rwS dnS nN rwN
    -- the state as it was, what was seen, the calls
    refine ⟨_, rfl, p, ra, dx, D0, r, c0, qs, k + 1, rfl, hC.rcd, fun HD kD => ⟨_, rfl, rfl, false, congrArg V.bl (by simp), iteF ?_⟩⟩
    have hD' := hC.ext kD
    have eD := kD.at eC
    have e3D := kD.at e3C
    have esD := kD.at esC
    have lpsD : (refs (psD qs)).length = qs.length := by simp
    refine ⟨_, rfl, _, rfl, dn, _, rfl, .inl (SqL.of e3D), _, _, rfl, rfl, _, rfl, dn, _, rfl, .inl (SqL.of e3D), _, rfl, _, _, rfl, rfl, _, rfl, _, _, rfl, rfl, .inr ⟨_, rfl, _, _, rfl, rfl, _, _, rfl, rfl, ?_, fun rg hrg => ?_⟩⟩
    · rw [lpsD]
      exact RgOk.of_le (by omega) (by split <;> omega) (by omega) (by split <;> omega)
    have kR := kD.newer (o := .lst (rgV (((refs (psD qs)).length : Int) + 1) (((refs (psD qs)).length : Int) + ((ka + 1 : Nat) : Int) + (if decide (0 < (kd : Int)) = true then 1 else 0)))) hrg
    have lseen : ps'.length = m := em
    refine ne_numsL (l := (List.range m).map fun i => qs.length + 1 + i) ?_ ?_ ⟨false, rfl, iteF ?_⟩
    · rw [← seenL_eq, ← lseen]
      exact kR.at esC
    · rw [← seenL_eq, upd_same, lpsD]
      refine congrArg (fun z => some (HO.lst z)) (rgV_eq (by omega) ?_)
      split at hmm <;> split <;> simp_all <;> omega
    have hE := hC.ext kR
    have eE := kR.at eC
    have e3E := kR.at e3C
    refine ⟨_, rfl, p, _, _, _, _, rfl, hE.rcd.at_, T.cl_Recorder, T.n_Recorder_runs, rfl, _, rfl, _, _, rfl, rfl, rfl, false, congrArg V.bl ?_, iteF ?_⟩
    · rw [decide_eq_true (show V.int ((k + 1 : Nat) : Int) = V.int ((k : Int) + 1) from congrArg V.int (by omega))]
      rfl
    refine turn_b T hE eE e3E hws wsl hq12 (fun z => ?_) (fun z => ?_) fun H' kk rr tt => ?_
    · rcases List.mem_cons.mp z with z | z
      · exact npD z
      · exact nDD (List.mem_singleton.mp z)
    · rcases List.mem_cons.mp z with z | z
      · exact npd z
      · exact ndD (List.mem_singleton.mp z)
    refine q D0 H' (fun b o e n t => ?_) nH (hE.kpt (KpT.of kk) hE.ne_s hE.ne_la hE.ne_oa hE.rcd.notup rr tt)
    refine kk _ _ (kR.at (ktC _ _ e n t)) fun z => ?_
    rcases List.mem_cons.mp z with z | z
    · exact n (by rw [z]; exact List.mem_cons_self)
    · exact nH _ _ e t (List.mem_singleton.mp z)
  · obtain ⟨a, b, c, d, e, f, rfl⟩ := len6 hl
    rfl
end
end K71
set_option maxRecDepth 100000
set_option maxHeartbeats 8000000
/-! Walks 32: _law_limit_right. -/
namespace K71
open PySem PySem.Spec PyProof.Rows L2 SX LamX NdefX
theorem sc_Llimit_right : FnScope ["_law_source_here", "_law_land_here", "_law_circle_here", "_law_word", "_law_orders_here", "_law_recorder", "_law_seen", "_law_done", "_law_turn"] ["_law_source_here", "_law_land_here", "_law_circle_here", "_law_word", "_law_orders_here"] (defScope s_Llimit_right) := C8.fnScope_by (by decide +kernel)
/-- what stands before the limit is tried -/
structure Lf (K : PySem.W.Frag) (H : Hp) (s la t1 t2 t3 oa ra : Addr) (r : RD) (c0 : List Nat) (ps : List PI) : Prop where
  src : SrcAt H s
  land : LandP H la r t1 t2 t3
  ords : H oa = some (.lst (refs ps))
  insl : InsL H ps
  insk : ∀ q ∈ ps, InsOk r q.2
  pne : ps ≠ []
  ple : ps.length ≤ 24
  ring : RingAt K H ra r
  cl : c0.length = r.n
  ck : LetOk c0
  tab : TabS H (tP K) lamQ
def spLimit (K : PySem.W.Frag) : Sp := fun vs H Q _ => ∃ (s la t1 t2 t3 oa ra : Addr) (r : RD) (c0 : List Nat) (ps : List PI), vs = [.ref s, .ref la, .ref ra, wS c0, .ref oa] ∧ Lf K H s la t1 t2 t3 oa ra r c0 ps ∧ ∀ H', KpT [s] H H' → TabS H' (tP K) lamQ → Q (.bl true) H'
section
variable {P : Program} {w : World} {K : PySem.W.Frag} {mg : Str → Option Value} {base : Heap}
theorem cal_limit (T : Tx K mg) (TB : TabB base mg (cP K) (tP K)) : CalG P w K mg base 8 "_law_limit_right" (spLimit K) := by
  have G_law_state : CalG P w K mg base 6 "_law_state" (spState K) := cal_state T
  have G_law_failed : CalG P w K mg base 7 "_law_failed" (spFailed K) := cal_failed T TB
  have G_law_due : CalG P w K mg base 4 "_law_due" (spDue K) := cal_due T
  have c_law_draw : C8.Cal P w K mg base 1 "_law_draw" spDraw [] := cal_draw T
  have m_write_all : C8.Met P w K mg base 4 (ga K "Recorder") "write_all" (spWA K) [.non] := met_write_all T
  have c_Recorder : C8.Mak P w K mg base 3 "Recorder" (ga K "Recorder") (spRecInit K) [] := mak_Recorder T
  obtain ⟨fdL, FL, bL⟩ := ok_Recorder_len (P := P) (w := w) (base := base) T
  obtain ⟨fd, F⟩ := T.F_Llimit_right
  refine ⟨_, fd, ["_law_source_here", "_law_land_here", "_law_circle_here", "_law_word", "_law_orders_here"], fnG (k := 7) F sc_Llimit_right (fun vs H Q E h => ?_) (fun cdv A outer s0 H vs Q E hgu hr h => ?_), T.g_law_limit_right, F.kp, F.bindsN (fun _ _ _ _ _ _ us hl => ?_)⟩
  · obtain ⟨s, la, t1, t2, t3, oa, ra, r, c0, ps, rfl, _⟩ := h
    rfl
  · have hg := hgu
    refine ⟨_, (pss_cons (ps_par (i := 5) (j := 6) rfl sc_Llimit_right.nd rfl rfl (by decide) rfl rfl (pa_cons (C8.pe_mk c_Recorder hr (by decide) rfl (pa_cons (pv 2) (pa_cons (pv 3) pa_nil))) (pa_cons (pe_lst pa_nil) pa_nil)) (by rfl))
        (pss_cons (ps_setLc (i := 7) (own := [("_law_turn", 8)]) (te := tOp (rIxL K) (tVar 4) (tCall spDraw [] C8.E0 (tCons (tVar 0) (tCons (tCB (fun xs H Q => ∃ p ys, xs = [.ref p] ∧ (SqL K H p ys ∨ SqT K H p ys) ∧ Q (.int (ys.length : Int)) H) (tCons (tVar 4) tNil)) tNil)))) rfl sc_Llimit_right.nd rfl rfl (sw_true rfl rfl rfl (by decide +kernel)) (pi_range1 rfl T.f_range (pa_cons pe_int pa_nil)) (blkOk_by (own := [("_law_turn", 8)]) (N := ["_law_source_here", "_law_land_here", "_law_circle_here", "_law_word", "_law_orders_here", "_law_recorder", "_law_seen", "_law_done", "_law_turn"]) (sc := defScope s_Llimit_right) (by decide +kernel)) (fun _ _ _ _ _ => (pg_name (i := 8) sc_Llimit_right.nd rfl (Or.inl rfl))) (fun _ _ _ _ _ => pts_nil) (fun _ _ _ _ _ => (pe_ix ix_list (pv 4) (C8.pe_c c_law_draw hr (by decide) rfl (pa_cons (pv 0) (pa_cons (pe_callB call_len_seq rfl T.f_len (by decide +kernel) (pa_cons (pv 4) pa_nil)) pa_nil))) (fun _ _ => rfl))))
        (pss_cons (ps_expr (C8.pe_mt m_write_all hr (by decide) (pv 5) (pa_cons (pe_callTy call_tuple_of rfl T.f_tuple (by decide +kernel) (pa_cons (pv 7) pa_nil)) pa_nil)))
        (pss_cons (ps_if (PW.pt (pw_or (pt_cmpR op_ne (pe_g G_law_failed hgu hr (by decide) rfl (pa_cons (pv 5) (pa_cons (pe_op op_rep (pe_slice sl_list (pv 4) po_none (po_some pe_int)) pe_int) (pa_cons (pv 6) (pa_cons pe_int (pa_cons pe_int pa_nil)))))) pe_str (nomark _)) (pw_or1 (pt_cmpR (op_neD (u64 hr)) (pv 6) (pe_lst (pa_cons pe_int (pa_cons pe_int (pa_cons pe_int pa_nil)))) (nomark _))))) (pss_one (ps_ret pe_bl)) pss_nil)
        (pss_cons (ps_if (pt_cmpR op_ne (pe_g G_law_state hgu hr (by decide) rfl (pa_cons (pv 5) pa_nil)) (pe_g G_law_due hgu hr (by decide) rfl (pa_cons (pv 1) (pa_cons (pv 2) (pa_cons (pv 3) (pa_cons (pv 7) pa_nil))))) (nomark _)) (pss_one (ps_ret pe_bl)) pss_nil)
        (pss_cons (ps_expr (C8.pe_mt m_write_all hr (by decide) (pv 5) (pa_cons (pe_callTy call_tuple_of rfl T.f_tuple (by decide +kernel) (pa_cons (pe_op op_rep (pe_slice sl_list (pv 4) po_none (po_some pe_int)) pe_int) pa_nil)) pa_nil)))
        (pss_one (ps_ret (pe_and (pe_cmpR op_eq (pe_callB (call_lenO (C := ga K "Recorder") FL bL T.m_Recorder_len (hr.mono (by decide))) rfl T.f_len (by decide +kernel) (pa_cons (pv 5) pa_nil)) pe_int (nomark _)) (pe_one (pe_cmpR op_eq (pe_fld (pv 5) rfl) pe_int (nomark _)))))))))))), ?_⟩
    obtain ⟨s, la, t1, t2, t3, oa, ra, r, c0, ps, rfl, h, q⟩ := h
    have ok : r.Ok := by obtain ⟨_, _, _, _, z⟩ := h.ring; exact z.ok
    have hn := ok.hi
    obtain ⟨a, pt, rfl⟩ : ∃ a pt, ps = a :: pt := by
      cases ps with
      | nil => exact absurd rfl h.pne
      | cons a b => exact ⟨a, b, rfl⟩
    have hpos : 0 < (a :: pt).length := by simp
    have hp24 := h.ple
    refine ⟨_, rfl, _, rfl, fun p dx hp hdx ne => ⟨p, ra, dx, r, c0, rfl, upd_same, ?_, h.cl, h.ck, ?_, fun d H1 k1 hd rp => ⟨rfl, by show 0 ≤ sizeLine; omega, fun sa hsa => ⟨_, _, rfl, ?_⟩⟩⟩⟩
    · have kF : Ext H (upd (upd H dx (.own p)) p (.ins (ga K "Recorder") dx [])) := fun b u e _ => by
        rw [upd_ne (ne_of_none e hp), upd_ne (ne_of_none e hdx)]
        exact e
      exact h.ring.ext kF
    · intro z
      obtain ⟨_, _, _, _, hr⟩ := h.ring
      exact ne_of_none hr.at_ hp z
    have kF : Ext H (upd (upd H dx (.own p)) p (.ins (ga K "Recorder") dx [])) := fun b u e _ => by
      rw [upd_ne (ne_of_none e hp), upd_ne (ne_of_none e hdx)]
      exact e
    have kE1 : Ext H H1 := ext_of_kp hp (kF.kp.trans k1)
    have k2 := Ext.new (o := .lst []) hsa
    have kE2 := kE1.trans' k2
    have h2 : Tf K (upd H1 sa (.lst [])) s la t1 t2 t3 oa p ra dx d r c0 (a :: pt) [] 0 := ⟨h.src.ext kE2, h.land.ext kE2, kE2.at h.ords, h.insl.ext kE2, h.insk, h.pne, h.ple, rp.ext k2, tab_ext h.tab kE2⟩
    have esa : upd H1 sa (.lst []) sa = some (.lst []) := upd_same
    have snS : sa ∉ [p, d] := fun z => by
      rcases List.mem_cons.mp z with z | z
      · exact ne_of_none rp.at_ hsa z.symm
      · exact ne_of_none rp.dn hsa (List.mem_singleton.mp z).symm
    have sas : sa ≠ s := ((h.src.ext kE1).ne hsa).symm
    have nb : ∀ b o, H b = some o → b ∉ [p, d, sa] := fun b o e z => by
      rcases List.mem_cons.mp z with z | z
      · exact ne_of_none e hp z
      · rcases List.mem_cons.mp z with z | z
        · exact ne_of_none (kF.at e) hd z
        · exact ne_of_none (kE1.at e) hsa (List.mem_singleton.mp z)
    have nb2 : ∀ b o, H b = some o → b ∉ [p, d] := fun b o e z => nb b o e (by
      rcases List.mem_cons.mp z with z | z
      · rw [z]; exact List.mem_cons_self
      · rw [List.mem_singleton.mp z]; exact List.mem_cons_of_mem _ List.mem_cons_self)
    generalize upd H1 sa (.lst []) = H2 at k2 kE2 h2 esa ⊢
    clear k2 hsa kF kE1 k1 hp hdx hd rp
    -- what is done first
    refine ⟨(397 : Int), rfl, by omega, by omega, fun D hD => ?_⟩
    refine lc_it walk_range (LcP [s] (fun H => SrcAt H s) (RowR (a :: pt)) H2 D) (LcP.zero hD ⟨[], rfl, fun _ z => (nomatch z), rfl⟩ (h2.src.set (h2.src.ne hD))) (fun i H2 _ h1 => trivial) (fun i x H5 H6 hi1 h1 y => ?_) fun H5 h1 => ?_
    · obtain ⟨rfl, rfl⟩ := y
      obtain ⟨acc, e1, ⟨ws, rfl, e2, e4⟩, e5, k5, hs5⟩ := h1
      have ho5 := k5 _ _ h2.ords (by simpa using h2.ne_os)
      refine ⟨rfl, yes ⟨_, rfl, _, rfl, _, rfl, oa, _, rfl, .inl (SqL.of ho5), s, (a :: pt).length, by simp, hs5, hpos, by omega, fun j H7 hj k7 hs7 => ?_⟩⟩
      have hD4 : H7 D = some (.lst (refs ws)) := k7 _ _ e5 (by simpa using (h2.src.ne hD).symm)
      have ho7 := k7 _ _ ho5 (by simpa using h2.ne_os)
      have hi397 : i < 397 := by simpa using hi1
      refine ⟨oa, _, _, .ref (a :: pt)[j].1, rfl, rfl, SqL.of ho7, atI_nat ?_, LcP.add hD (by rw [sizeLine_eq]; omega) e1 hD4 (k5.trans k7) (hs7.set (h2.src.ne hD)) ⟨ws ++ [(a :: pt)[j]], ?_, fun q hq => ?_, by simp [e4]⟩⟩
      · rw [List.getElem?_map, List.getElem?_eq_getElem hj] <;> rfl
      · show refs ws ++ refs [(a :: pt)[j]] = _
        exact (List.map_append ..).symm
      · rcases List.mem_append.mp hq with h | h
        · exact e2 q h
        · rw [List.mem_singleton.mp h]
          exact List.getElem_mem hj
    obtain ⟨acc, _, ⟨ws, rfl, hws, hwl⟩, e5, k5, hs5⟩ := h1
    have hwl : ws.length = 397 := hwl
    have nD := (h2.src.ne hD).symm
    have h5 := h2.drw k5 hs5
    have w5 : KpT [s] H H5 := KpT.of (kE2.kp.trans k5)
    have esa5 := k5 _ _ esa (by simpa using sas)
    have DnS : D ∉ [p, d] := fun z => by
      rcases List.mem_cons.mp z with z | z
      · exact ne_of_none h2.rcd.at_ hD z.symm
      · exact ne_of_none h2.rcd.dn hD (List.mem_singleton.mp z).symm
    have Dsa : D ≠ sa := (ne_of_none esa hD).symm
    clear hD k5 h2 esa hs5
    -- written
    refine ⟨_, rfl, p, dx, _, rfl, h5.rcd.at_, rfl, _, rfl, D, _, rfl, .inl ⟨SqL.of e5, fun tr htr => ?_⟩⟩
    have k6 := Ext.new (o := .tup (refs ws)) htr
    have h6 := h5.ext k6
    refine ⟨p, ra, dx, d, tr, r, c0, [], 0, ws, rfl, h6.rcd, upd_same, fun q1 hq1 => h6.insl q1 (hws q1 hq1), fun q1 hq1 => h6.insk q1 (hws q1 hq1), by simp; omega, fun H7 qs k7 eqs r7 => ?_⟩
    have r7 : RecP K H7 p ra r c0 qs false 1 dx d := r7
    have ql : qs.length = 397 := by rw [← hwl, ← eqs]; simp
    have k67 := k6.kp.trans k7
    have h7 : Tf K H7 s la t1 t2 t3 oa p ra dx d r c0 (a :: pt) qs 1 := h5.kpt (KpT.of k67) h5.ne_s h5.ne_la h5.ne_oa h5.rcd.notup r7 (tab_kp h5.tab k67 fun b hb => by
      rcases List.mem_cons.mp hb with e | hb
      · rw [e, h5.rcd.at_]
        exact ⟨fun _ z => (by cases z), fun _ z => (by cases z)⟩
      · rw [List.mem_singleton.mp hb, h5.rcd.dn]
        exact ⟨fun _ z => (by cases z), fun _ z => (by cases z)⟩)
    have w7 : KpT [s] H H7 := fun b o e n t => k67 _ _ (w5 _ _ e n t) (nb2 _ _ e)
    have e7 := k67 _ _ e5 DnS
    have esa7 := k67 _ _ esa5 snS
    clear k67 k7 k6 h6 htr h5 e5 esa5
    -- four more
    have cut1 : cutV (refs (a :: pt)) none (some 1) = [.ref a.1] := by rw [cut_to (by decide)]; rfl
    refine ⟨_, rfl, _, rfl, _, rfl, oa, _, rfl, SqL.of h7.ords, fun g1 hg1 => ?_⟩
    rw [cut1]
    refine ⟨g1, 4, [.ref a.1], rfl, rfl, upd_same, by decide, by decide, by show 1 * 4 ≤ sizeLine; decide, fun g2 hg2 => ?_⟩
    have k8 := (Ext.new (o := .lst [.ref a.1]) hg1).newer (o := .lst (List.replicate (4 : Int).toNat [V.ref a.1]).flatten) hg2
    have h8 := h7.ext k8
    have e8 := k8.at e7
    have esa8 := k8.at esa7
    have ia := h8.insl a (by simp)
    have ka := h8.insk a (by simp)
    refine ⟨_, rfl, p, ra, dx, d, g2, sa, r, c0, qs, 1, 9, 0, [a, a, a], [.ref a.1], ResM K, "many 400", rfl, h8.rcd, upd_same, fun q hq => ?_, fun q hq => ?_, by rw [ql]; show 397 + 3 ≤ 400; decide, esa8, snS, .inr (.inl ⟨rfl, a.1, a.2, [], rfl, ia, ka, by rw [ql]; rfl, rfl⟩), .inr (.inl ⟨rfl, rfl⟩), h8.tab, fun D0 HC kC nC rC esC tC => ?_⟩
    · have : q = a := by simpa using hq
      rw [this]; exact ia
    · have : q = a := by simpa using hq
      rw [this]; exact ka
    refine ⟨rfl, false, congrArg V.bl (by simp), iteF ?_⟩
    have notin : ∀ {b : Addr}, b ∉ [p, d] → b ≠ sa → b ∉ [p, d, sa] := fun {b} h1 h2 z => by
      rcases List.mem_cons.mp z with z | z
      · exact h1 (by rw [z]; exact List.mem_cons_self)
      · rcases List.mem_cons.mp z with z | z
        · exact h1 (by rw [z]; exact List.mem_cons_of_mem _ List.mem_cons_self)
        · exact h2 (List.mem_singleton.mp z)
    have las : la ≠ sa := fun z => by
      have e := h8.land.at_
      rw [z, esa8] at e
      injection e with e
      injection e with e
      cases e
    have oas : oa ≠ sa := fun z => by
      have e := h8.ords
      rw [z, esa8] at e
      injection e with e
      injection e with e
      cases e
    have hC : Tf K HC s la t1 t2 t3 oa p ra dx D0 r c0 (a :: pt) qs 2 := h8.kpt kC (notin h8.ne_s (Ne.symm sas)) (notin h8.ne_la las) (notin h8.ne_oa oas) (h8.ntupS esa8) rC tC
    have eC : HC D = some (.lst (refs ws)) := kC _ _ e8 (notin DnS Dsa) (by intro q z; cases z)
    refine ⟨_, rfl, by show 3 ≤ sizeLine; decide, fun g3 hg3 => ?_⟩
    have k9 := Ext.new (o := .lst [.int 398, .int 399, .int 400]) hg3
    refine ne_numsL (l := [398, 399, 400]) ?_ upd_same ⟨false, rfl, iteF ?_⟩
    · refine (k9.at esC).trans ?_
      rw [ql]
      rfl
    have h9 := hC.ext k9
    have e9 := k9.at eC
    have w8 := w7.trans (KpT.of k8.kp)
    have w9 : KpT [s] H _ := fun b o e n t => k9.at (kC _ _ (w8 _ _ e n t) (nb _ _ e) t)
    have nD0 : ∀ b o, H b = some o → b ∉ [s] → (∀ q, o ≠ .tbl q) → b ≠ D0 := fun b o e n t => nC _ _ (w8 _ _ e n t) t
    clear hC eC k9 hg3 esC kC nC rC tC las oas notin ia ka esa8 e8 h8 k8 hg1 hg2 esa7 e7 h7 r7
    -- as due
    have eI : inss ws = isD qs := by
      rw [← eqs]
      show (psD qs).map (fun q : PI => q.2) = _
      rw [List.map_map]
      rfl
    refine ⟨_, rfl, p, ra, dx, D0, r, c0, qs, 2, rfl, h9.rcd, fun HE kE => ?_⟩
    have hE := h9.ext kE
    refine ⟨_, rfl, _, rfl, _, rfl, _, rfl, la, ra, D, t1, t2, t3, r, c0, ws, rfl, hE.land, hE.rcd.ring, h.cl, h.ck, kE.at e9, fun q1 hq1 => hE.insl q1 (hws q1 hq1), fun q1 hq1 => (h.insk q1 (hws q1 hq1)).1, by omega, fun HG kG => ⟨rfl, false, congrArg V.bl (by rw [eI]; simp), iteF ?_⟩⟩
    have hG := hE.ext kG
    -- the last three
    refine ⟨_, rfl, p, dx, _, rfl, hG.rcd.at_, rfl, _, rfl, _, rfl, oa, _, rfl, SqL.of hG.ords, fun g4 hg4 => ?_⟩
    rw [cut1]
    refine ⟨g4, 3, [.ref a.1], rfl, rfl, upd_same, by decide, by decide, by show 1 * 3 ≤ sizeLine; decide, fun g5 hg5 => ?_⟩
    have k8 := (Ext.new (o := .lst [.ref a.1]) hg4).newer (o := .lst (List.replicate (3 : Int).toNat [V.ref a.1]).flatten) hg5
    refine ⟨g5, _, rfl, .inl ⟨SqL.of upd_same, fun t4 ht4 => ?_⟩⟩
    have kJ := k8.newer (o := .tup (refs [a, a, a])) ht4
    have hJ := hG.ext kJ
    have ia := hJ.insl a (by simp)
    have ka := hJ.insk a (by simp)
    refine ⟨p, ra, dx, D0, t4, r, c0, qs, 2, [a, a, a], rfl, hJ.rcd, upd_same, fun q hq => ?_, fun q hq => ?_, by rw [ql]; show 397 + 3 ≤ 400; decide, fun HK qs' kK eqs' rK => ?_⟩
    · have : q = a := by simpa using hq
      rw [this]; exact ia
    · have : q = a := by simpa using hq
      rw [this]; exact ka
    have ql' : qs'.length = 3 := by
      have := congrArg List.length eqs'
      rw [List.length_map] at this
      exact this
    refine ⟨_, rfl, p, dx, _, rfl, rK.at_, p, ra, dx, D0, r, c0, qs ++ qs', false, 3, rfl, rK, (qs ++ qs').length, rfl, Nat.le_trans rK.le (by decide), rfl, true, congrArg V.bl ?_, iteT ?_⟩
    · rw [List.length_append, ql, ql']
      decide
    refine ⟨_, rfl, p, _, _, _, _, rfl, rK.at_, T.cl_Recorder, T.n_Recorder_runs, rfl, rfl, ?_⟩
    refine q HK (fun b o e n t => kK _ _ (kJ.at (kG.at (kE.at (w9 _ _ e n t)))) fun z => ?_) (tab_kp hJ.tab kK fun b hb => ?_)
    · rcases List.mem_cons.mp z with z | z
      · exact nb2 _ _ e (by rw [z]; exact List.mem_cons_self)
      · exact nD0 _ _ e n t (List.mem_singleton.mp z)
    rcases List.mem_cons.mp hb with e | hb
    · rw [e, hJ.rcd.at_]
      exact ⟨fun _ z => (by cases z), fun _ z => (by cases z)⟩
    · rw [List.mem_singleton.mp hb, hJ.rcd.dn]
      exact ⟨fun _ z => (by cases z), fun _ z => (by cases z)⟩
  · obtain ⟨a, b, c, d, e, rfl⟩ := len5 hl
    rfl
end
end K71
set_option maxRecDepth 100000
set_option maxHeartbeats 8000000
/-! Walks 33: _law_right. -/
namespace K71
open PySem PySem.Spec PyProof.Rows L2 SX LamX NdefX
theorem sc_Lright : FnScope ["_law_source_here", "_law_land_here", "_law_circle_here", "_law_word", "_law_orders_here", "_law_recorder", "_law_turn"] ["_law_source_here"] (defScope s_Lright) := C8.fnScope_by (by decide +kernel)
def spRight (K : PySem.W.Frag) : Sp := fun vs H Q _ => ∃ s : Addr, vs = [.ref s] ∧ SrcAt H s ∧ TabS H (tP K) lamQ ∧ ∀ H', KpT [s] H H' → TabS H' (tP K) lamQ → Q (.bl true) H'
section
variable {P : Program} {w : World} {K : PySem.W.Frag} {mg : Str → Option Value} {base : Heap}
theorem cal_right (T : Tx K mg) (TB : TabB base mg (cP K) (tP K)) : CalG P w K mg base 9 "_law_right" (spRight K) := by
  have G_law_turn_right : CalG P w K mg base 8 "_law_turn_right" (spTurn K) := cal_turn T TB
  have G_law_limit_right : CalG P w K mg base 8 "_law_limit_right" (spLimit K) := cal_limit T TB
  have c_law_land : C8.Cal P w K mg base 2 "_law_land" spLand [] := cal_land T
  have c_law_circle : C8.Cal P w K mg base 7 "_law_circle" (spCircle K) [] := cal_circle T
  have c_law_filled : C8.Cal P w K mg base 2 "_law_filled" spFilled [] := cal_filled T
  have c_law_orders : C8.Cal P w K mg base 1 "_law_orders" (spOrders K) [] := cal_orders T
  have c_law_some : C8.Cal P w K mg base 2 "_law_some" spSome [] := cal_some T
  have m_write_all : C8.Met P w K mg base 4 (ga K "Recorder") "write_all" (spWA K) [.non] := met_write_all T
  have c_Recorder : C8.Mak P w K mg base 3 "Recorder" (ga K "Recorder") (spRecInit K) [] := mak_Recorder T
  obtain ⟨fd, F⟩ := T.F_Lright
  refine ⟨_, fd, ["_law_source_here"], fnG (k := 8) F sc_Lright (fun vs H Q E h => ?_) (fun cdv A outer s0 H vs Q E hgu hr h => ?_), T.g_law_right, F.kp, F.bindsN (fun _ _ _ _ _ _ us hl => ?_)⟩
  · obtain ⟨s, rfl, _⟩ := h
    rfl
  · have hg := hgu
    refine ⟨_, (pss_cons (ps_set (i := 1) sc_Lright.nd rfl (Or.inl rfl) (C8.pe_c c_law_land hr (by decide) rfl (pa_cons (pv 0) (pa_cons pe_int (pa_cons pe_int pa_nil)))))
        (pss_cons (ps_par3 (i := 2) (j := 3) (l := 4) rfl sc_Lright.nd rfl rfl rfl (by decide) (by decide) (by decide) rfl rfl rfl (pa_cons (C8.pe_c c_law_circle hr (by decide) rfl (pa_cons (pv 0) (pa_cons (pv 1) pa_nil))) (pa_cons (C8.pe_c c_law_filled hr (by decide) rfl (pa_cons (pv 0) (pa_cons (pe_ix ix_list (pv 1) pe_int (fun _ _ => rfl)) pa_nil))) (pa_cons (C8.pe_c c_law_orders hr (by decide) rfl (pa_cons (pv 1) pa_nil)) pa_nil))) (by rfl))
        (pss_cons (ps_if (pt_cmpR (op_eqD (u64 hr)) (pv 4) (pe_lst pa_nil) (nomark _)) (pss_one (ps_ret pe_bl)) pss_nil)
        (pss_cons (ps_set (i := 5) sc_Lright.nd rfl (Or.inl rfl) (C8.pe_mk c_Recorder hr (by decide) rfl (pa_cons (pv 2) (pa_cons (pv 3) pa_nil))))
        (pss_cons (ps_expr (C8.pe_mt m_write_all hr (by decide) (pv 5) (pa_cons (pe_callTy call_tuple_of rfl T.f_tuple (by decide +kernel) (pa_cons (C8.pe_c c_law_some hr (by decide) rfl (pa_cons (pv 0) (pa_cons (pv 4) (pa_cons pe_int pa_nil)))) pa_nil)) pa_nil)))
        (pss_cons (ps_for PassesOwn.never rfl (pi_range1 rfl T.f_range (pa_cons pe_int pa_nil)) (pg_name (i := 6) sc_Lright.nd rfl (Or.inl rfl)) (pss_one (ps_if (pt_not (pt_val (pe_g G_law_turn_right hgu hr (by decide) rfl (pa_cons (pv 0) (pa_cons (pv 1) (pa_cons (pv 2) (pa_cons (pv 3) (pa_cons (pv 5) (pa_cons (pv 4) pa_nil))))))))) (pss_one (ps_ret pe_bl)) pss_nil)))
        (pss_one (ps_ret (pe_g G_law_limit_right hgu hr (by decide) rfl (pa_cons (pv 0) (pa_cons (pv 1) (pa_cons (pv 2) (pa_cons (pv 3) (pa_cons (pv 4) pa_nil)))))))))))))), ?_⟩
    obtain ⟨s, rfl, hs, ht, q⟩ := h
    have tb : ∀ {S : List Addr} {H H' : Hp} {s : Addr}, SrcAt H s → TabS H (tP K) lamQ → Kp [s] H H' → TabS H' (tP K) lamQ := fun {S H H' s} hs ht k => tab_kp ht k fun a ha => by
      obtain ⟨_, _, _, hh, _⟩ := hs
      rw [List.mem_singleton.mp ha]
      exact ⟨fun _ z => (by rw [hh] at z; cases z), fun _ z => (by rw [hh] at z; cases z)⟩
    refine ⟨_, rfl, s, rfl, hs, fun la t1 t2 t3 r H1 k1 hs1 ok hl => ?_⟩
    have ht1 := tb (S := []) hs ht k1
    have hn := ok.hi
    refine ⟨_, rfl, _, rfl, s, la, t1, t2, t3, r, rfl, hs1, hl, ok, fun ra H2 k2 hs2 hr2 => ?_⟩
    have ht2 := tb (S := []) hs1 ht1 k2
    have hl2 := hl.kps hs1 k2
    refine ⟨_, rfl, _, rfl, la, _, 0, _, rfl, rfl, SqL.of hl2.at_, atI0, s, r.n, rfl, hs2, hn, fun c0 H3 hc hck k3 hs3 => ?_⟩
    have ht3 := tb (S := []) hs2 ht2 k3
    have hl3 := hl2.kps hs2 k3
    have hr3 : RingAt K H3 ra r := by
      refine hr2.kpS k3 (fun z => ?_) fun a ha x z => ?_
      · obtain ⟨_, _, _, _, hh⟩ := hr2
        exact hs2.nins (K := K) hh.at_ (List.mem_singleton.mp z)
      · rw [List.mem_singleton.mp ha] at z
        exact hs2.notup z rfl
    refine ⟨_, rfl, la, t1, t2, t3, r, rfl, hl3, ok, fun oa ps H4 k4 _ ho hi hik hp24 => ⟨_, _, _, rfl, ?_⟩⟩
    have hs4 := hs3.ext k4
    have ht4 := tab_ext ht3 k4
    have hl4 := hl3.ext k4
    have hr4 := hr3.ext k4
    -- no orders at all
    refine ⟨_, rfl, by show 0 ≤ sizeLine; omega, fun e he => ?_⟩
    have k5 := Ext.new (o := .lst []) he
    refine eq_nilL (k5.at ho) (hi.ext k5) upd_same ⟨_, rfl, ?_⟩
    have hs5 := hs4.ext k5
    have ht5 := tab_ext ht4 k5
    have hl5 := hl4.ext k5
    have hr5 := hr4.ext k5
    have ho5 := k5.at ho
    have hi5 := hi.ext k5
    generalize upd H4 e (.lst []) = H5 at k5 hs5 ht5 hl5 hr5 ho5 hi5 ⊢
    have w5 : Kp [s] H H5 := (((k1.trans k2).trans k3).trans k4.kp).trans k5.kp
    clear he k5 hs4 ht4 hl4 hr4 ho hi k4 hs3 ht3 hl3 hr3 k3 k2 k1 hs2 ht2 hl2 hr2 hs1 ht1 hl
    refine ite2 (fun _ => q H5 (KpT.of w5) ht5) fun c => ?_
    have hne : ps ≠ [] := fun z => c (by rw [z]; rfl)
    -- the recorder
    refine ⟨_, rfl, _, rfl, fun p dx hp hdx ne => ⟨p, ra, dx, r, c0, rfl, upd_same, ?_, hc, hck, ?_, fun d H6 k6 hd rp => ⟨rfl, ?_⟩⟩⟩
    · have kF : Ext H5 (upd (upd H5 dx (.own p)) p (.ins (ga K "Recorder") dx [])) := fun b u e _ => by
        rw [upd_ne (ne_of_none e hp), upd_ne (ne_of_none e hdx)]
        exact e
      exact hr5.ext kF
    · intro z
      obtain ⟨_, _, _, _, hr⟩ := hr5
      exact ne_of_none hr.at_ hp z
    have kF : Ext H5 (upd (upd H5 dx (.own p)) p (.ins (ga K "Recorder") dx [])) := fun b u e _ => by
      rw [upd_ne (ne_of_none e hp), upd_ne (ne_of_none e hdx)]
      exact e
    have kE : Ext H5 H6 := ext_of_kp hp (kF.kp.trans k6)
    have h6 : Tf K H6 s la t1 t2 t3 oa p ra dx d r c0 ps [] 0 := ⟨hs5.ext kE, hl5.ext kE, kE.at ho5, hi5.ext kE, hik, hne, hp24, rp, tab_ext ht5 kE⟩
    have nb : ∀ b o, H b = some o → b ∉ [s] → b ≠ p ∧ b ≠ d := fun b o e n => ⟨ne_of_none (w5 _ _ e n) hp, ne_of_none (kF.at (w5 _ _ e n)) hd⟩
    have w6 : Kp [s] H H6 := w5.trans kE.kp
    clear kE kF hp hdx hd k6 rp hs5 ht5 hl5 hr5 ho5 hi5
    -- the first ones written
    refine ⟨_, rfl, p, dx, _, rfl, h6.rcd.at_, rfl, _, rfl, _, rfl, s, oa, ps, 12, rfl, h6.src, h6.ords, h6.insl, hne, by omega, by decide, fun sl ws H7 k7 hs7 _ e7 hws hwl => ?_⟩
    have h7 := h6.drw k7 hs7
    refine ⟨sl, _, rfl, .inl ⟨SqL.of e7, fun tr htr => ?_⟩⟩
    have k8 := Ext.new (o := .tup (refs ws)) htr
    have h8 := h7.ext k8
    refine ⟨p, ra, dx, d, tr, r, c0, [], 0, ws, rfl, h8.rcd, upd_same, fun q1 hq1 => h8.insl q1 (hws q1 hq1), fun q1 hq1 => hik q1 (hws q1 hq1), by simp; omega, fun H9 qs k9 eqs r9 => ?_⟩
    have r9 : RecP K H9 p ra r c0 qs false 1 dx d := r9
    have ql : qs.length ≤ 12 := by
      have := congrArg List.length eqs
      rw [List.length_map] at this
      omega
    have h9 : Tf K H9 s la t1 t2 t3 oa p ra dx d r c0 ps qs 1 := h8.kpt (KpT.of k9) h8.ne_s h8.ne_la h8.ne_oa h8.rcd.notup r9 (tab_kp h8.tab k9 fun b hb => by
      rcases List.mem_cons.mp hb with e | hb
      · rw [e, h8.rcd.at_]
        exact ⟨fun _ z => (by cases z), fun _ z => (by cases z)⟩
      · rw [List.mem_singleton.mp hb, h8.rcd.dn]
        exact ⟨fun _ z => (by cases z), fun _ z => (by cases z)⟩)
    have w9 : KpT [s] H H9 := fun b o e n t => k9 _ _ (k8.at (k7 _ _ (w6 _ _ e n) n)) fun z => by
      rcases List.mem_cons.mp z with z | z
      · exact (nb _ _ e n).1 z
      · exact (nb _ _ e n).2 (List.mem_singleton.mp z)
    clear k9 k8 htr h8 h7 h6 e7 k7 hs7 r9
    -- four turns
    refine ⟨(4 : Int), rfl, by decide, by decide, for_it walk_range (fun i σ H' => (∃ D0 k, Tf K H' s la t1 t2 t3 oa p ra dx D0 r c0 ps qs k ∧ KpT [s] H H' ∧ ∀ b o, H b = some o → b ∉ [s] → (∀ q, o ≠ .tbl q) → b ≠ D0) ∧ ∃ u, σ = [some (.ref s), some (.ref la), some (.ref ra), some (wS c0), some (.ref oa), some (.ref p), u]) ⟨⟨d, 1, h9, w9, fun b o e n _ => (nb _ _ e n).2⟩, _, rfl⟩ (fun i σ H' _ h1 => trivial) (fun i x σ H1 H2 hi h1 y => ?_) fun σ H1 h1 => ?_⟩
    · obtain ⟨rfl, rfl⟩ := y
      obtain ⟨⟨D0, k, hh, ww, wn⟩, u, rfl⟩ := h1
      refine ⟨_, rfl, _, rfl, _, rfl, _, rfl, _, rfl, _, rfl, s, la, t1, t2, t3, oa, p, ra, dx, D0, r, c0, ps, qs, k, rfl, hh, ql, fun D1 H' kt nt h' => ⟨true, rfl, iteF ⟨⟨D1, k + 2, h', fun b o e n t => kt _ _ (ww _ _ e n t) (fun z => ?_) t, fun b o e n t => nt _ _ (ww _ _ e n t) t⟩, _, rfl⟩⟩⟩
      rcases List.mem_cons.mp z with z | z
      · exact (nb _ _ e n).1 z
      · rcases List.mem_cons.mp z with z | z
        · exact wn _ _ e n t z
        · exact n z
    · obtain ⟨⟨D0, k, hh, ww, wn⟩, u, rfl⟩ := h1
      exact ⟨_, rfl, _, rfl, _, rfl, _, rfl, _, rfl, s, la, t1, t2, t3, oa, ra, r, c0, ps, rfl, ⟨hh.src, hh.land, hh.ords, hh.insl, hik, hne, hp24, hh.rcd.ring, hc, hck, hh.tab⟩, fun H' k' t' => q H' (ww.trans k') t'⟩
  · obtain ⟨a, rfl⟩ := len1 hl
    rfl
end
end K71
set_option maxRecDepth 100000
set_option maxHeartbeats 4000000
/-! Walks 34: law. -/
namespace K71
open PySem PySem.Spec PyProof.Rows L2 SX LamX NdefX
theorem sc_law : FnScope ["_law_script", "_law_k"] ["_law_script"] (defScope s_law) := C8.fnScope_by (by decide +kernel)
def spLaw (K : PySem.W.Frag) : Sp := fun vs H Q _ => ∃ (a : Addr) (ns : List Int), vs = [.ref a] ∧ SqL K H a (ns.map V.int) ∧ ns.length ≤ 1000 ∧ TabS H (tP K) lamQ ∧ ∀ H', Q (.bl true) H'
theorem SqL.kpT {K : PySem.W.Frag} {H H' : Hp} {S : List Addr} {a : Addr} {xs : List V} (h : SqL K H a xs) (k : KpT S H H') (n : a ∉ S) : SqL K H' a xs := by
  rcases h with h | h
  · rcases h with h | ⟨o, h⟩
    · exact .inl (.inl (k _ _ h n (by intro q z; cases z)))
    · exact .inl (.inr ⟨o, k _ _ h n (by intro q z; cases z)⟩)
  · exact .inr h
section
variable {P : Program} {w : World} {K : PySem.W.Frag} {mg : Str → Option Value} {base : Heap}
theorem ok_law (T : Tx K mg) (TB : TabB base mg (cP K) (tP K)) {fd : FuncData} (F : FunD K "law" "law" (defArgs s_law) (defBody s_law) (defScope s_law) [] [] (ga K "law") fd) : FnG P w K mg base 10 (ga K "law") fd ["_law_script"] (spLaw K) := by
  have G_law_right : CalG P w K mg base 9 "_law_right" (spRight K) := cal_right T TB
  have c_law_source : C8.Cal P w K mg base 1 "_law_source" spSource [] := cal_source T
  have c_law_cell : C8.Cal P w K mg base 1 "_law_cell" (spCellA K) [] := cal_cell T
  refine fnG (k := 9) F sc_law (fun vs H Q E h => ?_) (fun cdv A outer s0 H vs Q E hgu hr h => ?_)
  · obtain ⟨a, ns, rfl, _⟩ := h
    rfl
  · have hg := hgu
    refine ⟨_, (pss_one (ps_ret (pe_callB (cr_all rfl) rfl T.f_all (by decide +kernel) (pa_cons (pe_lc (own := [("_law_k", 1)]) (te := tCall (spRight K) [] C8.E0 (tCons (tCall spSource [] C8.E0 (tCons (tCall (spCellA K) [] C8.E0 (tCons (tVar 0) (tCons (tVar 1) tNil))) tNil)) tNil)) rfl sc_law.nd (pi_range1 rfl T.f_range (pa_cons (pe_callB (call_max2 rfl) rfl T.f_max (by decide +kernel) (pa_cons pe_int (pa_cons (pe_callB (call_min2 rfl) rfl T.f_min (by decide +kernel) (pa_cons (pe_callB call_len_seq rfl T.f_len (by decide +kernel) (pa_cons (pv 0) pa_nil)) (pa_cons pe_int pa_nil))) pa_nil))) pa_nil)) (blkOk_by (own := [("_law_k", 1)]) (N := ["_law_script", "_law_k"]) (sc := defScope s_law) (by decide +kernel)) (fun _ _ _ _ _ => (pg_name (i := 1) sc_law.nd rfl (Or.inl rfl))) (fun _ _ _ _ _ => pts_nil) (fun _ _ _ _ _ => (pe_g G_law_right hgu hr (by decide) rfl (pa_cons (C8.pe_c c_law_source hr (by decide) rfl (pa_cons (C8.pe_c c_law_cell hr (by decide) rfl (pa_cons (pv 0) (pa_cons (pv 1) pa_nil))) pa_nil)) pa_nil)))) pa_nil)))), ?_⟩
    obtain ⟨a, ns, rfl, h, hl, ht, q⟩ := h
    obtain ⟨W, w0, w1, w2, w3⟩ : ∃ W : Hp → Prop, W H ∧ (∀ H', W H' → SqL K H' a (ns.map V.int)) ∧ (∀ H1 H2, W H1 → (∀ o, H1 a = some o → (∀ q, o ≠ .tbl q) → H2 a = some o) → W H2) ∧ ∀ D, H D = none → ∀ (H1 : Hp) (l : List V), W H1 → W (upd H1 D (.lst l)) := by
      rcases h with h | h
      · rcases h with h | ⟨o, h⟩
        · exact ⟨fun H' => H' a = some (.lst (ns.map V.int)), h, fun _ e => .inl (.inl e), fun H1 H2 e k => k _ e (by intro q z; cases z), fun D hD H1 l e => (upd_ne (ne_of_none h hD)).trans e⟩
        · exact ⟨fun H' => H' a = some (.frz o (.lst (ns.map V.int))), h, fun _ e => .inl (.inr ⟨o, e⟩), fun H1 H2 e k => k _ e (by intro q z; cases z), fun D hD H1 l e => (upd_ne (ne_of_none h hD)).trans e⟩
      · exact ⟨fun _ => True, trivial, fun _ _ => .inr h, fun _ _ _ _ => trivial, fun _ _ _ _ _ => trivial⟩
    have n4 : (if (if (4 : Int) < ((ns.map V.int).length : Int) then (4 : Int) else ((ns.map V.int).length : Int)) > 2 then (if (4 : Int) < ((ns.map V.int).length : Int) then (4 : Int) else ((ns.map V.int).length : Int)) else 2) ≤ 4 ∧ 0 ≤ (if (if (4 : Int) < ((ns.map V.int).length : Int) then (4 : Int) else ((ns.map V.int).length : Int)) > 2 then (if (4 : Int) < ((ns.map V.int).length : Int) then (4 : Int) else ((ns.map V.int).length : Int)) else 2) := by
      constructor
      · split
        · split <;> omega
        · omega
      · split
        · split <;> omega
        · omega
    refine ⟨_, rfl, a, _, rfl, .inl h, _, _, rfl, _, _, rfl, ?_⟩
    generalize (if (if (4 : Int) < ((ns.map V.int).length : Int) then (4 : Int) else ((ns.map V.int).length : Int)) > 2 then (if (4 : Int) < ((ns.map V.int).length : Int) then (4 : Int) else ((ns.map V.int).length : Int)) else 2) = m at n4 ⊢
    refine ⟨m, rfl, by omega, by omega, fun D hD => ?_⟩
    refine lc_it walk_range (fun i H' => W H' ∧ TabS H' (tP K) lamQ ∧ H' D = some (.lst ((List.range i).map fun _ => V.bl true))) ⟨?_, ?_, upd_same⟩ (fun i H2 _ h1 => trivial) (fun i x H2 H3 hi1 h1 y => ?_) fun H2 h1 => ?_
    · exact w3 D hD H [] w0
    · exact tab_ext ht (Ext.new hD)
    · obtain ⟨rfl, rfl⟩ := y
      obtain ⟨e1, e2, e3⟩ := h1
      refine ⟨rfl, yes ⟨_, rfl, _, rfl, a, ns, i, congrArg (fun z => [V.ref a, V.int z]) (Int.zero_add _), w1 _ e1, by omega, fun v H4 k4 => ⟨v, rfl, fun s H5 k5 hs ss => ⟨s, rfl, ss, ?_, fun H6 k6 t6 => ⟨(List.range i).map fun _ => V.bl true, ?_, ?_, ?_, ?_, ?_⟩⟩⟩⟩⟩
      · exact tab_ext (tab_ext e2 k4) k5
      · refine k6 _ _ (k5.at (k4.at e3)) (fun z => ?_) (by intro q z; cases z)
        exact ne_of_none (k4.at e3) hs (List.mem_singleton.mp z)
      · rw [List.length_map, List.length_range, sizeLine_eq]
        omega
      · refine w3 D hD _ _ (w2 _ _ e1 fun o ho ht => k6 _ _ (k5.at (k4.at ho)) (fun z => ?_) ht)
        exact ne_of_none (k4.at ho) hs (List.mem_singleton.mp z)
      · refine tab_kp (S := [D]) t6 (Kp.set (by simp)) fun s' hs' => ?_
        have e6 : H6 D = some (.lst ((List.range i).map fun _ => V.bl true)) := by
          refine k6 _ _ (k5.at (k4.at e3)) (fun z => ?_) (by intro q z; cases z)
          exact ne_of_none (k4.at e3) hs (List.mem_singleton.mp z)
        rw [List.mem_singleton.mp hs', e6]
        exact ⟨fun _ z => (by cases z), fun _ z => (by cases z)⟩
      · rw [upd_same, List.range_succ, List.map_append]
        rfl
    · obtain ⟨e1, e2, e3⟩ := h1
      refine ⟨D, (List.range m.toNat).map fun _ => true, rfl, SqL.of (e3.trans ?_), ?_⟩
      · rw [List.map_map]
        rfl
      · have : ((List.range m.toNat).map fun _ => true).all id = true := by simp
        rw [this]
        exact q H2
end
end K71
set_option maxRecDepth 100000
set_option maxHeartbeats 4000000
/-! The end: a law that is promised where no repr is under way, with one table of code objects. -/
namespace K71
open PySem PySem.Spec PyProof.Rows L2 LamX
abbrev noTab : Obj := { cls := .none, data := .fields #[] }
section
variable {P : Program} {w : World} {K : PySem.W.Frag} {mg mb : Str → Option Value} {h : Heap} {a c T : Addr} {vs : List Value} {ns : List Int}
/-- the script (where no written part holds it) and the table: all that is tracked -/
def startH (K : PySem.W.Frag) (a T : Addr) (vs : List Value) (ns : List Int) : Hp := fun b =>
  if b = T then some (.tbl #[]) else if b = a ∧ K.lookup a = none then some (.frz { cls := .type "list", data := .seq vs.toArray } (.lst (ns.map V.int))) else none
theorem start_is (ha : h.get? a = some { cls := .type "list", data := .seq vs.toArray }) (hT : h.get? T = some noTab) (nT : K.lookup T = none) {b : Addr} {u : HO} (e : startH K a T vs ns b = some u) :
    K.lookup b = none ∧ (b = T ∧ h.get? b = some noTab ∧ u = .tbl #[] ∨ b = a ∧ h.get? b = some { cls := .type "list", data := .seq vs.toArray } ∧ u = .frz { cls := .type "list", data := .seq vs.toArray } (.lst (ns.map V.int))) := by
  unfold startH at e
  by_cases c1 : b = T
  · rw [if_pos c1] at e
    rw [c1]
    exact ⟨nT, .inl ⟨rfl, hT, (Option.some.inj e).symm⟩⟩
  · rw [if_neg c1] at e
    by_cases c2 : b = a ∧ K.lookup a = none
    · rw [if_pos c2] at e
      rw [c2.1]
      exact ⟨c2.2, .inr ⟨rfl, ha, (Option.some.inj e).symm⟩⟩
    · rw [if_neg c2] at e
      cases e
/-- what is neither a list of values nor an empty table is not tracked -/
theorem start_off (ha : h.get? a = some { cls := .type "list", data := .seq vs.toArray }) (hT : h.get? T = some noTab) (nT : K.lookup T = none) {b : Addr} {o : Obj} (e : h.get? b = some o) (n1 : (∃ es ep, o.data = .dict es ep) ∨ o.data = .plain) : startH K a T vs ns b = none := by
  cases q : startH K a T vs ns b with
  | none => rfl
  | some u =>
    exfalso
    obtain ⟨_, ⟨_, g, _⟩ | ⟨_, g, _⟩⟩ := start_is (ns := ns) ha hT nT q
    · rw [e] at g
      injection g with g
      subst g
      rcases n1 with ⟨es, ep, z⟩ | z <;> cases z
    · rw [e] at g
      injection g with g
      subst g
      rcases n1 with ⟨es, ep, z⟩ | z <;> cases z
end
end K71
set_option maxRecDepth 100000
set_option maxHeartbeats 4000000
/-! The end: the call of such a law. -/
namespace K71
open PySem PySem.Spec PyProof.Rows L2 LamX NdefX
theorem law_callG {P : Program} {w : World} {K : PySem.W.Frag} {mg mb : Str → Option Value} {k : Nat} {fa a c T : Addr} {fd : FuncData} {x : Str} {sp : Sp} {s : Shared} {vs : List Value} {ns : List Int}
    (KX : K.In s.heap) (hns : s.heap.Ns mainGlobals mg) (hb : s.heap.Ns builtinsNs mb) (hbb : ∀ x : Str, x ≠ "__name__" → mb x = bootBuiltins x) (hlim : s.heap.NoLimit) (hg : s.gens = #[])
    (hT : s.heap.get? T = some noTab) (nT : K.lookup T = none) (hC : PySem.W.codeHdIn K c T = true)
    (hbm : ∃ (bm : Addr) (ob : Obj), mg "__builtins__" = some (.ref bm) ∧ bm ≠ builtinsNs ∧ s.heap.get? bm = some ob ∧ ob.cls = .type "module" ∧ ob.dict = some builtinsNs ∧ ob.data = .plain)
    (ha : s.heap.get? a = some { cls := .type "list", data := .seq vs.toArray }) (hi : IntsAre vs ns) (hl : ns.length ≤ sizeLine) (hr : Room k callerA) (hgu : callerA.guards = some [])
    (F : ∀ base : Heap, K.In base → base.Ns mainGlobals mg → TabB base mg c T → FnG P w K mg base k fa fd [x] sp) (hbind : ∀ (s : Shared) (u : Value), K.In s.heap → BindsTo s fd ⟨[u], []⟩ [(x, u)])
    (hsp : ∀ H : Hp, H T = some (.tbl #[]) → SqL K H a (ns.map V.int) → sp [.ref a] H (fun v _ => v = .bl true) fun _ _ _ => False) :
    codeAny (model P w) callerA (.call (.ref fa) ⟨[.ref a], []⟩) (fun r s' => r = .ok (.ret (.bool true)) ∧ OldK s.heap s'.heap ∧ s'.os = s.os ∧ AllBare s'.gens) s := by
  have rv := vals_ints hi
  have lenV := hi.length
  have aT : a ≠ T := fun z => by
    rw [z, hT] at ha
    injection ha with ha
    cases ha
  let H : Hp := startH K a T vs ns
  have is {b : Addr} {u : HO} (e : H b = some u) := start_is (ns := ns) ha hT nT e
  have hHT : H T = some (.tbl #[]) := if_pos rfl
  have off {b : Addr} {o : Obj} (e : s.heap.get? b = some o) (n1 : (∃ es ep, o.data = .dict es ep) ∨ o.data = .plain) : (hidT s.heap H).get? b = some o := hidT_get e (start_off ha hT nT e n1)
  -- the base: what is not tracked
  have hKb : K.In (hidT s.heap H) := fun b o e => hidT_get (KX b o e) (by
    cases q : H b with
    | none => rfl
    | some u => rw [(is q).1] at e; cases e)
  have nsK : ∀ {b : Addr} {m : Str → Option Value}, s.heap.Ns b m → (hidT s.heap H).Ns b m := fun {b m} ⟨o, es, ep, e, d, r⟩ => ⟨o, es, ep, off e (.inl ⟨es, ep, d⟩), d, r⟩
  have hS : SqL K H a (ns.map V.int) := by
    cases q : K.lookup a with
    | none => exact .inl (.inr ⟨{ cls := .type "list", data := .seq vs.toArray }, (if_neg aT).trans (if_pos ⟨rfl, q⟩)⟩)
    | some o =>
      have e := KX a o q
      rw [ha] at e
      cases e
      exact .inr ⟨_, vs.toArray, _, q, rfl, rfl, rfl, by rw [List.size_toArray, lenV]; exact hl, by simpa using rv⟩
  have hok : HOk P w H s.heap := fun b u e => by
    obtain ⟨_, ⟨_, g, rfl⟩ | ⟨_, g, rfl⟩⟩ := is e
    · exact g
    · exact ⟨g, by rw [List.length_map]; exact hl, vs, _, rv, g⟩
  have gT : mainGlobals ≠ T := fun z => by
    obtain ⟨o, es, ep, e, d, _⟩ := hns
    rw [z, hT] at e
    injection e with e
    subst e
    cases d
  have TB : TabB (hidT s.heap H) mg c T := by
    obtain ⟨bm, ob, b1, b2, b3, b4, b5, b6⟩ := hbm
    refine ⟨PySem.W.codeHd_of_K hKb hC, ⟨bm, ob, b1, b2, fun z => ?_, fun z => ?_, off b3 (.inr b6), b4, b5, b6⟩, gT⟩
    · obtain ⟨o, es, ep, e, d, _⟩ := hns
      rw [z, e] at b3
      injection b3 with b3
      subst b3
      rw [d] at b6
      cases b6
    · rw [z, hT] at b3
      injection b3 with b3
      subst b3
      cases b6
  have e0 : Env0 P w K mg (hidT s.heap H) callerA [] s H := ⟨rfl, ⟨hKb, nsK hns, ⟨mb, nsK hb, hbb⟩, let ⟨mc, h1, h2⟩ := hlim; ⟨mc, nsK h1, h2⟩⟩, fun b o e => of_hidT e, Nat.le_of_eq (hidT_size _ _), trivial, fun b hb => absurd (show b ∈ ([] : List Addr) from hb) (by simp), hok, .of_eq hg⟩
  refine codeAny_mono ((F _ hKb (nsK hns) TB).run callerA [] s H ⟨[.ref a], []⟩ [.ref a] [.ref a] _ _ hgu hr e0 (hbind s (.ref a) KX) (.cons rfl .nil) (hsp H hHT hS)) fun r s' h => ?_
  cases r with
  | error e => exact False.elim h
  | ok fl =>
    cases fl with
    | next => exact False.elim h
    | brk => exact False.elim h
    | cont => exact False.elim h
    | ret u =>
      obtain ⟨v, H', os, bare, un, hok', r', q⟩ := h
      have q' : v = .bl true := q
      subst q'
      obtain rfl : u = Value.bool true := r'
      have key : ∀ b o, b ≠ T → s.heap.get? b = some o → s'.heap.get? b = some o := fun b o nb e => by
        cases q : H b with
        | none => exact un.keep b o e q (by intro z; cases z) (by simp)
        | some u =>
          obtain ⟨_, ⟨z, _, _⟩ | ⟨_, g, rfl⟩⟩ := is q
          · exact absurd z nb
          · obtain ⟨e2, _⟩ := hok' b _ (un.frzs b _ _ q)
            rw [e] at g
            injection g with g
            rw [g]
            exact e2
      obtain ⟨more, hm⟩ := un.tbls T #[] hHT
      have hm2 : s'.heap.get? T = some { cls := .none, data := .fields (#[] ++ more) } := hok' T _ hm
      refine ⟨rfl, ⟨fun b o e => ?_, fun b o e => ?_⟩, os, bare⟩
      · by_cases z : b = T
        · subst z
          rw [hT] at e
          injection e with e
          subst e
          exact .inr (.inl ⟨((PySem.W.codeHd_of_K KX hC).tab hT).isCodeTable, rfl, #[], more, rfl, hm2⟩)
        · exact .inl (key b o z e)
      · by_cases z : b = T
        · exact ⟨_, by rw [z]; exact hm2⟩
        · exact ⟨o, key b o z e⟩
end K71
set_option maxRecDepth 100000
set_option maxHeartbeats 0
namespace K71h
open PySem PySem.Spec PyProof.Rows L2 K71

def names : List PySem.Str := (["_wall", "InputError", "InvalidSize", "InvalidLocks", "InvalidWalls", "InvalidPrices", "InvalidRing", "InvalidInstruction", "InvalidContent", "InvalidSteps", "InvalidText", "InvalidLine", "SituationError", "NothingToUndo", "LimitError"] : List PySem.Str) ++ ((["TooMany", "MAX_SIZE", "MAX_PRICE", "MAX_RECORDS", "is_integer", "is_ascending", "first_wrong", "MIN_SIZE", "LEFT", "RIGHT", "LETTERS", "Ring", "checked_prices", "check_ring", "identity_of"] : List PySem.Str) ++ ((["is_content", "check_content", "is_pair", "after", "joined", "powered", "effect_of", "letters_of", "Recorder", "DIGITS", "MAX_DIGITS", "read_number", "numbers_of", "read_ring", "parse_ring"] : List PySem.Str) ++ ((["_law_cell", "_law_source", "_law_draw", "_law_land", "_law_circle", "_law_orders", "_law_copied", "_law_filled", "_law_some", "_law_state", "_law_due", "_law_watch", "_law_failed", "_law_turn_right", "_law_limit_right"] : List PySem.Str) ++ ((["_law_right"] : List PySem.Str)))))
def tf : List He.Defn := [("_law_failed", none)]
abbrev R : PySem.W.OpenRow := PySem.W.OpenLaw.row PySem.Challenge.rw_copyring_k71_whole_all_or_none
abbrev hk : PySem.W.Hook := He.hookX 5 fa fn [] tf ex
def ob (s : PySem.W.SharedT) : He.AlX := He.obsX 5 fa fn [] tf ex (HandSHeadRun.getT s)
theorem ob_eq (s : PySem.W.SharedT) : ob s = hk.obs s.abs := He.obsX_eq (HandSHeadRun.getT_eq s)
theorem run (w : World) : HandSHeadRun.RunEq R (PySem.W.view R.prog [69]) hk ob 6000 names w := by
  intro os
  kernel_rfl
end K71h
set_option maxRecDepth 100000
set_option maxHeartbeats 0
/-! The end, joined. -/
namespace K71
open PySem PySem.Spec PyProof.Rows L2 LamX
theorem walk_ofG {l : PySem.W.OpenLaw} {n k : Nat} {q : Program} {loose : List Str} {XP : (Str → Option Value) → Heap → Prop} {YP : World → Heap → Prop} {d : DefRec} {x : Str}
    (hn : l.most = some n) (hn2 : n ≤ sizeLine) (hdf : d.params.defaults = []) (hr : Room k callerA) (hgu : callerA.guards = some [])
    (F : ∀ (w : World) (mg : Str → Option Value) (fa : Addr) (h : Heap), YP w h → h.Ns mainGlobals mg → mg d.name = some (.ref fa) → ∃ (K : PySem.W.Frag) (fd : FuncData) (c T : Addr) (sp : Sp), K.In h ∧ h.get? T = some noTab ∧ K.lookup T = none ∧ PySem.W.codeHdIn K c T = true ∧
      (∀ (s : Shared) (u : Value), K.In s.heap → BindsTo s fd ⟨[u], []⟩ [(x, u)]) ∧
      (∀ (H : Hp) (a : Addr) (ns : List Int), ns.length ≤ n → H T = some (.tbl #[]) → SqL K H a (ns.map V.int) → sp [.ref a] H (fun v _ => v = .bl true) fun _ _ _ => False) ∧
      ∀ base : Heap, K.In base → base.Ns mainGlobals mg → TabB base mg c T → FnG l.prog w K mg base k fa fd [x] sp) :
    PySem.W.WalkO q loose XP YP l.row.toRowW d [] (fun f vs => PySem.call f vs) := by
  refine Att.attach_callB hn hdf fun w s₀ s₁ mg mb fa o pm cd doc a vs ns G Y ho hd hcd hmg hobj hints hlen hbits hg => ?_
  obtain ⟨K, fd, c, T, sp, KX, hT, nT, hC, hb, hsp, hF⟩ := F w mg fa _ Y G.T.g hmg
  exact law_callG KX G.T.g G.T.b G.T.builtins G.T.nolimit hg hT nT hC G.T.bmain hobj hints (Nat.le_trans hlen hn2) hr hgu hF hb fun H hH hS => hsp H a ns hlen hH hS
end K71
open PySem PySem.W PySem.Calls PyProof.Rows
theorem PySem.Challenge.cw_copyring_k71_whole_all_or_none_holds : PySem.Challenge.rw_copyring_k71_whole_all_or_none.Holds := by
  w_on; o_law
  refine HandSHeadRun.head_any (r := OpenLaw.row PySem.Challenge.rw_copyring_k71_whole_all_or_none) (q := view (OpenLaw.row PySem.Challenge.rw_copyring_k71_whole_all_or_none).prog [69]) (H := K71h.hk) (ob := K71h.ob) (M := 6000) (loose := K71h.names) (d := HandSHeadRun.topDef (OpenLaw.row PySem.Challenge.rw_copyring_k71_whole_all_or_none).prog 69) (kwd := []) K71h.ob_eq
    (by kernel_rfl) (fun s => by kernel_rfl) K71h.run (by kernel_rfl) (by kernel_rfl) (by kernel_rfl) (by rfl) (by first | assumption | decide +kernel) (by decide +kernel) ⟨rfl, rfl, rfl, rfl, rfl, by decide +kernel⟩ ?hw ?hc
  case hw => w_witness2
  case hc =>
    refine K71.walk_ofG (l := PySem.Challenge.rw_copyring_k71_whole_all_or_none) (n := 63) (k := 10) (x := "_law_script") rfl (by decide) (by kernel_rfl) ⟨rfl, by decide, by decide⟩ rfl ?F
    intro w mg fa h Y G hmg0
    obtain ⟨K, KX, c⟩ := Y
    have hmg : mg ("law" : PySem.Str) = some (.ref fa) := by
      have e : (HandSHeadRun.topDef (OpenLaw.row PySem.Challenge.rw_copyring_k71_whole_all_or_none).prog 69).name = ("law" : PySem.Str) := by kernel_rfl
      rw [← e]
      exact hmg0
    have T : K71.Tx K mg := ⟨c.t.d, ⟨h, KX, G⟩, c.more⟩
    have ht : (("_law_failed", none) : He.Defn) ∈ K71h.tf := List.mem_singleton.mpr rfl
    obtain ⟨fdl, Fl⟩ := T.F_law
    have efa : fa = K71.ga K "law" := by
      have e := hmg.symm.trans T.g_law
      cases e
      rfl
    subst efa
    refine ⟨K, fdl, K71.cP K, K71.tP K, K71.spLaw K, KX, c.empty _ ht, c.out _ ht, c.hd _ ht, ?_, fun H a ns hl hH hS => ⟨a, ns, rfl, hS, by omega, LamX.TabS.nil hH, fun _ => rfl⟩, fun base _ _ TB => ?_⟩
    · exact fun s u X => (Fl.bindsN (ps := ["_law_script"]) fun _ _ _ _ _ _ us hl => match us, hl with | [_], _ => rfl) s [u] X rfl
    · exact K71.ok_law (P := (PySem.Challenge.rw_copyring_k71_whole_all_or_none).prog) (w := w) (base := base) T TB Fl
