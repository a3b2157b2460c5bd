import PyProof.Rows.All
import Wide.All
import OpenK.AllK
import Wide.FinOn
import HandS.ForMost
import HandS.Defaults
import HandS.HeadHook1
import HandS.HeadHook2
import KE.KStateDown
import Lean
import HandS.Head0
import HandS.Head1
import HandS.Head2
import HandS.HeadEnd
import HandS.Walk
import HandS.Flow
import HandS.TupAny
import HandS.DictComp
import HandS.Deep
import HandS.IsInst
import HandS.CallLocal
import HandS.TupMul
import HandS.TupLen
import HandS.NoneIn
import HandS.Exc
import HandS.Wide
import HandS.WordsDict
import KE.SortData
import PySem.Challenge.RW_rightskept_k80_whole_no_breach
set_option Elab.async false
set_option linter.all false
set_option maxRecDepth 100000
set_option maxHeartbeats 4000000
/-! the text by places; each def a datum; the facts that the head is to tell -/
namespace Rk
open PySem PySem.Spec PyProof.Rows L2
def top (i : Nat) : Stmt := PySem.Challenge.pw_rightskept_k80_whole_no_breach.main.body.getD i (.Pass ⟨0, 0, 0, 0⟩)
abbrev sIsNumber : Stmt := top 8
def dsIsNumber : He.DefD := ⟨("is_number", none), "is_number", "is_number", defArgs sIsNumber, defBody sIsNumber, defScope sIsNumber, [], []⟩
abbrev sIsName : Stmt := top 9
def dsIsName : He.DefD := ⟨("is_name", none), "is_name", "is_name", defArgs sIsName, defBody sIsName, defScope sIsName, [], []⟩
abbrev sIsPlace : Stmt := top 10
def dsIsPlace : He.DefD := ⟨("is_place", none), "is_place", "is_place", defArgs sIsPlace, defBody sIsPlace, defScope sIsPlace, [], []⟩
abbrev sIsSource : Stmt := top 11
def dsIsSource : He.DefD := ⟨("is_source", none), "is_source", "is_source", defArgs sIsSource, defBody sIsSource, defScope sIsSource, [], []⟩
abbrev sIsStatement : Stmt := top 12
def dsIsStatement : He.DefD := ⟨("is_statement", none), "is_statement", "is_statement", defArgs sIsStatement, defBody sIsStatement, defScope sIsStatement, [], []⟩
abbrev sCopied : Stmt := top 13
def dsCopied : He.DefD := ⟨("copied", none), "copied", "copied", defArgs sCopied, defBody sCopied, defScope sCopied, [], []⟩
abbrev sCopiedPart : Stmt := top 14
def dsCopiedPart : He.DefD := ⟨("_copied", none), "_copied", "_copied", defArgs sCopiedPart, defBody sCopiedPart, defScope sCopiedPart, [], []⟩
abbrev sIsRight : Stmt := top 18
def dsIsRight : He.DefD := ⟨("is_right", none), "is_right", "is_right", defArgs sIsRight, defBody sIsRight, defScope sIsRight, [], []⟩
abbrev sIsValueType : Stmt := top 19
def dsIsValueType : He.DefD := ⟨("is_value_type", none), "is_value_type", "is_value_type", defArgs sIsValueType, defBody sIsValueType, defScope sIsValueType, [], []⟩
abbrev sIsType : Stmt := top 20
def dsIsType : He.DefD := ⟨("is_type", none), "is_type", "is_type", defArgs sIsType, defBody sIsType, defScope sIsType, [], []⟩
abbrev sConverts : Stmt := top 21
def dsConverts : He.DefD := ⟨("converts", none), "converts", "converts", defArgs sConverts, defBody sConverts, defScope sConverts, [], []⟩
abbrev sFind : Stmt := top 22
def dsFind : He.DefD := ⟨("_find", none), "_find", "_find", defArgs sFind, defBody sFind, defScope sFind, [], []⟩
abbrev cFunctionInit : Stmt := inClass (top 28) 0
def dcFunctionInit : He.DefD := ⟨("Function", some "__init__"), "__init__", "Function.__init__", defArgs cFunctionInit, defBody cFunctionInit, defScope cFunctionInit, [], []⟩
abbrev sIsDepth : Stmt := top 29
def dsIsDepth : He.DefD := ⟨("is_depth", none), "is_depth", "is_depth", defArgs sIsDepth, defBody sIsDepth, defScope sIsDepth, [], []⟩
abbrev sIsParameter : Stmt := top 30
def dsIsParameter : He.DefD := ⟨("_is_parameter", none), "_is_parameter", "_is_parameter", defArgs sIsParameter, defBody sIsParameter, defScope sIsParameter, [], []⟩
abbrev sIsBlock : Stmt := top 31
def dsIsBlock : He.DefD := ⟨("_is_block", none), "_is_block", "_is_block", defArgs sIsBlock, defBody sIsBlock, defScope sIsBlock, [], []⟩
abbrev sIsFunction : Stmt := top 32
def dsIsFunction : He.DefD := ⟨("_is_function", none), "_is_function", "_is_function", defArgs sIsFunction, defBody sIsFunction, defScope sIsFunction, [], []⟩
abbrev sMade : Stmt := top 33
def dsMade : He.DefD := ⟨("_made", none), "_made", "_made", defArgs sMade, defBody sMade, defScope sMade, [], []⟩
abbrev sAreCalls : Stmt := top 34
def dsAreCalls : He.DefD := ⟨("_are_calls", none), "_are_calls", "_are_calls", defArgs sAreCalls, defBody sAreCalls, defScope sAreCalls, [], []⟩
abbrev sIsProgram : Stmt := top 35
def dsIsProgram : He.DefD := ⟨("_is_program", none), "_is_program", "_is_program", defArgs sIsProgram, defBody sIsProgram, defScope sIsProgram, [], []⟩
abbrev sNamesOf : Stmt := top 36
def dsNamesOf : He.DefD := ⟨("names_of", none), "names_of", "names_of", defArgs sNamesOf, defBody sNamesOf, defScope sNamesOf, [], []⟩
abbrev cProgramInit : Stmt := inClass (top 37) 0
def dcProgramInit : He.DefD := ⟨("Program", some "__init__"), "__init__", "Program.__init__", defArgs cProgramInit, defBody cProgramInit, defScope cProgramInit, [], []⟩
abbrev sTyped : Stmt := top 38
def dsTyped : He.DefD := ⟨("_typed", none), "_typed", "_typed", defArgs sTyped, defBody sTyped, defScope sTyped, [], []⟩
abbrev sWithTable : Stmt := top 39
def dsWithTable : He.DefD := ⟨("with_table", none), "with_table", "with_table", defArgs sWithTable, defBody sWithTable, defScope sWithTable, [], []⟩
abbrev sFunctionOf : Stmt := top 40
def dsFunctionOf : He.DefD := ⟨("function_of", none), "function_of", "function_of", defArgs sFunctionOf, defBody sFunctionOf, defScope sFunctionOf, [], []⟩
abbrev cThingInit : Stmt := inClass (top 43) 0
def dcThingInit : He.DefD := ⟨("Thing", some "__init__"), "__init__", "Thing.__init__", defArgs cThingInit, defBody cThingInit, defScope cThingInit, [], []⟩
abbrev cWorldInit : Stmt := inClass (top 44) 0
def dcWorldInit : He.DefD := ⟨("World", some "__init__"), "__init__", "World.__init__", defArgs cWorldInit, defBody cWorldInit, defScope cWorldInit, [], []⟩
abbrev cWorldMake : Stmt := inClass (top 44) 2
def dcWorldMake : He.DefD := ⟨("World", some "make"), "make", "World.make", defArgs cWorldMake, defBody cWorldMake, defScope cWorldMake, [], []⟩
abbrev cWorldRead : Stmt := inClass (top 44) 3
def dcWorldRead : He.DefD := ⟨("World", some "read"), "read", "World.read", defArgs cWorldRead, defBody cWorldRead, defScope cWorldRead, [], []⟩
abbrev cWorldWrite : Stmt := inClass (top 44) 4
def dcWorldWrite : He.DefD := ⟨("World", some "write"), "write", "World.write", defArgs cWorldWrite, defBody cWorldWrite, defScope cWorldWrite, [], []⟩
abbrev sThingAt : Stmt := top 45
def dsThingAt : He.DefD := ⟨("_thing_at", none), "_thing_at", "_thing_at", defArgs sThingAt, defBody sThingAt, defScope sThingAt, [], []⟩
abbrev sLookedUp : Stmt := top 46
def dsLookedUp : He.DefD := ⟨("_looked_up", none), "_looked_up", "_looked_up", defArgs sLookedUp, defBody sLookedUp, defScope sLookedUp, [], []⟩
abbrev sAllLookedUp : Stmt := top 47
def dsAllLookedUp : He.DefD := ⟨("_all_looked_up", none), "_all_looked_up", "_all_looked_up", defArgs sAllLookedUp, defBody sAllLookedUp, defScope sAllLookedUp, [], []⟩
abbrev sCall : Stmt := top 48
def dsCall : He.DefD := ⟨("_call", none), "_call", "_call", defArgs sCall, defBody sCall, defScope sCall, [], []⟩
abbrev sPut : Stmt := top 49
def dsPut : He.DefD := ⟨("_put", none), "_put", "_put", defArgs sPut, defBody sPut, defScope sPut, [], []⟩
abbrev sAct : Stmt := top 50
def dsAct : He.DefD := ⟨("act", none), "act", "act", defArgs sAct, defBody sAct, defScope sAct, [], []⟩
abbrev sActAll : Stmt := top 51
def dsActAll : He.DefD := ⟨("act_all", none), "act_all", "act_all", defArgs sActAll, defBody sActAll, defScope sActAll, [], []⟩
abbrev sShownThings : Stmt := top 52
def dsShownThings : He.DefD := ⟨("shown_things", none), "shown_things", "shown_things", defArgs sShownThings, defBody sShownThings, defScope sShownThings, [], []⟩
abbrev sPlaceFault : Stmt := top 54
def dsPlaceFault : He.DefD := ⟨("place_fault", none), "place_fault", "place_fault", defArgs sPlaceFault, defBody sPlaceFault, defScope sPlaceFault, [], []⟩
abbrev sSeenType : Stmt := top 55
def dsSeenType : He.DefD := ⟨("seen_type", none), "seen_type", "seen_type", defArgs sSeenType, defBody sSeenType, defScope sSeenType, [], []⟩
abbrev sConversionFault : Stmt := top 56
def dsConversionFault : He.DefD := ⟨("_conversion_fault", none), "_conversion_fault", "_conversion_fault", defArgs sConversionFault, defBody sConversionFault, defScope sConversionFault, [], []⟩
abbrev sSourceFault : Stmt := top 57
def dsSourceFault : He.DefD := ⟨("source_fault", none), "source_fault", "source_fault", defArgs sSourceFault, defBody sSourceFault, defScope sSourceFault, [], []⟩
abbrev sPutFault : Stmt := top 58
def dsPutFault : He.DefD := ⟨("_put_fault", none), "_put_fault", "_put_fault", defArgs sPutFault, defBody sPutFault, defScope sPutFault, [], []⟩
abbrev sStatementFault : Stmt := top 59
def dsStatementFault : He.DefD := ⟨("statement_fault", none), "statement_fault", "statement_fault", defArgs sStatementFault, defBody sStatementFault, defScope sStatementFault, [], []⟩
abbrev sBlockFaults : Stmt := top 60
def dsBlockFaults : He.DefD := ⟨("block_faults", none), "block_faults", "block_faults", defArgs sBlockFaults, defBody sBlockFaults, defScope sBlockFaults, [], []⟩
abbrev sFaults : Stmt := top 61
def dsFaults : He.DefD := ⟨("faults", none), "faults", "faults", defArgs sFaults, defBody sFaults, defScope sFaults, [], []⟩
abbrev sIsLetBy : Stmt := top 62
def dsIsLetBy : He.DefD := ⟨("is_let_by", none), "is_let_by", "is_let_by", defArgs sIsLetBy, defBody sIsLetBy, defScope sIsLetBy, [], []⟩
abbrev sRun : Stmt := top 64
def dsRun : He.DefD := ⟨("run", none), "run", "run", defArgs sRun, defBody sRun, defScope sRun, [], []⟩
abbrev sLawCell : Stmt := top 66
def dsLawCell : He.DefD := ⟨("_law_cell", none), "_law_cell", "_law_cell", defArgs sLawCell, defBody sLawCell, defScope sLawCell, [], []⟩
abbrev sLawRow : Stmt := top 67
def dsLawRow : He.DefD := ⟨("_law_row", none), "_law_row", "_law_row", defArgs sLawRow, defBody sLawRow, defScope sLawRow, [], []⟩
abbrev sLawDraw : Stmt := top 68
def dsLawDraw : He.DefD := ⟨("_law_draw", none), "_law_draw", "_law_draw", defArgs sLawDraw, defBody sLawDraw, defScope sLawDraw, [], []⟩
abbrev sLawRight : Stmt := top 69
def dsLawRight : He.DefD := ⟨("_law_right", none), "_law_right", "_law_right", defArgs sLawRight, defBody sLawRight, defScope sLawRight, [], []⟩
abbrev sLawRights : Stmt := top 70
def dsLawRights : He.DefD := ⟨("_law_rights", none), "_law_rights", "_law_rights", defArgs sLawRights, defBody sLawRights, defScope sLawRights, [], []⟩
abbrev sLawWithin : Stmt := top 71
def dsLawWithin : He.DefD := ⟨("_law_within", none), "_law_within", "_law_within", defArgs sLawWithin, defBody sLawWithin, defScope sLawWithin, [], []⟩
abbrev sLawConverts : Stmt := top 72
def dsLawConverts : He.DefD := ⟨("_law_converts", none), "_law_converts", "_law_converts", defArgs sLawConverts, defBody sLawConverts, defScope sLawConverts, [], []⟩
abbrev sLawSource : Stmt := top 73
def dsLawSource : He.DefD := ⟨("_law_source", none), "_law_source", "_law_source", defArgs sLawSource, defBody sLawSource, defScope sLawSource, [], []⟩
abbrev sLawStatement : Stmt := top 74
def dsLawStatement : He.DefD := ⟨("_law_statement", none), "_law_statement", "_law_statement", defArgs sLawStatement, defBody sLawStatement, defScope sLawStatement, [], []⟩
abbrev sLawNames : Stmt := top 75
def dsLawNames : He.DefD := ⟨("_law_names", none), "_law_names", "_law_names", defArgs sLawNames, defBody sLawNames, defScope sLawNames, [], []⟩
abbrev sLawFunction : Stmt := top 76
def dsLawFunction : He.DefD := ⟨("_law_function", none), "_law_function", "_law_function", defArgs sLawFunction, defBody sLawFunction, defScope sLawFunction, [], []⟩
abbrev sLawProgram : Stmt := top 77
def dsLawProgram : He.DefD := ⟨("_law_program", none), "_law_program", "_law_program", defArgs sLawProgram, defBody sLawProgram, defScope sLawProgram, [], []⟩
abbrev sLawMade : Stmt := top 78
def dsLawMade : He.DefD := ⟨("_law_made", none), "_law_made", "_law_made", defArgs sLawMade, defBody sLawMade, defScope sLawMade, [], []⟩
abbrev sLawReached : Stmt := top 79
def dsLawReached : He.DefD := ⟨("_law_reached", none), "_law_reached", "_law_reached", defArgs sLawReached, defBody sLawReached, defScope sLawReached, [], []⟩
abbrev sLawSourceFault : Stmt := top 80
def dsLawSourceFault : He.DefD := ⟨("_law_source_fault", none), "_law_source_fault", "_law_source_fault", defArgs sLawSourceFault, defBody sLawSourceFault, defScope sLawSourceFault, [], []⟩
abbrev sLawFault : Stmt := top 81
def dsLawFault : He.DefD := ⟨("_law_fault", none), "_law_fault", "_law_fault", defArgs sLawFault, defBody sLawFault, defScope sLawFault, [], []⟩
abbrev sLawBlockFaults : Stmt := top 82
def dsLawBlockFaults : He.DefD := ⟨("_law_block_faults", none), "_law_block_faults", "_law_block_faults", defArgs sLawBlockFaults, defBody sLawBlockFaults, defScope sLawBlockFaults, [], []⟩
abbrev sLawFaults : Stmt := top 83
def dsLawFaults : He.DefD := ⟨("_law_faults", none), "_law_faults", "_law_faults", defArgs sLawFaults, defBody sLawFaults, defScope sLawFaults, [], []⟩
abbrev sLawLook : Stmt := top 84
def dsLawLook : He.DefD := ⟨("_law_look", none), "_law_look", "_law_look", defArgs sLawLook, defBody sLawLook, defScope sLawLook, [], []⟩
abbrev sLawGive : Stmt := top 85
def dsLawGive : He.DefD := ⟨("_law_give", none), "_law_give", "_law_give", defArgs sLawGive, defBody sLawGive, defScope sLawGive, [], []⟩
abbrev sLawNew : Stmt := top 86
def dsLawNew : He.DefD := ⟨("_law_new", none), "_law_new", "_law_new", defArgs sLawNew, defBody sLawNew, defScope sLawNew, [], []⟩
abbrev sLawPut : Stmt := top 87
def dsLawPut : He.DefD := ⟨("_law_put", none), "_law_put", "_law_put", defArgs sLawPut, defBody sLawPut, defScope sLawPut, [], []⟩
abbrev sLawExecute : Stmt := top 88
def dsLawExecute : He.DefD := ⟨("_law_execute", none), "_law_execute", "_law_execute", defArgs sLawExecute, defBody sLawExecute, defScope sLawExecute, [], []⟩
abbrev sLawRun : Stmt := top 89
def dsLawRun : He.DefD := ⟨("_law_run", none), "_law_run", "_law_run", defArgs sLawRun, defBody sLawRun, defScope sLawRun, [], []⟩
abbrev sLawThings : Stmt := top 90
def dsLawThings : He.DefD := ⟨("_law_things", none), "_law_things", "_law_things", defArgs sLawThings, defBody sLawThings, defScope sLawThings, [], []⟩
abbrev sLawDepths : Stmt := top 91
def dsLawDepths : He.DefD := ⟨("_law_depths", none), "_law_depths", "_law_depths", defArgs sLawDepths, defBody sLawDepths, defScope sLawDepths, [], []⟩
abbrev sLawSketch : Stmt := top 92
def dsLawSketch : He.DefD := ⟨("_law_sketch", none), "_law_sketch", "_law_sketch", defArgs sLawSketch, defBody sLawSketch, defScope sLawSketch, [], []⟩
abbrev sLawKinds : Stmt := top 93
def dsLawKinds : He.DefD := ⟨("_law_kinds", none), "_law_kinds", "_law_kinds", defArgs sLawKinds, defBody sLawKinds, defScope sLawKinds, [], []⟩
abbrev sLawTypedBlock : Stmt := top 94
def dsLawTypedBlock : He.DefD := ⟨("_law_typed_block", none), "_law_typed_block", "_law_typed_block", defArgs sLawTypedBlock, defBody sLawTypedBlock, defScope sLawTypedBlock, [], []⟩
abbrev sLawTyped : Stmt := top 95
def dsLawTyped : He.DefD := ⟨("_law_typed", none), "_law_typed", "_law_typed", defArgs sLawTyped, defBody sLawTyped, defScope sLawTyped, [], []⟩
abbrev sLawOpen : Stmt := top 96
def dsLawOpen : He.DefD := ⟨("_law_open", none), "_law_open", "_law_open", defArgs sLawOpen, defBody sLawOpen, defScope sLawOpen, [], []⟩
abbrev sLawShapeFaults : Stmt := top 97
def dsLawShapeFaults : He.DefD := ⟨("_law_shape_faults", none), "_law_shape_faults", "_law_shape_faults", defArgs sLawShapeFaults, defBody sLawShapeFaults, defScope sLawShapeFaults, [], []⟩
abbrev sLawPlainSource : Stmt := top 98
def dsLawPlainSource : He.DefD := ⟨("_law_plain_source", none), "_law_plain_source", "_law_plain_source", defArgs sLawPlainSource, defBody sLawPlainSource, defScope sLawPlainSource, [], []⟩
abbrev sLawMendedBlock : Stmt := top 99
def dsLawMendedBlock : He.DefD := ⟨("_law_mended_block", none), "_law_mended_block", "_law_mended_block", defArgs sLawMendedBlock, defBody sLawMendedBlock, defScope sLawMendedBlock, [], []⟩
abbrev sLawShaped : Stmt := top 100
def dsLawShaped : He.DefD := ⟨("_law_shaped", none), "_law_shaped", "_law_shaped", defArgs sLawShaped, defBody sLawShaped, defScope sLawShaped, [], []⟩
abbrev sLawLists : Stmt := top 101
def dsLawLists : He.DefD := ⟨("_law_lists", none), "_law_lists", "_law_lists", defArgs sLawLists, defBody sLawLists, defScope sLawLists, [], []⟩
abbrev sLawConversionRules : Stmt := top 102
def dsLawConversionRules : He.DefD := ⟨("_law_conversion_rules", none), "_law_conversion_rules", "_law_conversion_rules", defArgs sLawConversionRules, defBody sLawConversionRules, defScope sLawConversionRules, [], []⟩
abbrev sLawSourceRules : Stmt := top 103
def dsLawSourceRules : He.DefD := ⟨("_law_source_rules", none), "_law_source_rules", "_law_source_rules", defArgs sLawSourceRules, defBody sLawSourceRules, defScope sLawSourceRules, [], []⟩
abbrev sLawRules : Stmt := top 104
def dsLawRules : He.DefD := ⟨("_law_rules", none), "_law_rules", "_law_rules", defArgs sLawRules, defBody sLawRules, defScope sLawRules, [], []⟩
abbrev sLawPlaces : Stmt := top 105
def dsLawPlaces : He.DefD := ⟨("_law_places", none), "_law_places", "_law_places", defArgs sLawPlaces, defBody sLawPlaces, defScope sLawPlaces, [], []⟩
abbrev sLawAllRules : Stmt := top 106
def dsLawAllRules : He.DefD := ⟨("_law_all_rules", none), "_law_all_rules", "_law_all_rules", defArgs sLawAllRules, defBody sLawAllRules, defScope sLawAllRules, [], []⟩
abbrev sLawClosed : Stmt := top 107
def dsLawClosed : He.DefD := ⟨("_law_closed", none), "_law_closed", "_law_closed", defArgs sLawClosed, defBody sLawClosed, defScope sLawClosed, [], []⟩
abbrev sLawTable : Stmt := top 108
def dsLawTable : He.DefD := ⟨("_law_table", none), "_law_table", "_law_table", defArgs sLawTable, defBody sLawTable, defScope sLawTable, [], []⟩
abbrev sLawClaims : Stmt := top 109
def dsLawClaims : He.DefD := ⟨("_law_claims", none), "_law_claims", "_law_claims", defArgs sLawClaims, defBody sLawClaims, defScope sLawClaims, [], []⟩
abbrev sLawPair : Stmt := top 110
def dsLawPair : He.DefD := ⟨("_law_pair", none), "_law_pair", "_law_pair", defArgs sLawPair, defBody sLawPair, defScope sLawPair, [], []⟩
abbrev sLawTold : Stmt := top 111
def dsLawTold : He.DefD := ⟨("_law_told", none), "_law_told", "_law_told", defArgs sLawTold, defBody sLawTold, defScope sLawTold, [], []⟩
abbrev sLaw : Stmt := top 112
def dsLaw : He.DefD := ⟨("law", none), "law", "law", defArgs sLaw, defBody sLaw, defScope sLaw, [], []⟩
def fn0 : List He.DefD := [dsIsNumber, dsIsName, dsIsPlace, dsIsSource, dsIsStatement, dsCopied, dsCopiedPart, dsIsRight, dsIsValueType, dsIsType, dsConverts, dsFind, dcFunctionInit, dsIsDepth, dsIsParameter, dsIsBlock, dsIsFunction, dsMade, dsAreCalls, dsIsProgram, dsNamesOf, dcProgramInit, dsTyped, dsWithTable, dsFunctionOf, dcThingInit, dcWorldInit, dcWorldMake, dcWorldRead, dcWorldWrite]
def fn1 : List He.DefD := [dsThingAt, dsLookedUp, dsAllLookedUp, dsCall, dsPut, dsAct, dsActAll, dsShownThings, dsPlaceFault, dsSeenType, dsConversionFault, dsSourceFault, dsPutFault, dsStatementFault, dsBlockFaults, dsFaults, dsIsLetBy, dsRun, dsLawCell, dsLawRow, dsLawDraw, dsLawRight, dsLawRights, dsLawWithin, dsLawConverts, dsLawSource, dsLawStatement, dsLawNames, dsLawFunction, dsLawProgram]
def fn2 : List He.DefD := [dsLawMade, dsLawReached, dsLawSourceFault, dsLawFault, dsLawBlockFaults, dsLawFaults, dsLawLook, dsLawGive, dsLawNew, dsLawPut, dsLawExecute, dsLawRun, dsLawThings, dsLawDepths, dsLawSketch, dsLawKinds, dsLawTypedBlock, dsLawTyped, dsLawOpen, dsLawShapeFaults, dsLawPlainSource, dsLawMendedBlock, dsLawShaped, dsLawLists, dsLawConversionRules, dsLawSourceRules, dsLawRules, dsLawPlaces, dsLawAllRules, dsLawClosed]
def fn3 : List He.DefD := [dsLawTable, dsLawClaims, dsLawPair, dsLawTold, dsLaw]
def fn : List He.DefD := fn0 ++ fn1 ++ fn2 ++ fn3
def fa0 : List He.Fa := [.glo "RightsError", .glo "is_number", .glo "is_name", .glo "is_place", .glo "is_source", .glo "is_statement", .glo "copied", .glo "_copied", .glo "is_right", .glo "is_value_type", .glo "is_type", .glo "converts", .glo "_find", .glo "Function", .glo "is_depth", .glo "_is_parameter", .glo "_is_block", .glo "_is_function", .glo "_made", .glo "_are_calls", .glo "_is_program", .glo "names_of", .glo "Program", .glo "_typed", .glo "with_table", .glo "function_of", .glo "Thing", .glo "World", .glo "_thing_at", .glo "_looked_up"]
def fa1 : List He.Fa := [.glo "_all_looked_up", .glo "_call", .glo "_put", .glo "act", .glo "act_all", .glo "shown_things", .glo "place_fault", .glo "seen_type", .glo "_conversion_fault", .glo "source_fault", .glo "_put_fault", .glo "statement_fault", .glo "block_faults", .glo "faults", .glo "is_let_by", .glo "run", .glo "_law_cell", .glo "_law_row", .glo "_law_draw", .glo "_law_right", .glo "_law_rights", .glo "_law_within", .glo "_law_converts", .glo "_law_source", .glo "_law_statement", .glo "_law_names", .glo "_law_function", .glo "_law_program", .glo "_law_made", .glo "_law_reached"]
def fa2 : List He.Fa := [.glo "_law_source_fault", .glo "_law_fault", .glo "_law_block_faults", .glo "_law_faults", .glo "_law_look", .glo "_law_give", .glo "_law_new", .glo "_law_put", .glo "_law_execute", .glo "_law_run", .glo "_law_things", .glo "_law_depths", .glo "_law_sketch", .glo "_law_kinds", .glo "_law_typed_block", .glo "_law_typed", .glo "_law_open", .glo "_law_shape_faults", .glo "_law_plain_source", .glo "_law_mended_block", .glo "_law_shaped", .glo "_law_lists", .glo "_law_conversion_rules", .glo "_law_source_rules", .glo "_law_rules", .glo "_law_places", .glo "_law_all_rules", .glo "_law_closed", .glo "_law_table", .glo "_law_claims"]
def fa3 : List He.Fa := [.glo "_law_pair", .glo "_law_told", .glo "law", .glo "RIGHTS", .int "MOST_STARS" 5, .int "MOST_DEPTH" 5, .int "MOST_NUMBER" 1000, .int "LONGEST_NAME" 8, .int "MOST_RIGHTS" 6, .int "MOST_FUNCTIONS" 4, .int "MOST_PARAMETERS" 4, .int "MOST_STATEMENTS" 40, .int "MOST_BODY" 12, .int "MOST_EXECUTED" 1000, .str "LETTERS" "abcdefghijklmnopqrstuvwxyz", .free "ValueError", .free "abs", .free "all", .free "bool", .free "dict", .free "enumerate", .free "int", .free "isinstance", .free "len", .free "list", .free "min", .free "range", .free "sorted", .free "str", .free "super"]
def fa4 : List He.Fa := [.free "tuple", .free "zip", .cls "Function", .mkr "Function", .noat "Function" "name", .noat "Function" "params", .noat "Function" "body", .cls "Program", .mkr "Program", .noat "Program" "functions", .noat "Program" "statements", .cls "Thing", .mkr "Thing", .noat "Thing" "name", .noat "Thing" "kind", .noat "Thing" "value", .cls "World", .mkr "World", .noat "World" "things", .noat "World" "breaches", .noat "World" "executed", .meth "World" "make", .meth "World" "read", .meth "World" "write"]
def fa : List He.Fa := fa0 ++ fa1 ++ fa2 ++ fa3 ++ fa4
def rightsVs : List He.Dv := [.str "-", .str "r", .str "rw", .str "w"]
/-- what isinstance asks of Function -/
def isfB (K : PySem.W.Frag) : Bool := He.eqO (PySem.W.findIn K (.ref (He.ga K "Function")) "__class__") (some (some (.builtin "object.__class__"))) && (He.eqO (PySem.W.specialIn K (.builtin "object.__class__") "__get__") (some (some (.builtin "getset_descriptor.__get__"))) && (decide (PySem.W.takesIn K (.builtin "object.__class__") = some true) && decide (PySem.W.mroIn K (He.ga K "Function") (.type "object") = some true)))
def tabB (K : PySem.W.Frag) : Bool := He.tupB K "RIGHTS" rightsVs && isfB K
end Rk
section
set_option maxHeartbeats 0
namespace Rk
open PySem PySem.Spec PyProof.Rows L2
abbrev R : PySem.W.OpenRow := PySem.W.OpenLaw.row PySem.Challenge.rw_rightskept_k80_whole_no_breach
abbrev AlY : Type := He.AlD × Bool
def refsY (o : Obj) : List Addr := match o.data with
  | .dict es _ => es.toList.flatMap fun e => He.refV e.val
  | .func fd => He.refV fd.code
  | .cls cd => [cd.ns]
  | _ => []
def nextY (g : Addr → Option Obj) (as : List Addr) : List Addr := as.flatMap fun a => match g a with
  | some o => refsY o
  | none => []
def asY (g : Addr → Option Obj) : Nat → List Addr → List Addr
  | 0, as => as
  | n + 1, as => as ++ asY g n (nextY g as)
def obsK (K : PySem.W.Frag) : AlY := (He.obsD fa fn K, tabB K)
def obsY (g : Addr → Option Obj) : AlY := obsK (He.frG g (asY g 4 [mainGlobals]))
def hk : PySem.W.Hook where
  α := AlY
  obs := fun s => obsY s.heap.get?
  val := fun _ => (He.valD fn, true)
  says := fun _ h => ∃ K : PySem.W.Frag, K.In h ∧ He.SaysD fa fn K ∧ tabB K = true
  of := fun _ _ e => ⟨_, He.frG_in, congrArg (fun z : AlY => z.1) e, congrArg (fun z : AlY => z.2) e⟩
  keeps := fun _ _ _ ⟨K, hK, c⟩ k => ⟨K, PySem.W.Frag.In.keeps hK k, c⟩
def ob (s : PySem.W.SharedT) : AlY := obsY (HandSHeadRun.getT s)
theorem ob_eq (s : PySem.W.SharedT) : ob s = hk.obs s.abs := by
  have e : HandSHeadRun.getT s = s.abs.heap.get? := funext (HandSHeadRun.getT_eq s)
  show obsY (HandSHeadRun.getT s) = obsY s.abs.heap.get?
  rw [e]
def names0 : List PySem.Str := ["RightsError", "is_number", "is_name", "is_place", "is_source", "is_statement", "copied", "_copied", "is_right", "is_value_type", "is_type", "converts", "_find", "Function", "is_depth", "_is_parameter", "_is_block", "_is_function", "_made", "_are_calls", "_is_program", "names_of", "Program", "_typed", "with_table", "function_of", "Thing", "World", "_thing_at", "_looked_up"]
def names1 : List PySem.Str := ["_all_looked_up", "_call", "_put", "act", "act_all", "shown_things", "place_fault", "seen_type", "_conversion_fault", "source_fault", "_put_fault", "statement_fault", "block_faults", "faults", "is_let_by", "run", "_law_cell", "_law_row", "_law_draw", "_law_right", "_law_rights", "_law_within", "_law_converts", "_law_source", "_law_statement", "_law_names", "_law_function", "_law_program", "_law_made", "_law_reached"]
def names2 : List PySem.Str := ["_law_source_fault", "_law_fault", "_law_block_faults", "_law_faults", "_law_look", "_law_give", "_law_new", "_law_put", "_law_execute", "_law_run", "_law_things", "_law_depths", "_law_sketch", "_law_kinds", "_law_typed_block", "_law_typed", "_law_open", "_law_shape_faults", "_law_plain_source", "_law_mended_block", "_law_shaped", "_law_lists", "_law_conversion_rules", "_law_source_rules", "_law_rules", "_law_places", "_law_all_rules", "_law_closed", "_law_table", "_law_claims"]
def names3 : List PySem.Str := ["_law_pair", "_law_told", "MOST_STARS", "MOST_DEPTH", "MOST_NUMBER", "LONGEST_NAME", "MOST_RIGHTS", "MOST_FUNCTIONS", "MOST_PARAMETERS", "MOST_STATEMENTS", "MOST_BODY", "MOST_EXECUTED", "LETTERS", "RIGHTS"]
def names : List PySem.Str := names0 ++ names1 ++ names2 ++ names3
theorem run (w : World) : HandSHeadRun.RunEq R (PySem.W.view R.prog [112]) hk ob 6000 names w := by
  intro os
  kernel_rfl
end Rk
end
section
set_option maxHeartbeats 0
open PySem PySem.W PySem.Calls PyProof.Rows
/-- the end, given what the walk tells of law -/
theorem Rk.closing (hF : ∀ (w : World) (mg : Str → Option Value) (fa : Addr) (h : Heap), Rk.hk.says w h → h.Ns mainGlobals mg → mg ("law" : PySem.Str) = some (.ref fa) →
      ∃ (K : PySem.W.Frag) (fd : FuncData) (sp : L2.Sp), K.In h ∧ (∀ (s : Shared) (u : Value), BindsTo s fd ⟨[u], []⟩ [("_law_script", u)]) ∧
        (∀ (H : L2.Hp) (a : Addr) (ns : List Int), ns.length ≤ 63 → L2.Only H → L2.SqL K H a (ns.map L2.V.int) → sp [.ref a] H (fun v _ => v = .bl true) fun _ _ _ => False) ∧
        ∀ base : Heap, K.In base → base.Ns mainGlobals mg → L2.FnOk (PySem.Challenge.rw_rightskept_k80_whole_no_breach).prog w K mg base L2.CX0 63 fa fd ["_law_script"] sp) : PySem.Challenge.rw_rightskept_k80_whole_no_breach.Holds := by
  w_on; o_law
  refine HandSHeadRun.head_any (r := OpenLaw.row PySem.Challenge.rw_rightskept_k80_whole_no_breach) (q := view (OpenLaw.row PySem.Challenge.rw_rightskept_k80_whole_no_breach).prog [112]) (H := Rk.hk) (ob := Rk.ob) (M := 6000) (loose := Rk.names) (d := HandSHeadRun.topDef (OpenLaw.row PySem.Challenge.rw_rightskept_k80_whole_no_breach).prog 112) (kwd := []) Rk.ob_eq
    (by kernel_rfl) (fun s => by kernel_rfl) Rk.run (by kernel_rfl) (by kernel_rfl) (by kernel_rfl) (by rfl) (by first | assumption | decide +kernel) (by decide +kernel) ⟨rfl, rfl, rfl, rfl, rfl, by decide +kernel⟩ ?hw ?hc
  case hw => w_witness2
  case hc =>
    refine L2.walk_ofE (l := PySem.Challenge.rw_rightskept_k80_whole_no_breach) (n := 63) (k := 63) (x := "_law_script") (CX := L2.CX0) rfl (by decide) (by kernel_rfl) ⟨rfl, by decide, by decide⟩ ?F (fun _ _ _ _ z => z)
    intro w mg fa h Y G hmg0
    have hmg : mg ("law" : PySem.Str) = some (.ref fa) := by
      have e : (HandSHeadRun.topDef (OpenLaw.row PySem.Challenge.rw_rightskept_k80_whole_no_breach).prog 112).name = ("law" : PySem.Str) := by kernel_rfl
      rw [← e]
      exact hmg0
    exact hF w mg fa h Y G hmg
end
/-! the small logic: views of the heap that grow, mutable objects, steps of readings -/
namespace Rk
open PySem PySem.Spec PyProof.Rows L2

def Ex (H H' : Hp) : Prop := ∀ a o, H a = some o → H' a = some o
theorem Ex.refl (H : Hp) : Ex H H := fun _ _ h => h
theorem Ex.trans {H H1 H2 : Hp} (a : Ex H H1) (b : Ex H1 H2) : Ex H H2 := fun x o h => b x o (a x o h)
theorem Ex.tr {H H1 H2 : Hp} (b : Ex H1 H2) (a : Ex H H1) : Ex H H2 := a.trans b
theorem Ex.get {H H' : Hp} {a : Addr} {o : HO} (e : Ex H H') (h : H a = some o) : H' a = some o := e a o h
theorem Ex.same {H H' : Hp} (e : Ex H H') : Same H H' := e
def No : Addr → Prop := fun _ => False

/-- from (J, H) on: J a view of H that is never changed; M what may have been changed -/
structure Gr (M : Addr → Prop) (J H J' H' : Hp) : Prop where
  jj : Ex J J'
  hh : ∀ b o, ¬ M b → H b = some o → H' b = some o
  al : ∀ b, H' b = none → H b = none
  jh : Ex J' H'
  nw : ∀ b o, J' b = some o → J b = some o ∨ H b = none
section
variable {M M' : Addr → Prop} {J J0 J1 J2 J' H H0 H1 H2 H' : Hp}
theorem Gr.refl (e : Ex J H) : Gr M J H J H := ⟨Ex.refl J, fun _ _ _ h => h, fun _ h => h, e, fun _ _ h => .inl h⟩
theorem Gr.trans (g : Gr M J H J1 H1) (k : Gr M J1 H1 J2 H2) : Gr M J H J2 H2 :=
  ⟨g.jj.trans k.jj, fun b o n h => k.hh b o n (g.hh b o n h), fun b h => g.al b (k.al b h), k.jh, fun b o h => by
    rcases k.nw b o h with h1 | h1
    · exact g.nw b o h1
    · exact .inr (g.al b h1)⟩
/-- further by a step that may change M', where M' is in M or new since H -/
theorem Gr.stepM (g : Gr M J H J1 H1) (k : Gr M' J1 H1 J2 H2) (s : ∀ b, M' b → M b ∨ H b = none) : Gr M J H J2 H2 :=
  ⟨g.jj.trans k.jj, fun b o n h => k.hh b o (fun m => (s b m).elim n fun e => by rw [e] at h; cases h) (g.hh b o n h), fun b h => g.al b (k.al b h), k.jh, fun b o h => by
    rcases k.nw b o h with h1 | h1
    · exact g.nw b o h1
    · exact .inr (g.al b h1)⟩
theorem Gr.step (g : Gr M J H J1 H1) (k : Gr No J1 H1 J2 H2) : Gr M J H J2 H2 := g.stepM k fun _ z => z.elim
theorem Gr.weak (g : Gr M J H J1 H1) (s : ∀ b, M b → M' b) : Gr M' J H J1 H1 := ⟨g.jj, fun b o n h => g.hh b o (fun m => n (s b m)) h, g.al, g.jh, g.nw⟩
theorem Gr.ex (g : Gr No J H J1 H1) : Ex H H1 := fun b o h => g.hh b o (fun z => z) h
theorem Gr.alloc {p : Addr} {o : HO} (e : Ex J H) (hp : H p = none) : Gr M J H (upd J p o) (upd H p o) := by
  have jp : J p = none := by
    cases q : J p with
    | none => rfl
    | some u =>
      have := e p u q
      rw [hp] at this
      cases this
  refine ⟨fun a u h => ?_, fun b u _ h => ?_, fun b h => ?_, fun a u h => ?_, fun b u h => ?_⟩
  · rw [upd_ne (ne_of_none h jp)]; exact h
  · rw [upd_ne (ne_of_none h hp)]; exact h
  · by_cases hb : b = p
    · subst hb; exact hp
    · rw [upd_ne hb] at h; exact h
  · by_cases ha : a = p
    · subst ha; rw [upd_same] at h ⊢; exact h
    · rw [upd_ne ha] at h ⊢; exact e a u h
  · by_cases hb : b = p
    · subst hb; exact .inr hp
    · rw [upd_ne hb] at h; exact .inl h
theorem Gr.new {p : Addr} {o : HO} (e : Ex J H) (hp : H p = none) : Gr M J H J (upd H p o) := by
  refine ⟨Ex.refl J, fun b u _ h => ?_, fun b h => ?_, fun a u h => ?_, fun b u h => .inl h⟩
  · rw [upd_ne (ne_of_none h hp)]; exact h
  · by_cases hb : b = p
    · subst hb; exact hp
    · rw [upd_ne hb] at h; exact h
  · have h1 := e a u h
    rw [upd_ne (ne_of_none h1 hp)]; exact h1
/-- a change of l, which the view does not know -/
theorem Gr.mut {l : Addr} {o : HO} (g : Gr M J0 H0 J H) (jl : J l = none) (hl : M l ∨ H0 l = none) : Gr M J0 H0 J (upd H l o) := by
  refine ⟨g.jj, fun b u n h => ?_, fun b h => ?_, fun a u h => ?_, g.nw⟩
  · have hb : b ≠ l := by
      rintro rfl
      rcases hl with z | z
      · exact n z
      · rw [z] at h; cases h
    rw [upd_ne hb]; exact g.hh b u n h
  · by_cases hb : b = l
    · subst hb; rw [upd_same] at h; cases h
    · rw [upd_ne hb] at h; exact g.al b h
  · rw [upd_ne (ne_of_none h jl)]; exact g.jh a u h
/-- l becomes known, as it stands, and is not changed from now on -/
theorem Gr.know {l : Addr} {o : HO} (g : Gr M J0 H0 J H) (jl : J l = none) (hl : H l = some o) (h0 : H0 l = none) : Gr M J0 H0 (upd J l o) H := by
  refine ⟨fun a u h => ?_, g.hh, g.al, fun a u h => ?_, fun b u h => ?_⟩
  · have h1 := g.jj a u h
    rw [upd_ne (ne_of_none h1 jl)]; exact h1
  · by_cases ha : a = l
    · subst ha; rw [upd_same] at h; rw [hl]; exact h
    · rw [upd_ne ha] at h; exact g.jh a u h
  · by_cases hb : b = l
    · subst hb; exact .inr h0
    · rw [upd_ne hb] at h; exact g.nw b u h
theorem ex_know {l : Addr} {o : HO} (jl : J l = none) : Ex J (upd J l o) := fun a u h => by rw [upd_ne (ne_of_none h jl)]; exact h
/-- a mutable object, as it stands -/
structure Mu (J H : Hp) (l : Addr) (o : HO) : Prop where
  j : J l = none
  h : H l = some o
theorem Mu.step {l : Addr} {o : HO} (m : Mu J H l o) (g : Gr M J H J1 H1) (n : ¬ M l) : Mu J1 H1 l o := by
  refine ⟨?_, g.hh l o n m.h⟩
  cases q : J1 l with
  | none => rfl
  | some u =>
    rcases g.nw l u q with z | z
    · rw [m.j] at z; cases z
    · rw [m.h] at z; cases z
theorem Mu.up {l : Addr} {o : HO} (g : Gr No J H J1 H1) (m : Mu J H l o) : Mu J1 H1 l o := m.step g fun z => z
theorem Mu.set {l : Addr} {o o' : HO} (m : Mu J H l o) : Mu J (upd H l o') l o' := ⟨m.j, upd_same⟩
theorem Mu.other {l k : Addr} {o o' : HO} (m : Mu J H l o) (n : l ≠ k) : Mu J (upd H k o') l o := ⟨m.j, by rw [upd_ne n]; exact m.h⟩
theorem Ex.none {p : Addr} (e : Ex J H) (hp : H p = none) : J p = none := by
  cases q : J p with
  | none => rfl
  | some u =>
    have := e p u q
    rw [hp] at this
    cases this
theorem Mu.new {p : Addr} {o : HO} (e : Ex J H) (hp : H p = none) : Mu J (upd H p o) p o := ⟨e.none hp, upd_same⟩
theorem Mu.ne {l k : Addr} {o u : HO} (m : Mu J H l o) (h : J k = some u) : l ≠ k := by
  rintro rfl
  rw [m.j] at h; cases h
theorem Mu.ne2 {l k : Addr} {o u : HO} (m : Mu J H l o) (h : H k = none) : l ≠ k := by
  rintro rfl
  have := m.h
  rw [h] at this; cases this
end
/-- what is told of a view stays told of a greater one -/
class Up (P : Hp → Prop) : Prop where
  up : ∀ {J J' : Hp}, Ex J J' → P J → P J'
theorem Up.use {P : Hp → Prop} [Up P] {J J' : Hp} (e : Ex J J') (h : P J) : P J' := Up.up e h

/-! ### promises -/
/-- a promise: what is given (a datum a, the arguments, the view, the heap), what may be changed, what comes back -/
def SpD (A : Type) (M : A → Addr → Prop) (Pre : A → List V → Hp → Hp → Prop) (Post : A → V → Hp → Hp → Prop) : Sp := fun vs H Q _ =>
  ∃ (a : A) (J : Hp), Ex J H ∧ Pre a vs J H ∧ ∀ v J' H', Gr (M a) J H J' H' → Post a v J' H' → Q v H'
section
variable {A : Type} {M : A → Addr → Prop} {Pre : A → List V → Hp → Hp → Prop} {Post : A → V → Hp → Hp → Prop}
theorem use_sp {M0 : Addr → Prop} {J0 H0 J H : Hp} {Q : VK} {E : XK} {vs : List V} (G : Gr M0 J0 H0 J H) (a : A) (hp : Pre a vs J H) (hs : ∀ b, M a b → M0 b ∨ H0 b = none)
    (k : ∀ v J' H', Ex J J' → Gr (M a) J H J' H' → Gr M0 J0 H0 J' H' → Post a v J' H' → Q v H') : SpD A M Pre Post vs H Q E :=
  ⟨a, J, G.jh, hp, fun v J' H' g p => k v J' H' g.jj g (G.stepM g hs) p⟩
end
section
variable {P : Program} {w : World} {K : PySem.W.Frag} {mg : Str → Option Value} {base : Heap} {x qual : Str} {params : Arguments} {body : List Stmt} {scope : Scope} {f : Addr} {fd : FuncData}
variable {A : Type} {M : A → Addr → Prop} {Pre : A → List V → Hp → Hp → Prop} {Post : A → V → Hp → Hp → Prop}
theorem sp_ok {N ps : List Str} {k : Nat} (F : FunD K x qual params body scope [] [] f fd) (S : FnScope N ps scope) (hl : ∀ a vs J H, Pre a vs J H → vs.length = ps.length)
    (hb : ∀ (cdv : Value) (Ar : Around) (outer : List Env) (s : Shared) (H0 : Hp) (vs : List V) (E : XK), Room k (Ar.deeper (envOfC qual scope s.heap.objs.size f cdv)) →
      ∃ t, PSs (cxOf CX0 P w K mg base N qual scope f cdv Ar outer s H0 E).nox body t ∧ ∀ (a : A) (J0 : Hp) (Q : VK), Gr (M a) J0 H0 J0 H0 → Pre a vs J0 H0 → (∀ v J' H', Gr (M a) J0 H0 J' H' → Post a v J' H' → Q v H') →
        t { nx := fun _ H' => Q .non H', rt := Q } (start N vs) H0) : FnOk P w K mg base CX0 (k + 1) f fd ps (SpD A M Pre Post) := by
  refine F.ok S (fun vs H Q E h => ?_) (fun cdv Ar outer s H vs Q E hr h => ?_)
  · obtain ⟨a, J, _, hp, _⟩ := h
    exact hl a vs J H hp
  · obtain ⟨t, ht, hq⟩ := hb cdv Ar outer s H vs E hr
    obtain ⟨a, J, hj, hp, kk⟩ := h
    exact ⟨t, ht.nox, hq a J Q (Gr.refl hj) hp kk⟩
end

theorem len_ok {xs : List V} (h : xs.length.ble 30 = true) : xs.length ≤ sizeLine := Nat.le_trans (Nat.le_of_ble_eq_true h) (by decide)
/-! ### steps -/
/-- what follows, not unfolded -/
def ap {α : Type} (P : α → Hp → Prop) (a : α) (H : Hp) : Prop := P a H
theorem k_ap {α : Type} {P : α → Hp → Prop} {a : α} {H : Hp} (h : P a H) : ap P a H := h
section
variable {σ : L2.St} {H : Hp} {Q : VK} {D : Ends} {te ta tb tc : TE} {tA tB' : TT} {t1 t2 : TS} {K : PySem.W.Frag} {i : Nat} {v : V}
theorem k_seq (h : t1 { D with nx := t2 D } σ H) : tSeq t1 t2 D σ H := h
theorem k_nx {f : L2.St → Hp → Prop} {r : VK} {b c : L2.St → Hp → Prop} (h : f σ H) : Ends.nx { nx := f, rt := r, bk := b, ct := c } σ H := h
theorem k_rt {f : L2.St → Hp → Prop} {r : VK} {b c : L2.St → Hp → Prop} (h : r v H) : Ends.rt { nx := f, rt := r, bk := b, ct := c } v H := h
theorem k_bk {f : L2.St → Hp → Prop} {r : VK} {b c : L2.St → Hp → Prop} (h : b σ H) : Ends.bk { nx := f, rt := r, bk := b, ct := c } σ H := h
theorem k_ct {f : L2.St → Hp → Prop} {r : VK} {b c : L2.St → Hp → Prop} (h : c σ H) : Ends.ct { nx := f, rt := r, bk := b, ct := c } σ H := h
theorem k_next (h : D.nx σ H) : tNext D σ H := h
theorem k_asg {g : TG} (h : te σ H fun x H1 => g x σ H1 D.nx) : tAsg te g D σ H := h
theorem k_gname {q : L2.St → Hp → Prop} (h : q (σ.set i (some v)) H) : gName i v σ H q := h
theorem k_ret (h : te σ H D.rt) : tRet te D σ H := h
theorem k_retN (h : D.rt .non H) : tRetN D σ H := h
theorem k_drop (h : te σ H fun _ H1 => D.nx σ H1) : tDrop te D σ H := h
theorem k_break (h : D.bk σ H) : tBreak D σ H := h
theorem k_cont (h : D.ct σ H) : tCont D σ H := h
theorem k_if (h : tA σ H fun b H1 => if b = true then t1 D σ H1 else t2 D σ H1) : tIfS tA t1 t2 D σ H := h
theorem k_ifE (h : tA σ H fun c H1 => if c = true then ta σ H1 Q else tb σ H1 Q) : tIf tA ta tb σ H Q := h
theorem k_var (hv : σ[i]? = some (some v)) (h : Q v H) : tVar i σ H Q := ⟨v, hv, h⟩
theorem k_c (h : Q v H) : tC v σ H Q := h
theorem k_op {r : R2} (h : ta σ H fun x H1 => tb σ H1 fun y H2 => r x y H2 Q) : tOp r ta tb σ H Q := h
theorem k_un {r : V → Hp → VK → Prop} (h : ta σ H fun x H1 => r x H1 Q) : tUn r ta σ H Q := h
theorem k_nil {q : List V → Hp → Prop} (h : q [] H) : tNil σ H q := h
theorem k_cons {tr : TA} {q : List V → Hp → Prop} (h : ta σ H fun x H1 => tr σ H1 fun xs H2 => q (x :: xs) H2) : tCons ta tr σ H q := h
theorem k_test {q : Bool → Hp → Prop} (h : te σ H fun x H' => ∃ k, x = .bl k ∧ ap q k H') : tTest te σ H q := h
theorem k_B {q : Bool → Hp → Prop} (h : te σ H fun x H' => ∃ k, x = .bl k ∧ ap q k H') : tB te σ H q := h
theorem k_bl {P : Bool → Prop} {b : Bool} (h : P b) : ∃ k, V.bl b = .bl k ∧ P k := ⟨b, rfl, h⟩
theorem k_not {q : Bool → Hp → Prop} (h : tA σ H fun c H1 => q (!c) H1) : tNot tA σ H q := h
theorem k_and {q : Bool → Hp → Prop} (h : tA σ H fun c H1 => if c = true then tB' σ H1 q else q false H1) : tAnd tA tB' σ H q := h
theorem k_or {q : Bool → Hp → Prop} (h : tA σ H fun c H1 => if c = true then q true H1 else tB' σ H1 q) : tOr tA tB' σ H q := h
theorem k_andV (h : ta σ H fun x H1 => ∃ c, x = .bl c ∧ if c = true then tb σ H1 Q else ap Q (.bl false) H1) : tAndV ta tb σ H Q := h
theorem k_orV (h : ta σ H fun x H1 => ∃ c, x = .bl c ∧ if c = true then ap Q (.bl true) H1 else tb σ H1 Q) : tOrV ta tb σ H Q := h
theorem k_notV (h : ta σ H fun x H1 => ∃ c, x = .bl c ∧ ap Q (.bl (!c)) H1) : tNotV ta σ H Q := h
theorem k_blV {A B : Prop} {b : Bool} (h : if b = true then A else B) : ∃ c, V.bl b = .bl c ∧ if c = true then A else B := ⟨b, rfl, h⟩
theorem k_I0 {g : Int → Int → V} {m n : Int} (h : Q (g m n) H) : rI0 g (.int m) (.int n) H Q := ⟨m, n, rfl, rfl, h⟩
theorem k_I {C : Int → Int → Prop} {g : Int → Int → V} {m n : Int} (c : C m n) (h : Q (g m n) H) : rI C g (.int m) (.int n) H Q := ⟨m, n, rfl, rfl, c, h⟩
theorem k_eq {x y : V} (s : scal x y = true) (h : Q (.bl (decide (x = y))) H) : rEq x y H Q := ⟨s, h⟩
theorem k_ne {x y : V} (s : scal x y = true) (h : Q (.bl (!decide (x = y))) H) : rNe x y H Q := ⟨s, h⟩
theorem k_ixT {p : Addr} {xs : List V} {n : Int} (h : H p = some (.tup xs)) (hx : atI xs n = some v) (k : Q v H) : rIxT K (.ref p) (.int n) H Q := ⟨p, xs, n, v, rfl, rfl, SqT.of h, hx, k⟩
theorem k_ixL {p : Addr} {xs : List V} {n : Int} (h : H p = some (.lst xs)) (hx : atI xs n = some v) (k : Q v H) : rIxL K (.ref p) (.int n) H Q := ⟨p, xs, n, v, rfl, rfl, SqL.of h, hx, k⟩
theorem k_isN {x : V} (h : Q (.bl (decide (x = .non))) H) : tIsN (tC x) σ H Q := h
theorem k_fld {a C dx : Addr} {fs : List (Str × V)} {f : Str} (hc : Cls K C) (hn : NoAttr K C f) (hH : H a = some (.ins C dx fs)) (hf : fs.lookup f = some v) (k : Q v H) : ∃ a' C dx fs v', V.ref a = .ref a' ∧ H a' = some (.ins C dx fs) ∧ Cls K C ∧ NoAttr K C f ∧ fs.lookup f = some v' ∧ Q v' H :=
  ⟨a, C, dx, fs, v, rfl, hH, hc, hn, hf, k⟩
theorem k_call {sp : Sp} {dvs : List V} {E : XK} {tr : TA} (h : tr σ H fun vs H1 => sp (vs ++ dvs) H1 Q E) : tCall sp dvs E tr σ H Q := h
theorem k_cb {r : List V → Hp → VK → Prop} {tr : TA} (h : tr σ H fun vs H1 => r vs H1 Q) : tCB r tr σ H Q := h
theorem k_lenS0 {p : Addr} {xs : List V} (h : H p = some (.lst xs)) (k : Q (.int (xs.length : Int)) H) : LenV K (.ref p) H xs.length := .inl ⟨xs, SqL.of h, rfl⟩
theorem ifT {A B : Prop} {b : Bool} (e : b = true) (h : A) : if b = true then A else B := by rw [if_pos e]; exact h
theorem ifF {A B : Prop} {b : Bool} (e : b = false) (h : B) : if b = true then A else B := by rw [if_neg (by rw [e]; decide)]; exact h
theorem if2 {A B : Prop} {b : Bool} (h1 : b = true → A) (h2 : b = false → B) : if b = true then A else B := by
  cases b with
  | true => exact h1 rfl
  | false => exact h2 rfl
/-- a new tuple, a new list: known from now on -/
theorem k_tup {M0 : Addr → Prop} {J0 H0 J : Hp} {xs : List V} (G : Gr M0 J0 H0 J H) (hl : xs.length ≤ sizeLine) (k : ∀ p J' H', H p = none → Ex J J' → J' p = some (.tup xs) → Gr No J H J' H' → Gr M0 J0 H0 J' H' → Q (.ref p) H') :
    xs.length ≤ sizeLine ∧ ∀ p, H p = none → ap Q (.ref p) (upd H p (.tup xs)) :=
  ⟨hl, fun p hp => k p (upd J p (.tup xs)) _ hp (Gr.alloc (M := No) G.jh hp).jj upd_same (Gr.alloc G.jh hp) (G.step (Gr.alloc G.jh hp))⟩
theorem k_lst {M0 : Addr → Prop} {J0 H0 J : Hp} {xs : List V} (G : Gr M0 J0 H0 J H) (hl : xs.length ≤ sizeLine) (k : ∀ p J' H', H p = none → Ex J J' → J' p = some (.lst xs) → Gr No J H J' H' → Gr M0 J0 H0 J' H' → Q (.ref p) H') :
    xs.length ≤ sizeLine ∧ ∀ p, H p = none → ap Q (.ref p) (upd H p (.lst xs)) :=
  ⟨hl, fun p hp => k p (upd J p (.lst xs)) _ hp (Gr.alloc (M := No) G.jh hp).jj upd_same (Gr.alloc G.jh hp) (G.step (Gr.alloc G.jh hp))⟩
/-- the same, to be changed later: not in the view -/
theorem k_lstM {M0 : Addr → Prop} {J0 H0 J : Hp} {xs : List V} (G : Gr M0 J0 H0 J H) (hl : xs.length ≤ sizeLine) (k : ∀ p H', H p = none → H0 p = none → Mu J H' p (.lst xs) → Gr No J H J H' → Gr M0 J0 H0 J H' → Q (.ref p) H') :
    xs.length ≤ sizeLine ∧ ∀ p, H p = none → ap Q (.ref p) (upd H p (.lst xs)) :=
  ⟨hl, fun p hp => k p _ hp (G.al p hp) (Mu.new G.jh hp) (Gr.new G.jh hp) (G.step (Gr.new G.jh hp))⟩
theorem k_dictM {M0 : Addr → Prop} {J0 H0 J : Hp} (G : Gr M0 J0 H0 J H) (k : ∀ p H', H p = none → H0 p = none → Mu J H' p (.dK []) → Gr No J H J H' → Gr M0 J0 H0 J H' → Q (.ref p) H') : tDNewK σ H Q :=
  fun p hp => k p _ hp (G.al p hp) (Mu.new G.jh hp) (Gr.new G.jh hp) (G.step (Gr.new G.jh hp))
theorem k_dictTM {M0 : Addr → Prop} {J0 H0 J : Hp} (G : Gr M0 J0 H0 J H) (k : ∀ p H', H p = none → H0 p = none → Mu J H' p (.dT []) → Gr No J H J H' → Gr M0 J0 H0 J H' → Q (.ref p) H') : tDNewT σ H Q :=
  fun p hp => k p _ hp (G.al p hp) (Mu.new G.jh hp) (Gr.new G.jh hp) (G.step (Gr.new G.jh hp))
theorem k_tupD {tr : TA} (h : tr σ H fun xs H1 => xs.length ≤ sizeLine ∧ ∀ p, H1 p = none → ap Q (.ref p) (upd H1 p (.tup xs))) : tTup tr σ H Q := h
theorem k_lstD {tr : TA} (h : tr σ H fun xs H1 => xs.length ≤ sizeLine ∧ ∀ p, H1 p = none → ap Q (.ref p) (upd H1 p (.lst xs))) : tLst tr σ H Q := h
end
section
variable {X : Cx}
theorem pe_gint {x : Str} {i : Int} {pos : Pos} (hg : Gl X x) (h : ∃ t, X.mg x = some (.int i t)) (hd : (x == ("__debug__" : Str)) = false := by decide) : PE X (.Name x pos) (tC (.int i)) := by
  obtain ⟨t, e⟩ := h
  exact pe_glob hg e ⟨t, rfl⟩ hd
theorem pe_gstr {x z : Str} {pos : Pos} (hg : Gl X x) (h : ∃ t, X.mg x = some (.str z t)) (hd : (x == ("__debug__" : Str)) = false := by decide) : PE X (.Name x pos) (tC (.str z)) := by
  obtain ⟨t, e⟩ := h
  exact pe_glob hg e ⟨t, rfl⟩ hd
end
/-! ### rules under names of their own -/
def rAbs : List V → Hp → VK → Prop := fun xs H Q => ∃ i, xs = [.int i] ∧ Q (.int (if i < 0 then -i else i)) H
def rMin2 : List V → Hp → VK → Prop := fun xs H Q => ∃ i j, xs = [.int i, .int j] ∧ Q (.int (if j < i then j else i)) H
def rInt : List V → Hp → VK → Prop := fun xs H Q => (∃ i, xs = [.int i] ∧ Q (.int i) H) ∨ ∃ k, xs = [.bl k] ∧ Q (.int (if k then 1 else 0)) H
def rLen (K : PySem.W.Frag) : List V → Hp → VK → Prop := fun xs H Q => ∃ x n, xs = [x] ∧ LenV K x H n ∧ Q (.int n) H
def rListOf (K : PySem.W.Frag) : List V → Hp → VK → Prop := fun xs H Q => ∃ p ys, xs = [.ref p] ∧ (SqL K H p ys ∨ SqT K H p ys) ∧ ∀ l, H l = none → Q (.ref l) (upd H l (.lst ys))
def rTupOf (K : PySem.W.Frag) : List V → Hp → VK → Prop := fun xs H Q => ∃ p ys, xs = [.ref p] ∧ ((SqL K H p ys ∧ ∀ l, H l = none → Q (.ref l) (upd H l (.tup ys))) ∨ (SqT K H p ys ∧ Q (.ref p) H))
def rDictP (K : PySem.W.Frag) : List V → Hp → VK → Prop := fun xs H Q => ∃ (a : Addr) (ps : List Addr) (kvs : List (Key × V)), xs = [.ref a] ∧ SqL K H a (ps.map V.ref) ∧ Paired (fun p kv => SqT K H p [kV kv.1, kv.2]) ps kvs ∧ ∀ p, H p = none → Q (.ref p) (upd H p (.dK (mergeK [] kvs)))
def rLenDK : List V → Hp → VK → Prop := fun xs H Q => ∃ a kvs, xs = [V.ref a] ∧ H a = some (.dK kvs) ∧ Q (.int kvs.length) H
/-- one text in another -/
def hasS (x y : Str) : Bool := !(Builtin.Str.occurrences y x 0 y.length 1).isEmpty
def rInS : R2 := fun x y H Q => ∃ i j, x = .str i ∧ y = .str j ∧ Q (.bl (hasS i j)) H
def rNinS : R2 := fun x y H Q => ∃ i j, x = .str i ∧ y = .str j ∧ Q (.bl (!hasS i j)) H
def rIsN : R2 := fun x y H Q => y = .non ∧ Q (.bl (decide (x = .non))) H
def rNotN : R2 := fun x y H Q => y = .non ∧ Q (.bl (!decide (x = .non))) H
def rAddS : R2 := fun x y H Q => ∃ i j, x = .str i ∧ y = .str j ∧ i.length + j.length ≤ sizeLine ∧ Q (.str (i ++ j)) H
def tTru (K : PySem.W.Frag) (ta : TE) : TT := fun σ H Q => ta σ H fun x H' => ∃ k, TruV K x H' k ∧ Q k H'
section
variable {X : Cx}
theorem c_abs : CallR X (.builtin "abs") rAbs := call_abs
theorem c_min2 (hc : X.calm = true) : CallR X (.builtin "min") rMin2 := call_min2 hc
theorem c_int : CallR X (.type "int") rInt := call_int1
theorem c_len : CallR X (.builtin "len") (rLen X.K) := call_len
theorem c_list : CallR X (.type "list") (rListOf X.K) := call_list_of
theorem c_tuple : CallR X (.type "tuple") (rTupOf X.K) := call_tuple_of
theorem c_dict (hc : X.calm = true) : CallR X (.type "dict") (rDictP X.K) := call_dictP hc
theorem o_inS : OpR X (compareOp .In) rInS := op_in_str
theorem o_ninS : OpR X (compareOp .NotIn) rNinS := op_notin_str
theorem o_isN : OpR X (compareOp .Is) rIsN := op_isN
theorem o_notN : OpR X (compareOp .IsNot) rNotN := op_notN
theorem o_addS : OpR X (binaryOp .Add) rAddS := op_add_str
theorem pt_tru {a : Expr} {ta : TE} (ha : PE X a ta) (he : ∀ whole, isTrue a X.env whole = (do let v ← whole; standAt a.pos; holding [v] (truthy v))) : PT X a (tTru X.K ta) := pt_truth ha he
end
/-! ### the same with the written part named -/
section
variable {X : Cx} (K : PySem.W.Frag)
theorem xT (h : X.K = K := by rfl) : IxR X (rIxT K) := h ▸ ix_tup
theorem xL (h : X.K = K := by rfl) : IxR X (rIxL K) := h ▸ ix_list
theorem sTA (h : X.K = K := by rfl) : SlR X (rSlA K) := h ▸ sl_tupA
theorem sL (h : X.K = K := by rfl) : SlR X (rSlL K) := h ▸ sl_list
theorem cLen (h : X.K = K := by rfl) : CallR X (.builtin "len") (rLen K) := h ▸ c_len
theorem cList (h : X.K = K := by rfl) : CallR X (.type "list") (rListOf K) := h ▸ c_list
theorem cTup (h : X.K = K := by rfl) : CallR X (.type "tuple") (rTupOf K) := h ▸ c_tuple
theorem cDict (hc : X.calm = true) (h : X.K = K := by rfl) : CallR X (.type "dict") (rDictP K) := h ▸ c_dict hc
theorem cAll (hc : X.calm = true) (h : X.K = K := by rfl) : CallR X (.builtin "all") (rAll K) := h ▸ cr_all hc
theorem cIsi (h : X.K = K := by rfl) : CallR X (.builtin "isinstance") (rIsi K) := h ▸ call_isi
theorem oInSeq (h : X.K = K := by rfl) : OpR X (compareOp .In) (rIn K false) := h ▸ op_in_seq
theorem oNinSeq (h : X.K = K := by rfl) : OpR X (compareOp .NotIn) (rIn K true) := h ▸ op_notIn_seq
theorem oEqD (hu : X.A.units + 64 < cLine) (h : X.K = K := by rfl) : OpR X (compareOp .Eq) (rEqD K) := h ▸ op_eqD hu
theorem oNeD (hu : X.A.units + 64 < cLine) (h : X.K = K := by rfl) : OpR X (compareOp .NotEq) (rNeD K) := h ▸ op_neD hu
theorem oNinD (hu : X.A.units + 65 < cLine) (h : X.K = K := by rfl) : OpR X (compareOp .NotIn) (rNotInD K) := h ▸ op_notInD hu
theorem oCatA (h : X.K = K := by rfl) : OpR X (binaryOp .Add) (rCatA K) := h ▸ op_catA
theorem ptTru {a : Expr} {ta : TE} (ha : PE X a ta) (he : ∀ whole, isTrue a X.env whole = (do let v ← whole; standAt a.pos; holding [v] (truthy v))) (h : X.K = K := by rfl) : PT X a (tTru K ta) := h ▸ pt_tru ha he
theorem pFld {e : Expr} {f : Str} {pos : Pos} {ta : TE} (ha : PE X e ta) (hb : attributeBase e f X.env (eval e X.env) = eval e X.env) (h : X.K = K := by rfl) : PE X (.Attribute e f pos) (tFld K ta f) := h ▸ pe_fld ha hb
theorem pNotT {a : Expr} {pos : Pos} {ta : TE} (ha : PE X a ta) (h : X.K = K := by rfl) : PE X (.UnaryOp .Not a pos) (tNotT K ta) := h ▸ pe_notT ha
end
/-! ### y = {k: v for ..}, y a local -/
section
variable {X : Cx}
theorem ps_setDc {i : Nat} {y : Str} {py : Pos} {kx vx tg iter : Expr} {ifs : List Expr} {scope : Scope} {own : List (Str × Nat)} {pos spos : Pos} {wi : TI} {g : TG} {tt : TT} {tk tv : TE} (hc : X.calm = true) (hN : X.N.Nodup) (hy : X.N[i]? = some y) (hyl : X.env.scope.names.lookup y = some .local)
    (hsw : swapsWith (.DictComp kx vx [⟨tg, iter, ifs, 0⟩] scope pos) (some (.Name y py)) spos.line X.env = pure true) (hi : PI X tg iter wi) (ok : BlkOk X.N X.env.scope scope own)
    (hg : ∀ (s : Shared) (H : Hp) (C : Addr) (cl : List (Str × Addr)) (fp : List Addr), PG (X.blk s H scope (compEnvC scope cl C X.env) fp) tg g) (ht : ∀ (s : Shared) (H : Hp) (C : Addr) (cl : List (Str × Addr)) (fp : List Addr), PTs (X.blk s H scope (compEnvC scope cl C X.env) fp) ifs tt)
    (hk : ∀ (s : Shared) (H : Hp) (C : Addr) (cl : List (Str × Addr)) (fp : List Addr), PE (X.blk s H scope (compEnvC scope cl C X.env) fp) kx tk)
    (he : ∀ (s : Shared) (H : Hp) (C : Addr) (cl : List (Str × Addr)) (fp : List Addr), PE (X.blk s H scope (compEnvC scope cl C X.env) fp) vx tv) (hs : ∀ x, foldedSetIterable iter X.env x = pure x := by intro _; rfl) :
    PS X (.Assign [.Name y py] (.DictComp kx vx [⟨tg, iter, ifs, 0⟩] scope pos) spos) (tAsg (tDc wi g tt tk tv (own.map (·.2))) (gName i)) := by
  refine ⟨fun pins s σ H D I h => ?_⟩
  rw [exec_Assign_Name_used _ _ _ _ hsw]
  refine wpAny_bind (wpAny_standAt (wpAny_bind ?_))
  show wpAny _ X.A (do let _ ← comprehension (.DictComp kx vx [⟨tg, iter, ifs, 0⟩] scope pos) scope X.env (firstIterPos [⟨tg, iter, ifs, 0⟩] pos) newDict false (eval iter X.env) (some (assign (.Name y py) X.env))) _ _ s
  have h : tDc wi g tt tk tv (own.map (·.2)) σ H (fun x H1 => gName i x σ H1 D.nx) := h
  refine wpAny_bind (thn (dc_core (Qf := fun _ s' => SP X pins D .next s') hc hN I hi ok hg ht hk he hs h fun L C s' m H' I' q hn f => ?_) fun _ s' hq => wpAny_pure (wpAny_pure hq))
  show wpAny _ _ (assign (.Name y py) X.env (.ref L)) _ _ _
  refine wpAny_assign_Name (store_ok2 (v := V.ref L) I' hN hy (.inl hyl) rfl (fun s2 I2 ⟨a, sb, ha⟩ => ?_) (.inr hyl))
  obtain ⟨f0, f1, f2, f3, f4, f5⟩ := f
  have haC : C ≠ a := by
    rcases ha with z | z
    · rw [z]; exact f1
    · exact fun e => f4 y a z e.symm
  refine ⟨m, hn.sameBut sb haC, fun h3 sb3 => ?_⟩
  exact ⟨_, H', I2.turned (t' := s2.toks) (fun b o hb e => (sb3.2 b hb).trans e) f0 f1 f3 f4 f5, q⟩
theorem swD_true {kx vx : Expr} {gs : List Comprehension} {scope : Scope} {pos py : Pos} {y : Str} {l : Nat} {env : Env} (hk : env.scope.kind = .function) (hy : env.scope.names.lookup y = some .local) (hl : (py.line == pos.line) = true)
    (ha : (scope.names.any fun (n, k) => n == y && (k == .local || k == .cell)) = false) : swapsWith (.DictComp kx vx gs scope pos) (some (.Name y py)) l env = pure true := by
  have ky : env.kindOf y = some .local := hy
  have hb : env.blockKind = .function := by unfold Env.blockKind; rw [hk]; rfl
  unfold swapsWith
  simp only [hb, ky, ha, Expr.pos, hl]
  rfl
end
section
variable {X : Cx} (K : PySem.W.Frag)
theorem pgT {es : List Expr} {k : Nat} {n : Nat} {pos : Pos} {t : TGs} (hc : X.calm = true) (h : PGs X es t)
    (hn : (assignEach es X.env).length = n := by rfl) (hst : (assignEach es X.env).findIdx? (·.1) = none := by rfl) (e : X.K = K := by rfl) : PG X (.Tuple es k pos) (gTup K n t) := e ▸ pg_tup hc h hn hst
theorem pgU {es : List Expr} {k : Nat} {n : Nat} {pos : Pos} {t : TGs} (hc : X.calm = true) (h : PGs X es t)
    (hn : (assignEach es X.env).length = n := by rfl) (hst : (assignEach es X.env).findIdx? (·.1) = none := by rfl) (e : X.K = K := by rfl) : PG X (.Tuple es k pos) (gUnl K n t) := e ▸ pg_unl hc h hn hst
end
section
variable {X : Cx} (K : PySem.W.Frag)
theorem piL {tg l : Expr} {tl : TE} (h : PE X l tl) (e : X.K = K := by rfl) : PI X tg l (iList K tl) := e ▸ pi_list h
theorem piT {tg l : Expr} {tl : TE} (h : PE X l tl) (e : X.K = K := by rfl) : PI X tg l (iTup K tl) := e ▸ pi_tup h
end
section
variable {σ : L2.St} {H : Hp} {Q : VK} {D : Ends} {K : PySem.W.Frag} {v : V}
theorem k_isNo {x : V} (h : Q (.bl (decide (x = .non))) H) : rIsN x .non H Q := ⟨rfl, h⟩
theorem k_notNo {x : V} (h : Q (.bl (!decide (x = .non))) H) : rNotN x .non H Q := ⟨rfl, h⟩
theorem k_lenL {p : Addr} {xs : List V} (h : H p = some (.lst xs)) (k : Q (.int (xs.length : Int)) H) : rLen K [.ref p] H Q := ⟨.ref p, xs.length, rfl, .inl ⟨xs, SqL.of h, rfl⟩, k⟩
theorem k_lenT {p : Addr} {xs : List V} (h : H p = some (.tup xs)) (k : Q (.int (xs.length : Int)) H) : rLen K [.ref p] H Q := ⟨.ref p, xs.length, rfl, .inr ⟨xs, SqT.of h, rfl⟩, k⟩
theorem k_inS {x y : Str} (k : Q (.bl (hasS x y)) H) : rInS (.str x) (.str y) H Q := ⟨x, y, rfl, rfl, k⟩
theorem k_ninS {x y : Str} (k : Q (.bl (!hasS x y)) H) : rNinS (.str x) (.str y) H Q := ⟨x, y, rfl, rfl, k⟩
theorem k_brk (h : D.bk σ H) : tBreak D σ H := h
theorem k_cnt (h : D.ct σ H) : tCont D σ H := h
end
section
variable {H : Hp} {Q : VK}
theorem k_lstC {M0 : Addr → Prop} {J0 H0 J : Hp} {x : V} {xs : List V} (G : Gr M0 J0 H0 J H) (hl : (x :: xs).length ≤ sizeLine) (k : ∀ p J' H', H p = none → Ex J J' → J' p = some (.lst (x :: xs)) → Gr No J H J' H' → Gr M0 J0 H0 J' H' → Q (.ref p) H') :
    (x :: xs).length ≤ sizeLine ∧ ∀ p, H p = none → ap Q (.ref p) (upd H p (.lst (x :: xs))) := k_lst G hl k
end
section
variable {P : Program} {w : World} {K : PySem.W.Frag} {mg : Str → Option Value} {base : Heap}
/-- a def that is never called -/
theorem ok_never {k : Nat} {f : Addr} {fd : FuncData} {ps : List Str} : FnOk P w K mg base CX0 k f fd ps (fun _ _ _ _ => False) :=
  ⟨fun _ _ _ _ h => h.elim, fun _ _ _ _ _ _ _ _ _ _ _ _ _ h => h.elim⟩
end
theorem at0 {x : V} {xs : List V} : atI (x :: xs) 0 = some x := atI_nat (j := 0) rfl
theorem at1 {x y : V} {xs : List V} : atI (x :: y :: xs) 1 = some y := atI_nat (j := 1) rfl
end Rk
namespace Rk
open PySem PySem.Spec PyProof.Rows L2
/-- what the head tells: the written part, the module's names -/
structure Good (K : PySem.W.Frag) (mg : Str → Option Value) : Prop where
  says : He.SaysD fa fn K
  tab : tabB K = true
  heap : ∃ h : Heap, K.In h ∧ h.Ns mainGlobals mg
def fdOf (K : PySem.W.Frag) (f : Addr) : FuncData := match K.lookup f with
  | some ⟨_, _, .func fd, _⟩ => fd
  | _ => PySem.W.fnOf "" "" (defArgs (.Pass ⟨0, 0, 0, 0⟩)) [] (defScope (.Pass ⟨0, 0, 0, 0⟩)) .none .none .none .none none .none .none
section
variable {K : PySem.W.Frag} {mg : Str → Option Value}
theorem Good.glo (T : Good K mg) (i : Nat) {x : Str} (h : fa[i]? = some (.glo x)) : mg x = some (.ref (He.ga K x)) := by
  obtain ⟨hp, X, G⟩ := T.heap
  exact He.glo_ok X G (T.says.fact i h)
theorem Good.free (T : Good K mg) (i : Nat) {x : Str} (h : fa[i]? = some (.free x)) : mg x = none := by
  obtain ⟨hp, X, G⟩ := T.heap
  exact He.free_ok X G (T.says.fact i h)
theorem Good.int (T : Good K mg) (i : Nat) {x : Str} {n : Int} (h : fa[i]? = some (.int x n)) : ∃ t, mg x = some (.int n t) := by
  obtain ⟨hp, X, G⟩ := T.heap
  exact He.int_ok X G (T.says.fact i h)
theorem Good.str (T : Good K mg) (i : Nat) {x z : Str} (h : fa[i]? = some (.str x z)) : ∃ t, mg x = some (.str z t) := by
  obtain ⟨hp, X, G⟩ := T.heap
  exact He.str_ok X G (T.says.fact i h)
theorem Good.def_ (T : Good K mg) (i : Nat) {d : He.DefD} (h : fn[i]? = some d) (h1 : d.dfl = []) (h2 : d.kwd = []) : FunD K d.name d.qual d.params d.body d.scope [] [] (He.fAd K d.at_) (fdOf K (He.fAd K d.at_)) := by
  obtain ⟨fd, F⟩ := T.says.def_ i h
  have e1 : d.dvs K = [] := by unfold He.DefD.dvs; rw [h1]; rfl
  have e2 : d.kws K = [] := by unfold He.DefD.kws; rw [h2]; rfl
  rw [e1, e2] at F
  obtain ⟨oc, od, dV, kV, doc, pm, an, cdv, ct, osl, e, lk, r⟩ := F.ex
  have e3 : fdOf K (He.fAd K d.at_) = fd := by
    unfold fdOf
    rw [lk]
  rw [e3]
  exact F
theorem gRightsError (T : Good K mg) : mg "RightsError" = some (.ref (He.ga K "RightsError")) := T.glo 0 rfl
theorem gis_number (T : Good K mg) : mg "is_number" = some (.ref (He.ga K "is_number")) := T.glo 1 rfl
theorem gis_name (T : Good K mg) : mg "is_name" = some (.ref (He.ga K "is_name")) := T.glo 2 rfl
theorem gis_place (T : Good K mg) : mg "is_place" = some (.ref (He.ga K "is_place")) := T.glo 3 rfl
theorem gis_source (T : Good K mg) : mg "is_source" = some (.ref (He.ga K "is_source")) := T.glo 4 rfl
theorem gis_statement (T : Good K mg) : mg "is_statement" = some (.ref (He.ga K "is_statement")) := T.glo 5 rfl
theorem gcopied (T : Good K mg) : mg "copied" = some (.ref (He.ga K "copied")) := T.glo 6 rfl
theorem g_copied (T : Good K mg) : mg "_copied" = some (.ref (He.ga K "_copied")) := T.glo 7 rfl
theorem gis_right (T : Good K mg) : mg "is_right" = some (.ref (He.ga K "is_right")) := T.glo 8 rfl
theorem gis_value_type (T : Good K mg) : mg "is_value_type" = some (.ref (He.ga K "is_value_type")) := T.glo 9 rfl
theorem gis_type (T : Good K mg) : mg "is_type" = some (.ref (He.ga K "is_type")) := T.glo 10 rfl
theorem gconverts (T : Good K mg) : mg "converts" = some (.ref (He.ga K "converts")) := T.glo 11 rfl
theorem g_find (T : Good K mg) : mg "_find" = some (.ref (He.ga K "_find")) := T.glo 12 rfl
theorem gFunction (T : Good K mg) : mg "Function" = some (.ref (He.ga K "Function")) := T.glo 13 rfl
theorem gis_depth (T : Good K mg) : mg "is_depth" = some (.ref (He.ga K "is_depth")) := T.glo 14 rfl
theorem g_is_parameter (T : Good K mg) : mg "_is_parameter" = some (.ref (He.ga K "_is_parameter")) := T.glo 15 rfl
theorem g_is_block (T : Good K mg) : mg "_is_block" = some (.ref (He.ga K "_is_block")) := T.glo 16 rfl
theorem g_is_function (T : Good K mg) : mg "_is_function" = some (.ref (He.ga K "_is_function")) := T.glo 17 rfl
theorem g_made (T : Good K mg) : mg "_made" = some (.ref (He.ga K "_made")) := T.glo 18 rfl
theorem g_are_calls (T : Good K mg) : mg "_are_calls" = some (.ref (He.ga K "_are_calls")) := T.glo 19 rfl
theorem g_is_program (T : Good K mg) : mg "_is_program" = some (.ref (He.ga K "_is_program")) := T.glo 20 rfl
theorem gnames_of (T : Good K mg) : mg "names_of" = some (.ref (He.ga K "names_of")) := T.glo 21 rfl
theorem gProgram (T : Good K mg) : mg "Program" = some (.ref (He.ga K "Program")) := T.glo 22 rfl
theorem g_typed (T : Good K mg) : mg "_typed" = some (.ref (He.ga K "_typed")) := T.glo 23 rfl
theorem gwith_table (T : Good K mg) : mg "with_table" = some (.ref (He.ga K "with_table")) := T.glo 24 rfl
theorem gfunction_of (T : Good K mg) : mg "function_of" = some (.ref (He.ga K "function_of")) := T.glo 25 rfl
theorem gThing (T : Good K mg) : mg "Thing" = some (.ref (He.ga K "Thing")) := T.glo 26 rfl
theorem gWorld (T : Good K mg) : mg "World" = some (.ref (He.ga K "World")) := T.glo 27 rfl
theorem g_thing_at (T : Good K mg) : mg "_thing_at" = some (.ref (He.ga K "_thing_at")) := T.glo 28 rfl
theorem g_looked_up (T : Good K mg) : mg "_looked_up" = some (.ref (He.ga K "_looked_up")) := T.glo 29 rfl
theorem g_all_looked_up (T : Good K mg) : mg "_all_looked_up" = some (.ref (He.ga K "_all_looked_up")) := T.glo 30 rfl
theorem g_call (T : Good K mg) : mg "_call" = some (.ref (He.ga K "_call")) := T.glo 31 rfl
theorem g_put (T : Good K mg) : mg "_put" = some (.ref (He.ga K "_put")) := T.glo 32 rfl
theorem gact (T : Good K mg) : mg "act" = some (.ref (He.ga K "act")) := T.glo 33 rfl
theorem gact_all (T : Good K mg) : mg "act_all" = some (.ref (He.ga K "act_all")) := T.glo 34 rfl
theorem gshown_things (T : Good K mg) : mg "shown_things" = some (.ref (He.ga K "shown_things")) := T.glo 35 rfl
theorem gplace_fault (T : Good K mg) : mg "place_fault" = some (.ref (He.ga K "place_fault")) := T.glo 36 rfl
theorem gseen_type (T : Good K mg) : mg "seen_type" = some (.ref (He.ga K "seen_type")) := T.glo 37 rfl
theorem g_conversion_fault (T : Good K mg) : mg "_conversion_fault" = some (.ref (He.ga K "_conversion_fault")) := T.glo 38 rfl
theorem gsource_fault (T : Good K mg) : mg "source_fault" = some (.ref (He.ga K "source_fault")) := T.glo 39 rfl
theorem g_put_fault (T : Good K mg) : mg "_put_fault" = some (.ref (He.ga K "_put_fault")) := T.glo 40 rfl
theorem gstatement_fault (T : Good K mg) : mg "statement_fault" = some (.ref (He.ga K "statement_fault")) := T.glo 41 rfl
theorem gblock_faults (T : Good K mg) : mg "block_faults" = some (.ref (He.ga K "block_faults")) := T.glo 42 rfl
theorem gfaults (T : Good K mg) : mg "faults" = some (.ref (He.ga K "faults")) := T.glo 43 rfl
theorem gis_let_by (T : Good K mg) : mg "is_let_by" = some (.ref (He.ga K "is_let_by")) := T.glo 44 rfl
theorem grun (T : Good K mg) : mg "run" = some (.ref (He.ga K "run")) := T.glo 45 rfl
theorem g_law_cell (T : Good K mg) : mg "_law_cell" = some (.ref (He.ga K "_law_cell")) := T.glo 46 rfl
theorem g_law_row (T : Good K mg) : mg "_law_row" = some (.ref (He.ga K "_law_row")) := T.glo 47 rfl
theorem g_law_draw (T : Good K mg) : mg "_law_draw" = some (.ref (He.ga K "_law_draw")) := T.glo 48 rfl
theorem g_law_right (T : Good K mg) : mg "_law_right" = some (.ref (He.ga K "_law_right")) := T.glo 49 rfl
theorem g_law_rights (T : Good K mg) : mg "_law_rights" = some (.ref (He.ga K "_law_rights")) := T.glo 50 rfl
theorem g_law_within (T : Good K mg) : mg "_law_within" = some (.ref (He.ga K "_law_within")) := T.glo 51 rfl
theorem g_law_converts (T : Good K mg) : mg "_law_converts" = some (.ref (He.ga K "_law_converts")) := T.glo 52 rfl
theorem g_law_source (T : Good K mg) : mg "_law_source" = some (.ref (He.ga K "_law_source")) := T.glo 53 rfl
theorem g_law_statement (T : Good K mg) : mg "_law_statement" = some (.ref (He.ga K "_law_statement")) := T.glo 54 rfl
theorem g_law_names (T : Good K mg) : mg "_law_names" = some (.ref (He.ga K "_law_names")) := T.glo 55 rfl
theorem g_law_function (T : Good K mg) : mg "_law_function" = some (.ref (He.ga K "_law_function")) := T.glo 56 rfl
theorem g_law_program (T : Good K mg) : mg "_law_program" = some (.ref (He.ga K "_law_program")) := T.glo 57 rfl
theorem g_law_made (T : Good K mg) : mg "_law_made" = some (.ref (He.ga K "_law_made")) := T.glo 58 rfl
theorem g_law_reached (T : Good K mg) : mg "_law_reached" = some (.ref (He.ga K "_law_reached")) := T.glo 59 rfl
theorem g_law_source_fault (T : Good K mg) : mg "_law_source_fault" = some (.ref (He.ga K "_law_source_fault")) := T.glo 60 rfl
theorem g_law_fault (T : Good K mg) : mg "_law_fault" = some (.ref (He.ga K "_law_fault")) := T.glo 61 rfl
theorem g_law_block_faults (T : Good K mg) : mg "_law_block_faults" = some (.ref (He.ga K "_law_block_faults")) := T.glo 62 rfl
theorem g_law_faults (T : Good K mg) : mg "_law_faults" = some (.ref (He.ga K "_law_faults")) := T.glo 63 rfl
theorem g_law_look (T : Good K mg) : mg "_law_look" = some (.ref (He.ga K "_law_look")) := T.glo 64 rfl
theorem g_law_give (T : Good K mg) : mg "_law_give" = some (.ref (He.ga K "_law_give")) := T.glo 65 rfl
theorem g_law_new (T : Good K mg) : mg "_law_new" = some (.ref (He.ga K "_law_new")) := T.glo 66 rfl
theorem g_law_put (T : Good K mg) : mg "_law_put" = some (.ref (He.ga K "_law_put")) := T.glo 67 rfl
theorem g_law_execute (T : Good K mg) : mg "_law_execute" = some (.ref (He.ga K "_law_execute")) := T.glo 68 rfl
theorem g_law_run (T : Good K mg) : mg "_law_run" = some (.ref (He.ga K "_law_run")) := T.glo 69 rfl
theorem g_law_things (T : Good K mg) : mg "_law_things" = some (.ref (He.ga K "_law_things")) := T.glo 70 rfl
theorem g_law_depths (T : Good K mg) : mg "_law_depths" = some (.ref (He.ga K "_law_depths")) := T.glo 71 rfl
theorem g_law_sketch (T : Good K mg) : mg "_law_sketch" = some (.ref (He.ga K "_law_sketch")) := T.glo 72 rfl
theorem g_law_kinds (T : Good K mg) : mg "_law_kinds" = some (.ref (He.ga K "_law_kinds")) := T.glo 73 rfl
theorem g_law_typed_block (T : Good K mg) : mg "_law_typed_block" = some (.ref (He.ga K "_law_typed_block")) := T.glo 74 rfl
theorem g_law_typed (T : Good K mg) : mg "_law_typed" = some (.ref (He.ga K "_law_typed")) := T.glo 75 rfl
theorem g_law_open (T : Good K mg) : mg "_law_open" = some (.ref (He.ga K "_law_open")) := T.glo 76 rfl
theorem g_law_shape_faults (T : Good K mg) : mg "_law_shape_faults" = some (.ref (He.ga K "_law_shape_faults")) := T.glo 77 rfl
theorem g_law_plain_source (T : Good K mg) : mg "_law_plain_source" = some (.ref (He.ga K "_law_plain_source")) := T.glo 78 rfl
theorem g_law_mended_block (T : Good K mg) : mg "_law_mended_block" = some (.ref (He.ga K "_law_mended_block")) := T.glo 79 rfl
theorem g_law_shaped (T : Good K mg) : mg "_law_shaped" = some (.ref (He.ga K "_law_shaped")) := T.glo 80 rfl
theorem g_law_lists (T : Good K mg) : mg "_law_lists" = some (.ref (He.ga K "_law_lists")) := T.glo 81 rfl
theorem g_law_conversion_rules (T : Good K mg) : mg "_law_conversion_rules" = some (.ref (He.ga K "_law_conversion_rules")) := T.glo 82 rfl
theorem g_law_source_rules (T : Good K mg) : mg "_law_source_rules" = some (.ref (He.ga K "_law_source_rules")) := T.glo 83 rfl
theorem g_law_rules (T : Good K mg) : mg "_law_rules" = some (.ref (He.ga K "_law_rules")) := T.glo 84 rfl
theorem g_law_places (T : Good K mg) : mg "_law_places" = some (.ref (He.ga K "_law_places")) := T.glo 85 rfl
theorem g_law_all_rules (T : Good K mg) : mg "_law_all_rules" = some (.ref (He.ga K "_law_all_rules")) := T.glo 86 rfl
theorem g_law_closed (T : Good K mg) : mg "_law_closed" = some (.ref (He.ga K "_law_closed")) := T.glo 87 rfl
theorem g_law_table (T : Good K mg) : mg "_law_table" = some (.ref (He.ga K "_law_table")) := T.glo 88 rfl
theorem g_law_claims (T : Good K mg) : mg "_law_claims" = some (.ref (He.ga K "_law_claims")) := T.glo 89 rfl
theorem g_law_pair (T : Good K mg) : mg "_law_pair" = some (.ref (He.ga K "_law_pair")) := T.glo 90 rfl
theorem g_law_told (T : Good K mg) : mg "_law_told" = some (.ref (He.ga K "_law_told")) := T.glo 91 rfl
theorem glaw (T : Good K mg) : mg "law" = some (.ref (He.ga K "law")) := T.glo 92 rfl
theorem gRIGHTS (T : Good K mg) : mg "RIGHTS" = some (.ref (He.ga K "RIGHTS")) := T.glo 93 rfl
theorem iMOST_STARS (T : Good K mg) : ∃ t, mg "MOST_STARS" = some (.int 5 t) := T.int 94 rfl
theorem iMOST_DEPTH (T : Good K mg) : ∃ t, mg "MOST_DEPTH" = some (.int 5 t) := T.int 95 rfl
theorem iMOST_NUMBER (T : Good K mg) : ∃ t, mg "MOST_NUMBER" = some (.int 1000 t) := T.int 96 rfl
theorem iLONGEST_NAME (T : Good K mg) : ∃ t, mg "LONGEST_NAME" = some (.int 8 t) := T.int 97 rfl
theorem iMOST_RIGHTS (T : Good K mg) : ∃ t, mg "MOST_RIGHTS" = some (.int 6 t) := T.int 98 rfl
theorem iMOST_FUNCTIONS (T : Good K mg) : ∃ t, mg "MOST_FUNCTIONS" = some (.int 4 t) := T.int 99 rfl
theorem iMOST_PARAMETERS (T : Good K mg) : ∃ t, mg "MOST_PARAMETERS" = some (.int 4 t) := T.int 100 rfl
theorem iMOST_STATEMENTS (T : Good K mg) : ∃ t, mg "MOST_STATEMENTS" = some (.int 40 t) := T.int 101 rfl
theorem iMOST_BODY (T : Good K mg) : ∃ t, mg "MOST_BODY" = some (.int 12 t) := T.int 102 rfl
theorem iMOST_EXECUTED (T : Good K mg) : ∃ t, mg "MOST_EXECUTED" = some (.int 1000 t) := T.int 103 rfl
theorem tLETTERS (T : Good K mg) : ∃ t, mg "LETTERS" = some (.str "abcdefghijklmnopqrstuvwxyz" t) := T.str 104 rfl
theorem f_ValueError (T : Good K mg) : mg "ValueError" = none := T.free 105 rfl
theorem f_abs (T : Good K mg) : mg "abs" = none := T.free 106 rfl
theorem f_all (T : Good K mg) : mg "all" = none := T.free 107 rfl
theorem f_bool (T : Good K mg) : mg "bool" = none := T.free 108 rfl
theorem f_dict (T : Good K mg) : mg "dict" = none := T.free 109 rfl
theorem f_enumerate (T : Good K mg) : mg "enumerate" = none := T.free 110 rfl
theorem f_int (T : Good K mg) : mg "int" = none := T.free 111 rfl
theorem f_isinstance (T : Good K mg) : mg "isinstance" = none := T.free 112 rfl
theorem f_len (T : Good K mg) : mg "len" = none := T.free 113 rfl
theorem f_list (T : Good K mg) : mg "list" = none := T.free 114 rfl
theorem f_min (T : Good K mg) : mg "min" = none := T.free 115 rfl
theorem f_range (T : Good K mg) : mg "range" = none := T.free 116 rfl
theorem f_sorted (T : Good K mg) : mg "sorted" = none := T.free 117 rfl
theorem f_str (T : Good K mg) : mg "str" = none := T.free 118 rfl
theorem f_super (T : Good K mg) : mg "super" = none := T.free 119 rfl
theorem f_tuple (T : Good K mg) : mg "tuple" = none := T.free 120 rfl
theorem f_zip (T : Good K mg) : mg "zip" = none := T.free 121 rfl
theorem clFunction (T : Good K mg) : Cls K (He.ga K "Function") := He.cls_ok (T.says.fact 122 rfl)
theorem mkFunction (T : Good K mg) : Mk K (He.ga K "Function") (He.ma K (He.ga K "Function") "__init__") := He.mkr_ok (T.says.fact 123 rfl)
theorem naFunction_name (T : Good K mg) : NoAttr K (He.ga K "Function") "name" := He.noat_ok (T.says.fact 124 rfl)
theorem naFunction_params (T : Good K mg) : NoAttr K (He.ga K "Function") "params" := He.noat_ok (T.says.fact 125 rfl)
theorem naFunction_body (T : Good K mg) : NoAttr K (He.ga K "Function") "body" := He.noat_ok (T.says.fact 126 rfl)
theorem clProgram (T : Good K mg) : Cls K (He.ga K "Program") := He.cls_ok (T.says.fact 127 rfl)
theorem mkProgram (T : Good K mg) : Mk K (He.ga K "Program") (He.ma K (He.ga K "Program") "__init__") := He.mkr_ok (T.says.fact 128 rfl)
theorem naProgram_functions (T : Good K mg) : NoAttr K (He.ga K "Program") "functions" := He.noat_ok (T.says.fact 129 rfl)
theorem naProgram_statements (T : Good K mg) : NoAttr K (He.ga K "Program") "statements" := He.noat_ok (T.says.fact 130 rfl)
theorem clThing (T : Good K mg) : Cls K (He.ga K "Thing") := He.cls_ok (T.says.fact 131 rfl)
theorem mkThing (T : Good K mg) : Mk K (He.ga K "Thing") (He.ma K (He.ga K "Thing") "__init__") := He.mkr_ok (T.says.fact 132 rfl)
theorem naThing_name (T : Good K mg) : NoAttr K (He.ga K "Thing") "name" := He.noat_ok (T.says.fact 133 rfl)
theorem naThing_kind (T : Good K mg) : NoAttr K (He.ga K "Thing") "kind" := He.noat_ok (T.says.fact 134 rfl)
theorem naThing_value (T : Good K mg) : NoAttr K (He.ga K "Thing") "value" := He.noat_ok (T.says.fact 135 rfl)
theorem clWorld (T : Good K mg) : Cls K (He.ga K "World") := He.cls_ok (T.says.fact 136 rfl)
theorem mkWorld (T : Good K mg) : Mk K (He.ga K "World") (He.ma K (He.ga K "World") "__init__") := He.mkr_ok (T.says.fact 137 rfl)
theorem naWorld_things (T : Good K mg) : NoAttr K (He.ga K "World") "things" := He.noat_ok (T.says.fact 138 rfl)
theorem naWorld_breaches (T : Good K mg) : NoAttr K (He.ga K "World") "breaches" := He.noat_ok (T.says.fact 139 rfl)
theorem naWorld_executed (T : Good K mg) : NoAttr K (He.ga K "World") "executed" := He.noat_ok (T.says.fact 140 rfl)
theorem memake (T : Good K mg) : Meth K (He.ga K "World") "make" (He.ma K (He.ga K "World") "make") := He.meth_ok (T.says.fact 141 rfl)
theorem meread (T : Good K mg) : Meth K (He.ga K "World") "read" (He.ma K (He.ga K "World") "read") := He.meth_ok (T.says.fact 142 rfl)
theorem mewrite (T : Good K mg) : Meth K (He.ga K "World") "write" (He.ma K (He.ga K "World") "write") := He.meth_ok (T.says.fact 143 rfl)
def N_sIsNumber : List Str := ["thing", "most"]
theorem D_sIsNumber (T : Good K mg) : FunD K "is_number" "is_number" (defArgs sIsNumber) (defBody sIsNumber) (defScope sIsNumber) [] [] (He.ga K "is_number") (fdOf K (He.ga K "is_number")) := T.def_ 0 (d := dsIsNumber) rfl rfl rfl
theorem S_sIsNumber : FnScope ["thing", "most"] ["thing", "most"] (defScope sIsNumber) := ⟨rfl, rfl, rfl, by decide +kernel, rfl, by decide +kernel, by decide +kernel⟩
theorem B_sIsNumber (T : Good K mg) : Binds K (fdOf K (He.ga K "is_number")) ["thing", "most"] [] := (D_sIsNumber T).bindsN fun _ _ _ _ _ _ us hl => match us, hl with | [_, _], _ => rfl
def N_sIsName : List Str := ["thing", "letter"]
theorem D_sIsName (T : Good K mg) : FunD K "is_name" "is_name" (defArgs sIsName) (defBody sIsName) (defScope sIsName) [] [] (He.ga K "is_name") (fdOf K (He.ga K "is_name")) := T.def_ 1 (d := dsIsName) rfl rfl rfl
theorem S_sIsName : FnScope ["thing", "letter"] ["thing"] (defScope sIsName) := ⟨rfl, rfl, rfl, by decide +kernel, rfl, by decide +kernel, by decide +kernel⟩
theorem B_sIsName (T : Good K mg) : Binds K (fdOf K (He.ga K "is_name")) ["thing"] [] := (D_sIsName T).bindsN fun _ _ _ _ _ _ us hl => match us, hl with | [_], _ => rfl
def N_sIsPlace : List Str := ["thing"]
theorem D_sIsPlace (T : Good K mg) : FunD K "is_place" "is_place" (defArgs sIsPlace) (defBody sIsPlace) (defScope sIsPlace) [] [] (He.ga K "is_place") (fdOf K (He.ga K "is_place")) := T.def_ 2 (d := dsIsPlace) rfl rfl rfl
theorem S_sIsPlace : FnScope ["thing"] ["thing"] (defScope sIsPlace) := ⟨rfl, rfl, rfl, by decide +kernel, rfl, by decide +kernel, by decide +kernel⟩
theorem B_sIsPlace (T : Good K mg) : Binds K (fdOf K (He.ga K "is_place")) ["thing"] [] := (D_sIsPlace T).bindsN fun _ _ _ _ _ _ us hl => match us, hl with | [_], _ => rfl
def N_sIsSource : List Str := ["thing"]
theorem D_sIsSource (T : Good K mg) : FunD K "is_source" "is_source" (defArgs sIsSource) (defBody sIsSource) (defScope sIsSource) [] [] (He.ga K "is_source") (fdOf K (He.ga K "is_source")) := T.def_ 3 (d := dsIsSource) rfl rfl rfl
theorem S_sIsSource : FnScope ["thing"] ["thing"] (defScope sIsSource) := ⟨rfl, rfl, rfl, by decide +kernel, rfl, by decide +kernel, by decide +kernel⟩
theorem B_sIsSource (T : Good K mg) : Binds K (fdOf K (He.ga K "is_source")) ["thing"] [] := (D_sIsSource T).bindsN fun _ _ _ _ _ _ us hl => match us, hl with | [_], _ => rfl
def N_sIsStatement : List Str := ["thing", "is_kind", "source"]
theorem D_sIsStatement (T : Good K mg) : FunD K "is_statement" "is_statement" (defArgs sIsStatement) (defBody sIsStatement) (defScope sIsStatement) [] [] (He.ga K "is_statement") (fdOf K (He.ga K "is_statement")) := T.def_ 4 (d := dsIsStatement) rfl rfl rfl
theorem S_sIsStatement : FnScope ["thing", "is_kind", "source"] ["thing", "is_kind"] (defScope sIsStatement) := ⟨rfl, rfl, rfl, by decide +kernel, rfl, by decide +kernel, by decide +kernel⟩
theorem B_sIsStatement (T : Good K mg) : Binds K (fdOf K (He.ga K "is_statement")) ["thing", "is_kind"] [] := (D_sIsStatement T).bindsN fun _ _ _ _ _ _ us hl => match us, hl with | [_, _], _ => rfl
def N_sCopied : List Str := ["thing", "part"]
theorem D_sCopied (T : Good K mg) : FunD K "copied" "copied" (defArgs sCopied) (defBody sCopied) (defScope sCopied) [] [] (He.ga K "copied") (fdOf K (He.ga K "copied")) := T.def_ 5 (d := dsCopied) rfl rfl rfl
theorem S_sCopied : FnScope ["thing", "part"] ["thing"] (defScope sCopied) := ⟨rfl, rfl, rfl, by decide +kernel, rfl, by decide +kernel, by decide +kernel⟩
theorem B_sCopied (T : Good K mg) : Binds K (fdOf K (He.ga K "copied")) ["thing"] [] := (D_sCopied T).bindsN fun _ _ _ _ _ _ us hl => match us, hl with | [_], _ => rfl
def N_sCopiedPart : List Str := ["part", "item"]
theorem D_sCopiedPart (T : Good K mg) : FunD K "_copied" "_copied" (defArgs sCopiedPart) (defBody sCopiedPart) (defScope sCopiedPart) [] [] (He.ga K "_copied") (fdOf K (He.ga K "_copied")) := T.def_ 6 (d := dsCopiedPart) rfl rfl rfl
theorem S_sCopiedPart : FnScope ["part", "item"] ["part"] (defScope sCopiedPart) := ⟨rfl, rfl, rfl, by decide +kernel, rfl, by decide +kernel, by decide +kernel⟩
theorem B_sCopiedPart (T : Good K mg) : Binds K (fdOf K (He.ga K "_copied")) ["part"] [] := (D_sCopiedPart T).bindsN fun _ _ _ _ _ _ us hl => match us, hl with | [_], _ => rfl
def N_sIsRight : List Str := ["thing"]
theorem D_sIsRight (T : Good K mg) : FunD K "is_right" "is_right" (defArgs sIsRight) (defBody sIsRight) (defScope sIsRight) [] [] (He.ga K "is_right") (fdOf K (He.ga K "is_right")) := T.def_ 7 (d := dsIsRight) rfl rfl rfl
theorem S_sIsRight : FnScope ["thing"] ["thing"] (defScope sIsRight) := ⟨rfl, rfl, rfl, by decide +kernel, rfl, by decide +kernel, by decide +kernel⟩
theorem B_sIsRight (T : Good K mg) : Binds K (fdOf K (He.ga K "is_right")) ["thing"] [] := (D_sIsRight T).bindsN fun _ _ _ _ _ _ us hl => match us, hl with | [_], _ => rfl
def N_sIsValueType : List Str := ["thing", "right"]
theorem D_sIsValueType (T : Good K mg) : FunD K "is_value_type" "is_value_type" (defArgs sIsValueType) (defBody sIsValueType) (defScope sIsValueType) [] [] (He.ga K "is_value_type") (fdOf K (He.ga K "is_value_type")) := T.def_ 8 (d := dsIsValueType) rfl rfl rfl
theorem S_sIsValueType : FnScope ["thing", "right"] ["thing"] (defScope sIsValueType) := ⟨rfl, rfl, rfl, by decide +kernel, rfl, by decide +kernel, by decide +kernel⟩
theorem B_sIsValueType (T : Good K mg) : Binds K (fdOf K (He.ga K "is_value_type")) ["thing"] [] := (D_sIsValueType T).bindsN fun _ _ _ _ _ _ us hl => match us, hl with | [_], _ => rfl
def N_sIsType : List Str := ["thing"]
theorem D_sIsType (T : Good K mg) : FunD K "is_type" "is_type" (defArgs sIsType) (defBody sIsType) (defScope sIsType) [] [] (He.ga K "is_type") (fdOf K (He.ga K "is_type")) := T.def_ 9 (d := dsIsType) rfl rfl rfl
theorem S_sIsType : FnScope ["thing"] ["thing"] (defScope sIsType) := ⟨rfl, rfl, rfl, by decide +kernel, rfl, by decide +kernel, by decide +kernel⟩
theorem B_sIsType (T : Good K mg) : Binds K (fdOf K (He.ga K "is_type")) ["thing"] [] := (D_sIsType T).bindsN fun _ _ _ _ _ _ us hl => match us, hl with | [_], _ => rfl
def N_sConverts : List Str := ["one", "two"]
theorem D_sConverts (T : Good K mg) : FunD K "converts" "converts" (defArgs sConverts) (defBody sConverts) (defScope sConverts) [] [] (He.ga K "converts") (fdOf K (He.ga K "converts")) := T.def_ 10 (d := dsConverts) rfl rfl rfl
theorem S_sConverts : FnScope ["one", "two"] ["one", "two"] (defScope sConverts) := ⟨rfl, rfl, rfl, by decide +kernel, rfl, by decide +kernel, by decide +kernel⟩
theorem B_sConverts (T : Good K mg) : Binds K (fdOf K (He.ga K "converts")) ["one", "two"] [] := (D_sConverts T).bindsN fun _ _ _ _ _ _ us hl => match us, hl with | [_, _], _ => rfl
def N_sFind : List Str := ["one", "two", "letter", "told"]
theorem D_sFind (T : Good K mg) : FunD K "_find" "_find" (defArgs sFind) (defBody sFind) (defScope sFind) [] [] (He.ga K "_find") (fdOf K (He.ga K "_find")) := T.def_ 11 (d := dsFind) rfl rfl rfl
theorem S_sFind : FnScope ["one", "two", "letter", "told"] ["one", "two"] (defScope sFind) := ⟨rfl, rfl, rfl, by decide +kernel, rfl, by decide +kernel, by decide +kernel⟩
theorem B_sFind (T : Good K mg) : Binds K (fdOf K (He.ga K "_find")) ["one", "two"] [] := (D_sFind T).bindsN fun _ _ _ _ _ _ us hl => match us, hl with | [_, _], _ => rfl
def N_cFunctionInit : List Str := ["self", "name", "params", "body"]
theorem D_cFunctionInit (T : Good K mg) : FunD K "__init__" "Function.__init__" (defArgs cFunctionInit) (defBody cFunctionInit) (defScope cFunctionInit) [] [] (He.ma K (He.ga K "Function") "__init__") (fdOf K (He.ma K (He.ga K "Function") "__init__")) := T.def_ 12 (d := dcFunctionInit) rfl rfl rfl
theorem S_cFunctionInit : FnScope ["self", "name", "params", "body"] ["self", "name", "params", "body"] (defScope cFunctionInit) := ⟨rfl, rfl, rfl, by decide +kernel, rfl, by decide +kernel, by decide +kernel⟩
theorem B_cFunctionInit (T : Good K mg) : Binds K (fdOf K (He.ma K (He.ga K "Function") "__init__")) ["self", "name", "params", "body"] [] := (D_cFunctionInit T).bindsN fun _ _ _ _ _ _ us hl => match us, hl with | [_, _, _, _], _ => rfl
def N_sIsDepth : List Str := ["thing"]
theorem D_sIsDepth (T : Good K mg) : FunD K "is_depth" "is_depth" (defArgs sIsDepth) (defBody sIsDepth) (defScope sIsDepth) [] [] (He.ga K "is_depth") (fdOf K (He.ga K "is_depth")) := T.def_ 13 (d := dsIsDepth) rfl rfl rfl
theorem S_sIsDepth : FnScope ["thing"] ["thing"] (defScope sIsDepth) := ⟨rfl, rfl, rfl, by decide +kernel, rfl, by decide +kernel, by decide +kernel⟩
theorem B_sIsDepth (T : Good K mg) : Binds K (fdOf K (He.ga K "is_depth")) ["thing"] [] := (D_sIsDepth T).bindsN fun _ _ _ _ _ _ us hl => match us, hl with | [_], _ => rfl
def N_sIsParameter : List Str := ["thing", "is_kind"]
theorem D_sIsParameter (T : Good K mg) : FunD K "_is_parameter" "_is_parameter" (defArgs sIsParameter) (defBody sIsParameter) (defScope sIsParameter) [] [] (He.ga K "_is_parameter") (fdOf K (He.ga K "_is_parameter")) := T.def_ 14 (d := dsIsParameter) rfl rfl rfl
theorem S_sIsParameter : FnScope ["thing", "is_kind"] ["thing", "is_kind"] (defScope sIsParameter) := ⟨rfl, rfl, rfl, by decide +kernel, rfl, by decide +kernel, by decide +kernel⟩
theorem B_sIsParameter (T : Good K mg) : Binds K (fdOf K (He.ga K "_is_parameter")) ["thing", "is_kind"] [] := (D_sIsParameter T).bindsN fun _ _ _ _ _ _ us hl => match us, hl with | [_, _], _ => rfl
def N_sIsBlock : List Str := ["thing", "most", "is_kind", "statement"]
theorem D_sIsBlock (T : Good K mg) : FunD K "_is_block" "_is_block" (defArgs sIsBlock) (defBody sIsBlock) (defScope sIsBlock) [] [] (He.ga K "_is_block") (fdOf K (He.ga K "_is_block")) := T.def_ 15 (d := dsIsBlock) rfl rfl rfl
theorem S_sIsBlock : FnScope ["thing", "most", "is_kind", "statement"] ["thing", "most", "is_kind"] (defScope sIsBlock) := ⟨rfl, rfl, rfl, by decide +kernel, rfl, by decide +kernel, by decide +kernel⟩
theorem B_sIsBlock (T : Good K mg) : Binds K (fdOf K (He.ga K "_is_block")) ["thing", "most", "is_kind"] [] := (D_sIsBlock T).bindsN fun _ _ _ _ _ _ us hl => match us, hl with | [_, _, _], _ => rfl
def N_sIsFunction : List Str := ["thing", "is_kind", "told"]
theorem D_sIsFunction (T : Good K mg) : FunD K "_is_function" "_is_function" (defArgs sIsFunction) (defBody sIsFunction) (defScope sIsFunction) [] [] (He.ga K "_is_function") (fdOf K (He.ga K "_is_function")) := T.def_ 16 (d := dsIsFunction) rfl rfl rfl
theorem S_sIsFunction : FnScope ["thing", "is_kind", "told"] ["thing", "is_kind"] (defScope sIsFunction) := ⟨rfl, rfl, rfl, by decide +kernel, rfl, by decide +kernel, by decide +kernel⟩
theorem B_sIsFunction (T : Good K mg) : Binds K (fdOf K (He.ga K "_is_function")) ["thing", "is_kind"] [] := (D_sIsFunction T).bindsN fun _ _ _ _ _ _ us hl => match us, hl with | [_, _], _ => rfl
def N_sMade : List Str := ["statements", "statement"]
theorem D_sMade (T : Good K mg) : FunD K "_made" "_made" (defArgs sMade) (defBody sMade) (defScope sMade) [] [] (He.ga K "_made") (fdOf K (He.ga K "_made")) := T.def_ 17 (d := dsMade) rfl rfl rfl
theorem S_sMade : FnScope ["statements", "statement"] ["statements"] (defScope sMade) := ⟨rfl, rfl, rfl, by decide +kernel, rfl, by decide +kernel, by decide +kernel⟩
theorem B_sMade (T : Good K mg) : Binds K (fdOf K (He.ga K "_made")) ["statements"] [] := (D_sMade T).bindsN fun _ _ _ _ _ _ us hl => match us, hl with | [_], _ => rfl
def N_sAreCalls : List Str := ["statements", "functions", "counts", "statement", "function"]
theorem D_sAreCalls (T : Good K mg) : FunD K "_are_calls" "_are_calls" (defArgs sAreCalls) (defBody sAreCalls) (defScope sAreCalls) [] [] (He.ga K "_are_calls") (fdOf K (He.ga K "_are_calls")) := T.def_ 18 (d := dsAreCalls) rfl rfl rfl
theorem S_sAreCalls : FnScope ["statements", "functions", "counts", "statement", "function"] ["statements", "functions"] (defScope sAreCalls) := ⟨rfl, rfl, rfl, by decide +kernel, rfl, by decide +kernel, by decide +kernel⟩
theorem B_sAreCalls (T : Good K mg) : Binds K (fdOf K (He.ga K "_are_calls")) ["statements", "functions"] [] := (D_sAreCalls T).bindsN fun _ _ _ _ _ _ us hl => match us, hl with | [_, _], _ => rfl
def N_sIsProgram : List Str := ["functions", "statements", "is_kind", "names", "place", "function", "name"]
theorem D_sIsProgram (T : Good K mg) : FunD K "_is_program" "_is_program" (defArgs sIsProgram) (defBody sIsProgram) (defScope sIsProgram) [] [] (He.ga K "_is_program") (fdOf K (He.ga K "_is_program")) := T.def_ 19 (d := dsIsProgram) rfl rfl rfl
theorem S_sIsProgram : FnScope ["functions", "statements", "is_kind", "names", "place", "function", "name"] ["functions", "statements", "is_kind"] (defScope sIsProgram) := ⟨rfl, rfl, rfl, by decide +kernel, rfl, by decide +kernel, by decide +kernel⟩
theorem B_sIsProgram (T : Good K mg) : Binds K (fdOf K (He.ga K "_is_program")) ["functions", "statements", "is_kind"] [] := (D_sIsProgram T).bindsN fun _ _ _ _ _ _ us hl => match us, hl with | [_, _, _], _ => rfl
def N_sNamesOf : List Str := ["functions", "statements", "names", "function", "name", "kind"]
theorem D_sNamesOf (T : Good K mg) : FunD K "names_of" "names_of" (defArgs sNamesOf) (defBody sNamesOf) (defScope sNamesOf) [] [] (He.ga K "names_of") (fdOf K (He.ga K "names_of")) := T.def_ 20 (d := dsNamesOf) rfl rfl rfl
theorem S_sNamesOf : FnScope ["functions", "statements", "names", "function", "name", "kind"] ["functions", "statements"] (defScope sNamesOf) := ⟨rfl, rfl, rfl, by decide +kernel, rfl, by decide +kernel, by decide +kernel⟩
theorem B_sNamesOf (T : Good K mg) : Binds K (fdOf K (He.ga K "names_of")) ["functions", "statements"] [] := (D_sNamesOf T).bindsN fun _ _ _ _ _ _ us hl => match us, hl with | [_, _], _ => rfl
def N_cProgramInit : List Str := ["self", "functions", "statements", "told"]
theorem D_cProgramInit (T : Good K mg) : FunD K "__init__" "Program.__init__" (defArgs cProgramInit) (defBody cProgramInit) (defScope cProgramInit) [] [] (He.ma K (He.ga K "Program") "__init__") (fdOf K (He.ma K (He.ga K "Program") "__init__")) := T.def_ 21 (d := dcProgramInit) rfl rfl rfl
theorem S_cProgramInit : FnScope ["self", "functions", "statements", "told"] ["self", "functions", "statements"] (defScope cProgramInit) := ⟨rfl, rfl, rfl, by decide +kernel, rfl, by decide +kernel, by decide +kernel⟩
theorem B_cProgramInit (T : Good K mg) : Binds K (fdOf K (He.ma K (He.ga K "Program") "__init__")) ["self", "functions", "statements"] [] := (D_cProgramInit T).bindsN fun _ _ _ _ _ _ us hl => match us, hl with | [_, _, _], _ => rfl
def N_sTyped : List Str := ["statements", "table", "found", "statement"]
theorem D_sTyped (T : Good K mg) : FunD K "_typed" "_typed" (defArgs sTyped) (defBody sTyped) (defScope sTyped) [] [] (He.ga K "_typed") (fdOf K (He.ga K "_typed")) := T.def_ 22 (d := dsTyped) rfl rfl rfl
theorem S_sTyped : FnScope ["statements", "table", "found", "statement"] ["statements", "table"] (defScope sTyped) := ⟨rfl, rfl, rfl, by decide +kernel, rfl, by decide +kernel, by decide +kernel⟩
theorem B_sTyped (T : Good K mg) : Binds K (fdOf K (He.ga K "_typed")) ["statements", "table"] [] := (D_sTyped T).bindsN fun _ _ _ _ _ _ us hl => match us, hl with | [_, _], _ => rfl
def N_sWithTable : List Str := ["sketch", "table", "functions", "function", "params", "name", "kind"]
theorem D_sWithTable (T : Good K mg) : FunD K "with_table" "with_table" (defArgs sWithTable) (defBody sWithTable) (defScope sWithTable) [] [] (He.ga K "with_table") (fdOf K (He.ga K "with_table")) := T.def_ 23 (d := dsWithTable) rfl rfl rfl
theorem S_sWithTable : FnScope ["sketch", "table", "functions", "function", "params", "name", "kind"] ["sketch", "table"] (defScope sWithTable) := ⟨rfl, rfl, rfl, by decide +kernel, rfl, by decide +kernel, by decide +kernel⟩
theorem B_sWithTable (T : Good K mg) : Binds K (fdOf K (He.ga K "with_table")) ["sketch", "table"] [] := (D_sWithTable T).bindsN fun _ _ _ _ _ _ us hl => match us, hl with | [_, _], _ => rfl
def N_sFunctionOf : List Str := ["functions", "name", "function"]
theorem D_sFunctionOf (T : Good K mg) : FunD K "function_of" "function_of" (defArgs sFunctionOf) (defBody sFunctionOf) (defScope sFunctionOf) [] [] (He.ga K "function_of") (fdOf K (He.ga K "function_of")) := T.def_ 24 (d := dsFunctionOf) rfl rfl rfl
theorem S_sFunctionOf : FnScope ["functions", "name", "function"] ["functions", "name"] (defScope sFunctionOf) := ⟨rfl, rfl, rfl, by decide +kernel, rfl, by decide +kernel, by decide +kernel⟩
theorem B_sFunctionOf (T : Good K mg) : Binds K (fdOf K (He.ga K "function_of")) ["functions", "name"] [] := (D_sFunctionOf T).bindsN fun _ _ _ _ _ _ us hl => match us, hl with | [_, _], _ => rfl
def N_cThingInit : List Str := ["self", "name", "kind", "value"]
theorem D_cThingInit (T : Good K mg) : FunD K "__init__" "Thing.__init__" (defArgs cThingInit) (defBody cThingInit) (defScope cThingInit) [] [] (He.ma K (He.ga K "Thing") "__init__") (fdOf K (He.ma K (He.ga K "Thing") "__init__")) := T.def_ 25 (d := dcThingInit) rfl rfl rfl
theorem S_cThingInit : FnScope ["self", "name", "kind", "value"] ["self", "name", "kind", "value"] (defScope cThingInit) := ⟨rfl, rfl, rfl, by decide +kernel, rfl, by decide +kernel, by decide +kernel⟩
theorem B_cThingInit (T : Good K mg) : Binds K (fdOf K (He.ma K (He.ga K "Thing") "__init__")) ["self", "name", "kind", "value"] [] := (D_cThingInit T).bindsN fun _ _ _ _ _ _ us hl => match us, hl with | [_, _, _, _], _ => rfl
def N_cWorldInit : List Str := ["self"]
theorem D_cWorldInit (T : Good K mg) : FunD K "__init__" "World.__init__" (defArgs cWorldInit) (defBody cWorldInit) (defScope cWorldInit) [] [] (He.ma K (He.ga K "World") "__init__") (fdOf K (He.ma K (He.ga K "World") "__init__")) := T.def_ 26 (d := dcWorldInit) rfl rfl rfl
theorem S_cWorldInit : FnScope ["self"] ["self"] (defScope cWorldInit) := ⟨rfl, rfl, rfl, by decide +kernel, rfl, by decide +kernel, by decide +kernel⟩
theorem B_cWorldInit (T : Good K mg) : Binds K (fdOf K (He.ma K (He.ga K "World") "__init__")) ["self"] [] := (D_cWorldInit T).bindsN fun _ _ _ _ _ _ us hl => match us, hl with | [_], _ => rfl
def N_cWorldMake : List Str := ["self", "name", "kind", "value"]
theorem D_cWorldMake (T : Good K mg) : FunD K "make" "World.make" (defArgs cWorldMake) (defBody cWorldMake) (defScope cWorldMake) [] [] (He.ma K (He.ga K "World") "make") (fdOf K (He.ma K (He.ga K "World") "make")) := T.def_ 27 (d := dcWorldMake) rfl rfl rfl
theorem S_cWorldMake : FnScope ["self", "name", "kind", "value"] ["self", "name", "kind", "value"] (defScope cWorldMake) := ⟨rfl, rfl, rfl, by decide +kernel, rfl, by decide +kernel, by decide +kernel⟩
theorem B_cWorldMake (T : Good K mg) : Binds K (fdOf K (He.ma K (He.ga K "World") "make")) ["self", "name", "kind", "value"] [] := (D_cWorldMake T).bindsN fun _ _ _ _ _ _ us hl => match us, hl with | [_, _, _, _], _ => rfl
def N_cWorldRead : List Str := ["self", "number", "thing"]
theorem D_cWorldRead (T : Good K mg) : FunD K "read" "World.read" (defArgs cWorldRead) (defBody cWorldRead) (defScope cWorldRead) [] [] (He.ma K (He.ga K "World") "read") (fdOf K (He.ma K (He.ga K "World") "read")) := T.def_ 28 (d := dcWorldRead) rfl rfl rfl
theorem S_cWorldRead : FnScope ["self", "number", "thing"] ["self", "number"] (defScope cWorldRead) := ⟨rfl, rfl, rfl, by decide +kernel, rfl, by decide +kernel, by decide +kernel⟩
theorem B_cWorldRead (T : Good K mg) : Binds K (fdOf K (He.ma K (He.ga K "World") "read")) ["self", "number"] [] := (D_cWorldRead T).bindsN fun _ _ _ _ _ _ us hl => match us, hl with | [_, _], _ => rfl
def N_cWorldWrite : List Str := ["self", "number", "value", "thing"]
theorem D_cWorldWrite (T : Good K mg) : FunD K "write" "World.write" (defArgs cWorldWrite) (defBody cWorldWrite) (defScope cWorldWrite) [] [] (He.ma K (He.ga K "World") "write") (fdOf K (He.ma K (He.ga K "World") "write")) := T.def_ 29 (d := dcWorldWrite) rfl rfl rfl
theorem S_cWorldWrite : FnScope ["self", "number", "value", "thing"] ["self", "number", "value"] (defScope cWorldWrite) := ⟨rfl, rfl, rfl, by decide +kernel, rfl, by decide +kernel, by decide +kernel⟩
theorem B_cWorldWrite (T : Good K mg) : Binds K (fdOf K (He.ma K (He.ga K "World") "write")) ["self", "number", "value"] [] := (D_cWorldWrite T).bindsN fun _ _ _ _ _ _ us hl => match us, hl with | [_, _, _], _ => rfl
def N_sThingAt : List Str := ["world", "known", "place", "number", "turn", "value"]
theorem D_sThingAt (T : Good K mg) : FunD K "_thing_at" "_thing_at" (defArgs sThingAt) (defBody sThingAt) (defScope sThingAt) [] [] (He.ga K "_thing_at") (fdOf K (He.ga K "_thing_at")) := T.def_ 30 (d := dsThingAt) rfl rfl rfl
theorem S_sThingAt : FnScope ["world", "known", "place", "number", "turn", "value"] ["world", "known", "place"] (defScope sThingAt) := ⟨rfl, rfl, rfl, by decide +kernel, rfl, by decide +kernel, by decide +kernel⟩
theorem B_sThingAt (T : Good K mg) : Binds K (fdOf K (He.ga K "_thing_at")) ["world", "known", "place"] [] := (D_sThingAt T).bindsN fun _ _ _ _ _ _ us hl => match us, hl with | [_, _, _], _ => rfl
def N_sLookedUp : List Str := ["world", "known", "source", "number"]
theorem D_sLookedUp (T : Good K mg) : FunD K "_looked_up" "_looked_up" (defArgs sLookedUp) (defBody sLookedUp) (defScope sLookedUp) [] [] (He.ga K "_looked_up") (fdOf K (He.ga K "_looked_up")) := T.def_ 31 (d := dsLookedUp) rfl rfl rfl
theorem S_sLookedUp : FnScope ["world", "known", "source", "number"] ["world", "known", "source"] (defScope sLookedUp) := ⟨rfl, rfl, rfl, by decide +kernel, rfl, by decide +kernel, by decide +kernel⟩
theorem B_sLookedUp (T : Good K mg) : Binds K (fdOf K (He.ga K "_looked_up")) ["world", "known", "source"] [] := (D_sLookedUp T).bindsN fun _ _ _ _ _ _ us hl => match us, hl with | [_, _, _], _ => rfl
def N_sAllLookedUp : List Str := ["world", "known", "sources", "found", "source", "told"]
theorem D_sAllLookedUp (T : Good K mg) : FunD K "_all_looked_up" "_all_looked_up" (defArgs sAllLookedUp) (defBody sAllLookedUp) (defScope sAllLookedUp) [] [] (He.ga K "_all_looked_up") (fdOf K (He.ga K "_all_looked_up")) := T.def_ 32 (d := dsAllLookedUp) rfl rfl rfl
theorem S_sAllLookedUp : FnScope ["world", "known", "sources", "found", "source", "told"] ["world", "known", "sources"] (defScope sAllLookedUp) := ⟨rfl, rfl, rfl, by decide +kernel, rfl, by decide +kernel, by decide +kernel⟩
theorem B_sAllLookedUp (T : Good K mg) : Binds K (fdOf K (He.ga K "_all_looked_up")) ["world", "known", "sources"] [] := (D_sAllLookedUp T).bindsN fun _ _ _ _ _ _ us hl => match us, hl with | [_, _, _], _ => rfl
def N_sCall : List Str := ["world", "functions", "known", "name", "sources", "given", "function", "inner", "param", "kind", "value"]
theorem D_sCall (T : Good K mg) : FunD K "_call" "_call" (defArgs sCall) (defBody sCall) (defScope sCall) [] [] (He.ga K "_call") (fdOf K (He.ga K "_call")) := T.def_ 33 (d := dsCall) rfl rfl rfl
theorem S_sCall : FnScope ["world", "functions", "known", "name", "sources", "given", "function", "inner", "param", "kind", "value"] ["world", "functions", "known", "name", "sources"] (defScope sCall) := ⟨rfl, rfl, rfl, by decide +kernel, rfl, by decide +kernel, by decide +kernel⟩
theorem B_sCall (T : Good K mg) : Binds K (fdOf K (He.ga K "_call")) ["world", "functions", "known", "name", "sources"] [] := (D_sCall T).bindsN fun _ _ _ _ _ _ us hl => match us, hl with | [_, _, _, _, _], _ => rfl
def N_sPut : List Str := ["world", "known", "place", "source", "number", "told"]
theorem D_sPut (T : Good K mg) : FunD K "_put" "_put" (defArgs sPut) (defBody sPut) (defScope sPut) [] [] (He.ga K "_put") (fdOf K (He.ga K "_put")) := T.def_ 34 (d := dsPut) rfl rfl rfl
theorem S_sPut : FnScope ["world", "known", "place", "source", "number", "told"] ["world", "known", "place", "source"] (defScope sPut) := ⟨rfl, rfl, rfl, by decide +kernel, rfl, by decide +kernel, by decide +kernel⟩
theorem B_sPut (T : Good K mg) : Binds K (fdOf K (He.ga K "_put")) ["world", "known", "place", "source"] [] := (D_sPut T).bindsN fun _ _ _ _ _ _ us hl => match us, hl with | [_, _, _, _], _ => rfl
def N_sAct : List Str := ["world", "functions", "known", "statement", "told"]
theorem D_sAct (T : Good K mg) : FunD K "act" "act" (defArgs sAct) (defBody sAct) (defScope sAct) [] [] (He.ga K "act") (fdOf K (He.ga K "act")) := T.def_ 35 (d := dsAct) rfl rfl rfl
theorem S_sAct : FnScope ["world", "functions", "known", "statement", "told"] ["world", "functions", "known", "statement"] (defScope sAct) := ⟨rfl, rfl, rfl, by decide +kernel, rfl, by decide +kernel, by decide +kernel⟩
theorem B_sAct (T : Good K mg) : Binds K (fdOf K (He.ga K "act")) ["world", "functions", "known", "statement"] [] := (D_sAct T).bindsN fun _ _ _ _ _ _ us hl => match us, hl with | [_, _, _, _], _ => rfl
def N_sActAll : List Str := ["world", "functions", "known", "statements", "statement"]
theorem D_sActAll (T : Good K mg) : FunD K "act_all" "act_all" (defArgs sActAll) (defBody sActAll) (defScope sActAll) [] [] (He.ga K "act_all") (fdOf K (He.ga K "act_all")) := T.def_ 36 (d := dsActAll) rfl rfl rfl
theorem S_sActAll : FnScope ["world", "functions", "known", "statements", "statement"] ["world", "functions", "known", "statements"] (defScope sActAll) := ⟨rfl, rfl, rfl, by decide +kernel, rfl, by decide +kernel, by decide +kernel⟩
theorem B_sActAll (T : Good K mg) : Binds K (fdOf K (He.ga K "act_all")) ["world", "functions", "known", "statements"] [] := (D_sActAll T).bindsN fun _ _ _ _ _ _ us hl => match us, hl with | [_, _, _, _], _ => rfl
def N_sShownThings : List Str := ["world", "thing"]
theorem D_sShownThings (T : Good K mg) : FunD K "shown_things" "shown_things" (defArgs sShownThings) (defBody sShownThings) (defScope sShownThings) [] [] (He.ga K "shown_things") (fdOf K (He.ga K "shown_things")) := T.def_ 37 (d := dsShownThings) rfl rfl rfl
theorem S_sShownThings : FnScope ["world", "thing"] ["world"] (defScope sShownThings) := ⟨rfl, rfl, rfl, by decide +kernel, rfl, by decide +kernel, by decide +kernel⟩
theorem B_sShownThings (T : Good K mg) : Binds K (fdOf K (He.ga K "shown_things")) ["world"] [] := (D_sShownThings T).bindsN fun _ _ _ _ _ _ us hl => match us, hl with | [_], _ => rfl
def N_sPlaceFault : List Str := ["known", "place", "name", "stars", "seen", "right"]
theorem D_sPlaceFault (T : Good K mg) : FunD K "place_fault" "place_fault" (defArgs sPlaceFault) (defBody sPlaceFault) (defScope sPlaceFault) [] [] (He.ga K "place_fault") (fdOf K (He.ga K "place_fault")) := T.def_ 38 (d := dsPlaceFault) rfl rfl rfl
theorem S_sPlaceFault : FnScope ["known", "place", "name", "stars", "seen", "right"] ["known", "place"] (defScope sPlaceFault) := ⟨rfl, rfl, rfl, by decide +kernel, rfl, by decide +kernel, by decide +kernel⟩
theorem B_sPlaceFault (T : Good K mg) : Binds K (fdOf K (He.ga K "place_fault")) ["known", "place"] [] := (D_sPlaceFault T).bindsN fun _ _ _ _ _ _ us hl => match us, hl with | [_, _], _ => rfl
def N_sSeenType : List Str := ["known", "place"]
theorem D_sSeenType (T : Good K mg) : FunD K "seen_type" "seen_type" (defArgs sSeenType) (defBody sSeenType) (defScope sSeenType) [] [] (He.ga K "seen_type") (fdOf K (He.ga K "seen_type")) := T.def_ 39 (d := dsSeenType) rfl rfl rfl
theorem S_sSeenType : FnScope ["known", "place"] ["known", "place"] (defScope sSeenType) := ⟨rfl, rfl, rfl, by decide +kernel, rfl, by decide +kernel, by decide +kernel⟩
theorem B_sSeenType (T : Good K mg) : Binds K (fdOf K (He.ga K "seen_type")) ["known", "place"] [] := (D_sSeenType T).bindsN fun _ _ _ _ _ _ us hl => match us, hl with | [_, _], _ => rfl
def N_sConversionFault : List Str := ["one", "two", "extra"]
theorem D_sConversionFault (T : Good K mg) : FunD K "_conversion_fault" "_conversion_fault" (defArgs sConversionFault) (defBody sConversionFault) (defScope sConversionFault) [] [] (He.ga K "_conversion_fault") (fdOf K (He.ga K "_conversion_fault")) := T.def_ 40 (d := dsConversionFault) rfl rfl rfl
theorem S_sConversionFault : FnScope ["one", "two", "extra"] ["one", "two", "extra"] (defScope sConversionFault) := ⟨rfl, rfl, rfl, by decide +kernel, rfl, by decide +kernel, by decide +kernel⟩
theorem B_sConversionFault (T : Good K mg) : Binds K (fdOf K (He.ga K "_conversion_fault")) ["one", "two", "extra"] [] := (D_sConversionFault T).bindsN fun _ _ _ _ _ _ us hl => match us, hl with | [_, _, _], _ => rfl
def N_sSourceFault : List Str := ["known", "source", "wanted", "extra", "reason", "seen"]
theorem D_sSourceFault (T : Good K mg) : FunD K "source_fault" "source_fault" (defArgs sSourceFault) (defBody sSourceFault) (defScope sSourceFault) [] [] (He.ga K "source_fault") (fdOf K (He.ga K "source_fault")) := T.def_ 41 (d := dsSourceFault) rfl rfl rfl
theorem S_sSourceFault : FnScope ["known", "source", "wanted", "extra", "reason", "seen"] ["known", "source", "wanted", "extra"] (defScope sSourceFault) := ⟨rfl, rfl, rfl, by decide +kernel, rfl, by decide +kernel, by decide +kernel⟩
theorem B_sSourceFault (T : Good K mg) : Binds K (fdOf K (He.ga K "source_fault")) ["known", "source", "wanted", "extra"] [] := (D_sSourceFault T).bindsN fun _ _ _ _ _ _ us hl => match us, hl with | [_, _, _, _], _ => rfl
def N_sPutFault : List Str := ["known", "place", "source", "extra", "reason", "seen"]
theorem D_sPutFault (T : Good K mg) : FunD K "_put_fault" "_put_fault" (defArgs sPutFault) (defBody sPutFault) (defScope sPutFault) [] [] (He.ga K "_put_fault") (fdOf K (He.ga K "_put_fault")) := T.def_ 42 (d := dsPutFault) rfl rfl rfl
theorem S_sPutFault : FnScope ["known", "place", "source", "extra", "reason", "seen"] ["known", "place", "source", "extra"] (defScope sPutFault) := ⟨rfl, rfl, rfl, by decide +kernel, rfl, by decide +kernel, by decide +kernel⟩
theorem B_sPutFault (T : Good K mg) : Binds K (fdOf K (He.ga K "_put_fault")) ["known", "place", "source", "extra"] [] := (D_sPutFault T).bindsN fun _ _ _ _ _ _ us hl => match us, hl with | [_, _, _, _], _ => rfl
def N_sStatementFault : List Str := ["functions", "known", "statement", "extra", "function", "name", "kind", "source", "reason"]
theorem D_sStatementFault (T : Good K mg) : FunD K "statement_fault" "statement_fault" (defArgs sStatementFault) (defBody sStatementFault) (defScope sStatementFault) [] [] (He.ga K "statement_fault") (fdOf K (He.ga K "statement_fault")) := T.def_ 43 (d := dsStatementFault) rfl rfl rfl
theorem S_sStatementFault : FnScope ["functions", "known", "statement", "extra", "function", "name", "kind", "source", "reason"] ["functions", "known", "statement", "extra"] (defScope sStatementFault) := ⟨rfl, rfl, rfl, by decide +kernel, rfl, by decide +kernel, by decide +kernel⟩
theorem B_sStatementFault (T : Good K mg) : Binds K (fdOf K (He.ga K "statement_fault")) ["functions", "known", "statement", "extra"] [] := (D_sStatementFault T).bindsN fun _ _ _ _ _ _ us hl => match us, hl with | [_, _, _, _], _ => rfl
def N_sBlockFaults : List Str := ["functions", "name", "known", "statements", "extra", "found", "place", "statement", "reason"]
theorem D_sBlockFaults (T : Good K mg) : FunD K "block_faults" "block_faults" (defArgs sBlockFaults) (defBody sBlockFaults) (defScope sBlockFaults) [] [] (He.ga K "block_faults") (fdOf K (He.ga K "block_faults")) := T.def_ 44 (d := dsBlockFaults) rfl rfl rfl
theorem S_sBlockFaults : FnScope ["functions", "name", "known", "statements", "extra", "found", "place", "statement", "reason"] ["functions", "name", "known", "statements", "extra"] (defScope sBlockFaults) := ⟨rfl, rfl, rfl, by decide +kernel, rfl, by decide +kernel, by decide +kernel⟩
theorem B_sBlockFaults (T : Good K mg) : Binds K (fdOf K (He.ga K "block_faults")) ["functions", "name", "known", "statements", "extra"] [] := (D_sBlockFaults T).bindsN fun _ _ _ _ _ _ us hl => match us, hl with | [_, _, _, _, _], _ => rfl
def N_sFaults : List Str := ["program", "extra", "found", "function", "known", "name", "kind"]
theorem D_sFaults (T : Good K mg) : FunD K "faults" "faults" (defArgs sFaults) (defBody sFaults) (defScope sFaults) [] [] (He.ga K "faults") (fdOf K (He.ga K "faults")) := T.def_ 45 (d := dsFaults) rfl rfl rfl
theorem S_sFaults : FnScope ["program", "extra", "found", "function", "known", "name", "kind"] ["program", "extra"] (defScope sFaults) := ⟨rfl, rfl, rfl, by decide +kernel, rfl, by decide +kernel, by decide +kernel⟩
theorem B_sFaults (T : Good K mg) : Binds K (fdOf K (He.ga K "faults")) ["program", "extra"] [] := (D_sFaults T).bindsN fun _ _ _ _ _ _ us hl => match us, hl with | [_, _], _ => rfl
def N_sIsLetBy : List Str := ["program", "extra"]
theorem D_sIsLetBy (T : Good K mg) : FunD K "is_let_by" "is_let_by" (defArgs sIsLetBy) (defBody sIsLetBy) (defScope sIsLetBy) [] [] (He.ga K "is_let_by") (fdOf K (He.ga K "is_let_by")) := T.def_ 46 (d := dsIsLetBy) rfl rfl rfl
theorem S_sIsLetBy : FnScope ["program", "extra"] ["program", "extra"] (defScope sIsLetBy) := ⟨rfl, rfl, rfl, by decide +kernel, rfl, by decide +kernel, by decide +kernel⟩
theorem B_sIsLetBy (T : Good K mg) : Binds K (fdOf K (He.ga K "is_let_by")) ["program", "extra"] [] := (D_sIsLetBy T).bindsN fun _ _ _ _ _ _ us hl => match us, hl with | [_, _], _ => rfl
def N_sRun : List Str := ["program", "extra", "world", "ended"]
theorem D_sRun (T : Good K mg) : FunD K "run" "run" (defArgs sRun) (defBody sRun) (defScope sRun) [] [] (He.ga K "run") (fdOf K (He.ga K "run")) := T.def_ 47 (d := dsRun) rfl rfl rfl
theorem S_sRun : FnScope ["program", "extra", "world", "ended"] ["program", "extra"] (defScope sRun) := ⟨rfl, rfl, rfl, by decide +kernel, rfl, by decide +kernel, by decide +kernel⟩
theorem B_sRun (T : Good K mg) : Binds K (fdOf K (He.ga K "run")) ["program", "extra"] [] := (D_sRun T).bindsN fun _ _ _ _ _ _ us hl => match us, hl with | [_, _], _ => rfl
def N_sLawCell : List Str := ["_law_script", "_law_k"]
theorem D_sLawCell (T : Good K mg) : FunD K "_law_cell" "_law_cell" (defArgs sLawCell) (defBody sLawCell) (defScope sLawCell) [] [] (He.ga K "_law_cell") (fdOf K (He.ga K "_law_cell")) := T.def_ 48 (d := dsLawCell) rfl rfl rfl
theorem S_sLawCell : FnScope ["_law_script", "_law_k"] ["_law_script", "_law_k"] (defScope sLawCell) := ⟨rfl, rfl, rfl, by decide +kernel, rfl, by decide +kernel, by decide +kernel⟩
theorem B_sLawCell (T : Good K mg) : Binds K (fdOf K (He.ga K "_law_cell")) ["_law_script", "_law_k"] [] := (D_sLawCell T).bindsN fun _ _ _ _ _ _ us hl => match us, hl with | [_, _], _ => rfl
def N_sLawRow : List Str := ["_law_script", "_law_first", "_law_last", "_law_row_here", "_law_k", "_law_cell_here", "_law_turn"]
theorem D_sLawRow (T : Good K mg) : FunD K "_law_row" "_law_row" (defArgs sLawRow) (defBody sLawRow) (defScope sLawRow) [] [] (He.ga K "_law_row") (fdOf K (He.ga K "_law_row")) := T.def_ 49 (d := dsLawRow) rfl rfl rfl
theorem S_sLawRow : FnScope ["_law_script", "_law_first", "_law_last", "_law_row_here", "_law_k", "_law_cell_here", "_law_turn"] ["_law_script", "_law_first", "_law_last"] (defScope sLawRow) := ⟨rfl, rfl, rfl, by decide +kernel, rfl, by decide +kernel, by decide +kernel⟩
theorem B_sLawRow (T : Good K mg) : Binds K (fdOf K (He.ga K "_law_row")) ["_law_script", "_law_first", "_law_last"] [] := (D_sLawRow T).bindsN fun _ _ _ _ _ _ us hl => match us, hl with | [_, _, _], _ => rfl
def N_sLawDraw : List Str := ["_law_box", "_law_many", "_law_at"]
theorem D_sLawDraw (T : Good K mg) : FunD K "_law_draw" "_law_draw" (defArgs sLawDraw) (defBody sLawDraw) (defScope sLawDraw) [] [] (He.ga K "_law_draw") (fdOf K (He.ga K "_law_draw")) := T.def_ 50 (d := dsLawDraw) rfl rfl rfl
theorem S_sLawDraw : FnScope ["_law_box", "_law_many", "_law_at"] ["_law_box", "_law_many"] (defScope sLawDraw) := ⟨rfl, rfl, rfl, by decide +kernel, rfl, by decide +kernel, by decide +kernel⟩
theorem B_sLawDraw (T : Good K mg) : Binds K (fdOf K (He.ga K "_law_draw")) ["_law_box", "_law_many"] [] := (D_sLawDraw T).bindsN fun _ _ _ _ _ _ us hl => match us, hl with | [_, _], _ => rfl
def N_sLawRight : List Str := ["_law_box"]
theorem D_sLawRight (T : Good K mg) : FunD K "_law_right" "_law_right" (defArgs sLawRight) (defBody sLawRight) (defScope sLawRight) [] [] (He.ga K "_law_right") (fdOf K (He.ga K "_law_right")) := T.def_ 51 (d := dsLawRight) rfl rfl rfl
theorem S_sLawRight : FnScope ["_law_box"] ["_law_box"] (defScope sLawRight) := ⟨rfl, rfl, rfl, by decide +kernel, rfl, by decide +kernel, by decide +kernel⟩
theorem B_sLawRight (T : Good K mg) : Binds K (fdOf K (He.ga K "_law_right")) ["_law_box"] [] := (D_sLawRight T).bindsN fun _ _ _ _ _ _ us hl => match us, hl with | [_], _ => rfl
def N_sLawRights : List Str := ["_law_box", "_law_many", "_law_k"]
theorem D_sLawRights (T : Good K mg) : FunD K "_law_rights" "_law_rights" (defArgs sLawRights) (defBody sLawRights) (defScope sLawRights) [] [] (He.ga K "_law_rights") (fdOf K (He.ga K "_law_rights")) := T.def_ 52 (d := dsLawRights) rfl rfl rfl
theorem S_sLawRights : FnScope ["_law_box", "_law_many", "_law_k"] ["_law_box", "_law_many"] (defScope sLawRights) := ⟨rfl, rfl, rfl, by decide +kernel, rfl, by decide +kernel, by decide +kernel⟩
theorem B_sLawRights (T : Good K mg) : Binds K (fdOf K (He.ga K "_law_rights")) ["_law_box", "_law_many"] [] := (D_sLawRights T).bindsN fun _ _ _ _ _ _ us hl => match us, hl with | [_, _], _ => rfl
def N_sLawWithin : List Str := ["_law_one", "_law_two", "_law_letter"]
theorem D_sLawWithin (T : Good K mg) : FunD K "_law_within" "_law_within" (defArgs sLawWithin) (defBody sLawWithin) (defScope sLawWithin) [] [] (He.ga K "_law_within") (fdOf K (He.ga K "_law_within")) := T.def_ 53 (d := dsLawWithin) rfl rfl rfl
theorem S_sLawWithin : FnScope ["_law_one", "_law_two", "_law_letter"] ["_law_one", "_law_two"] (defScope sLawWithin) := ⟨rfl, rfl, rfl, by decide +kernel, rfl, by decide +kernel, by decide +kernel⟩
theorem B_sLawWithin (T : Good K mg) : Binds K (fdOf K (He.ga K "_law_within")) ["_law_one", "_law_two"] [] := (D_sLawWithin T).bindsN fun _ _ _ _ _ _ us hl => match us, hl with | [_, _], _ => rfl
def N_sLawConverts : List Str := ["_law_one", "_law_two"]
theorem D_sLawConverts (T : Good K mg) : FunD K "_law_converts" "_law_converts" (defArgs sLawConverts) (defBody sLawConverts) (defScope sLawConverts) [] [] (He.ga K "_law_converts") (fdOf K (He.ga K "_law_converts")) := T.def_ 54 (d := dsLawConverts) rfl rfl rfl
theorem S_sLawConverts : FnScope ["_law_one", "_law_two"] ["_law_one", "_law_two"] (defScope sLawConverts) := ⟨rfl, rfl, rfl, by decide +kernel, rfl, by decide +kernel, by decide +kernel⟩
theorem B_sLawConverts (T : Good K mg) : Binds K (fdOf K (He.ga K "_law_converts")) ["_law_one", "_law_two"] [] := (D_sLawConverts T).bindsN fun _ _ _ _ _ _ us hl => match us, hl with | [_, _], _ => rfl
def N_sLawSource : List Str := ["_law_box", "_law_names_here", "_law_types", "_law_value", "_law_kind", "_law_x", "_law_fits", "_law_k"]
theorem D_sLawSource (T : Good K mg) : FunD K "_law_source" "_law_source" (defArgs sLawSource) (defBody sLawSource) (defScope sLawSource) [] [] (He.ga K "_law_source") (fdOf K (He.ga K "_law_source")) := T.def_ 55 (d := dsLawSource) rfl rfl rfl
theorem S_sLawSource : FnScope ["_law_box", "_law_names_here", "_law_types", "_law_value", "_law_kind", "_law_x", "_law_fits", "_law_k"] ["_law_box", "_law_names_here", "_law_types", "_law_value"] (defScope sLawSource) := ⟨rfl, rfl, rfl, by decide +kernel, rfl, by decide +kernel, by decide +kernel⟩
theorem B_sLawSource (T : Good K mg) : Binds K (fdOf K (He.ga K "_law_source")) ["_law_box", "_law_names_here", "_law_types", "_law_value"] [] := (D_sLawSource T).bindsN fun _ _ _ _ _ _ us hl => match us, hl with | [_, _, _, _], _ => rfl
def N_sLawStatement : List Str := ["_law_box", "_law_fresh", "_law_names_here", "_law_types", "_law_calls", "_law_kind", "_law_f", "_law_x", "_law_k", "_law_kt", "_law_told_here", "_law_param"]
theorem D_sLawStatement (T : Good K mg) : FunD K "_law_statement" "_law_statement" (defArgs sLawStatement) (defBody sLawStatement) (defScope sLawStatement) [] [] (He.ga K "_law_statement") (fdOf K (He.ga K "_law_statement")) := T.def_ 56 (d := dsLawStatement) rfl rfl rfl
theorem S_sLawStatement : FnScope ["_law_box", "_law_fresh", "_law_names_here", "_law_types", "_law_calls", "_law_kind", "_law_f", "_law_x", "_law_k", "_law_kt", "_law_told_here", "_law_param"] ["_law_box", "_law_fresh", "_law_names_here", "_law_types", "_law_calls"] (defScope sLawStatement) := ⟨rfl, rfl, rfl, by decide +kernel, rfl, by decide +kernel, by decide +kernel⟩
theorem B_sLawStatement (T : Good K mg) : Binds K (fdOf K (He.ga K "_law_statement")) ["_law_box", "_law_fresh", "_law_names_here", "_law_types", "_law_calls"] [] := (D_sLawStatement T).bindsN fun _ _ _ _ _ _ us hl => match us, hl with | [_, _, _, _, _], _ => rfl
def N_sLawNames : List Str := ["_law_out", "_law_a", "_law_b"]
theorem D_sLawNames (T : Good K mg) : FunD K "_law_names" "_law_names" (defArgs sLawNames) (defBody sLawNames) (defScope sLawNames) [] [] (He.ga K "_law_names") (fdOf K (He.ga K "_law_names")) := T.def_ 57 (d := dsLawNames) rfl rfl rfl
theorem S_sLawNames : FnScope ["_law_out", "_law_a", "_law_b"] [] (defScope sLawNames) := ⟨rfl, rfl, rfl, by decide +kernel, rfl, by decide +kernel, by decide +kernel⟩
theorem B_sLawNames (T : Good K mg) : Binds K (fdOf K (He.ga K "_law_names")) [] [] := (D_sLawNames T).bindsN fun _ _ _ _ _ _ us hl => match us, hl with | [], _ => rfl
def N_sLawFunction : List Str := ["_law_box", "_law_fresh", "_law_name", "_law_functions", "_law_names_here", "_law_types", "_law_params", "_law_j", "_law_x", "_law_body"]
theorem D_sLawFunction (T : Good K mg) : FunD K "_law_function" "_law_function" (defArgs sLawFunction) (defBody sLawFunction) (defScope sLawFunction) [] [] (He.ga K "_law_function") (fdOf K (He.ga K "_law_function")) := T.def_ 58 (d := dsLawFunction) rfl rfl rfl
theorem S_sLawFunction : FnScope ["_law_box", "_law_fresh", "_law_name", "_law_functions", "_law_names_here", "_law_types", "_law_params", "_law_j", "_law_x", "_law_body"] ["_law_box", "_law_fresh", "_law_name", "_law_functions"] (defScope sLawFunction) := ⟨rfl, rfl, rfl, by decide +kernel, rfl, by decide +kernel, by decide +kernel⟩
theorem B_sLawFunction (T : Good K mg) : Binds K (fdOf K (He.ga K "_law_function")) ["_law_box", "_law_fresh", "_law_name", "_law_functions"] [] := (D_sLawFunction T).bindsN fun _ _ _ _ _ _ us hl => match us, hl with | [_, _, _, _], _ => rfl
def N_sLawProgram : List Str := ["_law_box", "_law_most", "_law_fresh", "_law_functions", "_law_k", "_law_names_here", "_law_types"]
theorem D_sLawProgram (T : Good K mg) : FunD K "_law_program" "_law_program" (defArgs sLawProgram) (defBody sLawProgram) (defScope sLawProgram) [] [] (He.ga K "_law_program") (fdOf K (He.ga K "_law_program")) := T.def_ 59 (d := dsLawProgram) rfl rfl rfl
theorem S_sLawProgram : FnScope ["_law_box", "_law_most", "_law_fresh", "_law_functions", "_law_k", "_law_names_here", "_law_types"] ["_law_box", "_law_most"] (defScope sLawProgram) := ⟨rfl, rfl, rfl, by decide +kernel, rfl, by decide +kernel, by decide +kernel⟩
theorem B_sLawProgram (T : Good K mg) : Binds K (fdOf K (He.ga K "_law_program")) ["_law_box", "_law_most"] [] := (D_sLawProgram T).bindsN fun _ _ _ _ _ _ us hl => match us, hl with | [_, _], _ => rfl
def N_sLawMade : List Str := ["_law_p", "_law_functions", "_law_f"]
theorem D_sLawMade (T : Good K mg) : FunD K "_law_made" "_law_made" (defArgs sLawMade) (defBody sLawMade) (defScope sLawMade) [] [] (He.ga K "_law_made") (fdOf K (He.ga K "_law_made")) := T.def_ 60 (d := dsLawMade) rfl rfl rfl
theorem S_sLawMade : FnScope ["_law_p", "_law_functions", "_law_f"] ["_law_p"] (defScope sLawMade) := ⟨rfl, rfl, rfl, by decide +kernel, rfl, by decide +kernel, by decide +kernel⟩
theorem B_sLawMade (T : Good K mg) : Binds K (fdOf K (He.ga K "_law_made")) ["_law_p"] [] := (D_sLawMade T).bindsN fun _ _ _ _ _ _ us hl => match us, hl with | [_], _ => rfl
def N_sLawReached : List Str := ["_law_types", "_law_place", "_law_x", "_law_right_here"]
theorem D_sLawReached (T : Good K mg) : FunD K "_law_reached" "_law_reached" (defArgs sLawReached) (defBody sLawReached) (defScope sLawReached) [] [] (He.ga K "_law_reached") (fdOf K (He.ga K "_law_reached")) := T.def_ 61 (d := dsLawReached) rfl rfl rfl
theorem S_sLawReached : FnScope ["_law_types", "_law_place", "_law_x", "_law_right_here"] ["_law_types", "_law_place"] (defScope sLawReached) := ⟨rfl, rfl, rfl, by decide +kernel, rfl, by decide +kernel, by decide +kernel⟩
theorem B_sLawReached (T : Good K mg) : Binds K (fdOf K (He.ga K "_law_reached")) ["_law_types", "_law_place"] [] := (D_sLawReached T).bindsN fun _ _ _ _ _ _ us hl => match us, hl with | [_, _], _ => rfl
def N_sLawSourceFault : List Str := ["_law_types", "_law_source_here", "_law_value", "_law_extra", "_law_fault_here", "_law_seen"]
theorem D_sLawSourceFault (T : Good K mg) : FunD K "_law_source_fault" "_law_source_fault" (defArgs sLawSourceFault) (defBody sLawSourceFault) (defScope sLawSourceFault) [] [] (He.ga K "_law_source_fault") (fdOf K (He.ga K "_law_source_fault")) := T.def_ 62 (d := dsLawSourceFault) rfl rfl rfl
theorem S_sLawSourceFault : FnScope ["_law_types", "_law_source_here", "_law_value", "_law_extra", "_law_fault_here", "_law_seen"] ["_law_types", "_law_source_here", "_law_value", "_law_extra"] (defScope sLawSourceFault) := ⟨rfl, rfl, rfl, by decide +kernel, rfl, by decide +kernel, by decide +kernel⟩
theorem B_sLawSourceFault (T : Good K mg) : Binds K (fdOf K (He.ga K "_law_source_fault")) ["_law_types", "_law_source_here", "_law_value", "_law_extra"] [] := (D_sLawSourceFault T).bindsN fun _ _ _ _ _ _ us hl => match us, hl with | [_, _, _, _], _ => rfl
def N_sLawFault : List Str := ["_law_types", "_law_functions", "_law_st", "_law_extra", "_law_fault_here", "_law_seen", "_law_params", "_law_k", "_law_f"]
theorem D_sLawFault (T : Good K mg) : FunD K "_law_fault" "_law_fault" (defArgs sLawFault) (defBody sLawFault) (defScope sLawFault) [] [] (He.ga K "_law_fault") (fdOf K (He.ga K "_law_fault")) := T.def_ 63 (d := dsLawFault) rfl rfl rfl
theorem S_sLawFault : FnScope ["_law_types", "_law_functions", "_law_st", "_law_extra", "_law_fault_here", "_law_seen", "_law_params", "_law_k", "_law_f"] ["_law_types", "_law_functions", "_law_st", "_law_extra"] (defScope sLawFault) := ⟨rfl, rfl, rfl, by decide +kernel, rfl, by decide +kernel, by decide +kernel⟩
theorem B_sLawFault (T : Good K mg) : Binds K (fdOf K (He.ga K "_law_fault")) ["_law_types", "_law_functions", "_law_st", "_law_extra"] [] := (D_sLawFault T).bindsN fun _ _ _ _ _ _ us hl => match us, hl with | [_, _, _, _], _ => rfl
def N_sLawBlockFaults : List Str := ["_law_f", "_law_types", "_law_functions", "_law_block", "_law_extra", "_law_out", "_law_k", "_law_fault_here"]
theorem D_sLawBlockFaults (T : Good K mg) : FunD K "_law_block_faults" "_law_block_faults" (defArgs sLawBlockFaults) (defBody sLawBlockFaults) (defScope sLawBlockFaults) [] [] (He.ga K "_law_block_faults") (fdOf K (He.ga K "_law_block_faults")) := T.def_ 64 (d := dsLawBlockFaults) rfl rfl rfl
theorem S_sLawBlockFaults : FnScope ["_law_f", "_law_types", "_law_functions", "_law_block", "_law_extra", "_law_out", "_law_k", "_law_fault_here"] ["_law_f", "_law_types", "_law_functions", "_law_block", "_law_extra"] (defScope sLawBlockFaults) := ⟨rfl, rfl, rfl, by decide +kernel, rfl, by decide +kernel, by decide +kernel⟩
theorem B_sLawBlockFaults (T : Good K mg) : Binds K (fdOf K (He.ga K "_law_block_faults")) ["_law_f", "_law_types", "_law_functions", "_law_block", "_law_extra"] [] := (D_sLawBlockFaults T).bindsN fun _ _ _ _ _ _ us hl => match us, hl with | [_, _, _, _, _], _ => rfl
def N_sLawFaults : List Str := ["_law_p", "_law_extra", "_law_out", "_law_f"]
theorem D_sLawFaults (T : Good K mg) : FunD K "_law_faults" "_law_faults" (defArgs sLawFaults) (defBody sLawFaults) (defScope sLawFaults) [] [] (He.ga K "_law_faults") (fdOf K (He.ga K "_law_faults")) := T.def_ 65 (d := dsLawFaults) rfl rfl rfl
theorem S_sLawFaults : FnScope ["_law_p", "_law_extra", "_law_out", "_law_f"] ["_law_p", "_law_extra"] (defScope sLawFaults) := ⟨rfl, rfl, rfl, by decide +kernel, rfl, by decide +kernel, by decide +kernel⟩
theorem B_sLawFaults (T : Good K mg) : Binds K (fdOf K (He.ga K "_law_faults")) ["_law_p", "_law_extra"] [] := (D_sLawFaults T).bindsN fun _ _ _ _ _ _ us hl => match us, hl with | [_, _], _ => rfl
def N_sLawLook : List Str := ["_law_state", "_law_env", "_law_place", "_law_n", "_law_turn"]
theorem D_sLawLook (T : Good K mg) : FunD K "_law_look" "_law_look" (defArgs sLawLook) (defBody sLawLook) (defScope sLawLook) [] [] (He.ga K "_law_look") (fdOf K (He.ga K "_law_look")) := T.def_ 66 (d := dsLawLook) rfl rfl rfl
theorem S_sLawLook : FnScope ["_law_state", "_law_env", "_law_place", "_law_n", "_law_turn"] ["_law_state", "_law_env", "_law_place"] (defScope sLawLook) := ⟨rfl, rfl, rfl, by decide +kernel, rfl, by decide +kernel, by decide +kernel⟩
theorem B_sLawLook (T : Good K mg) : Binds K (fdOf K (He.ga K "_law_look")) ["_law_state", "_law_env", "_law_place"] [] := (D_sLawLook T).bindsN fun _ _ _ _ _ _ us hl => match us, hl with | [_, _, _], _ => rfl
def N_sLawGive : List Str := ["_law_state", "_law_env", "_law_source_here", "_law_n"]
theorem D_sLawGive (T : Good K mg) : FunD K "_law_give" "_law_give" (defArgs sLawGive) (defBody sLawGive) (defScope sLawGive) [] [] (He.ga K "_law_give") (fdOf K (He.ga K "_law_give")) := T.def_ 67 (d := dsLawGive) rfl rfl rfl
theorem S_sLawGive : FnScope ["_law_state", "_law_env", "_law_source_here", "_law_n"] ["_law_state", "_law_env", "_law_source_here"] (defScope sLawGive) := ⟨rfl, rfl, rfl, by decide +kernel, rfl, by decide +kernel, by decide +kernel⟩
theorem B_sLawGive (T : Good K mg) : Binds K (fdOf K (He.ga K "_law_give")) ["_law_state", "_law_env", "_law_source_here"] [] := (D_sLawGive T).bindsN fun _ _ _ _ _ _ us hl => match us, hl with | [_, _, _], _ => rfl
def N_sLawNew : List Str := ["_law_state", "_law_env", "_law_x", "_law_kt", "_law_value"]
theorem D_sLawNew (T : Good K mg) : FunD K "_law_new" "_law_new" (defArgs sLawNew) (defBody sLawNew) (defScope sLawNew) [] [] (He.ga K "_law_new") (fdOf K (He.ga K "_law_new")) := T.def_ 68 (d := dsLawNew) rfl rfl rfl
theorem S_sLawNew : FnScope ["_law_state", "_law_env", "_law_x", "_law_kt", "_law_value"] ["_law_state", "_law_env", "_law_x", "_law_kt", "_law_value"] (defScope sLawNew) := ⟨rfl, rfl, rfl, by decide +kernel, rfl, by decide +kernel, by decide +kernel⟩
theorem B_sLawNew (T : Good K mg) : Binds K (fdOf K (He.ga K "_law_new")) ["_law_state", "_law_env", "_law_x", "_law_kt", "_law_value"] [] := (D_sLawNew T).bindsN fun _ _ _ _ _ _ us hl => match us, hl with | [_, _, _, _, _], _ => rfl
def N_sLawPut : List Str := ["_law_state", "_law_env", "_law_st", "_law_n", "_law_told_here"]
theorem D_sLawPut (T : Good K mg) : FunD K "_law_put" "_law_put" (defArgs sLawPut) (defBody sLawPut) (defScope sLawPut) [] [] (He.ga K "_law_put") (fdOf K (He.ga K "_law_put")) := T.def_ 69 (d := dsLawPut) rfl rfl rfl
theorem S_sLawPut : FnScope ["_law_state", "_law_env", "_law_st", "_law_n", "_law_told_here"] ["_law_state", "_law_env", "_law_st"] (defScope sLawPut) := ⟨rfl, rfl, rfl, by decide +kernel, rfl, by decide +kernel, by decide +kernel⟩
theorem B_sLawPut (T : Good K mg) : Binds K (fdOf K (He.ga K "_law_put")) ["_law_state", "_law_env", "_law_st"] [] := (D_sLawPut T).bindsN fun _ _ _ _ _ _ us hl => match us, hl with | [_, _, _], _ => rfl
def N_sLawExecute : List Str := ["_law_state", "_law_env", "_law_functions", "_law_st", "_law_told_here", "_law_values", "_law_source_here", "_law_f", "_law_inner", "_law_k", "_law_other", "_law_g"]
theorem D_sLawExecute (T : Good K mg) : FunD K "_law_execute" "_law_execute" (defArgs sLawExecute) (defBody sLawExecute) (defScope sLawExecute) [] [] (He.ga K "_law_execute") (fdOf K (He.ga K "_law_execute")) := T.def_ 70 (d := dsLawExecute) rfl rfl rfl
theorem S_sLawExecute : FnScope ["_law_state", "_law_env", "_law_functions", "_law_st", "_law_told_here", "_law_values", "_law_source_here", "_law_f", "_law_inner", "_law_k", "_law_other", "_law_g"] ["_law_state", "_law_env", "_law_functions", "_law_st"] (defScope sLawExecute) := ⟨rfl, rfl, rfl, by decide +kernel, rfl, by decide +kernel, by decide +kernel⟩
theorem B_sLawExecute (T : Good K mg) : Binds K (fdOf K (He.ga K "_law_execute")) ["_law_state", "_law_env", "_law_functions", "_law_st"] [] := (D_sLawExecute T).bindsN fun _ _ _ _ _ _ us hl => match us, hl with | [_, _, _, _], _ => rfl
def N_sLawRun : List Str := ["_law_p", "_law_state", "_law_env", "_law_st"]
theorem D_sLawRun (T : Good K mg) : FunD K "_law_run" "_law_run" (defArgs sLawRun) (defBody sLawRun) (defScope sLawRun) [] [] (He.ga K "_law_run") (fdOf K (He.ga K "_law_run")) := T.def_ 71 (d := dsLawRun) rfl rfl rfl
theorem S_sLawRun : FnScope ["_law_p", "_law_state", "_law_env", "_law_st"] ["_law_p"] (defScope sLawRun) := ⟨rfl, rfl, rfl, by decide +kernel, rfl, by decide +kernel, by decide +kernel⟩
theorem B_sLawRun (T : Good K mg) : Binds K (fdOf K (He.ga K "_law_run")) ["_law_p"] [] := (D_sLawRun T).bindsN fun _ _ _ _ _ _ us hl => match us, hl with | [_], _ => rfl
def N_sLawThings : List Str := ["_law_state", "_law_thing"]
theorem D_sLawThings (T : Good K mg) : FunD K "_law_things" "_law_things" (defArgs sLawThings) (defBody sLawThings) (defScope sLawThings) [] [] (He.ga K "_law_things") (fdOf K (He.ga K "_law_things")) := T.def_ 72 (d := dsLawThings) rfl rfl rfl
theorem S_sLawThings : FnScope ["_law_state", "_law_thing"] ["_law_state"] (defScope sLawThings) := ⟨rfl, rfl, rfl, by decide +kernel, rfl, by decide +kernel, by decide +kernel⟩
theorem B_sLawThings (T : Good K mg) : Binds K (fdOf K (He.ga K "_law_things")) ["_law_state"] [] := (D_sLawThings T).bindsN fun _ _ _ _ _ _ us hl => match us, hl with | [_], _ => rfl
def N_sLawDepths : List Str := ["_law_block", "_law_out", "_law_st"]
theorem D_sLawDepths (T : Good K mg) : FunD K "_law_depths" "_law_depths" (defArgs sLawDepths) (defBody sLawDepths) (defScope sLawDepths) [] [] (He.ga K "_law_depths") (fdOf K (He.ga K "_law_depths")) := T.def_ 73 (d := dsLawDepths) rfl rfl rfl
theorem S_sLawDepths : FnScope ["_law_block", "_law_out", "_law_st"] ["_law_block"] (defScope sLawDepths) := ⟨rfl, rfl, rfl, by decide +kernel, rfl, by decide +kernel, by decide +kernel⟩
theorem B_sLawDepths (T : Good K mg) : Binds K (fdOf K (He.ga K "_law_depths")) ["_law_block"] [] := (D_sLawDepths T).bindsN fun _ _ _ _ _ _ us hl => match us, hl with | [_], _ => rfl
def N_sLawSketch : List Str := ["_law_box", "_law_most", "_law_p", "_law_functions", "_law_f", "_law_rows", "_law_x", "_law_kt"]
theorem D_sLawSketch (T : Good K mg) : FunD K "_law_sketch" "_law_sketch" (defArgs sLawSketch) (defBody sLawSketch) (defScope sLawSketch) [] [] (He.ga K "_law_sketch") (fdOf K (He.ga K "_law_sketch")) := T.def_ 74 (d := dsLawSketch) rfl rfl rfl
theorem S_sLawSketch : FnScope ["_law_box", "_law_most", "_law_p", "_law_functions", "_law_f", "_law_rows", "_law_x", "_law_kt"] ["_law_box", "_law_most"] (defScope sLawSketch) := ⟨rfl, rfl, rfl, by decide +kernel, rfl, by decide +kernel, by decide +kernel⟩
theorem B_sLawSketch (T : Good K mg) : Binds K (fdOf K (He.ga K "_law_sketch")) ["_law_box", "_law_most"] [] := (D_sLawSketch T).bindsN fun _ _ _ _ _ _ us hl => match us, hl with | [_, _], _ => rfl
def N_sLawKinds : List Str := ["_law_p", "_law_out", "_law_f", "_law_x", "_law_kind", "_law_block", "_law_st"]
theorem D_sLawKinds (T : Good K mg) : FunD K "_law_kinds" "_law_kinds" (defArgs sLawKinds) (defBody sLawKinds) (defScope sLawKinds) [] [] (He.ga K "_law_kinds") (fdOf K (He.ga K "_law_kinds")) := T.def_ 75 (d := dsLawKinds) rfl rfl rfl
theorem S_sLawKinds : FnScope ["_law_p", "_law_out", "_law_f", "_law_x", "_law_kind", "_law_block", "_law_st"] ["_law_p"] (defScope sLawKinds) := ⟨rfl, rfl, rfl, by decide +kernel, rfl, by decide +kernel, by decide +kernel⟩
theorem B_sLawKinds (T : Good K mg) : Binds K (fdOf K (He.ga K "_law_kinds")) ["_law_p"] [] := (D_sLawKinds T).bindsN fun _ _ _ _ _ _ us hl => match us, hl with | [_], _ => rfl
def N_sLawTypedBlock : List Str := ["_law_block", "_law_table_here", "_law_out", "_law_st"]
theorem D_sLawTypedBlock (T : Good K mg) : FunD K "_law_typed_block" "_law_typed_block" (defArgs sLawTypedBlock) (defBody sLawTypedBlock) (defScope sLawTypedBlock) [] [] (He.ga K "_law_typed_block") (fdOf K (He.ga K "_law_typed_block")) := T.def_ 76 (d := dsLawTypedBlock) rfl rfl rfl
theorem S_sLawTypedBlock : FnScope ["_law_block", "_law_table_here", "_law_out", "_law_st"] ["_law_block", "_law_table_here"] (defScope sLawTypedBlock) := ⟨rfl, rfl, rfl, by decide +kernel, rfl, by decide +kernel, by decide +kernel⟩
theorem B_sLawTypedBlock (T : Good K mg) : Binds K (fdOf K (He.ga K "_law_typed_block")) ["_law_block", "_law_table_here"] [] := (D_sLawTypedBlock T).bindsN fun _ _ _ _ _ _ us hl => match us, hl with | [_, _], _ => rfl
def N_sLawTyped : List Str := ["_law_p", "_law_table_here", "_law_functions", "_law_x", "_law_kind", "_law_f"]
theorem D_sLawTyped (T : Good K mg) : FunD K "_law_typed" "_law_typed" (defArgs sLawTyped) (defBody sLawTyped) (defScope sLawTyped) [] [] (He.ga K "_law_typed") (fdOf K (He.ga K "_law_typed")) := T.def_ 77 (d := dsLawTyped) rfl rfl rfl
theorem S_sLawTyped : FnScope ["_law_p", "_law_table_here", "_law_functions", "_law_x", "_law_kind", "_law_f"] ["_law_p", "_law_table_here"] (defScope sLawTyped) := ⟨rfl, rfl, rfl, by decide +kernel, rfl, by decide +kernel, by decide +kernel⟩
theorem B_sLawTyped (T : Good K mg) : Binds K (fdOf K (He.ga K "_law_typed")) ["_law_p", "_law_table_here"] [] := (D_sLawTyped T).bindsN fun _ _ _ _ _ _ us hl => match us, hl with | [_, _], _ => rfl
def N_sLawOpen : List Str := ["_law_p", "_law_kinds_here", "_law_table_here", "_law_x"]
theorem D_sLawOpen (T : Good K mg) : FunD K "_law_open" "_law_open" (defArgs sLawOpen) (defBody sLawOpen) (defScope sLawOpen) [] [] (He.ga K "_law_open") (fdOf K (He.ga K "_law_open")) := T.def_ 78 (d := dsLawOpen) rfl rfl rfl
theorem S_sLawOpen : FnScope ["_law_p", "_law_kinds_here", "_law_table_here", "_law_x"] ["_law_p"] (defScope sLawOpen) := ⟨rfl, rfl, rfl, by decide +kernel, rfl, by decide +kernel, by decide +kernel⟩
theorem B_sLawOpen (T : Good K mg) : Binds K (fdOf K (He.ga K "_law_open")) ["_law_p"] [] := (D_sLawOpen T).bindsN fun _ _ _ _ _ _ us hl => match us, hl with | [_], _ => rfl
def N_sLawShapeFaults : List Str := ["_law_p"]
theorem D_sLawShapeFaults (T : Good K mg) : FunD K "_law_shape_faults" "_law_shape_faults" (defArgs sLawShapeFaults) (defBody sLawShapeFaults) (defScope sLawShapeFaults) [] [] (He.ga K "_law_shape_faults") (fdOf K (He.ga K "_law_shape_faults")) := T.def_ 79 (d := dsLawShapeFaults) rfl rfl rfl
theorem S_sLawShapeFaults : FnScope ["_law_p"] ["_law_p"] (defScope sLawShapeFaults) := ⟨rfl, rfl, rfl, by decide +kernel, rfl, by decide +kernel, by decide +kernel⟩
theorem B_sLawShapeFaults (T : Good K mg) : Binds K (fdOf K (He.ga K "_law_shape_faults")) ["_law_p"] [] := (D_sLawShapeFaults T).bindsN fun _ _ _ _ _ _ us hl => match us, hl with | [_], _ => rfl
def N_sLawPlainSource : List Str := ["_law_st"]
theorem D_sLawPlainSource (T : Good K mg) : FunD K "_law_plain_source" "_law_plain_source" (defArgs sLawPlainSource) (defBody sLawPlainSource) (defScope sLawPlainSource) [] [] (He.ga K "_law_plain_source") (fdOf K (He.ga K "_law_plain_source")) := T.def_ 80 (d := dsLawPlainSource) rfl rfl rfl
theorem S_sLawPlainSource : FnScope ["_law_st"] ["_law_st"] (defScope sLawPlainSource) := ⟨rfl, rfl, rfl, by decide +kernel, rfl, by decide +kernel, by decide +kernel⟩
theorem B_sLawPlainSource (T : Good K mg) : Binds K (fdOf K (He.ga K "_law_plain_source")) ["_law_st"] [] := (D_sLawPlainSource T).bindsN fun _ _ _ _ _ _ us hl => match us, hl with | [_], _ => rfl
def N_sLawMendedBlock : List Str := ["_law_f", "_law_block", "_law_bad", "_law_out", "_law_k"]
theorem D_sLawMendedBlock (T : Good K mg) : FunD K "_law_mended_block" "_law_mended_block" (defArgs sLawMendedBlock) (defBody sLawMendedBlock) (defScope sLawMendedBlock) [] [] (He.ga K "_law_mended_block") (fdOf K (He.ga K "_law_mended_block")) := T.def_ 81 (d := dsLawMendedBlock) rfl rfl rfl
theorem S_sLawMendedBlock : FnScope ["_law_f", "_law_block", "_law_bad", "_law_out", "_law_k"] ["_law_f", "_law_block", "_law_bad"] (defScope sLawMendedBlock) := ⟨rfl, rfl, rfl, by decide +kernel, rfl, by decide +kernel, by decide +kernel⟩
theorem B_sLawMendedBlock (T : Good K mg) : Binds K (fdOf K (He.ga K "_law_mended_block")) ["_law_f", "_law_block", "_law_bad"] [] := (D_sLawMendedBlock T).bindsN fun _ _ _ _ _ _ us hl => match us, hl with | [_, _, _], _ => rfl
def N_sLawShaped : List Str := ["_law_box", "_law_most", "_law_p", "_law_bad", "_law_functions", "_law_f", "_law_k", "_law_reason"]
theorem D_sLawShaped (T : Good K mg) : FunD K "_law_shaped" "_law_shaped" (defArgs sLawShaped) (defBody sLawShaped) (defScope sLawShaped) [] [] (He.ga K "_law_shaped") (fdOf K (He.ga K "_law_shaped")) := T.def_ 82 (d := dsLawShaped) rfl rfl rfl
theorem S_sLawShaped : FnScope ["_law_box", "_law_most", "_law_p", "_law_bad", "_law_functions", "_law_f", "_law_k", "_law_reason"] ["_law_box", "_law_most"] (defScope sLawShaped) := ⟨rfl, rfl, rfl, by decide +kernel, rfl, by decide +kernel, by decide +kernel⟩
theorem B_sLawShaped (T : Good K mg) : Binds K (fdOf K (He.ga K "_law_shaped")) ["_law_box", "_law_most"] [] := (D_sLawShaped T).bindsN fun _ _ _ _ _ _ us hl => match us, hl with | [_, _], _ => rfl
def N_sLawLists : List Str := ["_law_length", "_law_out", "_law_rows", "_law_turn", "_law_longer", "_law_row_here"]
theorem D_sLawLists (T : Good K mg) : FunD K "_law_lists" "_law_lists" (defArgs sLawLists) (defBody sLawLists) (defScope sLawLists) [] [] (He.ga K "_law_lists") (fdOf K (He.ga K "_law_lists")) := T.def_ 83 (d := dsLawLists) rfl rfl rfl
theorem S_sLawLists : FnScope ["_law_length", "_law_out", "_law_rows", "_law_turn", "_law_longer", "_law_row_here"] ["_law_length"] (defScope sLawLists) := ⟨rfl, rfl, rfl, by decide +kernel, rfl, by decide +kernel, by decide +kernel⟩
theorem B_sLawLists (T : Good K mg) : Binds K (fdOf K (He.ga K "_law_lists")) ["_law_length"] [] := (D_sLawLists T).bindsN fun _ _ _ _ _ _ us hl => match us, hl with | [_], _ => rfl
def N_sLawConversionRules : List Str := ["_law_one", "_law_two", "_law_length", "_law_out", "_law_letters", "_law_a", "_law_b", "_law_premises", "_law_letter"]
theorem D_sLawConversionRules (T : Good K mg) : FunD K "_law_conversion_rules" "_law_conversion_rules" (defArgs sLawConversionRules) (defBody sLawConversionRules) (defScope sLawConversionRules) [] [] (He.ga K "_law_conversion_rules") (fdOf K (He.ga K "_law_conversion_rules")) := T.def_ 84 (d := dsLawConversionRules) rfl rfl rfl
theorem S_sLawConversionRules : FnScope ["_law_one", "_law_two", "_law_length", "_law_out", "_law_letters", "_law_a", "_law_b", "_law_premises", "_law_letter"] ["_law_one", "_law_two", "_law_length"] (defScope sLawConversionRules) := ⟨rfl, rfl, rfl, by decide +kernel, rfl, by decide +kernel, by decide +kernel⟩
theorem B_sLawConversionRules (T : Good K mg) : Binds K (fdOf K (He.ga K "_law_conversion_rules")) ["_law_one", "_law_two", "_law_length"] [] := (D_sLawConversionRules T).bindsN fun _ _ _ _ _ _ us hl => match us, hl with | [_, _, _], _ => rfl
def N_sLawSourceRules : List Str := ["_law_kinds_here", "_law_source_here", "_law_two", "_law_x", "_law_k", "_law_out", "_law_j"]
theorem D_sLawSourceRules (T : Good K mg) : FunD K "_law_source_rules" "_law_source_rules" (defArgs sLawSourceRules) (defBody sLawSourceRules) (defScope sLawSourceRules) [] [] (He.ga K "_law_source_rules") (fdOf K (He.ga K "_law_source_rules")) := T.def_ 85 (d := dsLawSourceRules) rfl rfl rfl
theorem S_sLawSourceRules : FnScope ["_law_kinds_here", "_law_source_here", "_law_two", "_law_x", "_law_k", "_law_out", "_law_j"] ["_law_kinds_here", "_law_source_here", "_law_two"] (defScope sLawSourceRules) := ⟨rfl, rfl, rfl, by decide +kernel, rfl, by decide +kernel, by decide +kernel⟩
theorem B_sLawSourceRules (T : Good K mg) : Binds K (fdOf K (He.ga K "_law_source_rules")) ["_law_kinds_here", "_law_source_here", "_law_two"] [] := (D_sLawSourceRules T).bindsN fun _ _ _ _ _ _ us hl => match us, hl with | [_, _, _], _ => rfl
def N_sLawRules : List Str := ["_law_p", "_law_st", "_law_kinds_here", "_law_out", "_law_x", "_law_k", "_law_params", "_law_rows", "_law_premises", "_law_claim", "_law_j", "_law_f"]
theorem D_sLawRules (T : Good K mg) : FunD K "_law_rules" "_law_rules" (defArgs sLawRules) (defBody sLawRules) (defScope sLawRules) [] [] (He.ga K "_law_rules") (fdOf K (He.ga K "_law_rules")) := T.def_ 86 (d := dsLawRules) rfl rfl rfl
theorem S_sLawRules : FnScope ["_law_p", "_law_st", "_law_kinds_here", "_law_out", "_law_x", "_law_k", "_law_params", "_law_rows", "_law_premises", "_law_claim", "_law_j", "_law_f"] ["_law_p", "_law_st"] (defScope sLawRules) := ⟨rfl, rfl, rfl, by decide +kernel, rfl, by decide +kernel, by decide +kernel⟩
theorem B_sLawRules (T : Good K mg) : Binds K (fdOf K (He.ga K "_law_rules")) ["_law_p", "_law_st"] [] := (D_sLawRules T).bindsN fun _ _ _ _ _ _ us hl => match us, hl with | [_, _], _ => rfl
def N_sLawPlaces : List Str := ["_law_p", "_law_out", "_law_f", "_law_k"]
theorem D_sLawPlaces (T : Good K mg) : FunD K "_law_places" "_law_places" (defArgs sLawPlaces) (defBody sLawPlaces) (defScope sLawPlaces) [] [] (He.ga K "_law_places") (fdOf K (He.ga K "_law_places")) := T.def_ 87 (d := dsLawPlaces) rfl rfl rfl
theorem S_sLawPlaces : FnScope ["_law_p", "_law_out", "_law_f", "_law_k"] ["_law_p"] (defScope sLawPlaces) := ⟨rfl, rfl, rfl, by decide +kernel, rfl, by decide +kernel, by decide +kernel⟩
theorem B_sLawPlaces (T : Good K mg) : Binds K (fdOf K (He.ga K "_law_places")) ["_law_p"] [] := (D_sLawPlaces T).bindsN fun _ _ _ _ _ _ us hl => match us, hl with | [_], _ => rfl
def N_sLawAllRules : List Str := ["_law_p", "_law_out", "_law_f", "_law_k", "_law_st"]
theorem D_sLawAllRules (T : Good K mg) : FunD K "_law_all_rules" "_law_all_rules" (defArgs sLawAllRules) (defBody sLawAllRules) (defScope sLawAllRules) [] [] (He.ga K "_law_all_rules") (fdOf K (He.ga K "_law_all_rules")) := T.def_ 88 (d := dsLawAllRules) rfl rfl rfl
theorem S_sLawAllRules : FnScope ["_law_p", "_law_out", "_law_f", "_law_k", "_law_st"] ["_law_p"] (defScope sLawAllRules) := ⟨rfl, rfl, rfl, by decide +kernel, rfl, by decide +kernel, by decide +kernel⟩
theorem B_sLawAllRules (T : Good K mg) : Binds K (fdOf K (He.ga K "_law_all_rules")) ["_law_p"] [] := (D_sLawAllRules T).bindsN fun _ _ _ _ _ _ us hl => match us, hl with | [_], _ => rfl
def N_sLawClosed : List Str := ["_law_found", "_law_told_here", "_law_turn", "_law_before", "_law_premises", "_law_claim", "_law_premise"]
theorem D_sLawClosed (T : Good K mg) : FunD K "_law_closed" "_law_closed" (defArgs sLawClosed) (defBody sLawClosed) (defScope sLawClosed) [] [] (He.ga K "_law_closed") (fdOf K (He.ga K "_law_closed")) := T.def_ 89 (d := dsLawClosed) rfl rfl rfl
theorem S_sLawClosed : FnScope ["_law_found", "_law_told_here", "_law_turn", "_law_before", "_law_premises", "_law_claim", "_law_premise"] ["_law_found", "_law_told_here"] (defScope sLawClosed) := ⟨rfl, rfl, rfl, by decide +kernel, rfl, by decide +kernel, by decide +kernel⟩
theorem B_sLawClosed (T : Good K mg) : Binds K (fdOf K (He.ga K "_law_closed")) ["_law_found", "_law_told_here"] [] := (D_sLawClosed T).bindsN fun _ _ _ _ _ _ us hl => match us, hl with | [_, _], _ => rfl
def N_sLawTable : List Str := ["_law_p", "_law_found", "_law_kinds_here", "_law_table_here", "_law_x", "_law_row_here", "_law_level", "_law_right_here", "_law_letter"]
theorem D_sLawTable (T : Good K mg) : FunD K "_law_table" "_law_table" (defArgs sLawTable) (defBody sLawTable) (defScope sLawTable) [] [] (He.ga K "_law_table") (fdOf K (He.ga K "_law_table")) := T.def_ 90 (d := dsLawTable) rfl rfl rfl
theorem S_sLawTable : FnScope ["_law_p", "_law_found", "_law_kinds_here", "_law_table_here", "_law_x", "_law_row_here", "_law_level", "_law_right_here", "_law_letter"] ["_law_p", "_law_found"] (defScope sLawTable) := ⟨rfl, rfl, rfl, by decide +kernel, rfl, by decide +kernel, by decide +kernel⟩
theorem B_sLawTable (T : Good K mg) : Binds K (fdOf K (He.ga K "_law_table")) ["_law_p", "_law_found"] [] := (D_sLawTable T).bindsN fun _ _ _ _ _ _ us hl => match us, hl with | [_, _], _ => rfl
def N_sLawClaims : List Str := ["_law_p", "_law_kinds_here", "_law_out", "_law_x", "_law_level", "_law_letter"]
theorem D_sLawClaims (T : Good K mg) : FunD K "_law_claims" "_law_claims" (defArgs sLawClaims) (defBody sLawClaims) (defScope sLawClaims) [] [] (He.ga K "_law_claims") (fdOf K (He.ga K "_law_claims")) := T.def_ 91 (d := dsLawClaims) rfl rfl rfl
theorem S_sLawClaims : FnScope ["_law_p", "_law_kinds_here", "_law_out", "_law_x", "_law_level", "_law_letter"] ["_law_p"] (defScope sLawClaims) := ⟨rfl, rfl, rfl, by decide +kernel, rfl, by decide +kernel, by decide +kernel⟩
theorem B_sLawClaims (T : Good K mg) : Binds K (fdOf K (He.ga K "_law_claims")) ["_law_p"] [] := (D_sLawClaims T).bindsN fun _ _ _ _ _ _ us hl => match us, hl with | [_], _ => rfl
def N_sLawPair : List Str := ["_law_box", "_law_most", "_law_many", "_law_one", "_law_two", "_law_k"]
theorem D_sLawPair (T : Good K mg) : FunD K "_law_pair" "_law_pair" (defArgs sLawPair) (defBody sLawPair) (defScope sLawPair) [] [] (He.ga K "_law_pair") (fdOf K (He.ga K "_law_pair")) := T.def_ 92 (d := dsLawPair) rfl rfl rfl
theorem S_sLawPair : FnScope ["_law_box", "_law_most", "_law_many", "_law_one", "_law_two", "_law_k"] ["_law_box", "_law_most"] (defScope sLawPair) := ⟨rfl, rfl, rfl, by decide +kernel, rfl, by decide +kernel, by decide +kernel⟩
theorem B_sLawPair (T : Good K mg) : Binds K (fdOf K (He.ga K "_law_pair")) ["_law_box", "_law_most"] [] := (D_sLawPair T).bindsN fun _ _ _ _ _ _ us hl => match us, hl with | [_, _], _ => rfl
def N_sLawTold : List Str := ["_law_program_here", "_law_extra", "e"]
theorem D_sLawTold (T : Good K mg) : FunD K "_law_told" "_law_told" (defArgs sLawTold) (defBody sLawTold) (defScope sLawTold) [] [] (He.ga K "_law_told") (fdOf K (He.ga K "_law_told")) := T.def_ 93 (d := dsLawTold) rfl rfl rfl
theorem S_sLawTold : FnScope ["_law_program_here", "_law_extra", "e"] ["_law_program_here", "_law_extra"] (defScope sLawTold) := ⟨rfl, rfl, rfl, by decide +kernel, rfl, by decide +kernel, by decide +kernel⟩
theorem B_sLawTold (T : Good K mg) : Binds K (fdOf K (He.ga K "_law_told")) ["_law_program_here", "_law_extra"] [] := (D_sLawTold T).bindsN fun _ _ _ _ _ _ us hl => match us, hl with | [_, _], _ => rfl
def N_sLaw : List Str := ["_law_script", "_law_box", "_law_turn", "_law_p", "_law_told_here", "_law_found", "_law_claim", "_law_table_here", "_law_program_here", "_law_plain", "_law_extra", "_law_ended", "_law_state", "_law_due", "_law_pair_here", "_law_k"]
theorem D_sLaw (T : Good K mg) : FunD K "law" "law" (defArgs sLaw) (defBody sLaw) (defScope sLaw) [] [] (He.ga K "law") (fdOf K (He.ga K "law")) := T.def_ 94 (d := dsLaw) rfl rfl rfl
theorem S_sLaw : FnScope ["_law_script", "_law_box", "_law_turn", "_law_p", "_law_told_here", "_law_found", "_law_claim", "_law_table_here", "_law_program_here", "_law_plain", "_law_extra", "_law_ended", "_law_state", "_law_due", "_law_pair_here", "_law_k"] ["_law_script"] (defScope sLaw) := ⟨rfl, rfl, rfl, by decide +kernel, rfl, by decide +kernel, by decide +kernel⟩
theorem B_sLaw (T : Good K mg) : Binds K (fdOf K (He.ga K "law")) ["_law_script"] [] := (D_sLaw T).bindsN fun _ _ _ _ _ _ us hl => match us, hl with | [_], _ => rfl
end
end Rk
namespace Rk
open PySem PySem.Spec PyProof.Rows L2
theorem tuple_mul1 (l : Addr) (items : Array Value) (n : Nat) (dd : Option Addr) (sl : Array (Option Value)) (u : Tok) :
    Meets (Builtin.«tuple.__mul__» ⟨[.ref l, .int 1 u], []⟩) (fun _ R s => s.heap.get? l = some { cls := .type "tuple", dict := dd, data := .seq items n, slots := sl } ∧ R (.ok (.ret (Value.ref l))) s) :=
  .of_wp fun prog w A R s h => by
    obtain ⟨hp, g, d, tk, os⟩ := s
    obtain ⟨hl, h⟩ := h
    have f1 := AutoSeq1.idx_int
    have c1 : (items.isEmpty || (1 : Int) == 1) = true := by simp
    wp_walk using wpAny_loadPart' hl
    exact ⟨_, rfl, h⟩
/-- t * 1 is t itself -/
theorem op_rep1 {X : Cx} (K : PySem.W.Frag) (hK : X.K = K := by rfl) : OpR X (binaryOp .Mult) (fun x y H Q => ∃ (l : Addr) (xs : List V), x = .ref l ∧ y = .int 1 ∧ SqT K H l xs ∧ Q (.ref l) H) := by
  intro pins s σ H x y v u Q I rx ry h
  subst hK
  obtain ⟨l, xs, rfl, rfl, hT, q⟩ := h
  cases rx
  obtain ⟨t, rfl⟩ := ry
  obtain ⟨its, r, ⟨⟨cls, dd, data, sl⟩, ho, hc, n, hd⟩, hs⟩ := I.tuple hT
  simp only at hc hd
  subst hc hd
  refine wpAny_binaryOp_repeat_ref (T := "tuple") (U := "int") (by decide) ⟨_, ho, rfl⟩ (fun s' => typeIs_int s' 1 t) noFill_tuple_mul F.fills_int_mul F.slot_int_rmul repeat_tuple F.slot_int_index.lookup
    (call_meets F.slot_int_rmul (typeIs_int s 1 t) F.entry_int_rmul (F.args_int_rmul_2 _ _) (int_rmul_tuple 1 t l its.toArray n dd sl)
      ⟨ho, rfl, ⟨_, ho, rfl⟩, call_meets F.slot_tuple_mul ⟨_, ho, rfl⟩ F.entry_tuple_mul (F.args_tuple_mul_2 _ _) (tuple_mul1 l its.toArray n dd sl t) ⟨ho, ?_⟩⟩)
  exact ⟨.ref l, _, I, rfl, q⟩
/-- t * k for 1 ≤ k -/
def rRep1 (K : PySem.W.Frag) : R2 := fun x y H Q => (∃ (l : Addr) (xs : List V), x = .ref l ∧ y = .int 1 ∧ SqT K H l xs ∧ Q (.ref l) H) ∨ rRepT K x y H Q
theorem op_repT1 {X : Cx} (K : PySem.W.Frag) (hK : X.K = K := by rfl) : OpR X (binaryOp .Mult) (rRep1 K) := by
  subst hK
  exact OpR.or (op_rep1 X.K) op_repT
end Rk
/-! how data lie in a view -/
namespace Rk
open PySem PySem.Spec PyProof.Rows L2

abbrev Ty := List Str
inductive Src where
  | num (n : Nat) | null | val (x : Str) (k : Nat) | adr (x : Str) (k : Nat)
inductive Stm (κ : Type) where
  | lt (x : Str) (t : κ) (s : Src) | pt (x : Str) (k : Nat) (s : Src) | cl (f : Str) (ss : List Src)
structure Fn (κ : Type) where
  name : Str
  ps : List (Str × κ)
  body : List (Stm κ)
structure Pg (κ : Type) where
  fns : List (Fn κ)
  main : List (Stm κ)

/-! ### lists of data -/
def AllR {α : Type} (R : α → V → Hp → Prop) (ds : List α) (xs : List V) (J : Hp) : Prop := xs.length = ds.length ∧ ∀ (i : Nat) (x : V) (d : α), xs[i]? = some x → ds[i]? = some d → R d x J
section
variable {α : Type} {R : α → V → Hp → Prop} {ds es : List α} {xs ys : List V} {J J' : Hp}
theorem AllR.nil : AllR R [] [] J := ⟨rfl, fun i x d h => by simp at h⟩
theorem AllR.len (h : AllR R ds xs J) : xs.length = ds.length := h.1
theorem AllR.at (h : AllR R ds xs J) {i : Nat} {x : V} (e : xs[i]? = some x) : ∃ d, ds[i]? = some d ∧ R d x J := by
  have hi := (List.getElem?_eq_some_iff.mp e).1
  have hd : i < ds.length := by rw [← h.1]; exact hi
  exact ⟨ds[i], List.getElem?_eq_getElem hd, h.2 i x _ e (List.getElem?_eq_getElem hd)⟩
theorem AllR.at' (h : AllR R ds xs J) {i : Nat} {d : α} (e : ds[i]? = some d) : ∃ x, xs[i]? = some x ∧ R d x J := by
  have hi := (List.getElem?_eq_some_iff.mp e).1
  have hd : i < xs.length := by rw [h.1]; exact hi
  exact ⟨xs[i], List.getElem?_eq_getElem hd, h.2 i _ _ (List.getElem?_eq_getElem hd) e⟩
theorem AllR.snoc (h : AllR R ds xs J) {x : V} {d : α} (r : R d x J) : AllR R (ds ++ [d]) (xs ++ [x]) J := by
  refine ⟨by simp [h.1], fun i y e hy he => ?_⟩
  by_cases hi : i < xs.length
  · rw [List.getElem?_append_left hi] at hy
    rw [List.getElem?_append_left (by rw [← h.1]; exact hi)] at he
    exact h.2 i y e hy he
  · have hx : i = xs.length := by
      have := (List.getElem?_eq_some_iff.mp hy).1
      simp at this; omega
    subst hx
    rw [List.getElem?_append_right (Nat.le_refl _), Nat.sub_self] at hy
    rw [h.1, List.getElem?_append_right (Nat.le_refl _), Nat.sub_self] at he
    simp at hy he
    subst hy; subst he
    exact r
theorem AllR.cons (h : AllR R ds xs J) {x : V} {d : α} (r : R d x J) : AllR R (d :: ds) (x :: xs) J := by
  refine ⟨by simp [h.1], fun i y e hy he => ?_⟩
  cases i with
  | zero => simp at hy he; subst hy; subst he; exact r
  | succ i => exact h.2 i y e (by simpa using hy) (by simpa using he)
theorem AllR.head {x : V} {d : α} (h : AllR R (d :: ds) (x :: xs) J) : R d x J := h.2 0 x d rfl rfl
theorem AllR.tail {x : V} {d : α} (h : AllR R (d :: ds) (x :: xs) J) : AllR R ds xs J := ⟨by have := h.1; simpa using this, fun i y e hy he => h.2 (i + 1) y e (by simpa using hy) (by simpa using he)⟩
theorem AllR.append (h : AllR R ds xs J) (k : AllR R es ys J) : AllR R (ds ++ es) (xs ++ ys) J := by
  refine ⟨by simp [h.1, k.1], fun i y e hy he => ?_⟩
  by_cases hi : i < xs.length
  · rw [List.getElem?_append_left hi] at hy
    rw [List.getElem?_append_left (by rw [← h.1]; exact hi)] at he
    exact h.2 i y e hy he
  · rw [List.getElem?_append_right (by omega)] at hy
    rw [List.getElem?_append_right (by rw [← h.1]; omega), ← h.1] at he
    exact k.2 _ y e hy he
theorem AllR.imp {S : α → V → Hp → Prop} (h : AllR R ds xs J) (k : ∀ d x, d ∈ ds → R d x J → S d x J') : AllR S ds xs J' := ⟨h.1, fun i x d hx hd => k d x (List.mem_of_getElem? hd) (h.2 i x d hx hd)⟩
theorem AllR.drop (h : AllR R ds xs J) (n : Nat) : AllR R (ds.drop n) (xs.drop n) J := ⟨by simp [h.1], fun i x d hx hd => h.2 (n + i) x d (by simpa using hx) (by simpa using hd)⟩
theorem AllR.take (h : AllR R ds xs J) (n : Nat) : AllR R (ds.take n) (xs.take n) J := ⟨by simp [h.1], fun i x d hx hd => by
  rw [List.getElem?_take] at hx hd
  split at hx
  · rename_i hi
    rw [if_pos hi] at hd
    exact h.2 i x d hx hd
  · cases hx⟩
theorem AllR.map {β : Type} {f : β → α} {ds : List β} : AllR R (ds.map f) xs J ↔ AllR (fun d => R (f d)) ds xs J := by
  constructor
  · intro h
    exact ⟨by simpa using h.1, fun i x d hx hd => h.2 i x (f d) hx (by simp [hd])⟩
  · intro h
    refine ⟨by simpa using h.1, fun i x d hx hd => ?_⟩
    rw [List.getElem?_map] at hd
    cases e : ds[i]? with
    | none => rw [e] at hd; cases hd
    | some d' =>
      rw [e] at hd
      cases hd
      exact h.2 i x d' hx e
end
instance {α : Type} {R : α → V → Hp → Prop} [∀ d v, Up (R d v)] (ds : List α) (xs : List V) : Up (AllR R ds xs) := ⟨fun e h => ⟨h.1, fun i x d hx hd => Up.up e (h.2 i x d hx hd)⟩⟩
def rLst {α : Type} (R : α → V → Hp → Prop) (ds : List α) (v : V) (J : Hp) : Prop := ∃ a xs, v = .ref a ∧ J a = some (.lst xs) ∧ AllR R ds xs J
instance {α : Type} {R : α → V → Hp → Prop} [∀ d v, Up (R d v)] (ds : List α) (v : V) : Up (rLst R ds v) := ⟨fun e ⟨a, xs, h1, h2, h3⟩ => ⟨a, xs, h1, e _ _ h2, Up.up e h3⟩⟩
/-! ### types, places, sources, statements -/
def rTy (t : Ty) (v : V) (J : Hp) : Prop := ∃ a, v = .ref a ∧ J a = some (.tup (t.map V.str)) ∧ t.length ≤ 6
instance (t : Ty) (v : V) : Up (rTy t v) := ⟨fun e ⟨a, h1, h2, h3⟩ => ⟨a, h1, e _ _ h2, h3⟩⟩
def rDp (n : Nat) (v : V) (_J : Hp) : Prop := v = .int (n : Int)
instance (n : Nat) (v : V) : Up (rDp n v) := ⟨fun _ h => h⟩
def rPl (p : Str × Nat) (v : V) (J : Hp) : Prop := ∃ a, v = .ref a ∧ J a = some (.tup [.str p.1, .int (p.2 : Int)])
instance (p : Str × Nat) (v : V) : Up (rPl p v) := ⟨fun e ⟨a, h1, h2⟩ => ⟨a, h1, e _ _ h2⟩⟩
def rSrc : Src → V → Hp → Prop
  | .num n, v, J => ∃ a, v = .ref a ∧ J a = some (.tup [.str "number", .int (n : Int)])
  | .null, v, J => ∃ a, v = .ref a ∧ J a = some (.tup [.str "null"])
  | .val x k, v, J => ∃ a b, v = .ref a ∧ J a = some (.tup [.str "value", .ref b]) ∧ J b = some (.tup [.str x, .int (k : Int)])
  | .adr x k, v, J => ∃ a b, v = .ref a ∧ J a = some (.tup [.str "address", .ref b]) ∧ J b = some (.tup [.str x, .int (k : Int)])
instance (s : Src) (v : V) : Up (rSrc s v) := ⟨fun {J J'} e h => by
  cases s with
  | num n => obtain ⟨a, h1, h2⟩ := h; exact ⟨a, h1, e _ _ h2⟩
  | null => obtain ⟨a, h1, h2⟩ := h; exact ⟨a, h1, e _ _ h2⟩
  | val x k => obtain ⟨a, b, h1, h2, h3⟩ := h; exact ⟨a, b, h1, e _ _ h2, e _ _ h3⟩
  | adr x k => obtain ⟨a, b, h1, h2, h3⟩ := h; exact ⟨a, b, h1, e _ _ h2, e _ _ h3⟩⟩
section
variable {κ : Type} (RK : κ → V → Hp → Prop)
def rStm : Stm κ → V → Hp → Prop
  | .lt x t s, v, J => ∃ a kv sv, v = .ref a ∧ J a = some (.tup [.str "let", .str x, kv, sv]) ∧ RK t kv J ∧ rSrc s sv J
  | .pt x k s, v, J => ∃ a b sv, v = .ref a ∧ J a = some (.tup [.str "put", .ref b, sv]) ∧ J b = some (.tup [.str x, .int (k : Int)]) ∧ rSrc s sv J
  | .cl f ss, v, J => ∃ a l xs, v = .ref a ∧ J a = some (.tup [.str "call", .str f, .ref l]) ∧ J l = some (.lst xs) ∧ AllR rSrc ss xs J
/-- a parameter -/
def rPar (p : Str × κ) (v : V) (J : Hp) : Prop := ∃ a kv, v = .ref a ∧ J a = some (.tup [.str p.1, kv]) ∧ RK p.2 kv J
/-- a function of the law's: a list of name, parameters, body -/
def rLFn (f : Fn κ) (v : V) (J : Hp) : Prop := ∃ a pv bv, v = .ref a ∧ J a = some (.lst [.str f.name, pv, bv]) ∧ rLst (rPar RK) f.ps pv J ∧ rLst (rStm RK) f.body bv J
def rLPg (p : Pg κ) (v : V) (J : Hp) : Prop := ∃ a fv mv, v = .ref a ∧ J a = some (.lst [fv, mv]) ∧ rLst (rLFn RK) p.fns fv J ∧ rLst (rStm RK) p.main mv J
variable [∀ d v, Up (RK d v)]
instance (s : Stm κ) (v : V) : Up (rStm RK s v) := ⟨fun {J J'} e h => by
  cases s with
  | lt x t s => obtain ⟨a, kv, sv, h1, h2, h3, h4⟩ := h; exact ⟨a, kv, sv, h1, e _ _ h2, Up.up e h3, Up.up e h4⟩
  | pt x k s => obtain ⟨a, b, sv, h1, h2, h3, h4⟩ := h; exact ⟨a, b, sv, h1, e _ _ h2, e _ _ h3, Up.up e h4⟩
  | cl f ss => obtain ⟨a, l, xs, h1, h2, h3, h4⟩ := h; exact ⟨a, l, xs, h1, e _ _ h2, e _ _ h3, Up.up e h4⟩⟩
instance (p : Str × κ) (v : V) : Up (rPar RK p v) := ⟨fun e ⟨a, kv, h1, h2, h3⟩ => ⟨a, kv, h1, e _ _ h2, Up.up e h3⟩⟩
instance (f : Fn κ) (v : V) : Up (rLFn RK f v) := ⟨fun e ⟨a, pv, bv, h1, h2, h3, h4⟩ => ⟨a, pv, bv, h1, e _ _ h2, Up.up e h3, Up.up e h4⟩⟩
instance (p : Pg κ) (v : V) : Up (rLPg RK p v) := ⟨fun e ⟨a, fv, mv, h1, h2, h3, h4⟩ => ⟨a, fv, mv, h1, e _ _ h2, Up.up e h3, Up.up e h4⟩⟩
end
/-! ### dicts of names -/
/-- a dict of names: its entries in order -/
def EntR {α : Type} (R : α → V → Hp → Prop) (ts : List (Str × α)) (kvs : List (Key × V)) (J : Hp) : Prop :=
  kvs.length = ts.length ∧ ∀ (i : Nat) (kv : Key × V) (t : Str × α), kvs[i]? = some kv → ts[i]? = some t → kv.1 = Sum.inr t.1 ∧ R t.2 kv.2 J
def rDic {α : Type} (R : α → V → Hp → Prop) (ts : List (Str × α)) (v : V) (J : Hp) : Prop := ∃ a kvs, v = .ref a ∧ J a = some (.dK kvs) ∧ EntR R ts kvs J
instance {α : Type} {R : α → V → Hp → Prop} [∀ d v, Up (R d v)] (ts : List (Str × α)) (kvs : List (Key × V)) : Up (EntR R ts kvs) := ⟨fun e h => ⟨h.1, fun i x d hx hd => ⟨(h.2 i x d hx hd).1, Up.up e (h.2 i x d hx hd).2⟩⟩⟩
instance {α : Type} {R : α → V → Hp → Prop} [∀ d v, Up (R d v)] (ts : List (Str × α)) (v : V) : Up (rDic R ts v) := ⟨fun e ⟨a, kvs, h1, h2, h3⟩ => ⟨a, kvs, h1, e _ _ h2, Up.up e h3⟩⟩
section
variable {α : Type} {R : α → V → Hp → Prop} {J : Hp}
theorem EntR.nil : EntR R [] [] J := ⟨rfl, fun i x d h => by simp at h⟩
theorem EntR.tail {ts : List (Str × α)} {kvs : List (Key × V)} {kv : Key × V} {t : Str × α} (h : EntR R (t :: ts) (kv :: kvs) J) : EntR R ts kvs J := ⟨by have := h.1; simpa using this, fun i y e hy he => h.2 (i + 1) y e (by simpa using hy) (by simpa using he)⟩
theorem EntR.get : ∀ {ts : List (Str × α)} {kvs : List (Key × V)} {x : Str}, EntR R ts kvs J → match ts.lookup x with
    | none => valV kvs (Sum.inr x : Key) = none
    | some d => ∃ v, valV kvs (Sum.inr x : Key) = some v ∧ R d v J
  | [], [], x, _ => rfl
  | [], _ :: _, _, h => absurd h.1 (by simp)
  | _ :: _, [], _, h => absurd h.1 (by simp)
  | t :: ts, kv :: kvs, x, h => by
    obtain ⟨y, d⟩ := t
    obtain ⟨h1, h2⟩ := h.2 0 kv (y, d) rfl rfl
    obtain ⟨k, v⟩ := kv
    simp only at h1 h2
    subst h1
    have ih := EntR.get (x := x) h.tail
    by_cases e : x = y
    · subst e
      have l1 : List.lookup x ((x, d) :: ts) = some d := by simp [List.lookup]
      rw [l1]
      exact ⟨v, by simp [valV], h2⟩
    · have l1 : List.lookup x ((y, d) :: ts) = List.lookup x ts := by
        have : (x == y) = false := beq_eq_false_iff_ne.mpr e
        simp [List.lookup, this]
      have l2 : valV (((Sum.inr y : Key), v) :: kvs) (Sum.inr x : Key) = valV kvs (Sum.inr x) := by
        have : ¬ ((Sum.inr y : Key) = Sum.inr x) := fun q => e (Sum.inr.inj q).symm
        simp [valV, this]
      rw [l1, l2]
      exact ih
theorem EntR.some {ts : List (Str × α)} {kvs : List (Key × V)} {x : Str} {d : α} (h : EntR R ts kvs J) (e : ts.lookup x = some d) : ∃ v, valV kvs (Sum.inr x : Key) = some v ∧ R d v J := by
  have := EntR.get (x := x) h
  rw [e] at this
  exact this
theorem EntR.none {ts : List (Str × α)} {kvs : List (Key × V)} {x : Str} (h : EntR R ts kvs J) (e : ts.lookup x = none) : valV kvs (Sum.inr x : Key) = none := by
  have := EntR.get (x := x) h
  rw [e] at this
  exact this
end
end Rk
/-! steps that want more: dicts, slices, loops, comprehensions -/
namespace Rk
open PySem PySem.Spec PyProof.Rows L2
section
variable {M0 : Addr → Prop} {J0 H0 J H : Hp} {Q : VK} {σ : L2.St} {K : PySem.W.Frag} {D : Ends}
/-! ### dicts with names as keys -/
theorem k_dget {td ty : TE} (h : td σ H fun x H1 => ty σ H1 fun y H2 => ∃ a v, x = .ref a ∧ DGet H2 a y (some v) ∧ ap Q v H2) : tDGet td ty σ H Q := h
theorem k_dgetE {a : Addr} {kvs : List (Key × V)} {x : Str} {v : V} (h : H a = some (.dK kvs)) (hv : valV kvs (Sum.inr x : Key) = some v) (k : Q v H) : ∃ a' v', V.ref a = .ref a' ∧ DGet H a' (.str x) (some v') ∧ ap Q v' H :=
  ⟨a, v, rfl, by rw [← hv]; exact DGet.k (k := Sum.inr x) h, k⟩
theorem k_dgetF {a : Addr} {o : Obj} {kvs : List (Key × V)} {x : Str} {v : V} (h : H a = some (.frz o (.dK kvs))) (hv : valV kvs (Sum.inr x : Key) = some v) (k : Q v H) : ∃ a' v', V.ref a = .ref a' ∧ DGet H a' (.str x) (some v') ∧ ap Q v' H :=
  ⟨a, v, rfl, .inl ⟨kvs, Sum.inr x, .inr ⟨o, h⟩, rfl, hv.symm⟩, k⟩
theorem k_dnin {td ty : TE} (h : ty σ H fun y H1 => td σ H1 fun x H2 => ∃ a o, x = .ref a ∧ DGet H2 a y o ∧ ap Q (.bl (!o.isSome)) H2) : tDNotIn ty td σ H Q := h
theorem k_din {td ty : TE} (h : ty σ H fun y H1 => td σ H1 fun x H2 => ∃ a o, x = .ref a ∧ DGet H2 a y o ∧ ap Q (.bl o.isSome) H2) : tDIn ty td σ H Q := h
theorem k_dninE {a : Addr} {kvs : List (Key × V)} {x : Str} (h : H a = some (.dK kvs)) (k : Q (.bl (!(valV kvs (Sum.inr x : Key)).isSome)) H) : ∃ a' o, V.ref a = .ref a' ∧ DGet H a' (.str x) o ∧ ap Q (.bl (!o.isSome)) H :=
  ⟨a, _, rfl, DGet.k (k := Sum.inr x) h, k⟩
theorem k_dinE {a : Addr} {kvs : List (Key × V)} {x : Str} (h : H a = some (.dK kvs)) (k : Q (.bl ((valV kvs (Sum.inr x : Key)).isSome)) H) : ∃ a' o, V.ref a = .ref a' ∧ DGet H a' (.str x) o ∧ ap Q (.bl o.isSome) H :=
  ⟨a, _, rfl, DGet.k (k := Sum.inr x) h, k⟩
theorem k_dput {td ty tv : TE} (h : tv σ H fun v H1 => td σ H1 fun x H2 => ty σ H2 fun y H3 => ∃ a H4, x = .ref a ∧ DPut H3 a y v H4 ∧ ap D.nx σ H4) : sDPut td ty tv D σ H := h
/-- a dict of our own is written -/
theorem k_dputE {q : L2.St → Hp → Prop} {a : Addr} {kvs : List (Key × V)} {x : Str} {v : V} (G : Gr M0 J0 H0 J H) (m : Mu J H a (.dK kvs)) (ok : M0 a ∨ H0 a = none) (hl : kvs.length < sizeLine)
    (k : ∀ H', H' = upd H a (.dK (putK kvs (Sum.inr x) v)) → Gr M0 J0 H0 J H' → Mu J H' a (.dK (putK kvs (Sum.inr x) v)) → q σ H') : ∃ a' H4, V.ref a = .ref a' ∧ DPut H a' (.str x) v H4 ∧ ap q σ H4 :=
  ⟨a, _, rfl, DPut.k (k := Sum.inr x) m.h hl, k _ rfl (G.mut m.j ok) m.set⟩
/-! ### slices of tuples -/
theorem k_sl {r : V → Option Int → Option Int → Hp → VK → Prop} {te : TE} {tl th : TO} (h : te σ H fun x H1 => tl σ H1 fun l H2 => th σ H2 fun u H3 => r x l u H3 Q) : tSl r te tl th σ H Q := h
theorem k_noP {q : Option Int → Hp → Prop} (h : q none H) : tNoPart σ H q := h
theorem k_part {te : TE} {q : Option Int → Hp → Prop} (h : te σ H fun x H1 => ∃ i, x = .int i ∧ q (some i) H1) : tPart te σ H q := h
theorem k_partI {P : Int → Prop} {i : Int} (h : P i) : ∃ j, V.int i = .int j ∧ P j := ⟨i, rfl, h⟩
theorem cut_drop (xs : List V) (k : Nat) : cutV xs (some (k : Int)) none = xs.drop k := by
  unfold cutV
  rw [HT.sIx_nat, HT.sIx_none]
  rcases Nat.le_total k xs.length with h | h
  · rw [Nat.min_eq_left h]
    exact List.take_of_length_le (by simp)
  · rw [Nat.min_eq_right h, List.drop_of_length_le h, List.drop_of_length_le (Nat.le_refl _)]
    simp
theorem cut_take (xs : List V) (k : Nat) : cutV xs none (some (k : Int)) = xs.take k := by
  unfold cutV
  rw [HT.sIx_nat, HT.sIx_none, Nat.sub_zero, List.drop_zero]
  rcases Nat.le_total k xs.length with h | h
  · rw [Nat.min_eq_left h]
  · rw [Nat.min_eq_right h, List.take_of_length_le (Nat.le_refl _), List.take_of_length_le h]
theorem k_slT {a : Addr} {xs : List V} {lo hi : Option Int} (G : Gr M0 J0 H0 J H) (ha : J a = some (.tup xs)) (k : ∀ p J' H', Ex J J' → J' p = some (.tup (cutV xs lo hi)) → Gr No J H J' H' → Gr M0 J0 H0 J' H' → Q (.ref p) H') : rSlA K (.ref a) lo hi H Q := by
  refine ⟨a, xs, rfl, SqT.of (G.jh a _ ha), fun hw => ?_, fun _ p hp => k p (upd J p _) _ (Gr.alloc (M := No) G.jh hp).jj upd_same (Gr.alloc G.jh hp) (G.step (Gr.alloc G.jh hp))⟩
  refine k a J H (Ex.refl J) ?_ (Gr.refl G.jh) G
  rw [ha]
  unfold cutV
  rw [hw.1, hw.2, List.drop_zero, Nat.sub_zero, List.take_of_length_le (Nat.le_refl _)]
theorem k_slTd {a : Addr} {xs : List V} {n : Nat} (G : Gr M0 J0 H0 J H) (ha : J a = some (.tup xs)) (k : ∀ p J' H', Ex J J' → J' p = some (.tup (xs.drop n)) → Gr No J H J' H' → Gr M0 J0 H0 J' H' → Q (.ref p) H') : rSlA K (.ref a) (some (n : Int)) none H Q :=
  k_slT G ha fun p J' H' e h => k p J' H' e (by rw [h, cut_drop])
theorem k_slT1 {a : Addr} {xs : List V} (G : Gr M0 J0 H0 J H) (ha : J a = some (.tup xs)) (k : ∀ p J' H', Ex J J' → J' p = some (.tup (xs.drop 1)) → Gr No J H J' H' → Gr M0 J0 H0 J' H' → Q (.ref p) H') : rSlA K (.ref a) (some 1) none H Q := k_slTd (n := 1) G ha k
theorem k_slTt {a : Addr} {xs : List V} {n : Nat} (G : Gr M0 J0 H0 J H) (ha : J a = some (.tup xs)) (k : ∀ p J' H', Ex J J' → J' p = some (.tup (xs.take n)) → Gr No J H J' H' → Gr M0 J0 H0 J' H' → Q (.ref p) H') : rSlA K (.ref a) none (some (n : Int)) H Q :=
  k_slT G ha fun p J' H' e h => k p J' H' e (by rw [h, cut_take])
theorem k_slLt {a : Addr} {xs : List V} {n : Nat} (G : Gr M0 J0 H0 J H) (ha : J a = some (.lst xs)) (k : ∀ p J' H', Ex J J' → J' p = some (.lst (xs.take n)) → Gr No J H J' H' → Gr M0 J0 H0 J' H' → Q (.ref p) H') : rSlL K (.ref a) none (some (n : Int)) H Q :=
  ⟨a, xs, rfl, SqL.of (G.jh a _ ha), fun p hp => k p (upd J p _) _ (Gr.alloc (M := No) G.jh hp).jj (by rw [cut_take]; exact upd_same) (Gr.alloc G.jh hp) (G.step (Gr.alloc G.jh hp))⟩
/-! ### what is walked -/
theorem k_iL {tl : TE} {R : It → Hp → Prop} (h : tl σ H fun x H1 => ∃ a, x = .ref a ∧ (∃ xs, SqL K H1 a xs) ∧ R (Itl K a) H1) : iList K tl σ H R := h
theorem k_iLE {a : Addr} {xs : List V} {P : Addr → Prop} (h : H a = some (.lst xs)) (k : P a) : ∃ a', V.ref a = .ref a' ∧ (∃ xs, SqL K H a' xs) ∧ P a' := ⟨a, rfl, ⟨xs, SqL.of h⟩, k⟩
theorem k_iT {tl : TE} {R : It → Hp → Prop} (h : tl σ H fun x H1 => ∃ a, x = .ref a ∧ (∃ xs, SqT K H1 a xs) ∧ R (Itt K a) H1) : iTup K tl σ H R := h
theorem k_iTE {a : Addr} {xs : List V} {P : Addr → Prop} (h : H a = some (.tup xs)) (k : P a) : ∃ a', V.ref a = .ref a' ∧ (∃ xs, SqT K H a' xs) ∧ P a' := ⟨a, rfl, ⟨xs, SqT.of h⟩, k⟩
theorem k_iR1 {ta : TA} {R : It → Hp → Prop} (h : ta σ H fun vs H1 => ∃ j : Int, vs = [.int j] ∧ -(2 ^ 62) ≤ j ∧ j < 2 ^ 62 ∧ R (Itr 0 j.toNat) H1) : iRng1 ta σ H R := h
theorem k_iR1E {n : Nat} {P : Int → Prop} (hn : n ≤ 1000000) (k : P (n : Int)) : ∃ j : Int, [V.int (n : Int)] = [.int j] ∧ -(2 ^ 62) ≤ j ∧ j < 2 ^ 62 ∧ P j := ⟨n, rfl, by omega, by omega, k⟩
theorem k_iS {te : TE} {R : It → Hp → Prop} (h : te σ H fun v H1 => ∃ x, v = .str x ∧ R (Its x) H1) : iStr te σ H R := h
theorem k_iSE {x : Str} {P : Str → Prop} (k : P x) : ∃ y, V.str x = .str y ∧ P y := ⟨x, rfl, k⟩
theorem k_for {wi : TI} {g : TG} {tb : TS} (h : wi σ H fun J H1 => ∃ W : Nat → Nat → L2.St → Hp → Prop, (∃ m, W 0 m σ H1) ∧ ∀ i m σ H, W i m σ H →
  (J.stop i H ∧ D.nx σ H) ∨ (J.go i H ∧ ∃ N : L2.St → Hp → Prop, (∀ σ' H', N σ' H' → ∃ m', m' < m ∧ W (i + 1) m' σ' H') ∧ ∀ x H', J.yld i H x H' → g x σ H' fun σ2 H2 => tb { D with nx := N, ct := N, bk := D.nx } σ2 H2)) : tFor wi g tb D σ H := h
/-- a for over what is walked: Pv by the turn, the slots, the view, the heap -/
theorem k_forW {It : It} {n : Nat} {Gd : Hp → Prop} {Y : Nat → Hp → V → Hp → Prop} {g : TG} {tb : TS} (w : Walk It n Gd Y) (G : Gr M0 J0 H0 J H) (Pv : Nat → L2.St → Hp → Hp → Prop) (h0 : Pv 0 σ J H) (hG : ∀ J' H', Ex J J' → Ex J' H' → Gd H')
    (hs : ∀ i x σ' J' H' H'', i < n → Ex J J' → Gr M0 J0 H0 J' H' → Pv i σ' J' H' → Y i H' x H'' → g x σ' H'' fun σ2 H2 => tb { D with nx := fun σ3 H3 => ∃ J3, Ex J J3 ∧ Gr M0 J0 H0 J3 H3 ∧ Pv (i + 1) σ3 J3 H3, ct := fun σ3 H3 => ∃ J3, Ex J J3 ∧ Gr M0 J0 H0 J3 H3 ∧ Pv (i + 1) σ3 J3 H3, bk := D.nx } σ2 H2)
    (hd : ∀ σ' J' H', Ex J J' → Gr M0 J0 H0 J' H' → Pv n σ' J' H' → D.nx σ' H') :
    ∃ W : Nat → Nat → L2.St → Hp → Prop, (∃ m, W 0 m σ H) ∧ ∀ i m σ H, W i m σ H →
      (It.stop i H ∧ D.nx σ H) ∨ (It.go i H ∧ ∃ N : L2.St → Hp → Prop, (∀ σ' H', N σ' H' → ∃ m', m' < m ∧ W (i + 1) m' σ' H') ∧ ∀ x H', It.yld i H x H' → g x σ H' fun σ2 H2 => tb { D with nx := N, ct := N, bk := D.nx } σ2 H2) :=
  for_it w (fun i σ' H' => ∃ J', Ex J J' ∧ Gr M0 J0 H0 J' H' ∧ Pv i σ' J' H') ⟨J, Ex.refl J, G, h0⟩ (fun i σ' H' _ ⟨J', e, g, _⟩ => hG J' H' e g.jh)
    (fun i x σ' H' H'' hi ⟨J', e, g, p⟩ y => hs i x σ' J' H' H'' hi e g p y) (fun σ' H' ⟨J', e, g, p⟩ => hd σ' J' H' e g p)
theorem k_forL {a : Addr} {xs : List V} {g : TG} {tb : TS} (G : Gr M0 J0 H0 J H) (ha : J a = some (.lst xs)) (Pv : Nat → L2.St → Hp → Hp → Prop) (h0 : Pv 0 σ J H)
    (hs : ∀ i x σ' J' H', xs[i]? = some x → Ex J J' → Gr M0 J0 H0 J' H' → Pv i σ' J' H' → g x σ' H' fun σ2 H2 => tb { D with nx := fun σ3 H3 => ∃ J3, Ex J J3 ∧ Gr M0 J0 H0 J3 H3 ∧ Pv (i + 1) σ3 J3 H3, ct := fun σ3 H3 => ∃ J3, Ex J J3 ∧ Gr M0 J0 H0 J3 H3 ∧ Pv (i + 1) σ3 J3 H3, bk := D.nx } σ2 H2)
    (hd : ∀ σ' J' H', Ex J J' → Gr M0 J0 H0 J' H' → Pv xs.length σ' J' H' → D.nx σ' H') :
    ∃ W : Nat → Nat → L2.St → Hp → Prop, (∃ m, W 0 m σ H) ∧ ∀ i m σ H, W i m σ H →
      ((Itl K a).stop i H ∧ D.nx σ H) ∨ ((Itl K a).go i H ∧ ∃ N : L2.St → Hp → Prop, (∀ σ' H', N σ' H' → ∃ m', m' < m ∧ W (i + 1) m' σ' H') ∧ ∀ x H', (Itl K a).yld i H x H' → g x σ H' fun σ2 H2 => tb { D with nx := N, ct := N, bk := D.nx } σ2 H2) :=
  k_forW (walk_list (xs := xs)) G Pv h0 (fun J' H' e e' => SqL.of (e' _ _ (e _ _ ha))) (fun i x σ' J' H' H'' hi e g p y => by obtain ⟨rfl, hx⟩ := y; exact hs i x σ' J' H'' hx e g p) hd
theorem k_forT {a : Addr} {xs : List V} {g : TG} {tb : TS} (G : Gr M0 J0 H0 J H) (ha : J a = some (.tup xs)) (Pv : Nat → L2.St → Hp → Hp → Prop) (h0 : Pv 0 σ J H)
    (hs : ∀ i x σ' J' H', xs[i]? = some x → Ex J J' → Gr M0 J0 H0 J' H' → Pv i σ' J' H' → g x σ' H' fun σ2 H2 => tb { D with nx := fun σ3 H3 => ∃ J3, Ex J J3 ∧ Gr M0 J0 H0 J3 H3 ∧ Pv (i + 1) σ3 J3 H3, ct := fun σ3 H3 => ∃ J3, Ex J J3 ∧ Gr M0 J0 H0 J3 H3 ∧ Pv (i + 1) σ3 J3 H3, bk := D.nx } σ2 H2)
    (hd : ∀ σ' J' H', Ex J J' → Gr M0 J0 H0 J' H' → Pv xs.length σ' J' H' → D.nx σ' H') :
    ∃ W : Nat → Nat → L2.St → Hp → Prop, (∃ m, W 0 m σ H) ∧ ∀ i m σ H, W i m σ H →
      ((Itt K a).stop i H ∧ D.nx σ H) ∨ ((Itt K a).go i H ∧ ∃ N : L2.St → Hp → Prop, (∀ σ' H', N σ' H' → ∃ m', m' < m ∧ W (i + 1) m' σ' H') ∧ ∀ x H', (Itt K a).yld i H x H' → g x σ H' fun σ2 H2 => tb { D with nx := N, ct := N, bk := D.nx } σ2 H2) :=
  k_forW (walk_tup (xs := xs)) G Pv h0 (fun J' H' e e' => SqT.of (e' _ _ (e _ _ ha))) (fun i x σ' J' H' H'' hi e g p y => by obtain ⟨rfl, hx⟩ := y; exact hs i x σ' J' H'' hx e g p) hd
theorem k_forR {n : Nat} {g : TG} {tb : TS} (G : Gr M0 J0 H0 J H) (Pv : Nat → L2.St → Hp → Hp → Prop) (h0 : Pv 0 σ J H)
    (hs : ∀ (i : Nat) σ' J' H', i < n → Ex J J' → Gr M0 J0 H0 J' H' → Pv i σ' J' H' → g (.int (i : Int)) σ' H' fun σ2 H2 => tb { D with nx := fun σ3 H3 => ∃ J3, Ex J J3 ∧ Gr M0 J0 H0 J3 H3 ∧ Pv (i + 1) σ3 J3 H3, ct := fun σ3 H3 => ∃ J3, Ex J J3 ∧ Gr M0 J0 H0 J3 H3 ∧ Pv (i + 1) σ3 J3 H3, bk := D.nx } σ2 H2)
    (hd : ∀ σ' J' H', Ex J J' → Gr M0 J0 H0 J' H' → Pv n σ' J' H' → D.nx σ' H') :
    ∃ W : Nat → Nat → L2.St → Hp → Prop, (∃ m, W 0 m σ H) ∧ ∀ i m σ H, W i m σ H →
      ((Itr 0 n).stop i H ∧ D.nx σ H) ∨ ((Itr 0 n).go i H ∧ ∃ N : L2.St → Hp → Prop, (∀ σ' H', N σ' H' → ∃ m', m' < m ∧ W (i + 1) m' σ' H') ∧ ∀ x H', (Itr 0 n).yld i H x H' → g x σ H' fun σ2 H2 => tb { D with nx := N, ct := N, bk := D.nx } σ2 H2) :=
  k_forW walk_range G Pv h0 (fun _ _ _ _ => trivial) (fun i x σ' J' H' H'' hi e g p y => by
    obtain ⟨rfl, rfl⟩ := y
    have h := hs i σ' J' _ hi e g p
    dsimp only
    rw [show ((0 : Int) + (i : Int)) = (i : Int) from Int.zero_add _]
    exact h) hd
/-! ### comprehensions: the list is known behind it -/
theorem k_lc {wi : TI} {g : TG} {tt : TT} {te : TE} {vs : List Nat} (h : wi σ H fun J H1 => ∀ D, H1 D = none → ∃ W : Nat → Nat → Hp → Prop, (∃ m, W 0 m (upd H1 D (.lst []))) ∧ ∀ i m H, W i m H →
  (J.stop i H ∧ ap Q (.ref D) H) ∨ (J.go i H ∧ ∃ Nx : Hp → Prop, (∀ H', Nx H' → ∃ m', m' < m ∧ W (i + 1) m' H') ∧ ∀ x H', J.yld i H x H' → g x (wipe σ vs) H' fun σ2 H2 => wipe σ2 vs = wipe σ vs ∧ tt σ2 H2 fun b H3 =>
    if b = true then te σ2 H3 fun y H4 => ∃ acc, H4 D = some (.lst acc) ∧ acc.length < sizeLine ∧ Nx (upd H4 D (.lst (acc ++ [y]))) else Nx H3)) : tLc wi g tt te vs σ H Q := h
theorem k_lcW {M1 : Addr → Prop} {It : It} {n : Nat} {Gd : Hp → Prop} {Y : Nat → Hp → V → Hp → Prop} {g : TG} {tt : TT} {te : TE} {vs : List Nat} (w : Walk It n Gd Y) (G : Gr M0 J0 H0 J H) (hn : n ≤ 1000000)
    (hM : ∀ b, M1 b → M0 b ∨ H0 b = none) (hA : ∀ b, M1 b → H b ≠ none)
    (Inv : Nat → List V → Hp → Hp → Prop) (h0 : Inv 0 [] J H) (hI : ∀ D i acc J1 H1 o, H D = none → J1 D = none → Inv i acc J1 H1 → Inv i acc J1 (upd H1 D o)) (hK : ∀ D i acc J1 H1 o, H D = none → J1 D = none → Inv i acc J1 H1 → Inv i acc (upd J1 D o) H1)
    (hG : ∀ J' H', Ex J J' → Ex J' H' → Gd H')
    (hs : ∀ i x acc J1 H1 H1' (Ny : VK) (Nn : Hp → Prop), i < n → acc.length ≤ i → Ex J J1 → Gr M0 J0 H0 J1 H1 → Gr M1 J H J1 H1 → Inv i acc J1 H1 → Y i H1 x H1' →
      (∀ y J4 H4, Gr M1 J1 H1 J4 H4 → Inv (i + 1) (acc ++ [y]) J4 H4 → Ny y H4) → (∀ J4 H4, Gr M1 J1 H1 J4 H4 → Inv (i + 1) acc J4 H4 → Nn H4) →
      g x (wipe σ vs) H1' fun σ2 H2 => wipe σ2 vs = wipe σ vs ∧ tt σ2 H2 fun b H3 => if b = true then te σ2 H3 Ny else Nn H3)
    (k : ∀ D acc J' H', H D = none → Ex J J' → J' D = some (.lst acc) → Gr M1 J H J' H' → Gr M0 J0 H0 J' H' → acc.length ≤ n → Inv n acc J' H' → Q (.ref D) H') :
    ∀ D, H D = none → ∃ W : Nat → Nat → Hp → Prop, (∃ m, W 0 m (upd H D (.lst []))) ∧ ∀ i m H, W i m H →
  (It.stop i H ∧ ap Q (.ref D) H) ∨ (It.go i H ∧ ∃ Nx : Hp → Prop, (∀ H', Nx H' → ∃ m', m' < m ∧ W (i + 1) m' H') ∧ ∀ x H', It.yld i H x H' → g x (wipe σ vs) H' fun σ2 H2 => wipe σ2 vs = wipe σ vs ∧ tt σ2 H2 fun b H3 =>
    if b = true then te σ2 H3 fun y H4 => ∃ acc, H4 D = some (.lst acc) ∧ acc.length < sizeLine ∧ Nx (upd H4 D (.lst (acc ++ [y]))) else Nx H3) := by
  intro D hD
  have hD0 : H0 D = none := G.al D hD
  have nM1 : ¬ M1 D := fun z => hA D z hD
  have zs : sizeLine = 16777216 := sizeLine_eq
  refine lc_it w (fun i H' => ∃ J' acc, Ex J J' ∧ Gr M0 J0 H0 J' H' ∧ Gr M1 J H J' H' ∧ Mu J' H' D (.lst acc) ∧ acc.length ≤ i ∧ Inv i acc J' H') ?_ ?_ ?_ ?_
  · exact ⟨J, [], Ex.refl J, G.step (Gr.new G.jh hD), Gr.new G.jh hD, Mu.new G.jh hD, Nat.le_refl _, hI D 0 [] J H _ hD (G.jh.none hD) h0⟩
  · rintro i H' _ ⟨J', acc, e, g, _⟩
    exact hG J' H' e g.jh
  · rintro i x H1 H1' hi ⟨J1, acc, e, g, g1, m, hl, p⟩ y
    refine hs i x acc J1 H1 H1' _ _ hi hl e g g1 p y (fun v J4 H4 g4 p4 => ?_) (fun J4 H4 g4 p4 => ?_)
    · have m4 := m.step g4 nM1
      refine ⟨acc, m4.h, by omega, J4, acc ++ [v], e.trans g4.jj, (g.stepM g4 hM).mut m4.j (.inr hD0), (g1.trans g4).mut m4.j (.inr hD), m4.set, by simp; omega, hI D _ _ J4 H4 _ hD m4.j p4⟩
    · have m4 := m.step g4 nM1
      exact ⟨J4, acc, e.trans g4.jj, g.stepM g4 hM, g1.trans g4, m4, by omega, p4⟩
  · rintro H' ⟨J', acc, e, g, g1, m, hl, p⟩
    exact k D acc (upd J' D (.lst acc)) H' hD (e.trans (ex_know m.j)) upd_same (g1.know m.j m.h hD) (g.know m.j m.h hD0) hl (hK D _ _ J' H' _ hD m.j p)
/-- pure: the element changes nothing -/
theorem k_lcP {It : It} {n : Nat} {Gd : Hp → Prop} {Y : Nat → Hp → V → Hp → Prop} {g : TG} {tt : TT} {te : TE} {vs : List Nat} (w : Walk It n Gd Y) (G : Gr M0 J0 H0 J H) (hn : n ≤ 1000000)
    (Inv : Nat → List V → Hp → Prop) (up : ∀ i acc J1 J2, Ex J1 J2 → Inv i acc J1 → Inv i acc J2) (h0 : Inv 0 [] J) (hG : ∀ J' H', Ex J J' → Ex J' H' → Gd H')
    (hs : ∀ i x acc J1 H1 H1' (Ny : VK) (Nn : Hp → Prop), i < n → acc.length ≤ i → Ex J J1 → Gr M0 J0 H0 J1 H1 → Inv i acc J1 → Y i H1 x H1' →
      (∀ y J4 H4, Gr No J1 H1 J4 H4 → Inv (i + 1) (acc ++ [y]) J4 → Ny y H4) → (∀ J4 H4, Gr No J1 H1 J4 H4 → Inv (i + 1) acc J4 → Nn H4) →
      g x (wipe σ vs) H1' fun σ2 H2 => wipe σ2 vs = wipe σ vs ∧ tt σ2 H2 fun b H3 => if b = true then te σ2 H3 Ny else Nn H3)
    (k : ∀ D acc J' H', H D = none → Ex J J' → J' D = some (.lst acc) → Gr No J H J' H' → Gr M0 J0 H0 J' H' → acc.length ≤ n → Inv n acc J' → Q (.ref D) H') :
    ∀ D, H D = none → ∃ W : Nat → Nat → Hp → Prop, (∃ m, W 0 m (upd H D (.lst []))) ∧ ∀ i m H, W i m H →
  (It.stop i H ∧ ap Q (.ref D) H) ∨ (It.go i H ∧ ∃ Nx : Hp → Prop, (∀ H', Nx H' → ∃ m', m' < m ∧ W (i + 1) m' H') ∧ ∀ x H', It.yld i H x H' → g x (wipe σ vs) H' fun σ2 H2 => wipe σ2 vs = wipe σ vs ∧ tt σ2 H2 fun b H3 =>
    if b = true then te σ2 H3 fun y H4 => ∃ acc, H4 D = some (.lst acc) ∧ acc.length < sizeLine ∧ Nx (upd H4 D (.lst (acc ++ [y]))) else Nx H3) :=
  k_lcW (M1 := No) w G hn (fun _ z => z.elim) (fun _ z => z.elim) (fun i acc J1 _ => Inv i acc J1) h0 (fun _ _ _ _ _ _ _ _ h => h) (fun _ _ _ _ _ _ _ jn h => up _ _ _ _ (ex_know jn) h) hG
    (fun i x acc J1 H1 H1' Ny Nn hi hl e g _ p y a b => hs i x acc J1 H1 H1' Ny Nn hi hl e g p y a b) k
theorem k_lcL {a : Addr} {xs : List V} {g : TG} {tt : TT} {te : TE} {vs : List Nat} (G : Gr M0 J0 H0 J H) (ha : J a = some (.lst xs)) (hn : xs.length ≤ 1000000)
    (Inv : Nat → List V → Hp → Prop) (up : ∀ i acc J1 J2, Ex J1 J2 → Inv i acc J1 → Inv i acc J2) (h0 : Inv 0 [] J)
    (hs : ∀ i x acc J1 H1 (Ny : VK) (Nn : Hp → Prop), xs[i]? = some x → acc.length ≤ i → Ex J J1 → Gr M0 J0 H0 J1 H1 → Inv i acc J1 →
      (∀ y J4 H4, Gr No J1 H1 J4 H4 → Inv (i + 1) (acc ++ [y]) J4 → Ny y H4) → (∀ J4 H4, Gr No J1 H1 J4 H4 → Inv (i + 1) acc J4 → Nn H4) →
      g x (wipe σ vs) H1 fun σ2 H2 => wipe σ2 vs = wipe σ vs ∧ tt σ2 H2 fun b H3 => if b = true then te σ2 H3 Ny else Nn H3)
    (k : ∀ D acc J' H', H D = none → Ex J J' → J' D = some (.lst acc) → Gr No J H J' H' → Gr M0 J0 H0 J' H' → acc.length ≤ xs.length → Inv xs.length acc J' → Q (.ref D) H') :
    ∀ D, H D = none → ∃ W : Nat → Nat → Hp → Prop, (∃ m, W 0 m (upd H D (.lst []))) ∧ ∀ i m H, W i m H →
  ((Itl K a).stop i H ∧ ap Q (.ref D) H) ∨ ((Itl K a).go i H ∧ ∃ Nx : Hp → Prop, (∀ H', Nx H' → ∃ m', m' < m ∧ W (i + 1) m' H') ∧ ∀ x H', (Itl K a).yld i H x H' → g x (wipe σ vs) H' fun σ2 H2 => wipe σ2 vs = wipe σ vs ∧ tt σ2 H2 fun b H3 =>
    if b = true then te σ2 H3 fun y H4 => ∃ acc, H4 D = some (.lst acc) ∧ acc.length < sizeLine ∧ Nx (upd H4 D (.lst (acc ++ [y]))) else Nx H3) :=
  k_lcP (walk_list (xs := xs)) G hn Inv up h0 (fun J' H' e e' => SqL.of (e' _ _ (e _ _ ha))) (fun i x acc J1 H1 H1' Ny Nn hi hl e g p y => by obtain ⟨rfl, hx⟩ := y; exact hs i x acc J1 H1' Ny Nn hx hl e g p) k
theorem k_lcT {a : Addr} {xs : List V} {g : TG} {tt : TT} {te : TE} {vs : List Nat} (G : Gr M0 J0 H0 J H) (ha : J a = some (.tup xs)) (hn : xs.length ≤ 1000000)
    (Inv : Nat → List V → Hp → Prop) (up : ∀ i acc J1 J2, Ex J1 J2 → Inv i acc J1 → Inv i acc J2) (h0 : Inv 0 [] J)
    (hs : ∀ i x acc J1 H1 (Ny : VK) (Nn : Hp → Prop), xs[i]? = some x → acc.length ≤ i → Ex J J1 → Gr M0 J0 H0 J1 H1 → Inv i acc J1 →
      (∀ y J4 H4, Gr No J1 H1 J4 H4 → Inv (i + 1) (acc ++ [y]) J4 → Ny y H4) → (∀ J4 H4, Gr No J1 H1 J4 H4 → Inv (i + 1) acc J4 → Nn H4) →
      g x (wipe σ vs) H1 fun σ2 H2 => wipe σ2 vs = wipe σ vs ∧ tt σ2 H2 fun b H3 => if b = true then te σ2 H3 Ny else Nn H3)
    (k : ∀ D acc J' H', H D = none → Ex J J' → J' D = some (.lst acc) → Gr No J H J' H' → Gr M0 J0 H0 J' H' → acc.length ≤ xs.length → Inv xs.length acc J' → Q (.ref D) H') :
    ∀ D, H D = none → ∃ W : Nat → Nat → Hp → Prop, (∃ m, W 0 m (upd H D (.lst []))) ∧ ∀ i m H, W i m H →
  ((Itt K a).stop i H ∧ ap Q (.ref D) H) ∨ ((Itt K a).go i H ∧ ∃ Nx : Hp → Prop, (∀ H', Nx H' → ∃ m', m' < m ∧ W (i + 1) m' H') ∧ ∀ x H', (Itt K a).yld i H x H' → g x (wipe σ vs) H' fun σ2 H2 => wipe σ2 vs = wipe σ vs ∧ tt σ2 H2 fun b H3 =>
    if b = true then te σ2 H3 fun y H4 => ∃ acc, H4 D = some (.lst acc) ∧ acc.length < sizeLine ∧ Nx (upd H4 D (.lst (acc ++ [y]))) else Nx H3) :=
  k_lcP (walk_tup (xs := xs)) G hn Inv up h0 (fun J' H' e e' => SqT.of (e' _ _ (e _ _ ha))) (fun i x acc J1 H1 H1' Ny Nn hi hl e g p y => by obtain ⟨rfl, hx⟩ := y; exact hs i x acc J1 H1' Ny Nn hx hl e g p) k
theorem k_lcS {z : Str} {g : TG} {tt : TT} {te : TE} {vs : List Nat} (G : Gr M0 J0 H0 J H) (hn : z.cps.size ≤ 1000000)
    (Inv : Nat → List V → Hp → Prop) (up : ∀ i acc J1 J2, Ex J1 J2 → Inv i acc J1 → Inv i acc J2) (h0 : Inv 0 [] J)
    (hs : ∀ i c acc J1 H1 (Ny : VK) (Nn : Hp → Prop), z.cps[i]? = some c → acc.length ≤ i → Ex J J1 → Gr M0 J0 H0 J1 H1 → Inv i acc J1 →
      (∀ y J4 H4, Gr No J1 H1 J4 H4 → Inv (i + 1) (acc ++ [y]) J4 → Ny y H4) → (∀ J4 H4, Gr No J1 H1 J4 H4 → Inv (i + 1) acc J4 → Nn H4) →
      g (.str ⟨#[c]⟩) (wipe σ vs) H1 fun σ2 H2 => wipe σ2 vs = wipe σ vs ∧ tt σ2 H2 fun b H3 => if b = true then te σ2 H3 Ny else Nn H3)
    (k : ∀ D acc J' H', H D = none → Ex J J' → J' D = some (.lst acc) → Gr No J H J' H' → Gr M0 J0 H0 J' H' → acc.length ≤ z.cps.size → Inv z.cps.size acc J' → Q (.ref D) H') :
    ∀ D, H D = none → ∃ W : Nat → Nat → Hp → Prop, (∃ m, W 0 m (upd H D (.lst []))) ∧ ∀ i m H, W i m H →
  ((Its z).stop i H ∧ ap Q (.ref D) H) ∨ ((Its z).go i H ∧ ∃ Nx : Hp → Prop, (∀ H', Nx H' → ∃ m', m' < m ∧ W (i + 1) m' H') ∧ ∀ x H', (Its z).yld i H x H' → g x (wipe σ vs) H' fun σ2 H2 => wipe σ2 vs = wipe σ vs ∧ tt σ2 H2 fun b H3 =>
    if b = true then te σ2 H3 fun y H4 => ∃ acc, H4 D = some (.lst acc) ∧ acc.length < sizeLine ∧ Nx (upd H4 D (.lst (acc ++ [y]))) else Nx H3) :=
  k_lcP walk_str G hn Inv up h0 (fun _ _ _ _ => trivial) (fun i x acc J1 H1 H1' Ny Nn hi hl e g p y => by obtain ⟨rfl, c, hc, rfl⟩ := y; exact hs i c acc J1 H1' Ny Nn hc hl e g p) k
theorem k_lcR {n : Nat} {g : TG} {tt : TT} {te : TE} {vs : List Nat} (G : Gr M0 J0 H0 J H) (hn : n ≤ 1000000)
    (Inv : Nat → List V → Hp → Prop) (up : ∀ i acc J1 J2, Ex J1 J2 → Inv i acc J1 → Inv i acc J2) (h0 : Inv 0 [] J)
    (hs : ∀ (i : Nat) acc J1 H1 (Ny : VK) (Nn : Hp → Prop), i < n → acc.length ≤ i → Ex J J1 → Gr M0 J0 H0 J1 H1 → Inv i acc J1 →
      (∀ y J4 H4, Gr No J1 H1 J4 H4 → Inv (i + 1) (acc ++ [y]) J4 → Ny y H4) → (∀ J4 H4, Gr No J1 H1 J4 H4 → Inv (i + 1) acc J4 → Nn H4) →
      g (.int (i : Int)) (wipe σ vs) H1 fun σ2 H2 => wipe σ2 vs = wipe σ vs ∧ tt σ2 H2 fun b H3 => if b = true then te σ2 H3 Ny else Nn H3)
    (k : ∀ D acc J' H', H D = none → Ex J J' → J' D = some (.lst acc) → Gr No J H J' H' → Gr M0 J0 H0 J' H' → acc.length ≤ n → Inv n acc J' → Q (.ref D) H') :
    ∀ D, H D = none → ∃ W : Nat → Nat → Hp → Prop, (∃ m, W 0 m (upd H D (.lst []))) ∧ ∀ i m H, W i m H →
  ((Itr 0 n).stop i H ∧ ap Q (.ref D) H) ∨ ((Itr 0 n).go i H ∧ ∃ Nx : Hp → Prop, (∀ H', Nx H' → ∃ m', m' < m ∧ W (i + 1) m' H') ∧ ∀ x H', (Itr 0 n).yld i H x H' → g x (wipe σ vs) H' fun σ2 H2 => wipe σ2 vs = wipe σ vs ∧ tt σ2 H2 fun b H3 =>
    if b = true then te σ2 H3 fun y H4 => ∃ acc, H4 D = some (.lst acc) ∧ acc.length < sizeLine ∧ Nx (upd H4 D (.lst (acc ++ [y]))) else Nx H3) :=
  k_lcP walk_range G hn Inv up h0 (fun _ _ _ _ => trivial) (fun i x acc J1 H1 H1' Ny Nn hi hl e g p y => by
    obtain ⟨rfl, rfl⟩ := y
    intro a b
    have h := hs i acc J1 _ Ny Nn hi hl e g p a b
    dsimp only
    rw [show ((0 : Int) + (i : Int)) = (i : Int) from Int.zero_add _]
    exact h) k
end
end Rk
/-! steps on what changes: lists, dicts, instances; calls with the whole heap as the view -/
namespace Rk
open PySem PySem.Spec PyProof.Rows L2
theorem gr_upd {J H : Hp} {D : Addr} {o : HO} (e : Ex J H) (hD : J D = none) : Gr (fun b => b = D) J H J (upd H D o) := by
  refine ⟨Ex.refl J, fun b u n h => by rw [upd_ne n]; exact h, fun b h => ?_, fun a u h => ?_, fun b u h => .inl h⟩
  · by_cases hb : b = D
    · subst hb; rw [upd_same] at h; cases h
    · rw [upd_ne hb] at h; exact h
  · rw [upd_ne (ne_of_none h hD)]; exact e a u h
theorem Mu.knw {J H : Hp} {l D : Addr} {o o' : HO} (m : Mu J H l o) (n : ¬ l = D) : Mu (upd J D o') H l o := ⟨by rw [upd_ne n]; exact m.j, m.h⟩
theorem Mu.upH {J H : Hp} {l D : Addr} {o o' : HO} (m : Mu J H l o) (n : ¬ l = D) : Mu J (upd H D o') l o := ⟨m.j, by rw [upd_ne n]; exact m.h⟩
theorem Mu.up2 {J H J1 H1 : Hp} {l : Addr} {o : HO} (m : Mu J H l o) (g : Gr No J H J1 H1) : Mu J1 H1 l o := m.up g
theorem Mu.nen {J H : Hp} {l k : Addr} {o : HO} (m : Mu J H l o) (h : H k = none) : ¬ l = k := fun e => by
  subst e
  rw [m.h] at h; cases h
theorem Mu.nek {J H : Hp} {a b : Addr} {o o' : HO} (m : Mu J H a o) (m' : Mu J H b o') (h : o ≠ o') : ¬ a = b := fun e => by
  subst e
  exact h (Option.some.inj (m.h.symm.trans m'.h))
theorem units65 {k : Nat} {A : Around} (r : Room k A) : A.units + 65 < cLine := by have := r.un; omega
section
variable {A : Type} {Pre : A → List V → Hp → Hp → Prop} {PS : A → V → Prop}
/-- a pure call with a bare answer: the whole heap may be the view -/
theorem use_spS {M0 : Addr → Prop} {J0 H0 J H : Hp} {Q : VK} {E : XK} {vs : List V} (G : Gr M0 J0 H0 J H) (a : A) (hp : Pre a vs H H)
    (k : ∀ v H', Gr No J H J H' → Gr M0 J0 H0 J H' → PS a v → Q v H') : SpD A (fun _ => No) Pre (fun a v _ _ => PS a v) vs H Q E :=
  ⟨a, H, Ex.refl H, hp, fun v J' H' g p => by
    have g' : Gr No J H J H' := ⟨Ex.refl J, g.hh, g.al, fun b o h => g.ex b o (G.jh b o h), fun b o h => .inl h⟩
    exact k v H' g' (G.step g') p⟩
end
section
variable {M0 : Addr → Prop} {J0 H0 J H : Hp} {Q : VK} {σ : L2.St} {K : PySem.W.Frag} {D : Ends}
theorem k_ninD {x : V} {p : Addr} {d : PyData} {ds : List PyData} (h1 : Dp K H x d) (h2 : Dp K H (.ref p) (.list ds)) (h3 : SeqAt.shaped d = true) (h4 : SeqAt.shaped (.list ds) = true) (k : Q (.bl (!ds.any fun z => PyData.eqv z d)) H) : rNotInD K x (.ref p) H Q := ⟨d, ds, h1, h2, h3, h4, k⟩
theorem k_neD {x y : V} {d e : PyData} (h1 : Dp K H x d) (h2 : Dp K H y e) (h3 : SeqAt.shaped d = true) (h4 : SeqAt.shaped e = true) (k : Q (.bl (!PyData.eqv d e)) H) : rNeD K x y H Q := ⟨d, e, h1, h2, h3, h4, k⟩
theorem k_eqD {x y : V} {d e : PyData} (h1 : Dp K H x d) (h2 : Dp K H y e) (h3 : SeqAt.shaped d = true) (h4 : SeqAt.shaped e = true) (k : Q (.bl (PyData.eqv d e)) H) : rEqD K x y H Q := ⟨d, e, h1, h2, h3, h4, k⟩
theorem k_seqT {t1 t2 : TS} (Mid : L2.St → Hp → Prop) (h2 : ∀ σ' H', Mid σ' H' → t2 D σ' H') (h1 : ∀ N : L2.St → Hp → Prop, (∀ σ' H', Mid σ' H' → N σ' H') → t1 { D with nx := N } σ H) : tSeq t1 t2 D σ H := h1 _ h2
theorem k_yes {q : Bool → Hp → Prop} (h : q true H) : tYes σ H q := h
theorem k_bm {T : String} {r : V → List V → Hp → VK → Prop} {to : TE} {t : TA} (h : to σ H fun x H1 => tyV K T x H1 ∧ t σ H1 fun xs H2 => r x xs H2 Q) : tBM K T r to t σ H Q := h
theorem k_tyL {l : Addr} {xs : List V} {P : Prop} (h : H l = some (.lst xs)) (k : P) : tyV K "list" (.ref l) H ∧ P := ⟨.inl ⟨rfl, xs, SqL.of h⟩, k⟩
/-- one object is changed -/
theorem mut_one {l : Addr} {o o' : HO} (G : Gr M0 J0 H0 J H) (m : Mu J H l o) : Gr (fun b => b = l) J H J (upd H l o') := by
  refine ⟨Ex.refl J, fun b u n h => by rw [upd_ne n]; exact h, fun b h => ?_, fun a u h => ?_, fun b u h => .inl h⟩
  · by_cases hb : b = l
    · subst hb; rw [upd_same] at h; cases h
    · rw [upd_ne hb] at h; exact h
  · rw [upd_ne (ne_of_none h m.j)]; exact G.jh a u h
theorem k_app {l : Addr} {xs : List V} {y : V} (G : Gr M0 J0 H0 J H) (m : Mu J H l (.lst xs)) (ok : M0 l ∨ H0 l = none) (hl : xs.length < sizeLine)
    (k : ∀ H', Gr (fun b => b = l) J H J H' → Gr M0 J0 H0 J H' → Mu J H' l (.lst (xs ++ [y])) → Q .non H') : rAppend (.ref l) [y] H Q :=
  ⟨l, xs, y, rfl, rfl, m.h, hl, k _ (mut_one G m) (G.mut m.j ok) m.set⟩
theorem k_ext {l b : Addr} {xs zs : List V} (G : Gr M0 J0 H0 J H) (m : Mu J H l (.lst xs)) (ok : M0 l ∨ H0 l = none) (hb : H b = some (.lst zs)) (hl : xs.length + zs.length ≤ sizeLine)
    (k : ∀ H', Gr (fun b => b = l) J H J H' → Gr M0 J0 H0 J H' → Mu J H' l (.lst (xs ++ zs)) → Q .non H') : rExtend (.ref l) [.ref b] H Q :=
  ⟨l, b, xs, zs, rfl, rfl, m.h, hb, hl, k _ (mut_one G m) (G.mut m.j ok) m.set⟩
theorem k_pop0 {l : Addr} {x : V} {xs : List V} (G : Gr M0 J0 H0 J H) (m : Mu J H l (.lst (x :: xs))) (ok : M0 l ∨ H0 l = none)
    (k : ∀ H', Gr (fun b => b = l) J H J H' → Gr M0 J0 H0 J H' → Mu J H' l (.lst xs) → Q x H') : rPopAt (.ref l) [.int 0] H Q :=
  ⟨l, x :: xs, 0, 0, x, rfl, rfl, m.h, by omega, by omega, by simp [seqIndex?], rfl, k _ (mut_one G m) (G.mut m.j ok) m.set⟩
theorem k_setL {l : Addr} {xs : List V} {y : V} {j : Nat} {n : Int} {q : Hp → Prop} (G : Gr M0 J0 H0 J H) (m : Mu J H l (.lst xs)) (ok : M0 l ∨ H0 l = none) (hj : ixN xs.length n = some j)
    (k : ∀ H', Gr (fun b => b = l) J H J H' → Gr M0 J0 H0 J H' → Mu J H' l (.lst (xs.set j y)) → q H') : rSetL (.ref l) (.int n) y H q :=
  ⟨l, xs, n, j, rfl, rfl, m.h, hj, k _ (mut_one G m) (G.mut m.j ok) m.set⟩
theorem k_gsub {to ti : TE} {t : TSet} {v : V} {q : L2.St → Hp → Prop} (h : to σ H fun o H1 => ti σ H1 fun i H2 => t o i v H2 fun H3 => q σ H3) : gSub to ti t v σ H q := h
/-- a dict with names as keys is written -/
theorem k_dputM {q : L2.St → Hp → Prop} {a : Addr} {kvs : List (Key × V)} {x : Str} {v : V} (G : Gr M0 J0 H0 J H) (m : Mu J H a (.dK kvs)) (ok : M0 a ∨ H0 a = none) (hl : kvs.length < sizeLine)
    (k : ∀ H', Gr (fun b => b = a) J H J H' → Gr M0 J0 H0 J H' → Mu J H' a (.dK (putK kvs (Sum.inr x) v)) → q σ H') : ∃ a' H4, V.ref a = .ref a' ∧ DPut H a' (.str x) v H4 ∧ ap q σ H4 :=
  ⟨a, _, rfl, DPut.k (k := Sum.inr x) m.h hl, k _ (mut_one G m) (G.mut m.j ok) m.set⟩
/-- a dict with tuples as keys is written -/
theorem k_dputT {q : L2.St → Hp → Prop} {a b : Addr} {kvs : List (List Key × V)} {x : List Key} {v : V} (G : Gr M0 J0 H0 J H) (m : Mu J H a (.dT kvs)) (ok : M0 a ∨ H0 a = none) (hb : H b = some (.tup (x.map kV))) (hl : kvs.length < sizeLine)
    (k : ∀ H', Gr (fun b => b = a) J H J H' → Gr M0 J0 H0 J H' → Mu J H' a (.dT (putK kvs x v)) → q σ H') : ∃ a' H4, V.ref a = .ref a' ∧ DPut H a' (.ref b) v H4 ∧ ap q σ H4 :=
  ⟨a, _, rfl, DPut.t m.h hb hl, k _ (mut_one G m) (G.mut m.j ok) m.set⟩
theorem k_dninT {a b : Addr} {kvs : List (List Key × V)} {x : List Key} (h : H a = some (.dT kvs)) (hb : H b = some (.tup (x.map kV))) (k : Q (.bl (!(valV kvs x).isSome)) H) : ∃ a' o, V.ref a = .ref a' ∧ DGet H a' (.ref b) o ∧ ap Q (.bl (!o.isSome)) H :=
  ⟨a, _, rfl, DGet.t h hb, k⟩
theorem k_dinT {a b : Addr} {kvs : List (List Key × V)} {x : List Key} (h : H a = some (.dT kvs)) (hb : H b = some (.tup (x.map kV))) (k : Q (.bl ((valV kvs x).isSome)) H) : ∃ a' o, V.ref a = .ref a' ∧ DGet H a' (.ref b) o ∧ ap Q (.bl o.isSome) H :=
  ⟨a, _, rfl, DGet.t h hb, k⟩
theorem k_lenDT {a : Addr} {kvs : List (List Key × V)} (h : H a = some (.dT kvs)) (k : Q (.int (kvs.length : Nat)) H) : rLenT [.ref a] H Q := ⟨a, kvs, rfl, h, k⟩
theorem k_dget1 {td ty : TE} (h : td σ H fun x H1 => ∃ a, x = .ref a ∧ IsD H1 a ∧ ty σ H1 fun y H2 => ∃ o, DGet H2 a y o ∧ ap Q (o.getD .non) H2) : tDGet1 td ty σ H Q := h
theorem k_dget1A {a : Addr} {kvs : List (Key × V)} {P : Addr → Prop} (h : H a = some (.dK kvs)) (k : P a) : ∃ a', V.ref a = .ref a' ∧ IsD H a' ∧ P a' := ⟨a, rfl, .inl ⟨kvs, .inl h⟩, k⟩
theorem k_dget1B {a : Addr} {kvs : List (Key × V)} {x : Str} (h : H a = some (.dK kvs)) (k : Q ((valV kvs (Sum.inr x : Key)).getD .non) H) : ∃ o, DGet H a (.str x) o ∧ ap Q (o.getD .non) H := ⟨_, DGet.k (k := Sum.inr x) h, k⟩
/-! ### lists joined -/
theorem k_cat {a b : Addr} {xs zs : List V} (G : Gr M0 J0 H0 J H) (ha : H a = some (.lst xs)) (hb : H b = some (.lst zs)) (hl : xs.length + zs.length ≤ sizeLine)
    (k : ∀ p J' H', H p = none → Ex J J' → J' p = some (.lst (xs ++ zs)) → Gr No J H J' H' → Gr M0 J0 H0 J' H' → Q (.ref p) H') : rCat (.ref a) (.ref b) H Q :=
  ⟨a, b, xs, zs, rfl, rfl, ha, hb, hl, fun p hp => k p (upd J p _) _ hp (Gr.alloc (M := No) G.jh hp).jj upd_same (Gr.alloc G.jh hp) (G.step (Gr.alloc G.jh hp))⟩
theorem k_tupOf {a : Addr} {xs : List V} (G : Gr M0 J0 H0 J H) (ha : H a = some (.lst xs))
    (k : ∀ p J' H', H p = none → Ex J J' → J' p = some (.tup xs) → Gr No J H J' H' → Gr M0 J0 H0 J' H' → Q (.ref p) H') : rTupOf K [.ref a] H Q :=
  ⟨a, xs, rfl, .inl ⟨SqL.of ha, fun p hp => k p (upd J p _) _ hp (Gr.alloc (M := No) G.jh hp).jj upd_same (Gr.alloc G.jh hp) (G.step (Gr.alloc G.jh hp))⟩⟩
theorem k_lstOf {a : Addr} {xs : List V} (G : Gr M0 J0 H0 J H) (ha : H a = some (.lst xs) ∨ H a = some (.tup xs))
    (k : ∀ p J' H', H p = none → Ex J J' → J' p = some (.lst xs) → Gr No J H J' H' → Gr M0 J0 H0 J' H' → Q (.ref p) H') : rListOf K [.ref a] H Q :=
  ⟨a, xs, rfl, ha.imp SqL.of SqT.of, fun p hp => k p (upd J p _) _ hp (Gr.alloc (M := No) G.jh hp).jj upd_same (Gr.alloc G.jh hp) (G.step (Gr.alloc G.jh hp))⟩
theorem k_lenV {a : Addr} {kvs : List (Key × V)} (h : H a = some (.dK kvs)) (k : Q (.int kvs.length) H) : rLenDK [.ref a] H Q := ⟨a, kvs, rfl, h, k⟩
theorem cLenD {X : Cx} : CallR X (.builtin "len") rLenDK := call_lenD
/-! ### numbers -/
theorem k_mod {m n : Int} (c : 0 < n) (h : Q (.int (m % n)) H) : rI (fun _ j => 0 < j) (fun i j => .int (i % j)) (.int m) (.int n) H Q := ⟨m, n, rfl, rfl, c, h⟩
theorem k_abs {i : Int} (h : Q (.int (if i < 0 then -i else i)) H) : rAbs [.int i] H Q := ⟨i, rfl, h⟩
theorem k_min {i j : Int} (h : Q (.int (if j < i then j else i)) H) : rMin2 [.int i, .int j] H Q := ⟨i, j, rfl, h⟩
theorem k_int {i : Int} (h : Q (.int i) H) : rInt [.int i] H Q := .inl ⟨i, rfl, h⟩
theorem k_intB {b : Bool} (h : Q (.int (if b then 1 else 0)) H) : rInt [.bl b] H Q := .inr ⟨b, rfl, h⟩
theorem k_addS {x y : Str} (hl : x.length + y.length ≤ sizeLine) (h : Q (.str (x ++ y)) H) : rAddS (.str x) (.str y) H Q := ⟨x, y, rfl, rfl, hl, h⟩
theorem k_chain {r r' : R2} {ta tb tc : TE} (h : ta σ H fun x H1 => tb σ H1 fun y H2 => r x y H2 fun z H3 => ∃ k, z = .bl k ∧ (if k = true then tc σ H3 fun w' H4 => r' y w' H4 Q else ap Q (.bl false) H3)) : tChain r r' ta tb tc σ H Q := h
theorem k_par {i j : Nat} {ta : TA} (h : ta σ H fun vs H1 => ∃ v w, vs = [v, w] ∧ ap (fun (_ : Unit) H => D.nx ((σ.set i (some v)).set j (some w)) H) () H1) : tPar i j ta D σ H := h
theorem k_parE {i j : Nat} {v w : V} (h : D.nx ((σ.set i (some v)).set j (some w)) H) : ∃ v' w', [v, w] = [v', w'] ∧ ap (fun (_ : Unit) H => D.nx ((σ.set i (some v')).set j (some w')) H) () H := ⟨v, w, rfl, h⟩
/-! ### taking apart -/
theorem k_gT {n : Nat} {t : TGs} {a : Addr} {xs : List V} {q : L2.St → Hp → Prop} (h : H a = some (.tup xs)) (hn : xs.length = n) (k : t xs σ H q) : gTup K n t (.ref a) σ H q := ⟨a, xs, rfl, SqT.of h, hn, k⟩
theorem k_gU {n : Nat} {t : TGs} {a : Addr} {xs : List V} {q : L2.St → Hp → Prop} (h : H a = some (.lst xs)) (hn : xs.length = n) (k : t xs σ H q) : gUnl K n t (.ref a) σ H q := ⟨a, xs, rfl, SqL.of h, hn, k⟩
theorem k_gC {t : TG} {u : TGs} {v : V} {r : List V} {q : L2.St → Hp → Prop} (h : t v σ H fun σ' H' => u r σ' H' q) : gCons t u (v :: r) σ H q := ⟨v, r, rfl, h⟩
theorem k_gN {q : L2.St → Hp → Prop} (h : q σ H) : gNil [] σ H q := ⟨rfl, h⟩
/-! ### instances -/
theorem k_fldE {tA : TE} {f : Str} (h : tA σ H fun x H1 => ∃ a C dx fs v, x = .ref a ∧ H1 a = some (.ins C dx fs) ∧ Cls K C ∧ NoAttr K C f ∧ fs.lookup f = some v ∧ ap Q v H1) : tFld K tA f σ H Q := h
theorem k_fldV {a C dx : Addr} {fs : List (Str × V)} {f : Str} {v : V} (hH : H a = some (.ins C dx fs)) (hc : Cls K C) (hn : NoAttr K C f) (hf : fs.lookup f = some v) (k : Q v H) :
    ∃ a' C dx fs v', V.ref a = .ref a' ∧ H a' = some (.ins C dx fs) ∧ Cls K C ∧ NoAttr K C f ∧ fs.lookup f = some v' ∧ ap Q v' H := ⟨a, C, dx, fs, v, rfl, hH, hc, hn, hf, k⟩
theorem k_sfld {ta tv : TE} {f : Str} (h : tv σ H fun y H1 => ta σ H1 fun x H2 => ∃ a C dx fs, x = .ref a ∧ H2 a = some (.ins C dx fs) ∧ Cls K C ∧ NoAttr K C f ∧ fs.length < 1000 ∧ ap D.nx σ (upd H2 a (.ins C dx (putF f y fs)))) : sFld K ta tv f D σ H := h
theorem k_sfldE {a C dx : Addr} {fs : List (Str × V)} {f : Str} {y : V} {q : L2.St → Hp → Prop} (G : Gr M0 J0 H0 J H) (m : Mu J H a (.ins C dx fs)) (ok : M0 a ∨ H0 a = none) (hc : Cls K C) (hn : NoAttr K C f) (hl : fs.length < 1000)
    (k : ∀ H', Gr (fun b => b = a) J H J H' → Gr M0 J0 H0 J H' → Mu J H' a (.ins C dx (putF f y fs)) → q σ H') : ∃ a' C dx fs, V.ref a = .ref a' ∧ H a' = some (.ins C dx fs) ∧ Cls K C ∧ NoAttr K C f ∧ fs.length < 1000 ∧ ap q σ (upd H a' (.ins C dx (putF f y fs))) :=
  ⟨a, C, dx, fs, rfl, m.h, hc, hn, hl, k _ (mut_one G m) (G.mut m.j ok) m.set⟩
theorem k_fldaug {ta tv : TE} {rd : V → V → Hp → VK → Prop} {f : Str} (h : ta σ H fun x H1 => ∃ a C dx fs v, x = .ref a ∧ H1 a = some (.ins C dx fs) ∧ Cls K C ∧ NoAttr K C f ∧ fs.lookup f = some v ∧
  tv σ H1 fun y H2 => rd v y H2 fun z H3 => ∃ dx' fs', H3 a = some (.ins C dx' fs') ∧ fs'.length < 1000 ∧ D.nx σ (upd H3 a (.ins C dx' (putF f z fs')))) : sFldAug K ta tv rd f D σ H := h
/-- C(..) -/
theorem k_make {C : Addr} {sp : Sp} {dvs : List V} {E : XK} {t : TA} (h : t σ H fun vs H1 => ∀ x dx, H1 x = none → H1 dx = none → dx ≠ x → ap (fun (_ : Unit) H2 => sp (.ref x :: (vs ++ dvs)) H2 (fun v H2 => v = .non ∧ Q (.ref x) H2) E) () (upd (upd H1 dx (.own x)) x (.ins C dx []))) : tMake C sp dvs E t σ H Q := h
theorem k_makeE {C : Addr} {P : Addr → Hp → Prop} (G : Gr M0 J0 H0 J H) (k : ∀ x dx H', H x = none → H0 x = none → Gr No J H J H' → Gr M0 J0 H0 J H' → Mu J H' x (.ins C dx []) → P x H') :
    ∀ x dx, H x = none → H dx = none → dx ≠ x → ap (fun (_ : Unit) H2 => P x H2) () (upd (upd H dx (.own x)) x (.ins C dx [])) := by
  intro x dx hx hd ne
  have g1 : Gr No J H J (upd H dx (.own x)) := Gr.new G.jh hd
  have hx1 : upd H dx (.own x) x = none := by rw [upd_ne (fun e => ne e.symm)]; exact hx
  have g2 : Gr No J (upd H dx (.own x)) J (upd (upd H dx (.own x)) x (.ins C dx [])) := Gr.new g1.jh hx1
  exact k x dx _ hx (G.al x hx) (g1.step g2) ((G.step g1).step g2) (Mu.new g1.jh hx1)
theorem k_meth {C : Addr} {mn : Str} {sp : Sp} {dvs : List V} {E : XK} {ta : TE} {t : TA} (h : ta σ H fun x H1 => ∃ a dx fs, x = .ref a ∧ H1 a = some (.ins C dx fs) ∧ fs.lookup mn = none ∧
  t σ H1 fun vs H2 => sp (x :: (vs ++ dvs)) H2 Q E) : tMeth C mn sp dvs E ta t σ H Q := h
theorem k_callA {i : Nat} {S : Addr → Option Sp} {t : TA} {f : Addr} {sp : Sp} (hv : σ[i]? = some (some (.ref f))) (hS : S f = some sp) (h : t σ H fun vs H1 => sp vs H1 Q (fun _ _ _ => False)) : tCallA i S t σ H Q := ⟨f, sp, hv, hS, h⟩
/-! ### truth -/
theorem k_notT {ta : TE} (h : ta σ H fun x H1 => ∃ k, TruV K x H1 k ∧ ap Q (.bl (!k)) H1) : tNotT K ta σ H Q := h
theorem k_truT {p : Addr} {xs : List V} {P : Bool → Prop} (h : H p = some (.tup xs)) (k : P (!xs.isEmpty)) : ∃ k, TruV K (.ref p) H k ∧ P k := ⟨_, .inr (.inl ⟨xs, SqT.of h, rfl⟩), k⟩
theorem k_truL {p : Addr} {xs : List V} {P : Bool → Prop} (h : H p = some (.lst xs)) (k : P (!xs.isEmpty)) : ∃ k, TruV K (.ref p) H k ∧ P k := ⟨_, .inl ⟨xs, SqL.of h, rfl⟩, k⟩
theorem k_tru {ta : TE} {q : Bool → Hp → Prop} (h : ta σ H fun x H' => ∃ k, TruV K x H' k ∧ ap q k H') : tTru K ta σ H q := h
/-! ### for, over pairs that are made on the way -/
theorem k_forP {It : It} {n : Nat} {Gd : Hp → Prop} {fx fy : Nat → Option V} {g : TG} {tb : TS} (w : Walk It n Gd (YPair fx fy)) (G : Gr M0 J0 H0 J H) (Pv : Nat → L2.St → Hp → Hp → Prop) (h0 : Pv 0 σ J H) (hG : ∀ J' H', Ex J J' → Ex J' H' → Gd H')
    (hu : ∀ i σ' J1 H1 J2 H2, Gr No J1 H1 J2 H2 → Pv i σ' J1 H1 → Pv i σ' J2 H2)
    (hs : ∀ i x y T σ' J' H', i < n → fx i = some x → fy i = some y → Ex J J' → Gr M0 J0 H0 J' H' → J' T = some (.tup [x, y]) → Pv i σ' J' H' → g (.ref T) σ' H' fun σ2 H2 => tb { D with nx := fun σ3 H3 => ∃ J3, Ex J J3 ∧ Gr M0 J0 H0 J3 H3 ∧ Pv (i + 1) σ3 J3 H3, ct := fun σ3 H3 => ∃ J3, Ex J J3 ∧ Gr M0 J0 H0 J3 H3 ∧ Pv (i + 1) σ3 J3 H3, bk := D.nx } σ2 H2)
    (hd : ∀ σ' J' H', Ex J J' → Gr M0 J0 H0 J' H' → Pv n σ' J' H' → D.nx σ' H') :
    ∃ W : Nat → Nat → L2.St → Hp → Prop, (∃ m, W 0 m σ H) ∧ ∀ i m σ H, W i m σ H →
      (It.stop i H ∧ D.nx σ H) ∨ (It.go i H ∧ ∃ N : L2.St → Hp → Prop, (∀ σ' H', N σ' H' → ∃ m', m' < m ∧ W (i + 1) m' σ' H') ∧ ∀ x H', It.yld i H x H' → g x σ H' fun σ2 H2 => tb { D with nx := N, ct := N, bk := D.nx } σ2 H2) :=
  k_forW w G Pv h0 hG (fun i z σ' J' H' H'' hi e g p y => by
    obtain ⟨T, x, y, rfl, hT, rfl, hx, hy⟩ := y
    have ga : Gr No J' H' (upd J' T (.tup [x, y])) (upd H' T (.tup [x, y])) := Gr.alloc g.jh hT
    exact hs i x y T σ' _ _ hi hx hy (e.trans ga.jj) (g.step ga) upd_same (hu i σ' _ _ _ _ ga p)) hd
theorem k_iE {ta : TA} {R : It → Hp → Prop} (h : ta σ H fun vs H1 => ∃ a xs, vs = [.ref a] ∧ SqL K H1 a xs ∧ R (Ite K a) H1) : iEnum K ta σ H R := h
theorem k_iEE {a : Addr} {xs : List V} {P : Addr → Prop} (h : H a = some (.lst xs)) (k : P a) : ∃ a' xs, [V.ref a] = [.ref a'] ∧ SqL K H a' xs ∧ P a' := ⟨a, xs, rfl, SqL.of h, k⟩
theorem k_iZ {ta : TA} {R : It → Hp → Prop} (h : ta σ H fun vs H1 => ∃ a b xs ys, vs = [.ref a, .ref b] ∧ SqL K H1 a xs ∧ SqL K H1 b ys ∧ R (Itz K a b) H1) : iZip K ta σ H R := h
theorem k_iZE {a b : Addr} {xs ys : List V} {P : Addr → Addr → Prop} (h : H a = some (.lst xs)) (h2 : H b = some (.lst ys)) (k : P a b) : ∃ a' b' xs ys, [V.ref a, .ref b] = [.ref a', .ref b'] ∧ SqL K H a' xs ∧ SqL K H b' ys ∧ P a' b' := ⟨a, b, xs, ys, rfl, SqL.of h, SqL.of h2, k⟩
theorem k_iR2 {ta : TA} {R : It → Hp → Prop} (h : ta σ H fun vs H1 => ∃ i j : Int, vs = [.int i, .int j] ∧ (-(2 ^ 62) ≤ i ∧ i < 2 ^ 62 ∧ -(2 ^ 62) ≤ j ∧ j < 2 ^ 62) ∧ R (Itr i (j - i).toNat) H1) : iRng2 ta σ H R := h
/-! ### a dict made by a comprehension over a list: ours to change -/
theorem k_dc {wi : TI} {g : TG} {tt : TT} {tk tv : TE} {vs : List Nat} (h : wi σ H fun J H1 => ∀ D, H1 D = none → ∃ W : Nat → Nat → Hp → Prop, (∃ m, W 0 m (upd H1 D (.dK []))) ∧ ∀ i m H, W i m H →
  (J.stop i H ∧ ap Q (.ref D) H) ∨ (J.go i H ∧ ∃ Nx : Hp → Prop, (∀ H', Nx H' → ∃ m', m' < m ∧ W (i + 1) m' H') ∧ ∀ x H', J.yld i H x H' → g x (wipe σ vs) H' fun σ2 H2 => wipe σ2 vs = wipe σ vs ∧ tt σ2 H2 fun b H3 =>
    if b = true then tk σ2 H3 fun y H4 => tv σ2 H4 fun z H5 => ∃ kvs k, y = kV k ∧ H5 D = some (.dK kvs) ∧ kvs.length < sizeLine ∧ Nx (upd H5 D (.dK (putK kvs k z))) else Nx H3)) : tDc wi g tt tk tv vs σ H Q := h
end
section
variable {M0 : Addr → Prop} {J0 H0 J H : Hp} {Q : VK} {σ : L2.St} {K : PySem.W.Frag} {D : Ends} {α β : Type} {R : α → V → Hp → Prop} {S : β → V → Hp → Prop} [∀ d v, Up (R d v)] [∀ d v, Up (S d v)]
theorem fm_step {ds : List α} {f : α → Option β} {i : Nat} {d : α} (h : ds[i]? = some d) : (ds.take (i + 1)).filterMap f = (ds.take i).filterMap f ++ (f d).toList := by
  rw [List.take_add_one, h, List.filterMap_append]
  cases e : f d <;> simp [e]
theorem k_lcFM {a : Addr} {xs : List V} {ds : List α} {g : TG} {tt : TT} {te : TE} {vs : List Nat} (f : α → Option β) (G : Gr M0 J0 H0 J H) (ha : J a = some (.lst xs)) (hx : AllR R ds xs J) (hn : ds.length ≤ 1000000)
    (hs : ∀ d x J1 H1 (Ny : VK) (Nn : Hp → Prop), d ∈ ds → R d x J1 → Ex J J1 → Gr M0 J0 H0 J1 H1 →
      (∀ e y J4 H4, f d = some e → Gr No J1 H1 J4 H4 → S e y J4 → Ny y H4) → (∀ J4 H4, f d = none → Gr No J1 H1 J4 H4 → Nn H4) →
      g x (wipe σ vs) H1 fun σ2 H2 => wipe σ2 vs = wipe σ vs ∧ tt σ2 H2 fun b H3 => if b = true then te σ2 H3 Ny else Nn H3)
    (k : ∀ D acc J' H', H D = none → Ex J J' → J' D = some (.lst acc) → AllR S (ds.filterMap f) acc J' → Gr No J H J' H' → Gr M0 J0 H0 J' H' → Q (.ref D) H') :
    ∀ D, H D = none → ∃ W : Nat → Nat → Hp → Prop, (∃ m, W 0 m (upd H D (.lst []))) ∧ ∀ i m H, W i m H →
  ((Itl K a).stop i H ∧ ap Q (.ref D) H) ∨ ((Itl K a).go i H ∧ ∃ Nx : Hp → Prop, (∀ H', Nx H' → ∃ m', m' < m ∧ W (i + 1) m' H') ∧ ∀ x H', (Itl K a).yld i H x H' → g x (wipe σ vs) H' fun σ2 H2 => wipe σ2 vs = wipe σ vs ∧ tt σ2 H2 fun b H3 =>
    if b = true then te σ2 H3 fun y H4 => ∃ acc, H4 D = some (.lst acc) ∧ acc.length < sizeLine ∧ Nx (upd H4 D (.lst (acc ++ [y]))) else Nx H3) := by
  refine k_lcL G ha (by rw [hx.1]; exact hn) (fun i acc J1 => AllR S ((ds.take i).filterMap f) acc J1) (fun i acc J1 J2 e h => Up.up e h) AllR.nil ?_ ?_
  · intro i x acc J1 H1 Ny Nn hz hl ej g inv hy hn
    obtain ⟨d, hd, hr⟩ := hx.at hz
    refine hs d x J1 H1 Ny Nn (List.mem_of_getElem? hd) (Up.up ej hr) ej g (fun e y J4 H4 he g4 hS => hy y J4 H4 g4 ?_) (fun J4 H4 he g4 => hn J4 H4 g4 ?_)
    · rw [fm_step hd, he]
      exact (Up.up g4.jj inv).snoc hS
    · rw [fm_step hd, he]
      simpa using (Up.up g4.jj inv)
  · intro D acc J' H' hD ej hD' g1 g hl inv
    rw [hx.1, List.take_of_length_le (Nat.le_refl _)] at inv
    exact k D acc J' H' hD ej hD' inv g1 g
theorem k_lcTM {a : Addr} {xs : List V} {ds : List α} {g : TG} {tt : TT} {te : TE} {vs : List Nat} (f : α → Option β) (G : Gr M0 J0 H0 J H) (ha : J a = some (.tup xs)) (hx : AllR R ds xs J) (hn : ds.length ≤ 1000000)
    (hs : ∀ d x J1 H1 (Ny : VK) (Nn : Hp → Prop), d ∈ ds → R d x J1 → Ex J J1 → Gr M0 J0 H0 J1 H1 →
      (∀ e y J4 H4, f d = some e → Gr No J1 H1 J4 H4 → S e y J4 → Ny y H4) → (∀ J4 H4, f d = none → Gr No J1 H1 J4 H4 → Nn H4) →
      g x (wipe σ vs) H1 fun σ2 H2 => wipe σ2 vs = wipe σ vs ∧ tt σ2 H2 fun b H3 => if b = true then te σ2 H3 Ny else Nn H3)
    (k : ∀ D acc J' H', H D = none → Ex J J' → J' D = some (.lst acc) → AllR S (ds.filterMap f) acc J' → Gr No J H J' H' → Gr M0 J0 H0 J' H' → Q (.ref D) H') :
    ∀ D, H D = none → ∃ W : Nat → Nat → Hp → Prop, (∃ m, W 0 m (upd H D (.lst []))) ∧ ∀ i m H, W i m H →
  ((Itt K a).stop i H ∧ ap Q (.ref D) H) ∨ ((Itt K a).go i H ∧ ∃ Nx : Hp → Prop, (∀ H', Nx H' → ∃ m', m' < m ∧ W (i + 1) m' H') ∧ ∀ x H', (Itt K a).yld i H x H' → g x (wipe σ vs) H' fun σ2 H2 => wipe σ2 vs = wipe σ vs ∧ tt σ2 H2 fun b H3 =>
    if b = true then te σ2 H3 fun y H4 => ∃ acc, H4 D = some (.lst acc) ∧ acc.length < sizeLine ∧ Nx (upd H4 D (.lst (acc ++ [y]))) else Nx H3) := by
  refine k_lcT G ha (by rw [hx.1]; exact hn) (fun i acc J1 => AllR S ((ds.take i).filterMap f) acc J1) (fun i acc J1 J2 e h => Up.up e h) AllR.nil ?_ ?_
  · intro i x acc J1 H1 Ny Nn hz hl ej g inv hy hn
    obtain ⟨d, hd, hr⟩ := hx.at hz
    refine hs d x J1 H1 Ny Nn (List.mem_of_getElem? hd) (Up.up ej hr) ej g (fun e y J4 H4 he g4 hS => hy y J4 H4 g4 ?_) (fun J4 H4 he g4 => hn J4 H4 g4 ?_)
    · rw [fm_step hd, he]
      exact (Up.up g4.jj inv).snoc hS
    · rw [fm_step hd, he]
      simpa using (Up.up g4.jj inv)
  · intro D acc J' H' hD ej hD' g1 g hl inv
    rw [hx.1, List.take_of_length_le (Nat.le_refl _)] at inv
    exact k D acc J' H' hD ej hD' inv g1 g
theorem k_lcRM {n : Nat} {g : TG} {tt : TT} {te : TE} {vs : List Nat} (f : Nat → Option β) (G : Gr M0 J0 H0 J H) (hn : n ≤ 1000000)
    (hs : ∀ (d : Nat) J1 H1 (Ny : VK) (Nn : Hp → Prop), d < n → Ex J J1 → Gr M0 J0 H0 J1 H1 →
      (∀ e y J4 H4, f d = some e → Gr No J1 H1 J4 H4 → S e y J4 → Ny y H4) → (∀ J4 H4, f d = none → Gr No J1 H1 J4 H4 → Nn H4) →
      g (.int (d : Int)) (wipe σ vs) H1 fun σ2 H2 => wipe σ2 vs = wipe σ vs ∧ tt σ2 H2 fun b H3 => if b = true then te σ2 H3 Ny else Nn H3)
    (k : ∀ D acc J' H', H D = none → Ex J J' → J' D = some (.lst acc) → AllR S ((List.range n).filterMap f) acc J' → Gr No J H J' H' → Gr M0 J0 H0 J' H' → Q (.ref D) H') :
    ∀ D, H D = none → ∃ W : Nat → Nat → Hp → Prop, (∃ m, W 0 m (upd H D (.lst []))) ∧ ∀ i m H, W i m H →
  ((Itr 0 n).stop i H ∧ ap Q (.ref D) H) ∨ ((Itr 0 n).go i H ∧ ∃ Nx : Hp → Prop, (∀ H', Nx H' → ∃ m', m' < m ∧ W (i + 1) m' H') ∧ ∀ x H', (Itr 0 n).yld i H x H' → g x (wipe σ vs) H' fun σ2 H2 => wipe σ2 vs = wipe σ vs ∧ tt σ2 H2 fun b H3 =>
    if b = true then te σ2 H3 fun y H4 => ∃ acc, H4 D = some (.lst acc) ∧ acc.length < sizeLine ∧ Nx (upd H4 D (.lst (acc ++ [y]))) else Nx H3) := by
  refine k_lcR G hn (fun i acc J1 => AllR S (((List.range n).take i).filterMap f) acc J1) (fun i acc J1 J2 e h => Up.up e h) AllR.nil ?_ ?_
  · intro i acc J1 H1 Ny Nn hz hl ej g inv hy hn
    have hd : (List.range n)[i]? = some i := by rw [List.getElem?_range hz]
    refine hs i J1 H1 Ny Nn hz ej g (fun e y J4 H4 he g4 hS => hy y J4 H4 g4 ?_) (fun J4 H4 he g4 => hn J4 H4 g4 ?_)
    · rw [fm_step hd, he]
      exact (Up.up g4.jj inv).snoc hS
    · rw [fm_step hd, he]
      simpa using (Up.up g4.jj inv)
  · intro D acc J' H' hD ej hD' g1 g hl inv
    rw [List.take_of_length_le (by simp)] at inv
    exact k D acc J' H' hD ej hD' inv g1 g
end
section
variable {M0 : Addr → Prop} {J0 H0 J H : Hp} {Q : VK} {σ : L2.St} {K : PySem.W.Frag} {D : Ends}
/-! ### over the keys of a dict that is ours -/
theorem k_lock {d : Addr} {kvs : List (Key × V)} {t : TS} (G : Gr M0 J0 H0 J H) (m : Mu J H d (.dK kvs)) (ok : M0 d ∨ H0 d = none)
    (k : ∀ od H1, Gr (fun b => b = d) J H J H1 → Gr M0 J0 H0 J H1 → Mu J H1 d (.frz od (.dK kvs)) → t ⟨fun σ' H' => H' d = some (.frz od (.dK kvs)) ∧ D.nx σ' (upd H' d (.dK kvs)), fun v H' => H' d = some (.frz od (.dK kvs)) ∧ D.rt v (upd H' d (.dK kvs)), fun σ' H' => H' d = some (.frz od (.dK kvs)) ∧ D.bk σ' (upd H' d (.dK kvs)), fun σ' H' => H' d = some (.frz od (.dK kvs)) ∧ D.ct σ' (upd H' d (.dK kvs))⟩ σ H1) : tLock t D σ H :=
  ⟨d, .dK kvs, m.h, trivial, fun od => k od _ (mut_one G m) (G.mut m.j ok) m.set⟩
theorem k_iK {td : TE} {R : It → Hp → Prop} (h : td σ H fun x H1 => ∃ d o, x = .ref d ∧ ((∃ kvs, H1 d = some (.frz o (.dK kvs)) ∧ R (Itk d o kvs) H1) ∨ ∃ kvs, H1 d = some (.frz o (.dT kvs)) ∧ R (Itkt d o kvs) H1)) : iKeys td σ H R := h
theorem k_iKE {d : Addr} {o : Obj} {kvs : List (Key × V)} {P1 : Addr → Obj → List (Key × V) → Prop} {P2 : Addr → Obj → List (List Key × V) → Prop} (h : H d = some (.frz o (.dK kvs))) (k : P1 d o kvs) :
    ∃ d' o', V.ref d = .ref d' ∧ ((∃ kvs, H d' = some (.frz o' (.dK kvs)) ∧ P1 d' o' kvs) ∨ ∃ kvs, H d' = some (.frz o' (.dT kvs)) ∧ P2 d' o' kvs) := ⟨d, o, rfl, .inl ⟨kvs, h, k⟩⟩
theorem k_forK {d : Addr} {od : Obj} {kvs : List (Key × V)} {g : TG} {tb : TS} (G : Gr M0 J0 H0 J H) (m : Mu J H d (.frz od (.dK kvs))) (Pv : Nat → L2.St → Hp → Hp → Prop) (h0 : Pv 0 σ J H)
    (hs : ∀ i key v σ' J' H', kvs[i]? = some (key, v) → Ex J J' → Gr M0 J0 H0 J' H' → Mu J' H' d (.frz od (.dK kvs)) → Pv i σ' J' H' → g (kV key) σ' H' fun σ2 H2 => tb { D with nx := fun σ3 H3 => ∃ J3, Ex J J3 ∧ Gr M0 J0 H0 J3 H3 ∧ Mu J3 H3 d (.frz od (.dK kvs)) ∧ Pv (i + 1) σ3 J3 H3, ct := fun σ3 H3 => ∃ J3, Ex J J3 ∧ Gr M0 J0 H0 J3 H3 ∧ Mu J3 H3 d (.frz od (.dK kvs)) ∧ Pv (i + 1) σ3 J3 H3, bk := D.nx } σ2 H2)
    (hd : ∀ σ' J' H', Ex J J' → Gr M0 J0 H0 J' H' → Mu J' H' d (.frz od (.dK kvs)) → Pv kvs.length σ' J' H' → D.nx σ' H') :
    ∃ W : Nat → Nat → L2.St → Hp → Prop, (∃ m, W 0 m σ H) ∧ ∀ i m σ H, W i m σ H →
      ((Itk d od kvs).stop i H ∧ D.nx σ H) ∨ ((Itk d od kvs).go i H ∧ ∃ N : L2.St → Hp → Prop, (∀ σ' H', N σ' H' → ∃ m', m' < m ∧ W (i + 1) m' σ' H') ∧ ∀ x H', (Itk d od kvs).yld i H x H' → g x σ H' fun σ2 H2 => tb { D with nx := N, ct := N, bk := D.nx } σ2 H2) :=
  for_it walk_keys (fun i σ' H' => ∃ J', Ex J J' ∧ Gr M0 J0 H0 J' H' ∧ Mu J' H' d (.frz od (.dK kvs)) ∧ Pv i σ' J' H') ⟨J, Ex.refl J, G, m, h0⟩ (fun i σ' H' _ ⟨J', e, g, m', _⟩ => m'.h)
    (fun i x σ' H' H'' hi ⟨J', e, g, m', p⟩ y => by obtain ⟨rfl, key, v, hk, rfl⟩ := y; exact hs i key v σ' J' H'' hk e g m' p) (fun σ' H' ⟨J', e, g, m', p⟩ => hd σ' J' H' e g m' p)
/-- reading a dict that is locked -/
theorem k_dgetZ {a : Addr} {od : Obj} {kvs : List (Key × V)} {x : Str} {v : V} {J1 : Hp} (m : Mu J1 H a (.frz od (.dK kvs))) (hv : valV kvs (Sum.inr x : Key) = some v) (k : Q v H) : ∃ a' v', V.ref a = .ref a' ∧ DGet H a' (.str x) (some v') ∧ ap Q v' H :=
  k_dgetF m.h hv k
theorem k_forS {z : Str} {g : TG} {tb : TS} (G : Gr M0 J0 H0 J H) (Pv : Nat → L2.St → Hp → Hp → Prop) (h0 : Pv 0 σ J H)
    (hs : ∀ i c σ' J' H', z.cps[i]? = some c → Ex J J' → Gr M0 J0 H0 J' H' → Pv i σ' J' H' → g (.str ⟨#[c]⟩) σ' H' fun σ2 H2 => tb { D with nx := fun σ3 H3 => ∃ J3, Ex J J3 ∧ Gr M0 J0 H0 J3 H3 ∧ Pv (i + 1) σ3 J3 H3, ct := fun σ3 H3 => ∃ J3, Ex J J3 ∧ Gr M0 J0 H0 J3 H3 ∧ Pv (i + 1) σ3 J3 H3, bk := D.nx } σ2 H2)
    (hd : ∀ σ' J' H', Ex J J' → Gr M0 J0 H0 J' H' → Pv z.cps.size σ' J' H' → D.nx σ' H') :
    ∃ W : Nat → Nat → L2.St → Hp → Prop, (∃ m, W 0 m σ H) ∧ ∀ i m σ H, W i m σ H →
      ((Its z).stop i H ∧ D.nx σ H) ∨ ((Its z).go i H ∧ ∃ N : L2.St → Hp → Prop, (∀ σ' H', N σ' H' → ∃ m', m' < m ∧ W (i + 1) m' σ' H') ∧ ∀ x H', (Its z).yld i H x H' → g x σ H' fun σ2 H2 => tb { D with nx := N, ct := N, bk := D.nx } σ2 H2) :=
  k_forW walk_str G Pv h0 (fun _ _ _ _ => trivial) (fun i x σ' J' H' H'' hi e g p y => by obtain ⟨rfl, c, hc, rfl⟩ := y; exact hs i c σ' J' H'' hc e g p) hd
theorem if_and {c : Bool} {A B X : Prop} (hB : B) (hx : c = true → B → X) : if c = true then X else (if false = true then A else B) := by
  cases c with
  | true => rw [if_pos rfl]; exact hx rfl hB
  | false => rw [if_neg (by decide), if_neg (by decide)]; exact hB
theorem if_or {c : Bool} {A B X : Prop} (hA : A) (hx : c = false → A → X) : if c = true then (if true = true then A else B) else X := by
  cases c with
  | true => rw [if_pos rfl, if_pos rfl]; exact hA
  | false => rw [if_neg (by decide)]; exact hx rfl hA
theorem k_lcRg {n : Nat} {g : TG} {tt : TT} {te : TE} {vs : List Nat} (G : Gr M0 J0 H0 J H) (hn : n ≤ 1000000)
    (Inv : Nat → List V → Hp → Prop) (up : ∀ i acc J1 J2, Ex J1 J2 → Inv i acc J1 → Inv i acc J2) (h0 : Inv 0 [] J)
    (hs : ∀ (i : Nat) acc J1 H1 (Ny : VK) (Nn : Hp → Prop), i < n → acc.length ≤ i → Ex J J1 → Gr M0 J0 H0 J1 H1 → Gr No J H J1 H1 → Inv i acc J1 →
      (∀ y J4 H4, Gr No J1 H1 J4 H4 → Inv (i + 1) (acc ++ [y]) J4 → Ny y H4) → (∀ J4 H4, Gr No J1 H1 J4 H4 → Inv (i + 1) acc J4 → Nn H4) →
      g (.int (i : Int)) (wipe σ vs) H1 fun σ2 H2 => wipe σ2 vs = wipe σ vs ∧ tt σ2 H2 fun b H3 => if b = true then te σ2 H3 Ny else Nn H3)
    (k : ∀ D acc J' H', H D = none → Ex J J' → J' D = some (.lst acc) → Gr No J H J' H' → Gr M0 J0 H0 J' H' → acc.length ≤ n → Inv n acc J' → Q (.ref D) H') :
    ∀ D, H D = none → ∃ W : Nat → Nat → Hp → Prop, (∃ m, W 0 m (upd H D (.lst []))) ∧ ∀ i m H, W i m H →
  ((Itr 0 n).stop i H ∧ ap Q (.ref D) H) ∨ ((Itr 0 n).go i H ∧ ∃ Nx : Hp → Prop, (∀ H', Nx H' → ∃ m', m' < m ∧ W (i + 1) m' H') ∧ ∀ x H', (Itr 0 n).yld i H x H' → g x (wipe σ vs) H' fun σ2 H2 => wipe σ2 vs = wipe σ vs ∧ tt σ2 H2 fun b H3 =>
    if b = true then te σ2 H3 fun y H4 => ∃ acc, H4 D = some (.lst acc) ∧ acc.length < sizeLine ∧ Nx (upd H4 D (.lst (acc ++ [y]))) else Nx H3) :=
  k_lcW (M1 := No) walk_range G hn (fun _ z => z.elim) (fun _ z => z.elim) (fun i acc J1 _ => Inv i acc J1) h0 (fun _ _ _ _ _ _ _ _ h => h) (fun _ _ _ _ _ _ _ jn h => up _ _ _ _ (ex_know jn) h) (fun _ _ _ _ => trivial)
    (fun i x acc J1 H1 H1' Ny Nn hi hl e g g1 p y => by
      obtain ⟨rfl, rfl⟩ := y
      intro a b
      have h := hs i acc J1 _ Ny Nn hi hl e g g1 p a b
      dsimp only
      rw [show ((0 : Int) + (i : Int)) = (i : Int) from Int.zero_add _]
      exact h) k
/-- the same over a range, the list still ours to change -/
theorem k_lcRu {n : Nat} {g : TG} {tt : TT} {te : TE} {vs : List Nat} (G : Gr M0 J0 H0 J H) (hn : n ≤ 1000000)
    (Inv : Nat → List V → Hp → Prop) (up : ∀ i acc J1 J2, Ex J1 J2 → Inv i acc J1 → Inv i acc J2) (h0 : Inv 0 [] J)
    (hs : ∀ (i : Nat) acc J1 H1 (Ny : VK) (Nn : Hp → Prop), i < n → acc.length ≤ i → Ex J J1 → Gr M0 J0 H0 J1 H1 → Gr No J H J1 H1 → Inv i acc J1 →
      (∀ y J4 H4, Gr No J1 H1 J4 H4 → Inv (i + 1) (acc ++ [y]) J4 → Ny y H4) → (∀ J4 H4, Gr No J1 H1 J4 H4 → Inv (i + 1) acc J4 → Nn H4) →
      g (.int (i : Int)) (wipe σ vs) H1 fun σ2 H2 => wipe σ2 vs = wipe σ vs ∧ tt σ2 H2 fun b H3 => if b = true then te σ2 H3 Ny else Nn H3)
    (k : ∀ D acc J' H', H D = none → H0 D = none → Ex J J' → Mu J' H' D (.lst acc) → Gr No J H J' H' → Gr M0 J0 H0 J' H' → acc.length ≤ n → Inv n acc J' → Q (.ref D) H') :
    ∀ D, H D = none → ∃ W : Nat → Nat → Hp → Prop, (∃ m, W 0 m (upd H D (.lst []))) ∧ ∀ i m H, W i m H →
  ((Itr 0 n).stop i H ∧ ap Q (.ref D) H) ∨ ((Itr 0 n).go i H ∧ ∃ Nx : Hp → Prop, (∀ H', Nx H' → ∃ m', m' < m ∧ W (i + 1) m' H') ∧ ∀ x H', (Itr 0 n).yld i H x H' → g x (wipe σ vs) H' fun σ2 H2 => wipe σ2 vs = wipe σ vs ∧ tt σ2 H2 fun b H3 =>
    if b = true then te σ2 H3 fun y H4 => ∃ acc, H4 D = some (.lst acc) ∧ acc.length < sizeLine ∧ Nx (upd H4 D (.lst (acc ++ [y]))) else Nx H3) := by
  intro D hD
  have hD0 : H0 D = none := G.al D hD
  have zs : sizeLine = 16777216 := sizeLine_eq
  refine lc_it (walk_range (lo := 0) (n := n)) (fun i H' => ∃ J' acc, Ex J J' ∧ Gr M0 J0 H0 J' H' ∧ Gr No J H J' H' ∧ Mu J' H' D (.lst acc) ∧ acc.length ≤ i ∧ Inv i acc J') ?_ (fun _ _ _ _ => trivial) ?_ ?_
  · exact ⟨J, [], Ex.refl J, G.step (Gr.new G.jh hD), Gr.new G.jh hD, Mu.new G.jh hD, Nat.le_refl _, h0⟩
  · rintro i x H1 H1' hi ⟨J1, acc, e, g, g1, m, hl, p⟩ ⟨rfl, rfl⟩
    have h := hs i acc J1 _ (fun y H4 => ∃ acc, H4 D = some (.lst acc) ∧ acc.length < sizeLine ∧ (fun H' => ∃ J' acc, Ex J J' ∧ Gr M0 J0 H0 J' H' ∧ Gr No J H J' H' ∧ Mu J' H' D (.lst acc) ∧ acc.length ≤ i + 1 ∧ Inv (i + 1) acc J') (upd H4 D (.lst (acc ++ [y])))) (fun H' => ∃ J' acc, Ex J J' ∧ Gr M0 J0 H0 J' H' ∧ Gr No J H J' H' ∧ Mu J' H' D (.lst acc) ∧ acc.length ≤ i + 1 ∧ Inv (i + 1) acc J') hi hl e g g1 p
      (fun y J4 H4 g4 p4 => by
        have m4 := m.up g4
        exact ⟨acc, m4.h, by omega, J4, acc ++ [y], e.trans g4.jj, (g.step g4).mut m4.j (.inr hD0), (g1.trans g4).stepM (mut_one (M0 := No) (J0 := J) (H0 := H) (g1.trans g4) m4) (fun b hb => .inr (by subst hb; exact hD)), m4.set, by simp; omega, p4⟩)
      (fun J4 H4 g4 p4 => ⟨J4, acc, e.trans g4.jj, g.step g4, g1.trans g4, m.up g4, by omega, p4⟩)
    dsimp only
    rw [show ((0 : Int) + (i : Int)) = (i : Int) from Int.zero_add _]
    exact h
  · rintro H' ⟨J', acc, e, g, g1, m, hl, p⟩
    exact k D acc J' H' hD hD0 e m g1 g hl p
/-- one of some flat things -/
theorem k_inFlat {p : Addr} {x : V} {xs : List V} (hp : H p = some (.lst xs)) (f1 : flatV x = true) (f2 : xs.all flatV = true) (k : Q (.bl (inV x xs)) H) : rIn K false x (.ref p) H Q := ⟨p, xs, rfl, .inl (SqL.of hp), f1, f2, k⟩
theorem k_lcLg {a : Addr} {xs : List V} {g : TG} {tt : TT} {te : TE} {vs : List Nat} (G : Gr M0 J0 H0 J H) (ha : J a = some (.lst xs)) (hn : xs.length ≤ 1000000)
    (Inv : Nat → List V → Hp → Prop) (up : ∀ i acc J1 J2, Ex J1 J2 → Inv i acc J1 → Inv i acc J2) (h0 : Inv 0 [] J)
    (hs : ∀ i x acc J1 H1 (Ny : VK) (Nn : Hp → Prop), xs[i]? = some x → acc.length ≤ i → Ex J J1 → Gr M0 J0 H0 J1 H1 → Gr No J H J1 H1 → Inv i acc J1 →
      (∀ y J4 H4, Gr No J1 H1 J4 H4 → Inv (i + 1) (acc ++ [y]) J4 → Ny y H4) → (∀ J4 H4, Gr No J1 H1 J4 H4 → Inv (i + 1) acc J4 → Nn H4) →
      g x (wipe σ vs) H1 fun σ2 H2 => wipe σ2 vs = wipe σ vs ∧ tt σ2 H2 fun b H3 => if b = true then te σ2 H3 Ny else Nn H3)
    (k : ∀ D acc J' H', H D = none → Ex J J' → J' D = some (.lst acc) → Gr No J H J' H' → Gr M0 J0 H0 J' H' → acc.length ≤ xs.length → Inv xs.length acc J' → Q (.ref D) H') :
    ∀ D, H D = none → ∃ W : Nat → Nat → Hp → Prop, (∃ m, W 0 m (upd H D (.lst []))) ∧ ∀ i m H, W i m H →
  ((Itl K a).stop i H ∧ ap Q (.ref D) H) ∨ ((Itl K a).go i H ∧ ∃ Nx : Hp → Prop, (∀ H', Nx H' → ∃ m', m' < m ∧ W (i + 1) m' H') ∧ ∀ x H', (Itl K a).yld i H x H' → g x (wipe σ vs) H' fun σ2 H2 => wipe σ2 vs = wipe σ vs ∧ tt σ2 H2 fun b H3 =>
    if b = true then te σ2 H3 fun y H4 => ∃ acc, H4 D = some (.lst acc) ∧ acc.length < sizeLine ∧ Nx (upd H4 D (.lst (acc ++ [y]))) else Nx H3) :=
  k_lcW (M1 := No) (walk_list (xs := xs)) G hn (fun _ z => z.elim) (fun _ z => z.elim) (fun i acc J1 _ => Inv i acc J1) h0 (fun _ _ _ _ _ _ _ _ h => h) (fun _ _ _ _ _ _ _ jn h => up _ _ _ _ (ex_know jn) h) (fun J' H' e e' => SqL.of (e' _ _ (e _ _ ha)))
    (fun i x acc J1 H1 H1' Ny Nn hi hl e g g1 p y => by obtain ⟨rfl, hx⟩ := y; exact hs i x acc J1 H1' Ny Nn hx hl e g g1 p) k
end
end Rk
/-! sorted(xs), xs a list of alike data: some order of the same -/
namespace Rk
open PySem PySem.Spec PyProof.Rows L2
/-- sorted(xs) for alike data -/
def rSortD (K : PySem.W.Frag) : List V → Hp → VK → Prop := fun vs H Q => ∃ (a : Addr) (xs : List V) (ds : List PyData), vs = [V.ref a] ∧ SqL K H a xs ∧ DpAll K H xs ds ∧ PySem.W.AllAlike ds ∧ PySem.W.Sortable ds ∧ (∀ d ∈ ds, d.depth ≤ 60) ∧
  ∀ (ys : List V) (p : Addr), ys.Perm xs → H p = none → Q (.ref p) (upd H p (.lst ys))
theorem dpAll_each {X : Cx} {pins : List (Addr × Obj)} {σ : L2.St} {H : Hp} {s : Shared} (I : Inv X pins σ H s) : ∀ {xs : List V} {ds : List PyData} {us : List Value}, DpAll X.K H xs ds → Vals xs us →
    ∃ bs : List (V × PyData), bs.map (·.1) = xs ∧ bs.map (·.2) = ds ∧ PySem.W.EachIs (fun (v : Value) (b : V × PyData) => RelV b.1 v) us bs ∧ PySem.W.EachIs (fun (v : Value) (b : V × PyData) => ∃ as, Reads s.heap v b.2 as) us bs
  | [], _, _, .nil, .nil => ⟨[], rfl, rfl, .nil, .nil⟩
  | x :: xs, _, _, .cons (d := d) h t, .cons r rr => by
    obtain ⟨bs, h1, h2, h3, h4⟩ := dpAll_each I t rr
    exact ⟨(x, d) :: bs, by rw [List.map_cons, h1], by rw [List.map_cons, h2], .cons r h3, .cons (Dp.reads I _ _ _ h r) h4⟩
theorem each_vals : ∀ {us : List Value} {bs : List (V × PyData)}, PySem.W.EachIs (fun (v : Value) (b : V × PyData) => RelV b.1 v) us bs → Vals (bs.map (·.1)) us
  | _, _, .nil => .nil
  | _, _, .cons r t => .cons r (each_vals t)
theorem cr_sortedD {X : Cx} (hu : X.A.units + 64 < cLine) : CallR X (.builtin "sorted") (rSortD X.K) := by
  intro pins s σ H vs us Q I r h
  obtain ⟨a, xs, ds, rfl, hs, hd, hal, hk, hdp, q⟩ := h
  obtain ⟨its, rv, hl, hz⟩ := I.list hs
  rw [Vals.ref1 r]
  obtain ⟨bs, h1, h2, h3, h4⟩ := dpAll_each I hd rv
  subst h2
  have hlen : bs.length = xs.length := by rw [← h1]; simp
  refine PySem.W.sorted_data (enc := Prod.snd) hl.isList h3 h4 hal hk (by rw [hlen]; exact hz) (fun b hb => ?_) fun out ho he => ?_
  · have := hdp _ (List.mem_map_of_mem hb)
    show _ + 2 + b.2.depth < _
    omega
  · have hp : ((bs.mergeSort (PySem.W.dataLe false Prod.snd)).map (·.1)).Perm xs := by
      rw [← h1]
      exact (List.mergeSort_perm _ _).map _
    obtain ⟨ep, he'⟩ := PyProof.Rows.sortedAll_at s.heap its out.toArray
    have hlen2 : ((bs.mergeSort (PySem.W.dataLe false Prod.snd)).map (·.1)).length ≤ sizeLine := by rw [hp.length_eq]; exact hz
    exact ⟨.ref _, upd H (s.heap.objs.size + 1) (.lst _), I.laid (t' := s.toks) (fun _ _ => PyProof.Rows.sortedAll_old) (Nat.le_succ _) ⟨hlen2, out, ep, each_vals he, he'⟩, rfl, q _ _ hp (I.hok.fresh (Nat.le_succ _))⟩
theorem cSortD {X : Cx} (K : PySem.W.Frag) (hu : X.A.units + 64 < cLine) (h : X.K = K := by rfl) : CallR X (.builtin "sorted") (rSortD K) := h ▸ cr_sortedD hu
end Rk
/-! the mathematics: conversions, faults -/
namespace Rk
open PySem PySem.Spec PyProof.Rows L2
def rd (s : Str) : Bool := hasS "r" s
def wr (s : Str) : Bool := hasS "w" s
/-- the rights -/
def IsRt (s : Str) : Prop := s = "rw" ∨ s = "r" ∨ s = "w" ∨ s = "-"
/-- a right within another one -/
def wi (b a : Str) : Bool := (!rd b || rd a) && (!wr b || wr a)
def cvN : Nat → Ty → Ty → Bool
  | 0, _, _ => true
  | n + 1, a :: as, b :: bs => wi b a && ((!rd b || cvN n as bs) && (!wr b || cvN n bs as))
  | _ + 1, _, _ => false
/-- a value type converts to another one -/
def conv (a b : Ty) : Bool := decide (a.length = b.length) && cvN a.length a b
theorem cvN_refl : ∀ (n : Nat) (a : Ty), a.length = n → cvN n a a = true
  | 0, a, _ => rfl
  | n + 1, [], h => by simp at h
  | n + 1, x :: xs, h => by
    have hx : xs.length = n := by simpa using h
    have ih := cvN_refl n xs hx
    unfold cvN wi
    rw [ih]
    simp
theorem conv_refl (a : Ty) : conv a a = true := by
  unfold conv
  rw [cvN_refl _ a rfl]
  simp
theorem cvN_trans : ∀ (n : Nat) (a b c : Ty), cvN n a b = true → cvN n b c = true → cvN n a c = true
  | 0, _, _, _, _, _ => rfl
  | n + 1, [], _, _, h, _ => by simp [cvN] at h
  | n + 1, _ :: _, [], _, h, _ => by simp [cvN] at h
  | n + 1, _ :: _, _ :: _, [], _, h => by simp [cvN] at h
  | n + 1, x :: xs, y :: ys, z :: zs, h1, h2 => by
    have e1 := h1
    have e2 := h2
    unfold cvN wi at e1 e2 ⊢
    simp only [Bool.and_eq_true, Bool.or_eq_true, Bool.not_eq_true'] at e1 e2 ⊢
    obtain ⟨⟨a1, a2⟩, a3, a4⟩ := e1
    obtain ⟨⟨b1, b2⟩, b3, b4⟩ := e2
    have t1 : rd z = true → rd y = true := fun h => b1.resolve_left (by rw [h]; decide)
    have t2 : rd y = true → rd x = true := fun h => a1.resolve_left (by rw [h]; decide)
    have u1 : wr z = true → wr y = true := fun h => b2.resolve_left (by rw [h]; decide)
    have u2 : wr y = true → wr x = true := fun h => a2.resolve_left (by rw [h]; decide)
    have cs : ∀ b : Bool, b = false ∨ b = true := fun b => by cases b <;> simp
    refine ⟨⟨?_, ?_⟩, ?_, ?_⟩
    · exact (cs (rd z)).imp id fun h => t2 (t1 h)
    · exact (cs (wr z)).imp id fun h => u2 (u1 h)
    · refine (cs (rd z)).imp id fun h => cvN_trans n xs ys zs (a3.resolve_left (by rw [t1 h]; decide)) (b3.resolve_left (by rw [h]; decide))
    · refine (cs (wr z)).imp id fun h => cvN_trans n zs ys xs (b4.resolve_left (by rw [h]; decide)) (a4.resolve_left (by rw [u1 h]; decide))
theorem conv_len {a b : Ty} (h : conv a b = true) : a.length = b.length := by
  unfold conv at h
  simp only [Bool.and_eq_true, decide_eq_true_eq] at h
  exact h.1
theorem conv_trans {a b c : Ty} (h1 : conv a b = true) (h2 : conv b c = true) : conv a c = true := by
  have l1 := conv_len h1
  have l2 := conv_len h2
  unfold conv at h1 h2 ⊢
  simp only [Bool.and_eq_true, decide_eq_true_eq] at h1 h2 ⊢
  refine ⟨l1.trans l2, cvN_trans _ a b c h1.2 ?_⟩
  rw [l1]
  exact h2.2
theorem conv_cons {x y : Str} {a b : Ty} (h : conv (x :: a) (y :: b) = true) : (rd y = true → rd x = true ∧ conv a b = true) ∧ (wr y = true → wr x = true ∧ conv b a = true) := by
  have l := conv_len h
  unfold conv at h
  simp only [Bool.and_eq_true, decide_eq_true_eq] at h
  have h2 := h.2
  simp only [List.length_cons] at h2 l
  unfold cvN wi at h2
  simp only [Bool.and_eq_true, Bool.or_eq_true, Bool.not_eq_true'] at h2
  obtain ⟨⟨a1, a2⟩, a3, a4⟩ := h2
  have l' : a.length = b.length := by omega
  refine ⟨fun hy => ⟨a1.resolve_left (by rw [hy]; decide), ?_⟩, fun hy => ⟨a2.resolve_left (by rw [hy]; decide), ?_⟩⟩
  · unfold conv
    simp only [Bool.and_eq_true, decide_eq_true_eq]
    exact ⟨l', a3.resolve_left (by rw [hy]; decide)⟩
  · unfold conv
    simp only [Bool.and_eq_true, decide_eq_true_eq]
    exact ⟨l'.symm, by rw [← l']; exact a4.resolve_left (by rw [hy]; decide)⟩
theorem conv_cons_eq {x y : Str} {a b : Ty} (l : a.length = b.length) : conv (x :: a) (y :: b) = (wi y x && ((!rd y || conv a b) && (!wr y || conv b a))) := by
  unfold conv
  simp only [List.length_cons, l, decide_true, Bool.true_and]
  rfl
/-! ### faults -/
abbrev Tys := List (Str × Ty)
def reached (ts : Tys) (x : Str) (k : Nat) : Option Str := match ts.lookup x with
  | none => some "unknown name"
  | some t => if t.length ≤ k then some "too many stars" else if (t.take k).all rd then none else some "may not read"
def cvF (a u : Ty) : Option Str := if a.length = u.length then (if conv a u then none else some "no conversion") else some "other depth"
def tyOf (ts : Tys) (x : Str) : Ty := (ts.lookup x).getD []
def srcF (ts : Tys) (s : Src) (u : Ty) : Option Str := match s with
  | .num _ => if u.length = 0 then none else some "other depth"
  | .null => if u.length = 0 then some "other depth" else none
  | .val x k => match reached ts x k with
    | some e => some e
    | none => if rd ((tyOf ts x).getD k "") then cvF ((tyOf ts x).drop (k + 1)) u else some "may not read"
  | .adr x k => match reached ts x k with
    | some e => some e
    | none => cvF ((tyOf ts x).drop k) u
def putF1 (ts : Tys) (x : Str) (k : Nat) (s : Src) : Option Str := match reached ts x k with
  | some e => some e
  | none => if wr ((tyOf ts x).getD k "") then srcF ts s ((tyOf ts x).drop (k + 1)) else some "may not write"
def argF (ts : Tys) : List (Str × Ty) → List Src → Option Str
  | p :: ps, s :: ss => match srcF ts s (p.2.drop 1) with
    | some e => some e
    | none => argF ts ps ss
  | _, _ => none
def fnOf (fns : List (Fn Ty)) (f : Str) : Option (Fn Ty) := fns.find? fun g => decide (g.name = f)
def stmF (ts : Tys) (fns : List (Fn Ty)) : Stm Ty → Option Str
  | .lt _ t s => srcF ts s (t.drop 1)
  | .pt x k s => putF1 ts x k s
  | .cl f ss => argF ts ((fnOf fns f).map (·.ps) |>.getD []) ss
/-- what is known behind a statement -/
def grow (ts : Tys) : Stm Ty → Tys
  | .lt x t _ => ts ++ [(x, t)]
  | _ => ts
def blkF (fns : List (Fn Ty)) (f : Str) : Tys → List (Stm Ty) → Nat → List (Str × Nat × Str)
  | _, [], _ => []
  | ts, st :: r, k => (match stmF ts fns st with
    | some e => [(f, k, e)]
    | none => []) ++ blkF fns f (grow ts st) r (k + 1)
end Rk
section
open PySem PySem.Spec PyProof.Rows L2 Rk
local macro_rules | `(tactic| walk_at "get") => `(tactic| first
  | assumption
  | exact Mu.h (by assumption)
  | exact Mu.h (Mu.up2 (by assumption) (by assumption))
  | ((with_reducible refine' Ex.get (Gr.jh (by assumption)) ?_); walk_at "get")
  | ((with_reducible refine' Ex.get (by assumption) ?_); walk_at "get"))
local macro_rules | `(tactic| walk_at "up") => `(tactic| first
  | assumption
  | ((with_reducible refine' Up.use (by assumption) ?_); walk_at "up"))
local macro_rules | `(tactic| walk_at "st2") => `(tactic| first
  | with_reducible refine k_bm ?_
  | with_reducible refine k_yes ?_
  | with_reducible refine k_blV ?_
  | ((with_reducible refine' k_tyL ?h1 ?_); (case h1 => walk_at "get"))
  | ((with_reducible refine' k_tupOf ?h1 ?h2 ?_); (case h1 => assumption); (case h2 => walk_at "get"); intro _ _ _ _ _ _ _ _)
  | with_reducible refine k_int ?_
  | with_reducible refine k_intB ?_
  | with_reducible refine k_abs ?_
  | with_reducible refine k_min ?_
  | with_reducible refine k_chain ?_
  | with_reducible refine k_par ?_
  | with_reducible refine k_parE ?_
  | ((with_reducible refine' k_gT ?h1 ?h2 ?_); (case h1 => walk_at "get"); (case h2 => rfl))
  | ((with_reducible refine' k_gU ?h1 ?h2 ?_); (case h1 => walk_at "get"); (case h2 => rfl))
  | with_reducible refine k_gC ?_
  | with_reducible refine k_gN ?_
  | with_reducible refine k_gsub ?_
  | with_reducible refine k_fldE ?_
  | with_reducible refine k_sfld ?_
  | with_reducible refine k_fldaug ?_
  | with_reducible refine k_make ?_
  | ((with_reducible refine' k_makeE ?h1 ?_); (case h1 => assumption); intro _ _ _ _ _ _ _ _)
  | with_reducible refine k_meth ?_
  | with_reducible refine k_notT ?_
  | with_reducible refine k_tru ?_
  | ((with_reducible refine' k_truT ?h1 ?_); (case h1 => walk_at "get"))
  | ((with_reducible refine' k_truL ?h1 ?_); (case h1 => walk_at "get"))
  | with_reducible refine k_iE ?_
  | ((with_reducible refine' k_iEE ?h1 ?_); (case h1 => walk_at "get"))
  | with_reducible refine k_iZ ?_
  | ((with_reducible refine' k_iZE ?h1 ?h2 ?_); (case h1 => walk_at "get"); (case h2 => walk_at "get"))
  | with_reducible refine k_iR2 ?_
  | with_reducible refine k_dc ?_
  | ((with_reducible refine' k_lenV ?h1 ?_); (case h1 => walk_at "get"))
  | ((with_reducible refine' k_lenDT ?h1 ?_); (case h1 => walk_at "get"))
  | with_reducible refine k_dget1 ?_
  | with_reducible refine k_iK ?_
  | ((with_reducible refine' k_iKE ?h1 ?_); (case h1 => walk_at "get"))
  | ((with_reducible refine' k_dgetZ ?h1 ?h2 ?_); (case h1 => first | assumption | exact Mu.up2 (by assumption) (by assumption)); (case h2 => assumption))
  | ((with_reducible refine' k_dget1A ?h1 ?_); (case h1 => walk_at "get"))
  | ((with_reducible refine' k_dget1B ?h1 ?_); (case h1 => walk_at "get")))
local macro_rules | `(tactic| walk_at "s0") => `(tactic| first
  | with_reducible refine k_seq ?_
  | ((with_reducible refine' k_nx (r := ?h7) (b := ?h8) (c := ?h9) ?_); fail_if_success (case h8 => exact fun _ _ => True))
  | ((with_reducible refine' k_rt (f := ?h7) (b := ?h8) (c := ?h9) ?_); fail_if_success (case h8 => exact fun _ _ => True))
  | ((with_reducible refine' k_var ?hv ?_); (case hv => with_unfolding_all exact rfl))
  | with_reducible refine k_c ?_
  | with_reducible refine k_op ?_
  | with_reducible refine k_asg ?_
  | with_reducible refine k_gname ?_
  | with_reducible refine k_test ?_
  | with_reducible refine k_bl ?_
  | with_reducible refine k_ap ?_
  | with_reducible refine k_if ?_
  | with_reducible refine k_ifE ?_
  | with_reducible refine k_ret ?_
  | with_reducible refine k_retN ?_
  | with_reducible refine k_next ?_
  | with_reducible refine k_cons ?_
  | with_reducible refine k_nil ?_
  | with_reducible refine k_call ?_
  | with_reducible refine k_cb ?_
  | with_reducible refine k_not ?_
  | with_reducible refine k_and ?_
  | with_reducible refine k_or ?_
  | with_reducible refine k_notV ?_
  | with_reducible refine k_andV ?_
  | with_reducible refine k_orV ?_
  | with_reducible refine k_tupD ?_
  | with_reducible refine k_lstD ?_
  | with_reducible refine k_drop ?_
  | with_reducible refine k_un ?_
  | with_reducible refine k_B ?_
  | with_reducible refine k_I0 ?_
  | ((with_reducible refine k_eq ?hs ?_); (case hs => exact rfl))
  | ((with_reducible refine k_ne ?hs ?_); (case hs => exact rfl))
  | (with_reducible refine k_isNo ?_)
  | (with_reducible refine k_notNo ?_)
  | ((with_reducible refine' k_ixT ?h1 ?h2 ?_); (case h1 => walk_at "get"); (case h2 => first | exact rfl | exact at0 | exact atI_nat (by assumption) | exact atI_nat (j := 0) (by assumption) | exact atI_nat (j := 1) (by assumption) | exact atI_nat (j := 2) (by assumption)))
  | ((with_reducible refine' k_ixL ?h1 ?h2 ?_); (case h1 => walk_at "get"); (case h2 => first | exact rfl | exact at0 | exact atI_nat (by assumption) | exact atI_nat (j := 0) (by assumption) | exact atI_nat (j := 1) (by assumption) | exact atI_nat (j := 2) (by assumption)))
  | ((with_reducible refine' k_lenT ?h1 ?_); (case h1 => walk_at "get"))
  | ((with_reducible refine' k_lenL ?h1 ?_); (case h1 => walk_at "get"))
  | (with_reducible refine k_inS ?_)
  | (with_reducible refine k_dget ?_)
  | (with_reducible refine k_dnin ?_)
  | (with_reducible refine k_din ?_)
  | (with_reducible refine k_dput ?_)
  | (with_reducible refine k_sl ?_)
  | (with_reducible refine k_noP ?_)
  | (with_reducible refine k_part ?_)
  | (with_reducible refine k_partI ?_)
  | (with_reducible refine k_iL ?_)
  | (with_reducible refine k_iT ?_)
  | (with_reducible refine k_iR1 ?_)
  | (with_reducible refine k_iS ?_)
  | (with_reducible refine k_iSE ?_)
  | (with_reducible refine k_for ?_)
  | (with_reducible refine k_lc ?_)
  | ((with_reducible refine' k_dgetE ?h1 ?h2 ?_); (case h1 => walk_at "get"); (case h2 => assumption))
  | ((with_reducible refine' k_dninE ?h1 ?_); (case h1 => walk_at "get"))
  | ((with_reducible refine' k_dinE ?h1 ?_); (case h1 => walk_at "get"))
  | ((with_reducible refine' k_iLE ?h1 ?_); (case h1 => walk_at "get"))
  | ((with_reducible refine' k_iTE ?h1 ?_); (case h1 => walk_at "get"))
  | ((with_reducible refine' k_slT1 ?h1 ?h2 ?_); (case h1 => assumption); (case h2 => walk_at "get"); intro _ _ _ _ _ _ _)
  | ((with_reducible refine' k_slTd ?h1 ?h2 ?_); (case h1 => assumption); (case h2 => walk_at "get"); intro _ _ _ _ _ _ _)
  | ((with_reducible refine' k_slTt ?h1 ?h2 ?_); (case h1 => assumption); (case h2 => walk_at "get"); intro _ _ _ _ _ _ _)
  | ((with_reducible refine' k_tup ?h1 ?h2 ?_); (case h1 => assumption); (case h2 => exact len_ok rfl); intro _ _ _ _ _ _ _ _)
  | (with_reducible refine k_ninS ?_)
  | (with_reducible refine k_brk ?_)
  | (with_reducible refine k_cnt ?_)
  | ((with_reducible refine' k_bk (f := ?h7) (r := ?h8) (c := ?h9) ?_); fail_if_success (case h9 => exact fun _ _ => True))
  | ((with_reducible refine' k_ct (f := ?h7) (r := ?h8) (b := ?h9) ?_); fail_if_success (case h9 => exact fun _ _ => True))
  | walk_at "st2")
local macro_rules | `(tactic| walk_at "s1") => `(tactic| (with_reducible refine' k_lstC ?h1 ?h2 ?_); (case h1 => assumption); (case h2 => exact len_ok rfl); intro _ _ _ _ _ _ _ _)
local macro_rules | `(tactic| walk_at "st") => `(tactic| first
  | walk_at "s0"
  | walk_at "s1"
  | (with_reducible refine ifT (by decide +kernel) ?_)
  | (with_reducible refine ifF (by decide +kernel) ?_))
local macro_rules | `(tactic| walk_at "gi") => `(tactic| repeat (first | walk_at "s0" | walk_at "s1"))
local macro_rules | `(tactic| walk_at "gm") => `(tactic| repeat (first | walk_at "s0" | (with_reducible refine ifT (by decide +kernel) ?_) | (with_reducible refine ifF (by decide +kernel) ?_)))
local macro_rules | `(tactic| walk_at "go") => `(tactic| repeat (walk_at "st"))
namespace Rk
open PySem PySem.Spec PyProof.Rows L2
variable {P : Program} {w : World} {K : PySem.W.Frag} {mg : Str → Option Value} {base : Heap}
def oStr : Option Str → V
  | none => .non
  | some s => .str s
def spLawWithin : Sp := SpD (Str × Str) (fun _ => No) (fun a vs J _ => ∃ v1 v2, vs = [v1, v2] ∧ v1 = .str a.1 ∧ v2 = .str a.2 ∧ IsRt a.1 ∧ IsRt a.2) (fun a v _ _ => v = .bl (wi a.1 a.2))
def lwF (two : Str) (c : Nat) : Bool := !decide (V.str ⟨#[c]⟩ = V.str "-") && !hasS ⟨#[c]⟩ two
theorem lw_eq {a b : Str} (ha : IsRt a) (hb : IsRt b) : decide (((a.cps.toList.filter (lwF b)).length : Int) = 0) = wi a b := by
  rcases ha with rfl | rfl | rfl | rfl <;> rcases hb with rfl | rfl | rfl | rfl <;> decide +kernel
theorem rt_size {a : Str} (ha : IsRt a) : a.cps.size ≤ 2 := by
  rcases ha with rfl | rfl | rfl | rfl <;> decide +kernel
theorem ok_LawWithin (T : Good K mg) : FnOk P w K mg base CX0 1 (He.ga K "_law_within") (fdOf K (He.ga K "_law_within")) ["_law_one", "_law_two"] spLawWithin := by
  refine sp_ok (k := 0) (D_sLawWithin T) S_sLawWithin (fun a vs J H h => by obtain ⟨_, _, rfl, _⟩ := h; rfl) (fun cdv Ar outer s H0 vs E hr => ?_)
  refine ⟨_, (pss_one (ps_ret (pe_cmpR op_eq (pe_callB (cLen K) (by rfl) (f_len T) (show bootBuiltins "len" = some (.builtin "len") by decide +kernel) (pa_cons (pe_lc (own := [("_law_letter", 2)]) (by rfl) S_sLawWithin.nd (pi_str (pv 0)) (blkOk_by (own := [("_law_letter", 2)]) (N := ["_law_one", "_law_two", "_law_letter"]) (sc := defScope sLawWithin) (by decide +kernel)) (fun _ _ _ _ _ => (pg_name (i := 2) S_sLawWithin.nd rfl (by first | exact Or.inl rfl | exact Or.inr rfl))) (fun _ _ _ _ _ => pts_one (PW.pt (pw_and (pt_cmpR op_ne (pv 2) pe_str (nomark _)) (pw_and1 (pt_cmpR o_ninS (pv 2) (pv 1) (by rfl)))))) (fun _ _ _ _ _ => (pv 2))) pa_nil)) pe_int (nomark _)))), ?_⟩
  rintro ⟨x, y⟩ J0 Q G ⟨_, _, rfl, rfl, rfl, hx, hy⟩ kk
  dsimp only at *
  walk_at "go"
  have hsz := rt_size hx
  refine k_lcS G (by omega) (fun i acc _ => acc.length = ((x.cps.toList.take i).filter (lwF y)).length) (fun _ _ _ _ _ h => h) rfl ?_ ?_
  · intro i c acc J1 H1 Ny Nn hz hl ej g inv hyy hn
    have hz2 : x.cps.toList[i]? = some c := by simpa using hz
    have e3 : x.cps.toList.take (i + 1) = x.cps.toList.take i ++ [c] := by rw [List.take_add_one, hz2]; rfl
    walk_at "go"
    refine ⟨rfl, ?_⟩
    walk_at "go"
    have fin : ∀ b, b = lwF y c → if b = true then tVar 2 (List.set (wipe (start ["_law_one", "_law_two", "_law_letter"] [V.str x, V.str y]) [2]) 2 (some (V.str ⟨#[c]⟩))) H1 Ny else Nn H1 := by
      intro b hb
      refine if2 (fun q => ?_) (fun q => ?_)
      · walk_at "go"
        refine hyy _ _ _ (Gr.refl g.jh) ?_
        rw [e3, List.filter_append, List.length_append, List.length_append, inv]
        simp [← hb, q]
      · refine hn _ _ (Gr.refl g.jh) ?_
        rw [e3, List.filter_append, List.length_append, inv]
        simp [← hb, q]
    refine if2 (fun q => ?_) (fun q => ?_)
    · walk_at "go"
      exact fin _ (by unfold lwF; rw [q]; rfl)
    · exact fin _ (by unfold lwF; rw [q]; rfl)
  · intro D acc J' H' hD ej hD' g1 g hl inv
    walk_at "go"
    refine kk _ _ _ g ?_
    rw [← lw_eq hx hy, inv, List.take_of_length_le (by simp)]
    simp
end Rk
namespace Rk
open PySem PySem.Spec PyProof.Rows L2
variable {P : Program} {w : World} {K : PySem.W.Frag} {mg : Str → Option Value} {base : Heap}
def AllRt (t : Ty) : Prop := ∀ r ∈ t, IsRt r
theorem AllRt.drop {t : Ty} (h : AllRt t) (n : Nat) : AllRt (t.drop n) := fun r hr => h r (List.mem_of_mem_drop hr)
def spLC (n : Nat) : Sp := SpD (Ty × Ty) (fun _ => No) (fun a vs J _ => ∃ v1 v2, vs = [v1, v2] ∧ rTy a.1 v1 J ∧ rTy a.2 v2 J ∧ AllRt a.1 ∧ AllRt a.2 ∧ a.1.length ≤ n) (fun a v _ _ => v = .bl (conv a.1 a.2))
theorem step_LawConverts (T : Good K mg) (n : Nat) {sp0 : Sp} (G0 : FnOk P w K mg base CX0 (1 + n) (He.ga K "_law_converts") (fdOf K (He.ga K "_law_converts")) ["_law_one", "_law_two"] sp0) (h0 : ∀ vs H Q E, 0 < n → spLC (n - 1) vs H Q E → sp0 vs H Q E) : FnOk P w K mg base CX0 (1 + n + 1) (He.ga K "_law_converts") (fdOf K (He.ga K "_law_converts")) ["_law_one", "_law_two"] (spLC n) := by
  refine sp_ok (k := 1 + n) (D_sLawConverts T) S_sLawConverts (fun a vs J H h => by obtain ⟨_, _, rfl, _⟩ := h; rfl) (fun cdv Ar outer s H0 vs E hr => ?_)
  refine ⟨_, (pss_cons (ps_if (pt_cmpR op_ne (pe_callB (cLen K) (by rfl) (f_len T) (show bootBuiltins "len" = some (.builtin "len") by decide +kernel) (pa_cons (pv 0) pa_nil)) (pe_callB (cLen K) (by rfl) (f_len T) (show bootBuiltins "len" = some (.builtin "len") by decide +kernel) (pa_cons (pv 1) pa_nil)) (nomark _)) (pss_one (ps_ret pe_bl)) pss_nil)
  (pss_cons (ps_if (pt_cmpR op_eq (pe_callB (cLen K) (by rfl) (f_len T) (show bootBuiltins "len" = some (.builtin "len") by decide +kernel) (pa_cons (pv 0) pa_nil)) pe_int (nomark _)) (pss_one (ps_ret pe_bl)) pss_nil)
  (pss_cons (ps_if (pt_not (pt_val (pe_call (ok_LawWithin T) (hr.mono (by omega)) rfl (g_law_within T) (D_sLawWithin T).kp (B_sLawWithin T) .nil pass0 (pa_cons (pe_ix (xT K) (pv 1) pe_int (fun _ _ => rfl)) (pa_cons (pe_ix (xT K) (pv 0) pe_int (fun _ _ => rfl)) pa_nil))))) (pss_one (ps_ret pe_bl)) pss_nil)
  (pss_cons (ps_if (PW.pt (pw_and (pt_cmpR o_inS pe_str (pe_ix (xT K) (pv 1) pe_int (fun _ _ => rfl)) (by rfl)) (pw_and1 (pt_not (pt_val (pe_call G0 (hr.mono (by omega)) rfl (g_law_converts T) (D_sLawConverts T).kp (B_sLawConverts T) .nil pass0 (pa_cons (pe_slice (sTA K) (pv 0) (po_some pe_int) po_none) (pa_cons (pe_slice (sTA K) (pv 1) (po_some pe_int) po_none) pa_nil)))))))) (pss_one (ps_ret pe_bl)) pss_nil)
  (pss_one (ps_ret (pe_or (pe_cmpR o_ninS pe_str (pe_ix (xT K) (pv 1) pe_int (fun _ _ => rfl)) (by rfl)) (pe_one (pe_call G0 (hr.mono (by omega)) rfl (g_law_converts T) (D_sLawConverts T).kp (B_sLawConverts T) .nil pass0 (pa_cons (pe_slice (sTA K) (pv 1) (po_some pe_int) po_none) (pa_cons (pe_slice (sTA K) (pv 0) (po_some pe_int) po_none) pa_nil))))))))))), ?_⟩
  rintro ⟨x, y⟩ J0 Q G ⟨_, _, rfl, ⟨a, rfl, ha, hla⟩, ⟨b, rfl, hb, hlb⟩, rx, ry, hn⟩ kk
  dsimp only at *
  walk_at "go"
  rw [List.length_map, List.length_map]
  refine if2 (fun q => ?_) (fun q => ?_)
  · walk_at "go"
    refine kk _ _ _ G ?_
    have : ¬ x.length = y.length := by simp at q; omega
    simp [conv, this]
  · have hl : x.length = y.length := by simp at q; omega
    walk_at "go"
    rw [List.length_map]
    refine if2 (fun q => ?_) (fun q => ?_)
    · walk_at "go"
      refine kk _ _ _ G ?_
      have hx : x = [] := by simpa using q
      subst hx
      simp at hl
      exact congrArg V.bl (by simp [conv, cvN, ← hl])
    · cases x with
      | nil => simp at q
      | cons x xs =>
        cases y with
        | nil => simp at hl
        | cons y ys =>
          have hl2 : xs.length = ys.length := by simpa using hl
          have hn0 : 0 < n := by simp at hn; omega
          have hx : IsRt x := rx x List.mem_cons_self
          have hy : IsRt y := ry y List.mem_cons_self
          rw [conv_cons_eq hl2] at kk
          walk_at "go"
          unfold spLawWithin
          refine use_sp (by assumption) (y, x) ⟨_, _, rfl, rfl, rfl, hy, hx⟩ (fun _ z => z.elim) ?_
          rintro v J1 H1 e1 g1 G1 rfl
          walk_at "go"
          refine if2 (fun q => ?_) (fun q => ?_)
          · walk_at "go"
            refine kk _ _ _ G1 ?_
            have : wi y x = false := by simpa using q
            simp [this]
          · have hwi : wi y x = true := by simpa using q
            rw [hwi] at kk
            walk_at "go"
            have rec1 : ∀ {J H : Hp} {p1 p2 : Addr} {Q : VK} {E : XK} {u v : Ty}, Gr No J0 H0 J H → J p1 = some (.tup (u.map V.str)) → J p2 = some (.tup (v.map V.str)) → AllRt u → AllRt v → u.length + 1 = (x :: xs).length → v.length ≤ 6 → (∀ J' H', Ex J J' → Gr No J0 H0 J' H' → Q (.bl (conv u v)) H') → sp0 [.ref p1, .ref p2] H Q E := by
              intro J H p1 p2 Q E u v g h1 h2 r1 r2 l1 l2 k
              refine h0 _ _ _ _ hn0 ?_
              unfold spLC
              refine (use_sp g (u, v) ⟨_, _, rfl, ⟨_, rfl, h1, by show u.length ≤ 6; simp at l1 hla; omega⟩, ⟨_, rfl, h2, l2⟩, r1, r2, by simp at l1 hn; show u.length ≤ n - 1; omega⟩ (fun _ z => z.elim) ?_)
              rintro v J1 H1 e1 g1 G1 rfl
              exact k _ _ e1 G1
            refine if2 (fun q => ?_) (fun q => ?_)
            · have qr : rd y = true := q
              walk_at "go"
              refine rec1 (u := xs) (v := ys) (by assumption) (by walk_at "get") (by walk_at "get") (fun r hr => rx r (List.mem_cons_of_mem _ hr)) (fun r hr => ry r (List.mem_cons_of_mem _ hr)) rfl (by simp at hlb; omega) ?_
              intro J8 H8 e8 G8
              walk_at "go"
              refine if2 (fun q => ?_) (fun q => ?_)
              · walk_at "go"
                have q2 : conv xs ys = false := by simpa using q
                exact kk _ _ _ G8 (by rw [q2, qr]; rfl)
              · have q2 : conv xs ys = true := by simpa using q
                walk_at "go"
                refine if2 (fun qw => ?_) (fun qw => ?_)
                · walk_at "go"
                  have qw2 : wr y = false := by simpa [wr] using qw
                  refine kk _ _ _ (by assumption) (by rw [qw2]; simp [q2])
                · have qw2 : wr y = true := by simpa [wr] using qw
                  walk_at "go"
                  refine rec1 (u := ys) (v := xs) (by assumption) (by walk_at "get") (by walk_at "get") (fun r hr => ry r (List.mem_cons_of_mem _ hr)) (fun r hr => rx r (List.mem_cons_of_mem _ hr)) (by simp; omega) (by simp at hla; omega) ?_
                  intro J9 H9 e9 G9
                  walk_at "go"
                  exact kk _ _ _ G9 (by rw [qw2]; simp [q2])
            · have qr : rd y = false := q
              refine ifF rfl ?_
              walk_at "go"
              refine if2 (fun qw => ?_) (fun qw => ?_)
              · walk_at "go"
                have qw2 : wr y = false := by simpa [wr] using qw
                refine kk _ _ _ (by assumption) (by rw [qw2]; simp [qr])
              · have qw2 : wr y = true := by simpa [wr] using qw
                walk_at "go"
                refine rec1 (u := ys) (v := xs) (by assumption) (by walk_at "get") (by walk_at "get") (fun r hr => ry r (List.mem_cons_of_mem _ hr)) (fun r hr => rx r (List.mem_cons_of_mem _ hr)) (by simp; omega) (by simp at hla; omega) ?_
                intro J9 H9 e9 G9
                walk_at "go"
                exact kk _ _ _ G9 (by rw [qw2]; simp [qr])
theorem ok_LawConvertsN (T : Good K mg) : ∀ n : Nat, FnOk P w K mg base CX0 (1 + n + 1) (He.ga K "_law_converts") (fdOf K (He.ga K "_law_converts")) ["_law_one", "_law_two"] (spLC n)
  | 0 => step_LawConverts T 0 (sp0 := fun _ _ _ _ => False) ok_never fun _ _ _ _ h => absurd h (Nat.lt_irrefl 0)
  | n + 1 => step_LawConverts T (n + 1) (ok_LawConvertsN T n) fun _ _ _ _ _ h => h
abbrev spLawConverts : Sp := spLC 6
theorem ok_LawConverts (T : Good K mg) : FnOk P w K mg base CX0 8 (He.ga K "_law_converts") (fdOf K (He.ga K "_law_converts")) ["_law_one", "_law_two"] spLawConverts := ok_LawConvertsN T 6
end Rk
namespace Rk
open PySem PySem.Spec PyProof.Rows L2
variable {P : Program} {w : World} {K : PySem.W.Frag} {mg : Str → Option Value} {base : Heap}
def TysRt (ts : Tys) : Prop := ∀ p ∈ ts, AllRt p.2 ∧ p.2.length ≤ 6
theorem lookup_mem {α : Type} {x : Str} {d : α} : ∀ {ts : List (Str × α)}, ts.lookup x = some d → (x, d) ∈ ts
  | [], h => by simp at h
  | (y, e) :: ts, h => by
    by_cases q : x = y
    · subst q
      simp [List.lookup] at h
      subst h
      exact List.mem_cons_self
    · have : (x == y) = false := beq_eq_false_iff_ne.mpr q
      simp [List.lookup, this] at h
      exact List.mem_cons_of_mem _ (lookup_mem h)
theorem TysRt.at {ts : Tys} {x : Str} {t : Ty} (h : TysRt ts) (e : ts.lookup x = some t) : AllRt t ∧ t.length ≤ 6 := h _ (lookup_mem e)
abbrev spLawReached : Sp := SpD (Tys × Str × Nat) (fun _ => No) (fun a vs J _ => ∃ v1 v2, vs = [v1, v2] ∧ rDic rTy a.1 v1 J ∧ rPl a.2 v2 J) (fun a v _ _ => v = oStr (reached a.1 a.2.1 a.2.2))
theorem ok_LawReached (T : Good K mg) : FnOk P w K mg base CX0 1 (He.ga K "_law_reached") (fdOf K (He.ga K "_law_reached")) ["_law_types", "_law_place"] spLawReached := by
  refine sp_ok (k := 0) (D_sLawReached T) S_sLawReached (fun a vs J H h => by obtain ⟨_, _, rfl, _⟩ := h; rfl) (fun cdv Ar outer s H0 vs E hr => ?_)
  refine ⟨_, (pss_cons (ps_set (i := 2) S_sLawReached.nd rfl (by first | exact Or.inl rfl | exact Or.inr rfl) (pe_ix (xT K) (pv 1) pe_int (fun _ _ => rfl)))
  (pss_cons (ps_if (pt_cmp (pc_dnotin (hu_of hr) (pv 2) (pv 0))) (pss_one (ps_ret pe_str)) pss_nil)
  (pss_cons (ps_if (pt_cmpR op_ge (pe_ix (xT K) (pv 1) pe_int (fun _ _ => rfl)) (pe_callB (cLen K) (by rfl) (f_len T) (show bootBuiltins "len" = some (.builtin "len") by decide +kernel) (pa_cons (pe_dget (hu_of hr) (pv 0) (pv 2) (fun _ _ => rfl)) pa_nil)) (nomark _)) (pss_one (ps_ret pe_str)) pss_nil)
  (pss_cons (ps_if (pt_cmpR op_gt (pe_callB (cLen K) (by rfl) (f_len T) (show bootBuiltins "len" = some (.builtin "len") by decide +kernel) (pa_cons (pe_lc (own := [("_law_right_here", 3)]) (by rfl) S_sLawReached.nd (piT K (pe_slice (sTA K) (pe_dget (hu_of hr) (pv 0) (pv 2) (fun _ _ => rfl)) po_none (po_some (pe_ix (xT K) (pv 1) pe_int (fun _ _ => rfl))))) (blkOk_by (own := [("_law_right_here", 3)]) (N := ["_law_types", "_law_place", "_law_x", "_law_right_here"]) (sc := defScope sLawReached) (by decide +kernel)) (fun _ _ _ _ _ => (pg_name (i := 3) S_sLawReached.nd rfl (by first | exact Or.inl rfl | exact Or.inr rfl))) (fun _ _ _ _ _ => pts_one (pt_cmpR o_ninS pe_str (pv 3) (by rfl))) (fun _ _ _ _ _ => (pv 3))) pa_nil)) pe_int (nomark _)) (pss_one (ps_ret pe_str)) pss_nil)
  (pss_one (ps_ret pe_non)))))), ?_⟩
  rintro ⟨ts, x, k⟩ J0 Q G ⟨v1, v2, rfl, ⟨a, kvs, rfl, ha, he⟩, ⟨b, rfl, hb⟩⟩ kk
  dsimp only at *
  walk_at "go"
  cases e : ts.lookup x with
  | none =>
    have ev := he.none e
    refine ifT (by rw [ev]; rfl) ?_
    walk_at "go"
    exact kk _ _ _ G (by simp [reached, e, oStr])
  | some t =>
    obtain ⟨v, ev, c, rfl, hc, hl6⟩ := he.some e
    refine ifF (by rw [ev]; rfl) ?_
    walk_at "go"
    rw [List.length_map]
    refine if2 (fun q => ?_) (fun q => ?_)
    · walk_at "go"
      have q2 : t.length ≤ k := by simp at q; omega
      exact kk _ _ _ G (by simp [reached, e, oStr, q2])
    · have q2 : ¬ t.length ≤ k := by simp at q; omega
      walk_at "go"
      refine k_lcT (by assumption) (by assumption) (by simp; omega) (fun i acc _ => acc.length = (((t.take k).take i).filter (fun r => !rd r)).length) (fun _ _ _ _ _ h => h) rfl ?_ ?_
      · intro i z acc J1 H1 Ny Nn hz hl ej g inv hy hn
        rw [← List.map_take, List.getElem?_map] at hz
        cases e2 : (t.take k)[i]? with
        | none => rw [e2] at hz; cases hz
        | some r =>
          rw [e2] at hz
          cases hz
          walk_at "go"
          refine ⟨rfl, ?_⟩
          walk_at "go"
          have e3 : (t.take k).take (i + 1) = (t.take k).take i ++ [r] := by rw [List.take_add_one, e2]; rfl
          refine if2 (fun q => ?_) (fun q => ?_)
          · walk_at "go"
            refine hy _ _ _ (Gr.refl g.jh) ?_
            have q : rd r = false := by simpa [rd] using q
            rw [e3, List.filter_append, List.length_append, List.length_append, inv]
            simp [q]
          · refine hn _ _ (Gr.refl g.jh) ?_
            have q : rd r = true := by simpa [rd] using q
            rw [e3, List.filter_append, List.length_append, inv]
            simp [q]
      · intro D acc J' H' hD ej hD' g1 g hl inv
        walk_at "go"
        rw [List.take_of_length_le (by simp)] at inv
        have q3 : (0 < acc.length) ↔ ¬ ((t.take k).all rd = true) := by
          rw [inv, List.length_pos_iff, Ne, List.filter_eq_nil_iff, List.all_eq_true]
          simp
        have q9 : ∀ b, decide ((0 : Int) < (acc.length : Int)) = b → (b = true ↔ 0 < acc.length) := fun b h => by subst h; simp
        refine if2 (fun q => ?_) (fun q => ?_)
        · walk_at "go"
          have q4 : (t.take k).all rd = false := by
            have := q3.mp ((q9 _ q).mp rfl)
            simpa using this
          exact kk _ _ _ g (by simp [reached, e, oStr, q2, q4])
        · walk_at "go"
          have q4 : (t.take k).all rd = true := by
            by_cases z : (t.take k).all rd = true
            · exact z
            · exact absurd ((q9 _ q).mpr (q3.mpr z)) (by decide)
          exact kk _ _ _ g (by simp [reached, e, oStr, q2, q4])
/-- where the lengths agree, it converts -/
def CvOk (ts : Tys) (u : Ty) : Src → Prop
  | .val x k => ((tyOf ts x).drop (k + 1)).length = u.length → conv ((tyOf ts x).drop (k + 1)) u = true
  | .adr x k => ((tyOf ts x).drop k).length = u.length → conv ((tyOf ts x).drop k) u = true
  | _ => True
abbrev spLawSourceFault : Sp := SpD (Tys × Src × Ty) (fun _ => No) (fun a vs J _ => ∃ v1 v2 v3 v4, vs = [v1, v2, v3, v4] ∧ rDic rTy a.1 v1 J ∧ rSrc a.2.1 v2 J ∧ rTy a.2.2 v3 J ∧ TysRt a.1 ∧ AllRt a.2.2 ∧ CvOk a.1 a.2.2 a.2.1) (fun a v _ _ => v = oStr (srcF a.1 a.2.1 a.2.2))
theorem reached_none {ts : Tys} {x : Str} {k : Nat} (h : reached ts x k = none) : ∃ t, ts.lookup x = some t ∧ k < t.length ∧ (t.take k).all rd = true := by
  unfold reached at h
  cases e : ts.lookup x with
  | none => rw [e] at h; cases h
  | some t =>
    rw [e] at h
    dsimp only at h
    by_cases q : t.length ≤ k
    · rw [if_pos q] at h; cases h
    · rw [if_neg q] at h
      by_cases q2 : (t.take k).all rd = true
      · exact ⟨t, rfl, by omega, q2⟩
      · rw [if_neg q2] at h; cases h
theorem drop_at {t : Ty} {k : Nat} (h : k < t.length) : ((t.map V.str).drop k)[0]? = some (V.str (t.getD k "")) := by
  rw [List.getElem?_drop, Nat.add_zero, List.getElem?_map, List.getElem?_eq_getElem h]
  simp [List.getD, List.getElem?_eq_getElem h]
theorem oStr_ne {e : Str} : (!decide (oStr (some e) = V.non)) = true := by simp [oStr]
theorem ok_LawSourceFault (T : Good K mg) : FnOk P w K mg base CX0 9 (He.ga K "_law_source_fault") (fdOf K (He.ga K "_law_source_fault")) ["_law_types", "_law_source_here", "_law_value", "_law_extra"] spLawSourceFault := by
  refine sp_ok (k := 8) (D_sLawSourceFault T) S_sLawSourceFault (fun a vs J H h => by obtain ⟨_, _, _, _, rfl, _⟩ := h; rfl) (fun cdv Ar outer s H0 vs E hr => ?_)
  refine ⟨_, (pss_cons (ps_if (PW.pt (pw_or (pt_cmpR op_eq (pe_ix (xT K) (pv 1) pe_int (fun _ _ => rfl)) pe_str (nomark _)) (pw_or1 (pt_cmpR op_eq (pe_ix (xT K) (pv 1) pe_int (fun _ _ => rfl)) pe_str (nomark _))))) (pss_cons (ps_if (pt_cmpR op_eq (pe_cmpR op_eq (pe_ix (xT K) (pv 1) pe_int (fun _ _ => rfl)) pe_str (nomark _)) (pe_cmpR op_eq (pe_callB (cLen K) (by rfl) (f_len T) (show bootBuiltins "len" = some (.builtin "len") by decide +kernel) (pa_cons (pv 2) pa_nil)) pe_int (nomark _)) (nomark _)) (pss_one (ps_ret pe_non)) pss_nil)
  (pss_one (ps_ret pe_str))) pss_nil)
  (pss_cons (ps_set (i := 4) S_sLawSourceFault.nd rfl (by first | exact Or.inl rfl | exact Or.inr rfl) (pe_call (ok_LawReached T) (hr.mono (by omega)) rfl (g_law_reached T) (D_sLawReached T).kp (B_sLawReached T) .nil pass0 (pa_cons (pv 0) (pa_cons (pe_ix (xT K) (pv 1) pe_int (fun _ _ => rfl)) pa_nil))))
  (pss_cons (ps_if (pt_cmpR o_notN (pv 4) pe_non (nomark _)) (pss_one (ps_ret (pv 4))) pss_nil)
  (pss_cons (ps_set (i := 5) S_sLawSourceFault.nd rfl (by first | exact Or.inl rfl | exact Or.inr rfl) (pe_slice (sTA K) (pe_dget (hu_of hr) (pv 0) (pe_ix (xT K) (pe_ix (xT K) (pv 1) pe_int (fun _ _ => rfl)) pe_int (fun _ _ => rfl)) (fun _ _ => rfl)) (po_some (pe_ix (xT K) (pe_ix (xT K) (pv 1) pe_int (fun _ _ => rfl)) pe_int (fun _ _ => rfl))) po_none))
  (pss_cons (ps_if (pt_cmpR op_eq (pe_ix (xT K) (pv 1) pe_int (fun _ _ => rfl)) pe_str (nomark _)) (pss_cons (ps_if (pt_cmpR o_ninS pe_str (pe_ix (xT K) (pv 5) pe_int (fun _ _ => rfl)) (by rfl)) (pss_one (ps_ret pe_str)) pss_nil)
  (pss_one (ps_set (i := 5) S_sLawSourceFault.nd rfl (by first | exact Or.inl rfl | exact Or.inr rfl) (pe_slice (sTA K) (pv 5) (po_some pe_int) po_none)))) pss_nil)
  (pss_cons (ps_if (pt_cmpR op_ne (pe_callB (cLen K) (by rfl) (f_len T) (show bootBuiltins "len" = some (.builtin "len") by decide +kernel) (pa_cons (pv 5) pa_nil)) (pe_callB (cLen K) (by rfl) (f_len T) (show bootBuiltins "len" = some (.builtin "len") by decide +kernel) (pa_cons (pv 2) pa_nil)) (nomark _)) (pss_one (ps_ret pe_str)) pss_nil)
  (pss_cons (ps_if (PW.pt (pw_and (pt_not (pt_val (pe_call (ok_LawConverts T) (hr.mono (by omega)) rfl (g_law_converts T) (D_sLawConverts T).kp (B_sLawConverts T) .nil pass0 (pa_cons (pv 5) (pa_cons (pv 2) pa_nil))))) (pw_and1 (pt_cmpR (oNinSeq K) (pe_tup (pa_cons (pv 5) (pa_cons (pv 2) pa_nil))) (pv 3) (by rfl))))) (pss_one (ps_ret pe_str)) pss_nil)
  (pss_one (ps_ret pe_non))))))))), ?_⟩
  rintro ⟨ts, s, u⟩ J0 Q G ⟨v1, v2, v3, v4, rfl, ⟨a, kvs, rfl, ha, he⟩, hs, ⟨b, rfl, hb, hl6⟩, hts, hu, hcv⟩ kk
  dsimp only at *
  cases s with
  | num n =>
    obtain ⟨c, rfl, hc⟩ := hs
    walk_at "go"
    rw [List.length_map]
    refine if2 (fun q => ?_) (fun q => ?_)
    · walk_at "go"
      have q2 : u.length = 0 := by simpa using q
      exact kk _ _ _ G (by simp [srcF, q2, oStr])
    · walk_at "go"
      have q2 : ¬ u.length = 0 := by simpa using q
      exact kk _ _ _ G (by simp only [srcF, if_neg q2, oStr])
  | null =>
    obtain ⟨c, rfl, hc⟩ := hs
    walk_at "go"
    rw [List.length_map]
    refine if2 (fun q => ?_) (fun q => ?_)
    · walk_at "go"
      have q2 : ¬ u.length = 0 := by
        intro z
        rw [z] at q
        exact absurd q (by decide +kernel)
      exact kk _ _ _ G (by simp only [srcF, if_neg q2, oStr])
    · walk_at "go"
      have q2 : u.length = 0 := by
        by_cases z : u.length = 0
        · exact z
        · have e1 : decide (V.int (u.length : Int) = V.int 0) = false := by simpa using z
          rw [e1] at q
          exact absurd q (by decide +kernel)
      exact kk _ _ _ G (by simp only [srcF, if_pos q2, oStr])
  | val x k =>
    obtain ⟨c, d, rfl, hc, hd⟩ := hs
    walk_at "go"
    refine use_sp (by assumption) (ts, x, k) ⟨_, _, rfl, ⟨_, _, rfl, ha, he⟩, ⟨_, rfl, hd⟩⟩ (fun _ z => z.elim) ?_
    rintro v J1 H1 e1 g1 G1 hv
    dsimp only at hv
    subst hv
    cases er : reached ts x k with
    | some e =>
      walk_at "go"
      refine ifT oStr_ne ?_
      walk_at "go"
      exact kk _ _ _ G1 (by simp only [srcF, er])
    | none =>
      obtain ⟨t, et, hk, hall⟩ := reached_none er
      obtain ⟨v, ev, c', rfl, hc', htl⟩ := he.some et
      have eto : tyOf ts x = t := by unfold tyOf; rw [et]; rfl
      have hz := drop_at hk
      walk_at "go"
      simp only [CvOk, eto] at hcv
      refine if2 (fun q => ?_) (fun q => ?_)
      · walk_at "go"
        have q2 : ¬ rd (t.getD k "") = true := by simpa [rd] using q
        exact kk _ _ _ (by assumption) (by simp only [srcF, er, eto, if_neg q2, oStr])
      · have q2 : rd (t.getD k "") = true := by simpa [rd] using q
        walk_at "go"
        have hd2 : ((t.map V.str).drop k).drop 1 = (t.drop (k + 1)).map V.str := by simp [List.map_drop]
        rw [hd2, List.length_map, List.length_map]
        refine if2 (fun q3 => ?_) (fun q3 => ?_)
        · have q4 : ¬ (t.drop (k + 1)).length = u.length := by simp at q3; simp; omega
          walk_at "go"
          exact kk _ _ _ (by assumption) (by simp only [srcF, er, eto, if_pos q2, cvF, if_neg q4, oStr])
        · have q4 : (t.drop (k + 1)).length = u.length := by simp at q3; simp; omega
          walk_at "go"
          refine use_sp (by assumption) (t.drop (k + 1), u) ⟨_, _, rfl, ⟨_, rfl, by rw [← hd2]; assumption, by simp; omega⟩, ⟨_, rfl, by walk_at "get", hl6⟩, (hts.at et).1.drop _, hu, by simp; omega⟩ (fun _ z => z.elim) ?_
          rintro v J5 H5 e5 g5 G5 hv
          dsimp only at hv
          subst hv
          have hcv' := hcv q4
          rw [hcv']
          walk_at "go"
          exact kk _ _ _ G5 (by simp only [srcF, er, eto, if_pos q2, cvF, if_pos q4, if_pos hcv', oStr])
  | adr x k =>
    obtain ⟨c, d, rfl, hc, hd⟩ := hs
    walk_at "go"
    refine use_sp (by assumption) (ts, x, k) ⟨_, _, rfl, ⟨_, _, rfl, ha, he⟩, ⟨_, rfl, hd⟩⟩ (fun _ z => z.elim) ?_
    rintro v J1 H1 e1 g1 G1 hv
    dsimp only at hv
    subst hv
    cases er : reached ts x k with
    | some e =>
      walk_at "go"
      refine ifT oStr_ne ?_
      walk_at "go"
      exact kk _ _ _ G1 (by simp only [srcF, er])
    | none =>
      obtain ⟨t, et, hk, hall⟩ := reached_none er
      obtain ⟨v, ev, c', rfl, hc', htl⟩ := he.some et
      have eto : tyOf ts x = t := by unfold tyOf; rw [et]; rfl
      have hz := drop_at hk
      walk_at "go"
      simp only [CvOk, eto] at hcv
      have hd2 : (t.map V.str).drop k = (t.drop k).map V.str := by simp [List.map_drop]
      rw [hd2, List.length_map, List.length_map]
      refine if2 (fun q3 => ?_) (fun q3 => ?_)
      · have q4 : ¬ (t.drop k).length = u.length := by simp at q3; simp; omega
        walk_at "go"
        exact kk _ _ _ (by assumption) (by simp only [srcF, er, eto,  cvF, if_neg q4, oStr])
      · have q4 : (t.drop k).length = u.length := by simp at q3; simp; omega
        walk_at "go"
        refine use_sp (by assumption) (t.drop k, u) ⟨_, _, rfl, ⟨_, rfl, by rw [← hd2]; assumption, by simp; omega⟩, ⟨_, rfl, by walk_at "get", hl6⟩, (hts.at et).1.drop _, hu, by simp; omega⟩ (fun _ z => z.elim) ?_
        rintro v J5 H5 e5 g5 G5 hv
        dsimp only at hv
        subst hv
        have hcv' := hcv q4
        rw [hcv']
        walk_at "go"
        exact kk _ _ _ G5 (by simp only [srcF, er, eto,  cvF, if_pos q4, if_pos hcv', oStr])
end Rk
namespace Rk
open PySem PySem.Spec PyProof.Rows L2
variable {P : Program} {w : World} {K : PySem.W.Frag} {mg : Str → Option Value} {base : Heap}
def ArgOk (ts : Tys) (ps : List (Str × Ty)) (ss : List Src) : Prop := ss.length = ps.length ∧ ss.length ≤ 4 ∧ ∀ (i : Nat) (p : Str × Ty) (s : Src), ps[i]? = some p → ss[i]? = some s → AllRt p.2 ∧ CvOk ts (p.2.drop 1) s
def StOk (ts : Tys) (fns : List (Fn Ty)) : Stm Ty → Prop
  | .lt _ t s => AllRt t ∧ CvOk ts (t.drop 1) s
  | .pt x k s => AllRt ((tyOf ts x).drop (k + 1)) ∧ CvOk ts ((tyOf ts x).drop (k + 1)) s
  | .cl f ss => ∃ g, fnOf fns f = some g ∧ ArgOk ts g.ps ss
abbrev spLawFault : Sp := SpD (Tys × List (Fn Ty) × Stm Ty) (fun _ => No) (fun a vs J _ => ∃ v1 v2 v3 v4, vs = [v1, v2, v3, v4] ∧ rDic rTy a.1 v1 J ∧ rLst (rLFn rTy) a.2.1 v2 J ∧ rStm rTy a.2.2 v3 J ∧ TysRt a.1 ∧ StOk a.1 a.2.1 a.2.2 ∧ a.2.1.length ≤ 1000) (fun a v _ _ => v = oStr (stmF a.1 a.2.1 a.2.2))
theorem fnOf_fm {fns : List (Fn Ty)} {f : Str} {g : Fn Ty} (h : fnOf fns f = some g) : ∃ r, (fns.filterMap fun g => if g.name = f then some g.ps else none) = g.ps :: r := by
  induction fns with
  | nil => cases h
  | cons x xs ih =>
    unfold fnOf at h
    rw [List.find?_cons] at h
    by_cases e : x.name = f
    · rw [decide_eq_true e] at h
      cases h
      exact ⟨_, by rw [List.filterMap_cons, if_pos e]⟩
    · rw [decide_eq_false e] at h
      obtain ⟨r, hr⟩ := ih h
      exact ⟨r, by rw [List.filterMap_cons, if_neg e]; exact hr⟩
theorem argF_drop {ts : Tys} {ps : List (Str × Ty)} {ss : List Src} {i : Nat} {p : Str × Ty} {s : Src} (hp : ps[i]? = some p) (hs : ss[i]? = some s) :
    argF ts (ps.drop i) (ss.drop i) = match srcF ts s (p.2.drop 1) with
      | some e => some e
      | none => argF ts (ps.drop (i + 1)) (ss.drop (i + 1)) := by
  obtain ⟨h1, rfl⟩ := List.getElem?_eq_some_iff.mp hp
  obtain ⟨h2, rfl⟩ := List.getElem?_eq_some_iff.mp hs
  rw [List.drop_eq_getElem_cons h1, List.drop_eq_getElem_cons h2]
  rfl
theorem ok_LawFault (T : Good K mg) : FnOk P w K mg base CX0 10 (He.ga K "_law_fault") (fdOf K (He.ga K "_law_fault")) ["_law_types", "_law_functions", "_law_st", "_law_extra"] spLawFault := by
  refine sp_ok (k := 9) (D_sLawFault T) S_sLawFault (fun a vs J H h => by obtain ⟨_, _, _, _, rfl, _⟩ := h; rfl) (fun cdv Ar outer s H0 vs E hr => ?_)
  refine ⟨_, (pss_cons (ps_if (pt_cmpR op_eq (pe_ix (xT K) (pv 2) pe_int (fun _ _ => rfl)) pe_str (nomark _)) (pss_one (ps_ret (pe_call (ok_LawSourceFault T) (hr.mono (by omega)) rfl (g_law_source_fault T) (D_sLawSourceFault T).kp (B_sLawSourceFault T) .nil pass0 (pa_cons (pv 0) (pa_cons (pe_ix (xT K) (pv 2) pe_int (fun _ _ => rfl)) (pa_cons (pe_slice (sTA K) (pe_ix (xT K) (pv 2) pe_int (fun _ _ => rfl)) (po_some pe_int) po_none) (pa_cons (pv 3) pa_nil))))))) pss_nil)
  (pss_cons (ps_if (pt_cmpR op_eq (pe_ix (xT K) (pv 2) pe_int (fun _ _ => rfl)) pe_str (nomark _)) (pss_cons (ps_set (i := 4) S_sLawFault.nd rfl (by first | exact Or.inl rfl | exact Or.inr rfl) (pe_call (ok_LawReached T) (hr.mono (by omega)) rfl (g_law_reached T) (D_sLawReached T).kp (B_sLawReached T) .nil pass0 (pa_cons (pv 0) (pa_cons (pe_ix (xT K) (pv 2) pe_int (fun _ _ => rfl)) pa_nil))))
  (pss_cons (ps_if (pt_cmpR o_notN (pv 4) pe_non (nomark _)) (pss_one (ps_ret (pv 4))) pss_nil)
  (pss_cons (ps_set (i := 5) S_sLawFault.nd rfl (by first | exact Or.inl rfl | exact Or.inr rfl) (pe_slice (sTA K) (pe_dget (hu_of hr) (pv 0) (pe_ix (xT K) (pe_ix (xT K) (pv 2) pe_int (fun _ _ => rfl)) pe_int (fun _ _ => rfl)) (fun _ _ => rfl)) (po_some (pe_ix (xT K) (pe_ix (xT K) (pv 2) pe_int (fun _ _ => rfl)) pe_int (fun _ _ => rfl))) po_none))
  (pss_cons (ps_if (pt_cmpR o_ninS pe_str (pe_ix (xT K) (pv 5) pe_int (fun _ _ => rfl)) (by rfl)) (pss_one (ps_ret pe_str)) pss_nil)
  (pss_one (ps_ret (pe_call (ok_LawSourceFault T) (hr.mono (by omega)) rfl (g_law_source_fault T) (D_sLawSourceFault T).kp (B_sLawSourceFault T) .nil pass0 (pa_cons (pv 0) (pa_cons (pe_ix (xT K) (pv 2) pe_int (fun _ _ => rfl)) (pa_cons (pe_slice (sTA K) (pv 5) (po_some pe_int) po_none) (pa_cons (pv 3) pa_nil))))))))))) pss_nil)
  (pss_cons (ps_set (i := 6) S_sLawFault.nd rfl (by first | exact Or.inl rfl | exact Or.inr rfl) (pe_ix (xL K) (pe_lc (own := [("_law_f", 8)]) (by rfl) S_sLawFault.nd (piL K (pv 1)) (blkOk_by (own := [("_law_f", 8)]) (N := ["_law_types", "_law_functions", "_law_st", "_law_extra", "_law_fault_here", "_law_seen", "_law_params", "_law_k", "_law_f"]) (sc := defScope sLawFault) (by decide +kernel)) (fun _ _ _ _ _ => (pg_name (i := 8) S_sLawFault.nd rfl (by first | exact Or.inl rfl | exact Or.inr rfl))) (fun _ _ _ _ _ => pts_one (pt_cmpR op_eq (pe_ix (xL K) (pv 8) pe_int (fun _ _ => rfl)) (pe_ix (xT K) (pv 2) pe_int (fun _ _ => rfl)) (nomark _))) (fun _ _ _ _ _ => (pe_ix (xL K) (pv 8) pe_int (fun _ _ => rfl)))) pe_int (fun _ _ => rfl)))
  (pss_cons (ps_for PassesOwn.never rfl (pi_range1 (by rfl) (f_range T) (pa_cons (pe_callB (cLen K) (by rfl) (f_len T) (show bootBuiltins "len" = some (.builtin "len") by decide +kernel) (pa_cons (pv 6) pa_nil)) pa_nil)) (pg_name (i := 7) S_sLawFault.nd rfl (by first | exact Or.inl rfl | exact Or.inr rfl))
  (pss_cons (ps_set (i := 4) S_sLawFault.nd rfl (by first | exact Or.inl rfl | exact Or.inr rfl) (pe_call (ok_LawSourceFault T) (hr.mono (by omega)) rfl (g_law_source_fault T) (D_sLawSourceFault T).kp (B_sLawSourceFault T) .nil pass0 (pa_cons (pv 0) (pa_cons (pe_ix (xL K) (pe_ix (xT K) (pv 2) pe_int (fun _ _ => rfl)) (pv 7) (fun _ _ => rfl)) (pa_cons (pe_slice (sTA K) (pe_ix (xT K) (pe_ix (xL K) (pv 6) (pv 7) (fun _ _ => rfl)) pe_int (fun _ _ => rfl)) (po_some pe_int) po_none) (pa_cons (pv 3) pa_nil))))))
  (pss_one (ps_if (pt_cmpR o_notN (pv 4) pe_non (nomark _)) (pss_one (ps_ret (pv 4))) pss_nil))))
  (pss_one (ps_ret pe_non)))))), ?_⟩
  rintro ⟨ts, fns, st⟩ J0 Q G ⟨v1, v2, v3, v4, rfl, hT, hF, hS, hts, hok, hfl⟩ kk
  dsimp only at *
  cases st with
  | lt x t s =>
    obtain ⟨a, kv, sv, rfl, ha, ⟨b, rfl, hb, hbl⟩, hs⟩ := hS
    walk_at "go"
    refine use_sp (by assumption) (ts, s, t.drop 1) ⟨_, _, _, _, rfl, (by walk_at "up"), (by walk_at "up"), ⟨_, rfl, by rw [List.map_drop]; assumption, by simp; omega⟩, hts, hok.1.drop 1, hok.2⟩ (fun _ z => z.elim) ?_
    rintro v J1 H1 e1 g1 G1 hv
    walk_at "go"
    exact kk _ _ _ G1 hv
  | pt x k s =>
    obtain ⟨a, b, sv, rfl, ha, hb, hs⟩ := hS
    obtain ⟨h1, h2⟩ := hok
    obtain ⟨ad, kvs, rfl, had, he⟩ := hT
    walk_at "go"
    refine use_sp (by assumption) (ts, x, k) ⟨_, _, rfl, ⟨_, _, rfl, had, he⟩, ⟨_, rfl, hb⟩⟩ (fun _ z => z.elim) ?_
    rintro v J1 H1 e1 g1 G1 hv
    dsimp only at hv
    subst hv
    cases er : reached ts x k with
    | some e =>
      walk_at "go"
      refine ifT oStr_ne ?_
      walk_at "go"
      exact kk _ _ _ G1 (by simp only [stmF, putF1, er])
    | none =>
      obtain ⟨t, et, hk, hall⟩ := reached_none er
      obtain ⟨v, ev, c', rfl, hc', htl⟩ := he.some et
      have eto : tyOf ts x = t := by unfold tyOf; rw [et]; rfl
      have hz := drop_at hk
      rw [eto] at h1 h2
      walk_at "go"
      refine if2 (fun q => ?_) (fun q => ?_)
      · walk_at "go"
        have q2 : ¬ wr (t.getD k "") = true := by simpa [wr] using q
        exact kk _ _ _ (by assumption) (by simp only [stmF, putF1, er, eto, if_neg q2, oStr])
      · have q2 : wr (t.getD k "") = true := by simpa [wr] using q
        walk_at "go"
        have hd2 : ((t.map V.str).drop k).drop 1 = (t.drop (k + 1)).map V.str := by simp [List.map_drop]
        refine use_sp (by assumption) (ts, s, t.drop (k + 1)) ⟨_, _, _, _, rfl, ⟨_, _, rfl, by walk_at "get", by walk_at "up"⟩, (by walk_at "up"), ⟨_, rfl, by rw [← hd2]; assumption, by simp; omega⟩, hts, h1, h2⟩ (fun _ z => z.elim) ?_
        rintro v J5 H5 e5 g5 G5 hv
        walk_at "go"
        exact kk _ _ _ G5 (by rw [hv]; simp only [stmF, putF1, er, eto, if_pos q2])
  | cl f ss =>
    obtain ⟨a, l, xs, rfl, ha, hl, hs⟩ := hS
    obtain ⟨g, hg, hlen, hl4, hok⟩ := hok
    obtain ⟨af, fv, rfl, hf, hfs⟩ := hF
    obtain ⟨r, hr⟩ := fnOf_fm hg
    walk_at "go"
    refine k_lcFM (R := rLFn rTy) (S := rLst (rPar rTy)) (fun g => if g.name = f then some g.ps else none) (by assumption) hf hfs (by omega) ?_ ?_
    · intro d x J1 H1 Ny Nn hd hx ej g1 hy hn
      obtain ⟨c, pv, bv, rfl, hc, hpv, hbv⟩ := hx
      walk_at "go"
      refine ⟨rfl, ?_⟩
      walk_at "go"
      refine if2 (fun q => ?_) (fun q => ?_)
      · walk_at "go"
        have q2 : d.name = f := by simpa using q
        exact hy _ _ _ _ (if_pos q2) (Gr.refl g1.jh) hpv
      · have q2 : ¬ d.name = f := by simpa using q
        exact hn _ _ (if_neg q2) (Gr.refl g1.jh)
    · intro D acc J1 H1 hD ej hDJ hacc g1 G1
      rw [hr] at hacc
      obtain ⟨pv, hpv0, b, ps, rfl, hb, hps⟩ := hacc.at' (i := 0) rfl
      walk_at "go"
      refine k_iR1E (by rw [hps.1]; omega) ?_
      rw [Int.toNat_natCast]
      refine k_forR (by assumption) (fun i σ' J' H' => (∃ w w', σ' = [some v1, some (.ref af), some (.ref a), some v4, w, none, some (.ref b), w', none]) ∧ argF ts g.ps ss = argF ts (g.ps.drop i) (ss.drop i)) ⟨⟨_, _, rfl⟩, by simp⟩ ?_ ?_
      · rintro i σ' J2 H2 hi ej2 g2 ⟨⟨w, w', rfl⟩, hA⟩
        have hi1 : i < g.ps.length := by rw [← hps.1]; exact hi
        have hi2 : i < ss.length := by rw [hlen]; exact hi1
        have hp1 := List.getElem?_eq_getElem hi1
        have hs1 := List.getElem?_eq_getElem hi2
        obtain ⟨px, hpx, cp, kv, rfl, hcp, c2, rfl, hc2, hcl⟩ := hps.at' hp1
        obtain ⟨sx, hsx, hsr⟩ := hs.at' hs1
        obtain ⟨o1, o2⟩ := hok i _ _ hp1 hs1
        walk_at "go"
        refine use_sp (by assumption) (ts, ss[i], g.ps[i].2.drop 1) ⟨_, _, _, _, rfl, (by walk_at "up"), (by walk_at "up"), ⟨_, rfl, by rw [List.map_drop]; assumption, by simp; omega⟩, hts, o1.drop 1, o2⟩ (fun _ z => z.elim) ?_
        rintro v J5 H5 e5 g5 G5 hv
        dsimp only at hv
        subst hv
        have hA2 := argF_drop (ts := ts) hp1 hs1
        cases es : srcF ts ss[i] (g.ps[i].2.drop 1) with
        | some e =>
          walk_at "go"
          refine ifT oStr_ne ?_
          walk_at "go"
          refine kk _ _ _ (by assumption) ?_
          rw [es] at hA2
          simp only [stmF, hg, Option.map_some, Option.getD_some, hA, hA2]
        | none =>
          walk_at "go"
          rw [es] at hA2
          exact ⟨_, Ex.trans (by assumption) (Ex.trans (by assumption) (by assumption)), by assumption, ⟨_, _, rfl⟩, hA.trans hA2⟩
      · rintro σ' J2 H2 ej2 g2 ⟨⟨w, w', rfl⟩, hA⟩
        walk_at "go"
        refine kk _ _ _ (by assumption) ?_
        rw [hps.1, List.drop_of_length_le (Nat.le_refl _)] at hA
        simp only [stmF, hg, Option.map_some, Option.getD_some, hA]
        cases (ss.drop g.ps.length) <;> rfl
end Rk
namespace Rk
open PySem PySem.Spec PyProof.Rows L2
variable {P : Program} {w : World} {K : PySem.W.Frag} {mg : Str → Option Value} {base : Heap}
def rFlt (p : Str × Nat × Str) (v : V) (J : Hp) : Prop := ∃ a, v = .ref a ∧ J a = some (.tup [.str p.1, .int (p.2.1 : Int), .str p.2.2])
instance (p : Str × Nat × Str) (v : V) : Up (rFlt p v) := ⟨fun e ⟨a, h1, h2⟩ => ⟨a, h1, e _ _ h2⟩⟩
def BlkOk (fns : List (Fn Ty)) : Tys → List (Stm Ty) → Prop
  | _, [] => True
  | ts, st :: r => StOk ts fns st ∧ (match st with
    | .lt x t _ => ts.lookup x = none ∧ AllRt t
    | _ => True) ∧ BlkOk fns (grow ts st) r
theorem entR_put {α : Type} {R : α → V → Hp → Prop} {ts : List (Str × α)} {kvs : List (Key × V)} {x : Str} {t : α} {v : V} {J : Hp} (h : EntR R ts kvs J) (e : ts.lookup x = none) (r : R t v J) : EntR R (ts ++ [(x, t)]) (putK kvs (Sum.inr x) v) J := by
  have hn := h.none e
  have : (kvs.any fun kv => decide (kv.1 = (Sum.inr x : Key))) = false := by rw [valV_any, hn]; rfl
  unfold putK
  rw [if_neg (by rw [this]; decide)]
  refine ⟨by simp [h.1], fun i kv d h1 h2 => ?_⟩
  by_cases hi : i < kvs.length
  · rw [List.getElem?_append_left hi] at h1
    rw [List.getElem?_append_left (by rw [← h.1]; exact hi)] at h2
    exact h.2 i kv d h1 h2
  · have hx : i = kvs.length := by
      have := (List.getElem?_eq_some_iff.mp h1).1
      simp at this; omega
    subst hx
    rw [List.getElem?_append_right (Nat.le_refl _), Nat.sub_self] at h1
    rw [h.1, List.getElem?_append_right (Nat.le_refl _), Nat.sub_self] at h2
    simp at h1 h2
    subst h1; subst h2
    exact ⟨rfl, r⟩
theorem TysRt.snoc {ts : Tys} {x : Str} {t : Ty} (h : TysRt ts) (a : AllRt t) (l : t.length ≤ 6) : TysRt (ts ++ [(x, t)]) := by
  intro p hp
  rcases List.mem_append.mp hp with q | q
  · exact h p q
  · have : p = (x, t) := by simpa using q
    subst this
    exact ⟨a, l⟩
abbrev spLawBlockFaults : Sp := SpD (Str × Tys × List (Fn Ty) × List (Stm Ty) × Addr) (fun a b => b = a.2.2.2.2) (fun a vs J H => ∃ v1 v2 v3 v4 v5, vs = [v1, v2, v3, v4, v5] ∧ v1 = .str a.1 ∧ v2 = .ref a.2.2.2.2 ∧ (∃ kvs, Mu J H a.2.2.2.2 (.dK kvs) ∧ EntR rTy a.2.1 kvs J) ∧
  rLst (rLFn rTy) a.2.2.1 v3 J ∧ rLst (rStm rTy) a.2.2.2.1 v4 J ∧ TysRt a.2.1 ∧ BlkOk a.2.2.1 a.2.1 a.2.2.2.1 ∧ a.2.2.1.length ≤ 1000 ∧ a.2.2.2.1.length ≤ 1000 ∧ a.2.1.length ≤ 1000) (fun a v J _ => rLst rFlt (blkF a.2.2.1 a.1 a.2.1 a.2.2.2.1 0) v J)
theorem ok_LawBlockFaults (T : Good K mg) : FnOk P w K mg base CX0 11 (He.ga K "_law_block_faults") (fdOf K (He.ga K "_law_block_faults")) ["_law_f", "_law_types", "_law_functions", "_law_block", "_law_extra"] spLawBlockFaults := by
  refine sp_ok (k := 10) (D_sLawBlockFaults T) S_sLawBlockFaults (fun a vs J H h => by obtain ⟨_, _, _, _, _, rfl, _⟩ := h; rfl) (fun cdv Ar outer s H0 vs E hr => ?_)
  refine ⟨_, (pss_cons (ps_set (i := 5) S_sLawBlockFaults.nd rfl (by first | exact Or.inl rfl | exact Or.inr rfl) (pe_lst pa_nil))
  (pss_cons (ps_for PassesOwn.never rfl (pi_range1 (by rfl) (f_range T) (pa_cons (pe_callB (cLen K) (by rfl) (f_len T) (show bootBuiltins "len" = some (.builtin "len") by decide +kernel) (pa_cons (pv 3) pa_nil)) pa_nil)) (pg_name (i := 6) S_sLawBlockFaults.nd rfl (by first | exact Or.inl rfl | exact Or.inr rfl))
  (pss_cons (ps_set (i := 7) S_sLawBlockFaults.nd rfl (by first | exact Or.inl rfl | exact Or.inr rfl) (pe_call (ok_LawFault T) (hr.mono (by omega)) rfl (g_law_fault T) (D_sLawFault T).kp (B_sLawFault T) .nil pass0 (pa_cons (pv 1) (pa_cons (pv 2) (pa_cons (pe_ix (xL K) (pv 3) (pv 6) (fun _ _ => rfl)) (pa_cons (pv 4) pa_nil))))))
  (pss_cons (ps_if (pt_cmpR o_notN (pv 7) pe_non (nomark _)) (pss_one (ps_expr (pe_bm PySem.F.plainAttrs_list PySem.F.slot_list_append PySem.F.type_list_append mt_append (pv 5) (pa_cons (pe_tup (pa_cons (pv 0) (pa_cons (pv 6) (pa_cons (pv 7) pa_nil)))) pa_nil)))) pss_nil)
  (pss_one (ps_if (pt_cmpR op_eq (pe_ix (xT K) (pe_ix (xL K) (pv 3) (pv 6) (fun _ _ => rfl)) pe_int (fun _ _ => rfl)) pe_str (nomark _)) (pss_one (ps_dput (hu_of hr) (pv 1) (pe_ix (xT K) (pe_ix (xL K) (pv 3) (pv 6) (fun _ _ => rfl)) pe_int (fun _ _ => rfl)) (pe_ix (xT K) (pe_ix (xL K) (pv 3) (pv 6) (fun _ _ => rfl)) pe_int (fun _ _ => rfl)) rfl)) pss_nil)))))
  (pss_one (ps_ret (pv 5))))), ?_⟩
  rintro ⟨f, ts, fns, blk, d⟩ J0 Q G ⟨v1, v2, v3, v4, v5, rfl, rfl, rfl, ⟨kvs, md, he⟩, hF, ⟨b, xs, rfl, hb, hB⟩, hts, hok, hf1, hf2, hf3⟩ kk
  dsimp only at *
  walk_at "go"
  refine k_lstM (by assumption) (by decide) ?_
  intro l H1 hl1 hl0 ml g1 G1
  have md := md.up g1
  walk_at "go"
  refine k_iR1E (by rw [hB.1]; omega) ?_
  rw [Int.toNat_natCast]
  refine k_forR (by assumption) (fun i σ' J' H' => ∃ w w' ti kv ac done, σ' = [some (.str f), some (.ref d), some v3, some (.ref b), some v5, some (.ref l), w, w'] ∧ Mu J' H' d (.dK kv) ∧ EntR rTy ti kv J' ∧ Mu J' H' l (.lst ac) ∧ AllR rFlt done ac J' ∧ TysRt ti ∧ BlkOk fns ti (blk.drop i) ∧
    ti.length ≤ 1000 + i ∧ done.length ≤ i ∧ blkF fns f ts blk 0 = done ++ blkF fns f ti (blk.drop i) i) ⟨_, _, ts, kvs, [], [], rfl, md, he, ml, AllR.nil, hts, by rw [List.drop_zero]; exact hok, by omega, Nat.le_refl _, by rw [List.drop_zero]; rfl⟩ ?_ ?_
  · rintro i σ' J2 H2 hi ej2 g2 ⟨w, w', ti, kv, ac, done, rfl, md2, he2, ml2, hac, hti, hbo, hl1, hl2, hbf⟩
    rw [hB.1] at hi
    have hdl : ¬ d = l := md2.nek ml2 (by simp)
    have hp1 := List.getElem?_eq_getElem hi
    rw [List.drop_eq_getElem_cons hi] at hbo hbf
    obtain ⟨sx, hsx, hsr⟩ := hB.at' hp1
    obtain ⟨ho1, ho2, ho3⟩ := hbo
    walk_at "go"
    refine use_spS (by assumption) (ti, fns, blk[i]) ⟨_, _, _, _, rfl, ⟨d, kv, rfl, md2.h, Up.up g2.jh he2⟩, Up.up (ej2.trans g2.jh) hF, Up.up (ej2.trans g2.jh) hsr, hti, ho1, hf1⟩ ?_
    rintro v H3 g3 G3 hv
    dsimp only at hv
    subst hv
    have md3 := md2.up g3
    have ml3 := ml2.up g3
    have tail : ∀ (σ : L2.St) (J4 H4 : Hp) (ac4 : List V) (done4 : List (Str × Nat × Str)) (N B C : L2.St → Hp → Prop) (R : VK) (u : V), Ex J2 J4 → Gr (fun b => b = d) J0 H0 J4 H4 → Mu J4 H4 d (.dK kv) → Mu J4 H4 l (.lst ac4) → AllR rFlt done4 ac4 J4 → done4.length ≤ i + 1 → blkF fns f ts blk 0 = done4 ++ blkF fns f (grow ti blk[i]) (blk.drop (i + 1)) (i + 1) →
        σ = [some (.str f), some (.ref d), some v3, some (.ref b), some v5, some (.ref l), some (.int (i : Int)), some u] →
        (∀ σ3 H3, (∃ J3, Ex J0 J3 ∧ Gr (fun b => b = d) J0 H0 J3 H3 ∧ ∃ w w' ti kv ac done, σ3 = [some (.str f), some (.ref d), some v3, some (.ref b), some v5, some (.ref l), w, w'] ∧ Mu J3 H3 d (.dK kv) ∧ EntR rTy ti kv J3 ∧ Mu J3 H3 l (.lst ac) ∧ AllR rFlt done ac J3 ∧ TysRt ti ∧ BlkOk fns ti (blk.drop (i + 1)) ∧
          ti.length ≤ 1000 + (i + 1) ∧ done.length ≤ i + 1 ∧ blkF fns f ts blk 0 = done ++ blkF fns f ti (blk.drop (i + 1)) (i + 1)) → N σ3 H3) →
        tIfS (tTest (tOp rEq (tOp (rIxT K) (tOp (rIxL K) (tVar 3) (tVar 6)) (tC (.int 0))) (tC (.str "let")))) (sDPut (tVar 1) (tOp (rIxT K) (tOp (rIxL K) (tVar 3) (tVar 6)) (tC (.int 1))) (tOp (rIxT K) (tOp (rIxL K) (tVar 3) (tVar 6)) (tC (.int 2)))) tNext { nx := N, rt := R, bk := B, ct := C } σ H4 := by
      rintro σ J4 H4 ac4 done4 N B C R u e4 g4 md4 ml4 hac4 hd4 hb4 rfl hN
      cases est : blk[i] with
      | lt x t s =>
        rw [est] at hsr ho2 ho3 hb4
        obtain ⟨a, kv2, sv, rfl, ha, ⟨b2, rfl, hb2, hbl⟩, hs⟩ := hsr
        walk_at "go"
        refine k_dputM g4 md4 (.inl rfl) (by rw [he2.1]; have := sizeLine_eq; omega) ?_
        intro H5 g5 G5 md5
        refine hN _ _ ⟨_, ej2.trans e4, G5, _, _, grow ti (.lt x t s), _, _, _, rfl, md5, entR_put (Up.up e4 he2) ho2.1 ⟨b2, rfl, by walk_at "get", hbl⟩, ml4.step g5 (fun e => hdl e.symm), hac4, hti.snoc ho2.2 hbl, ho3, by simp [grow]; omega, hd4, hb4⟩
      | pt x k s =>
        rw [est] at hsr ho2 ho3 hb4
        obtain ⟨a, b2, sv, rfl, ha, hb2, hs⟩ := hsr
        walk_at "go"
        exact hN _ _ ⟨_, ej2.trans e4, g4, _, _, ti, _, _, _, rfl, md4, Up.up e4 he2, ml4, hac4, hti, ho3, by omega, hd4, hb4⟩
      | cl x ss =>
        rw [est] at hsr ho2 ho3 hb4
        obtain ⟨a, b2, ys, rfl, ha, hb2, hs⟩ := hsr
        walk_at "go"
        exact hN _ _ ⟨_, ej2.trans e4, g4, _, _, ti, _, _, _, rfl, md4, Up.up e4 he2, ml4, hac4, hti, ho3, by omega, hd4, hb4⟩
    cases es : stmF ti fns blk[i] with
    | some e =>
      walk_at "gi"
      refine ifT oStr_ne ?_
      walk_at "gi"
      refine k_app (by assumption) (ml3.up (by assumption)) (.inr hl0) (by have := hac.1; have := sizeLine_eq; omega) ?_
      intro H5 g5 g5' ml5
      have md5 := (md3.up (by assumption)).step g5 hdl
      refine k_nx ?_
      refine tail _ _ _ (ac ++ [_]) (done ++ [(f, i, e)]) _ _ _ _ _ (by assumption) g5' md5 ml5 (AllR.snoc (Up.up (by assumption) hac) ⟨_, rfl, by assumption⟩) (by simp; omega) ?_ rfl (fun _ _ h => h)
      rw [hbf]
      simp only [blkF, es, List.append_assoc]
    | none =>
      walk_at "gi"
      refine ifF rfl ?_
      refine k_next ?_
      refine k_nx ?_
      refine tail _ _ _ ac done _ _ _ _ _ (Ex.refl _) G3 md3 ml3 hac (by omega) ?_ rfl (fun _ _ h => h)
      rw [hbf]
      simp only [blkF, es, List.nil_append]
  · rintro σ' J2 H2 ej2 g2 ⟨w, w', ti, kv, ac, done, rfl, md2, he2, ml2, hac, hti, hbo, hl1, hl2, hbf⟩
    walk_at "go"
    refine kk _ _ _ (g2.know ml2.j ml2.h (by assumption)) ⟨l, ac, rfl, upd_same, ?_⟩
    rw [hB.1, List.drop_of_length_le (Nat.le_refl _)] at hbf
    rw [hbf]
    simp only [blkF, List.append_nil]
    exact Up.up (ex_know ml2.j) hac
end Rk
namespace Rk
open PySem PySem.Spec PyProof.Rows L2
variable {P : Program} {w : World} {K : PySem.W.Frag} {mg : Str → Option Value} {base : Heap}
theorem entR_keys {α : Type} {R : α → V → Hp → Prop} {ts : List (Str × α)} {kvs : List (Key × V)} {J : Hp} (h : EntR R ts kvs J) : kvs.map (·.1) = ts.map fun t => (Sum.inr t.1 : Key) := by
  apply List.ext_getElem?
  intro i
  rw [List.getElem?_map, List.getElem?_map]
  cases e : ts[i]? with
  | none =>
    have : kvs[i]? = none := by
      rw [List.getElem?_eq_none_iff] at e ⊢
      rw [h.1]; exact e
    rw [this]; rfl
  | some t =>
    have hi : i < kvs.length := by rw [h.1]; exact (List.getElem?_eq_some_iff.mp e).1
    rw [List.getElem?_eq_getElem hi]
    show some kvs[i].1 = some (Sum.inr t.1)
    rw [(h.2 i _ t (List.getElem?_eq_getElem hi) e).1]
theorem mergeK_nodup : ∀ (kvs acc : List (Key × V)), ((acc ++ kvs).map (·.1)).Nodup → mergeK acc kvs = acc ++ kvs
  | [], acc, _ => by simp [mergeK]
  | kv :: r, acc, h => by
    have hn : (acc.any fun z => decide (z.1 = kv.1)) = false := by
      rw [List.any_eq_false]
      intro z hz e
      rw [List.map_append, List.nodup_append] at h
      exact h.2.2 z.1 (List.mem_map_of_mem hz) kv.1 (by simp) (by simpa using e)
    have e1 : putK acc kv.1 kv.2 = acc ++ [kv] := by
      unfold putK
      rw [if_neg (by rw [hn]; decide)]
    show mergeK (putK acc kv.1 kv.2) r = _
    rw [e1, mergeK_nodup r (acc ++ [kv]) (by simpa using h)]
    simp
theorem par_dict {α : Type} {R : α → V → Hp → Prop} {J H : Hp} (e : Ex J H) : ∀ {ds : List (Str × α)} {xs : List V}, AllR (rPar R) ds xs J → ∃ (ps : List Addr) (kvs : List (Key × V)), xs = ps.map V.ref ∧ Paired (fun p kv => SqT K H p [kV kv.1, kv.2]) ps kvs ∧ EntR R ds kvs J
  | [], [], h => ⟨[], [], rfl, .nil, EntR.nil⟩
  | [], _ :: _, h => absurd h.1 (by simp)
  | _ :: _, [], h => absurd h.1 (by simp)
  | d :: ds, x :: xs, h => by
    obtain ⟨a, kv, rfl, ha, hk⟩ := h.head
    obtain ⟨ps, kvs, rfl, hp, he⟩ := par_dict e h.tail
    refine ⟨a :: ps, (Sum.inr d.1, kv) :: kvs, rfl, .cons (SqT.of (e _ _ ha)) hp, by simp [he.1], fun i y z h1 h2 => ?_⟩
    cases i with
    | zero => simp at h1 h2; subst h1; subst h2; exact ⟨rfl, hk⟩
    | succ i => exact he.2 i y z (by simpa using h1) (by simpa using h2)
theorem k_dictP {M0 : Addr → Prop} {J0 H0 J H : Hp} {Q : VK} {α : Type} {R : α → V → Hp → Prop} {a : Addr} {ds : List (Str × α)} {xs : List V} (G : Gr M0 J0 H0 J H) (ha : H a = some (.lst xs)) (hx : AllR (rPar R) ds xs J) (hn : (ds.map (·.1)).Nodup)
    (k : ∀ p kvs H', H p = none → H0 p = none → Mu J H' p (.dK kvs) → EntR R ds kvs J → Gr No J H J H' → Gr M0 J0 H0 J H' → Q (.ref p) H') : rDictP K [.ref a] H Q := by
  obtain ⟨ps, kvs, rfl, hp, he⟩ := par_dict (K := K) G.jh hx
  refine ⟨a, ps, kvs, rfl, SqL.of ha, hp, fun p hpn => ?_⟩
  have hk : ((([] : List (Key × V)) ++ kvs).map (·.1)).Nodup := by
    rw [List.nil_append, entR_keys he, show ds.map (fun t => (Sum.inr t.1 : Key)) = (ds.map (·.1)).map Sum.inr by simp]
    exact (List.pairwise_map.mpr (hn.imp fun h e => h (Sum.inr.inj e)))
  rw [mergeK_nodup kvs [] hk, List.nil_append]
  exact k p kvs _ hpn (G.al p hpn) (Mu.new G.jh hpn) he (Gr.new G.jh hpn) (G.step (Gr.new G.jh hpn))
def pgF (p : Pg Ty) : List (Str × Nat × Str) := (p.fns.map fun g => blkF p.fns g.name g.ps g.body 0).flatten ++ blkF p.fns "" [] p.main 0
structure FnOkT (fns : List (Fn Ty)) (g : Fn Ty) : Prop where
  b : BlkOk fns g.ps g.body
  t : TysRt g.ps
  n : (g.ps.map (·.1)).Nodup
  l1 : g.ps.length ≤ 4
  l2 : g.body.length ≤ 12
structure PgOk (p : Pg Ty) : Prop where
  f : ∀ g ∈ p.fns, FnOkT p.fns g
  m : BlkOk p.fns [] p.main
  l1 : p.fns.length ≤ 4
  l2 : p.main.length ≤ 40
theorem blkF_len {fns : List (Fn Ty)} {f : Str} : ∀ {ts : Tys} {b : List (Stm Ty)} {k : Nat}, (blkF fns f ts b k).length ≤ b.length
  | _, [], _ => Nat.le_refl _
  | ts, st :: r, k => by
    have := blkF_len (fns := fns) (f := f) (ts := grow ts st) (b := r) (k := k + 1)
    unfold blkF
    rw [List.length_append, List.length_cons]
    cases stmF ts fns st <;> simp <;> omega
abbrev spLawFaults : Sp := SpD (Pg Ty) (fun _ => No) (fun a vs J _ => ∃ v1 v2, vs = [v1, v2] ∧ rLPg rTy a v1 J ∧ PgOk a) (fun a v J _ => rLst rFlt (pgF a) v J)
theorem ok_LawFaults (T : Good K mg) : FnOk P w K mg base CX0 12 (He.ga K "_law_faults") (fdOf K (He.ga K "_law_faults")) ["_law_p", "_law_extra"] spLawFaults := by
  refine sp_ok (k := 11) (D_sLawFaults T) S_sLawFaults (fun a vs J H h => by obtain ⟨_, _, rfl, _⟩ := h; rfl) (fun cdv Ar outer s H0 vs E hr => ?_)
  refine ⟨_, (pss_cons (ps_set (i := 2) S_sLawFaults.nd rfl (by first | exact Or.inl rfl | exact Or.inr rfl) (pe_lst pa_nil))
  (pss_cons (ps_for PassesOwn.never rfl (piL K (pe_ix (xL K) (pv 0) pe_int (fun _ _ => rfl))) (pg_name (i := 3) S_sLawFaults.nd rfl (by first | exact Or.inl rfl | exact Or.inr rfl))
  (pss_one (ps_expr (pe_bm PySem.F.plainAttrs_list PySem.F.slot_list_extend PySem.F.type_list_extend mt_extend (pv 2) (pa_cons (pe_call (ok_LawBlockFaults T) (hr.mono (by omega)) rfl (g_law_block_faults T) (D_sLawBlockFaults T).kp (B_sLawBlockFaults T) .nil pass0 (pa_cons (pe_ix (xL K) (pv 3) pe_int (fun _ _ => rfl)) (pa_cons (pe_callTy (cDict K rfl) (by rfl) (f_dict T) (show bootBuiltins "dict" = some (.type "dict") by decide +kernel) (pa_cons (pe_ix (xL K) (pv 3) pe_int (fun _ _ => rfl)) pa_nil)) (pa_cons (pe_ix (xL K) (pv 0) pe_int (fun _ _ => rfl)) (pa_cons (pe_ix (xL K) (pv 3) pe_int (fun _ _ => rfl)) (pa_cons (pv 1) pa_nil)))))) pa_nil)))))
  (pss_one (ps_ret (pe_op op_cat (pv 2) (pe_call (ok_LawBlockFaults T) (hr.mono (by omega)) rfl (g_law_block_faults T) (D_sLawBlockFaults T).kp (B_sLawBlockFaults T) .nil pass0 (pa_cons pe_str (pa_cons pe_dnewK (pa_cons (pe_ix (xL K) (pv 0) pe_int (fun _ _ => rfl)) (pa_cons (pe_ix (xL K) (pv 0) pe_int (fun _ _ => rfl)) (pa_cons (pv 1) pa_nil))))))))))), ?_⟩
  rintro p J0 Q G ⟨v1, v2, rfl, ⟨a, fv, mv, rfl, ha, ⟨af, fx, rfl, haf, hfx⟩, hm⟩, hok⟩ kk
  dsimp only at *
  have zs := sizeLine_eq
  walk_at "go"
  refine k_lstM (by assumption) (by decide) ?_
  intro l H1 hl1 hl0 ml g1 G1
  walk_at "go"
  refine k_forL (by assumption) haf (fun i σ' J' H' => ∃ w ac, σ' = [some (.ref a), some v2, some (.ref l), w] ∧ Mu J' H' l (.lst ac) ∧ AllR rFlt ((p.fns.take i).map fun g => blkF p.fns g.name g.ps g.body 0).flatten ac J' ∧ ac.length ≤ 12 * i) ⟨_, [], rfl, ml, AllR.nil, by simp⟩ ?_ ?_
  · rintro i x σ' J2 H2 hx ej2 g2 ⟨w, ac, rfl, ml2, hac, hlen⟩
    obtain ⟨d, hd, c, pv, bv, rfl, hc, ⟨ap, px, rfl, hap, hpx⟩, hbv⟩ := hfx.at hx
    have od := hok.f d (List.mem_of_getElem? hd)
    have hi : i < p.fns.length := (List.getElem?_eq_some_iff.mp hd).1
    walk_at "go"
    refine k_dictP (by assumption) (by walk_at "get") (Up.up ej2 hpx) od.n ?_
    intro q kvs H3 hq hq0 mq hkv g3 G3
    have ml3 := ml2.up g3
    walk_at "go"
    refine use_sp (by assumption) (d.name, d.ps, p.fns, d.body, q) ⟨_, _, _, _, _, rfl, rfl, rfl, ⟨kvs, mq, hkv⟩, Up.up ej2 ⟨_, _, rfl, haf, hfx⟩, Up.up ej2 hbv, od.t, od.b, Nat.le_trans hok.l1 (by decide), Nat.le_trans od.l2 (by decide), Nat.le_trans od.l1 (by decide)⟩ (fun b hb => .inr (by subst hb; exact hq0)) ?_
    rintro v J4 H4 e4 g4 G4 ⟨lv, yv, rfl, hlv, hyv⟩
    dsimp only at *
    have ml4 := ml3.step g4 (ml3.nek mq (by simp))
    walk_at "go"
    have hbl := blkF_len (fns := p.fns) (f := d.name) (ts := d.ps) (b := d.body) (k := 0)
    refine k_ext (by assumption) ml4 (.inr hl0) (by walk_at "get") (by rw [hyv.1]; have := od.l2; have := hok.l1; omega) ?_
    intro H5 g5 G5 ml5
    walk_at "go"
    refine ⟨_, ej2.trans e4, G5, _, _, rfl, ml5, ?_, by simp [hyv.1]; have := od.l2; omega⟩
    rw [List.take_add_one, hd]
    simp only [Option.toList_some, List.map_append, List.flatten_append, List.map_cons, List.map_nil, List.flatten_cons, List.flatten_nil, List.append_nil]
    exact (Up.up e4 hac).append hyv
  · rintro σ' J2 H2 ej2 g2 ⟨w, ac, rfl, ml2, hac, hlen⟩
    rw [hfx.1, List.take_of_length_le (Nat.le_refl _)] at hac
    walk_at "go"
    refine k_dictM (by assumption) ?_
    intro q H3 hq hq0 mq g3 G3
    have ml3 := ml2.up g3
    walk_at "go"
    refine use_sp (by assumption) ("", [], p.fns, p.main, q) ⟨_, _, _, _, _, rfl, rfl, rfl, ⟨[], mq, EntR.nil⟩, Up.up ej2 ⟨_, _, rfl, haf, hfx⟩, Up.up ej2 hm, (fun p hp => by cases hp), hok.m, Nat.le_trans hok.l1 (by decide), Nat.le_trans hok.l2 (by decide), Nat.zero_le _⟩ (fun b hb => .inr (by subst hb; exact hq0)) ?_
    rintro v J4 H4 e4 g4 G4 ⟨lv, yv, rfl, hlv, hyv⟩
    dsimp only at *
    have ml4 := ml3.step g4 (ml3.nek mq (by simp))
    have hbl := blkF_len (fns := p.fns) (f := "") (ts := []) (b := p.main) (k := 0)
    rw [hfx.1] at hlen
    walk_at "go"
    refine k_cat (by assumption) ml4.h (by walk_at "get") (by rw [hyv.1]; have := hok.l1; have := hok.l2; omega) ?_
    intro r J5 H5 hr e5 hr5 g5 G5
    walk_at "go"
    exact kk _ _ _ G5 ⟨_, _, rfl, hr5, Up.up e5 ((Up.up e4 hac).append hyv)⟩
end Rk
namespace Rk
open PySem PySem.Spec PyProof.Rows L2
variable {P : Program} {w : World} {K : PySem.W.Frag} {mg : Str → Option Value} {base : Heap}
/-! plain rewriting of blocks -/
def depS : Stm Ty → Stm Nat
  | .lt x t s => .lt x (t.length - 1) s
  | .pt x k s => .pt x k s
  | .cl f ss => .cl f ss
def typS (tb : Tys) : Stm Nat → Stm Ty
  | .lt x _ s => .lt x (tyOf tb x) s
  | .pt x k s => .pt x k s
  | .cl f ss => .cl f ss
abbrev spLawDepths : Sp := SpD (List (Stm Ty)) (fun _ => No) (fun a vs J _ => ∃ v1, vs = [v1] ∧ rLst (rStm rTy) a v1 J ∧ a.length ≤ 1000 ∧ ∀ x t s, Stm.lt x t s ∈ a → t ≠ []) (fun a v J _ => rLst (rStm rDp) (a.map depS) v J)
theorem ok_LawDepths (T : Good K mg) : FnOk P w K mg base CX0 1 (He.ga K "_law_depths") (fdOf K (He.ga K "_law_depths")) ["_law_block"] spLawDepths := by
  refine sp_ok (k := 0) (D_sLawDepths T) S_sLawDepths (fun a vs J H h => by obtain ⟨_, rfl, _⟩ := h; rfl) (fun cdv Ar outer s H0 vs E hr => ?_)
  refine ⟨_, (pss_cons (ps_set (i := 1) S_sLawDepths.nd rfl (by first | exact Or.inl rfl | exact Or.inr rfl) (pe_lst pa_nil))
  (pss_cons (ps_for PassesOwn.never rfl (piL K (pv 0)) (pg_name (i := 2) S_sLawDepths.nd rfl (by first | exact Or.inl rfl | exact Or.inr rfl))
  (pss_one (ps_if (pt_cmpR op_eq (pe_ix (xT K) (pv 2) pe_int (fun _ _ => rfl)) pe_str (nomark _)) (pss_one (ps_expr (pe_bm PySem.F.plainAttrs_list PySem.F.slot_list_append PySem.F.type_list_append mt_append (pv 1) (pa_cons (pe_tup (pa_cons pe_str (pa_cons (pe_ix (xT K) (pv 2) pe_int (fun _ _ => rfl)) (pa_cons (pe_op op_sub (pe_callB (cLen K) (by rfl) (f_len T) (show bootBuiltins "len" = some (.builtin "len") by decide +kernel) (pa_cons (pe_ix (xT K) (pv 2) pe_int (fun _ _ => rfl)) pa_nil)) pe_int) (pa_cons (pe_ix (xT K) (pv 2) pe_int (fun _ _ => rfl)) pa_nil))))) pa_nil)))) (pss_one (ps_expr (pe_bm PySem.F.plainAttrs_list PySem.F.slot_list_append PySem.F.type_list_append mt_append (pv 1) (pa_cons (pv 2) pa_nil)))))))
  (pss_one (ps_ret (pv 1))))), ?_⟩
  rintro blk J0 Q G ⟨v1, rfl, ⟨b, xs, rfl, hb, hB⟩, hl, hne⟩ kk
  dsimp only at *
  have zs := sizeLine_eq
  walk_at "go"
  refine k_lstM (by assumption) (by decide) ?_
  intro l H1 hl1 hl0 ml g1 G1
  walk_at "go"
  refine k_forL (by assumption) hb (fun i σ' J' H' => ∃ w ac, σ' = [some (.ref b), some (.ref l), w] ∧ Mu J' H' l (.lst ac) ∧ AllR (rStm rDp) ((blk.take i).map depS) ac J') ⟨_, [], rfl, ml, AllR.nil⟩ ?_ ?_
  · rintro i x σ' J2 H2 hx ej2 g2 ⟨w, ac, rfl, ml2, hac⟩
    obtain ⟨d, hd, hr⟩ := hB.at hx
    have hi : i < blk.length := (List.getElem?_eq_some_iff.mp hd).1
    have hla : ac.length = i := by have := hac.1; simp at this; omega
    have snoc : ∀ {J v}, Ex J2 J → rStm rDp (depS d) v J → AllR (rStm rDp) ((blk.take (i + 1)).map depS) (ac ++ [v]) J := by
      intro J v e h
      rw [List.take_add_one, hd]
      simpa using (Up.up e hac).snoc h
    cases d with
    | lt y t s =>
      obtain ⟨a, kv, sv, rfl, ha, ⟨c, rfl, hc, hcl⟩, hs⟩ := hr
      walk_at "go"
      refine k_app (by assumption) (ml2.up (by assumption)) (.inr hl0) (by omega) ?_
      intro H5 g5 G5 ml5
      walk_at "go"
      refine ⟨_, ej2.trans (by assumption), G5, _, _, rfl, ml5, snoc (by assumption) ⟨_, _, _, rfl, by assumption, ?_, by walk_at "up"⟩⟩
      have := hne y t s (List.mem_of_getElem? hd)
      have h1 : 0 < t.length := List.length_pos_iff.mpr this
      show V.int _ = V.int _
      rw [List.length_map]
      congr 1
      omega
    | pt y k s =>
      obtain ⟨a, c, sv, rfl, ha, hc, hs⟩ := hr
      walk_at "go"
      refine k_app (by assumption) ml2 (.inr hl0) (by omega) ?_
      intro H5 g5 G5 ml5
      walk_at "go"
      exact ⟨_, ej2, G5, _, _, rfl, ml5, snoc (Ex.refl _) ⟨a, c, sv, rfl, by walk_at "get", by walk_at "get", Up.up ej2 hs⟩⟩
    | cl f ss =>
      obtain ⟨a, c, ys, rfl, ha, hc, hs⟩ := hr
      walk_at "go"
      refine k_app (by assumption) ml2 (.inr hl0) (by omega) ?_
      intro H5 g5 G5 ml5
      walk_at "go"
      exact ⟨_, ej2, G5, _, _, rfl, ml5, snoc (Ex.refl _) ⟨a, c, ys, rfl, by walk_at "get", by walk_at "get", Up.up ej2 hs⟩⟩
  · rintro σ' J2 H2 ej2 g2 ⟨w, ac, rfl, ml2, hac⟩
    rw [hB.1, List.take_of_length_le (Nat.le_refl _)] at hac
    walk_at "go"
    exact kk _ _ _ (g2.know ml2.j ml2.h (by assumption)) ⟨l, ac, rfl, upd_same, Up.up (ex_know ml2.j) hac⟩
abbrev spLawTypedBlock : Sp := SpD (List (Stm Nat) × Tys) (fun _ => No) (fun a vs J _ => ∃ v1 v2, vs = [v1, v2] ∧ rLst (rStm rDp) a.1 v1 J ∧ rDic rTy a.2 v2 J ∧ a.1.length ≤ 1000 ∧ ∀ x t s, Stm.lt x t s ∈ a.1 → (a.2.lookup x).isSome = true) (fun a v J _ => rLst (rStm rTy) (a.1.map (typS a.2)) v J)
theorem ok_LawTypedBlock (T : Good K mg) : FnOk P w K mg base CX0 1 (He.ga K "_law_typed_block") (fdOf K (He.ga K "_law_typed_block")) ["_law_block", "_law_table_here"] spLawTypedBlock := by
  refine sp_ok (k := 0) (D_sLawTypedBlock T) S_sLawTypedBlock (fun a vs J H h => by obtain ⟨_, _, rfl, _⟩ := h; rfl) (fun cdv Ar outer s H0 vs E hr => ?_)
  refine ⟨_, (pss_cons (ps_set (i := 2) S_sLawTypedBlock.nd rfl (by first | exact Or.inl rfl | exact Or.inr rfl) (pe_lst pa_nil))
  (pss_cons (ps_for PassesOwn.never rfl (piL K (pv 0)) (pg_name (i := 3) S_sLawTypedBlock.nd rfl (by first | exact Or.inl rfl | exact Or.inr rfl))
  (pss_one (ps_if (pt_cmpR op_eq (pe_ix (xT K) (pv 3) pe_int (fun _ _ => rfl)) pe_str (nomark _)) (pss_one (ps_expr (pe_bm PySem.F.plainAttrs_list PySem.F.slot_list_append PySem.F.type_list_append mt_append (pv 2) (pa_cons (pe_tup (pa_cons pe_str (pa_cons (pe_ix (xT K) (pv 3) pe_int (fun _ _ => rfl)) (pa_cons (pe_dget (hu_of hr) (pv 1) (pe_ix (xT K) (pv 3) pe_int (fun _ _ => rfl)) (fun _ _ => rfl)) (pa_cons (pe_ix (xT K) (pv 3) pe_int (fun _ _ => rfl)) pa_nil))))) pa_nil)))) (pss_one (ps_expr (pe_bm PySem.F.plainAttrs_list PySem.F.slot_list_append PySem.F.type_list_append mt_append (pv 2) (pa_cons (pv 3) pa_nil)))))))
  (pss_one (ps_ret (pv 2))))), ?_⟩
  rintro ⟨blk, tb⟩ J0 Q G ⟨v1, v2, rfl, ⟨b, xs, rfl, hb, hB⟩, ⟨dt, kvs, rfl, hdt, he⟩, hl, hne⟩ kk
  dsimp only at *
  have zs := sizeLine_eq
  walk_at "go"
  refine k_lstM (by assumption) (by decide) ?_
  intro l H1 hl1 hl0 ml g1 G1
  walk_at "go"
  refine k_forL (by assumption) hb (fun i σ' J' H' => ∃ w ac, σ' = [some (.ref b), some (.ref dt), some (.ref l), w] ∧ Mu J' H' l (.lst ac) ∧ AllR (rStm rTy) ((blk.take i).map (typS tb)) ac J') ⟨_, [], rfl, ml, AllR.nil⟩ ?_ ?_
  · rintro i x σ' J2 H2 hx ej2 g2 ⟨w, ac, rfl, ml2, hac⟩
    obtain ⟨d, hd, hr⟩ := hB.at hx
    have hi : i < blk.length := (List.getElem?_eq_some_iff.mp hd).1
    have hla : ac.length = i := by have := hac.1; simp at this; omega
    have snoc : ∀ {J v}, Ex J2 J → rStm rTy (typS tb d) v J → AllR (rStm rTy) ((blk.take (i + 1)).map (typS tb)) (ac ++ [v]) J := by
      intro J v e h
      rw [List.take_add_one, hd]
      simpa using (Up.up e hac).snoc h
    cases d with
    | lt y t s =>
      obtain ⟨a, kv, sv, rfl, ha, hk, hs⟩ := hr
      obtain ⟨u, hu⟩ := Option.isSome_iff_exists.mp (hne y t s (List.mem_of_getElem? hd))
      obtain ⟨v, ev, hv⟩ := he.some hu
      walk_at "go"
      refine k_app (by assumption) (ml2.up (by assumption)) (.inr hl0) (by omega) ?_
      intro H5 g5 G5 ml5
      walk_at "go"
      refine ⟨_, ej2.trans (by assumption), G5, _, _, rfl, ml5, snoc (by assumption) ⟨_, _, _, rfl, by assumption, ?_, by walk_at "up"⟩⟩
      unfold tyOf
      rw [hu]
      walk_at "up"
    | pt y k s =>
      obtain ⟨a, c, sv, rfl, ha, hc, hs⟩ := hr
      walk_at "go"
      refine k_app (by assumption) ml2 (.inr hl0) (by omega) ?_
      intro H5 g5 G5 ml5
      walk_at "go"
      exact ⟨_, ej2, G5, _, _, rfl, ml5, snoc (Ex.refl _) ⟨a, c, sv, rfl, by walk_at "get", by walk_at "get", Up.up ej2 hs⟩⟩
    | cl f ss =>
      obtain ⟨a, c, ys, rfl, ha, hc, hs⟩ := hr
      walk_at "go"
      refine k_app (by assumption) ml2 (.inr hl0) (by omega) ?_
      intro H5 g5 G5 ml5
      walk_at "go"
      exact ⟨_, ej2, G5, _, _, rfl, ml5, snoc (Ex.refl _) ⟨a, c, ys, rfl, by walk_at "get", by walk_at "get", Up.up ej2 hs⟩⟩
  · rintro σ' J2 H2 ej2 g2 ⟨w, ac, rfl, ml2, hac⟩
    rw [hB.1, List.take_of_length_le (Nat.le_refl _)] at hac
    walk_at "go"
    exact kk _ _ _ (g2.know ml2.j ml2.h (by assumption)) ⟨l, ac, rfl, upd_same, Up.up (ex_know ml2.j) hac⟩
/-- a let with a source that fits -/
def plain (x : Str) (n : Nat) : Stm Nat := .lt x n (if n = 0 then .num 1 else .null)
abbrev spLawPlainSource : Sp := SpD (Str × Nat × Src) (fun _ => No) (fun a vs J _ => ∃ v1, vs = [v1] ∧ rStm rDp (.lt a.1 a.2.1 a.2.2) v1 J) (fun a v J _ => rStm rDp (plain a.1 a.2.1) v J)
theorem ok_LawPlainSource (T : Good K mg) : FnOk P w K mg base CX0 1 (He.ga K "_law_plain_source") (fdOf K (He.ga K "_law_plain_source")) ["_law_st"] spLawPlainSource := by
  refine sp_ok (k := 0) (D_sLawPlainSource T) S_sLawPlainSource (fun a vs J H h => by obtain ⟨_, rfl, _⟩ := h; rfl) (fun cdv Ar outer s H0 vs E hr => ?_)
  refine ⟨_, (pss_cons (ps_if (pt_cmpR op_eq (pe_ix (xT K) (pv 0) pe_int (fun _ _ => rfl)) pe_int (nomark _)) (pss_one (ps_ret (pe_tup (pa_cons pe_str (pa_cons (pe_ix (xT K) (pv 0) pe_int (fun _ _ => rfl)) (pa_cons pe_int (pa_cons (pe_tup (pa_cons pe_str (pa_cons pe_int pa_nil))) pa_nil))))))) pss_nil)
  (pss_one (ps_ret (pe_tup (pa_cons pe_str (pa_cons (pe_ix (xT K) (pv 0) pe_int (fun _ _ => rfl)) (pa_cons (pe_ix (xT K) (pv 0) pe_int (fun _ _ => rfl)) (pa_cons (pe_tup (pa_cons pe_str pa_nil)) pa_nil)))))))), ?_⟩
  rintro ⟨x, n, s⟩ J0 Q G ⟨v1, rfl, a, kv, sv, rfl, ha, rfl, hs⟩ kk
  dsimp only at *
  walk_at "go"
  refine if2 (fun q => ?_) (fun q => ?_)
  · have q2 : n = 0 := by simpa using q
    subst q2
    walk_at "go"
    exact kk _ _ _ (by assumption) ⟨_, _, _, rfl, by assumption, rfl, _, rfl, by walk_at "get"⟩
  · have q2 : ¬ n = 0 := by simpa using q
    walk_at "go"
    refine kk _ _ _ (by assumption) ?_
    unfold plain
    rw [if_neg q2]
    exact ⟨_, _, _, rfl, by assumption, rfl, _, rfl, by walk_at "get"⟩
end Rk
namespace Rk
open PySem PySem.Spec PyProof.Rows L2
variable {P : Program} {w : World} {K : PySem.W.Frag} {mg : Str → Option Value} {base : Heap}
def letsOf {κ : Type} (b : List (Stm κ)) : List (Str × κ) := b.filterMap fun s => match s with
  | .lt x t _ => some (x, t)
  | _ => none
/-- the kinds of all names, in the order of the dict -/
def kindsOf {κ : Type} (p : Pg κ) : List (Str × κ) := (p.fns.map (·.ps)).flatten ++ ((p.fns.map (·.body) ++ [p.main]).map letsOf).flatten
theorem nodup_pre {l l' : List (Str × Nat)} {x : Str × Nat} {r : List (Str × Nat)} (h : (l.map (·.1)).Nodup) (e : l = l' ++ x :: r) : l'.lookup x.1 = none := by
  cases q : l'.lookup x.1 with
  | none => rfl
  | some d =>
    have h1 := lookup_mem q
    subst e
    rw [List.map_append, List.nodup_append] at h
    exact absurd rfl (h.2.2 x.1 (List.mem_map_of_mem (f := (·.1)) h1) x.1 (by simp))
abbrev spLawKinds : Sp := SpD (Pg Nat × Hp) (fun _ => No) (fun a vs J H => ∃ v1, vs = [v1] ∧ rLPg rDp a.1 v1 J ∧ a.2 = H ∧ ((kindsOf a.1).map (·.1)).Nodup ∧ (kindsOf a.1).length ≤ 1000 ∧ a.1.fns.length ≤ 1000) (fun a v J H => ∃ d kvs, v = .ref d ∧ a.2 d = none ∧ Mu J H d (.dK kvs) ∧ EntR rDp (kindsOf a.1) kvs J)
theorem ok_LawKinds (T : Good K mg) : FnOk P w K mg base CX0 1 (He.ga K "_law_kinds") (fdOf K (He.ga K "_law_kinds")) ["_law_p"] spLawKinds := by
  refine sp_ok (k := 0) (D_sLawKinds T) S_sLawKinds (fun a vs J H h => by obtain ⟨_, rfl, _⟩ := h; rfl) (fun cdv Ar outer s H0 vs E hr => ?_)
  refine ⟨_, (pss_cons (ps_set (i := 1) S_sLawKinds.nd rfl (by first | exact Or.inl rfl | exact Or.inr rfl) pe_dnewK)
  (pss_cons (ps_for PassesOwn.never rfl (piL K (pe_ix (xL K) (pv 0) pe_int (fun _ _ => rfl))) (pg_name (i := 2) S_sLawKinds.nd rfl (by first | exact Or.inl rfl | exact Or.inr rfl))
  (pss_one (ps_for PassesOwn.never rfl (piL K (pe_ix (xL K) (pv 2) pe_int (fun _ _ => rfl))) (pgT K (n := 2) rfl (pgs_cons (pg_name (i := 3) S_sLawKinds.nd rfl (by first | exact Or.inl rfl | exact Or.inr rfl)) (pgs_cons (pg_name (i := 4) S_sLawKinds.nd rfl (by first | exact Or.inl rfl | exact Or.inr rfl)) pgs_nil)))
  (pss_one (ps_dput (hu_of hr) (pv 1) (pv 3) (pv 4) rfl)))))
  (pss_cons (ps_for PassesOwn.never rfl (piL K (pe_op op_cat (pe_lc (own := [("_law_f", 2)]) (by rfl) S_sLawKinds.nd (piL K (pe_ix (xL K) (pv 0) pe_int (fun _ _ => rfl))) (blkOk_by (own := [("_law_f", 2)]) (N := ["_law_p", "_law_out", "_law_f", "_law_x", "_law_kind", "_law_block", "_law_st"]) (sc := defScope sLawKinds) (by decide +kernel)) (fun _ _ _ _ _ => (pg_name (i := 2) S_sLawKinds.nd rfl (by first | exact Or.inl rfl | exact Or.inr rfl))) (fun _ _ _ _ _ => pts_nil) (fun _ _ _ _ _ => (pe_ix (xL K) (pv 2) pe_int (fun _ _ => rfl)))) (pe_lst (pa_cons (pe_ix (xL K) (pv 0) pe_int (fun _ _ => rfl)) pa_nil)))) (pg_name (i := 5) S_sLawKinds.nd rfl (by first | exact Or.inl rfl | exact Or.inr rfl))
  (pss_one (ps_for PassesOwn.never rfl (piL K (pv 5)) (pg_name (i := 6) S_sLawKinds.nd rfl (by first | exact Or.inl rfl | exact Or.inr rfl))
  (pss_one (ps_if (pt_cmpR op_eq (pe_ix (xT K) (pv 6) pe_int (fun _ _ => rfl)) pe_str (nomark _)) (pss_one (ps_dput (hu_of hr) (pv 1) (pe_ix (xT K) (pv 6) pe_int (fun _ _ => rfl)) (pe_ix (xT K) (pv 6) pe_int (fun _ _ => rfl)) rfl)) pss_nil)))))
  (pss_one (ps_ret (pv 1)))))), ?_⟩
  rintro ⟨p, HH⟩ J0 Q G ⟨v1, rfl, ⟨a, fv, mv, rfl, ha, ⟨af, fx, rfl, haf, hfx⟩, hm⟩, rfl, hnd, hl, hl2⟩ kk
  dsimp only at *
  have zs := sizeLine_eq
  walk_at "go"
  refine k_dictM (by assumption) ?_
  intro d H1 hd1 hd0 md g1 G1
  walk_at "go"
  refine k_forL (by assumption) haf (fun i σ' J' H' => ∃ w w' w'' kvs, σ' = [some (.ref a), some (.ref d), w, w', w'', none, none] ∧ Mu J' H' d (.dK kvs) ∧ EntR rDp ((p.fns.take i).map (·.ps)).flatten kvs J') ⟨_, _, _, _, rfl, md, EntR.nil⟩ ?_ ?_
  · rintro i x σ' J2 H2 hx ej2 g2 ⟨w, w', w'', kvs, rfl, md2, he⟩
    obtain ⟨f, hf, c, pv, bv, rfl, hc, ⟨ap, px, rfl, hap, hpx⟩, hbv⟩ := hfx.at hx
    have hi : i < p.fns.length := (List.getElem?_eq_some_iff.mp hf).1
    walk_at "go"
    refine k_forL (by assumption) (by walk_at "get") (fun j σ' J' H' => ∃ w' w'' kvs, σ' = [some (.ref a), some (.ref d), some (.ref c), w', w'', none, none] ∧ Mu J' H' d (.dK kvs) ∧ EntR rDp (((p.fns.take i).map (·.ps)).flatten ++ f.ps.take j) kvs J') ⟨_, _, _, rfl, md2, by simpa using he⟩ ?_ ?_
    · rintro j y σ' J3 H3 hy ej3 g3 ⟨w', w'', kvs, rfl, md3, he3⟩
      obtain ⟨q, hq, e, kv, rfl, hea, rfl⟩ := hpx.at hy
      have hsp : ∃ r, kindsOf p = (((p.fns.take i).map (·.ps)).flatten ++ f.ps.take j) ++ q :: r := by
        refine ⟨f.ps.drop (j + 1) ++ (((p.fns.drop (i + 1)).map (·.ps)).flatten ++ ((p.fns.map (·.body) ++ [p.main]).map letsOf).flatten), ?_⟩
        have e1 : p.fns = p.fns.take i ++ f :: p.fns.drop (i + 1) := by
          rw [← (List.getElem?_eq_some_iff.mp hf).2, ← List.drop_eq_getElem_cons hi, List.take_append_drop]
        have hj : j < f.ps.length := (List.getElem?_eq_some_iff.mp hq).1
        have e2 : f.ps = f.ps.take j ++ q :: f.ps.drop (j + 1) := by
          rw [← (List.getElem?_eq_some_iff.mp hq).2, ← List.drop_eq_getElem_cons hj, List.take_append_drop]
        unfold kindsOf
        conv => lhs; arg 1; rw [e1]
        simp only [List.map_append, List.map_cons, List.flatten_append, List.flatten_cons, List.append_assoc]
        conv => lhs; arg 2; arg 1; rw [e2]
        simp
      obtain ⟨r, hr⟩ := hsp
      have hnew := nodup_pre hnd hr
      walk_at "go"
      refine k_dputM (by assumption) md3 (.inr hd0) ?_ ?_
      · rw [he3.1]
        have : (kindsOf p).length = _ := congrArg List.length hr
        rw [List.length_append] at this
        omega
      · intro H5 g5 G5 md5
        refine k_nx ?_
        refine ⟨_, ej3, G5, _, _, _, rfl, md5, ?_⟩
        rw [List.take_add_one, hq]
        have := entR_put (t := q.2) he3 hnew rfl
        simpa using this
    · rintro σ' J3 H3 ej3 g3 ⟨w', w'', kvs, rfl, md3, he3⟩
      walk_at "go"
      refine ⟨_, ej2.trans ej3, g3, _, _, _, _, rfl, md3, ?_⟩
      rw [hpx.1, List.take_of_length_le (Nat.le_refl _)] at he3
      rw [List.take_add_one, hf]
      simpa using he3
  · rintro σ' J2 H2 ej2 g2 ⟨w, w', w'', kvs, rfl, md2, he⟩
    rw [hfx.1, List.take_of_length_le (Nat.le_refl _)] at he
    walk_at "go"
    refine k_lcFM (R := rLFn rDp) (S := rLst (rStm rDp)) (fun g => some g.body) (by assumption) (by walk_at "get") (Up.up ej2 hfx) (by omega) ?_ ?_
    · intro f x J3 H3 Ny Nn hfm hx ej3 g3 hy hn
      obtain ⟨c, pv, bv, rfl, hc, hpv, hbv⟩ := hx
      walk_at "go"
      refine ⟨rfl, ?_⟩
      walk_at "go"
      exact hy _ _ _ _ rfl (Gr.refl g3.jh) hbv
    · intro L acc J3 H3 hL ej3 hLJ hacc g3 G3
      have md3 := md2.up g3
      have em : (p.fns.filterMap fun g => some g.body) = p.fns.map (·.body) := by simp
      rw [em] at hacc
      walk_at "go"
      rename_i L2 J4 H4 hL2 ej4 hLJ2 g4 G4
      refine k_cat (by assumption) (by walk_at "get") (by walk_at "get") (by rw [hacc.1]; simp; omega) ?_
      intro L3 J5 H5 hL3 ej5 hLJ3 g5 G5
      have md5 := (md3.up g4).up g5
      have hbs : AllR (rLst (rStm rDp)) (p.fns.map (·.body) ++ [p.main]) (acc ++ [mv]) J5 := (Up.up (ej4.trans ej5) hacc).snoc (Up.up (((ej2.trans ej3).trans ej4).trans ej5) hm)
      walk_at "go"
      refine k_forL (by assumption) hLJ3 (fun i σ' J' H' => ∃ w0 w1 w2 w w' kvs, σ' = [some (.ref a), some (.ref d), w0, w1, w2, w, w'] ∧ Mu J' H' d (.dK kvs) ∧ EntR rDp ((p.fns.map (·.ps)).flatten ++ (((p.fns.map (·.body) ++ [p.main]).take i).map letsOf).flatten) kvs J') ⟨_, _, _, _, _, _, rfl, md5, by simpa using (Up.up ((ej3.trans ej4).trans ej5) he)⟩ ?_ ?_
      · rintro i x σ' J6 H6 hx ej6 g6 ⟨w0, w1, w2, w, w', kvs, rfl, md6, he6⟩
        obtain ⟨b, hb, ab, bx, rfl, hab, hbx⟩ := hbs.at hx
        walk_at "go"
        refine k_forL (by assumption) (by walk_at "get") (fun j σ' J' H' => ∃ w0 w1 w2 w w' kvs, σ' = [some (.ref a), some (.ref d), w0, w1, w2, w, w'] ∧ Mu J' H' d (.dK kvs) ∧ EntR rDp ((p.fns.map (·.ps)).flatten ++ (((p.fns.map (·.body) ++ [p.main]).take i).map letsOf).flatten ++ letsOf (b.take j)) kvs J') ⟨_, _, _, _, _, _, rfl, md6, by simpa [letsOf] using he6⟩ ?_ ?_
        · rintro j y σ' J7 H7 hy ej7 g7 ⟨w0, w1, w2, w, w', kvs, rfl, md7, he7⟩
          obtain ⟨st, hst, hsr⟩ := hbx.at hy
          have ltk : letsOf (b.take (j + 1)) = letsOf (b.take j) ++ letsOf [st] := by
            rw [List.take_add_one, hst]
            simp only [letsOf, List.filterMap_append, Option.toList_some]
          cases st with
          | lt z t s =>
            obtain ⟨e, kv, sv, rfl, hea, rfl, hs⟩ := hsr
            have hsp : ∃ r, kindsOf p = ((p.fns.map (·.ps)).flatten ++ (((p.fns.map (·.body) ++ [p.main]).take i).map letsOf).flatten ++ letsOf (b.take j)) ++ (z, t) :: r := by
              have hi : i < (p.fns.map (·.body) ++ [p.main]).length := (List.getElem?_eq_some_iff.mp hb).1
              have hj : j < b.length := (List.getElem?_eq_some_iff.mp hst).1
              refine ⟨letsOf (b.drop (j + 1)) ++ (((p.fns.map (·.body) ++ [p.main]).drop (i + 1)).map letsOf).flatten, ?_⟩
              have e1 : (p.fns.map (·.body) ++ [p.main]) = (p.fns.map (·.body) ++ [p.main]).take i ++ b :: (p.fns.map (·.body) ++ [p.main]).drop (i + 1) := by
                rw [← (List.getElem?_eq_some_iff.mp hb).2, ← List.drop_eq_getElem_cons hi, List.take_append_drop]
              have e2 : b = b.take j ++ Stm.lt z t s :: b.drop (j + 1) := by
                rw [← (List.getElem?_eq_some_iff.mp hst).2, ← List.drop_eq_getElem_cons hj, List.take_append_drop]
              have e3 : letsOf b = letsOf (b.take j) ++ (z, t) :: letsOf (b.drop (j + 1)) := by
                conv => lhs; rw [e2]
                simp [letsOf, List.filterMap_append]
              unfold kindsOf
              conv => lhs; arg 2; rw [e1]
              simp only [List.map_append, List.map_cons, List.flatten_append, List.flatten_cons, List.append_assoc, e3, List.cons_append]
            obtain ⟨r, hr⟩ := hsp
            have hnew := nodup_pre hnd hr
            walk_at "go"
            refine k_dputM (by assumption) md7 (.inr hd0) ?_ ?_
            · rw [he7.1]
              have : (kindsOf p).length = _ := congrArg List.length hr
              rw [List.length_append] at this
              omega
            · intro H8 g8 G8 md8
              walk_at "go"
              refine ⟨_, ej7, G8, _, _, _, _, _, _, rfl, md8, ?_⟩
              rw [ltk]
              have := entR_put (t := t) he7 hnew rfl
              simpa [letsOf] using this
          | pt z k s =>
            obtain ⟨e, e2, sv, rfl, hea, he2, hs⟩ := hsr
            walk_at "go"
            exact ⟨_, ej7, g7, _, _, _, _, _, _, rfl, md7, by rw [ltk]; simpa [letsOf] using he7⟩
          | cl z ss =>
            obtain ⟨e, e2, ys, rfl, hea, he2, hs⟩ := hsr
            walk_at "go"
            exact ⟨_, ej7, g7, _, _, _, _, _, _, rfl, md7, by rw [ltk]; simpa [letsOf] using he7⟩
        · rintro σ' J7 H7 ej7 g7 ⟨w0, w1, w2, w, w', kvs, rfl, md7, he7⟩
          walk_at "go"
          refine ⟨_, ej6.trans ej7, g7, _, _, _, _, _, _, rfl, md7, ?_⟩
          rw [hbx.1, List.take_of_length_le (Nat.le_refl _)] at he7
          rw [List.take_add_one, hb]
          simpa using he7
      · rintro σ' J6 H6 ej6 g6 ⟨w0, w1, w2, w, w', kvs, rfl, md6, he6⟩
        rw [hbs.1, List.take_of_length_le (Nat.le_refl _)] at he6
        walk_at "go"
        exact kk _ _ _ g6 ⟨d, kvs, rfl, hd0, md6, he6⟩
end Rk
namespace Rk
open PySem PySem.Spec PyProof.Rows L2
variable {P : Program} {w : World} {K : PySem.W.Frag} {mg : Str → Option Value} {base : Heap}
def typF (tb : Tys) (f : Fn Nat) : Fn Ty := ⟨f.name, f.ps.map fun q => (q.1, tyOf tb q.1), f.body.map (typS tb)⟩
def typP (tb : Tys) (p : Pg Nat) : Pg Ty := ⟨p.fns.map (typF tb), p.main.map (typS tb)⟩
structure TbOk (tb : Tys) (p : Pg Nat) : Prop where
  ps : ∀ f ∈ p.fns, ∀ q ∈ f.ps, (tb.lookup q.1).isSome = true
  b : ∀ f ∈ p.fns, ∀ x t s, Stm.lt x t s ∈ f.body → (tb.lookup x).isSome = true
  m : ∀ x t s, Stm.lt x t s ∈ p.main → (tb.lookup x).isSome = true
  l1 : ∀ f ∈ p.fns, f.ps.length ≤ 1000 ∧ f.body.length ≤ 1000
  l2 : p.fns.length ≤ 1000 ∧ p.main.length ≤ 1000
abbrev spLawTyped : Sp := SpD (Pg Nat × Tys) (fun _ => No) (fun a vs J _ => ∃ v1 v2, vs = [v1, v2] ∧ rLPg rDp a.1 v1 J ∧ rDic rTy a.2 v2 J ∧ TbOk a.2 a.1) (fun a v J _ => rLPg rTy (typP a.2 a.1) v J)
theorem ok_LawTyped (T : Good K mg) : FnOk P w K mg base CX0 2 (He.ga K "_law_typed") (fdOf K (He.ga K "_law_typed")) ["_law_p", "_law_table_here"] spLawTyped := by
  refine sp_ok (k := 1) (D_sLawTyped T) S_sLawTyped (fun a vs J H h => by obtain ⟨_, _, rfl, _⟩ := h; rfl) (fun cdv Ar outer s H0 vs E hr => ?_)
  refine ⟨_, (pss_cons (ps_setLc (i := 2) (own := [("_law_f", 5)]) (by rfl) S_sLawTyped.nd rfl rfl (sw_true rfl rfl rfl (by decide +kernel)) (piL K (pe_ix (xL K) (pv 0) pe_int (fun _ _ => rfl))) (blkOk_by (own := [("_law_f", 5)]) (N := ["_law_p", "_law_table_here", "_law_functions", "_law_x", "_law_kind", "_law_f"]) (sc := defScope sLawTyped) (by decide +kernel)) (fun _ _ _ _ _ => (pg_name (i := 5) S_sLawTyped.nd rfl (by first | exact Or.inl rfl | exact Or.inr rfl))) (fun _ _ _ _ _ => pts_nil) (fun _ _ _ _ _ => (pe_lst (pa_cons (pe_ix (xL K) (pv 5) pe_int (fun _ _ => rfl)) (pa_cons (pe_lc (own := [("_law_x", 3), ("_law_kind", 4)]) (by rfl) S_sLawTyped.nd (piL K (pe_ix (xL K) (pv 5) pe_int (fun _ _ => rfl))) (blkOk_by (own := [("_law_x", 3), ("_law_kind", 4)]) (N := ["_law_p", "_law_table_here", "_law_functions", "_law_x", "_law_kind", "_law_f"]) (by kernel_rfl)) (fun _ _ _ _ _ => (pgT K (n := 2) rfl (pgs_cons (pg_name (i := 3) S_sLawTyped.nd rfl (by first | exact Or.inl rfl | exact Or.inr rfl)) (pgs_cons (pg_name (i := 4) S_sLawTyped.nd rfl (by first | exact Or.inl rfl | exact Or.inr rfl)) pgs_nil)))) (fun _ _ _ _ _ => pts_nil) (fun _ _ _ _ _ => (pe_tup (pa_cons (pv 3) (pa_cons (pe_dget (hu_of hr) (pv 1) (pv 3) (fun _ _ => rfl)) pa_nil))))) (pa_cons (pe_call (ok_LawTypedBlock T) (hr.mono (by omega)) rfl (g_law_typed_block T) (D_sLawTypedBlock T).kp (B_sLawTypedBlock T) .nil pass0 (pa_cons (pe_ix (xL K) (pv 5) pe_int (fun _ _ => rfl)) (pa_cons (pv 1) pa_nil))) pa_nil))))))
  (pss_one (ps_ret (pe_lst (pa_cons (pv 2) (pa_cons (pe_call (ok_LawTypedBlock T) (hr.mono (by omega)) rfl (g_law_typed_block T) (D_sLawTypedBlock T).kp (B_sLawTypedBlock T) .nil pass0 (pa_cons (pe_ix (xL K) (pv 0) pe_int (fun _ _ => rfl)) (pa_cons (pv 1) pa_nil))) pa_nil)))))), ?_⟩
  rintro ⟨p, tb⟩ J0 Q G ⟨v1, v2, rfl, ⟨a, fv, mv, rfl, ha, ⟨af, fx, rfl, haf, hfx⟩, hm⟩, ⟨dt, kvs, rfl, hdt, he⟩, hok⟩ kk
  dsimp only at *
  walk_at "go"
  refine k_lcFM (R := rLFn rDp) (S := rLFn rTy) (fun g => some (typF tb g)) (by assumption) haf hfx (by have := hok.l2.1; omega) ?_ ?_
  · intro f x J1 H1 Ny Nn hf hx ej g1 hy hn
    obtain ⟨c, pv, bv, rfl, hc, ⟨ap, px, rfl, hap, hpx⟩, hbv⟩ := hx
    walk_at "go"
    refine ⟨rfl, ?_⟩
    walk_at "go"
    refine k_lcFM (R := rPar rDp) (S := rPar rTy) (fun q => some (q.1, tyOf tb q.1)) (by assumption) hap hpx (by have := (hok.l1 f hf).1; omega) ?_ ?_
    · intro q x J2 H2 Ny2 Nn2 hq hx ej2 g2 hy2 hn2
      obtain ⟨e, kv, rfl, hea, hkv⟩ := hx
      obtain ⟨u, hu⟩ := Option.isSome_iff_exists.mp (hok.ps f hf q hq)
      obtain ⟨v, ev, hv⟩ := he.some hu
      walk_at "go"
      refine ⟨rfl, ?_⟩
      walk_at "go"
      refine hy2 _ _ _ _ rfl (by assumption) ⟨_, _, rfl, by assumption, ?_⟩
      unfold tyOf
      rw [hu]
      walk_at "up"
    · intro D acc J2 H2 hD ej2 hDJ hacc g2 G2
      walk_at "go"
      refine use_sp (by assumption) (f.body, tb) ⟨_, _, rfl, Up.up ej2 hbv, ⟨_, _, rfl, by walk_at "get", Up.up (ej.trans ej2) he⟩, (hok.l1 f hf).2, hok.b f hf⟩ (fun _ z => z.elim) ?_
      rintro v J3 H3 e3 g3 G3 hv
      dsimp only at hv
      walk_at "go"
      rename_i L J4 H4 hL ej4 hLJ g4 G4
      refine hy _ _ _ _ rfl ((g2.step g3).step g4) ⟨_, _, _, rfl, hLJ, ⟨D, acc, rfl, by walk_at "get", ?_⟩, Up.up ej4 hv⟩
      have : f.ps.filterMap (fun q => some (q.1, tyOf tb q.1)) = (typF tb f).ps := by simp [typF]
      rw [← this]
      exact Up.up (e3.trans ej4) hacc
  · intro D acc J1 H1 hD ej hDJ hacc g1 G1
    walk_at "go"
    refine use_sp (by assumption) (p.main, tb) ⟨_, _, rfl, Up.up ej hm, ⟨_, _, rfl, by walk_at "get", Up.up ej he⟩, hok.l2.2, hok.m⟩ (fun _ z => z.elim) ?_
    rintro v J3 H3 e3 g3 G3 hv
    dsimp only at hv
    walk_at "go"
    rename_i L J4 H4 hL ej4 hLJ g4 G4
    refine kk _ _ _ (by assumption) ⟨_, _, _, rfl, hLJ, ⟨D, acc, rfl, by walk_at "get", ?_⟩, Up.up ej4 hv⟩
    have : p.fns.filterMap (fun g => some (typF tb g)) = (typP tb p).fns := by simp [typP]
    rw [← this]
    exact Up.up (e3.trans ej4) hacc
def openT (p : Pg Nat) : Tys := (kindsOf p).map fun q => (q.1, List.replicate (q.2 + 1) "rw")
structure KdOk (p : Pg Nat) : Prop where
  nd : ((kindsOf p).map (·.1)).Nodup
  l : (kindsOf p).length ≤ 1000
  f : p.fns.length ≤ 1000
  d : ∀ q ∈ kindsOf p, q.2 ≤ 4
theorem nodup_pre2 {α : Type} {l l' : List (Str × α)} {x : Str × α} {r : List (Str × α)} (h : (l.map (·.1)).Nodup) (e : l = l' ++ x :: r) : l'.lookup x.1 = none := by
  cases q : l'.lookup x.1 with
  | none => rfl
  | some d =>
    have h1 := lookup_mem q
    subst e
    rw [List.map_append, List.nodup_append] at h
    exact absurd rfl (h.2.2 x.1 (List.mem_map_of_mem (f := (·.1)) h1) x.1 (by simp))
theorem split_at {α : Type} {l : List α} {i : Nat} {x : α} (h : l[i]? = some x) : l = l.take i ++ x :: l.drop (i + 1) := by
  rw [← (List.getElem?_eq_some_iff.mp h).2, ← List.drop_eq_getElem_cons (List.getElem?_eq_some_iff.mp h).1, List.take_append_drop]
/-- an entry of the dict, by its place -/
theorem entR_at {α : Type} {R : α → V → Hp → Prop} {ts : List (Str × α)} {kvs : List (Key × V)} {J : Hp} (h : EntR R ts kvs J) (hn : (ts.map (·.1)).Nodup) {i : Nat} {key : Key} {v : V} (e : kvs[i]? = some (key, v)) :
    ∃ t, ts[i]? = some t ∧ key = Sum.inr t.1 ∧ valV kvs (Sum.inr t.1 : Key) = some v ∧ R t.2 v J ∧ (ts.take i).lookup t.1 = none := by
  have hi : i < ts.length := by rw [← h.1]; exact (List.getElem?_eq_some_iff.mp e).1
  obtain ⟨h1, h2⟩ := h.2 i _ _ e (List.getElem?_eq_getElem hi)
  have hp := nodup_pre2 hn (split_at (List.getElem?_eq_getElem hi))
  refine ⟨ts[i], List.getElem?_eq_getElem hi, h1, ?_, h2, hp⟩
  have hk : EntR R (ts.take i) (kvs.take i) J := by
    refine ⟨by simp [h.1], fun j a b ha hb => ?_⟩
    rw [List.getElem?_take] at ha hb
    split at ha
    · rename_i hj
      rw [if_pos hj] at hb
      exact h.2 j a b ha hb
    · cases ha
  have hn := hk.none hp
  rw [split_at e]
  simp only at h1
  subst h1
  have ha := valV_any (Sum.inr (ts[i]).1 : Key) (kvs.take i)
  rw [hn] at ha
  have ha2 : ∀ z ∈ kvs.take i, ¬ (z.1 = (Sum.inr (ts[i]).1 : Key)) := by
    intro z hz e
    have : (kvs.take i).any (fun kv => decide (kv.1 = (Sum.inr (ts[i]).1 : Key))) = true := List.any_eq_true.mpr ⟨z, hz, by simpa using e⟩
    rw [ha] at this
    cases this
  unfold valV
  rw [List.find?_append, List.find?_eq_none.mpr (fun z hz => by simpa using ha2 z hz)]
  simp [List.find?_cons]
theorem k_repE {M0 : Addr → Prop} {J0 H0 J H : Hp} {Q : VK} {l : Addr} {s : Str} {n : Nat} (G : Gr M0 J0 H0 J H) (hl : J l = some (.tup [.str s])) (h1 : 1 ≤ n) (h2 : n ≤ 1000)
    (k : ∀ p J' H', Ex J J' → J' p = some (.tup ((List.replicate n s).map V.str)) → Gr No J H J' H' → Gr M0 J0 H0 J' H' → Q (.ref p) H') : rRep1 K (.ref l) (.int (n : Int)) H Q := by
  by_cases hn : n = 1
  · subst hn
    exact .inl ⟨l, _, rfl, rfl, SqT.of (G.jh _ _ hl), k l J H (Ex.refl J) hl (Gr.refl G.jh) G⟩
  · refine .inr ⟨l, n, _, rfl, rfl, SqT.of (G.jh _ _ hl), by simp, by omega, by omega, by simp, fun p hp => k p (upd J p _) _ (Gr.alloc (M := No) G.jh hp).jj ?_ (Gr.alloc G.jh hp) (G.step (Gr.alloc G.jh hp))⟩
    rw [upd_same]
    congr 2
    rw [Int.toNat_natCast, List.map_replicate]
    simp
abbrev spLawOpen : Sp := SpD (Pg Nat) (fun _ => No) (fun a vs J _ => ∃ v1, vs = [v1] ∧ rLPg rDp a v1 J ∧ KdOk a) (fun a v J _ => rDic rTy (openT a) v J)
theorem ok_LawOpen (T : Good K mg) : FnOk P w K mg base CX0 2 (He.ga K "_law_open") (fdOf K (He.ga K "_law_open")) ["_law_p"] spLawOpen := by
  refine sp_ok (k := 1) (D_sLawOpen T) S_sLawOpen (fun a vs J H h => by obtain ⟨_, rfl, _⟩ := h; rfl) (fun cdv Ar outer s H0 vs E hr => ?_)
  refine ⟨_, (pss_cons (ps_set (i := 1) S_sLawOpen.nd rfl (by first | exact Or.inl rfl | exact Or.inr rfl) (pe_call (ok_LawKinds T) (hr.mono (by omega)) rfl (g_law_kinds T) (D_sLawKinds T).kp (B_sLawKinds T) .nil pass0 (pa_cons (pv 0) pa_nil)))
  (pss_cons (ps_set (i := 2) S_sLawOpen.nd rfl (by first | exact Or.inl rfl | exact Or.inr rfl) pe_dnewK)
  (pss_cons (ps_lock (ps_for PassesOwn.never rfl (pi_keys (pv 1)) (pg_name (i := 3) S_sLawOpen.nd rfl (by first | exact Or.inl rfl | exact Or.inr rfl))
  (pss_one (ps_dput (hu_of hr) (pv 2) (pv 3) (pe_op (op_repT1 K) (pe_tup (pa_cons pe_str pa_nil)) (pe_op op_add (pe_dget (hu_of hr) (pv 1) (pv 3) (fun _ _ => rfl)) pe_int)) rfl))))
  (pss_one (ps_ret (pv 2)))))), ?_⟩
  rintro p J0 Q G ⟨v1, rfl, hp, hok⟩ kk
  have zs := sizeLine_eq
  walk_at "go"
  refine use_sp (by assumption) (p, H0) ⟨_, rfl, hp, rfl, hok.nd, hok.l, hok.f⟩ (fun _ z => z.elim) ?_
  rintro v J1 H1 e1 g1 G1 ⟨d, kvs, rfl, hd0, md, hk⟩
  dsimp only at *
  walk_at "go"
  refine k_dictM (by assumption) ?_
  intro t H2 ht1 ht0 mt g2 G2
  have hdt : ¬ d = t := md.nen ht1
  have md := md.up g2
  walk_at "go"
  refine k_lock (by assumption) md (.inr hd0) ?_
  intro od H3 g3 G3 md3
  have mt3 := mt.step g3 (fun e => hdt e.symm)
  walk_at "go"
  refine k_forK (by assumption) md3 (fun i σ' J' H' => ∃ w kv, σ' = [some v1, some (.ref d), some (.ref t), w] ∧ Mu J' H' t (.dK kv) ∧ EntR rTy ((openT p).take i) kv J') ⟨_, _, rfl, mt3, EntR.nil⟩ ?_ ?_
  · rintro i key v σ' J4 H4 hkv ej4 g4 md4 ⟨w, kv, rfl, mt4, he4⟩
    obtain ⟨q, hq, rfl, hv, rfl, hnew⟩ := entR_at hk hok.nd hkv
    have hd := hok.d q (List.mem_of_getElem? hq)
    have hi : i < (kindsOf p).length := (List.getElem?_eq_some_iff.mp hq).1
    dsimp only [kV]
    walk_at "go"
    refine k_repE (n := q.2 + 1) (by assumption) (by assumption) (by omega) (by omega) ?_
    intro r J5 H5 e5 hr g5 G5
    have mt5 := (mt4.up (by assumption)).up g5
    have md5 := (md4.up (by assumption)).up g5
    walk_at "go"
    refine k_dputM (by assumption) mt5 (.inr ht0) (by rw [he4.1]; simp [openT]; have := hok.l; omega) ?_
    intro H6 g6 G6 mt6
    refine ⟨_, Ex.trans (by assumption) (Ex.trans (by assumption) e5), G6, md5.step g6 hdt, _, _, rfl, mt6, ?_⟩
    have e0 : (openT p)[i]? = some (q.1, (List.replicate (q.2 + 1) "rw" : Ty)) := by unfold openT; rw [List.getElem?_map, hq]; rfl
    rw [List.take_add_one, e0]
    refine entR_put (t := (List.replicate (q.2 + 1) "rw" : Ty)) (Up.up (Ex.trans (by assumption) e5) he4) ?_ ⟨r, rfl, hr, by simp; omega⟩
    unfold openT
    rw [← List.map_take]
    cases e9 : ((kindsOf p).take i |>.map fun q => (q.1, List.replicate (q.2 + 1) (Str.ofString "rw"))).lookup q.1 with
    | none => rfl
    | some z =>
      have h1 := lookup_mem e9
      obtain ⟨y, hy, ey⟩ := List.mem_map.mp h1
      have h2 := nodup_pre2 hok.nd (split_at hq)
      rw [List.lookup_eq_none_iff] at h2
      have h3 := h2 y hy
      have e3 : y.1 = q.1 := (Prod.mk.inj ey).1
      rw [e3] at h3
      simp at h3
  · rintro σ' J4 H4 ej4 g4 md4 ⟨w, kv, rfl, mt4, he4⟩
    refine ⟨md4.h, ?_⟩
    have hl : kvs.length = (openT p).length := by rw [hk.1]; simp [openT]
    rw [hl, List.take_of_length_le (Nat.le_refl _)] at he4
    have g5 := mut_one (o' := .dK kvs) g4 md4
    have mt5 := mt4.step g5 (fun e => hdt e.symm)
    walk_at "go"
    refine kk _ _ _ ((G.stepM (Gr.trans (g4.mut (o := .dK kvs) md4.j (.inr hd0)) (Gr.refl (g4.mut (o := .dK kvs) md4.j (.inr hd0)).jh)) (fun _ z => .inl z)).know mt5.j mt5.h ht0) ⟨t, kv, rfl, upd_same, Up.up (ex_know mt5.j) he4⟩
end Rk
namespace Rk
open PySem PySem.Spec PyProof.Rows L2
variable {P : Program} {w : World} {K : PySem.W.Frag} {mg : Str → Option Value} {base : Heap}
/-! ### drawing -/
/-- the box: a row of numbers and a place in it -/
def Box (b : Addr) (J H : Hp) : Prop := ∃ (r : Addr) (at_ : Nat) (xs : List Int), Mu J H b (.lst [.ref r, .int (at_ : Int)]) ∧ J r = some (.lst (xs.map V.int))
theorem Box.step {M : Addr → Prop} {J H J1 H1 : Hp} {b : Addr} (x : Box b J H) (g : Gr M J H J1 H1) (n : ¬ M b) : Box b J1 H1 := by
  obtain ⟨r, a, xs, m, h⟩ := x
  exact ⟨r, a, xs, m.step g n, g.jj _ _ h⟩
theorem Box.up {J H J1 H1 : Hp} {b : Addr} (x : Box b J H) (g : Gr No J H J1 H1) : Box b J1 H1 := x.step g fun z => z
abbrev spLawDraw : Sp := SpD (Addr × Nat) (fun a b => b = a.1) (fun a vs J H => ∃ v1 v2, vs = [v1, v2] ∧ v1 = .ref a.1 ∧ v2 = .int (a.2 : Int) ∧ Box a.1 J H ∧ 0 < a.2) (fun a v J H => ∃ k : Nat, k < a.2 ∧ v = .int (k : Int) ∧ Box a.1 J H)
theorem emod_nat (i : Int) {n : Nat} (h : 0 < n) : ∃ k : Nat, k < n ∧ i % (n : Int) = (k : Int) := by
  have h1 := Int.emod_nonneg i (b := (n : Int)) (by omega)
  have h2 := Int.emod_lt_of_pos i (b := (n : Int)) (by omega)
  exact ⟨(i % (n : Int)).toNat, by omega, by omega⟩
theorem ok_LawDraw (T : Good K mg) : FnOk P w K mg base CX0 1 (He.ga K "_law_draw") (fdOf K (He.ga K "_law_draw")) ["_law_box", "_law_many"] spLawDraw := by
  refine sp_ok (k := 0) (D_sLawDraw T) S_sLawDraw (fun a vs J H h => by obtain ⟨_, _, rfl, _⟩ := h; rfl) (fun cdv Ar outer s H0 vs E hr => ?_)
  refine ⟨_, (pss_cons (ps_set (i := 2) S_sLawDraw.nd rfl (by first | exact Or.inl rfl | exact Or.inr rfl) (pe_ix (xL K) (pv 0) pe_int (fun _ _ => rfl)))
  (pss_cons (ps_asg (pe_op op_add (pv 2) pe_int) (pg_sub (pv 0) pe_int set_list))
  (pss_cons (ps_if (pt_cmpR op_lt (pv 2) (pe_callB (cLen K) (by rfl) (f_len T) (show bootBuiltins "len" = some (.builtin "len") by decide +kernel) (pa_cons (pe_ix (xL K) (pv 0) pe_int (fun _ _ => rfl)) pa_nil)) (nomark _)) (pss_one (ps_ret (pe_op op_mod (pe_callTy c_int (by rfl) (f_int T) (show bootBuiltins "int" = some (.type "int") by decide +kernel) (pa_cons (pe_ix (xL K) (pe_ix (xL K) (pv 0) pe_int (fun _ _ => rfl)) (pv 2) (fun _ _ => rfl)) pa_nil)) (pv 1)))) pss_nil)
  (pss_one (ps_ret (pe_op op_mod (pe_callTy c_int (by rfl) (f_int T) (show bootBuiltins "int" = some (.type "int") by decide +kernel) (pa_cons (pe_op op_add (pe_op op_mul (pv 2) pe_int) pe_int) pa_nil)) (pv 1))))))), ?_⟩
  rintro ⟨b, n⟩ J0 Q G ⟨_, _, rfl, rfl, rfl, ⟨r, at_, xs, mb, hr⟩, hn⟩ kk
  dsimp only at *
  walk_at "go"
  refine k_setL (j := 1) G mb (.inl rfl) rfl ?_
  intro H1 g1 G1 mb1
  walk_at "go"
  refine if2 (fun q => ?_) (fun q => ?_)
  · have hlt : at_ < xs.length := by simp at q; omega
    have hx : (xs.map V.int)[at_]? = some (V.int xs[at_]) := by rw [List.getElem?_map, List.getElem?_eq_getElem hlt]; rfl
    walk_at "go"
    refine k_mod (by omega) ?_
    walk_at "go"
    obtain ⟨k, hk, e⟩ := emod_nat xs[at_] hn
    rw [e]
    exact kk _ _ _ G1 ⟨k, hk, rfl, r, at_ + 1, xs, by simpa using mb1, hr⟩
  · walk_at "go"
    refine k_I (Or.inr (by omega)) ?_
    walk_at "go"
    refine k_mod (by omega) ?_
    walk_at "go"
    obtain ⟨k, hk, e⟩ := emod_nat ((at_ : Int) * 5 + 1) hn
    rw [e]
    exact kk _ _ _ G1 ⟨k, hk, rfl, r, at_ + 1, xs, by simpa using mb1, hr⟩
abbrev spLawRight : Sp := SpD Addr (fun a b => b = a) (fun a vs J H => ∃ v1, vs = [v1] ∧ v1 = .ref a ∧ Box a J H) (fun a v J H => ∃ s : Str, IsRt s ∧ v = .str s ∧ Box a J H)
theorem ok_LawRight (T : Good K mg) : FnOk P w K mg base CX0 2 (He.ga K "_law_right") (fdOf K (He.ga K "_law_right")) ["_law_box"] spLawRight := by
  refine sp_ok (k := 1) (D_sLawRight T) S_sLawRight (fun a vs J H h => by obtain ⟨_, rfl, _⟩ := h; rfl) (fun cdv Ar outer s H0 vs E hr => ?_)
  refine ⟨_, (pss_one (ps_ret (pe_ix (xL K) (pe_lst (pa_cons pe_str (pa_cons pe_str (pa_cons pe_str (pa_cons pe_str (pa_cons pe_str (pa_cons pe_str pa_nil))))))) (pe_call (ok_LawDraw T) (hr.mono (by omega)) rfl (g_law_draw T) (D_sLawDraw T).kp (B_sLawDraw T) .nil pass0 (pa_cons (pv 0) (pa_cons pe_int pa_nil))) (fun _ _ => rfl)))), ?_⟩
  rintro b J0 Q G ⟨_, rfl, rfl, hb⟩ kk
  walk_at "go"
  rename_i p J1 H1 hp e1 hJ g1 G1
  refine use_sp (by assumption) (b, 6) ⟨_, _, rfl, rfl, rfl, hb.up g1, Nat.succ_pos 5⟩ (fun _ z => .inl z) ?_
  rintro v J2 H2 e2 g2 G2 ⟨k, hk, rfl, hb2⟩
  dsimp only at *
  have fin : ∀ (s : Str), IsRt s → ([V.str "rw", .str "rw", .str "r", .str "w", .str "-", .str "rw"] : List V)[k]? = some (.str s) → rIxL K (.ref p) (.int (k : Int)) H2 Q := by
    intro s hs hx
    refine k_ixL (by walk_at "get") (atI_nat hx) (kk _ _ _ G2 ⟨s, hs, rfl, hb2⟩)
  have h6 : k = 0 ∨ k = 1 ∨ k = 2 ∨ k = 3 ∨ k = 4 ∨ k = 5 := by omega
  rcases h6 with rfl | rfl | rfl | rfl | rfl | rfl
  · exact fin "rw" (.inl rfl) rfl
  · exact fin "rw" (.inl rfl) rfl
  · exact fin "r" (.inr (.inl rfl)) rfl
  · exact fin "w" (.inr (.inr (.inl rfl))) rfl
  · exact fin "-" (.inr (.inr (.inr rfl))) rfl
  · exact fin "rw" (.inl rfl) rfl
abbrev spLawRights : Sp := SpD (Addr × Nat) (fun a b => b = a.1) (fun a vs J H => ∃ v1 v2, vs = [v1, v2] ∧ v1 = .ref a.1 ∧ v2 = .int (a.2 : Int) ∧ Box a.1 J H ∧ a.2 ≤ 6) (fun a v J H => ∃ t : Ty, t.length = a.2 ∧ (∀ r ∈ t, IsRt r) ∧ rTy t v J ∧ Box a.1 J H)
theorem ok_LawRights (T : Good K mg) : FnOk P w K mg base CX0 3 (He.ga K "_law_rights") (fdOf K (He.ga K "_law_rights")) ["_law_box", "_law_many"] spLawRights := by
  refine sp_ok (k := 2) (D_sLawRights T) S_sLawRights (fun a vs J H h => by obtain ⟨_, _, rfl, _⟩ := h; rfl) (fun cdv Ar outer s H0 vs E hr => ?_)
  refine ⟨_, (pss_one (ps_ret (pe_callTy (cTup K) (by rfl) (f_tuple T) (show bootBuiltins "tuple" = some (.type "tuple") by decide +kernel) (pa_cons (pe_lc (own := [("_law_k", 2)]) (by rfl) S_sLawRights.nd (pi_range1 (by rfl) (f_range T) (pa_cons (pv 1) pa_nil)) (blkOk_by (own := [("_law_k", 2)]) (N := ["_law_box", "_law_many", "_law_k"]) (sc := defScope sLawRights) (by decide +kernel)) (fun _ _ _ _ _ => (pg_name (i := 2) S_sLawRights.nd rfl (by first | exact Or.inl rfl | exact Or.inr rfl))) (fun _ _ _ _ _ => pts_nil) (fun _ _ _ _ _ => (pe_call (ok_LawRight T) (hr.mono (by omega)) rfl (g_law_right T) (D_sLawRight T).kp (B_sLawRight T) .nil pass0 (pa_cons (pv 0) pa_nil)))) pa_nil)))), ?_⟩
  rintro ⟨b, n⟩ J0 Q G ⟨_, _, rfl, rfl, rfl, hb, hn⟩ kk
  dsimp only at *
  walk_at "go"
  refine k_iR1E (by omega) ?_
  rw [Int.toNat_natCast]
  refine k_lcW (M1 := fun z => z = b) (walk_range (lo := 0) (n := n)) (by assumption) (by omega) (fun _ z => .inl z) (fun z hz => by subst hz; obtain ⟨_, _, _, m, _⟩ := hb; rw [m.h]; simp) (fun i acc J' H' => Box b J' H' ∧ ∃ t : Ty, t.length = i ∧ (∀ r ∈ t, IsRt r) ∧ acc = t.map V.str) ⟨hb, [], rfl, by simp, rfl⟩ ?_ ?_ (fun _ _ _ _ => trivial) ?_ ?_
  · rintro D i acc J1 H1 o hD hD1 ⟨⟨r, a, xs, m, h⟩, k⟩
    exact ⟨⟨r, a, xs, m.other (fun e => by subst e; obtain ⟨_, _, _, m0, _⟩ := hb; rw [m0.h] at hD; cases hD), h⟩, k⟩
  · rintro D i acc J1 H1 o hD hD1 ⟨⟨r, a, xs, m, h⟩, k⟩
    have hne : b ≠ D := fun e => by subst e; obtain ⟨_, _, _, m0, _⟩ := hb; rw [m0.h] at hD; cases hD
    exact ⟨⟨r, a, xs, ⟨by rw [upd_ne hne]; exact m.j, m.h⟩, ex_know hD1 _ _ h⟩, k⟩
  · rintro i x acc J1 H1 H1' Ny Nn hi hl ej g g1 ⟨hb1, t, ht, hr, rfl⟩ ⟨rfl, rfl⟩ hy hnn
    walk_at "go"
    refine ⟨rfl, ?_⟩
    walk_at "go"
    refine use_sp (Gr.refl g.jh : Gr (fun z => z = b) J1 H1' J1 H1') b ⟨_, rfl, rfl, hb1⟩ (fun _ z => .inl z) ?_
    rintro v J2 H2 e2 g2 G2 ⟨s, hs, rfl, hb2⟩
    refine hy _ _ _ g2 ⟨hb2, t ++ [s], by simp [ht], fun r hr2 => ?_, by simp⟩
    rcases List.mem_append.mp hr2 with q | q
    · exact hr r q
    · have : r = s := by simpa using q
      exact this ▸ hs
  · rintro D acc J1 H1 hD ej hDJ g1 G1 hl ⟨hb1, t, ht, hr, rfl⟩
    walk_at "go"
    rename_i p J2 H2 hp e2 hJ g2 G2
    exact kk _ _ _ G2 ⟨t, ht, hr, ⟨p, rfl, hJ, by omega⟩, hb1.up g2⟩
end Rk
namespace Rk
open PySem PySem.Spec PyProof.Rows L2
variable {P : Program} {w : World} {K : PySem.W.Frag} {mg : Str → Option Value} {base : Heap}
theorem k_iR2E {a b : Int} {P : Int → Int → Prop} (h : (-(2 ^ 62) ≤ a ∧ a < 2 ^ 62 ∧ -(2 ^ 62) ≤ b ∧ b < 2 ^ 62)) (k : P a b) : ∃ i j : Int, [V.int a, V.int b] = [.int i, .int j] ∧ (-(2 ^ 62) ≤ i ∧ i < 2 ^ 62 ∧ -(2 ^ 62) ≤ j ∧ j < 2 ^ 62) ∧ P i j := ⟨a, b, rfl, h, k⟩
theorem k_lenQ {H : Hp} {Q : VK} {p : Addr} {xs : List V} (h : SqL K H p xs) (k : Q (.int (xs.length : Int)) H) : rLen K [.ref p] H Q := ⟨.ref p, xs.length, rfl, .inl ⟨xs, h, rfl⟩, k⟩
theorem k_ixQ {H : Hp} {Q : VK} {p : Addr} {xs : List V} {n : Int} {v : V} (h : SqL K H p xs) (hx : atI xs n = some v) (k : Q v H) : rIxL K (.ref p) (.int n) H Q := ⟨p, xs, n, v, rfl, rfl, h, hx, k⟩
theorem sq_up {J H : Hp} {a : Addr} {xs : List V} (e : Ex J H) (h : SqL K J a xs) : SqL K H a xs := Same.seq e.same h
abbrev spLawCell (K : PySem.W.Frag) : Sp := SpD (Addr × List Int × Nat) (fun _ => No) (fun a vs J H => ∃ v1 v2, vs = [v1, v2] ∧ v1 = .ref a.1 ∧ v2 = .int (a.2.2 : Int) ∧ SqL K J a.1 (a.2.1.map V.int)) (fun a v J H => ∃ i : Int, v = .int i)
theorem ok_LawCell (T : Good K mg) : FnOk P w K mg base CX0 1 (He.ga K "_law_cell") (fdOf K (He.ga K "_law_cell")) ["_law_script", "_law_k"] (spLawCell K) := by
  refine sp_ok (k := 0) (D_sLawCell T) S_sLawCell (fun a vs J H h => by obtain ⟨_, _, rfl, _⟩ := h; rfl) (fun cdv Ar outer s H0 vs E hr => ?_)
  refine ⟨_, (pss_cons (ps_if (pt_cmpR op_lt (pv 1) (pe_callB (cLen K) (by rfl) (f_len T) (show bootBuiltins "len" = some (.builtin "len") by decide +kernel) (pa_cons (pv 0) pa_nil)) (nomark _)) (pss_one (ps_ret (pe_ix (xL K) (pv 0) (pv 1) (fun _ _ => rfl)))) pss_nil)
  (pss_one (ps_ret pe_int))), ?_⟩
  rintro ⟨b, xs, k⟩ J0 Q G ⟨_, _, rfl, rfl, rfl, hb⟩ kk
  dsimp only at *
  walk_at "go"
  refine k_lenQ (sq_up G.jh hb) ?_
  walk_at "go"
  refine if2 (fun q => ?_) (fun q => ?_)
  · have hlt : k < xs.length := by simp at q; omega
    have hx : (xs.map V.int)[k]? = some (V.int xs[k]) := by rw [List.getElem?_map, List.getElem?_eq_getElem hlt]; rfl
    walk_at "go"
    refine k_ixQ (sq_up G.jh hb) (atI_nat hx) ?_
    exact kk _ _ _ G ⟨_, rfl⟩
  · walk_at "go"
    exact kk _ _ _ G ⟨_, rfl⟩
abbrev spLawRow (K : PySem.W.Frag) : Sp := SpD (Addr × List Int) (fun _ => No) (fun a vs J H => ∃ v1 v2 v3, vs = [v1, v2, v3] ∧ v1 = .ref a.1 ∧ v2 = .int 0 ∧ v3 = .int 50 ∧ SqL K J a.1 (a.2.map V.int)) (fun a v J H => ∃ (r : Addr) (ys : List Int), v = .ref r ∧ J r = some (.lst (ys.map V.int)))
theorem ok_LawRow (T : Good K mg) : FnOk P w K mg base CX0 2 (He.ga K "_law_row") (fdOf K (He.ga K "_law_row")) ["_law_script", "_law_first", "_law_last"] (spLawRow K) := by
  refine sp_ok (k := 1) (D_sLawRow T) S_sLawRow (fun a vs J H h => by obtain ⟨_, _, _, rfl, _⟩ := h; rfl) (fun cdv Ar outer s H0 vs E hr => ?_)
  refine ⟨_, (pss_cons (ps_set (i := 3) S_sLawRow.nd rfl (by first | exact Or.inl rfl | exact Or.inr rfl) (pe_lst pa_nil))
  (pss_cons (ps_for PassesOwn.never rfl (pi_range2 (by rfl) (f_range T) (pa_cons (pv 1) (pa_cons (pv 2) pa_nil))) (pg_name (i := 4) S_sLawRow.nd rfl (by first | exact Or.inl rfl | exact Or.inr rfl))
  (pss_cons (ps_set (i := 5) S_sLawRow.nd rfl (by first | exact Or.inl rfl | exact Or.inr rfl) (pe_call (ok_LawCell T) (hr.mono (by omega)) rfl (g_law_cell T) (D_sLawCell T).kp (B_sLawCell T) .nil pass0 (pa_cons (pv 0) (pa_cons (pv 4) pa_nil))))
  (pss_cons (ps_set (i := 5) S_sLawRow.nd rfl (by first | exact Or.inl rfl | exact Or.inr rfl) (pe_op op_add (pe_callB c_abs (by rfl) (f_abs T) (show bootBuiltins "abs" = some (.builtin "abs") by decide +kernel) (pa_cons (pe_op op_mul pe_int (pv 5)) pa_nil)) (pe_callTy c_int (by rfl) (f_int T) (show bootBuiltins "int" = some (.type "int") by decide +kernel) (pa_cons (pe_cmpR op_lt (pv 5) pe_int (nomark _)) pa_nil))))
  (pss_one (ps_if (pt_cmpR op_gt (pv 5) (pe_op op_pow pe_int pe_int) (nomark _)) (pss_one (ps_for PassesOwn.never rfl (pi_range1 (by rfl) (f_range T) (pa_cons pe_int pa_nil)) (pg_name (i := 6) S_sLawRow.nd rfl (by first | exact Or.inl rfl | exact Or.inr rfl))
  (pss_one (ps_if (pt_cmpR op_gt (pv 5) pe_int (nomark _)) (pss_cons (ps_expr (pe_bm PySem.F.plainAttrs_list PySem.F.slot_list_append PySem.F.type_list_append mt_append (pv 3) (pa_cons (pe_op op_mod (pe_callTy c_int (by rfl) (f_int T) (show bootBuiltins "int" = some (.type "int") by decide +kernel) (pa_cons (pv 5) pa_nil)) pe_int) pa_nil)))
  (pss_one (ps_set (i := 5) S_sLawRow.nd rfl (by first | exact Or.inl rfl | exact Or.inr rfl) (pe_op op_fdiv (pv 5) pe_int)))) pss_nil)))) (pss_one (ps_for PassesOwn.never rfl (pi_range1 (by rfl) (f_range T) (pa_cons pe_int pa_nil)) (pg_name (i := 6) S_sLawRow.nd rfl (by first | exact Or.inl rfl | exact Or.inr rfl))
  (pss_cons (ps_set (i := 5) S_sLawRow.nd rfl (by first | exact Or.inl rfl | exact Or.inr rfl) (pe_op op_mod (pe_callTy c_int (by rfl) (f_int T) (show bootBuiltins "int" = some (.type "int") by decide +kernel) (pa_cons (pe_op op_add (pe_op op_add (pe_op op_mul (pv 5) pe_int) (pe_op op_mul pe_int (pe_op op_add (pv 4) (pv 6)))) pe_int) pa_nil)) pe_int))
  (pss_one (ps_expr (pe_bm PySem.F.plainAttrs_list PySem.F.slot_list_append PySem.F.type_list_append mt_append (pv 3) (pa_cons (pe_op op_mod (pe_callTy c_int (by rfl) (f_int T) (show bootBuiltins "int" = some (.type "int") by decide +kernel) (pa_cons (pe_op op_fdiv (pv 5) pe_int) pa_nil)) pe_int) pa_nil))))))))))))
  (pss_one (ps_ret (pv 3))))), ?_⟩
  rintro ⟨b, xs⟩ J0 Q G ⟨_, _, _, rfl, rfl, rfl, rfl, hb⟩ kk
  dsimp only at *
  have zs := sizeLine_eq
  walk_at "go"
  refine k_lstM (by assumption) (by decide) ?_
  intro l H1 hl1 hl0 ml g1 G1
  walk_at "go"
  refine k_iR2E (by decide) ?_
  rw [show ((50 : Int) - 0).toNat = 50 from rfl]
  refine k_forR (by assumption) (fun i σ' J' H' => ∃ w4 w5 w6 ac, σ' = [some (.ref b), some (.int 0), some (.int 50), some (.ref l), w4, w5, w6] ∧ Mu J' H' l (.lst (ac.map V.int)) ∧ ac.length ≤ 100 * i) ⟨_, _, _, [], rfl, ml, by simp⟩ ?_ ?_
  · rintro i σ' J2 H2 hi ej2 g2 ⟨w4, w5, w6, ac, rfl, ml2, hac⟩
    walk_at "go"
    refine use_sp (by assumption) (b, xs, i) ⟨_, _, rfl, rfl, rfl, sq_up ej2 hb⟩ (fun _ z => z.elim) ?_
    rintro v J3 H3 e3 g3 G3 ⟨c, rfl⟩
    have ml3 := ml2.up g3
    walk_at "go"
    refine k_I (Or.inl (by decide)) ?_
    walk_at "go"
    refine k_I ⟨by decide, by decide, by decide⟩ ?_
    walk_at "go"
    refine if2 (fun q => ?_) (fun q => ?_)
    · walk_at "go"
      refine k_iR1E (n := 60) (by decide) ?_
      rw [Int.toNat_natCast]
      refine k_forR (by assumption) (fun j σ' J' H' => ∃ c w6 ac, σ' = [some (.ref b), some (.int 0), some (.int 50), some (.ref l), some (.int (i : Int)), some (.int c), w6] ∧ Mu J' H' l (.lst (ac.map V.int)) ∧ ac.length ≤ 100 * i + j) ⟨_, _, ac, rfl, ml3, hac⟩ ?_ ?_
      · rintro j σ' J4 H4 hj ej4 g4 ⟨c, w6, ac, rfl, ml4, hac⟩
        walk_at "go"
        refine if2 (fun q => ?_) (fun q => ?_)
        · walk_at "go"
          refine k_mod (by decide) ?_
          walk_at "go"
          refine k_app (by assumption) ml4 (.inr hl0) (by simp; omega) ?_
          intro H5 g5 G5 ml5
          walk_at "go"
          refine k_I ⟨by decide, by decide⟩ ?_
          walk_at "go"
          exact ⟨_, ej4, G5, _, _, ac ++ [c % 840], rfl, by simpa using ml5, by simp; omega⟩
        · walk_at "go"
          exact ⟨_, ej4, g4, _, _, ac, rfl, ml4, by omega⟩
      · rintro σ' J4 H4 ej4 g4 ⟨c, w6, ac, rfl, ml4, hac⟩
        walk_at "go"
        exact ⟨_, (ej2.trans e3).trans ej4, g4, _, _, _, ac, rfl, ml4, by omega⟩
    · walk_at "go"
      refine k_iR1E (n := 10) (by decide) ?_
      rw [Int.toNat_natCast]
      refine k_forR (by assumption) (fun j σ' J' H' => ∃ c w6 ac, σ' = [some (.ref b), some (.int 0), some (.int 50), some (.ref l), some (.int (i : Int)), some (.int c), w6] ∧ Mu J' H' l (.lst (ac.map V.int)) ∧ ac.length ≤ 100 * i + j) ⟨_, _, ac, rfl, ml3, hac⟩ ?_ ?_
      · rintro j σ' J4 H4 hj ej4 g4 ⟨c, w6, ac, rfl, ml4, hac⟩
        walk_at "go"
        refine k_I (Or.inr (by decide)) ?_
        walk_at "go"
        refine k_I (Or.inl (by decide)) ?_
        walk_at "go"
        refine k_mod (by decide) ?_
        walk_at "go"
        refine k_I ⟨by decide, by decide⟩ ?_
        walk_at "go"
        refine k_mod (by decide) ?_
        walk_at "go"
        refine k_app (by assumption) ml4 (.inr hl0) (by simp; omega) ?_
        intro H5 g5 G5 ml5
        walk_at "go"
        exact ⟨_, ej4, G5, _, _, ac ++ [_], rfl, by simpa using ml5, by simp; omega⟩
      · rintro σ' J4 H4 ej4 g4 ⟨c, w6, ac, rfl, ml4, hac⟩
        walk_at "go"
        exact ⟨_, (ej2.trans e3).trans ej4, g4, _, _, _, ac, rfl, ml4, by omega⟩
  · rintro σ' J4 H4 ej4 g4 ⟨w4, w5, w6, ac, rfl, ml4, hac⟩
    walk_at "go"
    exact kk _ _ _ (g4.know ml4.j ml4.h (by assumption)) ⟨l, ac, rfl, upd_same⟩
def lts (s : Str) : List Str := s.cps.toList.map fun c => ⟨#[c]⟩
def allNames : List Str := ((lts "abcdefgh").map fun a => (lts "uvxyz").map fun b => a ++ b).flatten
abbrev spLawNames : Sp := SpD Hp (fun _ => No) (fun a vs J H => vs = [] ∧ a = H) (fun a v J H => ∃ l, v = .ref l ∧ a l = none ∧ Mu J H l (.lst (allNames.map V.str)))
theorem ok_LawNames (T : Good K mg) : FnOk P w K mg base CX0 1 (He.ga K "_law_names") (fdOf K (He.ga K "_law_names")) [] spLawNames := by
  refine sp_ok (k := 0) (D_sLawNames T) S_sLawNames (fun a vs J H h => by obtain ⟨rfl, _⟩ := h; rfl) (fun cdv Ar outer s H0 vs E hr => ?_)
  refine ⟨_, (pss_cons (ps_set (i := 0) S_sLawNames.nd rfl (by first | exact Or.inl rfl | exact Or.inr rfl) (pe_lst pa_nil))
  (pss_cons (ps_for PassesOwn.never rfl (pi_str pe_str) (pg_name (i := 1) S_sLawNames.nd rfl (by first | exact Or.inl rfl | exact Or.inr rfl))
  (pss_one (ps_expr (pe_bm PySem.F.plainAttrs_list PySem.F.slot_list_extend PySem.F.type_list_extend mt_extend (pv 0) (pa_cons (pe_lc (own := [("_law_b", 2)]) (by rfl) S_sLawNames.nd (pi_str pe_str) (blkOk_by (own := [("_law_b", 2)]) (N := ["_law_out", "_law_a", "_law_b"]) (sc := defScope sLawNames) (by decide +kernel)) (fun _ _ _ _ _ => (pg_name (i := 2) S_sLawNames.nd rfl (by first | exact Or.inl rfl | exact Or.inr rfl))) (fun _ _ _ _ _ => pts_nil) (fun _ _ _ _ _ => (pe_op o_addS (pv 1) (pv 2)))) pa_nil)))))
  (pss_one (ps_ret (pv 0))))), ?_⟩
  rintro a J0 Q G ⟨rfl, rfl⟩ kk
  have zs := sizeLine_eq
  walk_at "go"
  refine k_lstM (by assumption) (by decide) ?_
  intro l H1 hl1 hl0 ml g1 G1
  walk_at "go"
  refine k_forS (by assumption) (fun i σ' J' H' => ∃ w1 w2, σ' = [some (.ref l), w1, w2] ∧ Mu J' H' l (.lst ((((lts "abcdefgh").take i).map fun a => (lts "uvxyz").map fun b => a ++ b).flatten.map V.str)) ∧ i ≤ 8) ⟨_, _, rfl, ml, by omega⟩ ?_ ?_
  · rintro i c σ' J2 H2 hc ej2 g2 ⟨w1, w2, rfl, ml2, hi⟩
    have hi8 : i < 8 := by
      have := (Array.getElem?_eq_some_iff.mp hc).1
      have e : (Str.ofString "abcdefgh").cps.size = 8 := by decide +kernel
      omega
    walk_at "go"
    refine k_lcS (by assumption) (by decide +kernel) (fun j acc _ => acc = ((lts "uvxyz").take j).map fun b => .str (⟨#[c]⟩ ++ b)) (fun _ _ _ _ _ h => h) rfl ?_ ?_
    · rintro j d acc J3 H3 Ny Nn hd hl ej3 g3 rfl hy hn
      walk_at "go"
      refine ⟨rfl, ?_⟩
      walk_at "go"
      refine k_addS (by rw [zs]; exact Nat.le_of_ble_eq_true rfl) ?_
      refine hy _ _ _ (Gr.refl g3.jh) ?_
      have e : (lts "uvxyz")[j]? = some ⟨#[d]⟩ := by
        unfold lts
        rw [List.getElem?_map, Array.getElem?_toList, hd]
        rfl
      rw [List.take_add_one, e]
      simp
    · rintro D acc J3 H3 hD ej3 hDJ g3 G3 hl inv
      have ml3 := ml2.up g3
      have e5 : (Str.ofString "uvxyz").cps.size = 5 := by decide +kernel
      have e6 : (lts "uvxyz").length = 5 := by decide +kernel
      rw [e5, List.take_of_length_le (by rw [e6]; omega)] at inv
      subst inv
      walk_at "go"
      refine k_ext (by assumption) ml3 (.inr hl0) (by walk_at "get") ?_ ?_
      · have : ∀ i, i < 8 → ((((lts "abcdefgh").take i).map fun a => (lts "uvxyz").map fun b => a ++ b).flatten).length ≤ 40 := by decide +kernel
        have h1 := this i hi8
        rw [List.length_map, List.length_map, e6]
        omega
      · intro H4 g4 G4 ml4
        walk_at "go"
        refine ⟨_, ej2.trans ej3, G4, _, _, rfl, ?_, by omega⟩
        have e : (lts "abcdefgh")[i]? = some ⟨#[c]⟩ := by
          unfold lts
          rw [List.getElem?_map, Array.getElem?_toList, hc]
          rfl
        rw [List.take_add_one, e]
        simpa [Function.comp_def] using ml4
  · rintro σ' J2 H2 ej2 g2 ⟨w1, w2, rfl, ml2, hi⟩
    have e5 : (Str.ofString "abcdefgh").cps.size = 8 := by decide +kernel
    have e6 : (lts "abcdefgh").length = 8 := by decide +kernel
    rw [e5, List.take_of_length_le (by rw [e6]; omega)] at ml2
    walk_at "go"
    exact kk _ _ _ g2 ⟨l, rfl, hl0, ml2⟩
end Rk
namespace Rk
open PySem PySem.Spec PyProof.Rows L2
variable {P : Program} {w : World} {K : PySem.W.Frag} {mg : Str → Option Value} {base : Heap}
theorem use_draw {M0 : Addr → Prop} {J0 H0 J H : Hp} {Q : VK} {E : XK} {b : Addr} (n : Nat) (G : Gr M0 J0 H0 J H) (hb : Box b J H) (hn : 0 < n) (hs : M0 b ∨ H0 b = none)
    (k : ∀ (i : Nat) J' H', i < n → Ex J J' → Gr (fun z => z = b) J H J' H' → Gr M0 J0 H0 J' H' → Box b J' H' → Q (.int (i : Int)) H') : spLawDraw ([.ref b, .int (n : Int)] ++ []) H Q E :=
  use_sp G (b, n) ⟨_, _, rfl, rfl, rfl, hb, hn⟩ (fun z hz => by subst hz; exact hs) fun v J' H' e g G' ⟨i, hi, hv, hb'⟩ => by subst hv; exact k i J' H' hi e g G' hb'
theorem mkVal {a b : Addr} {x : Str} {k : Nat} {J : Hp} (h1 : J a = some (.tup [.str "value", .ref b])) (h2 : J b = some (.tup [.str x, .int (k : Int)])) : rSrc (.val x k) (.ref a) J := ⟨a, b, rfl, h1, h2⟩
theorem mkAdr {a b : Addr} {x : Str} {k : Nat} {J : Hp} (h1 : J a = some (.tup [.str "address", .ref b])) (h2 : J b = some (.tup [.str x, .int (k : Int)])) : rSrc (.adr x k) (.ref a) J := ⟨a, b, rfl, h1, h2⟩
theorem two_at {i : Nat} (h : i < 2) : ∃ w : Str, (w = "value" ∨ w = "address") ∧ ([V.str "value", .str "address"] : List V)[i]? = some (.str w) := by
  have : i = 0 ∨ i = 1 := by omega
  rcases this with rfl | rfl
  · exact ⟨_, .inl rfl, rfl⟩
  · exact ⟨_, .inr rfl, rfl⟩
/-- what a source may name -/
def SrcW (P : Str → Prop) : Src → Prop
  | .num n => n ≤ 1000
  | .null => True
  | .val x k => (P x ∨ x = "zz") ∧ k ≤ 5
  | .adr x k => (P x ∨ x = "zz") ∧ k ≤ 5
structure SrD where
  bx : Addr
  nl : Addr
  td : Addr
  ns : List Str
  ts : Tys
  u : Ty
structure SrP (d : SrD) (J H : Hp) : Prop where
  b : Box d.bx J H
  n : Mu J H d.nl (.lst (d.ns.map V.str))
  t : ∃ kvs, Mu J H d.td (.dK kvs) ∧ EntR rTy d.ts kvs J
  nb : ¬ d.nl = d.bx
  tb : ¬ d.td = d.bx
  k : ∀ x ∈ d.ns, (d.ts.lookup x).isSome = true
  l : d.ns.length ≤ 100
theorem SrP.step {d : SrD} {J H J1 H1 : Hp} (x : SrP d J H) (g : Gr No J H J1 H1) : SrP d J1 H1 := by
  obtain ⟨kvs, m, h⟩ := x.t
  exact ⟨x.b.up g, x.n.up g, ⟨kvs, m.up g, Up.up g.jj h⟩, x.nb, x.tb, x.k, x.l⟩
theorem SrP.stepB {d : SrD} {J H J1 H1 : Hp} (x : SrP d J H) (g : Gr (fun z => z = d.bx) J H J1 H1) (b : Box d.bx J1 H1) : SrP d J1 H1 := by
  obtain ⟨kvs, m, h⟩ := x.t
  exact ⟨b, x.n.step g x.nb, ⟨kvs, m.step g x.tb, Up.up g.jj h⟩, x.nb, x.tb, x.k, x.l⟩
abbrev spLawSource : Sp := SpD SrD (fun a b => b = a.bx) (fun a vs J H => ∃ v1 v2 v3 v4, vs = [v1, v2, v3, v4] ∧ v1 = .ref a.bx ∧ v2 = .ref a.nl ∧ v3 = .ref a.td ∧ rTy a.u v4 J ∧ SrP a J H) (fun a v J H => ∃ s, rSrc s v J ∧ SrcW (· ∈ a.ns) s ∧ SrP a J H)
theorem ok_LawSource (T : Good K mg) : FnOk P w K mg base CX0 2 (He.ga K "_law_source") (fdOf K (He.ga K "_law_source")) ["_law_box", "_law_names_here", "_law_types", "_law_value"] spLawSource := by
  refine sp_ok (k := 1) (D_sLawSource T) S_sLawSource (fun a vs J H h => by obtain ⟨_, _, _, _, rfl, _⟩ := h; rfl) (fun cdv Ar outer s H0 vs E hr => ?_)
  refine ⟨_, (pss_cons (ps_set (i := 4) S_sLawSource.nd rfl (by first | exact Or.inl rfl | exact Or.inr rfl) (pe_call (ok_LawDraw T) (hr.mono (by omega)) rfl (g_law_draw T) (D_sLawDraw T).kp (B_sLawDraw T) .nil pass0 (pa_cons (pv 0) (pa_cons pe_int pa_nil))))
  (pss_cons (ps_if (pt_cmpR op_eq (pe_call (ok_LawDraw T) (hr.mono (by omega)) rfl (g_law_draw T) (D_sLawDraw T).kp (B_sLawDraw T) .nil pass0 (pa_cons (pv 0) (pa_cons pe_int pa_nil))) pe_int (nomark _)) (pss_one (ps_ret (pe_tup (pa_cons pe_str (pa_cons (pe_tup (pa_cons pe_str (pa_cons pe_int pa_nil))) pa_nil))))) pss_nil)
  (pss_cons (ps_if (PW.pt (pw_or (pt_cmpR op_eq (pv 4) pe_int (nomark _)) (pw_or1 (pt_cmpR op_eq (pe_callB (cLen K) (by rfl) (f_len T) (show bootBuiltins "len" = some (.builtin "len") by decide +kernel) (pa_cons (pv 1) pa_nil)) pe_int (nomark _))))) (pss_cons (ps_if (PW.pt (pw_or (pt_cmpR op_eq (pe_callB (cLen K) (by rfl) (f_len T) (show bootBuiltins "len" = some (.builtin "len") by decide +kernel) (pa_cons (pv 3) pa_nil)) pe_int (nomark _)) (pw_or1 (pt_cmpR op_eq (pe_call (ok_LawDraw T) (hr.mono (by omega)) rfl (g_law_draw T) (D_sLawDraw T).kp (B_sLawDraw T) .nil pass0 (pa_cons (pv 0) (pa_cons pe_int pa_nil))) pe_int (nomark _))))) (pss_one (ps_ret (pe_tup (pa_cons pe_str (pa_cons (pe_call (ok_LawDraw T) (hr.mono (by omega)) rfl (g_law_draw T) (D_sLawDraw T).kp (B_sLawDraw T) .nil pass0 (pa_cons (pv 0) (pa_cons pe_int pa_nil))) pa_nil))))) pss_nil)
  (pss_one (ps_ret (pe_tup (pa_cons pe_str pa_nil))))) pss_nil)
  (pss_cons (ps_set (i := 5) S_sLawSource.nd rfl (by first | exact Or.inl rfl | exact Or.inr rfl) (pe_ix (xL K) (pv 1) (pe_op op_mod (pe_callTy c_int (by rfl) (f_int T) (show bootBuiltins "int" = some (.type "int") by decide +kernel) (pa_cons (pe_call (ok_LawDraw T) (hr.mono (by omega)) rfl (g_law_draw T) (D_sLawDraw T).kp (B_sLawDraw T) .nil pass0 (pa_cons (pv 0) (pa_cons pe_int pa_nil))) pa_nil)) (pe_callB (cLen K) (by rfl) (f_len T) (show bootBuiltins "len" = some (.builtin "len") by decide +kernel) (pa_cons (pv 1) pa_nil))) (fun _ _ => rfl)))
  (pss_cons (ps_setLc (i := 6) (own := [("_law_k", 7)]) (by rfl) S_sLawSource.nd rfl rfl (sw_true rfl rfl rfl (by decide +kernel)) (pi_range1 (by rfl) (f_range T) (pa_cons (pe_callB (cLen K) (by rfl) (f_len T) (show bootBuiltins "len" = some (.builtin "len") by decide +kernel) (pa_cons (pe_dget (hu_of hr) (pv 2) (pv 5) (fun _ _ => rfl)) pa_nil)) pa_nil)) (blkOk_by (own := [("_law_k", 7)]) (N := ["_law_box", "_law_names_here", "_law_types", "_law_value", "_law_kind", "_law_x", "_law_fits", "_law_k"]) (sc := defScope sLawSource) (by decide +kernel)) (fun _ _ _ _ _ => (pg_name (i := 7) S_sLawSource.nd rfl (by first | exact Or.inl rfl | exact Or.inr rfl))) (fun _ _ _ _ _ => pts_one (pt_cmpR op_eq (pe_op op_sub (pe_op op_sub (pe_callB (cLen K) (by rfl) (f_len T) (show bootBuiltins "len" = some (.builtin "len") by decide +kernel) (pa_cons (pe_dget (hu_of hr) (pv 2) (pv 5) (fun _ _ => rfl)) pa_nil)) pe_int) (pv 7)) (pe_callB (cLen K) (by rfl) (f_len T) (show bootBuiltins "len" = some (.builtin "len") by decide +kernel) (pa_cons (pv 3) pa_nil)) (nomark _))) (fun _ _ _ _ _ => (pe_tup (pa_cons pe_str (pa_cons (pe_tup (pa_cons (pv 5) (pa_cons (pv 7) pa_nil))) pa_nil)))))
  (pss_cons (ps_set (i := 6) S_sLawSource.nd rfl (by first | exact Or.inl rfl | exact Or.inr rfl) (pe_op op_cat (pv 6) (pe_lc (own := [("_law_k", 7)]) (by rfl) S_sLawSource.nd (pi_range1 (by rfl) (f_range T) (pa_cons (pe_callB (cLen K) (by rfl) (f_len T) (show bootBuiltins "len" = some (.builtin "len") by decide +kernel) (pa_cons (pe_dget (hu_of hr) (pv 2) (pv 5) (fun _ _ => rfl)) pa_nil)) pa_nil)) (blkOk_by (own := [("_law_k", 7)]) (N := ["_law_box", "_law_names_here", "_law_types", "_law_value", "_law_kind", "_law_x", "_law_fits", "_law_k"]) (sc := defScope sLawSource) (by decide +kernel)) (fun _ _ _ _ _ => (pg_name (i := 7) S_sLawSource.nd rfl (by first | exact Or.inl rfl | exact Or.inr rfl))) (fun _ _ _ _ _ => pts_one (pt_cmpR op_eq (pe_op op_sub (pe_callB (cLen K) (by rfl) (f_len T) (show bootBuiltins "len" = some (.builtin "len") by decide +kernel) (pa_cons (pe_dget (hu_of hr) (pv 2) (pv 5) (fun _ _ => rfl)) pa_nil)) (pv 7)) (pe_callB (cLen K) (by rfl) (f_len T) (show bootBuiltins "len" = some (.builtin "len") by decide +kernel) (pa_cons (pv 3) pa_nil)) (nomark _))) (fun _ _ _ _ _ => (pe_tup (pa_cons pe_str (pa_cons (pe_tup (pa_cons (pv 5) (pa_cons (pv 7) pa_nil))) pa_nil)))))))
  (pss_cons (ps_if (PW.pt (pw_or (pt_cmpR op_eq (pe_callB (cLen K) (by rfl) (f_len T) (show bootBuiltins "len" = some (.builtin "len") by decide +kernel) (pa_cons (pv 6) pa_nil)) pe_int (nomark _)) (pw_or1 (pt_cmpR op_eq (pe_call (ok_LawDraw T) (hr.mono (by omega)) rfl (g_law_draw T) (D_sLawDraw T).kp (B_sLawDraw T) .nil pass0 (pa_cons (pv 0) (pa_cons pe_int pa_nil))) pe_int (nomark _))))) (pss_one (ps_ret (pe_tup (pa_cons (pe_ix (xL K) (pe_lst (pa_cons pe_str (pa_cons pe_str pa_nil))) (pe_call (ok_LawDraw T) (hr.mono (by omega)) rfl (g_law_draw T) (D_sLawDraw T).kp (B_sLawDraw T) .nil pass0 (pa_cons (pv 0) (pa_cons pe_int pa_nil))) (fun _ _ => rfl)) (pa_cons (pe_tup (pa_cons (pv 5) (pa_cons (pe_call (ok_LawDraw T) (hr.mono (by omega)) rfl (g_law_draw T) (D_sLawDraw T).kp (B_sLawDraw T) .nil pass0 (pa_cons (pv 0) (pa_cons pe_int pa_nil))) pa_nil))) pa_nil))))) pss_nil)
  (pss_one (ps_ret (pe_ix (xL K) (pv 6) (pe_op op_mod (pe_callTy c_int (by rfl) (f_int T) (show bootBuiltins "int" = some (.type "int") by decide +kernel) (pa_cons (pe_call (ok_LawDraw T) (hr.mono (by omega)) rfl (g_law_draw T) (D_sLawDraw T).kp (B_sLawDraw T) .nil pass0 (pa_cons (pv 0) (pa_cons pe_int pa_nil))) pa_nil)) (pe_callB (cLen K) (by rfl) (f_len T) (show bootBuiltins "len" = some (.builtin "len") by decide +kernel) (pa_cons (pv 6) pa_nil))) (fun _ _ => rfl))))))))))), ?_⟩
  rintro a J0 Q G ⟨_, _, _, v4, rfl, rfl, rfl, rfl, ⟨uv, rfl, huv, hul⟩, hp⟩ kk
  have zs := sizeLine_eq
  walk_at "go"
  refine use_draw 6 G hp.b (by decide) (.inl rfl) ?_
  intro i1 J1 H1 hi1 e1 g1 G1 b1
  have p1 := hp.stepB g1 b1
  walk_at "go"
  refine use_draw 30 G1 p1.b (by decide) (.inl rfl) ?_
  intro i2 J2 H2 hi2 e2 g2 G2 b2
  have p2 := p1.stepB g2 b2
  walk_at "go"
  refine if2 (fun q => ?_) (fun q => ?_)
  · walk_at "go"
    rename_i P3 J3 H3 hP3 e3 hJ3 g3 G3 P4 J4 H4 hP4 e4 hJ4 g4 G4
    exact kk _ _ _ G4 ⟨.val "zz" 0, ⟨_, _, rfl, hJ4, e4 _ _ hJ3⟩, ⟨.inr rfl, by decide⟩, (p2.step g3).step g4⟩
  · obtain ⟨kvs, md, he⟩ := p2.t
    have mn := p2.n
    walk_at "go"
    refine if_or ?_ (fun q2 hA => ?_)
    · walk_at "go"
      rw [List.length_map]
      refine if2 (fun q3 => ?_) (fun q3 => ?_)
      · walk_at "go"
        refine use_draw 9 G2 p2.b (by decide) (.inl rfl) ?_
        intro i3 J3 H3 hi3 e3 g3 G3 b3
        have p3 := p2.stepB g3 b3
        walk_at "go"
        rename_i P4 J4 H4 hP4 e4 hJ4 g4 G4
        exact kk _ _ _ G4 ⟨.num i3, ⟨_, rfl, hJ4⟩, (by show i3 ≤ 1000; omega), p3.step g4⟩
      · walk_at "go"
        refine use_draw 12 G2 p2.b (by decide) (.inl rfl) ?_
        intro i3 J3 H3 hi3 e3 g3 G3 b3
        have p3 := p2.stepB g3 b3
        walk_at "go"
        refine if2 (fun q4 => ?_) (fun q4 => ?_)
        · walk_at "go"
          refine use_draw 9 G3 p3.b (by decide) (.inl rfl) ?_
          intro i5 J5 H5 hi5 e5 g5 G5 b5
          have p5 := p3.stepB g5 b5
          walk_at "go"
          rename_i P4 J4 H4 hP4 e4 hJ4 g4 G4
          exact kk _ _ _ G4 ⟨.num i5, ⟨_, rfl, hJ4⟩, (by show i5 ≤ 1000; omega), p5.step g4⟩
        · walk_at "go"
          rename_i P4 J4 H4 hP4 e4 hJ4 g4 G4
          exact kk _ _ _ G4 ⟨.null, ⟨_, rfl, hJ4⟩, trivial, p3.step g4⟩
    · walk_at "go"
      rw [List.length_map]
      refine if2 (fun _ => hA) (fun q3 => ?_)
      have hpos : 0 < a.ns.length := by
        rcases Nat.eq_zero_or_pos a.ns.length with z | z
        · rw [z] at q3; exact absurd q3 (by decide)
        · exact z
      clear hA
      walk_at "go"
      refine use_draw 40 G2 p2.b (by decide) (.inl rfl) ?_
      intro i3 J3 H3 hi3 e3 g3 G3 b3
      have p3 := p2.stepB g3 b3
      obtain ⟨kvs3, md3, he3⟩ := p3.t
      have mn3 := p3.n
      walk_at "go"
      rw [List.length_map]
      refine k_mod (by omega) ?_
      obtain ⟨j, hj, ej⟩ := emod_nat (i3 : Int) hpos
      rw [ej]
      have hx : (a.ns.map V.str)[j]? = some (V.str a.ns[j]) := by rw [List.getElem?_map, List.getElem?_eq_getElem hj]; rfl
      have hxm : a.ns[j] ∈ a.ns := List.getElem_mem hj
      obtain ⟨t, ht⟩ := Option.isSome_iff_exists.mp (p3.k _ hxm)
      obtain ⟨tv, hv, tva, rfl, htv, htl⟩ := he3.some ht
      generalize a.ns[j] = x at *
      walk_at "go"
      rw [List.length_map]
      refine k_iR1E (by omega) ?_
      rw [Int.toNat_natCast]
      refine k_lcRg G3 (by omega) (fun i acc J => ∃ ds, AllR rSrc ds acc J ∧ ∀ s ∈ ds, SrcW (· ∈ a.ns) s) (fun i acc J1 J2 e ⟨ds, h1, h2⟩ => ⟨ds, Up.up e h1, h2⟩) ⟨[], AllR.nil, by simp⟩ ?_ ?_
      · rintro i acc J4 H4 Ny Nn hi hl e4 g4 G4 ⟨ds, hds, hw⟩ hy hn
        have mn4 := mn3.up G4
        have md4 := md3.up G4
        walk_at "go"
        refine ⟨rfl, ?_⟩
        walk_at "go"
        refine if2 (fun q => ?_) (fun q => ?_)
        · walk_at "go"
          rename_i P5 J5 H5 hP5 e5 hJ5 g5 G5 P6 J6 H6 hP6 e6 hJ6 g6 G6
          refine hy _ _ _ (g5.trans g6) ⟨ds ++ [.val x i], (Up.up (e5.trans e6) hds).snoc (mkVal hJ6 (e6 _ _ hJ5)), fun s hs => ?_⟩
          rcases List.mem_append.mp hs with z | z
          · exact hw s z
          · obtain rfl : s = .val x i := by simpa using z
            exact ⟨.inl hxm, by omega⟩
        · exact hn _ _ (Gr.refl g4.jh) ⟨ds, hds, hw⟩
      · rintro D acc J4 H4 hD e4 hDJ g4 G4 hl ⟨ds, hds, hw⟩
        have mn4 := mn3.up g4
        have md4 := md3.up g4
        have p4 := p3.step g4
        walk_at "go"
        rw [List.length_map]
        refine k_iR1E (by omega) ?_
        rw [Int.toNat_natCast]
        refine k_lcRg G4 (by omega) (fun i acc J => ∃ ds, AllR rSrc ds acc J ∧ ∀ s ∈ ds, SrcW (· ∈ a.ns) s) (fun i acc J1 J2 e ⟨ds, h1, h2⟩ => ⟨ds, Up.up e h1, h2⟩) ⟨[], AllR.nil, by simp⟩ ?_ ?_
        · rintro i acc J5 H5 Ny Nn hi hl e5 g5 G5 ⟨ds, hds, hw⟩ hy hn
          have mn5 := mn4.up G5
          have md5 := md4.up G5
          walk_at "go"
          refine ⟨rfl, ?_⟩
          walk_at "go"
          refine if2 (fun q => ?_) (fun q => ?_)
          · walk_at "go"
            rename_i P5 J5 H5 hP5 e5 hJ5 g5 G5 P6 J6 H6 hP6 e6 hJ6 g6 G6
            refine hy _ _ _ (g5.trans g6) ⟨ds ++ [.adr x i], (Up.up (e5.trans e6) hds).snoc (mkAdr hJ6 (e6 _ _ hJ5)), fun s hs => ?_⟩
            rcases List.mem_append.mp hs with z | z
            · exact hw s z
            · obtain rfl : s = .adr x i := by simpa using z
              exact ⟨.inl hxm, by omega⟩
          · exact hn _ _ (Gr.refl g5.jh) ⟨ds, hds, hw⟩
        · rintro D2 acc2 J5 H5 hD2 e5 hDJ2 g5 G5 hl2 ⟨ds2, hds2, hw2⟩
          have p5 := p4.step g5
          walk_at "go"
          refine k_cat (by assumption) (by walk_at "get") (by walk_at "get") (by omega) ?_
          intro D3 J6 H6 hD3 e6 hDJ3 g6 G6
          have p6 := p5.step g6
          have hds6 : AllR rSrc (ds ++ ds2) (acc ++ acc2) J6 := Up.up e6 ((Up.up e5 hds).append hds2)
          have hw6 : ∀ s ∈ ds ++ ds2, SrcW (· ∈ a.ns) s := fun s hs => (List.mem_append.mp hs).elim (hw s) (hw2 s)
          generalize acc ++ acc2 = ac at *
          generalize ds ++ ds2 = dd at *
          walk_at "go"
          refine if2 (fun q => ?_) (fun q => ?_)
          · walk_at "go"
            rename_i L7 J7 H7 hL7 e7 hJ7 g7 G7
            have p7 := p6.step g7
            refine use_draw 2 G7 p7.b (by decide) (.inl rfl) ?_
            intro i8 J8 H8 hi8 e8 g8 G8 b8
            have p8 := p7.stepB g8 b8
            obtain ⟨w, hw, hx8⟩ := two_at hi8
            walk_at "go"
            refine use_draw 3 G8 p8.b (by decide) (.inl rfl) ?_
            intro i9 J9 H9 hi9 e9 g9 G9 b9
            have p9 := p8.stepB g9 b9
            walk_at "go"
            rename_i LA JA HA hLA eA hJA gA GA LB JB HB hLB eB hJB gB GB
            have pB := (p9.step gA).step gB
            rcases hw with rfl | rfl
            · exact kk _ _ _ GB ⟨.val x i9, mkVal hJB (eB _ _ hJA), ⟨.inl hxm, by omega⟩, pB⟩
            · exact kk _ _ _ GB ⟨.adr x i9, mkAdr hJB (eB _ _ hJA), ⟨.inl hxm, by omega⟩, pB⟩
          · have hpos : 0 < ac.length := by
              rcases Nat.eq_zero_or_pos ac.length with z | z
              · rw [z] at q; exact absurd q (by decide)
              · exact z
            walk_at "go"
            refine use_draw 15 G6 p6.b (by decide) (.inl rfl) ?_
            intro i6 J6b H6b hi6 e6b g6b G6b b6b
            have p6b := p6.stepB g6b b6b
            walk_at "go"
            refine if2 (fun q => ?_) (fun q => ?_)
            · walk_at "go"
              rename_i L7 J7 H7 hL7 e7 hJ7 g7 G7
              have p7 := p6b.step g7
              refine use_draw 2 G7 p7.b (by decide) (.inl rfl) ?_
              intro i8 J8 H8 hi8 e8 g8 G8 b8
              have p8 := p7.stepB g8 b8
              obtain ⟨w, hw, hx8⟩ := two_at hi8
              walk_at "go"
              refine use_draw 3 G8 p8.b (by decide) (.inl rfl) ?_
              intro i9 J9 H9 hi9 e9 g9 G9 b9
              have p9 := p8.stepB g9 b9
              walk_at "go"
              rename_i LA JA HA hLA eA hJA gA GA LB JB HB hLB eB hJB gB GB
              have pB := (p9.step gA).step gB
              rcases hw with rfl | rfl
              · exact kk _ _ _ GB ⟨.val x i9, mkVal hJB (eB _ _ hJA), ⟨.inl hxm, by omega⟩, pB⟩
              · exact kk _ _ _ GB ⟨.adr x i9, mkAdr hJB (eB _ _ hJA), ⟨.inl hxm, by omega⟩, pB⟩
            · walk_at "go"
              refine use_draw 40 G6b p6b.b (by decide) (.inl rfl) ?_
              intro i7 J7 H7 hi7 e7 g7 G7 b7
              have p7 := p6b.stepB g7 b7
              walk_at "go"
              refine k_mod (by omega) ?_
              obtain ⟨j, hj, ej⟩ := emod_nat (i7 : Int) hpos
              rw [ej]
              have hx7 : ac[j]? = some ac[j] := List.getElem?_eq_getElem hj
              obtain ⟨s, hs, hsr⟩ := hds6.at hx7
              walk_at "go"
              exact kk _ _ _ G7 ⟨s, Up.up (e6b.trans e7) hsr, hw6 s (List.mem_of_getElem? hs), p7⟩
end Rk
namespace Rk
open PySem PySem.Spec PyProof.Rows L2
variable {P : Program} {w : World} {K : PySem.W.Frag} {mg : Str → Option Value} {base : Heap}
def KT (t : Ty) : Prop := AllRt t ∧ 1 ≤ t.length ∧ t.length ≤ 4
def StmW {κ : Type} (KW : κ → Prop) (P : Str → Prop) (fns : List (Fn κ)) : Stm κ → Prop
  | .lt _ t s => KW t ∧ SrcW P s
  | .pt x k s => P x ∧ k ≤ 5 ∧ SrcW P s
  | .cl f ss => ∃ g ∈ fns, g.name = f ∧ ss.length = g.ps.length ∧ ∀ s ∈ ss, SrcW P s
theorem SrcW.mono {P P' : Str → Prop} (h : ∀ x, P x → P' x) : ∀ {s : Src}, SrcW P s → SrcW P' s
  | .num _, z => z
  | .null, z => z
  | .val _ _, z => ⟨z.1.imp (h _) id, z.2⟩
  | .adr _ _, z => ⟨z.1.imp (h _) id, z.2⟩
structure StD where
  bx : Addr
  fr : Addr
  nl : Addr
  td : Addr
  cl : Addr
  ts : Tys
  fns : List (Fn Ty)
  k : Nat
def InA (x : Str) : Prop := x ∈ allNames
def TysW (ts : Tys) : Prop := ∀ p ∈ ts, KT p.2 ∧ InA p.1
structure StP (d : StD) (J H : Hp) : Prop where
  b : Box d.bx J H
  f : Mu J H d.fr (.lst ((allNames.drop d.k).map V.str))
  n : Mu J H d.nl (.lst ((d.ts.map (·.1)).map V.str))
  t : ∃ kvs, Mu J H d.td (.dK kvs) ∧ EntR rTy d.ts kvs J
  c : ∃ cv, Mu J H d.cl (.lst cv) ∧ AllR (rLFn rTy) d.fns cv J
  fb : ¬ d.fr = d.bx
  nb : ¬ d.nl = d.bx
  tb : ¬ d.td = d.bx
  cb : ¬ d.cl = d.bx
  nf : ¬ d.nl = d.fr
  tf : ¬ d.td = d.fr
  cf : ¬ d.cl = d.fr
  tn : ¬ d.td = d.nl
  cn : ¬ d.cl = d.nl
  ct : ¬ d.cl = d.td
  w : TysW d.ts
  wk : ∀ p ∈ d.ts, p.1 ∈ allNames.take d.k
  l : d.ts.length ≤ d.k
  k : d.k ≤ 40
  fl : d.fns.length ≤ 4 ∧ ∀ g ∈ d.fns, g.ps.length ≤ 4 ∧ ∀ q ∈ g.ps, KT q.2
theorem StP.stepM {M : Addr → Prop} {d : StD} {J H J1 H1 : Hp} (x : StP d J H) (g : Gr M J H J1 H1) (b : Box d.bx J1 H1) (h1 : ¬ M d.fr) (h2 : ¬ M d.nl) (h3 : ¬ M d.td) (h4 : ¬ M d.cl) : StP d J1 H1 := by
  obtain ⟨kvs, m, h⟩ := x.t
  obtain ⟨cv, mc, hc⟩ := x.c
  exact ⟨b, x.f.step g h1, x.n.step g h2, ⟨kvs, m.step g h3, Up.up g.jj h⟩, ⟨cv, mc.step g h4, Up.up g.jj hc⟩, x.fb, x.nb, x.tb, x.cb, x.nf, x.tf, x.cf, x.tn, x.cn, x.ct, x.w, x.wk, x.l, x.k, x.fl⟩
theorem StP.step {d : StD} {J H J1 H1 : Hp} (x : StP d J H) (g : Gr No J H J1 H1) : StP d J1 H1 := x.stepM g (x.b.up g) (fun z => z) (fun z => z) (fun z => z) (fun z => z)
theorem StP.stepB {d : StD} {J H J1 H1 : Hp} (x : StP d J H) (g : Gr (fun z => z = d.bx) J H J1 H1) (b : Box d.bx J1 H1) : StP d J1 H1 := x.stepM g b x.fb x.nb x.tb x.cb
theorem lookup_some_of {α : Type} {x : Str} : ∀ {ts : List (Str × α)}, x ∈ ts.map (·.1) → (ts.lookup x).isSome = true
  | [], h => by simp at h
  | (y, d) :: ts, h => by
    by_cases e : x = y
    · subst e; simp [List.lookup]
    · have : (x == y) = false := beq_eq_false_iff_ne.mpr e
      simp only [List.lookup, this]
      exact lookup_some_of (by simpa [e] using h)
theorem StP.src {d : StD} {J H : Hp} (x : StP d J H) (u : Ty) : SrP ⟨d.bx, d.nl, d.td, d.ts.map (·.1), d.ts, u⟩ J H := ⟨x.b, x.n, x.t, x.nb, x.tb, fun _ h => lookup_some_of h, by have := x.l; have := x.k; simp; omega⟩
theorem TysW.inA {ts : Tys} (h : TysW ts) : ∀ x, x ∈ ts.map (·.1) → InA x := by
  intro x hx
  obtain ⟨p, hp, rfl⟩ := List.mem_map.mp hx
  exact (h p hp).2
theorem StP.pop {d : StD} {J H H1 : Hp} (x : StP d J H) (g : Gr (fun z => z = d.fr) J H J H1) (m : Mu J H1 d.fr (.lst ((allNames.drop (d.k + 1)).map V.str))) (hk : d.k < 40) : StP { d with k := d.k + 1 } J H1 := by
  obtain ⟨kvs, mt, h⟩ := x.t
  obtain ⟨cv, mc, hc⟩ := x.c
  obtain ⟨r, a, xs, mb, hr⟩ := x.b
  exact ⟨⟨r, a, xs, mb.step g (fun e => x.fb e.symm), hr⟩, m, x.n.step g x.nf, ⟨kvs, mt.step g x.tf, h⟩, ⟨cv, mc.step g x.cf, hc⟩, x.fb, x.nb, x.tb, x.cb, x.nf, x.tf, x.cf, x.tn, x.cn, x.ct, x.w, fun p hp => List.take_subset_take_left _ (Nat.le_succ _) (x.wk p hp), Nat.le_succ_of_le x.l, hk, x.fl⟩
structure StN (d : StD) (D : Addr) : Prop where
  b : ¬ d.bx = D
  f : ¬ d.fr = D
  n : ¬ d.nl = D
  t : ¬ d.td = D
  c : ¬ d.cl = D
theorem StP.ne {d : StD} {J H : Hp} {D : Addr} (x : StP d J H) (h : H D = none) : StN d D := by
  obtain ⟨kvs, mt, _⟩ := x.t
  obtain ⟨cv, mc, _⟩ := x.c
  obtain ⟨r, a, xs, mb, _⟩ := x.b
  exact ⟨mb.nen h, x.f.nen h, x.n.nen h, mt.nen h, mc.nen h⟩
theorem StP.updH {d : StD} {J H : Hp} {D : Addr} {o : HO} (x : StP d J H) (n : StN d D) : StP d J (upd H D o) := by
  obtain ⟨kvs, mt, h⟩ := x.t
  obtain ⟨cv, mc, hc⟩ := x.c
  obtain ⟨r, a, xs, mb, hr⟩ := x.b
  exact ⟨⟨r, a, xs, mb.upH n.b, hr⟩, x.f.upH n.f, x.n.upH n.n, ⟨kvs, mt.upH n.t, h⟩, ⟨cv, mc.upH n.c, hc⟩, x.fb, x.nb, x.tb, x.cb, x.nf, x.tf, x.cf, x.tn, x.cn, x.ct, x.w, x.wk, x.l, x.k, x.fl⟩
theorem StP.updJ {d : StD} {J H : Hp} {D : Addr} {o : HO} (x : StP d J H) (n : StN d D) (hD : J D = none) : StP d (upd J D o) H := by
  obtain ⟨kvs, mt, h⟩ := x.t
  obtain ⟨cv, mc, hc⟩ := x.c
  obtain ⟨r, a, xs, mb, hr⟩ := x.b
  exact ⟨⟨r, a, xs, mb.knw n.b, ex_know hD _ _ hr⟩, x.f.knw n.f, x.n.knw n.n, ⟨kvs, mt.knw n.t, Up.up (ex_know hD) h⟩, ⟨cv, mc.knw n.c, Up.up (ex_know hD) hc⟩, x.fb, x.nb, x.tb, x.cb, x.nf, x.tf, x.cf, x.tn, x.cn, x.ct, x.w, x.wk, x.l, x.k, x.fl⟩
def StM (d : StD) (b : Addr) : Prop := b = d.bx ∨ b = d.fr ∨ b = d.nl ∨ b = d.td
abbrev spLawStatement : Sp := SpD StD StM (fun d vs J H => ∃ v1 v2 v3 v4 v5, vs = [v1, v2, v3, v4, v5] ∧ v1 = .ref d.bx ∧ v2 = .ref d.fr ∧ v3 = .ref d.nl ∧ v4 = .ref d.td ∧ v5 = .ref d.cl ∧ StP d J H ∧ d.k < 40)
  (fun d v J H => ∃ st, rStm rTy st v J ∧ StmW KT InA d.fns st ∧ (letsOf [st]).map (·.1) = (allNames.drop d.k).take (letsOf [st]).length ∧ StP { d with ts := d.ts ++ letsOf [st], k := d.k + (letsOf [st]).length } J H)
theorem mkLt {a : Addr} {x : Str} {t : Ty} {s : Src} {kv sv : V} {J : Hp} (h : J a = some (.tup [.str "let", .str x, kv, sv])) (h1 : rTy t kv J) (h2 : rSrc s sv J) : rStm rTy (.lt x t s) (.ref a) J := ⟨a, kv, sv, rfl, h, h1, h2⟩
theorem mkPt {a b : Addr} {x : Str} {k : Nat} {s : Src} {sv : V} {J : Hp} (h : J a = some (.tup [.str "put", .ref b, sv])) (h1 : J b = some (.tup [.str x, .int (k : Int)])) (h2 : rSrc s sv J) : rStm rTy (.pt x k s) (.ref a) J := ⟨a, b, sv, rfl, h, h1, h2⟩
theorem mkCl {a l : Addr} {f : Str} {ss : List Src} {xs : List V} {J : Hp} (h : J a = some (.tup [.str "call", .str f, .ref l])) (h1 : J l = some (.lst xs)) (h2 : AllR rSrc ss xs J) : rStm rTy (.cl f ss) (.ref a) J := ⟨a, l, xs, rfl, h, h1, h2⟩
theorem ok_LawStatement (T : Good K mg) : FnOk P w K mg base CX0 4 (He.ga K "_law_statement") (fdOf K (He.ga K "_law_statement")) ["_law_box", "_law_fresh", "_law_names_here", "_law_types", "_law_calls"] spLawStatement := by
  refine sp_ok (k := 3) (D_sLawStatement T) S_sLawStatement (fun a vs J H h => by obtain ⟨_, _, _, _, _, rfl, _⟩ := h; rfl) (fun cdv Ar outer s H0 vs E hr => ?_)
  refine ⟨_, (pss_cons (ps_set (i := 5) S_sLawStatement.nd rfl (by first | exact Or.inl rfl | exact Or.inr rfl) (pe_call (ok_LawDraw T) (hr.mono (by omega)) rfl (g_law_draw T) (D_sLawDraw T).kp (B_sLawDraw T) .nil pass0 (pa_cons (pv 0) (pa_cons pe_int pa_nil))))
  (pss_cons (ps_if (PW.pt (pw_and (pt_cmpR op_gt (pe_callB (cLen K) (by rfl) (f_len T) (show bootBuiltins "len" = some (.builtin "len") by decide +kernel) (pa_cons (pv 4) pa_nil)) pe_int (nomark _)) (pw_and1 (pt_cmpR op_eq (pv 5) pe_int (nomark _))))) (pss_cons (ps_set (i := 6) S_sLawStatement.nd rfl (by first | exact Or.inl rfl | exact Or.inr rfl) (pe_ix (xL K) (pv 4) (pe_op op_mod (pe_callTy c_int (by rfl) (f_int T) (show bootBuiltins "int" = some (.type "int") by decide +kernel) (pa_cons (pe_call (ok_LawDraw T) (hr.mono (by omega)) rfl (g_law_draw T) (D_sLawDraw T).kp (B_sLawDraw T) .nil pass0 (pa_cons (pv 0) (pa_cons pe_int pa_nil))) pa_nil)) (pe_callB (cLen K) (by rfl) (f_len T) (show bootBuiltins "len" = some (.builtin "len") by decide +kernel) (pa_cons (pv 4) pa_nil))) (fun _ _ => rfl)))
  (pss_one (ps_ret (pe_tup (pa_cons pe_str (pa_cons (pe_ix (xL K) (pv 6) pe_int (fun _ _ => rfl)) (pa_cons (pe_lc (own := [("_law_param", 11)]) (by rfl) S_sLawStatement.nd (piL K (pe_ix (xL K) (pv 6) pe_int (fun _ _ => rfl))) (blkOk_by (own := [("_law_param", 11)]) (N := ["_law_box", "_law_fresh", "_law_names_here", "_law_types", "_law_calls", "_law_kind", "_law_f", "_law_x", "_law_k", "_law_kt", "_law_told_here", "_law_param"]) (sc := defScope sLawStatement) (by decide +kernel)) (fun _ _ _ _ _ => (pg_name (i := 11) S_sLawStatement.nd rfl (by first | exact Or.inl rfl | exact Or.inr rfl))) (fun _ _ _ _ _ => pts_nil) (fun _ _ _ _ _ => (pe_call (ok_LawSource T) (hr.mono (by omega)) rfl (g_law_source T) (D_sLawSource T).kp (B_sLawSource T) .nil pass0 (pa_cons (pv 0) (pa_cons (pv 2) (pa_cons (pv 3) (pa_cons (pe_slice (sTA K) (pe_ix (xT K) (pv 11) pe_int (fun _ _ => rfl)) (po_some pe_int) po_none) pa_nil))))))) pa_nil))))))) pss_nil)
  (pss_cons (ps_if (PW.pt (pw_and (pt_cmpR op_gt (pe_callB (cLen K) (by rfl) (f_len T) (show bootBuiltins "len" = some (.builtin "len") by decide +kernel) (pa_cons (pv 2) pa_nil)) pe_int (nomark _)) (pw_and1 (pt_cmpR op_gt (pv 5) pe_int (nomark _))))) (pss_cons (ps_set (i := 7) S_sLawStatement.nd rfl (by first | exact Or.inl rfl | exact Or.inr rfl) (pe_ix (xL K) (pv 2) (pe_op op_mod (pe_callTy c_int (by rfl) (f_int T) (show bootBuiltins "int" = some (.type "int") by decide +kernel) (pa_cons (pe_call (ok_LawDraw T) (hr.mono (by omega)) rfl (g_law_draw T) (D_sLawDraw T).kp (B_sLawDraw T) .nil pass0 (pa_cons (pv 0) (pa_cons pe_int pa_nil))) pa_nil)) (pe_callB (cLen K) (by rfl) (f_len T) (show bootBuiltins "len" = some (.builtin "len") by decide +kernel) (pa_cons (pv 2) pa_nil))) (fun _ _ => rfl)))
  (pss_cons (ps_set (i := 8) S_sLawStatement.nd rfl (by first | exact Or.inl rfl | exact Or.inr rfl) (pe_op op_mod (pe_callTy c_int (by rfl) (f_int T) (show bootBuiltins "int" = some (.type "int") by decide +kernel) (pa_cons (pe_call (ok_LawDraw T) (hr.mono (by omega)) rfl (g_law_draw T) (D_sLawDraw T).kp (B_sLawDraw T) .nil pass0 (pa_cons (pv 0) (pa_cons pe_int pa_nil))) pa_nil)) (pe_op op_add (pe_callB (cLen K) (by rfl) (f_len T) (show bootBuiltins "len" = some (.builtin "len") by decide +kernel) (pa_cons (pe_dget (hu_of hr) (pv 3) (pv 7) (fun _ _ => rfl)) pa_nil)) (pe_callTy c_int (by rfl) (f_int T) (show bootBuiltins "int" = some (.type "int") by decide +kernel) (pa_cons (pe_cmpR op_eq (pe_call (ok_LawDraw T) (hr.mono (by omega)) rfl (g_law_draw T) (D_sLawDraw T).kp (B_sLawDraw T) .nil pass0 (pa_cons (pv 0) (pa_cons pe_int pa_nil))) pe_int (nomark _)) pa_nil)))))
  (pss_one (ps_ret (pe_tup (pa_cons pe_str (pa_cons (pe_tup (pa_cons (pv 7) (pa_cons (pe_callB (c_min2 rfl) (by rfl) (f_min T) (show bootBuiltins "min" = some (.builtin "min") by decide +kernel) (pa_cons (pv 8) (pa_cons pe_int pa_nil))) pa_nil))) (pa_cons (pe_call (ok_LawSource T) (hr.mono (by omega)) rfl (g_law_source T) (D_sLawSource T).kp (B_sLawSource T) .nil pass0 (pa_cons (pv 0) (pa_cons (pv 2) (pa_cons (pv 3) (pa_cons (pe_slice (sTA K) (pe_dget (hu_of hr) (pv 3) (pv 7) (fun _ _ => rfl)) (po_some (pe_op op_add (pv 8) pe_int)) po_none) pa_nil))))) pa_nil)))))))) pss_nil)
  (pss_cons (ps_set (i := 7) S_sLawStatement.nd rfl (by first | exact Or.inl rfl | exact Or.inr rfl) (pe_bm PySem.F.plainAttrs_list PySem.F.slot_list_pop PySem.F.type_list_pop mt_popAt (pv 1) (pa_cons pe_int pa_nil)))
  (pss_cons (ps_set (i := 9) S_sLawStatement.nd rfl (by first | exact Or.inl rfl | exact Or.inr rfl) (pe_call (ok_LawRights T) (hr.mono (by omega)) rfl (g_law_rights T) (D_sLawRights T).kp (B_sLawRights T) .nil pass0 (pa_cons (pv 0) (pa_cons (pe_op op_add pe_int (pe_call (ok_LawDraw T) (hr.mono (by omega)) rfl (g_law_draw T) (D_sLawDraw T).kp (B_sLawDraw T) .nil pass0 (pa_cons (pv 0) (pa_cons pe_int pa_nil)))) pa_nil))))
  (pss_cons (ps_set (i := 10) S_sLawStatement.nd rfl (by first | exact Or.inl rfl | exact Or.inr rfl) (pe_tup (pa_cons pe_str (pa_cons (pv 7) (pa_cons (pv 9) (pa_cons (pe_call (ok_LawSource T) (hr.mono (by omega)) rfl (g_law_source T) (D_sLawSource T).kp (B_sLawSource T) .nil pass0 (pa_cons (pv 0) (pa_cons (pv 2) (pa_cons (pv 3) (pa_cons (pe_slice (sTA K) (pv 9) (po_some pe_int) po_none) pa_nil))))) pa_nil))))))
  (pss_cons (ps_expr (pe_bm PySem.F.plainAttrs_list PySem.F.slot_list_append PySem.F.type_list_append mt_append (pv 2) (pa_cons (pv 7) pa_nil)))
  (pss_cons (ps_dput (hu_of hr) (pv 3) (pv 7) (pv 9) rfl)
  (pss_one (ps_ret (pv 10))))))))))), ?_⟩
  rintro d J0 Q G ⟨_, _, _, _, _, rfl, rfl, rfl, rfl, rfl, rfl, hp, hk40⟩ kk
  have zs := sizeLine_eq
  have hB : StM d d.bx ∨ H0 d.bx = none := .inl (.inl rfl)
  have kk2 : ∀ (st : Stm Ty) (v : V) (J' H' : Hp), Gr (StM d) J0 H0 J' H' → rStm rTy st v J' → StmW KT InA d.fns st → letsOf [st] = [] → StP d J' H' → Q v H' := by
    intro st v J' H' g h1 h2 h3 h4
    refine kk v J' H' g ⟨st, h1, h2, by rw [h3]; rfl, ?_⟩
    rw [h3, List.append_nil]
    exact h4
  walk_at "go"
  refine use_draw 8 G hp.b (by decide) hB ?_
  intro i1 J1 H1 hi1 e1 g1 G1 b1
  have p1 := hp.stepB g1 b1
  obtain ⟨cv1, mc1, hc1⟩ := p1.c
  have mn1 := p1.n
  walk_at "go"
  refine if_and ?_ (fun q hA => ?_)
  · walk_at "go"
    refine if_and ?_ (fun q hA => ?_)
    · -- let
      have hL : allNames.length = 40 := by decide +kernel
      have hN : allNames.Nodup := by decide +kernel
      have hdr := List.drop_eq_getElem_cons (l := allNames) (i := d.k) (by omega)
      have hxk : allNames[d.k]? = some (allNames[d.k]'(by omega)) := List.getElem?_eq_getElem _
      have hxA : InA (allNames[d.k]'(by omega)) := List.getElem_mem _
      generalize allNames[d.k]'(by omega) = x at *
      have hxt : x ∉ allNames.take d.k := by
        intro h
        obtain ⟨j, hj, e⟩ := List.getElem_of_mem h
        rw [List.getElem_take] at e
        have hj2 : j < d.k := by simp at hj; omega
        have h1 : allNames[j]? = some x := by rw [← e]; exact List.getElem?_eq_getElem _
        have := (List.getElem?_inj (i := j) (j := d.k) (by omega) hN).mp (h1.trans hxk.symm)
        omega
      have hxn : d.ts.lookup x = none := by
        cases q : d.ts.lookup x with
        | none => rfl
        | some t => exact absurd (p1.wk _ (lookup_mem q)) hxt
      have mf1 := p1.f
      rw [hdr] at mf1
      walk_at "go"
      refine k_pop0 G1 mf1 (.inl (.inr (.inl rfl))) ?_
      intro H2 g2 G2 mf2
      have p2 := p1.pop g2 mf2 hk40
      walk_at "go"
      refine use_draw 4 G2 p2.b (by decide) hB ?_
      intro i3 J3 H3 hi3 e3 g3 G3 b3
      have p3 := p2.stepB g3 b3
      walk_at "go"
      refine use_sp G3 (d.bx, 1 + i3) ⟨_, _, rfl, rfl, rfl, b3, by show 1 + i3 ≤ 6; omega⟩ (fun z hz => by subst hz; exact hB) ?_
      rintro v J4 H4 e4 g4 G4 ⟨t, htl, hrt, ⟨ta, rfl, hta, _⟩, b4⟩
      dsimp only at htl
      have p4 := p3.stepB g4 b4
      have hKT : KT t := ⟨hrt, by omega, by omega⟩
      walk_at "go"
      rename_i ua J5 H5 e5 hua g5 G5
      have p5 := p4.step g5
      refine use_sp G5 ⟨d.bx, d.nl, d.td, d.ts.map (·.1), d.ts, t.drop 1⟩ ⟨_, _, _, _, rfl, rfl, rfl, rfl, ⟨ua, rfl, by rw [List.map_drop]; exact hua, by simp; omega⟩, p5.src _⟩ (fun z hz => by subst hz; exact hB) ?_
      rintro v J6 H6 e6 g6 G6 ⟨s, hs, hsw, sp6⟩
      have p6 := p5.stepB g6 sp6.b
      dsimp only at hsw
      walk_at "go"
      rename_i L J7 H7 hL7 e7 hJ7 g7 G7
      have p7 := p6.step g7
      obtain ⟨kv7, mt7, he7⟩ := p7.t
      obtain ⟨cv7, mc7, hc7⟩ := p7.c
      obtain ⟨r7, a7, xs7, mb7, hr7⟩ := p7.b
      have mf7 := p7.f
      have mn7 := p7.n
      have hl7 := p7.l
      have hk7 := p7.k
      dsimp only at hl7 hk7 mn7 mf7 mt7 mc7 mb7
      walk_at "go"
      refine k_app G7 mn7 (.inl (.inr (.inr (.inl rfl)))) (by simp; omega) ?_
      intro H8 g8 G8 mn8
      have mt8 := mt7.step g8 p7.tn
      have mc8 := mc7.step g8 p7.cn
      have mf8 := mf7.step g8 (fun e => p7.nf e.symm)
      have mb8 := mb7.step g8 (fun e => p7.nb e.symm)
      walk_at "go"
      refine k_dputM G8 mt8 (.inl (.inr (.inr (.inr rfl)))) (by rw [he7.1]; show d.ts.length < _; omega) ?_
      intro H9 g9 G9 mt9
      have hrt : rTy t (.ref ta) J7 := ⟨ta, rfl, e7 _ _ (e6 _ _ (e5 _ _ hta)), by omega⟩
      have hst : rStm rTy (.lt x t s) (.ref L) J7 := mkLt hJ7 hrt (Up.up e7 hs)
      walk_at "go"
      refine kk _ _ _ G9 ⟨.lt x t s, hst, ⟨hKT, hsw.mono p1.w.inA⟩, ?_, ?_⟩
      · rw [hdr]; rfl
      · refine ⟨⟨r7, a7, xs7, mb8.step g9 (fun e => p7.tb e.symm), hr7⟩, mf8.step g9 (fun e => p7.tf e.symm), ?_, ⟨_, mt9, entR_put he7 hxn hrt⟩, ⟨cv7, mc8.step g9 p7.ct, hc7⟩, p7.fb, p7.nb, p7.tb, p7.cb, p7.nf, p7.tf, p7.cf, p7.tn, p7.cn, p7.ct, ?_, ?_, ?_, hk7, p7.fl⟩
        · have := mn8.step g9 (fun e => p7.tn e.symm)
          simpa [letsOf] using this
        · intro p hp
          rcases List.mem_append.mp hp with z | z
          · exact p1.w p z
          · obtain rfl : p = (x, t) := by simpa [letsOf] using z
            exact ⟨hKT, hxA⟩
        · intro p hp
          rcases List.mem_append.mp hp with z | z
          · exact List.take_subset_take_left _ (Nat.le_succ _) (p1.wk p z)
          · obtain rfl : p = (x, t) := by simpa [letsOf] using z
            show x ∈ allNames.take (d.k + 1)
            rw [List.take_add_one, hxk]
            simp
        · have := p1.l
          simp [letsOf]; omega
    · -- put
      walk_at "go"
      refine if2 (fun q2 => ?_) (fun _ => hA)
      clear hA
      rw [List.length_map, List.length_map] at q
      have hpos : 0 < d.ts.length := by
        rcases Nat.eq_zero_or_pos d.ts.length with z | z
        · rw [z] at q; exact absurd q (by decide)
        · exact z
      walk_at "go"
      refine use_draw 40 G1 p1.b (by decide) hB ?_
      intro i3 J3 H3 hi3 e3 g3 G3 b3
      have p3 := p1.stepB g3 b3
      obtain ⟨kvs3, md3, he3⟩ := p3.t
      have mn3 := p3.n
      walk_at "go"
      rw [List.length_map, List.length_map]
      refine k_mod (by omega) ?_
      obtain ⟨j, hj, ej⟩ := emod_nat (i3 : Int) hpos
      rw [ej]
      have hx : ((d.ts.map (·.1)).map V.str)[j]? = some (V.str d.ts[j].1) := by rw [List.getElem?_map, List.getElem?_map, List.getElem?_eq_getElem hj]; rfl
      have hxm : d.ts[j].1 ∈ d.ts.map (·.1) := List.mem_map_of_mem (List.getElem_mem hj)
      have hxA : InA d.ts[j].1 := p1.w.inA _ hxm
      obtain ⟨t, ht⟩ := Option.isSome_iff_exists.mp (lookup_some_of hxm)
      have hKT : KT t := (p1.w _ (lookup_mem ht)).1
      obtain ⟨tv, hv, tva, rfl, htv, htl⟩ := he3.some ht
      generalize d.ts[j].1 = x at *
      walk_at "go"
      refine use_draw 40 G3 b3 (by decide) hB ?_
      intro i4 J4 H4 hi4 e4 g4 G4 b4
      have p4 := p3.stepB g4 b4
      have md4 := md3.step g4 p3.tb
      walk_at "go"
      rw [List.length_map]
      refine use_draw 9 G4 b4 (by decide) hB ?_
      intro i5 J5 H5 hi5 e5 g5 G5 b5
      have p5 := p4.stepB g5 b5
      have md5 := md4.step g5 p4.tb
      walk_at "go"
      have hm : ∃ m : Nat, 0 < m ∧ m ≤ 7 ∧ ((t.length : Int) + (if decide (V.int (i5 : Int) = V.int 0) = true then 1 else 0)) = (m : Int) := by
        have := hKT.2
        cases decide (V.int (i5 : Int) = V.int 0)
        · exact ⟨t.length, by omega, by omega, by simp⟩
        · exact ⟨t.length + 1, by omega, by omega, by simp⟩
      obtain ⟨m, hm0, hm7, em⟩ := hm
      rw [em]
      refine k_mod (by omega) ?_
      obtain ⟨k, hk, ek⟩ := emod_nat (i4 : Int) hm0
      rw [ek]
      walk_at "go"
      have hmin : ∃ k5 : Nat, k5 ≤ 5 ∧ (if (5 : Int) < (k : Int) then (5 : Int) else (k : Int)) = (k5 : Int) := by
        by_cases z : (5 : Int) < (k : Int)
        · exact ⟨5, by omega, by rw [if_pos z]; rfl⟩
        · exact ⟨k, by omega, by rw [if_neg z]⟩
      obtain ⟨k5, hk5, ek5⟩ := hmin
      rename_i LP J6 H6 hLP e6 hJ6 g6 G6
      rw [ek5] at hJ6
      have p6 := p5.step g6
      refine k_slTd (n := k + 1) G6 (e6 _ _ (e5 _ _ (e4 _ _ htv))) ?_
      intro ua J7 H7 e7 hua g7 G7
      have p7 := p6.step g7
      walk_at "go"
      refine use_sp G7 ⟨d.bx, d.nl, d.td, d.ts.map (·.1), d.ts, t.drop (k + 1)⟩ ⟨_, _, _, _, rfl, rfl, rfl, rfl, ⟨ua, rfl, by rw [List.map_drop]; exact hua, by simp; omega⟩, p7.src _⟩ (fun z hz => by subst hz; exact hB) ?_
      rintro v J8 H8 e8 g8 G8 ⟨s, hs, hsw, sp8⟩
      have p8 := p7.stepB g8 sp8.b
      dsimp only at hsw
      walk_at "go"
      rename_i L J9 H9 hL9 e9 hJ9 g9 G9
      exact kk2 (.pt x k5 s) _ _ _ G9 (mkPt hJ9 (e9 _ _ (e8 _ _ (e7 _ _ hJ6))) (Up.up e9 hs)) ⟨hxA, hk5, hsw.mono p1.w.inA⟩ rfl (p8.step g9)
  · -- call
    walk_at "go"
    refine if2 (fun q2 => ?_) (fun _ => hA)
    clear hA
    have hpos : 0 < cv1.length := by
      rcases Nat.eq_zero_or_pos cv1.length with z | z
      · rw [z] at q; exact absurd q (by decide)
      · exact z
    walk_at "go"
    refine use_draw 40 G1 p1.b (by decide) hB ?_
    intro i3 J3 H3 hi3 e3 g3 G3 b3
    have p3 := p1.stepB g3 b3
    have mc3 := mc1.step g3 p1.cb
    walk_at "go"
    refine k_mod (by omega) ?_
    obtain ⟨j, hj, ej⟩ := emod_nat (i3 : Int) hpos
    rw [ej]
    have hx : cv1[j]? = some cv1[j] := List.getElem?_eq_getElem hj
    obtain ⟨g, hg, hgr⟩ := hc1.at hx
    have hgm := List.mem_of_getElem? hg
    obtain ⟨c, pv, bv, hcv, hc, ⟨ap, px, rfl, hap, hpx⟩, hbv⟩ := hgr
    rw [hcv] at hx
    generalize cv1[j] = cvj at *
    subst hcv
    have hgl := (p1.fl.2 g hgm).1
    walk_at "go"
    refine k_lcW (M1 := fun z => z = d.bx) (walk_list (xs := px)) G3 (by rw [hpx.1]; omega) (fun z hz => by subst hz; exact hB) (fun z hz => by subst hz; obtain ⟨_, _, _, m, _⟩ := b3; rw [m.h]; simp) (fun i acc J' H' => StP d J' H' ∧ ∃ ss : List Src, ss.length = i ∧ (∀ s ∈ ss, SrcW InA s) ∧ AllR rSrc ss acc J') ⟨p3, [], rfl, by simp, AllR.nil⟩ ?_ ?_ (fun J' H' e e' => SqL.of (e' _ _ (e _ _ (e3 _ _ hap)))) ?_ ?_
    · rintro D i acc J4 H4 o hD hD1 ⟨hp4, k⟩
      exact ⟨hp4.updH (p3.ne hD), k⟩
    · rintro D i acc J4 H4 o hD hD1 ⟨hp4, ss, h1, h2, h3⟩
      exact ⟨hp4.updJ (p3.ne hD) hD1, ss, h1, h2, Up.up (ex_know hD1) h3⟩
    · rintro i y acc J4 H4 H4' Ny Nn hi hl e4 g4 g4' ⟨hp4, ss, hss, hsw, hac⟩ ⟨rfl, hy⟩ hny hnn
      obtain ⟨q, hq, a, kv, rfl, ha, kva, rfl, hkv, hkl⟩ := hpx.at hy
      walk_at "go"
      refine ⟨rfl, ?_⟩
      walk_at "go"
      rename_i ua J5 H5 e5 hua g5 G5
      have p5 := hp4.step g5
      refine use_sp (M0 := fun z => z = d.bx) (g5.weak fun _ z => z.elim) ⟨d.bx, d.nl, d.td, d.ts.map (·.1), d.ts, q.2.drop 1⟩ ⟨_, _, _, _, rfl, rfl, rfl, rfl, ⟨ua, rfl, by rw [List.map_drop]; exact hua, by simp; omega⟩, p5.src _⟩ (fun z hz => .inl hz) ?_
      rintro v J6 H6 e6 g6 G6 ⟨s, hs, hsw2, sp6⟩
      have p6 := p5.stepB g6 sp6.b
      refine hny _ _ _ G6 ⟨p6, ss ++ [s], by simp [hss], fun z hz => ?_, (Up.up (e5.trans e6) hac).snoc hs⟩
      rcases List.mem_append.mp hz with z1 | z1
      · exact hsw z z1
      · obtain rfl : z = s := by simpa using z1
        exact hsw2.mono p1.w.inA
    · rintro D acc J4 H4 hD e4 hDJ g4 G4 hl ⟨hp4, ss, hss, hsw, hac⟩
      walk_at "go"
      rename_i L J5 H5 hL e5 hJ5 g5 G5
      exact kk2 (.cl g.name ss) _ _ _ G5 (mkCl hJ5 (e5 _ _ hDJ) (Up.up e5 hac)) ⟨g, hgm, rfl, by rw [hss, hpx.1], hsw⟩ rfl (hp4.step g5)
end Rk
namespace Rk
open PySem PySem.Spec PyProof.Rows L2
variable {P : Program} {w : World} {K : PySem.W.Frag} {mg : Str → Option Value} {base : Heap}
structure FnD where
  bx : Addr
  fr : Addr
  cl : Addr
  name : Str
  fns : List (Fn Ty)
  k : Nat
structure FnP (d : FnD) (J H : Hp) : Prop where
  b : Box d.bx J H
  f : Mu J H d.fr (.lst ((allNames.drop d.k).map V.str))
  c : ∃ cv, Mu J H d.cl (.lst cv) ∧ AllR (rLFn rTy) d.fns cv J
  fb : ¬ d.fr = d.bx
  cb : ¬ d.cl = d.bx
  cf : ¬ d.cl = d.fr
  fl : d.fns.length ≤ 4 ∧ ∀ g ∈ d.fns, g.ps.length ≤ 4 ∧ ∀ q ∈ g.ps, KT q.2
def FnM (d : FnD) (b : Addr) : Prop := b = d.bx ∨ b = d.fr
def fnN {κ : Type} (f : Fn κ) : List Str := f.ps.map (·.1) ++ (letsOf f.body).map (·.1)
structure FnW {κ : Type} (KW : κ → Prop) (P : Str → Prop) (fns : List (Fn κ)) (f : Fn κ) : Prop where
  l : f.ps.length ≤ 2 ∧ f.body.length ≤ 3
  k : ∀ q ∈ f.ps, KW q.2
  b : ∀ st ∈ f.body, StmW KW P fns st
theorem take_more {α : Type} (l : List α) (k a b : Nat) : (l.drop k).take a ++ (l.drop (k + a)).take b = (l.drop k).take (a + b) := by
  rw [List.take_add, List.drop_drop]
theorem letsOf_append {κ : Type} (a b : List (Stm κ)) : letsOf (a ++ b) = letsOf a ++ letsOf b := by simp [letsOf, List.filterMap_append]
theorem letsOf_len {κ : Type} (a : List (Stm κ)) : (letsOf a).length ≤ a.length := List.length_filterMap_le _ _
/-- the statements of a block, drawn one after another -/
structure BlkI (d : StD) (i : Nat) (acc : List V) (J H : Hp) (sts : List (Stm Ty)) : Prop where
  p : StP { d with ts := d.ts ++ letsOf sts, k := d.k + (letsOf sts).length } J H
  l : sts.length = i
  r : AllR (rStm rTy) sts acc J
  w : ∀ st ∈ sts, StmW KT InA d.fns st
  n : (letsOf sts).map (·.1) = (allNames.drop d.k).take (letsOf sts).length
theorem BlkI.more {d : StD} {i : Nat} {acc : List V} {J H J' H' : Hp} {sts : List (Stm Ty)} {st : Stm Ty} {v : V} (b : BlkI d i acc J H sts) (e : Ex J J') (h : rStm rTy st v J') (w : StmW KT InA d.fns st)
    (n : (letsOf [st]).map (·.1) = (allNames.drop (d.k + (letsOf sts).length)).take (letsOf [st]).length) (p : StP { d with ts := (d.ts ++ letsOf sts) ++ letsOf [st], k := (d.k + (letsOf sts).length) + (letsOf [st]).length } J' H') : BlkI d (i + 1) (acc ++ [v]) J' H' (sts ++ [st]) := by
  refine ⟨?_, by simp [b.l], (Up.up e b.r).snoc h, fun s hs => ?_, ?_⟩
  · rw [letsOf_append, List.length_append, ← List.append_assoc, ← Nat.add_assoc]
    exact p
  · rcases List.mem_append.mp hs with z | z
    · exact b.w s z
    · obtain rfl : s = st := by simpa using z
      exact w
  · rw [letsOf_append, List.map_append, List.length_append, b.n, n, take_more]
theorem k_block {M0 : Addr → Prop} {J0 H0 J H : Hp} {Q : VK} {σ : L2.St} {g : TG} {tt : TT} {te : TE} {vs : List Nat} (d : StD) (n : Nat) (G : Gr M0 J0 H0 J H) (hn : n ≤ 9) (hk : d.k + 9 ≤ 40) (hp : StP d J H) (hM : ∀ b, StM d b → M0 b ∨ H0 b = none)
    (hs : ∀ (i : Nat) acc J1 H1 sts (Ny : VK) (Nn : Hp → Prop), i < n → Gr M0 J0 H0 J1 H1 → BlkI d i acc J1 H1 sts →
      (∀ y J4 H4 st, Gr (StM d) J1 H1 J4 H4 → BlkI d (i + 1) (acc ++ [y]) J4 H4 (sts ++ [st]) → Ny y H4) →
      g (.int (i : Int)) (wipe σ vs) H1 fun σ2 H2 => wipe σ2 vs = wipe σ vs ∧ tt σ2 H2 fun b H3 => if b = true then te σ2 H3 Ny else Nn H3)
    (k : ∀ D acc J' H' sts, H D = none → Ex J J' → J' D = some (.lst acc) → Gr (StM d) J H J' H' → Gr M0 J0 H0 J' H' → BlkI d n acc J' H' sts → Q (.ref D) H') :
    ∀ D, H D = none → ∃ W : Nat → Nat → Hp → Prop, (∃ m, W 0 m (upd H D (.lst []))) ∧ ∀ i m H, W i m H →
  ((Itr 0 n).stop i H ∧ ap Q (.ref D) H) ∨ ((Itr 0 n).go i H ∧ ∃ Nx : Hp → Prop, (∀ H', Nx H' → ∃ m', m' < m ∧ W (i + 1) m' H') ∧ ∀ x H', (Itr 0 n).yld i H x H' → g x (wipe σ vs) H' fun σ2 H2 => wipe σ2 vs = wipe σ vs ∧ tt σ2 H2 fun b H3 =>
    if b = true then te σ2 H3 fun y H4 => ∃ acc, H4 D = some (.lst acc) ∧ acc.length < sizeLine ∧ Nx (upd H4 D (.lst (acc ++ [y]))) else Nx H3) := by
  refine k_lcW (M1 := StM d) walk_range G (by omega) hM ?_ (fun i acc J1 H1 => ∃ sts, BlkI d i acc J1 H1 sts) ⟨[], by simpa [letsOf] using hp, rfl, AllR.nil, by simp, rfl⟩ ?_ ?_ (fun _ _ _ _ => trivial) ?_ ?_
  · obtain ⟨kvs, mt, _⟩ := hp.t
    obtain ⟨r, a, xs, mb, _⟩ := hp.b
    rintro b (rfl | rfl | rfl | rfl)
    · rw [mb.h]; simp
    · rw [hp.f.h]; simp
    · rw [hp.n.h]; simp
    · rw [mt.h]; simp
  · rintro D i acc J1 H1 o hD hD1 ⟨sts, b⟩
    exact ⟨sts, b.p.updH (hp.ne hD |> fun z => ⟨z.b, z.f, z.n, z.t, z.c⟩), b.l, b.r, b.w, b.n⟩
  · rintro D i acc J1 H1 o hD hD1 ⟨sts, b⟩
    exact ⟨sts, b.p.updJ (hp.ne hD |> fun z => ⟨z.b, z.f, z.n, z.t, z.c⟩) hD1, b.l, Up.up (ex_know hD1) b.r, b.w, b.n⟩
  · rintro i x acc J1 H1 H1' Ny Nn hi hl e g g1 ⟨sts, b⟩ ⟨rfl, rfl⟩ hy hnn
    have h := hs i acc J1 _ sts Ny Nn hi g b (fun y J4 H4 st g4 b4 => hy y J4 H4 g4 ⟨_, b4⟩)
    dsimp only
    rw [show ((0 : Int) + (i : Int)) = (i : Int) from Int.zero_add _]
    exact h
  · rintro D acc J' H' hD e hDJ g1 g hl ⟨sts, b⟩
    exact k D acc J' H' sts hD e hDJ g1 g b
abbrev spLawFunction : Sp := SpD FnD FnM (fun d vs J H => ∃ v1 v2 v3 v4, vs = [v1, v2, v3, v4] ∧ v1 = .ref d.bx ∧ v2 = .ref d.fr ∧ v3 = .str d.name ∧ v4 = .ref d.cl ∧ FnP d J H ∧ d.k ≤ 20)
  (fun d v J H => ∃ f, rLFn rTy f v J ∧ f.name = d.name ∧ FnW KT InA d.fns f ∧ fnN f = (allNames.drop d.k).take (fnN f).length ∧ FnP { d with k := d.k + (fnN f).length } J H)
theorem ok_LawFunction (T : Good K mg) : FnOk P w K mg base CX0 5 (He.ga K "_law_function") (fdOf K (He.ga K "_law_function")) ["_law_box", "_law_fresh", "_law_name", "_law_functions"] spLawFunction := by
  refine sp_ok (k := 4) (D_sLawFunction T) S_sLawFunction (fun a vs J H h => by obtain ⟨_, _, _, _, rfl, _⟩ := h; rfl) (fun cdv Ar outer s H0 vs E hr => ?_)
  refine ⟨_, (pss_cons (ps_set (i := 4) S_sLawFunction.nd rfl (by first | exact Or.inl rfl | exact Or.inr rfl) (pe_lst pa_nil))
  (pss_cons (ps_set (i := 5) S_sLawFunction.nd rfl (by first | exact Or.inl rfl | exact Or.inr rfl) pe_dnewK)
  (pss_cons (ps_set (i := 6) S_sLawFunction.nd rfl (by first | exact Or.inl rfl | exact Or.inr rfl) (pe_lst pa_nil))
  (pss_cons (ps_for PassesOwn.never rfl (pi_range1 (by rfl) (f_range T) (pa_cons (pe_call (ok_LawDraw T) (hr.mono (by omega)) rfl (g_law_draw T) (D_sLawDraw T).kp (B_sLawDraw T) .nil pass0 (pa_cons (pv 0) (pa_cons pe_int pa_nil))) pa_nil)) (pg_name (i := 7) S_sLawFunction.nd rfl (by first | exact Or.inl rfl | exact Or.inr rfl))
  (pss_cons (ps_set (i := 8) S_sLawFunction.nd rfl (by first | exact Or.inl rfl | exact Or.inr rfl) (pe_bm PySem.F.plainAttrs_list PySem.F.slot_list_pop PySem.F.type_list_pop mt_popAt (pv 1) (pa_cons pe_int pa_nil)))
  (pss_cons (ps_dput (hu_of hr) (pv 5) (pv 8) (pe_call (ok_LawRights T) (hr.mono (by omega)) rfl (g_law_rights T) (D_sLawRights T).kp (B_sLawRights T) .nil pass0 (pa_cons (pv 0) (pa_cons (pe_op op_add pe_int (pe_call (ok_LawDraw T) (hr.mono (by omega)) rfl (g_law_draw T) (D_sLawDraw T).kp (B_sLawDraw T) .nil pass0 (pa_cons (pv 0) (pa_cons pe_int pa_nil)))) pa_nil))) rfl)
  (pss_cons (ps_expr (pe_bm PySem.F.plainAttrs_list PySem.F.slot_list_append PySem.F.type_list_append mt_append (pv 6) (pa_cons (pe_tup (pa_cons (pv 8) (pa_cons (pe_dget (hu_of hr) (pv 5) (pv 8) (fun _ _ => rfl)) pa_nil))) pa_nil)))
  (pss_one (ps_expr (pe_bm PySem.F.plainAttrs_list PySem.F.slot_list_append PySem.F.type_list_append mt_append (pv 4) (pa_cons (pv 8) pa_nil))))))))
  (pss_cons (ps_setLc (i := 9) (own := [("_law_j", 7)]) (by rfl) S_sLawFunction.nd rfl rfl (sw_true rfl rfl rfl (by decide +kernel)) (pi_range1 (by rfl) (f_range T) (pa_cons (pe_call (ok_LawDraw T) (hr.mono (by omega)) rfl (g_law_draw T) (D_sLawDraw T).kp (B_sLawDraw T) .nil pass0 (pa_cons (pv 0) (pa_cons pe_int pa_nil))) pa_nil)) (blkOk_by (own := [("_law_j", 7)]) (N := ["_law_box", "_law_fresh", "_law_name", "_law_functions", "_law_names_here", "_law_types", "_law_params", "_law_j", "_law_x", "_law_body"]) (sc := defScope sLawFunction) (by decide +kernel)) (fun _ _ _ _ _ => (pg_name (i := 7) S_sLawFunction.nd rfl (by first | exact Or.inl rfl | exact Or.inr rfl))) (fun _ _ _ _ _ => pts_nil) (fun _ _ _ _ _ => (pe_call (ok_LawStatement T) (hr.mono (by omega)) rfl (g_law_statement T) (D_sLawStatement T).kp (B_sLawStatement T) .nil pass0 (pa_cons (pv 0) (pa_cons (pv 1) (pa_cons (pv 4) (pa_cons (pv 5) (pa_cons (pv 3) pa_nil))))))))
  (pss_one (ps_ret (pe_lst (pa_cons (pv 2) (pa_cons (pv 6) (pa_cons (pv 9) pa_nil))))))))))), ?_⟩
  rintro d J0 Q G ⟨_, _, _, _, rfl, rfl, rfl, rfl, rfl, hp, hk20⟩ kk
  have zs := sizeLine_eq
  have hB : FnM d d.bx ∨ H0 d.bx = none := .inl (.inl rfl)
  walk_at "go"
  refine k_lstM G (by decide) ?_
  intro nl H1 hnl hnl0 mn1 g1 G1
  walk_at "go"
  refine k_dictM G1 ?_
  intro td H2 htd htd0 mt2 g2 G2
  walk_at "go"
  refine k_lstM G2 (by decide) ?_
  intro pm H3 hpm hpm0 mp3 g3 G3
  have p2 : StP ⟨d.bx, d.fr, nl, td, d.cl, [], d.fns, d.k⟩ J0 H2 := by
    obtain ⟨cv, mc, hc⟩ := hp.c
    obtain ⟨r, a, xs, mb, hr⟩ := hp.b
    have mb1 := mb.up g1
    have mf1 := hp.f.up g1
    have mc1 := mc.up g1
    exact { b := ⟨r, a, xs, mb1.up g2, hr⟩, f := mf1.up g2, n := mn1.up g2, t := ⟨[], mt2, EntR.nil⟩, c := ⟨cv, mc1.up g2, hc⟩, fb := hp.fb, nb := fun e => mb.nen hnl e.symm, tb := fun e => mb1.nen htd e.symm, cb := hp.cb,
            nf := fun e => hp.f.nen hnl e.symm, tf := fun e => mf1.nen htd e.symm, cf := hp.cf, tn := fun e => mn1.nen htd e.symm, cn := mc.nen hnl, ct := mc1.nen htd,
            w := fun p hp => by cases hp
            wk := fun p hp => by cases hp
            l := Nat.zero_le _
            k := by show d.k ≤ 40; omega
            fl := hp.fl }
  have n0 := p2.ne hpm
  have p3 := p2.step g3
  walk_at "go"
  refine use_draw 3 G3 p3.b (by decide) hB ?_
  intro i4 J4 H4 hi4 e4 g4 G4 b4
  have p4 := p3.stepB g4 b4
  have mp4 := mp3.step g4 (fun e => n0.b e.symm)
  walk_at "go"
  refine k_iR1E (by omega) ?_
  rw [Int.toNat_natCast]
  refine k_forR G4 (fun j σ' J' H' => ∃ w w' ts pv, σ' = [some (.ref d.bx), some (.ref d.fr), some (.str d.name), some (.ref d.cl), some (.ref nl), some (.ref td), some (.ref pm), w, w', none] ∧ StP ⟨d.bx, d.fr, nl, td, d.cl, ts, d.fns, d.k + j⟩ J' H' ∧ Mu J' H' pm (.lst pv) ∧ AllR (rPar rTy) ts pv J' ∧ ts.length = j ∧ ts.map (·.1) = (allNames.drop d.k).take j)
    ⟨_, _, [], [], rfl, p4, mp4, AllR.nil, rfl, rfl⟩ ?_ ?_
  · rintro j σ' J5 H5 hj e5 G5 ⟨w, w', ts, pv, rfl, p5, mp5, hpv, hlen, hnm⟩
    have hL : allNames.length = 40 := by decide +kernel
    have hN : allNames.Nodup := by decide +kernel
    have hdr := List.drop_eq_getElem_cons (l := allNames) (i := d.k + j) (by omega)
    have hxk : allNames[d.k + j]? = some (allNames[d.k + j]'(by omega)) := List.getElem?_eq_getElem _
    have hxA : InA (allNames[d.k + j]'(by omega)) := List.getElem_mem _
    generalize allNames[d.k + j]'(by omega) = x at *
    have hxt : x ∉ allNames.take (d.k + j) := by
      intro h
      obtain ⟨i, hi, e⟩ := List.getElem_of_mem h
      rw [List.getElem_take] at e
      have hi2 : i < d.k + j := by simp at hi; omega
      have h1 : allNames[i]? = some x := by rw [← e]; exact List.getElem?_eq_getElem _
      have := (List.getElem?_inj (i := i) (j := d.k + j) (by omega) hN).mp (h1.trans hxk.symm)
      omega
    have hxn : ts.lookup x = none := by
      cases q : ts.lookup x with
      | none => rfl
      | some t => exact absurd (p5.wk _ (lookup_mem q)) hxt
    have mf5 := p5.f
    dsimp only at mf5
    rw [hdr] at mf5
    walk_at "go"
    refine k_pop0 G5 mf5 (.inl (.inr rfl)) ?_
    intro H6 g6 G6 mf6
    have p6 := p5.pop g6 mf6 (by show d.k + j < 40; omega)
    have mp6 := mp5.step g6 (fun e => n0.f e.symm)
    walk_at "go"
    refine use_draw 4 G6 p6.b (by decide) hB ?_
    intro i7 J7 H7 hi7 e7 g7 G7 b7
    have p7 := p6.stepB g7 b7
    have mp7 := mp6.step g7 (fun e => n0.b e.symm)
    walk_at "go"
    refine use_sp G7 (d.bx, 1 + i7) ⟨_, _, rfl, rfl, rfl, b7, by show 1 + i7 ≤ 6; omega⟩ (fun z hz => by subst hz; exact hB) ?_
    rintro v J8 H8 e8 g8 G8 ⟨t, htl, hrt, hrT, b8⟩
    dsimp only at htl
    have p8 := p7.stepB g8 b8
    have mp8 := mp7.step g8 (fun e => n0.b e.symm)
    have hKT : KT t := ⟨hrt, by omega, by omega⟩
    obtain ⟨kv8, mt8, he8⟩ := p8.t
    obtain ⟨cv8, mc8, hc8⟩ := p8.c
    obtain ⟨r8, a8, xs8, mb8, hr8⟩ := p8.b
    have mf8 := p8.f
    have mn8 := p8.n
    have hl8 := p8.l
    have hk8 := p8.k
    dsimp only at mt8 mc8 mb8 mf8 mn8 hl8 hk8
    walk_at "go"
    refine k_dputM G8 mt8 (.inr htd0) (by rw [he8.1]; show ts.length < _; omega) ?_
    intro H9 g9 G9 mt9
    have he9 := entR_put (t := t) he8 hxn hrT
    have mp9 := mp8.step g9 (fun e => n0.t e.symm)
    have mn9 := mn8.step g9 (fun e => p8.tn e.symm)
    have mc9 := mc8.step g9 p8.ct
    have mf9 := mf8.step g9 (fun e => p8.tf e.symm)
    have mb9 := mb8.step g9 (fun e => p8.tb e.symm)
    have hlx : (ts ++ [(x, t)]).lookup x = some t := by
      rw [List.lookup_append, hxn]
      simp [List.lookup]
    obtain ⟨v9, hv9, hr9⟩ := he9.some hlx
    walk_at "go"
    rename_i LT JA HA hLT eA hJA gA GA
    refine k_app GA (mp9.up gA) (.inr hpm0) (by rw [hpv.1]; omega) ?_
    intro HB gB GB mpB
    have mtB := (mt9.up gA).step gB n0.t
    have mnB := (mn9.up gA).step gB n0.n
    have mcB := (mc9.up gA).step gB n0.c
    have mfB := (mf9.up gA).step gB n0.f
    have mbB := (mb9.up gA).step gB n0.b
    walk_at "go"
    refine k_app GB mnB (.inr hnl0) (by simp; omega) ?_
    intro HC gC GC mnC
    walk_at "go"
    refine ⟨_, (((e5.trans e7).trans e8).trans eA), GC, _, _, ts ++ [(x, t)], _, rfl, ?_, mpB.step gC (fun e => n0.n e.symm), (Up.up ((e7.trans e8).trans eA) hpv).snoc ⟨LT, _, rfl, hJA, Up.up eA hr9⟩, by simp [hlen], ?_⟩
    · exact { b := ⟨r8, a8, xs8, mbB.step gC (fun e => p8.nb e.symm), eA _ _ hr8⟩, f := mfB.step gC (fun e => p8.nf e.symm), n := by simpa using mnC, t := ⟨_, mtB.step gC p8.tn, Up.up eA he9⟩, c := ⟨cv8, mcB.step gC p8.cn, Up.up eA hc8⟩, fb := p8.fb, nb := p8.nb, tb := p8.tb, cb := p8.cb,
              nf := p8.nf, tf := p8.tf, cf := p8.cf, tn := p8.tn, cn := p8.cn, ct := p8.ct,
              w := fun p hp => by
                rcases List.mem_append.mp hp with z | z
                · exact p5.w p z
                · obtain rfl : p = (x, t) := by simpa using z
                  exact ⟨hKT, hxA⟩
              wk := fun p hp => by
                rcases List.mem_append.mp hp with z | z
                · exact List.take_subset_take_left _ (Nat.le_succ _) (p5.wk p z)
                · obtain rfl : p = (x, t) := by simpa using z
                  show x ∈ allNames.take (d.k + j + 1)
                  rw [List.take_add_one, hxk]
                  simp
              l := by simp; omega
              k := hk8
              fl := p8.fl }
    · rw [List.map_append, hnm, List.take_add_one, List.getElem?_drop, hxk]
      rfl
  · rintro σ' J5 H5 e5 G5 ⟨w, w', ts, pv, rfl, p5, mp5, hpv, hlen, hnm⟩
    walk_at "go"
    refine use_draw 4 G5 p5.b (by decide) hB ?_
    intro i6 J6 H6 hi6 e6 g6 G6 b6
    have p6 := p5.stepB g6 b6
    have mp6 := mp5.step g6 (fun e => n0.b e.symm)
    walk_at "go"
    refine k_iR1E (by omega) ?_
    rw [Int.toNat_natCast]
    refine k_block ⟨d.bx, d.fr, nl, td, d.cl, ts, d.fns, d.k + i4⟩ i6 G6 (by omega) (by show d.k + i4 + 9 ≤ 40; omega) p6 ?_ ?_ ?_
    · rintro b (rfl | rfl | rfl | rfl)
      · exact hB
      · exact .inl (.inr rfl)
      · exact .inr hnl0
      · exact .inr htd0
    · rintro i acc J7 H7 sts Ny Nn hi G7 bi hny
      have hls := letsOf_len sts
      rw [bi.l] at hls
      walk_at "go"
      refine ⟨rfl, ?_⟩
      walk_at "go"
      refine use_sp (M0 := StM ⟨d.bx, d.fr, nl, td, d.cl, ts, d.fns, d.k + i4⟩) (Gr.refl G7.jh) { (⟨d.bx, d.fr, nl, td, d.cl, ts, d.fns, d.k + i4⟩ : StD) with ts := ts ++ letsOf sts, k := (d.k + i4) + (letsOf sts).length } ⟨_, _, _, _, _, rfl, rfl, rfl, rfl, rfl, rfl, bi.p, by show d.k + i4 + _ < 40; omega⟩ (fun z hz => .inl hz) ?_
      rintro v J8 H8 e8 g8 G8 ⟨st, h1, h2, h3, h4⟩
      exact hny _ _ _ st G8 (bi.more e8 h1 h2 h3 h4)
    · rintro D acc J7 H7 sts hD e7 hDJ g7 G7 bi
      have mp7 := mp6.step g7 (fun z => by
        rcases z with z | z | z | z
        · exact n0.b z.symm
        · exact n0.f z.symm
        · exact n0.n z.symm
        · exact n0.t z.symm)
      have hls := letsOf_len sts
      rw [bi.l] at hls
      walk_at "go"
      rename_i L J8 H8 hL e8 hJ8 g8 G8
      have mp8 := mp7.up g8
      have p8 := bi.p.step g8
      obtain ⟨cv8, mc8, hc8⟩ := p8.c
      obtain ⟨r8, a8, xs8, mb8, hr8⟩ := p8.b
      have mf8 := p8.f
      have ek := ex_know (o := .lst pv) mp8.j
      have hfl : (fnN (⟨d.name, ts, sts⟩ : Fn Ty)).length = i4 + (letsOf sts).length := by simp [fnN, hlen]
      refine kk _ _ _ (G8.know mp8.j mp8.h hpm0) ⟨⟨d.name, ts, sts⟩, ⟨L, .ref pm, .ref D, rfl, ek _ _ hJ8, ⟨pm, pv, rfl, upd_same, Up.up (((e6.trans e7).trans e8).trans ek) hpv⟩, ⟨D, acc, rfl, ek _ _ (e8 _ _ hDJ), Up.up (e8.trans ek) bi.r⟩⟩, rfl, ⟨⟨by show ts.length ≤ 2; omega, by show sts.length ≤ 3; rw [bi.l]; omega⟩, fun q hq => (p6.w q hq).1, bi.w⟩, ?_, ?_⟩
      · rw [hfl]
        show ts.map (·.1) ++ (letsOf sts).map (·.1) = _
        rw [hnm, bi.n]
        exact take_more _ _ _ _
      · rw [hfl]
        exact { b := ⟨r8, a8, xs8, mb8.knw n0.b, ek _ _ hr8⟩, f := by have := mf8.knw (o' := .lst pv) n0.f; rw [← Nat.add_assoc]; exact this, c := ⟨cv8, mc8.knw n0.c, Up.up ek hc8⟩, fb := hp.fb, cb := hp.cb, cf := hp.cf, fl := hp.fl }
end Rk
namespace Rk
open PySem PySem.Spec PyProof.Rows L2
variable {P : Program} {w : World} {K : PySem.W.Frag} {mg : Str → Option Value} {base : Heap}
def nmsOf {κ : Type} (p : Pg κ) : List Str := (p.fns.map fnN).flatten ++ (letsOf p.main).map (·.1)
structure PgW {κ : Type} (KW : κ → Prop) (P : Str → Prop) (p : Pg κ) : Prop where
  n : p.fns.map (·.name) = (["fa", "fb"] : List Str).take p.fns.length
  l : p.fns.length ≤ 2
  f : ∀ i f, p.fns[i]? = some f → FnW KW P (p.fns.take i) f
  m : ∀ st ∈ p.main, StmW KW P p.fns st
abbrev spLawProgram : Sp := SpD (Addr × Nat) (fun d b => b = d.1) (fun d vs J H => ∃ v1 v2, vs = [v1, v2] ∧ v1 = .ref d.1 ∧ v2 = .int (d.2 : Int) ∧ Box d.1 J H ∧ d.2 ≤ 9)
  (fun d v J H => ∃ p, rLPg rTy p v J ∧ PgW KT InA p ∧ nmsOf p = allNames.take (nmsOf p).length ∧ p.main.length ≤ d.2 ∧ Box d.1 J H)
structure FsI (bx fr cl : Addr) (i : Nat) (fs : List (Fn Ty)) (k : Nat) (J H : Hp) : Prop where
  p : FnP ⟨bx, fr, cl, "", fs, k⟩ J H
  l : fs.length = i
  n : fs.map (·.name) = (["fa", "fb"] : List Str).take i
  w : ∀ j f, fs[j]? = some f → FnW KT InA (fs.take j) f
  nm : (fs.map fnN).flatten = allNames.take k
  k : k ≤ 5 * i
theorem fnN_len {f : Fn Ty} {fs : List (Fn Ty)} (w : FnW KT InA fs f) : (fnN f).length ≤ 5 := by
  have := letsOf_len f.body
  have := w.l
  simp [fnN]; omega
theorem FnP.step {d : FnD} {J H J1 H1 : Hp} (x : FnP d J H) (g : Gr No J H J1 H1) : FnP d J1 H1 := by
  obtain ⟨cv, mc, hc⟩ := x.c
  exact ⟨x.b.up g, x.f.up g, ⟨cv, mc.up g, Up.up g.jj hc⟩, x.fb, x.cb, x.cf, x.fl⟩
theorem FnP.stepB {d : FnD} {J H J1 H1 : Hp} (x : FnP d J H) (g : Gr (fun z => z = d.bx) J H J1 H1) (b : Box d.bx J1 H1) : FnP d J1 H1 := by
  obtain ⟨cv, mc, hc⟩ := x.c
  exact ⟨b, x.f.step g x.fb, ⟨cv, mc.step g x.cb, Up.up g.jj hc⟩, x.fb, x.cb, x.cf, x.fl⟩
theorem ok_LawProgram (T : Good K mg) : FnOk P w K mg base CX0 6 (He.ga K "_law_program") (fdOf K (He.ga K "_law_program")) ["_law_box", "_law_most"] spLawProgram := by
  refine sp_ok (k := 5) (D_sLawProgram T) S_sLawProgram (fun a vs J H h => by obtain ⟨_, _, rfl, _⟩ := h; rfl) (fun cdv Ar outer s H0 vs E hr => ?_)
  refine ⟨_, (pss_cons (ps_set (i := 2) S_sLawProgram.nd rfl (by first | exact Or.inl rfl | exact Or.inr rfl) (pe_call0 (ok_LawNames T) (hr.mono (by omega)) rfl (g_law_names T) (D_sLawNames T).kp (B_sLawNames T) .nil pass0))
  (pss_cons (ps_set (i := 3) S_sLawProgram.nd rfl (by first | exact Or.inl rfl | exact Or.inr rfl) (pe_lst pa_nil))
  (pss_cons (ps_for PassesOwn.never rfl (pi_range1 (by rfl) (f_range T) (pa_cons (pe_call (ok_LawDraw T) (hr.mono (by omega)) rfl (g_law_draw T) (D_sLawDraw T).kp (B_sLawDraw T) .nil pass0 (pa_cons (pv 0) (pa_cons pe_int pa_nil))) pa_nil)) (pg_name (i := 4) S_sLawProgram.nd rfl (by first | exact Or.inl rfl | exact Or.inr rfl))
  (pss_one (ps_expr (pe_bm PySem.F.plainAttrs_list PySem.F.slot_list_append PySem.F.type_list_append mt_append (pv 3) (pa_cons (pe_call (ok_LawFunction T) (hr.mono (by omega)) rfl (g_law_function T) (D_sLawFunction T).kp (B_sLawFunction T) .nil pass0 (pa_cons (pv 0) (pa_cons (pv 2) (pa_cons (pe_ix (xL K) (pe_lst (pa_cons pe_str (pa_cons pe_str pa_nil))) (pv 4) (fun _ _ => rfl)) (pa_cons (pv 3) pa_nil))))) pa_nil)))))
  (pss_cons (ps_set (i := 5) S_sLawProgram.nd rfl (by first | exact Or.inl rfl | exact Or.inr rfl) (pe_lst pa_nil))
  (pss_cons (ps_set (i := 6) S_sLawProgram.nd rfl (by first | exact Or.inl rfl | exact Or.inr rfl) pe_dnewK)
  (pss_one (ps_ret (pe_lst (pa_cons (pv 3) (pa_cons (pe_lc (own := [("_law_k", 4)]) (by rfl) S_sLawProgram.nd (pi_range1 (by rfl) (f_range T) (pa_cons (pe_call (ok_LawDraw T) (hr.mono (by omega)) rfl (g_law_draw T) (D_sLawDraw T).kp (B_sLawDraw T) .nil pass0 (pa_cons (pv 0) (pa_cons (pe_op op_add (pv 1) pe_int) pa_nil))) pa_nil)) (blkOk_by (own := [("_law_k", 4)]) (N := ["_law_box", "_law_most", "_law_fresh", "_law_functions", "_law_k", "_law_names_here", "_law_types"]) (sc := defScope sLawProgram) (by decide +kernel)) (fun _ _ _ _ _ => (pg_name (i := 4) S_sLawProgram.nd rfl (by first | exact Or.inl rfl | exact Or.inr rfl))) (fun _ _ _ _ _ => pts_nil) (fun _ _ _ _ _ => (pe_call (ok_LawStatement T) (hr.mono (by omega)) rfl (g_law_statement T) (D_sLawStatement T).kp (B_sLawStatement T) .nil pass0 (pa_cons (pv 0) (pa_cons (pv 2) (pa_cons (pv 5) (pa_cons (pv 6) (pa_cons (pv 3) pa_nil)))))))) pa_nil)))))))))), ?_⟩
  rintro ⟨bx, most⟩ J0 Q G ⟨_, _, rfl, rfl, rfl, hb, hmost⟩ kk
  dsimp only at *
  have zs := sizeLine_eq
  have hB : (fun b => b = bx) bx ∨ H0 bx = none := .inl rfl
  obtain ⟨rb, ab, xb, mb0, hrb⟩ := hb
  walk_at "go"
  refine use_sp G H0 ⟨rfl, rfl⟩ (fun _ z => z.elim) ?_
  rintro v J1 H1 e1 g1 G1 ⟨fr, rfl, hfr0, mf1⟩
  have mb1 := mb0.up g1
  walk_at "go"
  refine k_lstM G1 (by decide) ?_
  intro cl H2 hcl hcl0 mc2 g2 G2
  have p2 : FnP ⟨bx, fr, cl, "", [], 0⟩ J1 H2 :=
    { b := ⟨rb, ab, xb, mb1.up g2, e1 _ _ hrb⟩, f := by simpa using mf1.up g2, c := ⟨[], mc2, AllR.nil⟩, fb := fun e => mb0.nen hfr0 e.symm, cb := fun e => mb1.nen hcl e.symm, cf := fun e => mf1.nen hcl e.symm, fl := ⟨by show 0 ≤ 4; omega, fun g hg => by cases hg⟩ }
  walk_at "go"
  refine use_draw 3 G2 p2.b (by decide) hB ?_
  intro i3 J3 H3 hi3 e3 g3 G3 b3
  have p3 := p2.stepB g3 b3
  walk_at "go"
  refine k_iR1E (by omega) ?_
  rw [Int.toNat_natCast]
  refine k_forR G3 (fun i σ' J' H' => ∃ w fs k, σ' = [some (.ref bx), some (.int (most : Int)), some (.ref fr), some (.ref cl), w, none, none] ∧ FsI bx fr cl i fs k J' H') ⟨_, [], 0, rfl, p3, rfl, rfl, fun j f h => by simp at h, rfl, Nat.le_refl _⟩ ?_ ?_
  · rintro i σ' J4 H4 hi e4 G4 ⟨w, fs, k, rfl, p4⟩
    obtain ⟨cv4, mc4, hc4⟩ := p4.p.c
    dsimp only at mc4
    walk_at "go"
    rename_i L J5 H5 hL e5 hJ5 g5 G5
    have p5 := p4.p.step g5
    have mc5 := mc4.up g5
    have hnm : ∃ w : Str, ([V.str "fa", .str "fb"] : List V)[i]? = some (.str w) ∧ (["fa", "fb"] : List Str)[i]? = some w := by
      have : i = 0 ∨ i = 1 := by omega
      rcases this with rfl | rfl
      · exact ⟨_, rfl, rfl⟩
      · exact ⟨_, rfl, rfl⟩
    obtain ⟨nm, hnm, hnm2⟩ := hnm
    walk_at "go"
    refine use_sp G5 ⟨bx, fr, cl, nm, fs, k⟩ ⟨_, _, _, _, rfl, rfl, rfl, rfl, rfl, ⟨p5.b, p5.f, p5.c, p5.fb, p5.cb, p5.cf, p5.fl⟩, by have := p4.k; show k ≤ 20; omega⟩ (fun z hz => ?_) ?_
    · rcases hz with rfl | rfl
      · exact hB
      · exact .inr hfr0
    rintro v J6 H6 e6 g6 G6 ⟨f, hf, hfn, hfw, hfN, p6⟩
    dsimp only at hfn hfw hfN
    have h5 := fnN_len hfw
    obtain ⟨cv6, mc6, hc6⟩ := p6.c
    dsimp only at mc6
    walk_at "go"
    refine k_app G6 mc6 (.inr hcl0) (by rw [hc6.1]; show fs.length < _; have := p4.l; omega) ?_
    intro H7 g7 G7 mc7
    walk_at "go"
    obtain ⟨r6, a6, xs6, mb6, hr6⟩ := p6.b
    refine ⟨_, (e4.trans e5).trans e6, G7, _, fs ++ [f], k + (fnN f).length, rfl, ?_⟩
    have hl := p4.l
    exact
      { p := { b := ⟨r6, a6, xs6, mb6.step g7 (fun e => p6.cb e.symm), hr6⟩, f := p6.f.step g7 (fun e => p6.cf e.symm), c := ⟨_, mc7, hc6.snoc hf⟩, fb := p6.fb, cb := p6.cb, cf := p6.cf,
               fl := ⟨by show (fs ++ [f]).length ≤ 4; rw [List.length_append]; have : ([f] : List (Fn Ty)).length = 1 := rfl; omega, fun g hg => by
                 rcases List.mem_append.mp hg with z | z
                 · exact p6.fl.2 g z
                 · obtain rfl : g = f := by simpa using z
                   exact ⟨by have := hfw.l; omega, hfw.k⟩⟩ }
        l := by rw [List.length_append, hl]; rfl
        n := by rw [List.map_append, p4.n, List.take_add_one, hnm2, ← hfn]; rfl
        w := fun j g hg => by
          by_cases hj : j < fs.length
          · rw [List.getElem?_append_left hj] at hg
            rw [List.take_append_of_le_length (by omega)]
            exact p4.w j g hg
          · have hjl : j = fs.length := by
              have := (List.getElem?_eq_some_iff.mp hg).1
              simp at this; omega
            subst hjl
            rw [List.getElem?_append_right (Nat.le_refl _), Nat.sub_self] at hg
            simp at hg
            subst hg
            rw [List.take_append_of_le_length (Nat.le_refl _), List.take_of_length_le (Nat.le_refl _)]
            exact hfw
        nm := by
          rw [List.map_append, List.flatten_append, p4.nm, List.take_add]
          simp [← hfN]
        k := by have := p4.k; omega }
  · rintro σ' J4 H4 e4 G4 ⟨w, fs, k, rfl, p4⟩
    obtain ⟨cv4, mc4, hc4⟩ := p4.p.c
    obtain ⟨rb4, ab4, xb4, mb4, hrb4⟩ := p4.p.b
    have mf4 := p4.p.f
    have hl4 := p4.l
    have hk4 := p4.k
    dsimp only at mc4 mb4 mf4 hc4
    walk_at "go"
    refine k_lstM G4 (by decide) ?_
    intro nl H5 hnl hnl0 mn5 g5 G5
    have mc5 := mc4.up g5
    have mb5 := mb4.up g5
    have mf5 := mf4.up g5
    walk_at "go"
    refine k_dictM G5 ?_
    intro td H6 htd htd0 mt6 g6 G6
    have p6 : StP ⟨bx, fr, nl, td, cl, [], fs, k⟩ J4 H6 :=
      { b := ⟨rb4, ab4, xb4, mb5.up g6, hrb4⟩, f := mf5.up g6, n := mn5.up g6, t := ⟨[], mt6, EntR.nil⟩, c := ⟨cv4, mc5.up g6, hc4⟩, fb := p4.p.fb, nb := fun e => mb4.nen hnl e.symm, tb := fun e => mb5.nen htd e.symm, cb := p4.p.cb,
        nf := fun e => mf4.nen hnl e.symm, tf := fun e => mf5.nen htd e.symm, cf := p4.p.cf, tn := fun e => mn5.nen htd e.symm, cn := mc4.nen hnl, ct := mc5.nen htd,
        w := fun p hp => by cases hp
        wk := fun p hp => by cases hp
        l := Nat.zero_le _
        k := by show k ≤ 40; omega
        fl := p4.p.fl }
    walk_at "go"
    refine use_draw (most + 1) G6 p6.b (by omega) hB ?_
    intro i7 J7 H7 hi7 e7 g7 G7 b7
    have p7 := p6.stepB g7 b7
    walk_at "go"
    refine k_iR1E (by omega) ?_
    rw [Int.toNat_natCast]
    refine k_block ⟨bx, fr, nl, td, cl, [], fs, k⟩ i7 G7 (by omega) (by show k + 9 ≤ 40; omega) p7 ?_ ?_ ?_
    · rintro b (rfl | rfl | rfl | rfl)
      · exact hB
      · exact .inr hfr0
      · exact .inr hnl0
      · exact .inr htd0
    · rintro i acc J8 H8 sts Ny Nn hi G8 bi hny
      have hls := letsOf_len sts
      rw [bi.l] at hls
      walk_at "go"
      refine ⟨rfl, ?_⟩
      walk_at "go"
      refine use_sp (M0 := StM ⟨bx, fr, nl, td, cl, [], fs, k⟩) (Gr.refl G8.jh) { (⟨bx, fr, nl, td, cl, [], fs, k⟩ : StD) with ts := [] ++ letsOf sts, k := k + (letsOf sts).length } ⟨_, _, _, _, _, rfl, rfl, rfl, rfl, rfl, rfl, bi.p, by show k + _ < 40; omega⟩ (fun z hz => .inl hz) ?_
      rintro v J9 H9 e9 g9 G9 ⟨st, h1, h2, h3, h4⟩
      exact hny _ _ _ st G9 (bi.more e9 h1 h2 h3 h4)
    · rintro D acc J8 H8 sts hD e8 hDJ g8 G8 bi
      walk_at "go"
      rename_i L J9 H9 hL e9 hJ9 g9 G9
      have p9 := bi.p.step g9
      have n9 := letsOf_len sts
      rw [bi.l] at n9
      obtain ⟨cv9, mc9, hc9⟩ := p9.c
      obtain ⟨r9, a9, xs9, mb9, hr9⟩ := p9.b
      dsimp only at mc9 mb9 hc9
      have ek := ex_know (o := .lst cv9) mc9.j
      have hbn := bi.n
      dsimp only at hbn
      have hfin : nmsOf (⟨fs, sts⟩ : Pg Ty) = allNames.take (k + (letsOf sts).length) := by
        show (fs.map fnN).flatten ++ _ = _
        rw [p4.nm, hbn, List.take_add]
      refine kk _ _ _ (G9.know mc9.j mc9.h hcl0) ⟨⟨fs, sts⟩, ⟨L, .ref cl, .ref D, rfl, ek _ _ hJ9, ⟨cl, cv9, rfl, upd_same, Up.up ek hc9⟩, ⟨D, acc, rfl, ek _ _ (e9 _ _ hDJ), Up.up (e9.trans ek) bi.r⟩⟩, ⟨?_, ?_, p4.w, bi.w⟩, ?_, ?_, ⟨r9, a9, xs9, mb9.knw (fun e => p4.p.cb e.symm), ek _ _ hr9⟩⟩
      · show fs.map (·.name) = (["fa", "fb"] : List Str).take fs.length
        rw [p4.n, hl4]
      · show fs.length ≤ 2; omega
      · have hL : allNames.length = 40 := by decide +kernel
        rw [hfin, List.length_take]
        congr 1
        omega
      · show sts.length ≤ most; rw [bi.l]; omega
end Rk
namespace Rk
open PySem PySem.Spec PyProof.Rows L2
/-! the mathematics of depths -/
def KN (n : Nat) : Prop := n ≤ 3
def InB (x : Str) : Prop := InA x ∨ x = "zq"
structure PgD (p : Pg Nat) : Prop where
  w : PgW KN InB p
  nd : (nmsOf p).Nodup
  na : ∀ x ∈ nmsOf p, InB x
  l : p.main.length ≤ 10
  ln : (nmsOf p).length ≤ 20
theorem kinds_perm_aux {κ : Type} (M : List (Stm κ)) : ∀ fns : List (Fn κ), ((fns.map (·.ps)).flatten ++ ((fns.map (·.body) ++ [M]).map letsOf).flatten |>.map (·.1)).Perm ((fns.map fnN).flatten ++ (letsOf M).map (·.1))
  | [] => by simp
  | f :: fs => by
    have ih := kinds_perm_aux M fs
    simp only [List.map_cons, List.flatten_cons, List.map_append, List.cons_append, List.append_assoc, fnN] at ih ⊢
    refine List.Perm.append_left _ ?_
    exact (List.perm_append_comm_assoc _ _ _).trans (List.Perm.append_left _ ih)
theorem kinds_perm {κ : Type} (p : Pg κ) : ((kindsOf p).map (·.1)).Perm (nmsOf p) := kinds_perm_aux p.main p.fns
theorem PgD.knd {p : Pg Nat} (h : PgD p) : ((kindsOf p).map (·.1)).Nodup := (kinds_perm p).nodup_iff.mpr h.nd
theorem PgD.kl {p : Pg Nat} (h : PgD p) : (kindsOf p).length ≤ 20 := by
  have := (kinds_perm p).length_eq
  have := h.ln
  simp at *; omega
theorem mem_kinds_fn {κ : Type} {p : Pg κ} {f : Fn κ} (hf : f ∈ p.fns) {q : Str × κ} (h : q ∈ f.ps ++ letsOf f.body) : q ∈ kindsOf p := by
  unfold kindsOf
  rcases List.mem_append.mp h with h | h
  · exact List.mem_append_left _ (List.mem_flatten.mpr ⟨f.ps, List.mem_map_of_mem hf, h⟩)
  · exact List.mem_append_right _ (List.mem_flatten.mpr ⟨letsOf f.body, List.mem_map_of_mem (List.mem_append_left _ (List.mem_map_of_mem hf)), h⟩)
theorem mem_kinds_main {κ : Type} {p : Pg κ} {q : Str × κ} (h : q ∈ letsOf p.main) : q ∈ kindsOf p :=
  List.mem_append_right _ (List.mem_flatten.mpr ⟨letsOf p.main, List.mem_map_of_mem (List.mem_append_right _ (by simp)), h⟩)
theorem mem_lets {κ : Type} {b : List (Stm κ)} {x : Str} {t : κ} : (x, t) ∈ letsOf b ↔ ∃ s, Stm.lt x t s ∈ b := by
  unfold letsOf
  rw [List.mem_filterMap]
  constructor
  · rintro ⟨st, h1, h2⟩
    cases st with
    | lt y u s => simp at h2; obtain ⟨rfl, rfl⟩ := h2; exact ⟨s, h1⟩
    | pt y k s => cases h2
    | cl f ss => cases h2
  · rintro ⟨s, h⟩
    exact ⟨_, h, rfl⟩
theorem kinds_mem {κ : Type} {p : Pg κ} {q : Str × κ} (h : q ∈ kindsOf p) : (∃ f ∈ p.fns, q ∈ f.ps ++ letsOf f.body) ∨ q ∈ letsOf p.main := by
  unfold kindsOf at h
  rcases List.mem_append.mp h with h | h
  · obtain ⟨l, hl, hq⟩ := List.mem_flatten.mp h
    obtain ⟨f, hf, rfl⟩ := List.mem_map.mp hl
    exact .inl ⟨f, hf, List.mem_append_left _ hq⟩
  · obtain ⟨l, hl, hq⟩ := List.mem_flatten.mp h
    obtain ⟨b, hb, rfl⟩ := List.mem_map.mp hl
    rcases List.mem_append.mp hb with hb | hb
    · obtain ⟨f, hf, rfl⟩ := List.mem_map.mp hb
      exact .inl ⟨f, hf, List.mem_append_right _ hq⟩
    · obtain rfl : b = p.main := by simpa using hb
      exact .inr hq
theorem fn_mem_get {p : Pg Nat} {f : Fn Nat} (h : PgD p) (hf : f ∈ p.fns) : ∃ i, p.fns[i]? = some f ∧ FnW KN InB (p.fns.take i) f := by
  obtain ⟨i, hi, e⟩ := List.getElem_of_mem hf
  have : p.fns[i]? = some f := by rw [← e]; exact List.getElem?_eq_getElem hi
  exact ⟨i, this, h.w.f i f this⟩
theorem PgD.kw {p : Pg Nat} (h : PgD p) : ∀ q ∈ kindsOf p, q.2 ≤ 3 := by
  intro q hq
  rcases kinds_mem hq with ⟨f, hf, hq⟩ | hq
  · obtain ⟨i, hi, w⟩ := fn_mem_get h hf
    rcases List.mem_append.mp hq with z | z
    · exact w.k q z
    · obtain ⟨s, hs⟩ := mem_lets.mp z
      exact (w.b _ hs).1
  · obtain ⟨s, hs⟩ := mem_lets.mp hq
    exact (h.w.m _ hs).1
theorem PgD.kdOk {p : Pg Nat} (h : PgD p) : KdOk p := ⟨h.knd, Nat.le_trans h.kl (by decide), Nat.le_trans h.w.l (by decide), fun q hq => Nat.le_succ_of_le (h.kw q hq)⟩
/-! ### typing -/
theorem lookup_mem_nd {α : Type} {x : Str} {d : α} : ∀ {l : List (Str × α)}, (l.map (·.1)).Nodup → (x, d) ∈ l → l.lookup x = some d
  | [], _, h => by cases h
  | (y, e) :: l, hn, h => by
    rw [List.map_cons, List.nodup_cons] at hn
    rcases List.mem_cons.mp h with z | z
    · cases z; simp [List.lookup]
    · have hne : x ≠ y := fun e => hn.1 (by subst e; exact List.mem_map_of_mem (f := (·.1)) z)
      have : (x == y) = false := beq_eq_false_iff_ne.mpr hne
      simp only [List.lookup, this]
      exact lookup_mem_nd hn.2 z
/-- a table: every name has a type of its depth -/
def TbG (tb : Tys) (p : Pg Nat) : Prop := ∀ q ∈ kindsOf p, ∃ t, tb.lookup q.1 = some t ∧ t.length = q.2 + 1 ∧ AllRt t
theorem openT_G {p : Pg Nat} (h : PgD p) : TbG (openT p) p := by
  intro q hq
  refine ⟨List.replicate (q.2 + 1) "rw", ?_, by simp, fun r hr => .inl (List.eq_of_mem_replicate hr)⟩
  refine lookup_mem_nd ?_ ?_
  · have : (openT p).map (·.1) = (kindsOf p).map (·.1) := by unfold openT; rw [List.map_map]; rfl
    rw [this]; exact h.knd
  · exact List.mem_map_of_mem (f := fun q : Str × Nat => (q.1, (List.replicate (q.2 + 1) "rw" : Ty))) hq
def tyE (tb : Tys) (ds : List (Str × Nat)) : Tys := ds.map fun q => (q.1, tyOf tb q.1)
theorem tyE_look {tb : Tys} {x : Str} : ∀ {ds : List (Str × Nat)}, (tyE tb ds).lookup x = (ds.lookup x).map fun _ => tyOf tb x
  | [] => rfl
  | (y, d) :: ds => by
    by_cases e : x = y
    · subst e; simp [tyE, List.lookup]
    · have : (x == y) = false := beq_eq_false_iff_ne.mpr e
      have ih := tyE_look (tb := tb) (x := x) (ds := ds)
      unfold tyE at ih ⊢
      simp only [List.map_cons, List.lookup, this]
      exact ih
theorem TbG.tbOk {tb : Tys} {p : Pg Nat} (h : TbG tb p) (d : PgD p) : TbOk tb p := by
  have hs : ∀ q ∈ kindsOf p, (tb.lookup q.1).isSome = true := fun q hq => by
    obtain ⟨t, ht, _⟩ := h q hq
    rw [ht]; rfl
  refine ⟨fun f hf q hq => hs q (mem_kinds_fn hf (List.mem_append_left _ hq)), fun f hf x t s hst => hs (x, t) (mem_kinds_fn hf (List.mem_append_right _ (mem_lets.mpr ⟨s, hst⟩))), fun x t s hst => hs (x, t) (mem_kinds_main (mem_lets.mpr ⟨s, hst⟩)), fun f hf => ?_, ?_⟩
  · obtain ⟨i, hi, w⟩ := fn_mem_get d hf
    have := w.l
    omega
  · have := d.w.l; have := d.l; omega
theorem TbG.ty {tb : Tys} {p : Pg Nat} (h : TbG tb p) {x : Str} {n : Nat} (hq : (x, n) ∈ kindsOf p) : (tyOf tb x).length = n + 1 ∧ AllRt (tyOf tb x) := by
  obtain ⟨t, ht, h1, h2⟩ := h _ hq
  unfold tyOf
  rw [ht]
  exact ⟨h1, h2⟩
/-! ### blocks, statement by statement -/
theorem blk_at {P : List (Str × Nat) → Stm Nat → Prop} {ds : List (Str × Nat)} {st : Stm Nat} {r : List (Stm Nat)} (h : ∀ i s, (st :: r)[i]? = some s → P (ds ++ letsOf ((st :: r).take i)) s) : P ds st ∧ ∀ i s, r[i]? = some s → P ((ds ++ letsOf [st]) ++ letsOf (r.take i)) s := by
  refine ⟨by simpa [letsOf] using h 0 st rfl, fun i s hs => ?_⟩
  have := h (i + 1) s hs
  rw [List.take_succ_cons, show st :: r.take i = [st] ++ r.take i from rfl, letsOf_append, ← List.append_assoc] at this
  exact this
theorem grow_typ (tb : Tys) (ds : List (Str × Nat)) (st : Stm Nat) : grow (tyE tb ds) (typS tb st) = tyE tb (ds ++ letsOf [st]) := by
  cases st <;> simp [grow, typS, tyE, letsOf]
theorem blkF_nil {tb : Tys} {fns : List (Fn Ty)} {f : Str} : ∀ {b : List (Stm Nat)} {ds : List (Str × Nat)} {k : Nat}, (∀ i s, b[i]? = some s → stmF (tyE tb (ds ++ letsOf (b.take i))) fns (typS tb s) = none) → blkF fns f (tyE tb ds) (b.map (typS tb)) k = []
  | [], _, _, _ => rfl
  | st :: r, ds, k, h => by
    obtain ⟨h1, h2⟩ := blk_at (P := fun ds s => stmF (tyE tb ds) fns (typS tb s) = none) h
    rw [List.map_cons]
    unfold blkF
    rw [h1, grow_typ, blkF_nil h2]
    rfl
theorem blkOk_of {tb : Tys} {fns : List (Fn Ty)} : ∀ {b : List (Stm Nat)} {ds : List (Str × Nat)}, (∀ i s, b[i]? = some s → StOk (tyE tb (ds ++ letsOf (b.take i))) fns (typS tb s) ∧ ∀ x n z, s = .lt x n z → (ds ++ letsOf (b.take i)).lookup x = none ∧ AllRt (tyOf tb x)) → BlkOk fns (tyE tb ds) (b.map (typS tb))
  | [], _, _ => trivial
  | st :: r, ds, h => by
    obtain ⟨h1, h2⟩ := blk_at (P := fun ds s => StOk (tyE tb ds) fns (typS tb s) ∧ ∀ x n z, s = .lt x n z → ds.lookup x = none ∧ AllRt (tyOf tb x)) h
    rw [List.map_cons]
    refine ⟨h1.1, ?_, ?_⟩
    · cases st with
      | lt x n z =>
        obtain ⟨h3, h4⟩ := h1.2 x n z rfl
        exact ⟨by rw [tyE_look, h3]; rfl, h4⟩
      | pt x k z => trivial
      | cl g ss => trivial
    · rw [grow_typ]
      exact blkOk_of h2
end Rk
namespace Rk
open PySem PySem.Spec PyProof.Rows L2
/-- a statement of the program, and what is known before it -/
def AtSt (p : Pg Nat) (ds : List (Str × Nat)) (st : Stm Nat) : Prop :=
  (∃ f ∈ p.fns, ∃ i, f.body[i]? = some st ∧ ds = f.ps ++ letsOf (f.body.take i)) ∨ ∃ i, p.main[i]? = some st ∧ ds = letsOf (p.main.take i)
theorem lets_take_sub {b : List (Stm Nat)} {i : Nat} : ∀ q ∈ letsOf (b.take i), q ∈ letsOf b := by
  intro q hq
  obtain ⟨s, hs⟩ := mem_lets.mp hq
  exact mem_lets.mpr ⟨s, List.mem_of_mem_take hs⟩
theorem AtSt.sub {p : Pg Nat} {ds : List (Str × Nat)} {st : Stm Nat} (h : AtSt p ds st) : ∀ q ∈ ds, q ∈ kindsOf p := by
  intro q hq
  rcases h with ⟨f, hf, i, h1, rfl⟩ | ⟨i, h1, rfl⟩
  · refine mem_kinds_fn hf ?_
    rcases List.mem_append.mp hq with z | z
    · exact List.mem_append_left _ z
    · exact List.mem_append_right _ (lets_take_sub q z)
  · exact mem_kinds_main (lets_take_sub q hq)
theorem AtSt.lt_mem {p : Pg Nat} {ds : List (Str × Nat)} {x : Str} {n : Nat} {s : Src} (h : AtSt p ds (.lt x n s)) : (x, n) ∈ kindsOf p := by
  rcases h with ⟨f, hf, i, h1, rfl⟩ | ⟨i, h1, rfl⟩
  · exact mem_kinds_fn hf (List.mem_append_right _ (mem_lets.mpr ⟨s, List.mem_of_getElem? h1⟩))
  · exact mem_kinds_main (mem_lets.mpr ⟨s, List.mem_of_getElem? h1⟩)
theorem fns_take_mem {κ : Type} {p : Pg κ} {KW : κ → Prop} {P : Str → Prop} {i : Nat} {st : Stm κ} (h : StmW KW P (p.fns.take i) st) : StmW KW P p.fns st := by
  cases st with
  | lt x n s => exact h
  | pt x k s => exact h
  | cl f ss =>
    obtain ⟨g, hg, h⟩ := h
    exact ⟨g, List.mem_of_mem_take hg, h⟩
theorem AtSt.w {p : Pg Nat} {ds : List (Str × Nat)} {st : Stm Nat} (h : AtSt p ds st) (d : PgD p) : StmW KN InB p.fns st := by
  rcases h with ⟨f, hf, i, h1, rfl⟩ | ⟨i, h1, rfl⟩
  · obtain ⟨j, hj, w⟩ := fn_mem_get d hf
    exact fns_take_mem (w.b _ (List.mem_of_getElem? h1))
  · exact d.w.m _ (List.mem_of_getElem? h1)
theorem letsOf_fst_nd {p : Pg Nat} (d : PgD p) {f : Fn Nat} (hf : f ∈ p.fns) : (fnN f).Nodup := by
  have h := d.nd
  unfold nmsOf at h
  rw [List.nodup_append] at h
  have h1 := h.1
  exact (List.pairwise_flatten.mp h1).1 _ (List.mem_map_of_mem hf)
theorem look_none_of {x : Str} {n : Nat} {pre : List (Str × Nat)} {b : List (Stm Nat)} {i : Nat} {s : Src} (hn : (pre.map (·.1) ++ (letsOf b).map (·.1)).Nodup) (h : b[i]? = some (.lt x n s)) : (pre ++ letsOf (b.take i)).lookup x = none := by
  have e : b = b.take i ++ .lt x n s :: b.drop (i + 1) := split_at h
  have e2 : letsOf b = letsOf (b.take i) ++ (x, n) :: letsOf (b.drop (i + 1)) := by
    conv => lhs; rw [e]
    rw [letsOf_append]
    rfl
  rw [e2, ← List.map_append, ← List.append_assoc] at hn
  exact nodup_pre2 hn rfl
theorem AtSt.fresh {p : Pg Nat} {ds : List (Str × Nat)} {x : Str} {n : Nat} {s : Src} (h : AtSt p ds (.lt x n s)) (d : PgD p) : ds.lookup x = none := by
  rcases h with ⟨f, hf, i, h1, rfl⟩ | ⟨i, h1, rfl⟩
  · exact look_none_of (letsOf_fst_nd d hf) h1
  · have h := d.nd
    unfold nmsOf at h
    rw [List.nodup_append] at h
    exact look_none_of (pre := []) (by simpa using h.2.1) h1
theorem names_nd {p : Pg Nat} (d : PgD p) : (p.fns.map (·.name)).Nodup := by
  rw [d.w.n]
  exact List.Nodup.sublist (List.take_sublist _ _) (by decide)
theorem find_name {κ : Type} {f : Str} {g : Fn κ} : ∀ {fns : List (Fn κ)}, (fns.map (·.name)).Nodup → g ∈ fns → g.name = f → fns.find? (fun g => decide (g.name = f)) = some g
  | [], _, h, _ => by cases h
  | x :: xs, hn, h, e => by
    rw [List.map_cons, List.nodup_cons] at hn
    rcases List.mem_cons.mp h with rfl | h
    · rw [List.find?_cons, decide_eq_true e]
    · have : ¬ x.name = f := fun q => hn.1 (by rw [q, ← e]; exact List.mem_map_of_mem h)
      rw [List.find?_cons, decide_eq_false this]
      exact find_name hn.2 h e
theorem fnOf_typ {tb : Tys} {p : Pg Nat} (d : PgD p) {g : Fn Nat} (hg : g ∈ p.fns) {f : Str} (e : g.name = f) : fnOf (typP tb p).fns f = some (typF tb g) := by
  unfold fnOf
  refine find_name ?_ (List.mem_map_of_mem hg) e
  show ((p.fns.map (typF tb)).map (·.name)).Nodup
  rw [List.map_map]
  exact names_nd d
theorem AllRt.drop' {t : Ty} (h : AllRt t) (n : Nat) : AllRt (t.drop n) := fun r hr => h r (List.mem_of_mem_drop hr)
/-- where lengths agree, conversions hold -/
def CvSt (tb : Tys) (p : Pg Nat) (ds : List (Str × Nat)) : Stm Nat → Prop
  | .lt x _ s => CvOk (tyE tb ds) ((tyOf tb x).drop 1) s
  | .pt x k s => CvOk (tyE tb ds) ((tyOf (tyE tb ds) x).drop (k + 1)) s
  | .cl f ss => ∀ g ∈ p.fns, g.name = f → ∀ (i : Nat) q s, g.ps[i]? = some q → ss[i]? = some s → CvOk (tyE tb ds) ((tyOf tb q.1).drop 1) s
theorem tyE_ty {tb : Tys} {p : Pg Nat} (g : TbG tb p) {ds : List (Str × Nat)} (hs : ∀ q ∈ ds, q ∈ kindsOf p) (x : Str) : AllRt (tyOf (tyE tb ds) x) := by
  unfold tyOf
  rw [tyE_look]
  cases e : ds.lookup x with
  | none => intro r hr; cases hr
  | some n => exact (g.ty (hs _ (lookup_mem e))).2
theorem stOk_of {tb : Tys} {p : Pg Nat} (d : PgD p) (g : TbG tb p) {ds : List (Str × Nat)} {st : Stm Nat} (h : AtSt p ds st) (hc : CvSt tb p ds st) : StOk (tyE tb ds) (typP tb p).fns (typS tb st) := by
  cases st with
  | lt x n s => exact ⟨(g.ty h.lt_mem).2, hc⟩
  | pt x k s => exact ⟨(tyE_ty g h.sub x).drop' _, hc⟩
  | cl f ss =>
    obtain ⟨fn, hfn, e, hl, hw⟩ := h.w d
    obtain ⟨j, hj, w⟩ := fn_mem_get d hfn
    refine ⟨typF tb fn, fnOf_typ d hfn e, by rw [hl]; simp [typF], by have := w.l; omega, fun i q s hq hs => ?_⟩
    have hq2 : (fn.ps.map fun q => (q.1, tyOf tb q.1))[i]? = some q := hq
    rw [List.getElem?_map] at hq2
    cases e2 : fn.ps[i]? with
    | none => rw [e2] at hq2; cases hq2
    | some z =>
      rw [e2] at hq2
      obtain rfl : (z.1, tyOf tb z.1) = q := by simpa using hq2
      exact ⟨(g.ty (n := z.2) (mem_kinds_fn hfn (List.mem_append_left _ (List.mem_of_getElem? e2)))).2, hc fn hfn e i z s e2 hs⟩
theorem pgOk_of {tb : Tys} {p : Pg Nat} (d : PgD p) (g : TbG tb p) (hc : ∀ ds st, AtSt p ds st → CvSt tb p ds st) : PgOk (typP tb p) := by
  have hall : ∀ ds st, AtSt p ds st → StOk (tyE tb ds) (typP tb p).fns (typS tb st) ∧ ∀ x n z, st = .lt x n z → ds.lookup x = none ∧ AllRt (tyOf tb x) := fun ds st h =>
    ⟨stOk_of d g h (hc ds st h), fun x n z e => by subst e; exact ⟨h.fresh d, (g.ty h.lt_mem).2⟩⟩
  refine ⟨fun f hf => ?_, ?_, ?_, ?_⟩
  · obtain ⟨f, hf2, rfl⟩ := List.mem_map.mp hf
    obtain ⟨j, hj, w⟩ := fn_mem_get d hf2
    have wl := w.l
    have wk := w.k
    refine ⟨?_, ?_, ?_, by show (List.map _ _).length ≤ 4; rw [List.length_map]; omega, by show (List.map _ _).length ≤ 12; rw [List.length_map]; omega⟩
    · exact blkOk_of (ds := f.ps) fun i st hs => hall _ _ (.inl ⟨f, hf2, i, hs, rfl⟩)
    · intro q hq
      obtain ⟨z, hz, rfl⟩ := List.mem_map.mp hq
      have := g.ty (n := z.2) (mem_kinds_fn hf2 (List.mem_append_left _ hz))
      have := d.kw _ (mem_kinds_fn hf2 (List.mem_append_left _ hz))
      exact ⟨this |> fun _ => (g.ty (n := z.2) (mem_kinds_fn hf2 (List.mem_append_left _ hz))).2, by show (tyOf tb z.1).length ≤ 6; unfold KN at *; omega⟩
    · have := (List.nodup_append.mp (letsOf_fst_nd d hf2)).1
      show ((f.ps.map fun q => (q.1, tyOf tb q.1)).map (·.1)).Nodup
      rw [List.map_map]
      exact this
  · exact blkOk_of (ds := []) fun i st hs => hall _ _ (.inr ⟨i, hs, by simp⟩)
  · show (List.map _ _).length ≤ 4; rw [List.length_map]; have := d.w.l; omega
  · show (List.map _ _).length ≤ 40; rw [List.length_map]; have := d.l; omega
theorem pgF_nil_of {tb : Tys} {p : Pg Nat} (h : ∀ ds st, AtSt p ds st → stmF (tyE tb ds) (typP tb p).fns (typS tb st) = none) : pgF (typP tb p) = [] := by
  unfold pgF
  have h1 : ((typP tb p).fns.map fun g => blkF (typP tb p).fns g.name g.ps g.body 0).flatten = [] := by
    rw [List.flatten_eq_nil_iff]
    intro l hl
    obtain ⟨g, hg, rfl⟩ := List.mem_map.mp hl
    obtain ⟨f, hf, rfl⟩ := List.mem_map.mp hg
    exact blkF_nil (ds := f.ps) fun i s hs => h _ _ (.inl ⟨f, hf, i, hs, rfl⟩)
  rw [h1]
  exact blkF_nil (ds := []) fun i s hs => h _ _ (.inr ⟨i, hs, by simp⟩)
/-! ### open tables -/
def AllRw (t : Ty) : Prop := ∀ r ∈ t, r = "rw"
theorem AllRw.rep {t : Ty} (h : AllRw t) : t = (List.replicate t.length "rw" : Ty) := List.eq_replicate_iff.mpr ⟨rfl, h⟩
theorem AllRw.conv {a b : Ty} (h : AllRw a) (k : AllRw b) (l : a.length = b.length) : conv a b = true := by
  rw [h.rep, k.rep, l]
  exact conv_refl _
theorem AllRw.drop {t : Ty} (h : AllRw t) (n : Nat) : AllRw (t.drop n) := fun r hr => h r (List.mem_of_mem_drop hr)
theorem openT_rw (p : Pg Nat) (x : Str) : AllRw (tyOf (openT p) x) := by
  intro r hr
  unfold tyOf at hr
  cases e : (openT p).lookup x with
  | none => rw [e] at hr; cases hr
  | some t =>
    rw [e] at hr
    have h := lookup_mem e
    obtain ⟨q, _, hq⟩ := List.mem_map.mp h
    have : List.replicate (q.2 + 1) (Str.ofString "rw") = t := (Prod.mk.inj hq).2
    subst this
    exact List.eq_of_mem_replicate hr
theorem tyE_rw (p : Pg Nat) (ds : List (Str × Nat)) (x : Str) : AllRw (tyOf (tyE (openT p) ds) x) := by
  unfold tyOf
  rw [tyE_look]
  cases ds.lookup x with
  | none => intro r hr; cases hr
  | some n => exact openT_rw p x
theorem cvOk_rw {p : Pg Nat} {ds : List (Str × Nat)} {u : Ty} (h : AllRw u) : ∀ s, CvOk (tyE (openT p) ds) u s
  | .num _ => trivial
  | .null => trivial
  | .val x k => fun l => AllRw.conv ((tyE_rw p ds x).drop _) h l
  | .adr x k => fun l => AllRw.conv ((tyE_rw p ds x).drop _) h l
theorem pgOk_open {p : Pg Nat} (d : PgD p) : PgOk (typP (openT p) p) := pgOk_of d (openT_G d) fun ds st h => by
  cases st with
  | lt x n s => exact cvOk_rw ((openT_rw p x).drop _) s
  | pt x k s => exact cvOk_rw ((tyE_rw p ds x).drop _) s
  | cl f ss => exact fun g _ _ i q s _ _ => cvOk_rw ((openT_rw p q.1).drop _) s
/-! ### what a statement asks of depths -/
def dSrc (ds : List (Str × Nat)) : Src → Nat → Prop
  | .num _, m => m = 0
  | .null, m => m ≠ 0
  | .val x k, m => ∃ d, ds.lookup x = some d ∧ k ≤ d ∧ d - k = m
  | .adr x k, m => ∃ d, ds.lookup x = some d ∧ k ≤ d ∧ d + 1 - k = m
def dSt (fns : List (Fn Nat)) (ds : List (Str × Nat)) : Stm Nat → Prop
  | .lt _ n s => dSrc ds s n
  | .pt x k s => ∃ d, ds.lookup x = some d ∧ k ≤ d ∧ dSrc ds s (d - k)
  | .cl f ss => ∀ g ∈ fns, g.name = f → ∀ (i : Nat) q s, g.ps[i]? = some q → ss[i]? = some s → dSrc ds s q.2
theorem argF_none {ts : Tys} : ∀ {ps : List (Str × Ty)} {ss : List Src}, argF ts ps ss = none → ∀ (i : Nat) p s, ps[i]? = some p → ss[i]? = some s → srcF ts s (p.2.drop 1) = none
  | [], _, _, i, p, s, h, _ => by simp at h
  | _ :: _, [], _, i, p, s, _, h => by simp at h
  | q :: qs, z :: zs, h, i, p, s, hp, hs => by
    unfold argF at h
    cases e : srcF ts z (q.2.drop 1) with
    | some r => rw [e] at h; cases h
    | none =>
      rw [e] at h
      cases i with
      | zero => simp at hp hs; subst hp; subst hs; exact e
      | succ i => exact argF_none h i p s (by simpa using hp) (by simpa using hs)
theorem argF_none_of {ts : Tys} : ∀ {ps : List (Str × Ty)} {ss : List Src}, (∀ (i : Nat) p s, ps[i]? = some p → ss[i]? = some s → srcF ts s (p.2.drop 1) = none) → argF ts ps ss = none
  | [], [], _ => rfl
  | [], _ :: _, _ => rfl
  | _ :: _, [], _ => rfl
  | q :: qs, z :: zs, h => by
    unfold argF
    rw [h 0 q z rfl rfl]
    exact argF_none_of fun i p s hp hs => h (i + 1) p s (by simpa using hp) (by simpa using hs)
theorem srcF_d {tb : Tys} {p : Pg Nat} (g : TbG tb p) {ds : List (Str × Nat)} (hs : ∀ q ∈ ds, q ∈ kindsOf p) {s : Src} {u : Ty} (h : srcF (tyE tb ds) s u = none) : dSrc ds s u.length := by
  cases s with
  | num n =>
    unfold srcF at h
    by_cases q : u.length = 0
    · exact q
    · simp only [if_neg q] at h; cases h
  | null =>
    unfold srcF at h
    by_cases q : u.length = 0
    · simp only [if_pos q] at h; cases h
    · exact q
  | val x k =>
    unfold srcF at h
    dsimp only at h
    cases er : reached (tyE tb ds) x k with
    | some e => rw [er] at h; cases h
    | none =>
      rw [er] at h
      obtain ⟨t, et, hk, _⟩ := reached_none er
      rw [tyE_look] at et
      cases e2 : ds.lookup x with
      | none => rw [e2] at et; cases et
      | some d =>
        rw [e2] at et
        have e3 : tyOf tb x = t := by simpa using et
        have hl := (g.ty (hs _ (lookup_mem e2))).1
        have e4 : tyOf (tyE tb ds) x = t := by unfold tyOf; rw [tyE_look, e2]; exact e3
        dsimp only at h
        rw [e4] at h
        rw [e3] at hl
        split at h
        · unfold cvF at h
          split at h
          · rename_i q
            exact ⟨d, e2, by omega, by rw [List.length_drop] at q; omega⟩
          · cases h
        · cases h
  | adr x k =>
    unfold srcF at h
    dsimp only at h
    cases er : reached (tyE tb ds) x k with
    | some e => rw [er] at h; cases h
    | none =>
      rw [er] at h
      obtain ⟨t, et, hk, _⟩ := reached_none er
      rw [tyE_look] at et
      cases e2 : ds.lookup x with
      | none => rw [e2] at et; cases et
      | some d =>
        rw [e2] at et
        have e3 : tyOf tb x = t := by simpa using et
        have hl := (g.ty (hs _ (lookup_mem e2))).1
        have e4 : tyOf (tyE tb ds) x = t := by unfold tyOf; rw [tyE_look, e2]; exact e3
        dsimp only at h
        rw [e4] at h
        rw [e3] at hl
        unfold cvF at h
        split at h
        · rename_i q
          exact ⟨d, e2, by omega, by rw [List.length_drop] at q; omega⟩
        · cases h
theorem stmF_d {tb : Tys} {p : Pg Nat} (d : PgD p) (g : TbG tb p) {ds : List (Str × Nat)} {st : Stm Nat} (h : AtSt p ds st) (e : stmF (tyE tb ds) (typP tb p).fns (typS tb st) = none) : dSt p.fns ds st := by
  cases st with
  | lt x n s =>
    have := srcF_d g h.sub (u := (tyOf tb x).drop 1) e
    rw [List.length_drop, (g.ty h.lt_mem).1] at this
    exact this
  | pt x k s =>
    have e : putF1 (tyE tb ds) x k s = none := e
    unfold putF1 at e
    cases er : reached (tyE tb ds) x k with
    | some z => rw [er] at e; cases e
    | none =>
      rw [er] at e
      obtain ⟨t, et, hk, _⟩ := reached_none er
      rw [tyE_look] at et
      cases e2 : ds.lookup x with
      | none => rw [e2] at et; cases et
      | some n =>
        rw [e2] at et
        have e3 : tyOf tb x = t := by simpa using et
        have hl := (g.ty (h.sub _ (lookup_mem e2))).1
        have e4 : tyOf (tyE tb ds) x = t := by unfold tyOf; rw [tyE_look, e2]; exact e3
        dsimp only at e
        rw [e4] at e
        rw [e3] at hl
        split at e
        · have := srcF_d g h.sub e
          rw [List.length_drop, hl] at this
          exact ⟨n, e2, by omega, by rw [show n - k = n + 1 - (k + 1) by omega]; exact this⟩
        · cases e
  | cl f ss =>
    intro fn hfn ef i q s hq hs
    have e : argF (tyE tb ds) ((fnOf (typP tb p).fns f).map (·.ps) |>.getD []) ss = none := e
    rw [fnOf_typ d hfn ef] at e
    have := argF_none e i (q.1, tyOf tb q.1) s (by show (fn.ps.map _)[i]? = _; rw [List.getElem?_map, hq]; rfl) hs
    have := srcF_d g h.sub this
    rw [List.length_drop, (g.ty (n := q.2) (mem_kinds_fn hfn (List.mem_append_left _ (List.mem_of_getElem? hq)))).1] at this
    exact this
end Rk
namespace Rk
open PySem PySem.Spec PyProof.Rows L2
/-! mending -/
def mendB (bad : Str → Nat → Bool) (f : Str) : Nat → List (Stm Nat) → List (Stm Nat)
  | _, [] => []
  | k, st :: r => (if bad f k = true then (match st with
    | .lt x n _ => [plain x n]
    | _ => []) else [st]) ++ mendB bad f (k + 1) r
def mendF (bad : Str → Nat → Bool) (f : Fn Nat) : Fn Nat := ⟨f.name, f.ps, mendB bad f.name 0 f.body⟩
def mendP (bad : Str → Nat → Bool) (p : Pg Nat) : Pg Nat := ⟨p.fns.map (mendF bad), mendB bad "" 0 p.main⟩
theorem mendB_lets {bad : Str → Nat → Bool} {f : Str} : ∀ {b : List (Stm Nat)} {k : Nat}, letsOf (mendB bad f k b) = letsOf b
  | [], _ => rfl
  | st :: r, k => by
    unfold mendB
    rw [letsOf_append, mendB_lets (b := r), show letsOf (st :: r) = letsOf [st] ++ letsOf r from letsOf_append [st] r]
    congr 1
    by_cases h : bad f k = true
    · rw [if_pos h]; cases st <;> rfl
    · rw [if_neg h]
theorem mendB_at {bad : Str → Nat → Bool} {f : Str} : ∀ {b : List (Stm Nat)} {k j : Nat} {st : Stm Nat}, (mendB bad f k b)[j]? = some st → ∃ i s, b[i]? = some s ∧ letsOf ((mendB bad f k b).take j) = letsOf (b.take i) ∧ ((st = s ∧ bad f (k + i) = false) ∨ ∃ x n z, s = .lt x n z ∧ st = plain x n)
  | [], _, _, _, h => by simp [mendB] at h
  | s :: r, k, j, st, h => by
    unfold mendB at h ⊢
    have step : ∀ (pre : List (Stm Nat)), letsOf pre = letsOf [s] → (pre ++ mendB bad f (k + 1) r)[j]? = some st → pre.length ≤ j → ∃ i s', (s :: r)[i]? = some s' ∧ letsOf ((pre ++ mendB bad f (k + 1) r).take j) = letsOf ((s :: r).take i) ∧ ((st = s' ∧ bad f (k + i) = false) ∨ ∃ x n z, s' = .lt x n z ∧ st = plain x n) := by
      intro pre hp h hj
      rw [List.getElem?_append_right hj] at h
      obtain ⟨i, s', h1, h2, h3⟩ := mendB_at h
      refine ⟨i + 1, s', by simpa using h1, ?_, ?_⟩
      · rw [List.take_append, List.take_of_length_le hj, letsOf_append, h2, hp, List.take_succ_cons, show s :: r.take i = [s] ++ r.take i from rfl, letsOf_append]
      · rw [show k + (i + 1) = k + 1 + i by omega]; exact h3
    by_cases hb : bad f k = true
    · rw [if_pos hb] at h ⊢
      cases s with
      | lt x n z =>
        cases j with
        | zero =>
          simp at h
          exact ⟨0, _, rfl, by simp [letsOf], .inr ⟨x, n, z, rfl, h.symm⟩⟩
        | succ j => exact step [plain x n] rfl h (by simp)
      | pt x m z => exact step [] rfl h (by simp)
      | cl g ss => exact step [] rfl h (by simp)
    · rw [if_neg hb] at h ⊢
      cases j with
      | zero =>
        simp at h
        exact ⟨0, _, rfl, by simp [letsOf], .inl ⟨h.symm, by simpa using hb⟩⟩
      | succ j => exact step [s] rfl h (by simp)
theorem mendB_mem {bad : Str → Nat → Bool} {f : Str} {b : List (Stm Nat)} {k : Nat} {st : Stm Nat} (h : st ∈ mendB bad f k b) : st ∈ b ∨ ∃ x n z, Stm.lt x n z ∈ b ∧ st = plain x n := by
  obtain ⟨j, hj, e⟩ := List.getElem_of_mem h
  have : (mendB bad f k b)[j]? = some st := by rw [← e]; exact List.getElem?_eq_getElem hj
  obtain ⟨i, s, h1, _, h2 | ⟨x, n, z, rfl, h2⟩⟩ := mendB_at this
  · exact .inl (h2.1 ▸ List.mem_of_getElem? h1)
  · exact .inr ⟨x, n, z, List.mem_of_getElem? h1, h2⟩
theorem mendB_len {bad : Str → Nat → Bool} {f : Str} : ∀ {b : List (Stm Nat)} {k : Nat}, (mendB bad f k b).length ≤ b.length
  | [], _ => Nat.le_refl _
  | st :: r, k => by
    have := mendB_len (bad := bad) (f := f) (b := r) (k := k + 1)
    unfold mendB
    rw [List.length_append, List.length_cons]
    by_cases h : bad f k = true
    · rw [if_pos h]; cases st <;> simp <;> omega
    · rw [if_neg h]; simp; omega
theorem fnN_mend {bad : Str → Nat → Bool} {f : Fn Nat} : fnN (mendF bad f) = fnN f := by unfold fnN mendF; rw [mendB_lets]
theorem nmsOf_mend {bad : Str → Nat → Bool} {p : Pg Nat} : nmsOf (mendP bad p) = nmsOf p := by
  unfold nmsOf mendP
  rw [mendB_lets, List.map_map]
  congr 2
  exact List.map_congr_left fun f _ => fnN_mend
theorem kindsOf_mend {bad : Str → Nat → Bool} {p : Pg Nat} : kindsOf (mendP bad p) = kindsOf p := by
  unfold kindsOf mendP
  simp only [List.map_map, List.map_append, List.map_cons, List.map_nil, mendB_lets]
  congr 3
  exact List.map_congr_left fun f _ => mendB_lets
theorem stmW_mend {bad : Str → Nat → Bool} {fns : List (Fn Nat)} {st : Stm Nat} (h : StmW KN InB fns st) : StmW KN InB (fns.map (mendF bad)) st := by
  cases st with
  | lt x n s => exact h
  | pt x k s => exact h
  | cl f ss =>
    obtain ⟨g, hg, h1, h2, h3⟩ := h
    exact ⟨mendF bad g, List.mem_map_of_mem hg, h1, h2, h3⟩
theorem stmW_plain {fns : List (Fn Nat)} {x : Str} {n : Nat} {z : Src} (h : StmW KN InB fns (.lt x n z)) : StmW KN InB fns (plain x n) := by
  refine ⟨h.1, ?_⟩
  by_cases q : n = 0
  · rw [if_pos q]; exact (by decide : 1 ≤ 1000)
  · rw [if_neg q]; trivial
theorem pgD_mend {bad : Str → Nat → Bool} {p : Pg Nat} (d : PgD p) : PgD (mendP bad p) := by
  have hw : ∀ {fns : List (Fn Nat)} {b : List (Stm Nat)} {f : Str}, (∀ st ∈ b, StmW KN InB fns st) → ∀ st ∈ mendB bad f 0 b, StmW KN InB (fns.map (mendF bad)) st := by
    intro fns b f h st hst
    rcases mendB_mem hst with z | ⟨x, n, z, hz, rfl⟩
    · exact stmW_mend (h st z)
    · exact stmW_mend (stmW_plain (h _ hz))
  refine ⟨⟨?_, ?_, ?_, hw d.w.m⟩, by rw [nmsOf_mend]; exact d.nd, by rw [nmsOf_mend]; exact d.na, Nat.le_trans mendB_len d.l, by rw [nmsOf_mend]; exact d.ln⟩
  · show ((p.fns.map (mendF bad)).map (·.name)) = (["fa", "fb"] : List Str).take (p.fns.map (mendF bad)).length
    rw [List.map_map, List.length_map]
    exact d.w.n
  · show (p.fns.map (mendF bad)).length ≤ 2
    rw [List.length_map]; exact d.w.l
  · intro i f hf
    have hf : (p.fns.map (mendF bad))[i]? = some f := hf
    rw [List.getElem?_map] at hf
    cases e : p.fns[i]? with
    | none => rw [e] at hf; cases hf
    | some g =>
      rw [e] at hf
      obtain rfl : mendF bad g = f := by simpa using hf
      have w := d.w.f i g e
      refine ⟨⟨w.l.1, Nat.le_trans mendB_len w.l.2⟩, w.k, ?_⟩
      show ∀ st ∈ _, StmW KN InB ((p.fns.map (mendF bad)).take i) st
      rw [← List.map_take]
      exact hw w.b
/-- a program whose depths are in order -/
structure PgS (p : Pg Nat) : Prop where
  d : PgD p
  s : ∀ ds st, AtSt p ds st → dSt p.fns ds st
theorem dSt_mend {bad : Str → Nat → Bool} {fns : List (Fn Nat)} {ds : List (Str × Nat)} {st : Stm Nat} (h : dSt fns ds st) : dSt (fns.map (mendF bad)) ds st := by
  cases st with
  | lt x n s => exact h
  | pt x k s => exact h
  | cl f ss =>
    intro g hg hn i q s hq hs
    obtain ⟨g', hg', rfl⟩ := List.mem_map.mp hg
    exact h g' hg' hn i q s hq hs
theorem dSt_plain {fns : List (Fn Nat)} {ds : List (Str × Nat)} {x : Str} {n : Nat} : dSt fns ds (plain x n) := by
  show dSrc ds (if n = 0 then _ else _) n
  by_cases q : n = 0
  · rw [if_pos q]; exact q
  · rw [if_neg q]; exact q
/-- the faults, by their places -/
theorem blkF_mem {tb : Tys} {fns : List (Fn Ty)} {f : Str} : ∀ {b : List (Stm Nat)} {ds : List (Str × Nat)} {k i : Nat} {st : Stm Nat} {e : Str}, b[i]? = some st → stmF (tyE tb (ds ++ letsOf (b.take i))) fns (typS tb st) = some e → (f, k + i, e) ∈ blkF fns f (tyE tb ds) (b.map (typS tb)) k
  | [], _, _, _, _, _, h, _ => by simp at h
  | s :: r, ds, k, i, st, e, h, he => by
    rw [List.map_cons]
    unfold blkF
    cases i with
    | zero =>
      simp at h
      subst h
      refine List.mem_append_left _ ?_
      rw [show tyE tb (ds ++ letsOf ((s :: r).take 0)) = tyE tb ds by simp [letsOf]] at he
      rw [he]
      simp
    | succ i =>
      refine List.mem_append_right _ ?_
      rw [grow_typ, show k + (i + 1) = (k + 1) + i by omega]
      refine blkF_mem (by simpa using h) ?_
      rw [List.take_succ_cons, show s :: r.take i = [s] ++ r.take i from rfl, letsOf_append, ← List.append_assoc] at he
      exact he
theorem pgS_mend {p : Pg Nat} (d : PgD p) {bad : Str → Nat → Bool} (hb : ∀ f k, bad f k = (pgF (typP (openT p) p)).any fun q => decide (q.1 = f) && decide (q.2.1 = k)) : PgS (mendP bad p) := by
  have hno : ∀ {f : Str} {b : List (Stm Nat)} {ds : List (Str × Nat)} {i : Nat} {st : Stm Nat}, b[i]? = some st → bad f i = false → (∀ e, (f, i, e) ∈ blkF (typP (openT p) p).fns f (tyE (openT p) ds) (b.map (typS (openT p))) 0 → (f, i, e) ∈ pgF (typP (openT p) p)) → stmF (tyE (openT p) (ds ++ letsOf (b.take i))) (typP (openT p) p).fns (typS (openT p) st) = none := by
    intro f b ds i st h hbad hin
    cases e : stmF (tyE (openT p) (ds ++ letsOf (b.take i))) (typP (openT p) p).fns (typS (openT p) st) with
    | none => rfl
    | some r =>
      have h1 := blkF_mem (f := f) (k := 0) h e
      rw [Nat.zero_add] at h1
      have h2 := hin r h1
      rw [hb] at hbad
      have : (pgF (typP (openT p) p)).any (fun q => decide (q.1 = f) && decide (q.2.1 = i)) = true := List.any_eq_true.mpr ⟨_, h2, by simp⟩
      rw [this] at hbad
      cases hbad
  refine ⟨pgD_mend d, fun ds st h => ?_⟩
  rcases h with ⟨f, hf, j, h1, rfl⟩ | ⟨j, h1, rfl⟩
  · obtain ⟨g, hg, rfl⟩ := List.mem_map.mp hf
    obtain ⟨i, s, h2, h3, h4 | ⟨x, n, z, rfl, rfl⟩⟩ := mendB_at h1
    · obtain ⟨rfl, h5⟩ := h4
      rw [Nat.zero_add] at h5
      have hat : AtSt p (g.ps ++ letsOf (g.body.take i)) st := .inl ⟨g, hg, i, h2, rfl⟩
      have := hno (ds := g.ps) h2 h5 (fun e he => List.mem_append_left _ (List.mem_flatten.mpr ⟨_, List.mem_map_of_mem (f := fun g : Fn Ty => blkF (typP (openT p) p).fns g.name g.ps g.body 0) (List.mem_map_of_mem hg), he⟩))
      have := stmF_d d (openT_G d) hat this
      show dSt (p.fns.map (mendF bad)) (g.ps ++ letsOf ((mendB bad g.name 0 g.body).take j)) st
      rw [h3]
      exact dSt_mend this
    · exact dSt_plain
  · obtain ⟨i, s, h2, h3, h4 | ⟨x, n, z, rfl, rfl⟩⟩ := mendB_at h1
    · obtain ⟨rfl, h5⟩ := h4
      rw [Nat.zero_add] at h5
      have hat : AtSt p (letsOf (p.main.take i)) st := .inr ⟨i, h2, rfl⟩
      have := hno (ds := []) h2 h5 (fun e he => List.mem_append_right _ he)
      rw [List.nil_append] at this
      have := stmF_d d (openT_G d) hat this
      show dSt (p.fns.map (mendF bad)) (letsOf ((mendB bad "" 0 p.main).take j)) st
      rw [h3]
      exact dSt_mend this
    · exact dSt_plain
end Rk
namespace Rk
open PySem PySem.Spec PyProof.Rows L2
variable {P : Program} {w : World} {K : PySem.W.Frag} {mg : Str → Option Value} {base : Heap}
def depF (f : Fn Ty) : Fn Nat := ⟨f.name, f.ps.map fun q => (q.1, q.2.length - 1), f.body.map depS⟩
def depP (p : Pg Ty) : Pg Nat := ⟨p.fns.map depF, p.main.map depS⟩
theorem lets_dep (b : List (Stm Ty)) : (letsOf (b.map depS)).map (·.1) = (letsOf b).map (·.1) := by
  induction b with
  | nil => rfl
  | cons st r ih =>
    rw [List.map_cons, show letsOf (depS st :: r.map depS) = letsOf [depS st] ++ letsOf (r.map depS) from letsOf_append [depS st] _, show letsOf (st :: r) = letsOf [st] ++ letsOf r from letsOf_append [st] _, List.map_append, List.map_append, ih]
    cases st <;> rfl
theorem fnN_dep (f : Fn Ty) : fnN (depF f) = fnN f := by
  unfold fnN depF
  simp only [lets_dep, List.map_map]
  rfl
theorem nmsOf_dep (p : Pg Ty) : nmsOf (depP p) = nmsOf p := by
  unfold nmsOf depP
  simp only [lets_dep, List.map_map]
  congr 2
  exact List.map_congr_left fun f _ => fnN_dep f
theorem srcB {s : Src} (h : SrcW InA s) : SrcW InB s := h.mono fun _ z => .inl z
theorem stmW_dep {fns : List (Fn Ty)} {st : Stm Ty} (h : StmW KT InA fns st) : StmW KN InB (fns.map depF) (depS st) := by
  cases st with
  | lt x t s => exact ⟨by show t.length - 1 ≤ 3; have := h.1.2; omega, srcB h.2⟩
  | pt x k s => exact ⟨.inl h.1, h.2.1, srcB h.2.2⟩
  | cl f ss =>
    obtain ⟨g, hg, h1, h2, h3⟩ := h
    exact ⟨depF g, List.mem_map_of_mem hg, h1, by rw [h2]; simp [depF], fun s hs => srcB (h3 s hs)⟩
theorem names_ok : allNames.Nodup ∧ ("zq" : Str) ∉ allNames ∧ allNames.length = 40 := by decide +kernel
theorem pgD_dep {p : Pg Ty} (w : PgW KT InA p) (hn : nmsOf p = allNames.take (nmsOf p).length) (hl : p.main.length ≤ 9) : PgD (depP p) := by
  have hw : PgW KN InB (depP p) := by
    refine ⟨?_, ?_, ?_, ?_⟩
    · show (p.fns.map depF).map (·.name) = (["fa", "fb"] : List Str).take (p.fns.map depF).length
      rw [List.map_map, List.length_map]
      exact w.n
    · show (p.fns.map depF).length ≤ 2
      rw [List.length_map]; exact w.l
    · intro i f hf
      have hf : (p.fns.map depF)[i]? = some f := hf
      rw [List.getElem?_map] at hf
      cases e : p.fns[i]? with
      | none => rw [e] at hf; cases hf
      | some g =>
        rw [e] at hf
        obtain rfl : depF g = f := by simpa using hf
        have v := w.f i g e
        refine ⟨by simpa [depF] using v.l, fun q hq => ?_, fun st hst => ?_⟩
        · obtain ⟨z, hz, rfl⟩ := List.mem_map.mp hq
          have := (v.k z hz).2
          show z.2.length - 1 ≤ 3
          omega
        · obtain ⟨z, hz, rfl⟩ := List.mem_map.mp hst
          show StmW KN InB ((p.fns.map depF).take i) _
          rw [← List.map_take]
          exact stmW_dep (v.b z hz)
    · intro st hst
      obtain ⟨z, hz, rfl⟩ := List.mem_map.mp hst
      exact stmW_dep (w.m z hz)
  refine ⟨hw, ?_, ?_, by show (p.main.map depS).length ≤ 10; rw [List.length_map]; omega, ?_⟩
  · rw [nmsOf_dep, hn]
    exact names_ok.1.sublist (List.take_sublist _ _)
  · intro x hx
    rw [nmsOf_dep, hn] at hx
    exact .inl (List.mem_of_mem_take hx)
  · rw [nmsOf_dep]
    have h1 := letsOf_len p.main
    have h2 : ∀ l : List (Fn Ty), (∀ f ∈ l, (fnN f).length ≤ 5) → ((l.map fnN).flatten).length ≤ 5 * l.length := by
      intro l
      induction l with
      | nil => intro _; simp
      | cons a r ih =>
        intro h
        have := ih fun f hf => h f (List.mem_cons_of_mem _ hf)
        have := h a List.mem_cons_self
        simp at *; omega
    have h3 := h2 p.fns fun f hf => by
      obtain ⟨i, hi, e⟩ := List.getElem_of_mem hf
      exact fnN_len (w.f i f (by rw [← e]; exact List.getElem?_eq_getElem hi))
    have := w.l
    unfold nmsOf
    rw [List.length_append, List.length_map]
    omega
def zqP (p : Pg Nat) : Pg Nat := ⟨p.fns, p.main ++ [.lt "zq" 0 (.num 1)]⟩
theorem pgD_zq {p : Pg Nat} (d : PgD p) (hk : kindsOf p = []) (hl : p.main.length ≤ 9) : PgD (zqP p) := by
  have hn0 : nmsOf p = [] := by
    have := kinds_perm p
    rw [hk] at this
    exact this.symm.eq_nil
  have hn : nmsOf (zqP p) = (["zq"] : List Str) := by
    unfold nmsOf at *
    show (p.fns.map fnN).flatten ++ (letsOf (p.main ++ [.lt "zq" 0 (.num 1)])).map (·.1) = _
    rw [letsOf_append, List.map_append, ← List.append_assoc, hn0]
    rfl
  refine ⟨⟨d.w.n, d.w.l, d.w.f, fun st hst => ?_⟩, by rw [hn]; decide, fun x hx => ?_, by show (p.main ++ _).length ≤ 10; rw [List.length_append]; exact Nat.succ_le_succ hl, by rw [hn]; decide⟩
  · rcases List.mem_append.mp hst with z | z
    · exact d.w.m st z
    · obtain rfl : st = .lt "zq" 0 (.num 1) := by simpa using z
      exact ⟨Nat.zero_le _, (by decide : 1 ≤ 1000)⟩
  · rw [hn] at hx
    exact .inr (by simpa using hx)
abbrev spLawSketch : Sp := SpD (Addr × Nat) (fun d b => b = d.1) (fun d vs J H => ∃ v1 v2, vs = [v1, v2] ∧ v1 = .ref d.1 ∧ v2 = .int (d.2 : Int) ∧ Box d.1 J H ∧ d.2 ≤ 9)
  (fun d v J H => ∃ p, rLPg rDp p v J ∧ PgD p ∧ Box d.1 J H)
theorem ok_LawSketch (T : Good K mg) : FnOk P w K mg base CX0 7 (He.ga K "_law_sketch") (fdOf K (He.ga K "_law_sketch")) ["_law_box", "_law_most"] spLawSketch := by
  refine sp_ok (k := 6) (D_sLawSketch T) S_sLawSketch (fun a vs J H h => by obtain ⟨_, _, rfl, _⟩ := h; rfl) (fun cdv Ar outer s H0 vs E hr => ?_)
  refine ⟨_, (pss_cons (ps_set (i := 2) S_sLawSketch.nd rfl (by first | exact Or.inl rfl | exact Or.inr rfl) (pe_call (ok_LawProgram T) (hr.mono (by omega)) rfl (g_law_program T) (D_sLawProgram T).kp (B_sLawProgram T) .nil pass0 (pa_cons (pv 0) (pa_cons (pv 1) pa_nil))))
  (pss_cons (ps_set (i := 3) S_sLawSketch.nd rfl (by first | exact Or.inl rfl | exact Or.inr rfl) (pe_lst pa_nil))
  (pss_cons (ps_for PassesOwn.never rfl (piL K (pe_ix (xL K) (pv 2) pe_int (fun _ _ => rfl))) (pg_name (i := 4) S_sLawSketch.nd rfl (by first | exact Or.inl rfl | exact Or.inr rfl))
  (pss_one (ps_expr (pe_bm PySem.F.plainAttrs_list PySem.F.slot_list_append PySem.F.type_list_append mt_append (pv 3) (pa_cons (pe_lst (pa_cons (pe_ix (xL K) (pv 4) pe_int (fun _ _ => rfl)) (pa_cons (pe_lc (own := [("_law_x", 6), ("_law_kt", 7)]) (by rfl) S_sLawSketch.nd (piL K (pe_ix (xL K) (pv 4) pe_int (fun _ _ => rfl))) (blkOk_by (own := [("_law_x", 6), ("_law_kt", 7)]) (N := ["_law_box", "_law_most", "_law_p", "_law_functions", "_law_f", "_law_rows", "_law_x", "_law_kt"]) (sc := defScope sLawSketch) (by decide +kernel)) (fun _ _ _ _ _ => (pgT K (n := 2) rfl (pgs_cons (pg_name (i := 6) S_sLawSketch.nd rfl (by first | exact Or.inl rfl | exact Or.inr rfl)) (pgs_cons (pg_name (i := 7) S_sLawSketch.nd rfl (by first | exact Or.inl rfl | exact Or.inr rfl)) pgs_nil)))) (fun _ _ _ _ _ => pts_nil) (fun _ _ _ _ _ => (pe_tup (pa_cons (pv 6) (pa_cons (pe_op op_sub (pe_callB (cLen K) (by rfl) (f_len T) (show bootBuiltins "len" = some (.builtin "len") by decide +kernel) (pa_cons (pv 7) pa_nil)) pe_int) pa_nil))))) (pa_cons (pe_call (ok_LawDepths T) (hr.mono (by omega)) rfl (g_law_depths T) (D_sLawDepths T).kp (B_sLawDepths T) .nil pass0 (pa_cons (pe_ix (xL K) (pv 4) pe_int (fun _ _ => rfl)) pa_nil)) pa_nil)))) pa_nil)))))
  (pss_cons (ps_set (i := 5) S_sLawSketch.nd rfl (by first | exact Or.inl rfl | exact Or.inr rfl) (pe_call (ok_LawDepths T) (hr.mono (by omega)) rfl (g_law_depths T) (D_sLawDepths T).kp (B_sLawDepths T) .nil pass0 (pa_cons (pe_ix (xL K) (pv 2) pe_int (fun _ _ => rfl)) pa_nil)))
  (pss_cons (ps_if (pt_cmpR op_eq (pe_callB cLenD (by rfl) (f_len T) (show bootBuiltins "len" = some (.builtin "len") by decide +kernel) (pa_cons (pe_call (ok_LawKinds T) (hr.mono (by omega)) rfl (g_law_kinds T) (D_sLawKinds T).kp (B_sLawKinds T) .nil pass0 (pa_cons (pe_lst (pa_cons (pv 3) (pa_cons (pv 5) pa_nil))) pa_nil)) pa_nil)) pe_int (nomark _)) (pss_one (ps_set (i := 5) S_sLawSketch.nd rfl (by first | exact Or.inl rfl | exact Or.inr rfl) (pe_op op_cat (pv 5) (pe_lst (pa_cons (pe_tup (pa_cons pe_str (pa_cons pe_str (pa_cons pe_int (pa_cons (pe_tup (pa_cons pe_str (pa_cons pe_int pa_nil))) pa_nil))))) pa_nil))))) pss_nil)
  (pss_one (ps_ret (pe_lst (pa_cons (pv 3) (pa_cons (pv 5) pa_nil)))))))))), ?_⟩
  rintro ⟨bx, most⟩ J0 Q G ⟨_, _, rfl, rfl, rfl, hb, hmost⟩ kk
  dsimp only at *
  have zs := sizeLine_eq
  walk_at "go"
  refine use_sp G (bx, most) ⟨_, _, rfl, rfl, rfl, hb, hmost⟩ (fun z hz => .inl hz) ?_
  rintro v J1 H1 e1 g1 G1 ⟨p, ⟨a, fv, mv, rfl, ha, ⟨af, fx, rfl, haf, hfx⟩, hm⟩, hw, hnm, hml, b1⟩
  dsimp only at hml b1
  have hd := pgD_dep hw hnm (by omega)
  walk_at "go"
  refine k_lstM G1 (by decide) ?_
  intro l H2 hl2 hl0 ml g2 G2
  obtain ⟨rb, ab, xb, mb1, hrb⟩ := b1
  have mb2 := mb1.up g2
  have hlb : ¬ bx = l := mb1.nen hl2
  walk_at "go"
  refine k_forL G2 haf (fun i σ' J' H' => ∃ w ac, σ' = [some (.ref bx), some (.int (most : Int)), some (.ref a), some (.ref l), w, none, none, none] ∧ Mu J' H' l (.lst ac) ∧ AllR (rLFn rDp) ((p.fns.take i).map depF) ac J' ∧ Box bx J' H') ⟨_, [], rfl, ml, AllR.nil, ⟨rb, ab, xb, mb2, hrb⟩⟩ ?_ ?_
  · rintro i x σ' J3 H3 hx e3 G3 ⟨w, ac, rfl, ml3, hac, b3⟩
    obtain ⟨f, hf, c, pv, bv, rfl, hc, ⟨ap, px, rfl, hap, hpx⟩, hbv⟩ := hfx.at hx
    have wf := hw.f i f hf
    have hi : i < p.fns.length := (List.getElem?_eq_some_iff.mp hf).1
    walk_at "go"
    refine k_lcFM (R := rPar rTy) (S := rPar rDp) (fun q => some (q.1, q.2.length - 1)) G3 (by walk_at "get") (Up.up e3 hpx) (by have := wf.l; omega) ?_ ?_
    · intro q x J4 H4 Ny Nn hq hx e4 G4 hy hn
      obtain ⟨e, kv, rfl, hea, ⟨ta, rfl, hta, htl⟩⟩ := hx
      walk_at "go"
      refine ⟨rfl, ?_⟩
      walk_at "go"
      refine hy _ _ _ _ rfl (by assumption) ⟨_, _, rfl, by assumption, ?_⟩
      have := (wf.k q hq).2
      show V.int _ = V.int _
      rw [List.length_map]
      congr 1
      omega
    · intro D acc J4 H4 hD e4 hDJ hacc g4 G4
      walk_at "go"
      refine use_sp G4 f.body ⟨_, rfl, Up.up (e3.trans e4) hbv, by have := wf.l; omega, fun x t s h => ?_⟩ (fun _ z => z.elim) ?_
      · have := (wf.b _ h).1.2
        intro e
        rw [e] at this
        simp at this
      rintro v J5 H5 e5 g5 G5 hv
      walk_at "go"
      rename_i L J6 H6 hL e6 hLJ g6 G6
      have ml6 := ((ml3.up g4).up g5).up g6
      refine k_app G6 ml6 (.inr hl0) (by rw [hac.1]; simp; have := hw.l; omega) ?_
      intro H7 g7 G7 ml7
      walk_at "go"
      refine ⟨_, ((e3.trans e4).trans e5).trans e6, G7, _, _, rfl, ml7, ?_, (((b3.up g4).up g5).up g6).step g7 hlb⟩
      rw [List.take_add_one, hf]
      have h1 : rLFn rDp (depF f) (.ref L) J6 := by
        refine ⟨_, _, _, rfl, hLJ, ⟨D, acc, rfl, e6 _ _ (e5 _ _ hDJ), ?_⟩, Up.up e6 hv⟩
        have : f.ps.filterMap (fun q => some (q.1, q.2.length - 1)) = (depF f).ps := by simp [depF]
        rw [← this]
        exact Up.up (e5.trans e6) hacc
      simpa using (Up.up ((e4.trans e5).trans e6) hac).snoc h1
  · rintro σ' J3 H3 e3 G3 ⟨w, ac, rfl, ml3, hac, b3⟩
    rw [hfx.1, List.take_of_length_le (Nat.le_refl _)] at hac
    have ek := ex_know (o := .lst ac) ml3.j
    have G3k := G3.know ml3.j ml3.h hl0
    have b3k : Box bx (upd J3 l (.lst ac)) H3 := by
      obtain ⟨r, a, xs, m, h⟩ := b3
      exact ⟨r, a, xs, m.knw hlb, ek _ _ h⟩
    have hfk : J3 l = none := ml3.j
    have hlk : upd J3 l (.lst ac) l = some (.lst ac) := upd_same
    have hack := Up.up ek hac
    have e3k := e3.trans ek
    clear hac ml3 b3 e3 ek G3
    generalize upd J3 l (.lst ac) = J3k at *
    walk_at "go"
    refine use_sp G3k p.main ⟨_, rfl, Up.up e3k hm, by omega, fun x t s h => ?_⟩ (fun _ z => z.elim) ?_
    · have := (hw.m _ h).1.2
      intro e
      rw [e] at this
      simp at this
    rintro v J4 H4 e4 g4 G4 hv
    have b4 := b3k.up g4
    walk_at "go"
    rename_i L J5 H5 hL e5 hLJ g5 G5
    have b5 := b4.up g5
    have hp5 : rLPg rDp (depP p) (.ref L) J5 := ⟨L, .ref l, v, rfl, hLJ, ⟨l, ac, rfl, e5 _ _ (e4 _ _ hlk), Up.up (e4.trans e5) hack⟩, Up.up e5 hv⟩
    refine use_sp G5 (depP p, H5) ⟨_, rfl, hp5, rfl, hd.knd, Nat.le_trans hd.kl (by decide), Nat.le_trans hd.w.l (by decide)⟩ (fun _ z => z.elim) ?_
    rintro v6 J6 H6 e6 g6 G6 ⟨dd, kvs, rfl, hdd, md, hk⟩
    dsimp only at hdd md hk
    have b6 := b5.up g6
    walk_at "go"
    refine if2 (fun q => ?_) (fun q => ?_)
    · have hk0 : kindsOf (depP p) = [] := by
        have : kvs.length = 0 := by simpa using q
        rw [hk.1] at this
        exact List.length_eq_zero_iff.mp this
      walk_at "go"
      rename_i P7 J7 H7 hP7 e7 hJ7 g7 G7 P8 J8 H8 hP8 e8 hJ8 g8 G8 P9 J9 H9 hP9 e9 hJ9 g9 G9
      obtain ⟨am, mx, rfl, ham, hmx⟩ := hv
      refine k_cat G9 (by walk_at "get") (by walk_at "get") (by rw [hmx.1]; simp; omega) ?_
      intro PA JA HA hPA eA hJA gA GA
      walk_at "go"
      rename_i PB JB HB hPB eB hJB gB GB
      refine kk _ _ _ GB ⟨zqP (depP p), ⟨PB, .ref l, .ref PA, rfl, hJB, ⟨l, ac, rfl, by walk_at "get", by walk_at "up"⟩, ⟨PA, _, rfl, eB _ _ hJA, ?_⟩⟩, pgD_zq hd hk0 (by show (p.main.map depS).length ≤ 9; rw [List.length_map]; omega), ((((b6.up g7).up g8).up g9).up gA).up gB⟩
      refine (Up.up (((((e5.trans e6).trans e7).trans e8).trans e9).trans (eA.trans eB)) hmx).snoc ?_
      exact ⟨P8, .int 0, .ref P7, rfl, eB _ _ (eA _ _ (e9 _ _ hJ8)), rfl, P7, rfl, eB _ _ (eA _ _ (e9 _ _ (e8 _ _ hJ7)))⟩
    · walk_at "go"
      rename_i PB JB HB hPB eB hJB gB GB
      refine kk _ _ _ GB ⟨depP p, ⟨PB, .ref l, v, rfl, hJB, ⟨l, ac, rfl, by walk_at "get", by walk_at "up"⟩, by walk_at "up"⟩, hd, b6.up gB⟩
end Rk
namespace Rk
open PySem PySem.Spec PyProof.Rows L2
variable {P : Program} {w : World} {K : PySem.W.Frag} {mg : Str → Option Value} {base : Heap}
abbrev spLawShapeFaults : Sp := SpD (Pg Nat) (fun _ => No) (fun a vs J _ => ∃ v1, vs = [v1] ∧ rLPg rDp a v1 J ∧ PgD a) (fun a v J _ => rLst rFlt (pgF (typP (openT a) a)) v J)
theorem ok_LawShapeFaults (T : Good K mg) : FnOk P w K mg base CX0 13 (He.ga K "_law_shape_faults") (fdOf K (He.ga K "_law_shape_faults")) ["_law_p"] spLawShapeFaults := by
  refine sp_ok (k := 12) (D_sLawShapeFaults T) S_sLawShapeFaults (fun a vs J H h => by obtain ⟨_, rfl, _⟩ := h; rfl) (fun cdv Ar outer s H0 vs E hr => ?_)
  refine ⟨_, (pss_one (ps_ret (pe_call (ok_LawFaults T) (hr.mono (by omega)) rfl (g_law_faults T) (D_sLawFaults T).kp (B_sLawFaults T) .nil pass0 (pa_cons (pe_call (ok_LawTyped T) (hr.mono (by omega)) rfl (g_law_typed T) (D_sLawTyped T).kp (B_sLawTyped T) .nil pass0 (pa_cons (pv 0) (pa_cons (pe_call (ok_LawOpen T) (hr.mono (by omega)) rfl (g_law_open T) (D_sLawOpen T).kp (B_sLawOpen T) .nil pass0 (pa_cons (pv 0) pa_nil)) pa_nil))) (pa_cons (pe_lst pa_nil) pa_nil))))), ?_⟩
  rintro p J0 Q G ⟨v1, rfl, hp, hd⟩ kk
  walk_at "go"
  refine use_sp G p ⟨_, rfl, hp, hd.kdOk⟩ (fun _ z => z.elim) ?_
  rintro v J1 H1 e1 g1 G1 hv
  walk_at "go"
  refine use_sp G1 (p, openT p) ⟨_, _, rfl, Up.up e1 hp, hv, (openT_G hd).tbOk hd⟩ (fun _ z => z.elim) ?_
  rintro v2 J2 H2 e2 g2 G2 hv2
  walk_at "go"
  refine k_lst G2 (by decide) ?_
  intro L J3 H3 hL e3 hLJ g3 G3
  walk_at "go"
  refine use_sp G3 (typP (openT p) p) ⟨_, _, rfl, Up.up e3 hv2, pgOk_open hd⟩ (fun _ z => z.elim) ?_
  rintro v4 J4 H4 e4 g4 G4 hv4
  exact kk _ _ _ G4 hv4
def rBad (p : Str × Nat) (v : V) (J : Hp) : Prop := ∃ a, v = .ref a ∧ J a = some (.tup [.str p.1, .int (p.2 : Int)])
instance (p : Str × Nat) (v : V) : Up (rBad p v) := ⟨fun e ⟨a, h1, h2⟩ => ⟨a, h1, e _ _ h2⟩⟩
def bdOf (bl : List (Str × Nat)) (f : Str) (k : Nat) : Bool := bl.any fun q => decide (q.1 = f) && decide (q.2 = k)
theorem mendB_snoc {bad : Str → Nat → Bool} {f : Str} {st : Stm Nat} : ∀ {b : List (Stm Nat)} {k : Nat}, mendB bad f k (b ++ [st]) = mendB bad f k b ++ mendB bad f (k + b.length) [st]
  | [], _ => rfl
  | s :: r, k => by
    rw [List.cons_append]
    unfold mendB
    rw [mendB_snoc (b := r), List.append_assoc, List.length_cons, show k + 1 + r.length = k + (r.length + 1) by omega]
    rfl
/-! deep data -/
theorem dp_all {α : Type} {R : α → V → Hp → Prop} {f : α → PyData} {J H : Hp} (hf : ∀ d v, R d v J → Dp K H v (f d)) : ∀ {ds : List α} {xs : List V}, AllR R ds xs J → DpAll K H xs (ds.map f)
  | [], [], _ => .nil
  | [], _ :: _, h => absurd h.1 (by simp)
  | _ :: _, [], h => absurd h.1 (by simp)
  | d :: ds, x :: xs, h => .cons (hf d x h.head) (dp_all hf h.tail)
theorem lay_all {α : Type} {f : α → PyData} : ∀ {ds : List α}, (∀ d ∈ ds, (f d).canLay0 = true) → PyData.canLayAll0 (ds.map f) = true
  | [], _ => by simp [PyData.canLayAll0]
  | d :: ds, h => by
    rw [List.map_cons]
    simp only [PyData.canLayAll0, Bool.and_eq_true]
    exact ⟨h d List.mem_cons_self, lay_all fun x hx => h x (List.mem_cons_of_mem _ hx)⟩
theorem dep_all {α : Type} {f : α → PyData} {n : Nat} : ∀ {ds : List α}, (∀ d ∈ ds, (f d).depth ≤ n) → PyData.depthAll (ds.map f) ≤ n
  | [], _ => by simp [PyData.depthAll]
  | d :: ds, h => by
    rw [List.map_cons]
    simp only [PyData.depthAll]
    exact Nat.max_le.mpr ⟨h d List.mem_cons_self, dep_all fun x hx => h x (List.mem_cons_of_mem _ hx)⟩
theorem shaped_of {d : PyData} (h1 : d.canLay0 = true) (h2 : d.depth ≤ 64) : SeqAt.shaped d = true := by
  unfold SeqAt.shaped
  rw [h1, decide_eq_true h2]
  rfl
def pyBad (q : Str × Nat) : PyData := .tuple [.str q.1, .int (q.2 : Int)]
theorem dp_bad {J H : Hp} (e : Ex J H) {q : Str × Nat} {v : V} (h : rBad q v J) : Dp K H v (pyBad q) := by
  obtain ⟨a, rfl, ha⟩ := h
  exact .tup (SqT.of (e _ _ ha)) (.cons (.str _) (.cons (.int _) .nil))
def sOk (x : Str) : Prop := (PyData.str x).canLay0 = true
theorem lay_bad {q : Str × Nat} (h : sOk q.1) : (pyBad q).canLay0 = true := by
  have h : (PyData.str q.1).canLay0 = true := h
  simp [pyBad, PyData.canLay0, PyData.canLayAll0] at *
  exact h
theorem dep_bad {q : Str × Nat} : (pyBad q).depth ≤ 1 := by simp [pyBad, PyData.depth, PyData.depthAll]
theorem eqv_bad (p q : Str × Nat) : PyData.eqv (pyBad p) (pyBad q) = (decide (p.1 = q.1) && decide (p.2 = q.2)) := by
  have h1 : (p.1 == q.1) = decide (p.1 = q.1) := by
    by_cases e : p.1 = q.1
    · rw [e]; simp
    · rw [beq_eq_false_iff_ne.mpr e, decide_eq_false e]
  have h2 : ((p.2 : Int) == (q.2 : Int)) = decide (p.2 = q.2) := by
    by_cases e : p.2 = q.2
    · rw [e]; simp
    · rw [beq_eq_false_iff_ne.mpr (by omega), decide_eq_false e]
  simp [pyBad, PyData.eqv, PyData.eqvAll, h1, h2]
abbrev spLawMendedBlock : Sp := SpD (Str × List (Stm Nat) × List (Str × Nat)) (fun _ => No) (fun a vs J _ => ∃ v1 v2 v3, vs = [v1, v2, v3] ∧ v1 = .str a.1 ∧ rLst (rStm rDp) a.2.1 v2 J ∧ rLst rBad a.2.2 v3 J ∧ sOk a.1 ∧ (∀ q ∈ a.2.2, sOk q.1) ∧ a.2.1.length ≤ 1000)
  (fun a v J _ => rLst (rStm rDp) (mendB (bdOf a.2.2) a.1 0 a.2.1) v J)
theorem ok_LawMendedBlock (T : Good K mg) : FnOk P w K mg base CX0 2 (He.ga K "_law_mended_block") (fdOf K (He.ga K "_law_mended_block")) ["_law_f", "_law_block", "_law_bad"] spLawMendedBlock := by
  refine sp_ok (k := 1) (D_sLawMendedBlock T) S_sLawMendedBlock (fun a vs J H h => by obtain ⟨_, _, _, rfl, _⟩ := h; rfl) (fun cdv Ar outer s H0 vs E hr => ?_)
  refine ⟨_, (pss_cons (ps_set (i := 3) S_sLawMendedBlock.nd rfl (by first | exact Or.inl rfl | exact Or.inr rfl) (pe_lst pa_nil))
  (pss_cons (ps_for PassesOwn.never rfl (pi_range1 (by rfl) (f_range T) (pa_cons (pe_callB (cLen K) (by rfl) (f_len T) (show bootBuiltins "len" = some (.builtin "len") by decide +kernel) (pa_cons (pv 1) pa_nil)) pa_nil)) (pg_name (i := 4) S_sLawMendedBlock.nd rfl (by first | exact Or.inl rfl | exact Or.inr rfl))
  (pss_one (ps_if (pt_cmpR (oNinD K (units65 hr)) (pe_tup (pa_cons (pv 0) (pa_cons (pv 4) pa_nil))) (pv 2) (by rfl)) (pss_one (ps_expr (pe_bm PySem.F.plainAttrs_list PySem.F.slot_list_append PySem.F.type_list_append mt_append (pv 3) (pa_cons (pe_ix (xL K) (pv 1) (pv 4) (fun _ _ => rfl)) pa_nil)))) (pss_one (ps_if (pt_cmpR op_eq (pe_ix (xT K) (pe_ix (xL K) (pv 1) (pv 4) (fun _ _ => rfl)) pe_int (fun _ _ => rfl)) pe_str (nomark _)) (pss_one (ps_expr (pe_bm PySem.F.plainAttrs_list PySem.F.slot_list_append PySem.F.type_list_append mt_append (pv 3) (pa_cons (pe_call (ok_LawPlainSource T) (hr.mono (by omega)) rfl (g_law_plain_source T) (D_sLawPlainSource T).kp (B_sLawPlainSource T) .nil pass0 (pa_cons (pe_ix (xL K) (pv 1) (pv 4) (fun _ _ => rfl)) pa_nil)) pa_nil)))) pss_nil)))))
  (pss_one (ps_ret (pv 3))))), ?_⟩
  rintro ⟨f, blk, bl⟩ J0 Q G ⟨_, v2, v3, rfl, rfl, ⟨b, xs, rfl, hb, hB⟩, ⟨c, ys, rfl, hc, hC⟩, hf, hq, hl⟩ kk
  dsimp only at *
  have zs := sizeLine_eq
  walk_at "go"
  refine k_lstM G (by decide) ?_
  intro l H1 hl1 hl0 ml g1 G1
  walk_at "go"
  refine k_iR1E (by rw [hB.1]; omega) ?_
  rw [Int.toNat_natCast]
  refine k_forR G1 (fun i σ' J' H' => ∃ w ac, σ' = [some (.str f), some (.ref b), some (.ref c), some (.ref l), w] ∧ Mu J' H' l (.lst ac) ∧ AllR (rStm rDp) (mendB (bdOf bl) f 0 (blk.take i)) ac J') ⟨_, [], rfl, ml, AllR.nil⟩ ?_ ?_
  · rintro i σ' J2 H2 hi e2 G2 ⟨w, ac, rfl, ml2, hac⟩
    rw [hB.1] at hi
    have hp1 := List.getElem?_eq_getElem hi
    obtain ⟨sx, hsx, hsr⟩ := hB.at' hp1
    have hlen : ac.length ≤ 1000 := by
      rw [hac.1]
      have := mendB_len (bad := bdOf bl) (f := f) (b := blk.take i) (k := 0)
      simp at this; omega
    have snoc : ∀ {J : Hp} {zs : List V}, Ex J2 J → AllR (rStm rDp) (mendB (bdOf bl) f i [blk[i]]) zs J → AllR (rStm rDp) (mendB (bdOf bl) f 0 (blk.take (i + 1))) (ac ++ zs) J := by
      intro J zs e h
      rw [List.take_add_one, hp1, show (some blk[i]).toList = [blk[i]] from rfl, mendB_snoc, List.length_take, Nat.min_eq_left (Nat.le_of_lt hi), Nat.zero_add]
      exact (Up.up e hac).append h
    walk_at "go"
    rename_i LT J3 H3 hLT e3 hJ3 g3 G3
    have ml3 := ml2.up g3
    have hbd : ((bl.map pyBad).any fun z => PyData.eqv z (pyBad (f, i))) = bdOf bl f i := by
      unfold bdOf
      rw [List.any_map]
      congr 1
      funext q
      exact eqv_bad q (f, i)
    refine k_ninD (d := pyBad (f, i)) (ds := bl.map pyBad) (dp_bad G3.jh ⟨LT, rfl, hJ3⟩) (.lst (SqL.of (G3.jh _ _ (e3 _ _ (e2 _ _ hc)))) (dp_all (fun d v h => dp_bad G3.jh h) (Up.up (e2.trans e3) hC))) (shaped_of (lay_bad hf) (Nat.le_trans dep_bad (by decide))) (shaped_of ?_ ?_) ?_
    · simp only [PyData.canLay0]
      exact lay_all fun q hq' => lay_bad (hq q hq')
    · simp only [PyData.depth]
      have := dep_all (n := 1) (f := pyBad) (ds := bl) fun q _ => dep_bad
      omega
    rw [hbd]
    walk_at "go"
    refine if2 (fun q => ?_) (fun q => ?_)
    · have q2 : bdOf bl f i = false := by simpa using q
      walk_at "go"
      refine k_app G3 ml3 (.inr hl0) (by omega) ?_
      intro H4 g4 G4 ml4
      walk_at "go"
      refine ⟨_, e2.trans e3, G4, _, _, rfl, ml4, snoc e3 ?_⟩
      unfold mendB
      rw [q2]
      exact AllR.nil.cons (Up.up (e2.trans e3) hsr)
    · have q2 : bdOf bl f i = true := by simpa using q
      cases est : blk[i] with
      | lt x n s =>
        rw [est] at hsr snoc
        have hsr2 := hsr
        obtain ⟨a, kv, sv, rfl, ha, hkv, hs⟩ := hsr
        walk_at "go"
        refine use_sp G3 (x, n, s) ⟨_, rfl, Up.up (e2.trans e3) hsr2⟩ (fun _ z => z.elim) ?_
        rintro v J4 H4 e4 g4 G4 hv
        have ml4 := ml3.up g4
        walk_at "go"
        refine k_app G4 ml4 (.inr hl0) (by omega) ?_
        intro H5 g5 G5 ml5
        walk_at "go"
        refine ⟨_, (e2.trans e3).trans e4, G5, _, _, rfl, ml5, snoc (e3.trans e4) ?_⟩
        unfold mendB
        rw [q2]
        exact AllR.nil.cons hv
      | pt x k s =>
        rw [est] at hsr snoc
        obtain ⟨a, b2, sv, rfl, ha, hb2, hs⟩ := hsr
        walk_at "go"
        refine ⟨_, e2.trans e3, G3, _, _, rfl, ml3, ?_⟩
        have := snoc (zs := []) e3 (by unfold mendB; rw [q2]; exact AllR.nil)
        rw [List.append_nil] at this
        exact this
      | cl x ss =>
        rw [est] at hsr snoc
        obtain ⟨a, b2, zs, rfl, ha, hb2, hs⟩ := hsr
        walk_at "go"
        refine ⟨_, e2.trans e3, G3, _, _, rfl, ml3, ?_⟩
        have := snoc (zs := []) e3 (by unfold mendB; rw [q2]; exact AllR.nil)
        rw [List.append_nil] at this
        exact this
  · rintro σ' J2 H2 e2 G2 ⟨w, ac, rfl, ml2, hac⟩
    rw [hB.1, List.take_of_length_le (Nat.le_refl _)] at hac
    walk_at "go"
    exact kk _ _ _ (G2.know ml2.j ml2.h hl0) ⟨l, ac, rfl, upd_same, Up.up (ex_know ml2.j) hac⟩
theorem blkF_name {fns : List (Fn Ty)} {f : Str} : ∀ {b : List (Stm Ty)} {ts : Tys} {k : Nat} {q : Str × Nat × Str}, q ∈ blkF fns f ts b k → q.1 = f
  | [], _, _, _, h => by cases h
  | st :: r, ts, k, q, h => by
    unfold blkF at h
    rcases List.mem_append.mp h with z | z
    · cases e : stmF ts fns st with
      | none => rw [e] at z; cases z
      | some w => rw [e] at z; obtain rfl : q = (f, k, w) := by simpa using z
                  rfl
    · exact blkF_name z
theorem sOk_fn {p : Pg Nat} (d : PgD p) {f : Fn Nat} (hf : f ∈ p.fns) : sOk f.name := by
  have h : f.name ∈ p.fns.map (·.name) := List.mem_map_of_mem hf
  rw [d.w.n] at h
  have h := List.mem_of_mem_take h
  have h2 : ∀ x ∈ (["fa", "fb"] : List Str), sOk x := by unfold sOk; decide +kernel
  exact h2 _ h
theorem sOk_e : sOk "" := by unfold sOk; decide +kernel
abbrev spLawShaped : Sp := SpD (Addr × Nat) (fun d b => b = d.1) (fun d vs J H => ∃ v1 v2, vs = [v1, v2] ∧ v1 = .ref d.1 ∧ v2 = .int (d.2 : Int) ∧ Box d.1 J H ∧ d.2 ≤ 9)
  (fun d v J H => ∃ p, rLPg rDp p v J ∧ PgS p ∧ Box d.1 J H)
theorem ok_LawShaped (T : Good K mg) : FnOk P w K mg base CX0 14 (He.ga K "_law_shaped") (fdOf K (He.ga K "_law_shaped")) ["_law_box", "_law_most"] spLawShaped := by
  refine sp_ok (k := 13) (D_sLawShaped T) S_sLawShaped (fun a vs J H h => by obtain ⟨_, _, rfl, _⟩ := h; rfl) (fun cdv Ar outer s H0 vs E hr => ?_)
  refine ⟨_, (pss_cons (ps_set (i := 2) S_sLawShaped.nd rfl (by first | exact Or.inl rfl | exact Or.inr rfl) (pe_call (ok_LawSketch T) (hr.mono (by omega)) rfl (g_law_sketch T) (D_sLawSketch T).kp (B_sLawSketch T) .nil pass0 (pa_cons (pv 0) (pa_cons (pv 1) pa_nil))))
  (pss_cons (ps_set (i := 3) S_sLawShaped.nd rfl (by first | exact Or.inl rfl | exact Or.inr rfl) (pe_lc (own := [("_law_f", 5), ("_law_k", 6), ("_law_reason", 7)]) (by rfl) S_sLawShaped.nd (piL K (pe_call (ok_LawShapeFaults T) (hr.mono (by omega)) rfl (g_law_shape_faults T) (D_sLawShapeFaults T).kp (B_sLawShapeFaults T) .nil pass0 (pa_cons (pv 2) pa_nil))) (blkOk_by (own := [("_law_f", 5), ("_law_k", 6), ("_law_reason", 7)]) (N := ["_law_box", "_law_most", "_law_p", "_law_bad", "_law_functions", "_law_f", "_law_k", "_law_reason"]) (sc := defScope sLawShaped) (by decide +kernel)) (fun _ _ _ _ _ => (pgT K (n := 3) rfl (pgs_cons (pg_name (i := 5) S_sLawShaped.nd rfl (by first | exact Or.inl rfl | exact Or.inr rfl)) (pgs_cons (pg_name (i := 6) S_sLawShaped.nd rfl (by first | exact Or.inl rfl | exact Or.inr rfl)) (pgs_cons (pg_name (i := 7) S_sLawShaped.nd rfl (by first | exact Or.inl rfl | exact Or.inr rfl)) pgs_nil))))) (fun _ _ _ _ _ => pts_nil) (fun _ _ _ _ _ => (pe_tup (pa_cons (pv 5) (pa_cons (pv 6) pa_nil))))))
  (pss_cons (ps_setLc (i := 4) (own := [("_law_f", 5)]) (by rfl) S_sLawShaped.nd rfl rfl (sw_true rfl rfl rfl (by decide +kernel)) (piL K (pe_ix (xL K) (pv 2) pe_int (fun _ _ => rfl))) (blkOk_by (own := [("_law_f", 5)]) (N := ["_law_box", "_law_most", "_law_p", "_law_bad", "_law_functions", "_law_f", "_law_k", "_law_reason"]) (sc := defScope sLawShaped) (by decide +kernel)) (fun _ _ _ _ _ => (pg_name (i := 5) S_sLawShaped.nd rfl (by first | exact Or.inl rfl | exact Or.inr rfl))) (fun _ _ _ _ _ => pts_nil) (fun _ _ _ _ _ => (pe_lst (pa_cons (pe_ix (xL K) (pv 5) pe_int (fun _ _ => rfl)) (pa_cons (pe_ix (xL K) (pv 5) pe_int (fun _ _ => rfl)) (pa_cons (pe_call (ok_LawMendedBlock T) (hr.mono (by omega)) rfl (g_law_mended_block T) (D_sLawMendedBlock T).kp (B_sLawMendedBlock T) .nil pass0 (pa_cons (pe_ix (xL K) (pv 5) pe_int (fun _ _ => rfl)) (pa_cons (pe_ix (xL K) (pv 5) pe_int (fun _ _ => rfl)) (pa_cons (pv 3) pa_nil)))) pa_nil))))))
  (pss_one (ps_ret (pe_lst (pa_cons (pv 4) (pa_cons (pe_call (ok_LawMendedBlock T) (hr.mono (by omega)) rfl (g_law_mended_block T) (D_sLawMendedBlock T).kp (B_sLawMendedBlock T) .nil pass0 (pa_cons pe_str (pa_cons (pe_ix (xL K) (pv 2) pe_int (fun _ _ => rfl)) (pa_cons (pv 3) pa_nil)))) pa_nil)))))))), ?_⟩
  rintro ⟨bx, most⟩ J0 Q G ⟨_, _, rfl, rfl, rfl, hb, hmost⟩ kk
  dsimp only at *
  have zs := sizeLine_eq
  walk_at "go"
  refine use_sp G (bx, most) ⟨_, _, rfl, rfl, rfl, hb, hmost⟩ (fun z hz => .inl hz) ?_
  rintro v J1 H1 e1 g1 G1 ⟨p, hp, hd, b1⟩
  dsimp only at b1
  walk_at "go"
  refine use_sp G1 p ⟨_, rfl, hp, hd⟩ (fun _ z => z.elim) ?_
  rintro v2 J2 H2 e2 g2 G2 ⟨lf, xf, rfl, hlf, hxf⟩
  have b2 := b1.up g2
  have hlen : (pgF (typP (openT p) p)).length ≤ 1000000 := by
    have h0 := pgOk_open hd
    have h1 : ∀ l : List (Fn Ty), (∀ f ∈ l, FnOkT (typP (openT p) p).fns f) → ((l.map fun g => blkF (typP (openT p) p).fns g.name g.ps g.body 0).flatten).length ≤ 12 * l.length := by
      intro l
      induction l with
      | nil => intro _; simp
      | cons a r ih =>
        intro h
        have h2 := ih fun f hf => h f (List.mem_cons_of_mem _ hf)
        have h3 := (h a List.mem_cons_self).l2
        have h4 := blkF_len (fns := (typP (openT p) p).fns) (f := a.name) (ts := a.ps) (b := a.body) (k := 0)
        simp at *; omega
    have h2 := h1 _ h0.f
    have h3 := blkF_len (fns := (typP (openT p) p).fns) (f := "") (ts := []) (b := (typP (openT p) p).main) (k := 0)
    have := h0.l1
    have := h0.l2
    unfold pgF
    rw [List.length_append]
    omega
  have hnm : ∀ q ∈ pgF (typP (openT p) p), sOk q.1 := by
    intro q hq
    rcases List.mem_append.mp hq with z | z
    · obtain ⟨l, hl, hq⟩ := List.mem_flatten.mp z
      obtain ⟨g, hg, rfl⟩ := List.mem_map.mp hl
      obtain ⟨f, hf, rfl⟩ := List.mem_map.mp hg
      rw [blkF_name hq]
      exact sOk_fn hd hf
    · rw [blkF_name z]; exact sOk_e
  generalize hpg : pgF (typP (openT p) p) = fl at *
  walk_at "go"
  refine k_lcFM (R := rFlt) (S := rBad) (fun q => some (q.1, q.2.1)) G2 (by walk_at "get") hxf hlen ?_ ?_
  · intro q x J3 H3 Ny Nn hq hx e3 G3 hy hn
    obtain ⟨a, rfl, ha⟩ := hx
    walk_at "go"
    refine ⟨rfl, ?_⟩
    walk_at "go"
    exact hy _ _ _ _ rfl (by assumption) ⟨_, rfl, by assumption⟩
  · intro D acc J3 H3 hD e3 hDJ hacc g3 G3
    have b3 := b2.up g3
    have em : fl.filterMap (fun q => some (q.1, q.2.1)) = fl.map fun q => (q.1, q.2.1) := by simp
    rw [em] at hacc
    have hbl : ∀ q ∈ fl.map (fun q => (q.1, q.2.1)), sOk q.1 := by
      intro q hq
      obtain ⟨z, hz, rfl⟩ := List.mem_map.mp hq
      exact hnm z hz
    have hS : PgS (mendP (bdOf (fl.map fun q => (q.1, q.2.1))) p) := pgS_mend hd fun f k => by
      rw [hpg]
      unfold bdOf
      rw [List.any_map]
      rfl
    generalize (fl.map fun q => (q.1, q.2.1)) = bl at *
    obtain ⟨a, fv, mv, rfl, ha, ⟨af, fx, rfl, haf, hfx⟩, hm⟩ := hp
    have e13 := e2.trans e3
    walk_at "go"
    refine k_lcFM (R := rLFn rDp) (S := rLFn rDp) (fun f => some (mendF (bdOf bl) f)) G3 (by walk_at "get") (Up.up e13 hfx) (by have := hd.w.l; omega) ?_ ?_
    · intro f x J4 H4 Ny Nn hf hx e4 G4 hy hn
      obtain ⟨c, pv, bv, rfl, hc, hpv, hbv⟩ := hx
      obtain ⟨i, hi, wf⟩ := fn_mem_get hd hf
      walk_at "go"
      refine ⟨rfl, ?_⟩
      walk_at "go"
      refine use_sp G4 (f.name, f.body, bl) ⟨_, _, _, rfl, rfl, hbv, ⟨D, acc, rfl, e4 _ _ hDJ, Up.up e4 hacc⟩, sOk_fn hd hf, hbl, by have := wf.l; show f.body.length ≤ 1000; omega⟩ (fun _ z => z.elim) ?_
      rintro v5 J5 H5 e5 g5 G5 hv5
      walk_at "go"
      rename_i L J6 H6 hL e6 hJ6 g6 G6
      exact hy _ _ _ _ rfl (g5.trans g6) ⟨L, pv, v5, rfl, hJ6, Up.up (e5.trans e6) hpv, Up.up e6 hv5⟩
    · intro D2 acc2 J4 H4 hD2 e4 hDJ2 hacc2 g4 G4
      have b4 := b3.up g4
      have em : p.fns.filterMap (fun f => some (mendF (bdOf bl) f)) = (mendP (bdOf bl) p).fns := by simp [mendP]
      rw [em] at hacc2
      walk_at "go"
      refine use_sp G4 ("", p.main, bl) ⟨_, _, _, rfl, rfl, Up.up (e13.trans e4) hm, ⟨D, acc, rfl, e4 _ _ hDJ, Up.up e4 hacc⟩, sOk_e, hbl, by have := hd.l; show p.main.length ≤ 1000; omega⟩ (fun _ z => z.elim) ?_
      rintro v5 J5 H5 e5 g5 G5 hv5
      walk_at "go"
      rename_i L J6 H6 hL e6 hJ6 g6 G6
      exact kk _ _ _ G6 ⟨mendP (bdOf bl) p, ⟨L, .ref D2, v5, rfl, hJ6, ⟨D2, acc2, rfl, e6 _ _ (e5 _ _ hDJ2), Up.up (e5.trans e6) hacc2⟩, Up.up e6 hv5⟩, hS, (b4.up g5).up g6⟩
end Rk
namespace Rk
open PySem PySem.Spec PyProof.Rows L2
/-! the rules of conversion, and what a closed set of claims gives -/
abbrev lr : Str := "r"
abbrev lw : Str := "w"
abbrev Cl := Str × Nat × Str
abbrev Rule := List Cl × Cl
abbrev WSt := List Cl × (Str × Nat) × (Str × Nat)
def stepW (l : Str) (s : WSt) : WSt := if l = lw then (s.1 ++ [(s.2.2.1, s.2.2.2, l)], (s.2.2.1, s.2.2.2 + 1), (s.2.1.1, s.2.1.2 + 1)) else (s.1 ++ [(s.2.2.1, s.2.2.2, l)], (s.2.1.1, s.2.1.2 + 1), (s.2.2.1, s.2.2.2 + 1))
def runW : List Str → WSt → WSt
  | [], s => s
  | l :: w, s => runW w (stepW l s)
theorem runW_snoc (l : Str) : ∀ (w : List Str) (s : WSt), runW (w ++ [l]) s = stepW l (runW w s)
  | [], _ => rfl
  | x :: w, s => runW_snoc l w (stepW x s)
def finR (s : WSt) : List Rule := [(s.1 ++ [(s.2.2.1, s.2.2.2, lr)], (s.2.1.1, s.2.1.2, lr)), (s.1 ++ [(s.2.2.1, s.2.2.2, lw)], (s.2.1.1, s.2.1.2, lw))]
/-- the words of one length -/
def wrows : Nat → List (List Str)
  | 0 => [[]]
  | n + 1 => ((wrows n).map fun r => [r ++ [lr], r ++ [lw]]).flatten
/-- the words shorter than n (at least the empty one) -/
def wordsUpTo : Nat → List (List Str)
  | 0 => [[]]
  | n + 1 => wordsUpTo n ++ wrows (n + 1)
def LOk (w : List Str) : Prop := ∀ l ∈ w, l = lr ∨ l = lw
theorem LOk.snoc {w : List Str} (h : LOk w) {l : Str} (hl : l = lr ∨ l = lw) : LOk (w ++ [l]) := fun x hx => (List.mem_append.mp hx).elim (h x) fun z => by
  obtain rfl : x = l := by simpa using z
  exact hl
theorem wrows_mem : ∀ {n : Nat} {w : List Str}, w.length = n → LOk w → w ∈ wrows n
  | 0, w, h, _ => by
    obtain rfl := List.length_eq_zero_iff.mp h
    simp [wrows]
  | n + 1, w, h, hl => by
    have hne : w ≠ [] := fun e => by subst e; simp at h
    obtain ⟨v, l, rfl⟩ : ∃ v l, w = v ++ [l] := ⟨w.dropLast, w.getLast hne, (List.dropLast_concat_getLast hne).symm⟩
    have hv : v ∈ wrows n := wrows_mem (by simpa using h) fun x hx => hl x (List.mem_append_left _ hx)
    refine List.mem_flatten.mpr ⟨[v ++ [lr], v ++ [lw]], List.mem_map_of_mem (f := fun r => [r ++ [lr], r ++ [lw]]) hv, ?_⟩
    rcases hl l (List.mem_append_right _ (by simp)) with rfl | rfl <;> simp
theorem wrows_ok : ∀ {n : Nat} {w : List Str}, w ∈ wrows n → w.length = n ∧ LOk w
  | 0, w, h => by
    obtain rfl : w = [] := by simpa [wrows] using h
    exact ⟨rfl, fun l hl => by cases hl⟩
  | n + 1, w, h => by
    obtain ⟨l, hl, hw⟩ := List.mem_flatten.mp h
    obtain ⟨v, hv, rfl⟩ := List.mem_map.mp hl
    obtain ⟨h1, h2⟩ := wrows_ok hv
    rcases (show w = v ++ [lr] ∨ w = v ++ [lw] by simpa using hw) with rfl | rfl
    · exact ⟨by simp [h1], h2.snoc (.inl rfl)⟩
    · exact ⟨by simp [h1], h2.snoc (.inr rfl)⟩
theorem words_mem : ∀ {n : Nat} {w : List Str}, w.length ≤ n → LOk w → w ∈ wordsUpTo n
  | 0, w, h, hl => by
    obtain rfl := List.length_eq_zero_iff.mp (Nat.le_zero.mp h)
    simp [wordsUpTo]
  | n + 1, w, h, hl => by
    by_cases q : w.length ≤ n
    · exact List.mem_append_left _ (words_mem q hl)
    · exact List.mem_append_right _ (wrows_mem (by omega) hl)
theorem words_ok : ∀ {n : Nat} {w : List Str}, w ∈ wordsUpTo n → w.length ≤ n ∧ LOk w
  | 0, w, h => by
    obtain rfl : w = [] := by simpa [wordsUpTo] using h
    exact ⟨Nat.le_refl _, fun l hl => by cases hl⟩
  | n + 1, w, h => by
    rcases List.mem_append.mp h with z | z
    · have := words_ok z; exact ⟨by omega, this.2⟩
    · have := wrows_ok z; exact ⟨by omega, this.2⟩
/-- conversion_rules -/
def convR (one two : Str × Nat) (n : Nat) : List Rule := if n = 0 then [] else ((wordsUpTo (n - 1)).map fun w => finR (runW w ([], one, two))).flatten
def preR (x : Str) (k : Nat) : List Rule := (List.range k).map fun j => ([], (x, j, lr))
def kdAt (ks : List (Str × Nat)) (x : Str) : Nat := (ks.lookup x).getD 0
/-- source_rules -/
def srcR (ks : List (Str × Nat)) (s : Src) (two : Str × Nat) : List Rule := match s with
  | .num _ => []
  | .null => []
  | .val x k => preR x k ++ ([([], (x, k, lr))] : List Rule) ++ convR (x, k + 1) two (kdAt ks x - k)
  | .adr x k => preR x k ++ convR (x, k) two (kdAt ks x + 1 - k)
def parR (ks : List (Str × Nat)) : List (Str × Nat) → List Src → List Rule
  | q :: qs, s :: ss => srcR ks s (q.1, 1) ++ parR ks qs ss
  | _, _ => []
def psOf (fns : List (Fn Nat)) (f : Str) : List (Str × Nat) := ((fns.find? fun g => decide (g.name = f)).map (·.ps)).getD []
/-- rules of a statement, before they are put in order -/
def stmR (ks : List (Str × Nat)) (fns : List (Fn Nat)) : Stm Nat → List Rule
  | .lt x _ s => srcR ks s (x, 1)
  | .pt x k s => (preR x k ++ ([([], (x, k, lw))] : List Rule)) ++ srcR ks s (x, k + 1)
  | .cl f ss => parR ks (psOf fns f) ss
/-! ### a table made of claims -/
abbrev Fnd := Cl → Bool
def rightAt (F : Fnd) (x : Str) (l : Nat) : Str := if F (x, l, lr) = true then (if F (x, l, lw) = true then "rw" else lr) else (if F (x, l, lw) = true then lw else "-")
theorem rd_right (F : Fnd) (x : Str) (l : Nat) : rd (rightAt F x l) = F (x, l, lr) := by
  unfold rightAt
  cases F (x, l, lr) <;> cases F (x, l, lw) <;> decide +kernel
theorem wr_right (F : Fnd) (x : Str) (l : Nat) : wr (rightAt F x l) = F (x, l, lw) := by
  unfold rightAt
  cases F (x, l, lr) <;> cases F (x, l, lw) <;> decide +kernel
theorem isRt_right (F : Fnd) (x : Str) (l : Nat) : IsRt (rightAt F x l) := by
  unfold rightAt IsRt
  cases F (x, l, lr) <;> cases F (x, l, lw) <;> simp
def tyF (F : Fnd) (x : Str) (n : Nat) : Ty := (List.range (n + 1)).map (rightAt F x)
def tabF (F : Fnd) (ks : List (Str × Nat)) : Tys := ks.map fun q => (q.1, tyF F q.1 q.2)
def Closed (F : Fnd) (rs : List Rule) : Prop := ∀ r ∈ rs, (∀ q ∈ r.1, F q = true) → F r.2 = true
theorem Closed.left {F : Fnd} {a b : List Rule} (h : Closed F (a ++ b)) : Closed F a := fun r hr => h r (List.mem_append_left _ hr)
theorem Closed.right {F : Fnd} {a b : List Rule} (h : Closed F (a ++ b)) : Closed F b := fun r hr => h r (List.mem_append_right _ hr)
/-- from a place on -/
def tlF (F : Fnd) (a : Str × Nat) (m : Nat) : Ty := (List.range m).map fun i => rightAt F a.1 (a.2 + i)
theorem tlF_succ (F : Fnd) (a : Str × Nat) (m : Nat) : tlF F a (m + 1) = rightAt F a.1 a.2 :: tlF F (a.1, a.2 + 1) m := by
  unfold tlF
  rw [List.range_succ_eq_map, List.map_cons, List.map_map, Nat.add_zero]
  congr 1
  refine List.map_congr_left fun i _ => ?_
  show rightAt F a.1 (a.2 + (i + 1)) = rightAt F a.1 (a.2 + 1 + i)
  rw [Nat.add_assoc, Nat.add_comm 1 i]
theorem tyF_drop (F : Fnd) (x : Str) : ∀ (k n : Nat), k ≤ n + 1 → (tyF F x n).drop k = tlF F (x, k) (n + 1 - k) := by
  intro k n h
  apply List.ext_getElem?
  intro i
  unfold tyF tlF
  rw [List.getElem?_drop, List.getElem?_map, List.getElem?_map]
  by_cases q : i < n + 1 - k
  · rw [List.getElem?_range (by omega), List.getElem?_range q]
    rfl
  · rw [List.getElem?_eq_none (by simp; omega), List.getElem?_eq_none (by simp; omega)]
    rfl
theorem conv_rules {F : Fnd} {one two : Str × Nat} {n : Nat} (hc : Closed F (convR one two n)) : ∀ (m : Nat) (w : List Str), w.length + m = n → LOk w → (∀ q ∈ (runW w ([], one, two)).1, F q = true) →
    conv (tlF F (runW w ([], one, two)).2.1 m) (tlF F (runW w ([], one, two)).2.2 m) = true
  | 0, w, _, _, _ => conv_refl []
  | m + 1, w, hl, hw, hP => by
    have hrule : ∀ l, l = lr ∨ l = lw → F ((runW w ([], one, two)).2.2.1, (runW w ([], one, two)).2.2.2, l) = true → F ((runW w ([], one, two)).2.1.1, (runW w ([], one, two)).2.1.2, l) = true := by
      intro l hl2 hF
      have hmem : ((runW w ([], one, two)).1 ++ [((runW w ([], one, two)).2.2.1, (runW w ([], one, two)).2.2.2, l)], ((runW w ([], one, two)).2.1.1, (runW w ([], one, two)).2.1.2, l)) ∈ convR one two n := by
        unfold convR
        rw [if_neg (by omega)]
        refine List.mem_flatten.mpr ⟨_, List.mem_map_of_mem (f := fun w => finR (runW w ([], one, two))) (words_mem (n := n - 1) (by omega) hw), ?_⟩
        rcases hl2 with rfl | rfl <;> simp [finR]
      refine hc _ hmem fun q hq => ?_
      rcases List.mem_append.mp hq with z | z
      · exact hP q z
      · obtain rfl : q = ((runW w ([], one, two)).2.2.1, (runW w ([], one, two)).2.2.2, l) := by simpa using z
        exact hF
    have hnext : ∀ l, l = lr ∨ l = lw → F ((runW w ([], one, two)).2.2.1, (runW w ([], one, two)).2.2.2, l) = true → conv (tlF F (stepW l (runW w ([], one, two))).2.1 m) (tlF F (stepW l (runW w ([], one, two))).2.2 m) = true := by
      intro l hl2 hF
      have := conv_rules hc m (w ++ [l]) (by simp; omega) (hw.snoc hl2) (fun q hq => by
        rw [runW_snoc] at hq
        have hq : q ∈ (runW w ([], one, two)).1 ++ [((runW w ([], one, two)).2.2.1, (runW w ([], one, two)).2.2.2, l)] := by
          unfold stepW at hq
          split at hq <;> exact hq
        rcases List.mem_append.mp hq with z | z
        · exact hP q z
        · obtain rfl : q = ((runW w ([], one, two)).2.2.1, (runW w ([], one, two)).2.2.2, l) := by simpa using z
          exact hF)
      rw [runW_snoc] at this
      exact this
    have hr := hrule lr (.inl rfl)
    have hwr := hrule lw (.inr rfl)
    have nr := hnext lr (.inl rfl)
    have nw := hnext lw (.inr rfl)
    have er : stepW lr (runW w ([], one, two)) = ((runW w ([], one, two)).1 ++ [((runW w ([], one, two)).2.2.1, (runW w ([], one, two)).2.2.2, lr)], ((runW w ([], one, two)).2.1.1, (runW w ([], one, two)).2.1.2 + 1), ((runW w ([], one, two)).2.2.1, (runW w ([], one, two)).2.2.2 + 1)) := by
      unfold stepW
      rw [if_neg (by decide)]
    have ew : stepW lw (runW w ([], one, two)) = ((runW w ([], one, two)).1 ++ [((runW w ([], one, two)).2.2.1, (runW w ([], one, two)).2.2.2, lw)], ((runW w ([], one, two)).2.2.1, (runW w ([], one, two)).2.2.2 + 1), ((runW w ([], one, two)).2.1.1, (runW w ([], one, two)).2.1.2 + 1)) := by
      unfold stepW
      rw [if_pos rfl]
    rw [er] at nr
    rw [ew] at nw
    clear hP hrule hnext er ew
    generalize runW w ([], one, two) = s at *
    rw [tlF_succ, tlF_succ, conv_cons_eq (by simp [tlF])]
    unfold wi
    rw [rd_right, rd_right, wr_right, wr_right]
    dsimp only at nr nw
    cases h1 : F (s.2.2.1, s.2.2.2, lr) <;> cases h2 : F (s.2.2.1, s.2.2.2, lw)
    · rfl
    · rw [hwr h2, nw h2]; rfl
    · rw [hr h1, nr h1]; rfl
    · rw [hr h1, hwr h2, nr h1, nw h2]; rfl
theorem conv_rules0 {F : Fnd} {one two : Str × Nat} {n : Nat} (hc : Closed F (convR one two n)) : conv (tlF F one n) (tlF F two n) = true :=
  conv_rules hc n [] (by simp) (fun l hl => by cases hl) (fun q hq => by cases hq)
/-! ### no faults -/
theorem tabF_look {F : Fnd} {x : Str} : ∀ {ks : List (Str × Nat)}, (tabF F ks).lookup x = (ks.lookup x).map (tyF F x)
  | [] => rfl
  | (y, d) :: ks => by
    by_cases e : x = y
    · subst e; simp [tabF, List.lookup]
    · have : (x == y) = false := beq_eq_false_iff_ne.mpr e
      have ih := tabF_look (F := F) (x := x) (ks := ks)
      unfold tabF at ih ⊢
      simp only [List.map_cons, List.lookup, this]
      exact ih
theorem tabF_ty {F : Fnd} {p : Pg Nat} (d : PgD p) {x : Str} {n : Nat} (h : (x, n) ∈ kindsOf p) : tyOf (tabF F (kindsOf p)) x = tyF F x n := by
  unfold tyOf
  rw [tabF_look, lookup_mem_nd d.knd h]
  rfl
theorem tabF_G {F : Fnd} {p : Pg Nat} (d : PgD p) : TbG (tabF F (kindsOf p)) p := by
  intro q hq
  refine ⟨tyF F q.1 q.2, ?_, by simp [tyF], fun r hr => ?_⟩
  · rw [tabF_look, lookup_mem_nd d.knd (d := q.2) hq]
    rfl
  · obtain ⟨i, _, rfl⟩ := List.mem_map.mp hr
    exact isRt_right F _ _
theorem pre_closed {F : Fnd} {x : Str} {k : Nat} (h : Closed F (preR x k)) {j : Nat} (hj : j < k) : F (x, j, lr) = true :=
  h ([], (x, j, lr)) (List.mem_map_of_mem (f := fun j => (([] : List Cl), (x, j, lr))) (List.mem_range.mpr hj)) (fun q hq => by cases hq)
theorem reached_of {F : Fnd} {p : Pg Nat} (d : PgD p) {ds : List (Str × Nat)} (hs : ∀ q ∈ ds, q ∈ kindsOf p) {x : Str} {n k : Nat} (hx : ds.lookup x = some n) (hk : k ≤ n) (hp : Closed F (preR x k)) : reached (tyE (tabF F (kindsOf p)) ds) x k = none := by
  have hm := hs _ (lookup_mem hx)
  unfold reached
  rw [tyE_look, hx]
  show (if (tyOf _ x).length ≤ k then _ else _) = none
  rw [tabF_ty d hm]
  rw [if_neg (by simp [tyF]; omega), if_pos]
  rw [List.all_eq_true]
  intro r hr
  unfold tyF at hr
  rw [← List.map_take] at hr
  obtain ⟨j, hj, rfl⟩ := List.mem_map.mp hr
  rw [rd_right]
  have : j < k := by
    obtain ⟨i, hi, e⟩ := List.getElem_of_mem hj
    rw [List.getElem_take, List.getElem_range] at e
    have := hi
    rw [List.length_take] at this
    omega
  exact pre_closed hp this
/-- the type of a name in the known -/
theorem tyE_tab {F : Fnd} {p : Pg Nat} (d : PgD p) {ds : List (Str × Nat)} (hs : ∀ q ∈ ds, q ∈ kindsOf p) {x : Str} {n : Nat} (hx : ds.lookup x = some n) : tyOf (tyE (tabF F (kindsOf p)) ds) x = tyF F x n := by
  unfold tyOf
  rw [tyE_look, hx]
  exact tabF_ty d (hs _ (lookup_mem hx))
theorem srcF_none {F : Fnd} {p : Pg Nat} (d : PgD p) {ds : List (Str × Nat)} (hs : ∀ q ∈ ds, q ∈ kindsOf p) {s : Src} {two : Str × Nat} {m : Nat} (hd : dSrc ds s m) (hc : Closed F (srcR (kindsOf p) s two)) :
    srcF (tyE (tabF F (kindsOf p)) ds) s (tlF F two m) = none ∧ CvOk (tyE (tabF F (kindsOf p)) ds) (tlF F two m) s := by
  have hlen : (tlF F two m).length = m := by simp [tlF]
  cases s with
  | num n =>
    have hd : m = 0 := hd
    subst hd
    exact ⟨rfl, trivial⟩
  | null =>
    have hd : m ≠ 0 := hd
    refine ⟨?_, trivial⟩
    unfold srcF
    dsimp only
    rw [hlen, if_neg hd]
  | val x k =>
    obtain ⟨n, hx, hk, rfl⟩ := hd
    have hm := hs _ (lookup_mem hx)
    have hkd : kdAt (kindsOf p) x = n := by unfold kdAt; rw [lookup_mem_nd d.knd hm]; rfl
    unfold srcR at hc
    dsimp only at hc
    rw [hkd] at hc
    have h1 := reached_of d hs hx hk hc.left.left
    have h2 : F (x, k, lr) = true := hc.left.right ([], (x, k, lr)) (by simp) (fun q hq => by cases hq)
    have h3 := conv_rules0 hc.right
    have e1 : (tyF F x n).drop (k + 1) = tlF F (x, k + 1) (n - k) := by rw [tyF_drop F x (k + 1) n (by omega)]; congr 1; omega
    have e2 : rd ((tyF F x n).getD k "") = true := by
      have : (tyF F x n).getD k "" = rightAt F x k := by
        unfold tyF
        rw [List.getD_eq_getElem?_getD, List.getElem?_map, List.getElem?_range (by omega)]
        rfl
      rw [this, rd_right, h2]
    constructor
    · unfold srcF
      dsimp only
      rw [h1, tyE_tab d hs hx]
      dsimp only
      rw [if_pos e2, e1]
      unfold cvF
      rw [if_pos (by simp [tlF]), if_pos h3]
    · intro _
      rw [tyE_tab d hs hx, e1]
      exact h3
  | adr x k =>
    obtain ⟨n, hx, hk, rfl⟩ := hd
    have hm := hs _ (lookup_mem hx)
    have hkd : kdAt (kindsOf p) x = n := by unfold kdAt; rw [lookup_mem_nd d.knd hm]; rfl
    unfold srcR at hc
    dsimp only at hc
    rw [hkd] at hc
    have h1 := reached_of d hs hx hk hc.left
    have h3 := conv_rules0 hc.right
    have e1 := tyF_drop F x k n (by omega)
    constructor
    · unfold srcF
      dsimp only
      rw [h1, tyE_tab d hs hx]
      dsimp only
      rw [e1]
      unfold cvF
      rw [if_pos (by simp [tlF]), if_pos h3]
    · intro _
      rw [tyE_tab d hs hx, e1]
      exact h3
theorem parR_at {F : Fnd} {ks : List (Str × Nat)} : ∀ {ps : List (Str × Nat)} {ss : List Src}, Closed F (parR ks ps ss) → ∀ (i : Nat) q s, ps[i]? = some q → ss[i]? = some s → Closed F (srcR ks s (q.1, 1))
  | [], _, _, i, q, s, h, _ => by simp at h
  | _ :: _, [], _, i, q, s, _, h => by simp at h
  | a :: ps, b :: ss, hc, i, q, s, hq, hs => by
    cases i with
    | zero => simp at hq hs; subst hq; subst hs; exact hc.left
    | succ i => exact parR_at hc.right i q s (by simpa using hq) (by simpa using hs)
theorem psOf_eq {p : Pg Nat} (d : PgD p) {g : Fn Nat} (hg : g ∈ p.fns) {f : Str} (e : g.name = f) : psOf p.fns f = g.ps := by
  unfold psOf
  rw [find_name (names_nd d) hg e]
  rfl
theorem tyF_tl1 {F : Fnd} {x : Str} {n : Nat} : (tyF F x n).drop 1 = tlF F (x, 1) n := by rw [tyF_drop F x 1 n (by omega)]; rfl
/-- a closed set of claims: no statement of the program has a fault -/
theorem no_fault {F : Fnd} {p : Pg Nat} (h : PgS p) {ds : List (Str × Nat)} {st : Stm Nat} (a : AtSt p ds st) (hc : Closed F (stmR (kindsOf p) p.fns st)) :
    stmF (tyE (tabF F (kindsOf p)) ds) (typP (tabF F (kindsOf p)) p).fns (typS (tabF F (kindsOf p)) st) = none ∧ CvSt (tabF F (kindsOf p)) p ds st := by
  have hd := h.s ds st a
  cases st with
  | lt x n s =>
    have := srcF_none h.d a.sub hd hc
    have e : (tyOf (tabF F (kindsOf p)) x).drop 1 = tlF F (x, 1) n := by rw [tabF_ty h.d a.lt_mem, tyF_tl1]
    exact ⟨by show srcF _ s ((tyOf _ x).drop 1) = none; rw [e]; exact this.1, by show CvOk _ ((tyOf _ x).drop 1) s; rw [e]; exact this.2⟩
  | pt x k s =>
    obtain ⟨n, hx, hk, hds⟩ := hd
    have h1 := reached_of h.d a.sub hx hk hc.left.left
    have h2 : F (x, k, lw) = true := hc.left.right ([], (x, k, lw)) (by simp) (fun q hq => by cases hq)
    have h3 := srcF_none h.d a.sub hds hc.right
    have e1 : (tyF F x n).drop (k + 1) = tlF F (x, k + 1) (n - k) := by rw [tyF_drop F x (k + 1) n (by omega)]; congr 1; omega
    have e2 : wr ((tyF F x n).getD k "") = true := by
      have : (tyF F x n).getD k "" = rightAt F x k := by
        unfold tyF
        rw [List.getD_eq_getElem?_getD, List.getElem?_map, List.getElem?_range (by omega)]
        rfl
      rw [this, wr_right, h2]
    constructor
    · show putF1 _ x k s = none
      unfold putF1
      rw [h1, tyE_tab h.d a.sub hx]
      dsimp only
      rw [if_pos e2, e1]
      exact h3.1
    · show CvOk _ ((tyOf (tyE _ ds) x).drop (k + 1)) s
      rw [tyE_tab h.d a.sub hx, e1]
      exact h3.2
  | cl f ss =>
    obtain ⟨g, hg, hn, hl, hw⟩ := a.w h.d
    have hc : Closed F (parR (kindsOf p) (psOf p.fns f) ss) := hc
    rw [psOf_eq h.d hg hn] at hc
    have key : ∀ (i : Nat) q s, g.ps[i]? = some q → ss[i]? = some s → srcF (tyE (tabF F (kindsOf p)) ds) s ((tyOf (tabF F (kindsOf p)) q.1).drop 1) = none ∧ CvOk (tyE (tabF F (kindsOf p)) ds) ((tyOf (tabF F (kindsOf p)) q.1).drop 1) s := by
      intro i q s hq hs
      rw [tabF_ty (n := q.2) h.d (mem_kinds_fn hg (List.mem_append_left _ (List.mem_of_getElem? hq))), tyF_tl1]
      exact srcF_none h.d a.sub (hd g hg hn i q s hq hs) (parR_at hc i q s hq hs)
    constructor
    · show argF _ ((fnOf (typP _ p).fns f).map (·.ps) |>.getD []) ss = none
      rw [fnOf_typ h.d hg hn]
      refine argF_none_of fun i q s hq hs => ?_
      have hq2 : (g.ps.map fun q => (q.1, tyOf (tabF F (kindsOf p)) q.1))[i]? = some q := hq
      rw [List.getElem?_map] at hq2
      cases e2 : g.ps[i]? with
      | none => rw [e2] at hq2; cases hq2
      | some z =>
        rw [e2] at hq2
        obtain rfl : (z.1, tyOf (tabF F (kindsOf p)) z.1) = q := by simpa using hq2
        exact (key i z s e2 hs).1
    · intro g' hg' hn' i q s hq hs
      have : g' = g := by
        have h1 := find_name (names_nd h.d) hg' hn'
        rw [find_name (names_nd h.d) hg hn] at h1
        exact (Option.some.inj h1).symm
      subst this
      exact (key i q s hq hs).2
end Rk
namespace Rk
open PySem PySem.Spec PyProof.Rows L2
variable {P : Program} {w : World} {K : PySem.W.Frag} {mg : Str → Option Value} {base : Heap}
def rCl (c : Cl) (v : V) (J : Hp) : Prop := ∃ a, v = .ref a ∧ J a = some (.tup [.str c.1, .int (c.2.1 : Int), .str c.2.2])
instance (c : Cl) (v : V) : Up (rCl c v) := ⟨fun e ⟨a, h1, h2⟩ => ⟨a, h1, e _ _ h2⟩⟩
def rRule (r : Rule) (v : V) (J : Hp) : Prop := ∃ a lv cv, v = .ref a ∧ J a = some (.tup [lv, cv]) ∧ rLst rCl r.1 lv J ∧ rCl r.2 cv J
instance (r : Rule) (v : V) : Up (rRule r v) := ⟨fun e ⟨a, lv, cv, h1, h2, h3, h4⟩ => ⟨a, lv, cv, h1, e _ _ h2, Up.up e h3, Up.up e h4⟩⟩
def rWord (w : List Str) (v : V) (J : Hp) : Prop := ∃ a, v = .ref a ∧ J a = some (.lst (w.map V.str))
instance (w : List Str) (v : V) : Up (rWord w v) := ⟨fun e ⟨a, h1, h2⟩ => ⟨a, h1, e _ _ h2⟩⟩
theorem wrows_len : ∀ t, t ≤ 3 → (wrows t).length ≤ 8 ∧ (wordsUpTo t).length ≤ 15 := by decide +kernel
abbrev spLawLists : Sp := SpD Nat (fun _ => No) (fun n vs J _ => ∃ v1, vs = [v1] ∧ v1 = .int (n : Int) ∧ 1 ≤ n ∧ n ≤ 4) (fun n v J _ => rLst rWord (wordsUpTo (n - 1)) v J)
theorem ok_LawLists (T : Good K mg) : FnOk P w K mg base CX0 1 (He.ga K "_law_lists") (fdOf K (He.ga K "_law_lists")) ["_law_length"] spLawLists := by
  refine sp_ok (k := 0) (D_sLawLists T) S_sLawLists (fun a vs J H h => by obtain ⟨_, rfl, _⟩ := h; rfl) (fun cdv Ar outer s H0 vs E hr => ?_)
  refine ⟨_, (pss_cons (ps_set (i := 1) S_sLawLists.nd rfl (by first | exact Or.inl rfl | exact Or.inr rfl) (pe_lst (pa_cons (pe_lst pa_nil) pa_nil)))
  (pss_cons (ps_set (i := 2) S_sLawLists.nd rfl (by first | exact Or.inl rfl | exact Or.inr rfl) (pe_lst (pa_cons (pe_lst pa_nil) pa_nil)))
  (pss_cons (ps_for PassesOwn.never rfl (pi_range1 (by rfl) (f_range T) (pa_cons (pe_op op_sub (pv 0) pe_int) pa_nil)) (pg_name (i := 3) S_sLawLists.nd rfl (by first | exact Or.inl rfl | exact Or.inr rfl))
  (pss_cons (ps_set (i := 4) S_sLawLists.nd rfl (by first | exact Or.inl rfl | exact Or.inr rfl) (pe_lst pa_nil))
  (pss_cons (ps_for PassesOwn.never rfl (piL K (pv 2)) (pg_name (i := 5) S_sLawLists.nd rfl (by first | exact Or.inl rfl | exact Or.inr rfl))
  (pss_one (ps_expr (pe_bm PySem.F.plainAttrs_list PySem.F.slot_list_extend PySem.F.type_list_extend mt_extend (pv 4) (pa_cons (pe_lst (pa_cons (pe_op op_cat (pv 5) (pe_lst (pa_cons pe_str pa_nil))) (pa_cons (pe_op op_cat (pv 5) (pe_lst (pa_cons pe_str pa_nil))) pa_nil))) pa_nil)))))
  (pss_cons (ps_set (i := 2) S_sLawLists.nd rfl (by first | exact Or.inl rfl | exact Or.inr rfl) (pv 4))
  (pss_one (ps_set (i := 1) S_sLawLists.nd rfl (by first | exact Or.inl rfl | exact Or.inr rfl) (pe_op op_cat (pv 1) (pv 2))))))))
  (pss_one (ps_ret (pv 1)))))), ?_⟩
  rintro n J0 Q G ⟨_, rfl, rfl, hn1, hn4⟩ kk
  have zs := sizeLine_eq
  have hl := wrows_len (n - 1) (by omega)
  walk_at "go"
  refine k_lst G (by decide) ?_
  intro L1 J1 H1 hL1 e1 hJ1 g1 G1
  walk_at "go"
  rename_i L2 J2 H2 hL2 e2 hJ2 g2 G2
  refine k_lst G2 (by decide) ?_
  intro L3 J3 H3 hL3 e3 hJ3 g3 G3
  walk_at "go"
  rename_i L4 J4 H4 hL4 e4 hJ4 g4 G4
  rw [show ((n : Int) - 1) = ((n - 1 : Nat) : Int) by omega]
  refine k_iR1E (by omega) ?_
  rw [Int.toNat_natCast]
  refine k_forR G4 (fun t σ' J' H' => ∃ o r w w' w'', σ' = [some (.int (n : Int)), some o, some r, w, w', w''] ∧ rLst rWord (wordsUpTo t) o J' ∧ rLst rWord (wrows t) r J') ⟨_, _, _, _, _, rfl, ⟨L2, _, rfl, e4 _ _ (e3 _ _ hJ2), AllR.nil.cons ⟨L1, rfl, e4 _ _ (e3 _ _ (e2 _ _ hJ1))⟩⟩, ⟨L4, _, rfl, hJ4, AllR.nil.cons ⟨L3, rfl, e4 _ _ hJ3⟩⟩⟩ ?_ ?_
  · rintro t σ' J5 H5 ht e5 G5 ⟨o, r, w, w', w'', rfl, ho, ⟨ar, xr, rfl, har, hxr⟩⟩
    have hl2 := wrows_len t (by omega)
    walk_at "go"
    refine k_lstM G5 (by decide) ?_
    intro l H6 hl6 hl0 ml g6 G6
    walk_at "go"
    refine k_forL G6 har (fun i σ' J' H' => ∃ w'' ac, σ' = [some (.int (n : Int)), some o, some (.ref ar), some (.int (t : Int)), some (.ref l), w''] ∧ Mu J' H' l (.lst ac) ∧ AllR rWord (((wrows t).take i).map fun r => [r ++ [lr], r ++ [lw]]).flatten ac J' ∧ ac.length = 2 * i) ⟨_, [], rfl, ml, AllR.nil, rfl⟩ ?_ ?_
    · rintro i x σ' J7 H7 hx e7 G7 ⟨w'', ac, rfl, ml7, hac, hlen⟩
      obtain ⟨d, hd, a, rfl, ha⟩ := hxr.at hx
      have hi : i < (wrows t).length := (List.getElem?_eq_some_iff.mp hd).1
      have hdl : d.length = t := (wrows_ok (List.mem_of_getElem? hd)).1
      walk_at "go"
      rename_i P8 J8 H8 hP8 e8 hJ8 g8 G8
      refine k_cat G8 (by walk_at "get") (by walk_at "get") (by simp; omega) ?_
      intro P9 J9 H9 hP9 e9 hJ9 g9 G9
      walk_at "go"
      rename_i PA JA HA hPA eA hJA gA GA
      refine k_cat GA (by walk_at "get") (by walk_at "get") (by simp; omega) ?_
      intro PB JB HB hPB eB hJB gB GB
      walk_at "go"
      rename_i PC JC HC hPC eC hJC gC GC
      have mlC := ((((ml7.up g8).up g9).up gA).up gB).up gC
      refine k_ext GC mlC (.inr hl0) (GC.jh _ _ hJC) (by simp; omega) ?_
      intro HD gD GD mlD
      walk_at "go"
      refine ⟨_, ((((e7.trans e8).trans e9).trans eA).trans eB).trans eC, GD, _, _, rfl, mlD, ?_, by simp [hlen]; omega⟩
      rw [List.take_add_one, hd]
      simp only [Option.toList_some, List.map_append, List.flatten_append, List.map_cons, List.map_nil, List.flatten_cons, List.flatten_nil, List.append_nil]
      refine (Up.up ((((e8.trans e9).trans eA).trans eB).trans eC) hac).append ((AllR.nil.cons ?_).cons ?_)
      · exact ⟨PB, rfl, by rw [List.map_append]; exact eC _ _ hJB⟩
      · exact ⟨P9, rfl, by rw [List.map_append]; exact eC _ _ (eB _ _ (eA _ _ hJ9))⟩
    · rintro σ' J7 H7 e7 G7 ⟨w'', ac, rfl, ml7, hac, hlen⟩
      rw [hxr.1, List.take_of_length_le (Nat.le_refl _)] at hac
      have ek := ex_know (o := .lst ac) ml7.j
      have Gk := G7.know ml7.j ml7.h hl0
      obtain ⟨ao, xo, rfl, hao, hxo⟩ := ho
      have hlk : upd J7 l (.lst ac) l = some (.lst ac) := upd_same
      have e7k := e7.trans ek
      have hack := Up.up ek hac
      rw [hxr.1] at hlen
      clear hac ml7 e7 ek G7
      generalize upd J7 l (.lst ac) = J7k at *
      walk_at "go"
      refine k_cat Gk (by walk_at "get") (by walk_at "get") (by rw [hxo.1]; omega) ?_
      intro P8 J8 H8 hP8 e8 hJ8 g8 G8
      walk_at "go"
      refine ⟨_, (e5.trans e7k).trans e8, G8, _, _, _, _, _, rfl, ⟨P8, _, rfl, hJ8, ?_⟩, ⟨l, ac, rfl, e8 _ _ hlk, Up.up e8 hack⟩⟩
      exact Up.up e8 ((Up.up e7k hxo).append hack)
  · rintro σ' J5 H5 e5 G5 ⟨o, r, w, w', w'', rfl, ho, hr⟩
    walk_at "go"
    exact kk _ _ _ G5 ho
end Rk
namespace Rk
open PySem PySem.Spec PyProof.Rows L2
variable {P : Program} {w : World} {K : PySem.W.Frag} {mg : Str → Option Value} {base : Heap}
theorem words_len (t : Nat) (h : t ≤ 3) {w : List Str} (hw : w ∈ wordsUpTo t) : w.length ≤ 3 := Nat.le_trans (words_ok hw).1 h
abbrev spLawConversionRules : Sp := SpD ((Str × Nat) × (Str × Nat) × Nat) (fun _ => No) (fun a vs J _ => ∃ v1 v2 v3, vs = [v1, v2, v3] ∧ rPl a.1 v1 J ∧ rPl a.2.1 v2 J ∧ v3 = .int (a.2.2 : Int) ∧ a.2.2 ≤ 4) (fun a v J _ => rLst rRule (convR a.1 a.2.1 a.2.2) v J)
theorem ok_LawConversionRules (T : Good K mg) : FnOk P w K mg base CX0 2 (He.ga K "_law_conversion_rules") (fdOf K (He.ga K "_law_conversion_rules")) ["_law_one", "_law_two", "_law_length"] spLawConversionRules := by
  refine sp_ok (k := 1) (D_sLawConversionRules T) S_sLawConversionRules (fun a vs J H h => by obtain ⟨_, _, _, rfl, _⟩ := h; rfl) (fun cdv Ar outer s H0 vs E hr => ?_)
  refine ⟨_, (pss_cons (ps_set (i := 3) S_sLawConversionRules.nd rfl (by first | exact Or.inl rfl | exact Or.inr rfl) (pe_lst pa_nil))
  (pss_cons (ps_if (pt_cmpR op_eq (pv 2) pe_int (nomark _)) (pss_one (ps_ret (pv 3))) pss_nil)
  (pss_cons (ps_for PassesOwn.never rfl (piL K (pe_call (ok_LawLists T) (hr.mono (by omega)) rfl (g_law_lists T) (D_sLawLists T).kp (B_sLawLists T) .nil pass0 (pa_cons (pv 2) pa_nil))) (pg_name (i := 4) S_sLawConversionRules.nd rfl (by first | exact Or.inl rfl | exact Or.inr rfl))
  (pss_cons (ps_set (i := 5) S_sLawConversionRules.nd rfl (by first | exact Or.inl rfl | exact Or.inr rfl) (pv 0))
  (pss_cons (ps_set (i := 6) S_sLawConversionRules.nd rfl (by first | exact Or.inl rfl | exact Or.inr rfl) (pv 1))
  (pss_cons (ps_set (i := 7) S_sLawConversionRules.nd rfl (by first | exact Or.inl rfl | exact Or.inr rfl) (pe_lst pa_nil))
  (pss_cons (ps_for PassesOwn.never rfl (piL K (pv 4)) (pg_name (i := 8) S_sLawConversionRules.nd rfl (by first | exact Or.inl rfl | exact Or.inr rfl))
  (pss_cons (ps_expr (pe_bm PySem.F.plainAttrs_list PySem.F.slot_list_append PySem.F.type_list_append mt_append (pv 7) (pa_cons (pe_tup (pa_cons (pe_ix (xT K) (pv 6) pe_int (fun _ _ => rfl)) (pa_cons (pe_ix (xT K) (pv 6) pe_int (fun _ _ => rfl)) (pa_cons (pv 8) pa_nil)))) pa_nil)))
  (pss_cons (ps_set (i := 5) S_sLawConversionRules.nd rfl (by first | exact Or.inl rfl | exact Or.inr rfl) (pe_tup (pa_cons (pe_ix (xT K) (pv 5) pe_int (fun _ _ => rfl)) (pa_cons (pe_op op_add (pe_ix (xT K) (pv 5) pe_int (fun _ _ => rfl)) pe_int) pa_nil))))
  (pss_cons (ps_set (i := 6) S_sLawConversionRules.nd rfl (by first | exact Or.inl rfl | exact Or.inr rfl) (pe_tup (pa_cons (pe_ix (xT K) (pv 6) pe_int (fun _ _ => rfl)) (pa_cons (pe_op op_add (pe_ix (xT K) (pv 6) pe_int (fun _ _ => rfl)) pe_int) pa_nil))))
  (pss_one (ps_if (pt_cmpR op_eq (pv 8) pe_str (nomark _)) (pss_one (ps_par (by rfl) S_sLawConversionRules.nd (i := 5) (j := 6) rfl rfl (by decide) rfl rfl (pa_cons (pv 6) (pa_cons (pv 5) pa_nil)) (by rfl))) pss_nil))))))
  (pss_one (ps_for PassesOwn.never rfl (piL K (pe_lst (pa_cons pe_str (pa_cons pe_str pa_nil)))) (pg_name (i := 8) S_sLawConversionRules.nd rfl (by first | exact Or.inl rfl | exact Or.inr rfl))
  (pss_one (ps_expr (pe_bm PySem.F.plainAttrs_list PySem.F.slot_list_append PySem.F.type_list_append mt_append (pv 3) (pa_cons (pe_tup (pa_cons (pe_op op_cat (pv 7) (pe_lst (pa_cons (pe_tup (pa_cons (pe_ix (xT K) (pv 6) pe_int (fun _ _ => rfl)) (pa_cons (pe_ix (xT K) (pv 6) pe_int (fun _ _ => rfl)) (pa_cons (pv 8) pa_nil)))) pa_nil))) (pa_cons (pe_tup (pa_cons (pe_ix (xT K) (pv 5) pe_int (fun _ _ => rfl)) (pa_cons (pe_ix (xT K) (pv 5) pe_int (fun _ _ => rfl)) (pa_cons (pv 8) pa_nil)))) pa_nil))) pa_nil)))))))))))
  (pss_one (ps_ret (pv 3)))))), ?_⟩
  rintro ⟨one, two, n⟩ J0 Q G ⟨v1, v2, _, rfl, h1, h2, rfl, hn⟩ kk
  dsimp only at *
  have zs := sizeLine_eq
  walk_at "go"
  refine k_lstM G (by decide) ?_
  intro l H1 hl1 hl0 ml g1 G1
  walk_at "go"
  refine if2 (fun q => ?_) (fun q => ?_)
  · have hn0 : n = 0 := by simpa using q
    subst hn0
    walk_at "go"
    exact kk _ _ _ (G1.know ml.j ml.h hl0) ⟨l, [], rfl, upd_same, AllR.nil⟩
  · have hn0 : ¬ n = 0 := by simpa using q
    have hwl := wrows_len (n - 1) (by omega)
    walk_at "go"
    refine use_sp G1 n ⟨_, rfl, rfl, by omega, hn⟩ (fun _ z => z.elim) ?_
    rintro v J2 H2 e2 g2 G2 ⟨al, xl, rfl, hal, hxl⟩
    have ml2 := ml.up g2
    walk_at "go"
    refine k_forL G2 hal (fun i σ' J' H' => ∃ w4 w5 w6 w7 w8 ac, σ' = [some v1, some v2, some (.int (n : Int)), some (.ref l), w4, w5, w6, w7, w8] ∧ Mu J' H' l (.lst ac) ∧ AllR rRule (((wordsUpTo (n - 1)).take i).map fun w => finR (runW w ([], one, two))).flatten ac J' ∧ ac.length = 2 * i) ⟨_, _, _, _, _, [], rfl, ml2, AllR.nil, rfl⟩ ?_ ?_
    · rintro i x σ' J3 H3 hx e3 G3 ⟨w4, w5, w6, w7, w8, ac, rfl, ml3, hac, hlen⟩
      obtain ⟨wd, hwd, aw, rfl, haw⟩ := hxl.at hx
      have hwm := List.mem_of_getElem? hwd
      have hwlen := words_len (n - 1) (by omega) hwm
      have hi : i < (wordsUpTo (n - 1)).length := (List.getElem?_eq_some_iff.mp hwd).1
      walk_at "go"
      refine k_lstM G3 (by decide) ?_
      intro pl H4 hpl hpl0 mp4 g4 G4
      have ml4 := ml3.up g4
      have hlp : ¬ l = pl := ml3.nen hpl
      walk_at "go"
      refine k_forL G4 (by walk_at "get") (fun j σ' J' H' => ∃ w8 a b pa, σ' = [some v1, some v2, some (.int (n : Int)), some (.ref l), some (.ref aw), some a, some b, some (.ref pl), w8] ∧ rPl (runW (wd.take j) ([], one, two)).2.1 a J' ∧ rPl (runW (wd.take j) ([], one, two)).2.2 b J' ∧ Mu J' H' pl (.lst pa) ∧ AllR rCl (runW (wd.take j) ([], one, two)).1 pa J' ∧ Mu J' H' l (.lst ac) ∧ pa.length = j) ⟨_, _, _, [], rfl, Up.up (e2.trans e3) h1, Up.up (e2.trans e3) h2, mp4, AllR.nil, ml4, rfl⟩ ?_ ?_
      · rintro j y σ' J5 H5 hy e5 G5 ⟨w8, a, b, pa, rfl, ⟨aa, rfl, haa⟩, ⟨ab, rfl, hab⟩, mp5, hpa, ml5, hplen⟩
        rw [List.getElem?_map] at hy
        cases ey : wd[j]? with
        | none => rw [ey] at hy; cases hy
        | some lt =>
          rw [ey] at hy
          obtain rfl : V.str lt = y := by simpa using hy
          have hjl : j < wd.length := (List.getElem?_eq_some_iff.mp ey).1
          have hlt := (words_ok hwm).2 lt (List.mem_of_getElem? ey)
          have est : runW (wd.take (j + 1)) ([], one, two) = stepW lt (runW (wd.take j) ([], one, two)) := by
            rw [List.take_add_one, ey]
            exact runW_snoc lt _ _
          rw [est]
          generalize runW (wd.take j) ([], one, two) = s at *
          walk_at "go"
          rename_i P6 J6 H6 hP6 e6 hJ6 g6 G6
          have mp6 := mp5.up g6
          have ml6 := ml5.up g6
          refine k_app G6 mp6 (.inr hpl0) (by omega) ?_
          intro H7 g7 G7 mp7
          have ml7 := ml6.step g7 hlp
          walk_at "go"
          rename_i P8 J8 H8 hP8 e8 hJ8 g8 G8 P9 J9 H9 hP9 e9 hJ9 g9 G9
          have mp9 := (mp7.up g8).up g9
          have ml9 := (ml7.up g8).up g9
          have hcl : rCl (s.2.2.1, s.2.2.2, lt) (.ref P6) J9 := ⟨P6, rfl, e9 _ _ (e8 _ _ hJ6)⟩
          have hpa9 : AllR rCl (s.1 ++ [(s.2.2.1, s.2.2.2, lt)]) (pa ++ [V.ref P6]) J9 := (Up.up ((e6.trans e8).trans e9) hpa).snoc hcl
          have hpl9 : (pa ++ [V.ref P6]).length = j + 1 := by simp [hplen]
          rcases hlt with rfl | rfl
          · walk_at "go"
            exact ⟨_, ((e5.trans e6).trans e8).trans e9, G9, _, _, _, _, rfl, ⟨P8, rfl, e9 _ _ hJ8⟩, ⟨P9, rfl, hJ9⟩, mp9, hpa9, ml9, hpl9⟩
          · walk_at "go"
            exact ⟨_, ((e5.trans e6).trans e8).trans e9, G9, _, _, _, _, rfl, ⟨P9, rfl, hJ9⟩, ⟨P8, rfl, e9 _ _ hJ8⟩, mp9, hpa9, ml9, hpl9⟩
      · rintro σ' J5 H5 e5 G5 ⟨w8, a, b, pa, rfl, ⟨aa, rfl, haa⟩, ⟨ab, rfl, hab⟩, mp5, hpa, ml5, hplen⟩
        rw [List.length_map] at hplen
        rw [List.length_map, List.take_of_length_le (Nat.le_refl _)] at haa hab hpa
        have eat : ((wordsUpTo (n - 1)).take (i + 1)).map (fun w => finR (runW w ([], one, two))) = ((wordsUpTo (n - 1)).take i).map (fun w => finR (runW w ([], one, two))) ++ [finR (runW wd ([], one, two))] := by
          rw [List.take_add_one, hwd]; simp
        rw [eat]
        generalize runW wd ([], one, two) = s at *
        walk_at "go"
        rename_i P6 J6 H6 hP6 e6 hJ6 g6 G6
        refine k_forL G6 hJ6 (fun j σ' J' H' => ∃ w8 ac2, σ' = [some v1, some v2, some (.int (n : Int)), some (.ref l), some (.ref aw), some (.ref aa), some (.ref ab), some (.ref pl), w8] ∧ Mu J' H' pl (.lst pa) ∧ Mu J' H' l (.lst (ac ++ ac2)) ∧ AllR rRule ((finR s).take j) ac2 J' ∧ ac2.length = j) ⟨_, [], rfl, mp5.up g6, by simpa using ml5.up g6, AllR.nil, rfl⟩ ?_ ?_
        · rintro j y σ' J7 H7 hy e7 G7 ⟨w8, ac2, rfl, mp7, ml7, hac2, hl2⟩
          have hj2 : ∃ lt : Str, y = .str lt ∧ (finR s)[j]? = some (s.1 ++ [(s.2.2.1, s.2.2.2, lt)], (s.2.1.1, s.2.1.2, lt)) := by
            have hj : j < 2 := (List.getElem?_eq_some_iff.mp hy).1
            have : j = 0 ∨ j = 1 := by omega
            rcases this with rfl | rfl
            · exact ⟨lr, by simpa using hy.symm, rfl⟩
            · exact ⟨lw, by simpa using hy.symm, rfl⟩
          obtain ⟨lt, rfl, hfin⟩ := hj2
          have hj3 : j < 2 := (List.getElem?_eq_some_iff.mp hy).1
          have eJ := e6.trans e7
          walk_at "go"
          rename_i P8 J8 H8 hP8 e8 hJ8 g8 G8 P9 J9 H9 hP9 e9 hJ9 g9 G9
          have mp9 := (mp7.up g8).up g9
          refine k_cat G9 mp9.h (by walk_at "get") (by simp; omega) ?_
          intro PA JA HA hPA eA hJA gA GA
          walk_at "go"
          rename_i PB JB HB hPB eB hJB gB GB PC JC HC hPC eC hJC gC GC
          have mpC := ((mp9.up gA).up gB).up gC
          have mlC := ((((ml7.up g8).up g9).up gA).up gB).up gC
          refine k_app GC mlC (.inr hl0) (by simp; omega) ?_
          intro HD gD GD mlD
          walk_at "go"
          have e8C : Ex J8 JC := ((e9.trans eA).trans eB).trans eC
          have hcl : rCl (s.2.2.1, s.2.2.2, lt) (.ref P8) JC := ⟨P8, rfl, e8C _ _ hJ8⟩
          have hpC : rLst rCl (s.1 ++ [(s.2.2.1, s.2.2.2, lt)]) (.ref PA) JC := ⟨PA, _, rfl, eC _ _ (eB _ _ hJA), (Up.up ((eJ.trans e8).trans e8C) hpa).snoc hcl⟩
          have hru : rRule (s.1 ++ [(s.2.2.1, s.2.2.2, lt)], (s.2.1.1, s.2.1.2, lt)) (.ref PC) JC := ⟨PC, .ref PA, .ref PB, rfl, hJC, hpC, ⟨PB, rfl, eC _ _ hJB⟩⟩
          refine ⟨_, (e7.trans e8).trans e8C, GD, _, ac2 ++ [.ref PC], rfl, mpC.step gD (fun e => hlp e.symm), by simpa using mlD, ?_, by simp [hl2]⟩
          rw [List.take_add_one, hfin]
          exact (Up.up (e8.trans e8C) hac2).snoc hru
        · rintro σ' J7 H7 e7 G7 ⟨w8, ac2, rfl, mp7, ml7, hac2, hl2⟩
          walk_at "go"
          refine ⟨_, ((e3.trans e5).trans e6).trans e7, G7, _, _, _, _, _, _, rfl, ml7, ?_, ?_⟩
          · rw [List.flatten_append]
            have : (finR s).take 2 = finR s := rfl
            have h2 : AllR rRule (finR s) ac2 J7 := by rw [← this]; exact hac2
            simpa using (Up.up ((e5.trans e6).trans e7) hac).append h2
          · have : ac2.length = 2 := hl2
            simp; omega
    · rintro σ' J3 H3 e3 G3 ⟨w4, w5, w6, w7, w8, ac, rfl, ml3, hac, hlen⟩
      rw [hxl.1, List.take_of_length_le (Nat.le_refl _)] at hac
      walk_at "go"
      refine kk _ _ _ (G3.know ml3.j ml3.h hl0) ⟨l, ac, rfl, upd_same, ?_⟩
      unfold convR
      rw [if_neg hn0]
      exact Up.up (ex_know ml3.j) hac
end Rk
namespace Rk
open PySem PySem.Spec PyProof.Rows L2
variable {P : Program} {w : World} {K : PySem.W.Frag} {mg : Str → Option Value} {base : Heap}
def DS (ks : List (Str × Nat)) : Src → Prop
  | .val x k => ∃ n, ks.lookup x = some n ∧ k ≤ n ∧ n ≤ 3
  | .adr x k => ∃ n, ks.lookup x = some n ∧ k ≤ n ∧ n ≤ 3
  | _ => True
theorem preR_snoc (x : Str) (k : Nat) : preR x (k + 1) = preR x k ++ [([], (x, k, lr))] := by
  unfold preR
  rw [List.range_succ, List.map_append]
  rfl
theorem preR_len (x : Str) (k : Nat) : (preR x k).length = k := by simp [preR]
theorem convR_len {one two : Str × Nat} {n : Nat} (h : n ≤ 4) : (convR one two n).length ≤ 30 := by
  unfold convR
  by_cases q : n = 0
  · rw [if_pos q]; exact Nat.zero_le _
  · rw [if_neg q]
    have h1 := (wrows_len (n - 1) (by omega)).2
    have h2 : ∀ l : List (List Str), ((l.map fun w => finR (runW w ([], one, two))).flatten).length = 2 * l.length := by
      intro l
      induction l with
      | nil => rfl
      | cons a r ih =>
        rw [List.map_cons, List.flatten_cons, List.length_append, ih]
        simp [finR]; omega
    rw [h2]; omega
theorem srcR_len {ks : List (Str × Nat)} {s : Src} {two : Str × Nat} (h : DS ks s) : (srcR ks s two).length ≤ 35 := by
  cases s with
  | num n => exact Nat.zero_le _
  | null => exact Nat.zero_le _
  | val x k =>
    obtain ⟨n, hx, hk, hn⟩ := h
    have e : kdAt ks x = n := by unfold kdAt; rw [hx]; rfl
    have := convR_len (one := (x, k + 1)) (two := two) (n := kdAt ks x - k) (by omega)
    simp only [srcR, List.length_append, preR_len, List.length_cons, List.length_nil]
    omega
  | adr x k =>
    obtain ⟨n, hx, hk, hn⟩ := h
    have e : kdAt ks x = n := by unfold kdAt; rw [hx]; rfl
    have := convR_len (one := (x, k)) (two := two) (n := kdAt ks x + 1 - k) (by omega)
    simp only [srcR, List.length_append, preR_len]
    omega
abbrev spLawSourceRules : Sp := SpD (List (Str × Nat) × Src × (Str × Nat)) (fun _ => No) (fun a vs J _ => ∃ v1 v2 v3, vs = [v1, v2, v3] ∧ rDic rDp a.1 v1 J ∧ rSrc a.2.1 v2 J ∧ rPl a.2.2 v3 J ∧ DS a.1 a.2.1) (fun a v J _ => rLst rRule (srcR a.1 a.2.1 a.2.2) v J)
theorem ok_LawSourceRules (T : Good K mg) : FnOk P w K mg base CX0 3 (He.ga K "_law_source_rules") (fdOf K (He.ga K "_law_source_rules")) ["_law_kinds_here", "_law_source_here", "_law_two"] spLawSourceRules := by
  refine sp_ok (k := 2) (D_sLawSourceRules T) S_sLawSourceRules (fun a vs J H h => by obtain ⟨_, _, _, rfl, _⟩ := h; rfl) (fun cdv Ar outer s H0 vs E hr => ?_)
  refine ⟨_, (pss_cons (ps_if (pt_cmpR (oInSeq K) (pe_ix (xT K) (pv 1) pe_int (fun _ _ => rfl)) (pe_lst (pa_cons pe_str (pa_cons pe_str pa_nil))) (by rfl)) (pss_one (ps_ret (pe_lst pa_nil))) pss_nil)
  (pss_cons (ps_asg (pe_ix (xT K) (pv 1) pe_int (fun _ _ => rfl)) (pgT K (n := 2) rfl (pgs_cons (pg_name (i := 3) S_sLawSourceRules.nd rfl (by first | exact Or.inl rfl | exact Or.inr rfl)) (pgs_cons (pg_name (i := 4) S_sLawSourceRules.nd rfl (by first | exact Or.inl rfl | exact Or.inr rfl)) pgs_nil))))
  (pss_cons (ps_setLc (i := 5) (own := [("_law_j", 6)]) (by rfl) S_sLawSourceRules.nd rfl rfl (sw_true rfl rfl rfl (by decide +kernel)) (pi_range1 (by rfl) (f_range T) (pa_cons (pv 4) pa_nil)) (blkOk_by (own := [("_law_j", 6)]) (N := ["_law_kinds_here", "_law_source_here", "_law_two", "_law_x", "_law_k", "_law_out", "_law_j"]) (sc := defScope sLawSourceRules) (by decide +kernel)) (fun _ _ _ _ _ => (pg_name (i := 6) S_sLawSourceRules.nd rfl (by first | exact Or.inl rfl | exact Or.inr rfl))) (fun _ _ _ _ _ => pts_nil) (fun _ _ _ _ _ => (pe_tup (pa_cons (pe_lst pa_nil) (pa_cons (pe_tup (pa_cons (pv 3) (pa_cons (pv 6) (pa_cons pe_str pa_nil)))) pa_nil)))))
  (pss_cons (ps_if (pt_cmpR op_eq (pe_ix (xT K) (pv 1) pe_int (fun _ _ => rfl)) pe_str (nomark _)) (pss_cons (ps_expr (pe_bm PySem.F.plainAttrs_list PySem.F.slot_list_append PySem.F.type_list_append mt_append (pv 5) (pa_cons (pe_tup (pa_cons (pe_lst pa_nil) (pa_cons (pe_tup (pa_cons (pv 3) (pa_cons (pv 4) (pa_cons pe_str pa_nil)))) pa_nil))) pa_nil)))
  (pss_one (ps_set (i := 4) S_sLawSourceRules.nd rfl (by first | exact Or.inl rfl | exact Or.inr rfl) (pe_op op_add (pv 4) pe_int)))) pss_nil)
  (pss_one (ps_ret (pe_op op_cat (pv 5) (pe_call (ok_LawConversionRules T) (hr.mono (by omega)) rfl (g_law_conversion_rules T) (D_sLawConversionRules T).kp (B_sLawConversionRules T) .nil pass0 (pa_cons (pe_tup (pa_cons (pv 3) (pa_cons (pv 4) pa_nil))) (pa_cons (pv 2) (pa_cons (pe_op op_sub (pe_op op_add (pe_dget (hu_of hr) (pv 0) (pv 3) (fun _ _ => rfl)) pe_int) (pv 4)) pa_nil))))))))))), ?_⟩
  rintro ⟨ks, s, two⟩ J0 Q G ⟨_, _, v3, rfl, ⟨ad, kvs, rfl, had, he⟩, hs, h3, hd⟩ kk
  dsimp only at *
  have zs := sizeLine_eq
  cases s with
  | num n =>
    obtain ⟨c, rfl, hc⟩ := hs
    walk_at "go"
    refine k_inFlat (by walk_at "get") rfl rfl ?_
    walk_at "go"
    refine k_lst (by assumption) (by decide) ?_
    intro L J2 H2 hL e2 hJ2 g2 G2
    exact kk _ _ _ G2 ⟨L, _, rfl, hJ2, AllR.nil⟩
  | null =>
    obtain ⟨c, rfl, hc⟩ := hs
    walk_at "go"
    refine k_inFlat (by walk_at "get") rfl rfl ?_
    walk_at "go"
    refine k_lst (by assumption) (by decide) ?_
    intro L J2 H2 hL e2 hJ2 g2 G2
    exact kk _ _ _ G2 ⟨L, _, rfl, hJ2, AllR.nil⟩
  | val x k =>
    obtain ⟨c, pl, rfl, hc, hpl⟩ := hs
    obtain ⟨n, hx, hk, hn⟩ := hd
    obtain ⟨_, hv, rfl⟩ := he.some hx
    have hkd : kdAt ks x = n := by unfold kdAt; rw [hx]; rfl
    walk_at "go"
    rename_i L1 J1 H1 hL1 e1 hJ1 g1 G1
    refine k_inFlat (by walk_at "get") rfl rfl ?_
    walk_at "go"
    refine k_iR1E (by omega) ?_
    rw [Int.toNat_natCast]
    refine k_lcRu G1 (by omega) (fun i acc J => AllR rRule (preR x i) acc J) (fun i acc J1 J2 e h => Up.up e h) AllR.nil ?_ ?_
    · rintro i acc J2 H2 Ny Nn hi hl e2 G2 g2 inv hy hn
      walk_at "go"
      refine ⟨rfl, ?_⟩
      walk_at "go"
      refine k_lst G2 (by decide) ?_
      intro L3 J3 H3 hL3 e3 hJ3 g3 G3
      walk_at "go"
      rename_i L4 J4 H4 hL4 e4 hJ4 g4 G4 L5 J5 H5 hL5 e5 hJ5 g5 G5
      refine hy _ _ _ ((g3.trans g4).trans g5) ?_
      rw [preR_snoc]
      exact (Up.up ((e3.trans e4).trans e5) inv).snoc ⟨L5, .ref L3, .ref L4, rfl, hJ5, ⟨L3, [], rfl, e5 _ _ (e4 _ _ hJ3), AllR.nil⟩, ⟨L4, rfl, e5 _ _ hJ4⟩⟩
    · intro D acc J2 H2 hD hD0 e2 mD g2 G2 hl inv
      have hal : acc.length = k := by rw [inv.1, preR_len]
      walk_at "go"
      refine k_lst G2 (by decide) ?_
      intro L3 J3 H3 hL3 e3 hJ3 g3 G3
      walk_at "go"
      rename_i L4 J4 H4 hL4 e4 hJ4 g4 G4 L5 J5 H5 hL5 e5 hJ5 g5 G5
      have mD5 := ((mD.up g3).up g4).up g5
      refine k_app G5 mD5 (.inr hD0) (by omega) ?_
      intro H6 g6 G6 mD6
      walk_at "go"
      rename_i L7 J7 H7 hL7 e7 hJ7 g7 G7
      have mD7 := mD6.up g7
      have hAll : AllR rRule (preR x k ++ [([], (x, k, lr))]) (acc ++ [V.ref L5]) J7 := Up.up e7 ((Up.up ((e3.trans e4).trans e5) inv).snoc ⟨L5, .ref L3, .ref L4, rfl, hJ5, ⟨L3, [], rfl, e5 _ _ (e4 _ _ hJ3), AllR.nil⟩, ⟨L4, rfl, e5 _ _ hJ4⟩⟩)
      refine use_sp G7 ((x, k + 1), two, n - k) ⟨_, _, _, rfl, ⟨L7, rfl, hJ7⟩, by walk_at "up", congrArg V.int (by show ((n : Int) + 1 - ((k : Int) + 1)) = ((n - k : Nat) : Int); omega), by show n - k ≤ 4; omega⟩ (fun _ z => z.elim) ?_
      rintro v J8 H8 e8 g8 G8 ⟨lc, xc, rfl, hlc, hxc⟩
      dsimp only at hxc
      have mD8 := mD7.up g8
      walk_at "go"
      refine k_cat G8 mD8.h (by walk_at "get") (by rw [hxc.1]; have := convR_len (one := (x, k + 1)) (two := two) (n := n - k) (by omega); simp; omega) ?_
      intro L9 J9 H9 hL9 e9 hJ9 g9 G9
      refine kk _ _ _ G9 ⟨L9, _, rfl, hJ9, ?_⟩
      unfold srcR
      dsimp only
      rw [hkd]
      exact Up.up e9 ((Up.up e8 hAll).append hxc)
  | adr x k =>
    obtain ⟨c, pl, rfl, hc, hpl⟩ := hs
    obtain ⟨n, hx, hk, hn⟩ := hd
    obtain ⟨_, hv, rfl⟩ := he.some hx
    have hkd : kdAt ks x = n := by unfold kdAt; rw [hx]; rfl
    walk_at "go"
    rename_i L1 J1 H1 hL1 e1 hJ1 g1 G1
    refine k_inFlat (by walk_at "get") rfl rfl ?_
    walk_at "go"
    refine k_iR1E (by omega) ?_
    rw [Int.toNat_natCast]
    refine k_lcRu G1 (by omega) (fun i acc J => AllR rRule (preR x i) acc J) (fun i acc J1 J2 e h => Up.up e h) AllR.nil ?_ ?_
    · rintro i acc J2 H2 Ny Nn hi hl e2 G2 g2 inv hy hn
      walk_at "go"
      refine ⟨rfl, ?_⟩
      walk_at "go"
      refine k_lst G2 (by decide) ?_
      intro L3 J3 H3 hL3 e3 hJ3 g3 G3
      walk_at "go"
      rename_i L4 J4 H4 hL4 e4 hJ4 g4 G4 L5 J5 H5 hL5 e5 hJ5 g5 G5
      refine hy _ _ _ ((g3.trans g4).trans g5) ?_
      rw [preR_snoc]
      exact (Up.up ((e3.trans e4).trans e5) inv).snoc ⟨L5, .ref L3, .ref L4, rfl, hJ5, ⟨L3, [], rfl, e5 _ _ (e4 _ _ hJ3), AllR.nil⟩, ⟨L4, rfl, e5 _ _ hJ4⟩⟩
    · intro D acc J2 H2 hD hD0 e2 mD g2 G2 hl inv
      have hal : acc.length = k := by rw [inv.1, preR_len]
      walk_at "go"
      rename_i L7 J7 H7 hL7 e7 hJ7 g7 G7
      have mD7 := mD.up g7
      refine use_sp G7 ((x, k), two, n + 1 - k) ⟨_, _, _, rfl, ⟨L7, rfl, hJ7⟩, by walk_at "up", congrArg V.int (by show ((n : Int) + 1 - (k : Int)) = ((n + 1 - k : Nat) : Int); omega), by show n + 1 - k ≤ 4; omega⟩ (fun _ z => z.elim) ?_
      rintro v J8 H8 e8 g8 G8 ⟨lc, xc, rfl, hlc, hxc⟩
      dsimp only at hxc
      have mD8 := mD7.up g8
      walk_at "go"
      refine k_cat G8 mD8.h (by walk_at "get") (by rw [hxc.1]; have := convR_len (one := (x, k)) (two := two) (n := n + 1 - k) (by omega); omega) ?_
      intro L9 J9 H9 hL9 e9 hJ9 g9 G9
      refine kk _ _ _ G9 ⟨L9, _, rfl, hJ9, ?_⟩
      unfold srcR
      dsimp only
      rw [hkd]
      exact Up.up e9 ((Up.up (e7.trans e8) inv).append hxc)
end Rk
namespace Rk
open PySem PySem.Spec PyProof.Rows L2
variable {P : Program} {w : World} {K : PySem.W.Frag} {mg : Str → Option Value} {base : Heap}
def rTRule (r : Rule) (v : V) (J : Hp) : Prop := ∃ a b cv ys, v = .ref a ∧ J a = some (.tup [.ref b, cv]) ∧ J b = some (.tup ys) ∧ AllR rCl r.1 ys J ∧ rCl r.2 cv J
instance (r : Rule) (v : V) : Up (rTRule r v) := ⟨fun e ⟨a, b, cv, ys, h1, h2, h3, h4, h5⟩ => ⟨a, b, cv, ys, h1, e _ _ h2, e _ _ h3, Up.up e h4, Up.up e h5⟩⟩
def pyCl (c : Cl) : PyData := .tuple [.str c.1, .int (c.2.1 : Int), .str c.2.2]
def pyRule (r : Rule) : PyData := .tuple [.tuple (r.1.map pyCl), pyCl r.2]
theorem dp_cl {J H : Hp} (e : Ex J H) {c : Cl} {v : V} (h : rCl c v J) : Dp K H v (pyCl c) := by
  obtain ⟨a, rfl, ha⟩ := h
  exact .tup (SqT.of (e _ _ ha)) (.cons (.str _) (.cons (.int _) (.cons (.str _) .nil)))
theorem dp_rule {J H : Hp} (e : Ex J H) {r : Rule} {v : V} (h : rTRule r v J) : Dp K H v (pyRule r) := by
  obtain ⟨a, b, cv, ys, rfl, ha, hb, hy, hc⟩ := h
  exact .tup (SqT.of (e _ _ ha)) (.cons (.tup (SqT.of (e _ _ hb)) (dp_all (fun d v h => dp_cl e h) hy)) (.cons (dp_cl e hc) .nil))
def ClOk (c : Cl) : Prop := sOk c.1 ∧ sOk c.2.2
def RuleOk (r : Rule) : Prop := (∀ c ∈ r.1, ClOk c) ∧ ClOk r.2
theorem lay_cl {c : Cl} (h : ClOk c) : (pyCl c).canLay0 = true := by
  have h1 : (PyData.str c.1).canLay0 = true := h.1
  have h2 : (PyData.str c.2.2).canLay0 = true := h.2
  simp [pyCl, PyData.canLay0, PyData.canLayAll0] at *
  exact ⟨h1, h2⟩
theorem dep_cl {c : Cl} : (pyCl c).depth ≤ 1 := by simp [pyCl, PyData.depth, PyData.depthAll]
theorem lay_rule {r : Rule} (h : RuleOk r) : (pyRule r).canLay0 = true := by
  have h1 : PyData.canLayAll0 (r.1.map pyCl) = true := lay_all fun c hc => lay_cl (h.1 c hc)
  have h2 := lay_cl h.2
  simp only [pyRule, PyData.canLay0, PyData.canLayAll0, h1, h2]
  rfl
theorem dep_rule {r : Rule} : (pyRule r).depth ≤ 3 := by
  have h1 : PyData.depthAll (r.1.map pyCl) ≤ 1 := dep_all fun c _ => dep_cl
  have h2 := dep_cl (c := r.2)
  simp only [pyRule, PyData.depth, PyData.depthAll]
  omega
theorem eqv_cl (a b : Cl) : PyData.eqv (pyCl a) (pyCl b) = decide (a = b) := by
  obtain ⟨a1, a2, a3⟩ := a
  obtain ⟨b1, b2, b3⟩ := b
  have hs : ∀ x y : Str, (x == y) = decide (x = y) := fun x y => by
    by_cases e : x = y
    · rw [e]; simp
    · rw [beq_eq_false_iff_ne.mpr e, decide_eq_false e]
  have hi : ((a2 : Int) == (b2 : Int)) = decide (a2 = b2) := by
    by_cases e : a2 = b2
    · rw [e]; simp
    · rw [beq_eq_false_iff_ne.mpr (by omega), decide_eq_false e]
  simp only [pyCl, PyData.eqv, PyData.eqvAll, hs, hi, Prod.mk.injEq]
  by_cases e1 : a1 = b1 <;> by_cases e2 : a2 = b2 <;> by_cases e3 : a3 = b3 <;> simp [e1, e2, e3]
theorem eqv_cls : ∀ (l m : List Cl), PyData.eqvAll (l.map pyCl) (m.map pyCl) = decide (l = m)
  | [], [] => by simp [PyData.eqvAll]
  | [], _ :: _ => by simp [PyData.eqvAll]
  | _ :: _, [] => by simp [PyData.eqvAll]
  | a :: l, b :: m => by
    rw [List.map_cons, List.map_cons]
    simp only [PyData.eqvAll, eqv_cl, eqv_cls l m]
    by_cases e1 : a = b <;> by_cases e2 : l = m <;> simp [e1, e2]
theorem eqv_rule (a b : Rule) : PyData.eqv (pyRule a) (pyRule b) = decide (a = b) := by
  obtain ⟨a1, a2⟩ := a
  obtain ⟨b1, b2⟩ := b
  simp only [pyRule, PyData.eqv, PyData.eqvAll, eqv_cl, eqv_cls]
  by_cases e1 : a1 = b1 <;> by_cases e2 : a2 = b2 <;> simp [e1, e2]
theorem alike_cl (a b : Cl) : PySem.W.alike (pyCl a) (pyCl b) = true := by simp [pyCl, PySem.W.alike, PySem.W.alikeAll]
theorem alike_cls : ∀ (l m : List Cl), PySem.W.alikeAll (l.map pyCl) (m.map pyCl) = true
  | [], _ => by simp [PySem.W.alikeAll]
  | _ :: _, [] => by simp [PySem.W.alikeAll]
  | a :: l, b :: m => by
    rw [List.map_cons, List.map_cons]
    simp only [PySem.W.alikeAll, alike_cl, alike_cls l m]
    rfl
theorem alike_rule (a b : Rule) : PySem.W.alike (pyRule a) (pyRule b) = true := by
  simp only [pyRule, PySem.W.alike, PySem.W.alikeAll, alike_cl, alike_cls]
  rfl
theorem AllR.perm {α : Type} {R : α → V → Hp → Prop} {J : Hp} : ∀ {ys xs : List V}, ys.Perm xs → ∀ {ds : List α}, AllR R ds xs J → ∃ es, es.Perm ds ∧ AllR R es ys J := by
  intro ys xs h
  induction h with
  | nil => intro ds h; exact ⟨ds, List.Perm.refl _, h⟩
  | cons x h ih =>
    intro ds hd
    cases ds with
    | nil => exact absurd hd.1 (by simp)
    | cons d ds =>
      obtain ⟨es, h1, h2⟩ := ih hd.tail
      exact ⟨d :: es, h1.cons d, h2.cons hd.head⟩
  | swap x y l =>
    intro ds hd
    match ds, hd with
    | [], hd => exact absurd hd.1 (by simp)
    | [_], hd => exact absurd hd.1 (by simp)
    | d :: e :: ds, hd => exact ⟨e :: d :: ds, List.Perm.swap _ _ _, (hd.tail.tail.cons hd.head).cons hd.tail.head⟩
  | trans h1 h2 ih1 ih2 =>
    intro ds hd
    obtain ⟨es, h3, h4⟩ := ih2 hd
    obtain ⟨fs, h5, h6⟩ := ih1 h4
    exact ⟨fs, h5.trans h3, h6⟩
theorem k_sortRules {M0 : Addr → Prop} {J0 H0 J H : Hp} {Q : VK} {l : Addr} {rs : List Rule} {ac : List V} (G : Gr M0 J0 H0 J H) (hl : H l = some (.lst ac)) (h : AllR rTRule rs ac J)
    (k : ∀ p J' H' ys es, H p = none → Ex J J' → J' p = some (.lst ys) → AllR rTRule es ys J' → es.Perm rs → Gr No J H J' H' → Gr M0 J0 H0 J' H' → Q (.ref p) H') : rSortD K [.ref l] H Q := by
  refine ⟨l, ac, rs.map pyRule, rfl, SqL.of hl, dp_all (fun d v h => dp_rule G.jh h) h, ?_, .inl ?_, ?_, ?_⟩
  · intro d hd d' hd'
    obtain ⟨a, _, rfl⟩ := List.mem_map.mp hd
    obtain ⟨b, _, rfl⟩ := List.mem_map.mp hd'
    exact alike_rule a b
  · intro d hd
    obtain ⟨a, _, rfl⟩ := List.mem_map.mp hd
    exact ⟨_, _, rfl⟩
  · intro d hd
    obtain ⟨a, _, rfl⟩ := List.mem_map.mp hd
    exact Nat.le_trans dep_rule (by decide)
  · intro ys p hp hpn
    obtain ⟨es, h1, h2⟩ := AllR.perm hp h
    have ga : Gr No J H (upd J p (.lst ys)) (upd H p (.lst ys)) := Gr.alloc G.jh hpn
    exact k p _ _ ys es hpn ga.jj upd_same (Up.up ga.jj h2) h1 ga (G.step ga)
structure RuD where
  p : Pg Nat
  st : Stm Nat
  ds : List (Str × Nat)
theorem sOk_B : ∀ x, InB x → sOk x := by
  have h1 : ∀ x ∈ allNames, sOk x := by unfold sOk; decide +kernel
  have h2 : sOk "zq" := by unfold sOk; decide +kernel
  intro x h
  rcases h with h | rfl
  · exact h1 x h
  · exact h2
theorem sOk_l : sOk lr ∧ sOk lw := by unfold sOk; decide +kernel
abbrev spLawRules : Sp := SpD RuD (fun _ => No) (fun a vs J _ => ∃ v1 v2, vs = [v1, v2] ∧ rLPg rDp a.p v1 J ∧ rStm rDp a.st v2 J ∧ PgS a.p ∧ AtSt a.p a.ds a.st) (fun a v J _ => ∃ rs, rLst rRule rs v J ∧ (∀ r, r ∈ rs ↔ r ∈ stmR (kindsOf a.p) a.p.fns a.st) ∧ rs.length ≤ 1000)
theorem ds_of {p : Pg Nat} (d : PgD p) {ds : List (Str × Nat)} (hs : ∀ q ∈ ds, q ∈ kindsOf p) {s : Src} {m : Nat} (h : dSrc ds s m) : DS (kindsOf p) s := by
  cases s with
  | num n => trivial
  | null => trivial
  | val x k =>
    obtain ⟨n, hx, hk, _⟩ := h
    have hm := hs _ (lookup_mem hx)
    exact ⟨n, lookup_mem_nd d.knd hm, hk, d.kw _ hm⟩
  | adr x k =>
    obtain ⟨n, hx, hk, _⟩ := h
    have hm := hs _ (lookup_mem hx)
    exact ⟨n, lookup_mem_nd d.knd hm, hk, d.kw _ hm⟩
/-- places that a rule tells of -/
def plOk (P : Str × Nat → Prop) (r : Rule) : Prop := (∀ c ∈ r.1, P (c.1, c.2.1) ∧ (c.2.2 = lr ∨ c.2.2 = lw)) ∧ P (r.2.1, r.2.2.1) ∧ (r.2.2.2 = lr ∨ r.2.2.2 = lw)
theorem runW_pl {P : Str × Nat → Prop} : ∀ (w : List Str) (s : WSt) (n : Nat), LOk w → w.length ≤ n → (∀ c ∈ s.1, P (c.1, c.2.1) ∧ (c.2.2 = lr ∨ c.2.2 = lw)) → (∀ i, i < n → P (s.2.1.1, s.2.1.2 + i) ∧ P (s.2.2.1, s.2.2.2 + i)) →
    (∀ c ∈ (runW w s).1, P (c.1, c.2.1) ∧ (c.2.2 = lr ∨ c.2.2 = lw)) ∧ ∀ i, i < n - w.length → P ((runW w s).2.1.1, (runW w s).2.1.2 + i) ∧ P ((runW w s).2.2.1, (runW w s).2.2.2 + i)
  | [], s, n, _, _, h1, h2 => ⟨h1, h2⟩
  | l :: w, s, n, hl, hn, h1, h2 => by
    have hn' : w.length + 1 ≤ n := hn
    have := runW_pl (P := P) w (stepW l s) (n - 1) (fun x hx => hl x (List.mem_cons_of_mem _ hx)) (by omega) ?_ ?_
    · refine ⟨this.1, fun i hi => this.2 i ?_⟩
      rw [List.length_cons] at hi; omega
    · have h0 := (h2 0 (by omega)).2
      intro c hc
      have hc : c ∈ s.1 ++ [(s.2.2.1, s.2.2.2, l)] := by unfold stepW at hc; split at hc <;> exact hc
      rcases List.mem_append.mp hc with z | z
      · exact h1 c z
      · obtain rfl : c = (s.2.2.1, s.2.2.2, l) := by simpa using z
        exact ⟨h0, hl l List.mem_cons_self⟩
    · intro i hi
      have := h2 (i + 1) (by omega)
      rw [Nat.add_comm i 1, ← Nat.add_assoc, ← Nat.add_assoc] at this
      unfold stepW
      split
      · exact ⟨this.2, this.1⟩
      · exact this
theorem convR_pl {P : Str × Nat → Prop} {one two : Str × Nat} {n : Nat} (h : ∀ i, i < n → P (one.1, one.2 + i) ∧ P (two.1, two.2 + i)) : ∀ r ∈ convR one two n, plOk P r := by
  intro r hr
  unfold convR at hr
  by_cases q : n = 0
  · rw [if_pos q] at hr; cases hr
  · rw [if_neg q] at hr
    obtain ⟨l, hl, hr⟩ := List.mem_flatten.mp hr
    obtain ⟨w, hw, rfl⟩ := List.mem_map.mp hl
    obtain ⟨h1, h2⟩ := words_ok hw
    obtain ⟨h3, h4⟩ := runW_pl (P := P) w ([], one, two) n h2 (by omega) (fun c hc => by cases hc) h
    have h5 := h4 0 (by omega)
    generalize runW w ([], one, two) = s at *
    have both : ∀ lt, lt = lr ∨ lt = lw → plOk P (s.1 ++ [(s.2.2.1, s.2.2.2, lt)], (s.2.1.1, s.2.1.2, lt)) := by
      intro lt hlt
      refine ⟨fun c hc => ?_, h5.1, hlt⟩
      rcases List.mem_append.mp hc with z | z
      · exact h3 c z
      · obtain rfl : c = (s.2.2.1, s.2.2.2, lt) := by simpa using z
        exact ⟨h5.2, hlt⟩
    rcases (show r = _ ∨ r = _ by simpa [finR] using hr) with rfl | rfl
    · exact both lr (.inl rfl)
    · exact both lw (.inr rfl)
theorem preR_pl {P : Str × Nat → Prop} {x : Str} {k : Nat} (h : ∀ j, j < k → P (x, j)) : ∀ r ∈ preR x k, plOk P r := by
  intro r hr
  obtain ⟨j, hj, rfl⟩ := List.mem_map.mp hr
  exact ⟨(fun c hc => by cases hc), h j (List.mem_range.mp hj), .inl rfl⟩
/-- a place of the program -/
def InP (p : Pg Nat) (q : Str × Nat) : Prop := ∃ n, (q.1, n) ∈ kindsOf p ∧ q.2 ≤ n
theorem srcR_pl {p : Pg Nat} (d : PgD p) {ds : List (Str × Nat)} (hs : ∀ q ∈ ds, q ∈ kindsOf p) {s : Src} {m : Nat} (h : dSrc ds s m) {two : Str × Nat} (ht : ∀ i, i < m → InP p (two.1, two.2 + i)) : ∀ r ∈ srcR (kindsOf p) s two, plOk (InP p) r := by
  cases s with
  | num n => intro r hr; cases hr
  | null => intro r hr; cases hr
  | val x k =>
    obtain ⟨n, hx, hk, rfl⟩ := h
    have hm := hs _ (lookup_mem hx)
    have hkd : kdAt (kindsOf p) x = n := by unfold kdAt; rw [lookup_mem_nd d.knd hm]; rfl
    unfold srcR
    dsimp only
    rw [hkd]
    intro r hr
    rcases List.mem_append.mp hr with hr | hr
    · rcases List.mem_append.mp hr with hr | hr
      · exact preR_pl (fun j hj => ⟨n, hm, by show j ≤ n; omega⟩) r hr
      · obtain rfl : r = ([], (x, k, lr)) := by simpa using hr
        exact ⟨(fun c hc => by cases hc), ⟨n, hm, hk⟩, .inl rfl⟩
    · exact convR_pl (fun i hi => ⟨⟨n, hm, by show k + 1 + i ≤ n; omega⟩, ht i hi⟩) r hr
  | adr x k =>
    obtain ⟨n, hx, hk, rfl⟩ := h
    have hm := hs _ (lookup_mem hx)
    have hkd : kdAt (kindsOf p) x = n := by unfold kdAt; rw [lookup_mem_nd d.knd hm]; rfl
    unfold srcR
    dsimp only
    rw [hkd]
    intro r hr
    rcases List.mem_append.mp hr with hr | hr
    · exact preR_pl (fun j hj => ⟨n, hm, by show j ≤ n; omega⟩) r hr
    · exact convR_pl (fun i hi => ⟨⟨n, hm, by show k + i ≤ n; omega⟩, ht i hi⟩) r hr
theorem parR_pl {p : Pg Nat} (d : PgD p) {ds : List (Str × Nat)} (hs : ∀ q ∈ ds, q ∈ kindsOf p) : ∀ {ps : List (Str × Nat)} {ss : List Src}, (∀ q ∈ ps, q ∈ kindsOf p) → (∀ (i : Nat) q s, ps[i]? = some q → ss[i]? = some s → dSrc ds s q.2) → ∀ r ∈ parR (kindsOf p) ps ss, plOk (InP p) r
  | [], _, _, _, r, hr => by unfold parR at hr; cases hr
  | _ :: _, [], _, _, r, hr => by unfold parR at hr; cases hr
  | q :: ps, s :: ss, h1, h2, r, hr => by
    unfold parR at hr
    rcases List.mem_append.mp hr with hr | hr
    · exact srcR_pl d hs (two := (q.1, 1)) (h2 0 q s rfl rfl) (fun i hi => ⟨q.2, h1 q List.mem_cons_self, by show 1 + i ≤ q.2; omega⟩) r hr
    · exact parR_pl d hs (fun z hz => h1 z (List.mem_cons_of_mem _ hz)) (fun i q s hq hs => h2 (i + 1) q s (by simpa using hq) (by simpa using hs)) r hr
theorem stmR_pl {p : Pg Nat} (h : PgS p) {ds : List (Str × Nat)} {st : Stm Nat} (a : AtSt p ds st) : ∀ r ∈ stmR (kindsOf p) p.fns st, plOk (InP p) r := by
  have hd := h.s ds st a
  cases st with
  | lt x n s => exact srcR_pl h.d a.sub hd (fun i hi => ⟨n, a.lt_mem, by show 1 + i ≤ n; omega⟩)
  | pt x k s =>
    obtain ⟨n, hx, hk, hds⟩ := hd
    have hm := a.sub _ (lookup_mem hx)
    intro r hr
    have hr : r ∈ (preR x k ++ ([([], (x, k, lw))] : List Rule)) ++ srcR (kindsOf p) s (x, k + 1) := hr
    rcases List.mem_append.mp hr with hr | hr
    · rcases List.mem_append.mp hr with hr | hr
      · exact preR_pl (fun j hj => ⟨n, hm, by show j ≤ n; omega⟩) r hr
      · obtain rfl : r = ([], (x, k, lw)) := by simpa using hr
        exact ⟨(fun c hc => by cases hc), ⟨n, hm, hk⟩, .inr rfl⟩
    · exact srcR_pl h.d a.sub hds (fun i hi => ⟨n, hm, by show k + 1 + i ≤ n; omega⟩) r hr
  | cl f ss =>
    obtain ⟨g, hg, hn, hl, hw⟩ := a.w h.d
    have : stmR (kindsOf p) p.fns (.cl f ss) = parR (kindsOf p) g.ps ss := by show parR _ (psOf p.fns f) ss = _; rw [psOf_eq h.d hg hn]
    rw [this]
    exact parR_pl h.d a.sub (fun q hq => mem_kinds_fn hg (List.mem_append_left _ hq)) (hd g hg hn)
theorem ruleOk_of {p : Pg Nat} (d : PgD p) {r : Rule} (h : plOk (InP p) r) : RuleOk r := by
  have hn : ∀ {x : Str} {k : Nat}, InP p (x, k) → sOk x := by
    rintro x k ⟨n, hm, _⟩
    refine sOk_B x (d.na x ?_)
    exact (kinds_perm p).mem_iff.mp (List.mem_map_of_mem (f := (·.1)) hm)
  have hl : ∀ {l : Str}, l = lr ∨ l = lw → sOk l := by
    rintro l (rfl | rfl)
    · exact sOk_l.1
    · exact sOk_l.2
  exact ⟨fun c hc => ⟨hn (h.1 c hc).1, hl (h.1 c hc).2⟩, hn h.2.1, hl h.2.2⟩
end Rk
namespace Rk
open PySem PySem.Spec PyProof.Rows L2
variable {P : Program} {w : World} {K : PySem.W.Frag} {mg : Str → Option Value} {base : Heap}
theorem stmR_len {p : Pg Nat} (h : PgS p) {ds : List (Str × Nat)} {st : Stm Nat} (a : AtSt p ds st) : (stmR (kindsOf p) p.fns st).length ≤ 100 := by
  have hd := h.s ds st a
  cases st with
  | lt x n s => exact Nat.le_trans (srcR_len (ds_of h.d a.sub hd)) (by decide)
  | pt x k s =>
    obtain ⟨n, hx, hk, hds⟩ := hd
    have := srcR_len (two := (x, k + 1)) (ds_of h.d a.sub hds)
    have := h.d.kw _ (a.sub _ (lookup_mem hx))
    unfold KN at this
    show ((preR x k ++ _) ++ _).length ≤ 100
    rw [List.length_append, List.length_append, preR_len]
    dsimp only at *
    simp only [List.length_cons, List.length_nil]
    omega
  | cl f ss =>
    obtain ⟨g, hg, hn, hl, hw⟩ := a.w h.d
    have e : stmR (kindsOf p) p.fns (.cl f ss) = parR (kindsOf p) g.ps ss := by show parR _ (psOf p.fns f) ss = _; rw [psOf_eq h.d hg hn]
    rw [e]
    obtain ⟨i, hi, w⟩ := fn_mem_get h.d hg
    have hd := hd g hg hn
    have : ∀ (ps : List (Str × Nat)) (ss : List Src), (∀ (i : Nat) q s, ps[i]? = some q → ss[i]? = some s → dSrc ds s q.2) → (parR (kindsOf p) ps ss).length ≤ 35 * ps.length := by
      intro ps
      induction ps with
      | nil => intro ss _; simp [parR]
      | cons q ps ih =>
        intro ss hss
        cases ss with
        | nil => simp [parR]
        | cons s ss =>
          have h1 := ih ss fun i q s hq hs => hss (i + 1) q s (by simpa using hq) (by simpa using hs)
          have h2 := srcR_len (two := (q.1, 1)) (ds_of h.d a.sub (hss 0 q s rfl rfl))
          simp only [parR, List.length_append, List.length_cons]
          omega
    have := this g.ps ss hd
    have := w.l
    omega
theorem parR_snoc {ks : List (Str × Nat)} : ∀ {ps : List (Str × Nat)} {ss : List Src} {i : Nat} {q : Str × Nat} {s : Src}, ps[i]? = some q → ss[i]? = some s → parR ks (ps.take (i + 1)) (ss.take (i + 1)) = parR ks (ps.take i) (ss.take i) ++ srcR ks s (q.1, 1)
  | [], _, _, _, _, h, _ => by simp at h
  | _ :: _, [], _, _, _, _, h => by simp at h
  | a :: ps, b :: ss, 0, q, s, h1, h2 => by
    simp at h1 h2; subst h1; subst h2
    simp [parR]
  | a :: ps, b :: ss, i + 1, q, s, h1, h2 => by
    rw [List.take_succ_cons, List.take_succ_cons, List.take_succ_cons, List.take_succ_cons]
    unfold parR
    rw [parR_snoc (by simpa using h1) (by simpa using h2), List.append_assoc]
theorem psOf_fm {p : Pg Nat} (d : PgD p) {f : Str} {g : Fn Nat} (hg : g ∈ p.fns) (h : g.name = f) : ∃ r, (p.fns.filterMap fun g => if g.name = f then some g.ps else none) = g.ps :: r := by
  have := find_name (names_nd d) hg h
  revert this
  generalize p.fns = fns
  induction fns with
  | nil => intro h; cases h
  | cons x xs ih =>
    intro h
    rw [List.find?_cons] at h
    by_cases e : x.name = f
    · rw [decide_eq_true e] at h
      cases h
      exact ⟨_, by rw [List.filterMap_cons, if_pos e]⟩
    · rw [decide_eq_false e] at h
      obtain ⟨r, hr⟩ := ih h
      exact ⟨r, by rw [List.filterMap_cons, if_neg e]; exact hr⟩
theorem ok_LawRules (T : Good K mg) : FnOk P w K mg base CX0 4 (He.ga K "_law_rules") (fdOf K (He.ga K "_law_rules")) ["_law_p", "_law_st"] spLawRules := by
  refine sp_ok (k := 3) (D_sLawRules T) S_sLawRules (fun a vs J H h => by obtain ⟨_, _, rfl, _⟩ := h; rfl) (fun cdv Ar outer s H0 vs E hr => ?_)
  refine ⟨_, (pss_cons (ps_set (i := 2) S_sLawRules.nd rfl (by first | exact Or.inl rfl | exact Or.inr rfl) (pe_call (ok_LawKinds T) (hr.mono (by omega)) rfl (g_law_kinds T) (D_sLawKinds T).kp (B_sLawKinds T) .nil pass0 (pa_cons (pv 0) pa_nil)))
  (pss_cons (ps_if (pt_cmpR op_eq (pe_ix (xT K) (pv 1) pe_int (fun _ _ => rfl)) pe_str (nomark _)) (pss_one (ps_set (i := 3) S_sLawRules.nd rfl (by first | exact Or.inl rfl | exact Or.inr rfl) (pe_call (ok_LawSourceRules T) (hr.mono (by omega)) rfl (g_law_source_rules T) (D_sLawSourceRules T).kp (B_sLawSourceRules T) .nil pass0 (pa_cons (pv 2) (pa_cons (pe_ix (xT K) (pv 1) pe_int (fun _ _ => rfl)) (pa_cons (pe_tup (pa_cons (pe_ix (xT K) (pv 1) pe_int (fun _ _ => rfl)) (pa_cons pe_int pa_nil))) pa_nil)))))) (pss_one (ps_if (pt_cmpR op_eq (pe_ix (xT K) (pv 1) pe_int (fun _ _ => rfl)) pe_str (nomark _)) (pss_cons (ps_asg (pe_ix (xT K) (pv 1) pe_int (fun _ _ => rfl)) (pgT K (n := 2) rfl (pgs_cons (pg_name (i := 4) S_sLawRules.nd rfl (by first | exact Or.inl rfl | exact Or.inr rfl)) (pgs_cons (pg_name (i := 5) S_sLawRules.nd rfl (by first | exact Or.inl rfl | exact Or.inr rfl)) pgs_nil))))
  (pss_cons (ps_set (i := 3) S_sLawRules.nd rfl (by first | exact Or.inl rfl | exact Or.inr rfl) (pe_op op_cat (pe_lc (own := [("_law_j", 10)]) (by rfl) S_sLawRules.nd (pi_range1 (by rfl) (f_range T) (pa_cons (pv 5) pa_nil)) (blkOk_by (own := [("_law_j", 10)]) (N := ["_law_p", "_law_st", "_law_kinds_here", "_law_out", "_law_x", "_law_k", "_law_params", "_law_rows", "_law_premises", "_law_claim", "_law_j", "_law_f"]) (sc := defScope sLawRules) (by decide +kernel)) (fun _ _ _ _ _ => (pg_name (i := 10) S_sLawRules.nd rfl (by first | exact Or.inl rfl | exact Or.inr rfl))) (fun _ _ _ _ _ => pts_nil) (fun _ _ _ _ _ => (pe_tup (pa_cons (pe_lst pa_nil) (pa_cons (pe_tup (pa_cons (pv 4) (pa_cons (pv 10) (pa_cons pe_str pa_nil)))) pa_nil))))) (pe_lst (pa_cons (pe_tup (pa_cons (pe_lst pa_nil) (pa_cons (pe_tup (pa_cons (pv 4) (pa_cons (pv 5) (pa_cons pe_str pa_nil)))) pa_nil))) pa_nil))))
  (pss_one (ps_set (i := 3) S_sLawRules.nd rfl (by first | exact Or.inl rfl | exact Or.inr rfl) (pe_op op_cat (pv 3) (pe_call (ok_LawSourceRules T) (hr.mono (by omega)) rfl (g_law_source_rules T) (D_sLawSourceRules T).kp (B_sLawSourceRules T) .nil pass0 (pa_cons (pv 2) (pa_cons (pe_ix (xT K) (pv 1) pe_int (fun _ _ => rfl)) (pa_cons (pe_tup (pa_cons (pv 4) (pa_cons (pe_op op_add (pv 5) pe_int) pa_nil))) pa_nil))))))))) (pss_cons (ps_set (i := 6) S_sLawRules.nd rfl (by first | exact Or.inl rfl | exact Or.inr rfl) (pe_ix (xL K) (pe_lc (own := [("_law_f", 11)]) (by rfl) S_sLawRules.nd (piL K (pe_ix (xL K) (pv 0) pe_int (fun _ _ => rfl))) (blkOk_by (own := [("_law_f", 11)]) (N := ["_law_p", "_law_st", "_law_kinds_here", "_law_out", "_law_x", "_law_k", "_law_params", "_law_rows", "_law_premises", "_law_claim", "_law_j", "_law_f"]) (sc := defScope sLawRules) (by decide +kernel)) (fun _ _ _ _ _ => (pg_name (i := 11) S_sLawRules.nd rfl (by first | exact Or.inl rfl | exact Or.inr rfl))) (fun _ _ _ _ _ => pts_one (pt_cmpR op_eq (pe_ix (xL K) (pv 11) pe_int (fun _ _ => rfl)) (pe_ix (xT K) (pv 1) pe_int (fun _ _ => rfl)) (nomark _))) (fun _ _ _ _ _ => (pe_ix (xL K) (pv 11) pe_int (fun _ _ => rfl)))) pe_int (fun _ _ => rfl)))
  (pss_cons (ps_set (i := 3) S_sLawRules.nd rfl (by first | exact Or.inl rfl | exact Or.inr rfl) (pe_lst pa_nil))
  (pss_one (ps_for PassesOwn.never rfl (pi_range1 (by rfl) (f_range T) (pa_cons (pe_callB (cLen K) (by rfl) (f_len T) (show bootBuiltins "len" = some (.builtin "len") by decide +kernel) (pa_cons (pv 6) pa_nil)) pa_nil)) (pg_name (i := 5) S_sLawRules.nd rfl (by first | exact Or.inl rfl | exact Or.inr rfl))
  (pss_one (ps_set (i := 3) S_sLawRules.nd rfl (by first | exact Or.inl rfl | exact Or.inr rfl) (pe_op op_cat (pv 3) (pe_call (ok_LawSourceRules T) (hr.mono (by omega)) rfl (g_law_source_rules T) (D_sLawSourceRules T).kp (B_sLawSourceRules T) .nil pass0 (pa_cons (pv 2) (pa_cons (pe_ix (xL K) (pe_ix (xT K) (pv 1) pe_int (fun _ _ => rfl)) (pv 5) (fun _ _ => rfl)) (pa_cons (pe_tup (pa_cons (pe_ix (xT K) (pe_ix (xL K) (pv 6) (pv 5) (fun _ _ => rfl)) pe_int (fun _ _ => rfl)) (pa_cons pe_int pa_nil))) pa_nil))))))))))))))
  (pss_cons (ps_set (i := 7) S_sLawRules.nd rfl (by first | exact Or.inl rfl | exact Or.inr rfl) (pe_lst pa_nil))
  (pss_cons (ps_for PassesOwn.never rfl (piL K (pv 3)) (pgT K (n := 2) rfl (pgs_cons (pg_name (i := 8) S_sLawRules.nd rfl (by first | exact Or.inl rfl | exact Or.inr rfl)) (pgs_cons (pg_name (i := 9) S_sLawRules.nd rfl (by first | exact Or.inl rfl | exact Or.inr rfl)) pgs_nil)))
  (pss_one (ps_if (pt_cmpR (oNinD K (units65 hr)) (pe_tup (pa_cons (pe_callTy (cTup K) (by rfl) (f_tuple T) (show bootBuiltins "tuple" = some (.type "tuple") by decide +kernel) (pa_cons (pv 8) pa_nil)) (pa_cons (pv 9) pa_nil))) (pv 7) (by rfl)) (pss_one (ps_expr (pe_bm PySem.F.plainAttrs_list PySem.F.slot_list_append PySem.F.type_list_append mt_append (pv 7) (pa_cons (pe_tup (pa_cons (pe_callTy (cTup K) (by rfl) (f_tuple T) (show bootBuiltins "tuple" = some (.type "tuple") by decide +kernel) (pa_cons (pv 8) pa_nil)) (pa_cons (pv 9) pa_nil))) pa_nil)))) pss_nil)))
  (pss_one (ps_ret (pe_lc (own := [("_law_premises", 8), ("_law_claim", 9)]) (by rfl) S_sLawRules.nd (piL K (pe_callB (cSortD K hr.units) (by rfl) (f_sorted T) (show bootBuiltins "sorted" = some (.builtin "sorted") by decide +kernel) (pa_cons (pv 7) pa_nil))) (blkOk_by (own := [("_law_premises", 8), ("_law_claim", 9)]) (N := ["_law_p", "_law_st", "_law_kinds_here", "_law_out", "_law_x", "_law_k", "_law_params", "_law_rows", "_law_premises", "_law_claim", "_law_j", "_law_f"]) (sc := defScope sLawRules) (by decide +kernel)) (fun _ _ _ _ _ => (pgT K (n := 2) rfl (pgs_cons (pg_name (i := 8) S_sLawRules.nd rfl (by first | exact Or.inl rfl | exact Or.inr rfl)) (pgs_cons (pg_name (i := 9) S_sLawRules.nd rfl (by first | exact Or.inl rfl | exact Or.inr rfl)) pgs_nil)))) (fun _ _ _ _ _ => pts_nil) (fun _ _ _ _ _ => (pe_tup (pa_cons (pe_callTy (cList K) (by rfl) (f_list T) (show bootBuiltins "list" = some (.type "list") by decide +kernel) (pa_cons (pv 8) pa_nil)) (pa_cons (pv 9) pa_nil))))))))))), ?_⟩
  rintro ⟨p, st, ds⟩ J0 Q G ⟨v1, v2, rfl, hp, hst, hS, hat⟩ kk
  dsimp only at *
  have zs := sizeLine_eq
  have hlen := stmR_len hS hat
  have hpl := stmR_pl hS hat
  have hd := hS.d
  have hdst := hS.s ds st hat
  walk_at "go"
  refine use_sp G (p, H0) ⟨_, rfl, hp, rfl, hd.knd, Nat.le_trans hd.kl (by decide), Nat.le_trans hd.w.l (by decide)⟩ (fun _ z => z.elim) ?_
  rintro v J1 H1 e1 g1 G1 ⟨d, kvs, rfl, hd0, md, hk⟩
  dsimp only at hd0 md hk
  have ek := ex_know (o := .dK kvs) md.j
  have G1k := G1.know md.j md.h hd0
  have hdk : upd J1 d (.dK kvs) d = some (.dK kvs) := upd_same
  have hkk := Up.up ek hk
  have e1k := e1.trans ek
  clear hk md e1 ek g1 G1
  generalize upd J1 d (.dK kvs) = J1k at *
  have hp := Up.up e1k hp
  have hst := Up.up e1k hst
  refine k_gname ?_
  refine k_nx ?_
  refine k_seqT (fun σ' H' => ∃ J' w4 w5 w6 w10 w11 lo xs, σ' = [some v1, some v2, some (.ref d), some (.ref lo), w4, w5, w6, none, none, none, w10, w11] ∧ Ex J1k J' ∧ Gr No J0 H0 J' H' ∧ J' lo = some (.lst xs) ∧ AllR rRule (stmR (kindsOf p) p.fns st) xs J') ?_ ?_
  · rintro σ' H' ⟨J2, w4, w5, w6, w10, w11, lo, xs, rfl, e2, G2, hlo, hxs⟩
    generalize stmR (kindsOf p) p.fns st = rsN at *
    walk_at "go"
    refine k_lstM G2 (by decide) ?_
    intro l H3 hl3 hl0 ml g3 G3
    walk_at "go"
    refine k_forL G3 hlo (fun i σ' J' H' => ∃ w8 w9 rs ac, σ' = [some v1, some v2, some (.ref d), some (.ref lo), w4, w5, w6, some (.ref l), w8, w9, w10, w11] ∧ Mu J' H' l (.lst ac) ∧ AllR rTRule rs ac J' ∧ (∀ r, r ∈ rs ↔ r ∈ rsN.take i) ∧ rs.length ≤ i) ⟨_, _, [], [], rfl, ml, AllR.nil, by simp, Nat.le_refl _⟩ ?_ ?_
    · rintro i x σ' J4 H4 hx e4 G4 ⟨w8, w9, rs, ac, rfl, ml4, hac, hmem, hrl⟩
      obtain ⟨r, hr, a, lv, cv, rfl, ha, ⟨pl, ps, rfl, hplv, hps⟩, hc⟩ := hxs.at hx
      have hi : i < rsN.length := (List.getElem?_eq_some_iff.mp hr).1
      have hrm := List.mem_of_getElem? hr
      have hacl := hac.1
      walk_at "go"
      rename_i P5 J5 H5 hP5 e5 hJ5 g5 G5 P6 J6 H6 hP6 e6 hJ6 g6 G6
      have ml6 := (ml4.up g5).up g6
      have hps6 := Up.up ((e4.trans e5).trans e6) hps
      have hc6 := Up.up ((e4.trans e5).trans e6) hc
      have hac6 := Up.up (e5.trans e6) hac
      have hr6 : rTRule r (.ref P6) J6 := ⟨P6, P5, cv, ps, rfl, hJ6, e6 _ _ hJ5, hps6, hc6⟩
      have hbd : ((rs.map pyRule).any fun z => PyData.eqv z (pyRule r)) = decide (r ∈ rs) := by
        rw [List.any_map]
        have : (fun z => PyData.eqv z (pyRule r)) ∘ pyRule = fun z => decide (z = r) := by
          funext z
          exact eqv_rule z r
        rw [this]
        by_cases q : r ∈ rs
        · rw [decide_eq_true q]
          exact List.any_eq_true.mpr ⟨r, q, by simp⟩
        · rw [decide_eq_false q]
          rw [List.any_eq_false]
          intro z hz e
          exact q ((show z = r by simpa using e) ▸ hz)
      refine k_ninD (d := pyRule r) (ds := rs.map pyRule) (dp_rule G6.jh hr6) (.lst (SqL.of ml6.h) (dp_all (fun d v h => dp_rule G6.jh h) hac6)) (shaped_of (lay_rule (ruleOk_of hd (hpl r hrm))) (Nat.le_trans dep_rule (by decide))) (shaped_of ?_ ?_) ?_
      · simp only [PyData.canLay0]
        exact lay_all fun q hq => lay_rule (ruleOk_of hd (hpl q (List.mem_of_mem_take ((hmem q).mp hq))))
      · simp only [PyData.depth]
        have := dep_all (n := 3) (f := pyRule) (ds := rs) fun q _ => dep_rule
        omega
      rw [hbd]
      have htk : rsN.take (i + 1) = rsN.take i ++ [r] := by rw [List.take_add_one, hr]; rfl
      walk_at "go"
      refine if2 (fun q => ?_) (fun q => ?_)
      · have q2 : ¬ r ∈ rs := by simpa using q
        walk_at "go"
        rename_i P7 J7 H7 hP7 e7 hJ7 g7 G7 P8 J8 H8 hP8 e8 hJ8 g8 G8
        have ml8 := (ml6.up g7).up g8
        refine k_app G8 ml8 (.inr hl0) (by omega) ?_
        intro H9 g9 G9 ml9
        walk_at "go"
        refine ⟨_, (((e4.trans e5).trans e6).trans e7).trans e8, G9, _, _, rs ++ [r], _, rfl, ml9, (Up.up (e7.trans e8) hac6).snoc ⟨P8, P7, cv, ps, rfl, hJ8, e8 _ _ hJ7, Up.up (e7.trans e8) hps6, Up.up (e7.trans e8) hc6⟩, ?_, by simp; omega⟩
        intro z
        rw [htk, List.mem_append, List.mem_append, hmem z]
      · have q2 : r ∈ rs := by simpa using q
        walk_at "go"
        refine ⟨_, (e4.trans e5).trans e6, G6, _, _, rs, ac, rfl, ml6, hac6, ?_, by omega⟩
        intro z
        rw [htk, List.mem_append, hmem z]
        constructor
        · exact .inl
        · rintro (z1 | z1)
          · exact z1
          · obtain rfl : z = r := by simpa using z1
            exact (hmem z).mp q2
    · rintro σ' J4 H4 e4 G4 ⟨w8, w9, rs, ac, rfl, ml4, hac, hmem, hrl⟩
      rw [hxs.1, List.take_of_length_le (Nat.le_refl _)] at hmem
      rw [hxs.1] at hrl
      walk_at "go"
      refine k_sortRules G4 ml4.h hac ?_
      intro P5 J5 H5 ys es hP5 e5 hJ5 hes hperm g5 G5
      have hpl2 := hperm.length_eq
      walk_at "go"
      refine k_lcFM (R := rTRule) (S := rRule) (fun r => some r) G5 hJ5 hes (by omega) ?_ ?_
      · intro r x J6 H6 Ny Nn hr hx e6 G6 hy hn
        obtain ⟨a, b, cv, zs, rfl, ha, hb, hzs, hc⟩ := hx
        walk_at "go"
        refine ⟨rfl, ?_⟩
        walk_at "go"
        refine k_lstOf G6 (.inr (by walk_at "get")) ?_
        intro P7 J7 H7 hP7 e7 hJ7 g7 G7
        walk_at "go"
        rename_i P8 J8 H8 hP8 e8 hJ8 g8 G8
        exact hy _ _ _ _ rfl (g7.trans g8) ⟨P8, .ref P7, cv, rfl, hJ8, ⟨P7, zs, rfl, e8 _ _ hJ7, Up.up (e7.trans e8) hzs⟩, Up.up (e7.trans e8) hc⟩
      · intro D acc J6 H6 hD e6 hDJ hacc g6 G6
        rw [List.filterMap_some] at hacc
        exact kk _ _ _ G6 ⟨es, ⟨D, acc, rfl, hDJ, hacc⟩, fun r => (hperm.mem_iff).trans (hmem r), by omega⟩
  · intro N hN
    have hdic : rDic rDp (kindsOf p) (.ref d) J1k := ⟨d, kvs, rfl, hdk, hkk⟩
    cases st with
    | lt x n s =>
      obtain ⟨a, kv, sv, rfl, ha, hkv, hs⟩ := hst
      walk_at "go"
      rename_i P2 J2 H2 hP2 e2 hJ2 g2 G2
      refine use_sp G2 (kindsOf p, s, (x, 1)) ⟨_, _, _, rfl, Up.up e2 hdic, Up.up e2 hs, ⟨P2, rfl, hJ2⟩, ds_of hd hat.sub hdst⟩ (fun _ z => z.elim) ?_
      rintro v J3 H3 e3 g3 G3 ⟨lo, xs, rfl, hlo, hxs⟩
      walk_at "go"
      exact hN _ _ ⟨J3, _, _, _, _, _, lo, xs, rfl, e2.trans e3, G3, hlo, hxs⟩
    | pt x k s =>
      obtain ⟨a, b, sv, rfl, ha, hb, hs⟩ := hst
      obtain ⟨n, hx, hk, hds⟩ := hdst
      have hn3 := hd.kw _ (hat.sub _ (lookup_mem hx))
      unfold KN at hn3
      dsimp only at hn3
      have hsl := srcR_len (two := (x, k + 1)) (ds_of hd hat.sub hds)
      walk_at "go"
      refine k_iR1E (by omega) ?_
      rw [Int.toNat_natCast]
      refine k_lcRg G1k (by omega) (fun i acc J => AllR rRule (preR x i) acc J) (fun i acc J1 J2 e h => Up.up e h) AllR.nil ?_ ?_
      · rintro i acc J2 H2 Ny Nn hi hl e2 G2 g2 inv hy hn
        walk_at "go"
        refine ⟨rfl, ?_⟩
        walk_at "go"
        refine k_lst G2 (by decide) ?_
        intro L3 J3 H3 hL3 e3 hJ3 g3 G3
        walk_at "go"
        rename_i L4 J4 H4 hL4 e4 hJ4 g4 G4 L5 J5 H5 hL5 e5 hJ5 g5 G5
        refine hy _ _ _ ((g3.trans g4).trans g5) ?_
        rw [preR_snoc]
        exact (Up.up ((e3.trans e4).trans e5) inv).snoc ⟨L5, .ref L3, .ref L4, rfl, hJ5, ⟨L3, [], rfl, e5 _ _ (e4 _ _ hJ3), AllR.nil⟩, ⟨L4, rfl, e5 _ _ hJ4⟩⟩
      · intro D acc J2 H2 hD e2 hDJ g2 G2 hl inv
        walk_at "go"
        refine k_lst G2 (by decide) ?_
        intro L3 J3 H3 hL3 e3 hJ3 g3 G3
        walk_at "go"
        rename_i L4 J4 H4 hL4 e4 hJ4 g4 G4 L5 J5 H5 hL5 e5 hJ5 g5 G5 L6 J6 H6 hL6 e6 hJ6 g6 G6
        refine k_cat G6 (by walk_at "get") (by walk_at "get") (by simp; omega) ?_
        intro L7 J7 H7 hL7 e7 hJ7 g7 G7
        have hpre : AllR rRule (preR x k ++ ([([], (x, k, lw))] : List Rule)) (acc ++ [V.ref L5]) J7 :=
          (Up.up ((((e3.trans e4).trans e5).trans e6).trans e7) inv).snoc ⟨L5, .ref L3, .ref L4, rfl, e7 _ _ (e6 _ _ hJ5), ⟨L3, [], rfl, e7 _ _ (e6 _ _ (e5 _ _ (e4 _ _ hJ3))), AllR.nil⟩, ⟨L4, rfl, e7 _ _ (e6 _ _ (e5 _ _ hJ4))⟩⟩
        have e27 : Ex J1k J7 := ((((e2.trans e3).trans e4).trans e5).trans e6).trans e7
        walk_at "go"
        rename_i L8 J8 H8 hL8 e8 hJ8 g8 G8
        refine use_sp G8 (kindsOf p, s, (x, k + 1)) ⟨_, _, _, rfl, Up.up (e27.trans e8) hdic, Up.up (e27.trans e8) hs, ⟨L8, rfl, hJ8⟩, ds_of hd hat.sub hds⟩ (fun _ z => z.elim) ?_
        rintro v J9 H9 e9 g9 G9 ⟨lo, xs, rfl, hlo, hxs⟩
        dsimp only at hxs
        walk_at "go"
        refine k_cat G9 (by walk_at "get") (by walk_at "get") (by rw [hxs.1]; simp; omega) ?_
        intro LA JA HA hLA eA hJA gA GA
        walk_at "go"
        exact hN _ _ ⟨JA, _, _, _, _, _, LA, _, rfl, ((e27.trans e8).trans e9).trans eA, GA, hJA, Up.up eA ((Up.up (e8.trans e9) hpre).append hxs)⟩
    | cl f ss =>
      obtain ⟨a, l, xs, rfl, ha, hl, hs⟩ := hst
      obtain ⟨g, hg, hgn, hgl, hgw⟩ := hat.w hd
      obtain ⟨r, hr⟩ := psOf_fm hd hg hgn
      obtain ⟨gi, hgi, gw⟩ := fn_mem_get hd hg
      have gwl := gw.l
      obtain ⟨pa, fv, mv, rfl, hpa, ⟨af, fx, rfl, haf, hfx⟩, hm⟩ := hp
      have hdg := hdst g hg hgn
      have eR : stmR (kindsOf p) p.fns (.cl f ss) = parR (kindsOf p) g.ps ss := by show parR _ (psOf p.fns f) ss = _; rw [psOf_eq hd hg hgn]
      rw [eR] at hN hlen
      walk_at "go"
      refine k_lcFM (R := rLFn rDp) (S := rLst (rPar rDp)) (fun g => if g.name = f then some g.ps else none) G1k haf hfx (by have := hd.w.l; omega) ?_ ?_
      · intro h x J2 H2 Ny Nn hh hx e2 G2 hy hn
        obtain ⟨c, pv, bv, rfl, hc, hpv, hbv⟩ := hx
        walk_at "go"
        refine ⟨rfl, ?_⟩
        walk_at "go"
        refine if2 (fun q => ?_) (fun q => ?_)
        · walk_at "go"
          have q2 : h.name = f := by simpa using q
          exact hy _ _ _ _ (if_pos q2) (Gr.refl G2.jh) hpv
        · have q2 : ¬ h.name = f := by simpa using q
          exact hn _ _ (if_neg q2) (Gr.refl G2.jh)
      · intro D acc J2 H2 hD e2 hDJ hacc g2 G2
        rw [hr] at hacc
        obtain ⟨pv, hpv0, b, ps, rfl, hb, hps⟩ := hacc.at' (i := 0) rfl
        walk_at "go"
        refine k_lst G2 (by decide) ?_
        intro L3 J3 H3 hL3 e3 hJ3 g3 G3
        walk_at "go"
        refine k_iR1E (by rw [hps.1]; omega) ?_
        rw [Int.toNat_natCast]
        refine k_forR G3 (fun i σ' J' H' => ∃ w5 lo xo, σ' = [some (.ref pa), some (.ref a), some (.ref d), some (.ref lo), none, w5, some (.ref b), none, none, none, none, none] ∧ J' lo = some (.lst xo) ∧ AllR rRule (parR (kindsOf p) (g.ps.take i) (ss.take i)) xo J' ∧ xo.length ≤ 35 * i) ⟨_, L3, [], rfl, hJ3, by simp [parR]; exact AllR.nil, by simp⟩ ?_ ?_
        · rintro i σ' J4 H4 hi e4 G4 ⟨w5, lo, xo, rfl, hlo, hxo, hxl⟩
          rw [hps.1] at hi
          have hp1 := List.getElem?_eq_getElem hi
          have hs1 : ss[i]? = some (ss[i]'(by omega)) := List.getElem?_eq_getElem _
          obtain ⟨px, hpx, cp, kv, rfl, hcp, rfl⟩ := hps.at' hp1
          obtain ⟨sx, hsx, hsr⟩ := hs.at' hs1
          have hsl := srcR_len (two := (g.ps[i].1, 1)) (ds_of hd hat.sub (hdg i _ _ hp1 hs1))
          walk_at "go"
          rename_i L5 J5 H5 hL5 e5 hJ5 g5 G5
          refine use_sp G5 (kindsOf p, ss[i]'(by omega), (g.ps[i].1, 1)) ⟨_, _, _, rfl, Up.up (((e2.trans e3).trans e4).trans e5) hdic, Up.up (((e2.trans e3).trans e4).trans e5) hsr, ⟨L5, rfl, hJ5⟩, ds_of hd hat.sub (hdg i _ _ hp1 hs1)⟩ (fun _ z => z.elim) ?_
          rintro v J6 H6 e6 g6 G6 ⟨ls, xs2, rfl, hls, hxs2⟩
          dsimp only at hxs2
          walk_at "go"
          refine k_cat G6 (by walk_at "get") (by walk_at "get") (by rw [hxs2.1]; omega) ?_
          intro L7 J7 H7 hL7 e7 hJ7 g7 G7
          walk_at "go"
          refine ⟨_, ((e4.trans e5).trans e6).trans e7, G7, _, L7, _, rfl, hJ7, ?_, by rw [List.length_append, hxs2.1]; omega⟩
          rw [parR_snoc hp1 hs1]
          exact Up.up e7 ((Up.up (e5.trans e6) hxo).append hxs2)
        · rintro σ' J4 H4 e4 G4 ⟨w5, lo, xo, rfl, hlo, hxo, hxl⟩
          rw [hps.1, List.take_of_length_le (Nat.le_refl _), List.take_of_length_le (by omega)] at hxo
          walk_at "go"
          exact hN _ _ ⟨J4, _, _, _, _, _, lo, xo, rfl, (e2.trans e3).trans e4, G4, hlo, hxo⟩
end Rk
namespace Rk
open PySem PySem.Spec PyProof.Rows L2
variable {P : Program} {w : World} {K : PySem.W.Frag} {mg : Str → Option Value} {base : Heap}
def rPlc (q : Str × Nat × Stm Nat) (v : V) (J : Hp) : Prop := ∃ a sv, v = .ref a ∧ J a = some (.tup [.str q.1, .int (q.2.1 : Int), sv]) ∧ rStm rDp q.2.2 sv J
instance (q : Str × Nat × Stm Nat) (v : V) : Up (rPlc q v) := ⟨fun e ⟨a, sv, h1, h2, h3⟩ => ⟨a, sv, h1, e _ _ h2, Up.up e h3⟩⟩
def plcB (f : Str) (b : List (Stm Nat)) : List (Str × Nat × Stm Nat) := (List.range b.length).filterMap fun k => b[k]?.map fun s => (f, k, s)
def placesOf (p : Pg Nat) : List (Str × Nat × Stm Nat) := (p.fns.map fun f => plcB f.name f.body).flatten ++ plcB "" p.main
theorem plcB_len (f : Str) (b : List (Stm Nat)) : (plcB f b).length ≤ b.length := by
  have := List.length_filterMap_le (fun k => b[k]?.map fun s => (f, k, s)) (List.range b.length)
  rw [List.length_range] at this
  exact this
theorem plcB_mem {f : Str} {b : List (Stm Nat)} {s : Stm Nat} : (∃ k : Nat, (f, k, s) ∈ plcB f b) ↔ ∃ i : Nat, b[i]? = some s := by
  unfold plcB
  constructor
  · rintro ⟨k, h⟩
    obtain ⟨i, hi, e⟩ := List.mem_filterMap.mp h
    cases e2 : b[i]? with
    | none => rw [e2] at e; cases e
    | some z =>
      rw [e2] at e
      have : z = s := by simpa using (Prod.mk.inj (Prod.mk.inj (Option.some.inj e)).2).2
      exact ⟨i, this ▸ e2⟩
  · rintro ⟨i, h⟩
    refine ⟨i, List.mem_filterMap.mpr ⟨i, List.mem_range.mpr (List.getElem?_eq_some_iff.mp h).1, by rw [h]; rfl⟩⟩
theorem plcB_name {f : Str} {b : List (Stm Nat)} {q : Str × Nat × Stm Nat} (h : q ∈ plcB f b) : ∃ i : Nat, b[i]? = some q.2.2 := by
  obtain ⟨i, hi, e⟩ := List.mem_filterMap.mp h
  cases e2 : b[i]? with
  | none => rw [e2] at e; cases e
  | some z =>
    rw [e2] at e
    obtain rfl : (f, i, z) = q := Option.some.inj e
    exact ⟨i, e2⟩
theorem places_at {p : Pg Nat} {q : Str × Nat × Stm Nat} (h : q ∈ placesOf p) : ∃ ds, AtSt p ds q.2.2 := by
  rcases List.mem_append.mp h with h | h
  · obtain ⟨l, hl, hq⟩ := List.mem_flatten.mp h
    obtain ⟨f, hf, rfl⟩ := List.mem_map.mp hl
    obtain ⟨i, hi⟩ := plcB_name hq
    exact ⟨_, .inl ⟨f, hf, i, hi, rfl⟩⟩
  · obtain ⟨i, hi⟩ := plcB_name h
    exact ⟨_, .inr ⟨i, hi, rfl⟩⟩
theorem at_places {p : Pg Nat} {ds : List (Str × Nat)} {st : Stm Nat} (h : AtSt p ds st) : ∃ q ∈ placesOf p, q.2.2 = st := by
  rcases h with ⟨f, hf, i, h1, _⟩ | ⟨i, h1, _⟩
  · obtain ⟨k, hk⟩ := plcB_mem.mpr ⟨i, h1⟩
    exact ⟨_, List.mem_append_left _ (List.mem_flatten.mpr ⟨_, List.mem_map_of_mem (f := fun f : Fn Nat => plcB f.name f.body) hf, hk⟩), rfl⟩
  · obtain ⟨k, hk⟩ := plcB_mem.mpr ⟨i, h1⟩
    exact ⟨_, List.mem_append_right _ hk, rfl⟩
theorem places_len {p : Pg Nat} (d : PgD p) : (placesOf p).length ≤ 16 := by
  have h1 : ∀ l : List (Fn Nat), (∀ f ∈ l, f.body.length ≤ 3) → ((l.map fun f => plcB f.name f.body).flatten).length ≤ 3 * l.length := by
    intro l
    induction l with
    | nil => intro _; simp
    | cons a r ih =>
      intro h
      have h2 := ih fun f hf => h f (List.mem_cons_of_mem _ hf)
      have h3 := h a List.mem_cons_self
      have h4 := plcB_len a.name a.body
      simp only [List.map_cons, List.flatten_cons, List.length_append, List.length_cons]
      omega
  have h2 := h1 p.fns fun f hf => by
    obtain ⟨i, _, w⟩ := fn_mem_get d hf
    exact w.l.2
  have h3 := plcB_len "" p.main
  have := d.w.l
  have := d.l
  unfold placesOf
  rw [List.length_append]
  omega
abbrev spLawPlaces : Sp := SpD (Pg Nat) (fun _ => No) (fun a vs J _ => ∃ v1, vs = [v1] ∧ rLPg rDp a v1 J ∧ PgD a) (fun a v J _ => rLst rPlc (placesOf a) v J)
theorem ok_LawPlaces (T : Good K mg) : FnOk P w K mg base CX0 1 (He.ga K "_law_places") (fdOf K (He.ga K "_law_places")) ["_law_p"] spLawPlaces := by
  refine sp_ok (k := 0) (D_sLawPlaces T) S_sLawPlaces (fun a vs J H h => by obtain ⟨_, rfl, _⟩ := h; rfl) (fun cdv Ar outer s H0 vs E hr => ?_)
  refine ⟨_, (pss_cons (ps_set (i := 1) S_sLawPlaces.nd rfl (by first | exact Or.inl rfl | exact Or.inr rfl) (pe_lst pa_nil))
  (pss_cons (ps_for PassesOwn.never rfl (piL K (pe_ix (xL K) (pv 0) pe_int (fun _ _ => rfl))) (pg_name (i := 2) S_sLawPlaces.nd rfl (by first | exact Or.inl rfl | exact Or.inr rfl))
  (pss_one (ps_expr (pe_bm PySem.F.plainAttrs_list PySem.F.slot_list_extend PySem.F.type_list_extend mt_extend (pv 1) (pa_cons (pe_lc (own := [("_law_k", 3)]) (by rfl) S_sLawPlaces.nd (pi_range1 (by rfl) (f_range T) (pa_cons (pe_callB (cLen K) (by rfl) (f_len T) (show bootBuiltins "len" = some (.builtin "len") by decide +kernel) (pa_cons (pe_ix (xL K) (pv 2) pe_int (fun _ _ => rfl)) pa_nil)) pa_nil)) (blkOk_by (own := [("_law_k", 3)]) (N := ["_law_p", "_law_out", "_law_f", "_law_k"]) (sc := defScope sLawPlaces) (by decide +kernel)) (fun _ _ _ _ _ => (pg_name (i := 3) S_sLawPlaces.nd rfl (by first | exact Or.inl rfl | exact Or.inr rfl))) (fun _ _ _ _ _ => pts_nil) (fun _ _ _ _ _ => (pe_tup (pa_cons (pe_ix (xL K) (pv 2) pe_int (fun _ _ => rfl)) (pa_cons (pv 3) (pa_cons (pe_ix (xL K) (pe_ix (xL K) (pv 2) pe_int (fun _ _ => rfl)) (pv 3) (fun _ _ => rfl)) pa_nil)))))) pa_nil)))))
  (pss_one (ps_ret (pe_op op_cat (pv 1) (pe_lc (own := [("_law_k", 3)]) (by rfl) S_sLawPlaces.nd (pi_range1 (by rfl) (f_range T) (pa_cons (pe_callB (cLen K) (by rfl) (f_len T) (show bootBuiltins "len" = some (.builtin "len") by decide +kernel) (pa_cons (pe_ix (xL K) (pv 0) pe_int (fun _ _ => rfl)) pa_nil)) pa_nil)) (blkOk_by (own := [("_law_k", 3)]) (N := ["_law_p", "_law_out", "_law_f", "_law_k"]) (sc := defScope sLawPlaces) (by decide +kernel)) (fun _ _ _ _ _ => (pg_name (i := 3) S_sLawPlaces.nd rfl (by first | exact Or.inl rfl | exact Or.inr rfl))) (fun _ _ _ _ _ => pts_nil) (fun _ _ _ _ _ => (pe_tup (pa_cons pe_str (pa_cons (pv 3) (pa_cons (pe_ix (xL K) (pe_ix (xL K) (pv 0) pe_int (fun _ _ => rfl)) (pv 3) (fun _ _ => rfl)) pa_nil))))))))))), ?_⟩
  rintro p J0 Q G ⟨v1, rfl, ⟨a, fv, mv, rfl, ha, ⟨af, fx, rfl, haf, hfx⟩, ⟨am, mx, rfl, ham, hmx⟩⟩, hd⟩ kk
  have zs := sizeLine_eq
  have hpl := places_len hd
  have hdl := hd.l
  walk_at "go"
  refine k_lstM G (by decide) ?_
  intro l H1 hl1 hl0 ml g1 G1
  walk_at "go"
  refine k_forL G1 haf (fun i σ' J' H' => ∃ w ac, σ' = [some (.ref a), some (.ref l), w, none] ∧ Mu J' H' l (.lst ac) ∧ AllR rPlc ((p.fns.take i).map fun f => plcB f.name f.body).flatten ac J' ∧ ac.length ≤ 3 * i) ⟨_, [], rfl, ml, AllR.nil, by simp⟩ ?_ ?_
  · rintro i x σ' J2 H2 hx e2 G2 ⟨w, ac, rfl, ml2, hac, hlen⟩
    obtain ⟨f, hf, c, pv, bv, rfl, hc, hpv, ⟨ab, bx, rfl, hab, hbx⟩⟩ := hfx.at hx
    have wf := (hd.w.f i f hf).l
    have hi : i < p.fns.length := (List.getElem?_eq_some_iff.mp hf).1
    have := hd.w.l
    walk_at "go"
    refine k_iR1E (by rw [hbx.1]; omega) ?_
    rw [Int.toNat_natCast]
    refine k_lcRM (S := rPlc) (fun k => f.body[k]?.map fun s => (f.name, k, s)) G2 (by rw [hbx.1]; omega) ?_ ?_
    · intro k J3 H3 Ny Nn hk e3 G3 hy hn
      rw [hbx.1] at hk
      have hp1 := List.getElem?_eq_getElem hk
      obtain ⟨sx, hsx, hsr⟩ := hbx.at' hp1
      walk_at "go"
      refine ⟨rfl, ?_⟩
      walk_at "go"
      rename_i P4 J4 H4 hP4 e4 hJ4 g4 G4
      exact hy (f.name, k, f.body[k]) _ _ _ (by rw [hp1]; rfl) g4 ⟨P4, sx, rfl, hJ4, Up.up ((e2.trans e3).trans e4) hsr⟩
    · intro D acc J3 H3 hD e3 hDJ hacc g3 G3
      have ml3 := ml2.up g3
      rw [hbx.1] at hacc
      have hal := hacc.1
      have hbl := plcB_len f.name f.body
      have hacc : AllR rPlc (plcB f.name f.body) acc J3 := hacc
      have hal := hacc.1
      walk_at "go"
      refine k_ext G3 ml3 (.inr hl0) (by walk_at "get") (by omega) ?_
      intro H4 g4 G4 ml4
      walk_at "go"
      refine ⟨_, e2.trans e3, G4, _, _, rfl, ml4, ?_, by simp; omega⟩
      rw [List.take_add_one, hf]
      simp only [Option.toList_some, List.map_append, List.flatten_append, List.map_cons, List.map_nil, List.flatten_cons, List.flatten_nil, List.append_nil]
      exact (Up.up e3 hac).append hacc
  · rintro σ' J2 H2 e2 G2 ⟨w, ac, rfl, ml2, hac, hlen⟩
    rw [hfx.1] at hlen
    rw [hfx.1, List.take_of_length_le (Nat.le_refl _)] at hac
    have := hd.w.l
    walk_at "go"
    refine k_iR1E (by rw [hmx.1]; omega) ?_
    rw [Int.toNat_natCast]
    refine k_lcRM (S := rPlc) (fun k => p.main[k]?.map fun s => ("", k, s)) G2 (by rw [hmx.1]; omega) ?_ ?_
    · intro k J3 H3 Ny Nn hk e3 G3 hy hn
      rw [hmx.1] at hk
      have hp1 := List.getElem?_eq_getElem hk
      obtain ⟨sx, hsx, hsr⟩ := hmx.at' hp1
      walk_at "go"
      refine ⟨rfl, ?_⟩
      walk_at "go"
      rename_i P4 J4 H4 hP4 e4 hJ4 g4 G4
      exact hy ("", k, p.main[k]) _ _ _ (by rw [hp1]; rfl) g4 ⟨P4, sx, rfl, hJ4, Up.up ((e2.trans e3).trans e4) hsr⟩
    · intro D acc J3 H3 hD e3 hDJ hacc g3 G3
      have ml3 := ml2.up g3
      rw [hmx.1] at hacc
      have hbl := plcB_len "" p.main
      have hacc : AllR rPlc (plcB "" p.main) acc J3 := hacc
      have hal := hacc.1
      walk_at "go"
      refine k_cat G3 ml3.h (by walk_at "get") (by omega) ?_
      intro L4 J4 H4 hL4 e4 hJ4 g4 G4
      exact kk _ _ _ G4 ⟨L4, _, rfl, hJ4, Up.up e4 ((Up.up e3 hac).append hacc)⟩
theorem runW_prem : ∀ (w : List Str) (s : WSt), (runW w s).1.length = s.1.length + w.length
  | [], s => rfl
  | l :: w, s => by
    show (runW w (stepW l s)).1.length = _
    rw [runW_prem w]
    unfold stepW
    split <;> simp <;> omega
theorem convR_prem {one two : Str × Nat} {n : Nat} : ∀ r ∈ convR one two n, r.1.length ≤ n := by
  intro r hr
  unfold convR at hr
  by_cases q : n = 0
  · rw [if_pos q] at hr; cases hr
  · rw [if_neg q] at hr
    obtain ⟨l, hl, hr⟩ := List.mem_flatten.mp hr
    obtain ⟨w, hw, rfl⟩ := List.mem_map.mp hl
    have h1 := (words_ok hw).1
    have h2 := runW_prem w ([], one, two)
    simp only [List.length_nil, Nat.zero_add] at h2
    unfold finR at hr
    simp only [List.mem_cons, List.not_mem_nil, or_false] at hr
    rcases hr with rfl | rfl
    · show (_ ++ _ : List Cl).length ≤ n
      rw [List.length_append, h2]; simp; omega
    · show (_ ++ _ : List Cl).length ≤ n
      rw [List.length_append, h2]; simp; omega
theorem kdAt_le {p : Pg Nat} (d : PgD p) (x : Str) : kdAt (kindsOf p) x ≤ 3 := by
  unfold kdAt
  cases e : (kindsOf p).lookup x with
  | none => exact Nat.zero_le _
  | some n => exact d.kw _ (lookup_mem e)
theorem preR_prem {x : Str} {k : Nat} : ∀ r ∈ preR x k, r.1.length ≤ 4 := by
  intro r hr
  obtain ⟨j, _, rfl⟩ := List.mem_map.mp hr
  exact Nat.zero_le _
theorem srcR_prem {p : Pg Nat} (d : PgD p) {s : Src} {two : Str × Nat} : ∀ r ∈ srcR (kindsOf p) s two, r.1.length ≤ 4 := by
  intro r hr
  cases s with
  | num n => cases hr
  | null => cases hr
  | val x k =>
    have := kdAt_le d x
    rcases List.mem_append.mp hr with h | h
    · rcases List.mem_append.mp h with h | h
      · exact preR_prem r h
      · obtain rfl : r = ([], (x, k, lr)) := by simpa using h
        exact Nat.zero_le _
    · have := convR_prem r h; omega
  | adr x k =>
    have := kdAt_le d x
    rcases List.mem_append.mp hr with h | h
    · exact preR_prem r h
    · have := convR_prem r h; omega
theorem parR_prem {p : Pg Nat} (d : PgD p) : ∀ {ps : List (Str × Nat)} {ss : List Src}, ∀ r ∈ parR (kindsOf p) ps ss, r.1.length ≤ 4
  | [], _, r, h => by simp [parR] at h
  | _ :: _, [], r, h => by simp [parR] at h
  | q :: ps, s :: ss, r, h => by
    rcases List.mem_append.mp h with h | h
    · exact srcR_prem d r h
    · exact parR_prem d r h
theorem stmR_prem {p : Pg Nat} (d : PgD p) {fns : List (Fn Nat)} {st : Stm Nat} : ∀ r ∈ stmR (kindsOf p) fns st, r.1.length ≤ 1000 := by
  intro r hr
  refine Nat.le_trans ?_ (show 4 ≤ 1000 by decide)
  cases st with
  | lt x n s => exact srcR_prem d r hr
  | pt x k s =>
    rcases List.mem_append.mp hr with h | h
    · rcases List.mem_append.mp h with h | h
      · exact preR_prem r h
      · obtain rfl : r = ([], (x, k, lw)) := by simpa using h
        exact Nat.zero_le _
    · exact srcR_prem d r h
  | cl f ss => exact parR_prem d r hr
abbrev spLawAllRules : Sp := SpD (Pg Nat) (fun _ => No) (fun a vs J _ => ∃ v1, vs = [v1] ∧ rLPg rDp a v1 J ∧ PgS a) (fun a v J _ => ∃ rs, rLst rRule rs v J ∧ (∀ ds st, AtSt a ds st → ∀ r ∈ stmR (kindsOf a) a.fns st, r ∈ rs) ∧ (∀ r ∈ rs, plOk (InP a) r ∧ r.1.length ≤ 1000) ∧ rs.length ≤ 16000)
theorem ok_LawAllRules (T : Good K mg) : FnOk P w K mg base CX0 5 (He.ga K "_law_all_rules") (fdOf K (He.ga K "_law_all_rules")) ["_law_p"] spLawAllRules := by
  refine sp_ok (k := 4) (D_sLawAllRules T) S_sLawAllRules (fun a vs J H h => by obtain ⟨_, rfl, _⟩ := h; rfl) (fun cdv Ar outer s H0 vs E hr => ?_)
  refine ⟨_, (pss_cons (ps_set (i := 1) S_sLawAllRules.nd rfl (by first | exact Or.inl rfl | exact Or.inr rfl) (pe_lst pa_nil))
  (pss_cons (ps_for PassesOwn.never rfl (piL K (pe_call (ok_LawPlaces T) (hr.mono (by omega)) rfl (g_law_places T) (D_sLawPlaces T).kp (B_sLawPlaces T) .nil pass0 (pa_cons (pv 0) pa_nil))) (pgT K (n := 3) rfl (pgs_cons (pg_name (i := 2) S_sLawAllRules.nd rfl (by first | exact Or.inl rfl | exact Or.inr rfl)) (pgs_cons (pg_name (i := 3) S_sLawAllRules.nd rfl (by first | exact Or.inl rfl | exact Or.inr rfl)) (pgs_cons (pg_name (i := 4) S_sLawAllRules.nd rfl (by first | exact Or.inl rfl | exact Or.inr rfl)) pgs_nil))))
  (pss_one (ps_expr (pe_bm PySem.F.plainAttrs_list PySem.F.slot_list_extend PySem.F.type_list_extend mt_extend (pv 1) (pa_cons (pe_call (ok_LawRules T) (hr.mono (by omega)) rfl (g_law_rules T) (D_sLawRules T).kp (B_sLawRules T) .nil pass0 (pa_cons (pv 0) (pa_cons (pv 4) pa_nil))) pa_nil)))))
  (pss_one (ps_ret (pv 1))))), ?_⟩
  rintro p J0 Q G ⟨v1, rfl, hp, hS⟩ kk
  have zs := sizeLine_eq
  have hpl := places_len hS.d
  walk_at "go"
  refine k_lstM G (by decide) ?_
  intro l H1 hl1 hl0 ml g1 G1
  walk_at "go"
  refine use_sp G1 p ⟨_, rfl, hp, hS.d⟩ (fun _ z => z.elim) ?_
  rintro v J2 H2 e2 g2 G2 ⟨lp, xp, rfl, hlp, hxp⟩
  have ml2 := ml.up g2
  walk_at "go"
  refine k_forL G2 hlp (fun i σ' J' H' => ∃ w w' w'' ac rs, σ' = [some v1, some (.ref l), w, w', w''] ∧ Mu J' H' l (.lst ac) ∧ AllR rRule rs ac J' ∧ (∀ q ∈ (placesOf p).take i, ∀ r ∈ stmR (kindsOf p) p.fns q.2.2, r ∈ rs) ∧ (∀ r ∈ rs, plOk (InP p) r ∧ r.1.length ≤ 1000) ∧ rs.length ≤ 1000 * i) ⟨_, _, _, [], [], rfl, ml2, AllR.nil, by simp, by simp, by simp⟩ ?_ ?_
  · rintro i x σ' J3 H3 hx e3 G3 ⟨w, w', w'', ac, rs, rfl, ml3, hac, hin, hok, hlen⟩
    obtain ⟨q, hq, a, sv, rfl, ha, hsv⟩ := hxp.at hx
    have hi : i < (placesOf p).length := (List.getElem?_eq_some_iff.mp hq).1
    obtain ⟨ds, hat⟩ := places_at (List.mem_of_getElem? hq)
    have hacl := hac.1
    walk_at "go"
    refine use_sp G3 ⟨p, q.2.2, ds⟩ ⟨_, _, rfl, Up.up (e2.trans e3) hp, Up.up e3 hsv, hS, hat⟩ (fun _ z => z.elim) ?_
    rintro v J4 H4 e4 g4 G4 ⟨rs2, ⟨lr2, xr2, rfl, hlr2, hxr2⟩, hiff, hl2⟩
    dsimp only at hiff
    have ml4 := ml3.up g4
    have hx2l := hxr2.1
    walk_at "go"
    refine k_ext G4 ml4 (.inr hl0) (by walk_at "get") (by omega) ?_
    intro H5 g5 G5 ml5
    walk_at "go"
    refine ⟨_, e3.trans e4, G5, _, _, _, _, rs ++ rs2, rfl, ml5, (Up.up e4 hac).append hxr2, ?_, ?_, by simp; omega⟩
    · intro z hz r hr
      rw [List.take_add_one, hq] at hz
      rcases List.mem_append.mp hz with h | h
      · exact List.mem_append_left _ (hin z h r hr)
      · obtain rfl : z = q := by simpa using h
        exact List.mem_append_right _ ((hiff r).mpr hr)
    · intro r hr
      rcases List.mem_append.mp hr with h | h
      · exact hok r h
      · exact ⟨stmR_pl hS hat r ((hiff r).mp h), stmR_prem hS.d r ((hiff r).mp h)⟩
  · rintro σ' J3 H3 e3 G3 ⟨w, w', w'', ac, rs, rfl, ml3, hac, hin, hok, hlen⟩
    rw [hxp.1] at hlen
    rw [hxp.1, List.take_of_length_le (Nat.le_refl _)] at hin
    walk_at "go"
    refine kk _ _ _ (G3.know ml3.j ml3.h hl0) ⟨rs, ⟨l, ac, rfl, upd_same, Up.up (ex_know ml3.j) hac⟩, fun ds st hat r hr => ?_, hok, by omega⟩
    obtain ⟨q, hq, rfl⟩ := at_places hat
    exact hin q hq r hr
def clK (c : Cl) : List Key := [Sum.inr c.1, Sum.inl (c.2.1 : Int), Sum.inr c.2.2]
theorem clK_inj {a b : Cl} (h : clK a = clK b) : a = b := by
  obtain ⟨a1, a2, a3⟩ := a
  obtain ⟨b1, b2, b3⟩ := b
  simp only [clK, List.cons.injEq, Sum.inr.injEq, Sum.inl.injEq] at h
  obtain ⟨rfl, h2, rfl, _⟩ := h
  have : a2 = b2 := by omega
  rw [this]
/-- the dict of the found claims -/
def FdR (fs : List Cl) (kvs : List (List Key × V)) : Prop := kvs.map (·.1) = fs.map clK
theorem FdR.has {fs : List Cl} {kvs : List (List Key × V)} (h : FdR fs kvs) (c : Cl) : (valV kvs (clK c)).isSome = decide (c ∈ fs) := by
  rw [← valV_any]
  by_cases q : c ∈ fs
  · rw [decide_eq_true q]
    have : clK c ∈ kvs.map (·.1) := by rw [show kvs.map (·.1) = fs.map clK from h]; exact List.mem_map_of_mem q
    obtain ⟨z, hz, e⟩ := List.mem_map.mp this
    exact List.any_eq_true.mpr ⟨z, hz, by simpa using e⟩
  · rw [decide_eq_false q, List.any_eq_false]
    intro z hz e
    have : z.1 ∈ fs.map clK := by rw [← show kvs.map (·.1) = fs.map clK from h]; exact List.mem_map_of_mem hz
    obtain ⟨c', hc', e'⟩ := List.mem_map.mp this
    have e : z.1 = clK c := by simpa using e
    exact q (clK_inj (e'.trans e) ▸ hc')
theorem FdR.put {fs : List Cl} {kvs : List (List Key × V)} (h : FdR fs kvs) {c : Cl} (hc : c ∉ fs) (v : V) : FdR (fs ++ [c]) (putK kvs (clK c) v) := by
  have h1 := h.has c
  rw [decide_eq_false hc, ← valV_any] at h1
  unfold putK
  rw [if_neg (by rw [h1]; decide)]
  unfold FdR
  rw [List.map_append, List.map_append, show kvs.map (·.1) = fs.map clK from h]
  rfl
theorem FdR.len {fs : List Cl} {kvs : List (List Key × V)} (h : FdR fs kvs) : kvs.length = fs.length := by
  have := congrArg List.length (show kvs.map (·.1) = fs.map clK from h)
  simpa using this
end Rk
namespace Rk
open PySem PySem.Spec PyProof.Rows L2
variable {P : Program} {w : World} {K : PySem.W.Frag} {mg : Str → Option Value} {base : Heap}
structure ClD where
  fd : Addr
  fs : List Cl
  rs : List Rule
  uni : List Cl
abbrev spLawClosed : Sp := SpD ClD (fun d b => b = d.fd) (fun d vs J H => ∃ v1 v2, vs = [v1, v2] ∧ v1 = .ref d.fd ∧ rLst rRule d.rs v2 J ∧ (∃ kvs, Mu J H d.fd (.dT kvs) ∧ FdR d.fs kvs) ∧ d.fs.Nodup ∧ (∀ c ∈ d.fs, c ∈ d.uni) ∧ (∀ r ∈ d.rs, r.2 ∈ d.uni) ∧ d.uni.length < 400 ∧ d.rs.length ≤ 100000 ∧ ∀ r ∈ d.rs, r.1.length ≤ 1000)
  (fun d v J H => v = .ref d.fd ∧ ∃ fs kvs, Mu J H d.fd (.dT kvs) ∧ FdR fs kvs ∧ Closed (fun c => decide (c ∈ fs)) d.rs)
theorem nd_of {P : Prop} [Decidable P] (h : (!decide P) = false) : P := by
  by_cases q : P
  · exact q
  · rw [decide_eq_false q] at h; cases h
theorem nodup_len {α : Type} [DecidableEq α] : ∀ {l m : List α}, l.Nodup → (∀ x ∈ l, x ∈ m) → l.length ≤ m.length
  | [], _, _, _ => Nat.zero_le _
  | a :: l, m, h, hs => by
    rw [List.nodup_cons] at h
    have h1 : ∀ x ∈ l, x ∈ m.erase a := fun x hx => by
      refine (List.mem_erase_of_ne ?_).mpr (hs x (List.mem_cons_of_mem _ hx))
      rintro rfl
      exact h.1 hx
    have h2 := nodup_len h.2 h1
    have h3 := List.length_erase_of_mem (hs a List.mem_cons_self)
    have h4 : 0 < m.length := List.length_pos_of_mem (hs a List.mem_cons_self)
    rw [List.length_cons]
    omega
theorem ok_LawClosed (T : Good K mg) : FnOk P w K mg base CX0 1 (He.ga K "_law_closed") (fdOf K (He.ga K "_law_closed")) ["_law_found", "_law_told_here"] spLawClosed := by
  refine sp_ok (k := 0) (D_sLawClosed T) S_sLawClosed (fun a vs J H h => by obtain ⟨_, _, rfl, _⟩ := h; rfl) (fun cdv Ar outer s H0 vs E hr => ?_)
  refine ⟨_, (pss_cons (ps_for PassesOwn.never rfl (pi_range1 (by rfl) (f_range T) (pa_cons pe_int pa_nil)) (pg_name (i := 2) S_sLawClosed.nd rfl (by first | exact Or.inl rfl | exact Or.inr rfl))
  (pss_cons (ps_set (i := 3) S_sLawClosed.nd rfl (by first | exact Or.inl rfl | exact Or.inr rfl) (pe_callB call_len_dT (by rfl) (f_len T) (show bootBuiltins "len" = some (.builtin "len") by decide +kernel) (pa_cons (pv 0) pa_nil)))
  (pss_cons (ps_for PassesOwn.never rfl (piL K (pv 1)) (pgT K (n := 2) rfl (pgs_cons (pg_name (i := 4) S_sLawClosed.nd rfl (by first | exact Or.inl rfl | exact Or.inr rfl)) (pgs_cons (pg_name (i := 5) S_sLawClosed.nd rfl (by first | exact Or.inl rfl | exact Or.inr rfl)) pgs_nil)))
  (pss_one (ps_if (PW.pt (pw_and (pt_cmp (pc_dnotin (hu_of hr) (pv 5) (pv 0))) (pw_and1 (pt_cmpR op_eq (pe_callB (cLen K) (by rfl) (f_len T) (show bootBuiltins "len" = some (.builtin "len") by decide +kernel) (pa_cons (pe_lc (own := [("_law_premise", 6)]) (by rfl) S_sLawClosed.nd (piL K (pv 4)) (blkOk_by (own := [("_law_premise", 6)]) (N := ["_law_found", "_law_told_here", "_law_turn", "_law_before", "_law_premises", "_law_claim", "_law_premise"]) (sc := defScope sLawClosed) (by decide +kernel)) (fun _ _ _ _ _ => (pg_name (i := 6) S_sLawClosed.nd rfl (by first | exact Or.inl rfl | exact Or.inr rfl))) (fun _ _ _ _ _ => pts_one (pt_cmp (pc_dnotin (hu_of hr) (pv 6) (pv 0)))) (fun _ _ _ _ _ => (pv 6))) pa_nil)) pe_int (nomark _))))) (pss_one (ps_dput (hu_of hr) (pv 0) (pv 5) pe_bl rfl)) pss_nil)))
  (pss_one (ps_if (pt_cmpR op_eq (pe_callB call_len_dT (by rfl) (f_len T) (show bootBuiltins "len" = some (.builtin "len") by decide +kernel) (pa_cons (pv 0) pa_nil)) (pv 3) (nomark _)) (pss_one (ps_ret (pv 0))) pss_nil)))))
  (pss_one (ps_ret (pv 0)))), ?_⟩
  rintro ⟨fd, fs, rs, uni⟩ J0 Q G ⟨_, _, rfl, rfl, ⟨lo, xs, rfl, hlo, hxs⟩, ⟨kvs, mf, hf⟩, hnd, hsub, hru, hul, hrl, hpr⟩ kk
  dsimp only at *
  have zs := sizeLine_eq
  walk_at "go"
  refine k_iR1E (n := 400) (by decide) ?_
  rw [Int.toNat_natCast]
  refine k_forR G (fun t σ' J' H' => ∃ w2 w3 w4 w5 fs kvs, σ' = [some (.ref fd), some (.ref lo), w2, w3, w4, w5, none] ∧ Mu J' H' fd (.dT kvs) ∧ FdR fs kvs ∧ fs.Nodup ∧ (∀ c ∈ fs, c ∈ uni) ∧ t ≤ fs.length) ⟨_, _, _, _, fs, kvs, rfl, mf, hf, hnd, hsub, Nat.zero_le _⟩ ?_ ?_
  · rintro t σ' J1 H1 ht e1 G1 ⟨w2, w3, w4, w5, fs, kvs, rfl, mf1, hf1, hnd1, hsub1, htl⟩
    walk_at "go"
    have hxs1 := Up.up e1 hxs
    refine k_forL G1 (e1 _ _ hlo) (fun i σ' J' H' => ∃ w4 w5 ex kvs2, σ' = [some (.ref fd), some (.ref lo), some (.int (t : Int)), some (.int (kvs.length : Int)), w4, w5, none] ∧ Mu J' H' fd (.dT kvs2) ∧ FdR (fs ++ ex) kvs2 ∧ (fs ++ ex).Nodup ∧ (∀ c ∈ fs ++ ex, c ∈ uni) ∧ (ex = [] → ∀ r ∈ rs.take i, (∀ q ∈ r.1, q ∈ fs) → r.2 ∈ fs)) ⟨_, _, [], kvs, rfl, mf1, by simpa using hf1, by simpa using hnd1, by simpa using hsub1, by simp⟩ ?_ ?_
    · rintro i x σ' J2 H2 hx e2 G2 ⟨w4, w5, ex, kvs2, rfl, mf2, hf2, hnd2, hsub2, hcl⟩
      obtain ⟨r, hr, a, lv, cv, rfl, ha, ⟨pl, ps, rfl, hplv, hps⟩, ⟨ca, rfl, hca⟩⟩ := hxs1.at hx
      have hrm := List.mem_of_getElem? hr
      have htk : rs.take (i + 1) = rs.take i ++ [r] := by rw [List.take_add_one, hr]; rfl
      have hcu := hru r hrm
      have hlf := nodup_len hnd2 hsub2
      have hkl := hf2.len
      have skip : (ex = [] → (∀ q ∈ r.1, q ∈ fs) → r.2 ∈ fs) → (ex = [] → ∀ z ∈ rs.take (i + 1), (∀ q ∈ z.1, q ∈ fs) → z.2 ∈ fs) := by
        intro h he z hz hq
        rw [htk] at hz
        rcases List.mem_append.mp hz with z1 | z1
        · exact hcl he z z1 hq
        · obtain rfl : z = r := by simpa using z1
          exact h he hq
      walk_at "go"
      refine k_dninT (x := clK r.2) mf2.h (by walk_at "get") ?_
      rw [hf2.has]
      walk_at "go"
      refine if2 (fun q => ?_) (fun q => ?_)
      · have q2 : r.2 ∉ fs ++ ex := by simpa using q
        walk_at "go"
        refine k_lcLg G2 (by walk_at "get") (by have := hpr r hrm; rw [hps.1]; omega) (fun j acc _ => (acc.length = 0 ↔ ∀ q ∈ r.1.take j, q ∈ fs ++ ex)) (fun _ _ _ _ _ h => h) (by simp) ?_ ?_
        · intro j y acc J3 H3 Ny Nn hy hl e3 G3 g3 inv hyy hnn
          obtain ⟨c, hc, cb, rfl, hcb⟩ := hps.at hy
          have mf3 := mf2.up g3
          have htk2 : r.1.take (j + 1) = r.1.take j ++ [c] := by rw [List.take_add_one, hc]; rfl
          walk_at "go"
          refine ⟨rfl, ?_⟩
          walk_at "go"
          refine k_dninT (x := clK c) mf3.h (by walk_at "get") ?_
          rw [hf2.has]
          walk_at "go"
          refine if2 (fun q => ?_) (fun q => ?_)
          · have q3 : c ∉ fs ++ ex := by simpa using q
            walk_at "go"
            refine hyy _ _ _ (Gr.refl G3.jh) ?_
            rw [htk2]
            constructor
            · intro h; simp at h
            · intro h; exact absurd (h c (List.mem_append_right _ (by simp))) q3
          · have q3 : c ∈ fs ++ ex := nd_of q
            refine hnn _ _ (Gr.refl G3.jh) ?_
            rw [htk2, inv]
            constructor
            · intro h z hz
              rcases List.mem_append.mp hz with z1 | z1
              · exact h z z1
              · obtain rfl : z = c := by simpa using z1
                exact q3
            · intro h z hz
              exact h z (List.mem_append_left _ hz)
        · intro D acc J3 H3 hD e3 hDJ g3 G3 hl inv
          rw [hps.1, List.take_of_length_le (Nat.le_refl _)] at inv
          have mf3 := mf2.up g3
          walk_at "go"
          refine if2 (fun q => ?_) (fun q => ?_)
          · walk_at "go"
            refine k_dputT G3 mf3 (.inl rfl) (x := clK r.2) (by walk_at "get") (by omega) ?_
            intro H4 g4 G4 mf4
            walk_at "go"
            refine ⟨_, e2.trans e3, G4, _, _, ex ++ [r.2], _, rfl, mf4, ?_, ?_, ?_, ?_⟩
            · rw [← List.append_assoc]; exact hf2.put q2 _
            · rw [← List.append_assoc]
              refine List.nodup_append.mpr ⟨hnd2, by simp, ?_⟩
              rintro a ha b hb rfl
              obtain rfl : a = r.2 := by simpa using hb
              exact q2 ha
            · rw [← List.append_assoc]
              intro c hc
              rcases List.mem_append.mp hc with z | z
              · exact hsub2 c z
              · obtain rfl : c = r.2 := by simpa using z
                exact hcu
            · intro h; simp at h
          · have q3 : ¬ ∀ q ∈ r.1, q ∈ fs ++ ex := by
              intro h
              have h1 := inv.mpr h
              have q : decide (V.int (acc.length : Int) = V.int 0) = false := q
              rw [h1] at q
              exact absurd q (by decide)
            walk_at "go"
            refine ⟨_, e2.trans e3, G3, _, _, ex, _, rfl, mf3, hf2, hnd2, hsub2, skip fun he h => ?_⟩
            subst he
            rw [List.append_nil] at q3
            exact absurd h q3
      · have q2 : r.2 ∈ fs ++ ex := nd_of q
        walk_at "go"
        refine ⟨_, e2, G2, _, _, ex, _, rfl, mf2, hf2, hnd2, hsub2, skip fun he h => ?_⟩
        subst he
        rw [List.append_nil] at q2
        exact q2
    · rintro σ' J2 H2 e2 G2 ⟨w4, w5, ex, kvs2, rfl, mf2, hf2, hnd2, hsub2, hcl⟩
      rw [hxs.1, List.take_of_length_le (Nat.le_refl _)] at hcl
      have hl1 := hf1.len
      have hl2 := hf2.len
      rw [List.length_append] at hl2
      walk_at "go"
      refine if2 (fun q => ?_) (fun q => ?_)
      · have q2 : kvs2.length = kvs.length := by simp at q; omega
        have hex : ex = [] := List.length_eq_zero_iff.mp (by omega)
        subst hex
        walk_at "go"
        rw [List.append_nil] at hf2
        refine kk _ _ _ G2 ⟨rfl, fs, kvs2, mf2, hf2, fun r hr h => ?_⟩
        have := hcl rfl r hr fun q hq => by simpa using h q hq
        simpa using this
      · have q2 : ¬ kvs2.length = kvs.length := by simp at q; omega
        walk_at "go"
        exact ⟨_, e1.trans e2, G2, _, _, _, _, fs ++ ex, kvs2, rfl, mf2, hf2, hnd2, hsub2, by rw [List.length_append]; omega⟩
  · rintro σ' J1 H1 e1 G1 ⟨w2, w3, w4, w5, fs, kvs, rfl, mf1, hf1, hnd1, hsub1, htl⟩
    have := nodup_len hnd1 hsub1
    omega
end Rk
namespace Rk
open PySem PySem.Spec PyProof.Rows L2
variable {P : Program} {w : World} {K : PySem.W.Frag} {mg : Str → Option Value} {base : Heap}
def rSt (s : Str) (v : V) (_ : Hp) : Prop := v = .str s
instance (s : Str) (v : V) : Up (rSt s v) := ⟨fun _ h => h⟩
def ClG (p : Pg Nat) (c : Cl) : Prop := InP p (c.1, c.2.1) ∧ (c.2.2 = lr ∨ c.2.2 = lw)
abbrev spLawClaims : Sp := SpD (Pg Nat) (fun _ => No) (fun a vs J _ => ∃ v1, vs = [v1] ∧ rLPg rDp a v1 J ∧ PgD a) (fun a v J _ => ∃ cs, rLst rCl cs v J ∧ (∀ c ∈ cs, ClG a c) ∧ cs.length ≤ 1000)
theorem ok_LawClaims (T : Good K mg) : FnOk P w K mg base CX0 2 (He.ga K "_law_claims") (fdOf K (He.ga K "_law_claims")) ["_law_p"] spLawClaims := by
  refine sp_ok (k := 1) (D_sLawClaims T) S_sLawClaims (fun a vs J H h => by obtain ⟨_, rfl, _⟩ := h; rfl) (fun cdv Ar outer s H0 vs E hr => ?_)
  refine ⟨_, (pss_cons (ps_set (i := 1) S_sLawClaims.nd rfl (by first | exact Or.inl rfl | exact Or.inr rfl) (pe_call (ok_LawKinds T) (hr.mono (by omega)) rfl (g_law_kinds T) (D_sLawKinds T).kp (B_sLawKinds T) .nil pass0 (pa_cons (pv 0) pa_nil)))
  (pss_cons (ps_set (i := 2) S_sLawClaims.nd rfl (by first | exact Or.inl rfl | exact Or.inr rfl) (pe_lst pa_nil))
  (pss_cons (ps_lock (ps_for PassesOwn.never rfl (pi_keys (pv 1)) (pg_name (i := 3) S_sLawClaims.nd rfl (by first | exact Or.inl rfl | exact Or.inr rfl))
  (pss_one (ps_for PassesOwn.never rfl (pi_range1 (by rfl) (f_range T) (pa_cons (pe_op op_add (pe_dget (hu_of hr) (pv 1) (pv 3) (fun _ _ => rfl)) pe_int) pa_nil)) (pg_name (i := 4) S_sLawClaims.nd rfl (by first | exact Or.inl rfl | exact Or.inr rfl))
  (pss_one (ps_expr (pe_bm PySem.F.plainAttrs_list PySem.F.slot_list_extend PySem.F.type_list_extend mt_extend (pv 2) (pa_cons (pe_lc (own := [("_law_letter", 5)]) (by rfl) S_sLawClaims.nd (piL K (pe_lst (pa_cons pe_str (pa_cons pe_str pa_nil)))) (blkOk_by (own := [("_law_letter", 5)]) (N := ["_law_p", "_law_kinds_here", "_law_out", "_law_x", "_law_level", "_law_letter"]) (sc := defScope sLawClaims) (by decide +kernel)) (fun _ _ _ _ _ => (pg_name (i := 5) S_sLawClaims.nd rfl (by first | exact Or.inl rfl | exact Or.inr rfl))) (fun _ _ _ _ _ => pts_nil) (fun _ _ _ _ _ => (pe_tup (pa_cons (pv 3) (pa_cons (pv 4) (pa_cons (pv 5) pa_nil)))))) pa_nil))))))))
  (pss_one (ps_ret (pv 2)))))), ?_⟩
  rintro p J0 Q G ⟨v1, rfl, hp, hd⟩ kk
  have zs := sizeLine_eq
  have hkl := hd.kl
  walk_at "go"
  refine use_sp G (p, H0) ⟨_, rfl, hp, rfl, hd.knd, Nat.le_trans hd.kl (by decide), Nat.le_trans hd.w.l (by decide)⟩ (fun _ z => z.elim) ?_
  rintro v J1 H1 e1 g1 G1 ⟨d, kvs, rfl, hd0, md, hk⟩
  dsimp only at *
  walk_at "go"
  refine k_lstM G1 (by decide) ?_
  intro l H2 hl1 hl0 ml g2 G2
  have hdl : ¬ d = l := md.nen hl1
  have md2 := md.up g2
  walk_at "go"
  refine k_lock G2 md2 (.inr hd0) ?_
  intro od H3 g3 G3 md3
  have ml3 := ml.step g3 (fun e => hdl e.symm)
  walk_at "go"
  refine k_forK G3 md3 (fun i σ' J' H' => ∃ w3 w4 ac cs, σ' = [some v1, some (.ref d), some (.ref l), w3, w4, none] ∧ Mu J' H' l (.lst ac) ∧ AllR rCl cs ac J' ∧ (∀ c ∈ cs, ClG p c) ∧ cs.length ≤ 8 * i) ⟨_, _, [], [], rfl, ml3, AllR.nil, by simp, by simp⟩ ?_ ?_
  · rintro i key v σ' J4 H4 hkv e4 G4 md4 ⟨w3, w4, ac, cs, rfl, ml4, hac, hok, hlen⟩
    obtain ⟨q, hq, rfl, hv, rfl, hnew⟩ := entR_at hk hd.knd hkv
    have hqm := List.mem_of_getElem? hq
    have hq3 := hd.kw q hqm
    unfold KN at hq3
    have hi : i < (kindsOf p).length := (List.getElem?_eq_some_iff.mp hq).1
    dsimp only [kV]
    walk_at "go"
    rw [show ((q.2 : Int) + 1) = ((q.2 + 1 : Nat) : Int) from rfl]
    refine k_iR1E (by omega) ?_
    rw [Int.toNat_natCast]
    refine k_forR G4 (fun j σ' J' H' => ∃ w4 ac cs, σ' = [some v1, some (.ref d), some (.ref l), some (.str q.1), w4, none] ∧ Mu J' H' d (.frz od (.dK kvs)) ∧ Mu J' H' l (.lst ac) ∧ AllR rCl cs ac J' ∧ (∀ c ∈ cs, ClG p c) ∧ cs.length ≤ 8 * i + 2 * j) ⟨_, ac, cs, rfl, md4, ml4, hac, hok, by omega⟩ ?_ ?_
    · rintro j σ' J5 H5 hj e5 G5 ⟨w4, ac, cs, rfl, md5, ml5, hac, hok, hlen⟩
      have hal := hac.1
      walk_at "go"
      rename_i P6 J6 H6 hP6 e6 hJ6 g6 G6
      refine k_lcFM (R := rSt) (S := rCl) (ds := [lr, lw]) (fun s => some (q.1, j, s)) G6 hJ6 ⟨rfl, fun i x d hx hd => by
        match i, hx, hd with
        | 0, hx, hd => cases hx; cases hd; rfl
        | 1, hx, hd => cases hx; cases hd; rfl⟩ (by decide) ?_ ?_
      · intro s x J7 H7 Ny Nn hs hx e7 G7 hy hn
        obtain rfl : x = .str s := hx
        walk_at "go"
        refine ⟨rfl, ?_⟩
        walk_at "go"
        rename_i P8 J8 H8 hP8 e8 hJ8 g8 G8
        exact hy _ _ _ _ rfl g8 ⟨P8, rfl, hJ8⟩
      · intro D acc J7 H7 hD e7 hDJ hacc g7 G7
        have ml7 := (ml5.up g6).up g7
        have md7 := (md5.up g6).up g7
        have hacl := hacc.1
        have hacl : acc.length = 2 := hacl
        walk_at "go"
        refine k_ext G7 ml7 (.inr hl0) (by walk_at "get") (by omega) ?_
        intro H8 g8 G8 ml8
        walk_at "go"
        refine ⟨_, (e5.trans e6).trans e7, G8, _, _, cs ++ [(q.1, j, lr), (q.1, j, lw)], rfl, md7.step g8 hdl, ml8, (Up.up (e6.trans e7) hac).append hacc, ?_, by simp; omega⟩
        intro c hc
        rcases List.mem_append.mp hc with z | z
        · exact hok c z
        · have hin : InP p (q.1, j) := ⟨q.2, hqm, by show j ≤ q.2; omega⟩
          rcases (show c = (q.1, j, lr) ∨ c = (q.1, j, lw) by simpa using z) with rfl | rfl
          · exact ⟨hin, .inl rfl⟩
          · exact ⟨hin, .inr rfl⟩
    · rintro σ' J5 H5 e5 G5 ⟨w4, ac, cs, rfl, md5, ml5, hac, hok, hlen⟩
      walk_at "go"
      exact ⟨_, e4.trans e5, G5, md5, _, _, ac, cs, rfl, ml5, hac, hok, by omega⟩
  · rintro σ' J4 H4 e4 G4 md4 ⟨w3, w4, ac, cs, rfl, ml4, hac, hok, hlen⟩
    refine ⟨md4.h, ?_⟩
    have g5 := mut_one (o' := .dK kvs) G4 md4
    have ml5 := ml4.step g5 (fun e => hdl e.symm)
    have G5 := G4.mut (o := .dK kvs) md4.j (.inr hd0)
    rw [hk.1] at hlen
    walk_at "go"
    exact kk _ _ _ (G5.know ml5.j ml5.h hl0) ⟨cs, ⟨l, ac, rfl, upd_same, Up.up (ex_know ml5.j) hac⟩, hok, by omega⟩
def rFnd (fs : List Cl) (v : V) (J : Hp) : Prop := ∃ a kvs, v = .ref a ∧ J a = some (.dT kvs) ∧ FdR fs kvs
instance (fs : List Cl) (v : V) : Up (rFnd fs v) := ⟨fun e ⟨a, kvs, h1, h2, h3⟩ => ⟨a, kvs, h1, e _ _ h2, h3⟩⟩
abbrev fndF (fs : List Cl) : Fnd := fun c => decide (c ∈ fs)
abbrev spLawTable : Sp := SpD (Pg Nat × List Cl) (fun _ => No) (fun a vs J _ => ∃ v1 v2, vs = [v1, v2] ∧ rLPg rDp a.1 v1 J ∧ rFnd a.2 v2 J ∧ PgD a.1) (fun a v J _ => rDic rTy (tabF (fndF a.2) (kindsOf a.1)) v J)
def lts2 (F : Fnd) (x : Str) (l : Nat) : List Str := (if F (x, l, lr) = true then [lr] else []) ++ (if F (x, l, lw) = true then [lw] else [])
theorem join_right (F : Fnd) (x : Str) (l : Nat) : (Txt.join "" (lts2 F x l) = "" ∧ rightAt F x l = "-") ∨ (Txt.join "" (lts2 F x l) ≠ "" ∧ rightAt F x l = Txt.join "" (lts2 F x l)) := by
  unfold lts2 rightAt
  cases F (x, l, lr) <;> cases F (x, l, lw)
  · left; exact ⟨by decide +kernel, rfl⟩
  · right; exact ⟨by decide +kernel, by decide +kernel⟩
  · right; exact ⟨by decide +kernel, by decide +kernel⟩
  · right; exact ⟨by decide +kernel, by decide +kernel⟩
end Rk
namespace Rk
open PySem PySem.Spec PyProof.Rows L2
variable {P : Program} {w : World} {K : PySem.W.Frag} {mg : Str → Option Value} {base : Heap}
theorem lts_rw : lts "rw" = [lr, lw] := by decide +kernel
theorem lts_fil (F : Fnd) (x : Str) (l : Nat) : ([lr, lw].filter fun s => F (x, l, s)) = lts2 F x l := by
  unfold lts2
  cases h1 : F (x, l, lr) <;> cases h2 : F (x, l, lw) <;> simp [h1, h2]
theorem fil_snoc {α : Type} {l : List α} {i : Nat} {x : α} (f : α → Bool) (h : l[i]? = some x) : (l.take (i + 1)).filter f = (l.take i).filter f ++ (if f x = true then [x] else []) := by
  rw [List.take_add_one, h, List.filter_append]
  cases e : f x <;> simp [e]
theorem join_len (F : Fnd) (x : Str) (l : Nat) : ((lts2 F x l).map (·.length)).sum + (lts2 F x l).length * Str.length "" ≤ 16777216 := by
  unfold lts2
  cases F (x, l, lr) <;> cases F (x, l, lw) <;> decide +kernel
theorem ok_LawTable (T : Good K mg) : FnOk P w K mg base CX0 2 (He.ga K "_law_table") (fdOf K (He.ga K "_law_table")) ["_law_p", "_law_found"] spLawTable := by
  refine sp_ok (k := 1) (D_sLawTable T) S_sLawTable (fun a vs J H h => by obtain ⟨_, _, rfl, _⟩ := h; rfl) (fun cdv Ar outer s H0 vs E hr => ?_)
  refine ⟨_, (pss_cons (ps_set (i := 2) S_sLawTable.nd rfl (by first | exact Or.inl rfl | exact Or.inr rfl) (pe_call (ok_LawKinds T) (hr.mono (by omega)) rfl (g_law_kinds T) (D_sLawKinds T).kp (B_sLawKinds T) .nil pass0 (pa_cons (pv 0) pa_nil)))
  (pss_cons (ps_set (i := 3) S_sLawTable.nd rfl (by first | exact Or.inl rfl | exact Or.inr rfl) pe_dnewK)
  (pss_cons (ps_lock (ps_for PassesOwn.never rfl (pi_keys (pv 2)) (pg_name (i := 4) S_sLawTable.nd rfl (by first | exact Or.inl rfl | exact Or.inr rfl))
  (pss_cons (ps_set (i := 5) S_sLawTable.nd rfl (by first | exact Or.inl rfl | exact Or.inr rfl) (pe_lst pa_nil))
  (pss_cons (ps_for PassesOwn.never rfl (pi_range1 (by rfl) (f_range T) (pa_cons (pe_op op_add (pe_dget (hu_of hr) (pv 2) (pv 4) (fun _ _ => rfl)) pe_int) pa_nil)) (pg_name (i := 6) S_sLawTable.nd rfl (by first | exact Or.inl rfl | exact Or.inr rfl))
  (pss_cons (ps_set (i := 7) S_sLawTable.nd rfl (by first | exact Or.inl rfl | exact Or.inr rfl) (pe_join pe_str (pe_lc (own := [("_law_letter", 8)]) (by rfl) S_sLawTable.nd (pi_str pe_str) (blkOk_by (own := [("_law_letter", 8)]) (N := ["_law_p", "_law_found", "_law_kinds_here", "_law_table_here", "_law_x", "_law_row_here", "_law_level", "_law_right_here", "_law_letter"]) (sc := defScope sLawTable) (by decide +kernel)) (fun _ _ _ _ _ => (pg_name (i := 8) S_sLawTable.nd rfl (by first | exact Or.inl rfl | exact Or.inr rfl))) (fun _ _ _ _ _ => pts_one (pt_cmp (pc_din (hu_of hr) (pe_tup (pa_cons (pv 4) (pa_cons (pv 6) (pa_cons (pv 8) pa_nil)))) (pv 1)))) (fun _ _ _ _ _ => (pv 8)))))
  (pss_one (ps_expr (pe_bm PySem.F.plainAttrs_list PySem.F.slot_list_append PySem.F.type_list_append mt_append (pv 5) (pa_cons (pe_ix (xL K) (pe_lst (pa_cons (pv 7) (pa_cons pe_str pa_nil))) (pe_callTy c_int (by rfl) (f_int T) (show bootBuiltins "int" = some (.type "int") by decide +kernel) (pa_cons (pe_cmpR op_eq (pv 7) pe_str (nomark _)) pa_nil)) (fun _ _ => rfl)) pa_nil))))))
  (pss_one (ps_dput (hu_of hr) (pv 3) (pv 4) (pe_callTy (cTup K) (by rfl) (f_tuple T) (show bootBuiltins "tuple" = some (.type "tuple") by decide +kernel) (pa_cons (pv 5) pa_nil)) rfl))))))
  (pss_one (ps_ret (pv 3)))))), ?_⟩
  rintro ⟨p, fs⟩ J0 Q G ⟨v1, _, rfl, hp, ⟨fa, fkv, rfl, hfa, hfr⟩, hd⟩ kk
  dsimp only at *
  have zs := sizeLine_eq
  have hkl := hd.kl
  walk_at "go"
  refine use_sp G (p, H0) ⟨_, rfl, hp, rfl, hd.knd, Nat.le_trans hd.kl (by decide), Nat.le_trans hd.w.l (by decide)⟩ (fun _ z => z.elim) ?_
  rintro v J1 H1 e1 g1 G1 ⟨d, kvs, rfl, hd0, md, hk⟩
  dsimp only at hd0 md hk
  walk_at "go"
  refine k_dictM G1 ?_
  intro t H2 ht1 ht0 mt g2 G2
  have hdt : ¬ d = t := md.nen ht1
  have md2 := md.up g2
  walk_at "go"
  refine k_lock G2 md2 (.inr hd0) ?_
  intro od H3 g3 G3 md3
  have mt3 := mt.step g3 (fun e => hdt e.symm)
  walk_at "go"
  refine k_forK G3 md3 (fun i σ' J' H' => ∃ w4 w5 w6 w7 kv, σ' = [some v1, some (.ref fa), some (.ref d), some (.ref t), w4, w5, w6, w7, none] ∧ Mu J' H' t (.dK kv) ∧ EntR rTy ((tabF (fndF fs) (kindsOf p)).take i) kv J') ⟨_, _, _, _, _, rfl, mt3, EntR.nil⟩ ?_ ?_
  · rintro i key v σ' J4 H4 hkv e4 G4 md4 ⟨w4, w5, w6, w7, kv, rfl, mt4, he4⟩
    obtain ⟨q, hq, rfl, hv, rfl, hnew⟩ := entR_at hk hd.knd hkv
    have hqm := List.mem_of_getElem? hq
    have hq3 := hd.kw q hqm
    unfold KN at hq3
    have hi : i < (kindsOf p).length := (List.getElem?_eq_some_iff.mp hq).1
    dsimp only [kV]
    walk_at "go"
    refine k_lstM G4 (by decide) ?_
    intro r H5 hr5 hr0 mr5 g5 G5
    have md5 := md4.up g5
    have mt5 := mt4.up g5
    have hdr : ¬ d = r := md4.nen hr5
    have htr : ¬ t = r := mt4.nen hr5
    walk_at "go"
    rw [show ((q.2 : Int) + 1) = ((q.2 + 1 : Nat) : Int) from rfl]
    refine k_iR1E (by omega) ?_
    rw [Int.toNat_natCast]
    refine k_forR G5 (fun j σ' J' H' => ∃ w6 w7, σ' = [some v1, some (.ref fa), some (.ref d), some (.ref t), some (.str q.1), some (.ref r), w6, w7, none] ∧ Mu J' H' d (.frz od (.dK kvs)) ∧ Mu J' H' t (.dK kv) ∧ Mu J' H' r (.lst (((List.range j).map (rightAt (fndF fs) q.1)).map V.str))) ⟨_, _, rfl, md5, mt5, mr5⟩ ?_ ?_
    · rintro j σ' J6 H6 hj e6 G6 ⟨w6, w7, rfl, md6, mt6, mr6⟩
      walk_at "go"
      refine ⟨⟨_, rfl⟩, ?_⟩
      walk_at "go"
      refine k_lcS G6 (by decide +kernel) (fun i acc _ => acc = (((lts "rw").take i).filter fun s => fndF fs (q.1, j, s)).map V.str) (fun _ _ _ _ _ h => h) rfl ?_ ?_
      · rintro i c acc J7 H7 Ny Nn hc hl e7 G7 rfl hy hn
        have e0 : (lts "rw")[i]? = some ⟨#[c]⟩ := by
          unfold lts
          rw [List.getElem?_map, Array.getElem?_toList, hc]
          rfl
        have hfs := fil_snoc (fun s => fndF fs (q.1, j, s)) e0
        walk_at "go"
        refine ⟨rfl, ?_⟩
        walk_at "go"
        rename_i P8 J8 H8 hP8 e8 hJ8 g8 G8
        refine k_dinT (x := clK (q.1, j, ⟨#[c]⟩)) (kvs := fkv) (by walk_at "get") (by walk_at "get") ?_
        rw [hfr.has]
        walk_at "go"
        refine if2 (fun q9 => ?_) (fun q9 => ?_)
        · walk_at "go"
          refine hy _ _ _ g8 ?_
          rw [hfs, if_pos q9, List.map_append]
          rfl
        · refine hn _ _ g8 ?_
          rw [hfs, if_neg (by show ¬ decide _ = true; rw [q9]; decide), List.append_nil]
      · rintro D acc J7 H7 hD e7 hDJ g7 G7 hl inv
        have e5 : (Str.ofString "rw").cps.size = 2 := by decide +kernel
        rw [e5, lts_rw, show List.take 2 [lr, lw] = [lr, lw] from rfl, lts_fil] at inv
        subst inv
        have md7 := md6.up g7
        have mt7 := mt6.up g7
        have mr7 := mr6.up g7
        refine ⟨Str.ofString "", D, lts2 (fndF fs) q.1 j, rfl, rfl, .inl (SqL.of (G7.jh _ _ hDJ)), join_len _ _ _, ?_⟩
        have hjoin := join_right (fndF fs) q.1 j
        generalize Txt.join (Str.ofString "") (lts2 (fndF fs) q.1 j) = s at *
        walk_at "go"
        rename_i P8 J8 H8 hP8 e8 hJ8 g8 G8
        have md8 := md7.up g8
        have mt8 := mt7.up g8
        have mr8 := mr7.up g8
        have hidx : ∃ n : Nat, (if decide (V.str s = V.str (Str.ofString "")) = true then (1 : Int) else 0) = (n : Int) ∧ ([V.str s, V.str (Str.ofString "-")] : List V)[n]? = some (V.str (rightAt (fndF fs) q.1 j)) := by
          rcases hjoin with ⟨h1, h2⟩ | ⟨h1, h2⟩
          · subst h1
            exact ⟨1, by simp, by rw [h2]; rfl⟩
          · exact ⟨0, by simp [h1], by rw [h2]; rfl⟩
        obtain ⟨n, hn1, hn2⟩ := hidx
        rw [hn1]
        walk_at "go"
        refine k_app G8 mr8 (.inr hr0) (by simp; omega) ?_
        intro H9 g9 G9 mr9
        walk_at "go"
        refine ⟨_, (e6.trans e7).trans e8, G9, _, _, rfl, md8.step g9 hdr, mt8.step g9 htr, ?_⟩
        rw [List.range_succ, List.map_append, List.map_append]
        exact mr9
    · rintro σ' J6 H6 e6 G6 ⟨w6, w7, rfl, md6, mt6, mr6⟩
      walk_at "go"
      rename_i P7 J7 H7 hP7 e7 hJ7 g7 G7
      have mt7 := mt6.up g7
      have md7 := md6.up g7
      refine k_dputM G7 mt7 (.inr ht0) (by rw [he4.1]; simp [tabF]; omega) ?_
      intro H8 g8 G8 mt8
      refine ⟨_, (e4.trans e6).trans e7, G8, md7.step g8 hdt, _, _, _, _, _, rfl, mt8, ?_⟩
      have e0 : (tabF (fndF fs) (kindsOf p))[i]? = some (q.1, tyF (fndF fs) q.1 q.2) := by unfold tabF; rw [List.getElem?_map, hq]; rfl
      rw [List.take_add_one, e0]
      refine entR_put (t := tyF (fndF fs) q.1 q.2) (Up.up (e6.trans e7) he4) ?_ ⟨P7, rfl, hJ7, by simp [tyF]; omega⟩
      unfold tabF
      rw [← List.map_take]
      have := tabF_look (F := fndF fs) (x := q.1) (ks := (kindsOf p).take i)
      unfold tabF at this
      rw [this, nodup_pre2 hd.knd (split_at hq)]
      rfl
  · rintro σ' J4 H4 e4 G4 md4 ⟨w4, w5, w6, w7, kv, rfl, mt4, he4⟩
    refine ⟨md4.h, ?_⟩
    have hl : kvs.length = (tabF (fndF fs) (kindsOf p)).length := by rw [hk.1]; simp [tabF]
    rw [hl, List.take_of_length_le (Nat.le_refl _)] at he4
    have g5 := mut_one (o' := .dK kvs) G4 md4
    have mt5 := mt4.step g5 (fun e => hdt e.symm)
    have G5 := G4.mut (o := .dK kvs) md4.j (.inr hd0)
    walk_at "go"
    exact kk _ _ _ (G5.know mt5.j mt5.h ht0) ⟨t, kv, rfl, upd_same, Up.up (ex_know mt5.j) he4⟩
end Rk
namespace Rk
open PySem PySem.Spec PyProof.Rows L2
/-! the run, and why nothing is breached -/
inductive Vl where
  | non | int (i : Int) | th (n : Nat)
structure Th where
  name : Str
  ty : Ty
  val : Vl
abbrev Env2 := List (Str × Nat)
def lookT (ths : List Th) : Nat → Nat → Option Nat
  | n, 0 => some n
  | n, k + 1 => match ths[n]? with
    | some ⟨_, _, .th m⟩ => lookT ths m k
    | _ => none
def placeT (ths : List Th) (env : Env2) (x : Str) (k : Nat) : Option Nat := (env.lookup x).bind fun n => lookT ths n k
def valT (ths : List Th) (n : Nat) : Option Vl := ths[n]?.map (·.val)
def giveT (ths : List Th) (env : Env2) : Src → Option Vl
  | .num n => some (.int n)
  | .null => some .non
  | .val x k => (placeT ths env x k).bind (valT ths)
  | .adr x k => (placeT ths env x k).map .th
def giveAll (ths : List Th) (env : Env2) : List Src → Option (List Vl)
  | [] => some []
  | s :: ss => match giveT ths env s with
    | none => none
    | some v => (giveAll ths env ss).map (v :: ·)
def setT (ths : List Th) (n : Nat) (v : Vl) : List Th := match ths[n]? with
  | some t => ths.set n { t with val := v }
  | none => ths
def newAll : List Th → Env2 → List (Str × Ty) → List Vl → List Th × Env2
  | ths, env, p :: ps, v :: vs => newAll (ths ++ [⟨p.1, p.2, v⟩]) (env ++ [(p.1, ths.length)]) ps vs
  | ths, env, _, _ => (ths, env)
abbrev Res := Bool × List Th × Env2
def runB (ex : List Th → Env2 → Stm Ty → Res) : List Th → Env2 → List (Stm Ty) → Res
  | ths, env, [] => (true, ths, env)
  | ths, env, st :: r => if (ex ths env st).1 = true then runB ex (ex ths env st).2.1 (ex ths env st).2.2 r else (false, (ex ths env st).2)
def callT (ex : List Th → Env2 → Stm Ty → Res) (fns : List (Fn Ty)) (ths : List Th) (env : Env2) (f : Str) (ss : List Src) : Res :=
  match giveAll ths env ss, fnOf fns f with
  | some vs, some g => ((runB ex (newAll ths [] g.ps vs).1 (newAll ths [] g.ps vs).2 g.body).1, (runB ex (newAll ths [] g.ps vs).1 (newAll ths [] g.ps vs).2 g.body).2.1, env)
  | _, _ => (false, ths, env)
def execT : Nat → List (Fn Ty) → List Th → Env2 → Stm Ty → Res
  | _, _, ths, env, .lt x t s => match giveT ths env s with
    | none => (false, ths, env)
    | some v => (true, ths ++ [⟨x, t, v⟩], env ++ [(x, ths.length)])
  | _, _, ths, env, .pt x k s => match placeT ths env x k with
    | none => (false, ths, env)
    | some n => match giveT ths env s with
      | none => (false, ths, env)
      | some v => (true, setT ths n v, env)
  | 0, _, ths, env, .cl _ _ => (false, ths, env)
  | n + 1, fns, ths, env, .cl f ss => callT (execT n fns) fns ths env f ss
/-! ### types of the run -/
def VT (ths : List Th) (u : Ty) : Vl → Prop
  | .int _ => u = []
  | .non => u ≠ []
  | .th m => ∃ t, ths[m]? = some t ∧ conv t.ty u = true
def WT (ths : List Th) : Prop := ∀ (i : Nat) (t : Th), ths[i]? = some t → t.ty ≠ [] ∧ VT ths (t.ty.drop 1) t.val
/-- later things: those that were keep their types and names -/
def XT (ths ths' : List Th) : Prop := ∀ (i : Nat) (t : Th), ths[i]? = some t → ∃ t', ths'[i]? = some t' ∧ t'.ty = t.ty ∧ t'.name = t.name
theorem XT.refl (ths : List Th) : XT ths ths := fun i t h => ⟨t, h, rfl, rfl⟩
theorem XT.trans {a b c : List Th} (h : XT a b) (k : XT b c) : XT a c := fun i t e => by
  obtain ⟨t', e', h1, h2⟩ := h i t e
  obtain ⟨t'', e'', h3, h4⟩ := k i t' e'
  exact ⟨t'', e'', h3.trans h1, h4.trans h2⟩
theorem VT.mono {a b : List Th} (x : XT a b) {u : Ty} : ∀ {v : Vl}, VT a u v → VT b u v
  | .int _, h => h
  | .non, h => h
  | .th m, ⟨t, e, c⟩ => by
    obtain ⟨t', e', h1, _⟩ := x m t e
    exact ⟨t', e', by rw [h1]; exact c⟩
theorem VT.conv {ths : List Th} {u w : Ty} (c : conv u w = true) : ∀ {v : Vl}, VT ths u v → VT ths w v
  | .int _, h => by
    have h : u = [] := h
    have := conv_len c
    rw [h] at this
    exact List.length_eq_zero_iff.mp this.symm
  | .non, h => by
    intro e
    have h : u ≠ [] := h
    have := conv_len c
    rw [e] at this
    exact h (List.length_eq_zero_iff.mp this)
  | .th m, ⟨t, e, h⟩ => ⟨t, e, conv_trans h c⟩
def EnvT (env : Env2) (ths : List Th) (ts : Tys) : Prop := env.length = ts.length ∧ ∀ (i : Nat) (r : Str × Nat) (q : Str × Ty), env[i]? = some r → ts[i]? = some q → r.1 = q.1 ∧ ∃ t, ths[r.2]? = some t ∧ t.ty = q.2
theorem EnvT.mono {a b : List Th} (x : XT a b) {env : Env2} {ts : Tys} (h : EnvT env a ts) : EnvT env b ts := ⟨h.1, fun i r q h1 h2 => by
  obtain ⟨e, t, e1, e2⟩ := h.2 i r q h1 h2
  obtain ⟨t', e', h3, _⟩ := x _ t e1
  exact ⟨e, t', e', h3.trans e2⟩⟩
theorem EnvT.nil (ths : List Th) : EnvT [] ths [] := ⟨rfl, fun i r q h => by simp at h⟩
theorem EnvT.snoc {env : Env2} {ths : List Th} {ts : Tys} (h : EnvT env ths ts) {x : Str} {t : Ty} {v : Vl} : EnvT (env ++ [(x, ths.length)]) (ths ++ [⟨x, t, v⟩]) (ts ++ [(x, t)]) := by
  have hx : XT ths (ths ++ [⟨x, t, v⟩]) := fun i t' e => ⟨t', by rw [List.getElem?_append_left (List.getElem?_eq_some_iff.mp e).1]; exact e, rfl, rfl⟩
  have h2 := h.mono hx
  refine ⟨by simp [h.1], fun i r q h1 h3 => ?_⟩
  by_cases hi : i < env.length
  · rw [List.getElem?_append_left hi] at h1
    rw [List.getElem?_append_left (by rw [← h.1]; exact hi)] at h3
    exact h2.2 i r q h1 h3
  · have hi2 : i = env.length := by
      have := (List.getElem?_eq_some_iff.mp h1).1
      simp at this; omega
    subst hi2
    rw [List.getElem?_append_right (Nat.le_refl _), Nat.sub_self] at h1
    rw [h.1, List.getElem?_append_right (Nat.le_refl _), Nat.sub_self] at h3
    simp at h1 h3
    subst h1; subst h3
    exact ⟨rfl, ⟨x, t, v⟩, by simp, rfl⟩
theorem xt_snoc {ths : List Th} {t : Th} : XT ths (ths ++ [t]) := fun i t' e => ⟨t', by rw [List.getElem?_append_left (List.getElem?_eq_some_iff.mp e).1]; exact e, rfl, rfl⟩
theorem EnvT.look : ∀ {env : Env2} {ths : List Th} {ts : Tys}, EnvT env ths ts → ∀ {x : Str} {t : Ty}, ts.lookup x = some t → ∃ n z, env.lookup x = some n ∧ ths[n]? = some z ∧ z.ty = t
  | [], _, [], _, x, t, h => by simp at h
  | [], _, _ :: _, h, _, _, _ => absurd h.1 (by simp)
  | _ :: _, _, [], h, _, _, _ => absurd h.1 (by simp)
  | (y, n) :: env, ths, (z, u) :: ts, h, x, t, hx => by
    obtain ⟨e, w, e1, e2⟩ := h.2 0 (y, n) (z, u) rfl rfl
    simp only at e e1 e2
    subst e
    by_cases q : x = y
    · subst q
      simp [List.lookup] at hx
      subst hx
      exact ⟨n, w, by simp [List.lookup], e1, e2⟩
    · have b : (x == y) = false := beq_eq_false_iff_ne.mpr q
      simp only [List.lookup, b] at hx ⊢
      exact EnvT.look (⟨by have := h.1; simpa using this, fun i r q h1 h2 => h.2 (i + 1) r q (by simpa using h1) (by simpa using h2)⟩ : EnvT env ths ts) hx
theorem EnvT.none : ∀ {env : Env2} {ths : List Th} {ts : Tys}, EnvT env ths ts → ∀ {x : Str}, ts.lookup x = Option.none → env.lookup x = Option.none
  | [], _, [], _, x, _ => rfl
  | [], _, _ :: _, h, _, _ => absurd h.1 (by simp)
  | _ :: _, _, [], h, _, _ => absurd h.1 (by simp)
  | (y, n) :: env, ths, (z, u) :: ts, h, x, hx => by
    obtain ⟨e, _⟩ := h.2 0 (y, n) (z, u) rfl rfl
    simp only at e
    subst e
    by_cases q : x = y
    · subst q; simp [List.lookup] at hx
    · have b : (x == y) = false := beq_eq_false_iff_ne.mpr q
      simp only [List.lookup, b] at hx ⊢
      exact EnvT.none (⟨by have := h.1; simpa using this, fun i r q h1 h2 => h.2 (i + 1) r q (by simpa using h1) (by simpa using h2)⟩ : EnvT env ths ts) hx
/-- one step down: the right to read is there, and what is found fits -/
theorem step_down {ths : List Th} (w : WT ths) {t : Ty} {i : Nat} {n : Nat} {z : Th} (e : ths[n]? = some z) (c : conv z.ty (t.drop i) = true) (hi : i < t.length) (hr : rd (t.getD i "") = true) :
    ∃ r rest, z.ty = r :: rest ∧ rd r = true ∧ VT ths (t.drop (i + 1)) z.val := by
  have hd : t.drop i = t.getD i "" :: t.drop (i + 1) := by
    rw [List.drop_eq_getElem_cons hi]
    simp [List.getD, List.getElem?_eq_getElem hi]
  obtain ⟨h1, h2⟩ := w n z e
  cases ez : z.ty with
  | nil => exact absurd ez h1
  | cons r rest =>
    rw [ez, hd] at c
    obtain ⟨c1, _⟩ := conv_cons c
    obtain ⟨c2, c3⟩ := c1 hr
    refine ⟨r, rest, rfl, c2, ?_⟩
    rw [ez] at h2
    exact VT.conv c3 h2
theorem lookT_ok {ths : List Th} (w : WT ths) {t : Ty} : ∀ (k i n : Nat) {z : Th}, ths[n]? = some z → conv z.ty (t.drop i) = true → i + k < t.length → (∀ j, j < i + k → rd (t.getD j "") = true) → ∀ {m : Nat}, lookT ths n k = some m → ∃ y, ths[m]? = some y ∧ conv y.ty (t.drop (i + k)) = true
  | 0, i, n, z, e, c, hk, hr, m, h => by
    obtain rfl : n = m := by simpa [lookT] using h
    exact ⟨z, e, c⟩
  | k + 1, i, n, z, e, c, hk, hr, m, h => by
    obtain ⟨r, rest, h1, h2, h3⟩ := step_down w e c (by omega) (hr i (by omega))
    unfold lookT at h
    rw [e] at h
    cases ev : z with
    | mk nm ty v =>
      rw [ev] at h h3
      cases v with
      | non => cases h
      | int q => cases h
      | th q =>
        obtain ⟨y, e2, c2⟩ := h3
        have := lookT_ok w k (i + 1) q e2 c2 (by omega) (fun j hj => hr j (by omega)) h
        rw [show i + (k + 1) = i + 1 + k by omega]
        exact this
theorem all_rd {t : Ty} {k : Nat} (h : (t.take k).all rd = true) (hk : k ≤ t.length) : ∀ j, j < k → rd (t.getD j "") = true := by
  intro j hj
  rw [List.all_eq_true] at h
  have : (t.take k)[j]? = some (t.getD j "") := by
    rw [List.getElem?_take, if_pos hj]
    have hlt : j < t.length := by omega
    simp [List.getD, List.getElem?_eq_getElem hlt]
  exact h _ (List.mem_of_getElem? this)
/-- where a place leads -/
theorem place_ok {ths : List Th} (w : WT ths) {env : Env2} {ts : Tys} (he : EnvT env ths ts) {x : Str} {k : Nat} (hr : reached ts x k = none) {n : Nat} (h : placeT ths env x k = some n) :
    ∃ t y, ts.lookup x = some t ∧ k < t.length ∧ ths[n]? = some y ∧ conv y.ty (t.drop k) = true := by
  obtain ⟨t, ht, hk, hall⟩ := reached_none hr
  obtain ⟨n0, z, e1, e2, e3⟩ := he.look ht
  unfold placeT at h
  rw [e1] at h
  obtain ⟨y, h1, h2⟩ := lookT_ok w k 0 n0 e2 (by rw [e3]; exact conv_refl _) (by omega) (by rw [Nat.zero_add]; exact all_rd hall (by omega)) h
  rw [Nat.zero_add] at h2
  exact ⟨t, y, ht, hk, h1, h2⟩
theorem give_ok {ths : List Th} (w : WT ths) {env : Env2} {ts : Tys} (he : EnvT env ths ts) {s : Src} {u : Ty} (hs : srcF ts s u = none) {v : Vl} (h : giveT ths env s = some v) : VT ths u v := by
  cases s with
  | num n =>
    obtain rfl : Vl.int n = v := by simpa [giveT] using h
    unfold srcF at hs
    dsimp only at hs
    by_cases q : u.length = 0
    · exact List.length_eq_zero_iff.mp q
    · rw [if_neg q] at hs; cases hs
  | null =>
    obtain rfl : Vl.non = v := by simpa [giveT] using h
    unfold srcF at hs
    dsimp only at hs
    intro e
    rw [if_pos (by rw [e]; rfl)] at hs
    cases hs
  | val x k =>
    unfold srcF at hs
    dsimp only at hs
    cases er : reached ts x k with
    | some e => rw [er] at hs; cases hs
    | none =>
      rw [er] at hs
      dsimp only at hs
      unfold giveT at h
      dsimp only at h
      cases ep : placeT ths env x k with
      | none => rw [ep] at h; cases h
      | some n =>
        rw [ep] at h
        obtain ⟨t, y, ht, hk, e1, c⟩ := place_ok w he er ep
        have eto : tyOf ts x = t := by unfold tyOf; rw [ht]; rfl
        rw [eto] at hs
        by_cases hr : rd (t.getD k "") = true
        · rw [if_pos hr] at hs
          obtain ⟨r, rest, _, _, h3⟩ := step_down w e1 c hk hr
          have ev : v = y.val := by
            have h : valT ths n = some v := h
            unfold valT at h
            rw [e1] at h
            simpa using h.symm
          subst ev
          unfold cvF at hs
          by_cases ql : (t.drop (k + 1)).length = u.length
          · rw [if_pos ql] at hs
            by_cases qc : conv (t.drop (k + 1)) u = true
            · exact VT.conv qc h3
            · rw [if_neg qc] at hs; cases hs
          · rw [if_neg ql] at hs; cases hs
        · rw [if_neg hr] at hs; cases hs
  | adr x k =>
    unfold srcF at hs
    dsimp only at hs
    cases er : reached ts x k with
    | some e => rw [er] at hs; cases hs
    | none =>
      rw [er] at hs
      dsimp only at hs
      unfold giveT at h
      dsimp only at h
      cases ep : placeT ths env x k with
      | none => rw [ep] at h; cases h
      | some n =>
        rw [ep] at h
        obtain ⟨t, y, ht, hk, e1, c⟩ := place_ok w he er ep
        have eto : tyOf ts x = t := by unfold tyOf; rw [ht]; rfl
        rw [eto] at hs
        obtain rfl : Vl.th n = v := by simpa using h
        unfold cvF at hs
        by_cases ql : (t.drop k).length = u.length
        · rw [if_pos ql] at hs
          by_cases qc : conv (t.drop k) u = true
          · exact ⟨y, e1, conv_trans c qc⟩
          · rw [if_neg qc] at hs; cases hs
        · rw [if_neg ql] at hs; cases hs
end Rk
namespace Rk
open PySem PySem.Spec PyProof.Rows L2
/-! the run keeps the types -/
/-- a block without faults -/
def BlkN (fns : List (Fn Ty)) : Tys → List (Stm Ty) → Prop
  | _, [] => True
  | ts, st :: r => stmF ts fns st = none ∧ (match st with
    | .lt x t _ => ts.lookup x = none ∧ t ≠ []
    | .pt _ _ _ => True
    | .cl f ss => ∃ g, fnOf fns f = some g ∧ ss.length = g.ps.length) ∧ BlkN fns (grow ts st) r
structure FnsN (fns : List (Fn Ty)) : Prop where
  b : ∀ f g, fnOf fns f = some g → BlkN fns g.ps g.body
  t : ∀ f g, fnOf fns f = some g → (∀ q ∈ g.ps, q.2 ≠ []) ∧ (g.ps.map (·.1)).Nodup
theorem wt_snoc {ths : List Th} (w : WT ths) {x : Str} {t : Ty} {v : Vl} (ht : t ≠ []) (hv : VT ths (t.drop 1) v) : WT (ths ++ [⟨x, t, v⟩]) := by
  intro i z hz
  by_cases hi : i < ths.length
  · rw [List.getElem?_append_left hi] at hz
    obtain ⟨h1, h2⟩ := w i z hz
    exact ⟨h1, VT.mono xt_snoc h2⟩
  · have : i = ths.length := by
      have := (List.getElem?_eq_some_iff.mp hz).1
      simp at this; omega
    subst this
    rw [List.getElem?_append_right (Nat.le_refl _), Nat.sub_self] at hz
    simp at hz
    subst hz
    exact ⟨ht, VT.mono xt_snoc hv⟩
theorem setT_get {ths : List Th} {n : Nat} {y : Th} (e : ths[n]? = some y) (v : Vl) (i : Nat) : (setT ths n v)[i]? = if i = n then some { y with val := v } else ths[i]? := by
  unfold setT
  rw [e]
  dsimp only
  rw [List.getElem?_set]
  by_cases q : n = i
  · subst q
    rw [if_pos rfl, if_pos rfl, if_pos (List.getElem?_eq_some_iff.mp e).1]
  · rw [if_neg q, if_neg (fun z => q z.symm)]
theorem xt_set {ths : List Th} {n : Nat} {y : Th} (e : ths[n]? = some y) (v : Vl) : XT ths (setT ths n v) := by
  intro i t h
  rw [setT_get e]
  by_cases q : i = n
  · subst q
    rw [e] at h
    cases h
    exact ⟨{ y with val := v }, if_pos rfl, rfl, rfl⟩
  · exact ⟨t, by rw [if_neg q]; exact h, rfl, rfl⟩
theorem wt_set {ths : List Th} (w : WT ths) {n : Nat} {y : Th} (e : ths[n]? = some y) {v : Vl} (hv : VT ths (y.ty.drop 1) v) : WT (setT ths n v) := by
  intro i z hz
  rw [setT_get e] at hz
  by_cases q : i = n
  · subst q
    rw [if_pos rfl] at hz
    cases hz
    exact ⟨(w i y e).1, VT.mono (xt_set e v) hv⟩
  · rw [if_neg q] at hz
    obtain ⟨h1, h2⟩ := w i z hz
    exact ⟨h1, VT.mono (xt_set e v) h2⟩
theorem giveAll_ok {ths : List Th} (w : WT ths) {env : Env2} {ts : Tys} (he : EnvT env ths ts) : ∀ {ps : List (Str × Ty)} {ss : List Src} {vs : List Vl}, argF ts ps ss = none → ss.length = ps.length → giveAll ths env ss = some vs → vs.length = ps.length ∧ ∀ (i : Nat) q v, ps[i]? = some q → vs[i]? = some v → VT ths (q.2.drop 1) v
  | [], [], vs, _, _, h => by
    obtain rfl : [] = vs := by simpa [giveAll] using h
    exact ⟨rfl, fun i q v h => by simp at h⟩
  | [], _ :: _, _, _, h, _ => by simp at h
  | _ :: _, [], _, _, h, _ => by simp at h
  | p :: ps, s :: ss, vs, ha, hl, h => by
    unfold argF at ha
    cases es : srcF ts s (p.2.drop 1) with
    | some e => rw [es] at ha; cases ha
    | none =>
      rw [es] at ha
      unfold giveAll at h
      cases eg : giveT ths env s with
      | none => rw [eg] at h; cases h
      | some v =>
        rw [eg] at h
        dsimp only at h
        cases er : giveAll ths env ss with
        | none => rw [er] at h; cases h
        | some ws =>
          rw [er] at h
          obtain rfl : v :: ws = vs := by simpa using h
          obtain ⟨h1, h2⟩ := giveAll_ok w he ha (by simpa using hl) er
          refine ⟨by simp [h1], fun i q u hq hu => ?_⟩
          cases i with
          | zero => simp at hq hu; subst hq; subst hu; exact give_ok w he es eg
          | succ i => exact h2 i q u (by simpa using hq) (by simpa using hu)
theorem newAll_ok : ∀ {ps : List (Str × Ty)} {vs : List Vl} {ths : List Th} {env : Env2} {ts : Tys}, WT ths → EnvT env ths ts → vs.length = ps.length → (∀ (i : Nat) q v, ps[i]? = some q → vs[i]? = some v → VT ths (q.2.drop 1) v) → (∀ q ∈ ps, q.2 ≠ []) →
    WT (newAll ths env ps vs).1 ∧ XT ths (newAll ths env ps vs).1 ∧ EnvT (newAll ths env ps vs).2 (newAll ths env ps vs).1 (ts ++ ps)
  | [], [], ths, env, ts, w, he, _, _, _ => ⟨w, XT.refl _, by simpa [newAll] using he⟩
  | [], _ :: _, _, _, _, _, _, h, _, _ => by simp at h
  | _ :: _, [], _, _, _, _, _, h, _, _ => by simp at h
  | p :: ps, v :: vs, ths, env, ts, w, he, hl, hv, ht => by
    have hvt := hv 0 p v rfl rfl
    have w2 := wt_snoc (x := p.1) w (ht p List.mem_cons_self) hvt
    have he2 : EnvT (env ++ [(p.1, ths.length)]) (ths ++ [⟨p.1, p.2, v⟩]) (ts ++ [(p.1, p.2)]) := he.snoc
    obtain ⟨h1, h2, h3⟩ := newAll_ok (ps := ps) (vs := vs) w2 he2 (by simpa using hl) (fun i q u hq hu => VT.mono xt_snoc (hv (i + 1) q u (by simpa using hq) (by simpa using hu))) (fun q hq => ht q (List.mem_cons_of_mem _ hq))
    refine ⟨h1, XT.trans xt_snoc h2, ?_⟩
    have e : ts ++ p :: ps = (ts ++ [(p.1, p.2)]) ++ ps := by simp
    rw [e]
    exact h3
/-- what a step of the run keeps -/
structure Kept (ths : List Th) (ts ts' : Tys) (r : Res) : Prop where
  w : WT r.2.1
  x : XT ths r.2.1
  e : r.1 = true → EnvT r.2.2 r.2.1 ts'
theorem runB_ok {fns : List (Fn Ty)} {ex : List Th → Env2 → Stm Ty → Res} (hex : ∀ (ths : List Th) (env : Env2) (ts : Tys) (st : Stm Ty), WT ths → EnvT env ths ts → BlkN fns ts [st] → Kept ths ts (grow ts st) (ex ths env st)) :
    ∀ {b : List (Stm Ty)} {ths : List Th} {env : Env2} {ts : Tys}, WT ths → EnvT env ths ts → BlkN fns ts b → WT (runB ex ths env b).2.1 ∧ XT ths (runB ex ths env b).2.1
  | [], ths, env, ts, w, he, _ => ⟨w, XT.refl _⟩
  | st :: r, ths, env, ts, w, he, h => by
    have k := hex ths env ts st w he ⟨h.1, h.2.1, trivial⟩
    unfold runB
    by_cases q : (ex ths env st).1 = true
    · rw [if_pos q]
      obtain ⟨h1, h2⟩ := runB_ok hex k.w (k.e q) h.2.2
      exact ⟨h1, XT.trans k.x h2⟩
    · rw [if_neg q]
      exact ⟨k.w, k.x⟩
theorem execT_ok {fns : List (Fn Ty)} (F : FnsN fns) : ∀ (n : Nat) (ths : List Th) (env : Env2) (ts : Tys) (st : Stm Ty), WT ths → EnvT env ths ts → BlkN fns ts [st] → Kept ths ts (grow ts st) (execT n fns ths env st) := by
  intro n
  induction n with
  | zero =>
    intro ths env ts st w he h
    cases st with
    | lt x t s =>
      unfold execT
      cases eg : giveT ths env s with
      | none => exact ⟨w, XT.refl _, fun z => by cases z⟩
      | some v => exact ⟨wt_snoc w h.2.1.2 (give_ok w he h.1 eg), xt_snoc, fun _ => he.snoc⟩
    | pt x k s =>
      have hf : putF1 ts x k s = none := h.1
      unfold execT
      cases ep : placeT ths env x k with
      | none => exact ⟨w, XT.refl _, fun z => by cases z⟩
      | some m =>
        cases eg : giveT ths env s with
        | none => exact ⟨w, XT.refl _, fun z => by cases z⟩
        | some v =>
          unfold putF1 at hf
          cases er : reached ts x k with
          | some e => rw [er] at hf; cases hf
          | none =>
            rw [er] at hf
            dsimp only at hf
            obtain ⟨t, y, ht, hk, e1, c⟩ := place_ok w he er ep
            have eto : tyOf ts x = t := by unfold tyOf; rw [ht]; rfl
            rw [eto] at hf
            by_cases hw : wr (t.getD k "") = true
            · rw [if_pos hw] at hf
              have hv := give_ok w he hf eg
              have hd : t.drop k = t.getD k "" :: t.drop (k + 1) := by
                rw [List.drop_eq_getElem_cons hk]
                simp [List.getD, List.getElem?_eq_getElem hk]
              have hy := (w m y e1).1
              cases ey : y.ty with
              | nil => exact absurd ey hy
              | cons r rest =>
                rw [ey, hd] at c
                have hc := ((conv_cons c).2 hw).2
                exact ⟨wt_set w e1 (by rw [ey]; exact VT.conv hc hv), xt_set e1 v, fun _ => he.mono (xt_set e1 v)⟩
            · rw [if_neg hw] at hf; cases hf
    | cl f ss => exact ⟨w, XT.refl _, fun z => by cases z⟩
  | succ n ih =>
    intro ths env ts st w he h
    cases st with
    | lt x t s =>
      unfold execT
      cases eg : giveT ths env s with
      | none => exact ⟨w, XT.refl _, fun z => by cases z⟩
      | some v => exact ⟨wt_snoc w h.2.1.2 (give_ok w he h.1 eg), xt_snoc, fun _ => he.snoc⟩
    | pt x k s =>
      have e0 : execT (n + 1) fns ths env (.pt x k s) = execT n fns ths env (.pt x k s) := by cases n <;> rfl
      rw [e0]
      exact ih ths env ts (.pt x k s) w he h
    | cl f ss =>
      obtain ⟨g, hg, hl⟩ := h.2.1
      show Kept ths ts ts (callT (execT n fns) fns ths env f ss)
      unfold callT
      rw [hg]
      cases eg : giveAll ths env ss with
      | none => exact ⟨w, XT.refl _, fun z => by cases z⟩
      | some vs =>
        dsimp only
        have ha : argF ts ((fnOf fns f).map (·.ps) |>.getD []) ss = none := h.1
        rw [hg] at ha
        obtain ⟨h1, h2⟩ := giveAll_ok w he ha hl eg
        obtain ⟨h3, h4, h5⟩ := newAll_ok w (EnvT.nil ths) h1 h2 (F.t f g hg).1
        rw [List.nil_append] at h5
        obtain ⟨h6, h7⟩ := runB_ok ih h3 h5 (F.b f g hg)
        exact ⟨h6, XT.trans h4 h7, fun _ => he.mono (XT.trans h4 h7)⟩
end Rk
namespace Rk
open PySem PySem.Spec PyProof.Rows L2
variable {P : Program} {w : World} {K : PySem.W.Frag} {mg : Str → Option Value} {base : Heap}
/-! the law's run -/
def rVl : Vl → V → Hp → Prop
  | .non, v, _ => v = .non
  | .int i, v, _ => v = .int i
  | .th m, v, J => ∃ a, v = .ref a ∧ J a = some (.tup [.str "thing", .int (m : Int)])
instance (x : Vl) (v : V) : Up (rVl x v) := ⟨fun {J J'} e h => by
  cases x with
  | non => exact h
  | int i => exact h
  | th m => obtain ⟨a, h1, h2⟩ := h; exact ⟨a, h1, e _ _ h2⟩⟩
structure LSd where
  st : Addr
  tl : Addr
  bl : Addr
  as : List Addr
  ed : Addr
/-- the things -/
def ThR (as : List Addr) (ths : List Th) (J H : Hp) : Prop := as.length = ths.length ∧ ∀ (i : Nat) (a : Addr) (t : Th), as[i]? = some a → ths[i]? = some t → ∃ kv xv, Mu J H a (.lst [kv, xv, .str t.name]) ∧ rTy t.ty kv J ∧ rVl t.val xv J
structure LS (d : LSd) (ths : List Th) (env : Env2) (c : Nat) (J H : Hp) : Prop where
  s : Mu J H d.st (.lst [.ref d.tl, .ref d.bl, .int (c : Int)])
  t : Mu J H d.tl (.lst (d.as.map V.ref))
  b : Mu J H d.bl (.lst [])
  a : ThR d.as ths J H
  e : ∃ kvs, Mu J H d.ed (.dK kvs) ∧ EntR rDp env kvs J
  nd : (d.st :: d.tl :: d.bl :: d.ed :: d.as).Nodup
def LSM (d : LSd) (b : Addr) : Prop := b ∈ d.st :: d.tl :: d.bl :: d.ed :: d.as
theorem ThR.step {M : Addr → Prop} {as : List Addr} {ths : List Th} {J H J1 H1 : Hp} (x : ThR as ths J H) (g : Gr M J H J1 H1) (n : ∀ a ∈ as, ¬ M a) : ThR as ths J1 H1 := ⟨x.1, fun i a t ha ht => by
  obtain ⟨kv, xv, m, h1, h2⟩ := x.2 i a t ha ht
  exact ⟨kv, xv, m.step g (n a (List.mem_of_getElem? ha)), Up.up g.jj h1, Up.up g.jj h2⟩⟩
theorem LS.step {d : LSd} {ths : List Th} {env : Env2} {c : Nat} {J H J1 H1 : Hp} (x : LS d ths env c J H) (g : Gr No J H J1 H1) : LS d ths env c J1 H1 := by
  obtain ⟨kvs, me, he⟩ := x.e
  exact ⟨x.s.up g, x.t.up g, x.b.up g, x.a.step g (fun _ _ z => z), ⟨kvs, me.up g, Up.up g.jj he⟩, x.nd⟩
theorem ThR.at {as : List Addr} {ths : List Th} {J H : Hp} (x : ThR as ths J H) {n : Nat} {t : Th} (e : ths[n]? = some t) : ∃ a kv xv, (as.map V.ref)[n]? = some (.ref a) ∧ as[n]? = some a ∧ Mu J H a (.lst [kv, xv, .str t.name]) ∧ rTy t.ty kv J ∧ rVl t.val xv J := by
  have hn : n < as.length := by rw [x.1]; exact (List.getElem?_eq_some_iff.mp e).1
  obtain ⟨kv, xv, h⟩ := x.2 n as[n] t (List.getElem?_eq_getElem hn) e
  exact ⟨as[n], kv, xv, by rw [List.getElem?_map, List.getElem?_eq_getElem hn]; rfl, List.getElem?_eq_getElem hn, h⟩
def oNum : Option Nat → V
  | none => .non
  | some n => .int (n : Int)
structure LkD where
  d : LSd
  ths : List Th
  env : Env2
  c : Nat
  ts : Tys
  x : Str
  k : Nat
abbrev spLawLook : Sp := SpD LkD (fun _ => No) (fun a vs J H => ∃ v1 v2 v3, vs = [v1, v2, v3] ∧ v1 = .ref a.d.st ∧ v2 = .ref a.d.ed ∧ rPl (a.x, a.k) v3 J ∧ LS a.d a.ths a.env a.c J H ∧ WT a.ths ∧ EnvT a.env a.ths a.ts ∧ reached a.ts a.x a.k = none ∧ a.k ≤ 1000) (fun a v _ _ => v = oNum (placeT a.ths a.env a.x a.k))
theorem hasS_hd {r : Str} {rest : Ty} (h : rd r = true) : (!hasS "r" r) = false := by
  have : hasS "r" r = true := h
  rw [this]; rfl
theorem ok_LawLook (T : Good K mg) : FnOk P w K mg base CX0 1 (He.ga K "_law_look") (fdOf K (He.ga K "_law_look")) ["_law_state", "_law_env", "_law_place"] spLawLook := by
  refine sp_ok (k := 0) (D_sLawLook T) S_sLawLook (fun a vs J H h => by obtain ⟨_, _, _, rfl, _⟩ := h; rfl) (fun cdv Ar outer s H0 vs E hr => ?_)
  refine ⟨_, (pss_cons (ps_set (i := 3) S_sLawLook.nd rfl (by first | exact Or.inl rfl | exact Or.inr rfl) (pe_dget (hu_of hr) (pv 1) (pe_ix (xT K) (pv 2) pe_int (fun _ _ => rfl)) (fun _ _ => rfl)))
  (pss_cons (ps_for PassesOwn.never rfl (pi_range1 (by rfl) (f_range T) (pa_cons (pe_ix (xT K) (pv 2) pe_int (fun _ _ => rfl)) pa_nil)) (pg_name (i := 4) S_sLawLook.nd rfl (by first | exact Or.inl rfl | exact Or.inr rfl))
  (pss_cons (ps_if (pt_cmpR o_ninS pe_str (pe_ix (xT K) (pe_ix (xL K) (pe_ix (xL K) (pe_ix (xL K) (pv 0) pe_int (fun _ _ => rfl)) (pv 3) (fun _ _ => rfl)) pe_int (fun _ _ => rfl)) pe_int (fun _ _ => rfl)) (by rfl)) (pss_one (ps_expr (pe_bm PySem.F.plainAttrs_list PySem.F.slot_list_append PySem.F.type_list_append mt_append (pe_ix (xL K) (pv 0) pe_int (fun _ _ => rfl)) (pa_cons (pe_tup (pa_cons pe_str (pa_cons (pv 3) pa_nil))) pa_nil)))) pss_nil)
  (pss_cons (ps_if (pt_cmpR o_isN (pe_ix (xL K) (pe_ix (xL K) (pe_ix (xL K) (pv 0) pe_int (fun _ _ => rfl)) (pv 3) (fun _ _ => rfl)) pe_int (fun _ _ => rfl)) pe_non (nomark _)) (pss_one (ps_ret pe_non)) pss_nil)
  (pss_one (ps_set (i := 3) S_sLawLook.nd rfl (by first | exact Or.inl rfl | exact Or.inr rfl) (pe_ix (xT K) (pe_ix (xL K) (pe_ix (xL K) (pe_ix (xL K) (pv 0) pe_int (fun _ _ => rfl)) (pv 3) (fun _ _ => rfl)) pe_int (fun _ _ => rfl)) pe_int (fun _ _ => rfl)))))))
  (pss_one (ps_ret (pv 3))))), ?_⟩
  rintro ⟨d, ths, env, c, ts, x, k⟩ J0 Q G ⟨_, _, _, rfl, rfl, rfl, ⟨pa, rfl, hpa⟩, hs, hw, he, hr, hk⟩ kk
  dsimp only at *
  obtain ⟨t, ht, hkt, hall⟩ := reached_none hr
  obtain ⟨n0, z0, en0, ez0, et0⟩ := he.look ht
  obtain ⟨kvs, me, hent⟩ := hs.e
  obtain ⟨_, hv0, rfl⟩ := hent.some en0
  have ms := hs.s
  have mt := hs.t
  have ha := hs.a
  walk_at "go"
  refine k_iR1E (by omega) ?_
  rw [Int.toNat_natCast]
  refine k_forR G (fun i σ' J' H' => ∃ (w : Option V) (n : Nat) (z : Th), σ' = [some (.ref d.st), some (.ref d.ed), some (.ref pa), some (.int (n : Int)), w] ∧ LS d ths env c J' H' ∧ ths[n]? = some z ∧ conv z.ty (t.drop i) = true ∧ placeT ths env x k = lookT ths n (k - i) ∧ i ≤ k) ⟨_, n0, z0, rfl, hs, ez0, by rw [et0]; exact conv_refl _, by unfold placeT; rw [en0]; rfl, Nat.zero_le _⟩ ?_ ?_
  · rintro i σ' J1 H1 hi e1 G1 ⟨w, n, z, rfl, hs1, ez, cz, hp, hik⟩
    obtain ⟨r, rest, h1, h2, h3⟩ := step_down hw ez cz (by omega) (all_rd hall (by omega) i hi)
    have ms1 := hs1.s
    have mt1 := hs1.t
    obtain ⟨a, kv, xv, ha1, ha2, ma, ⟨ka, rfl, hka, _⟩, hxv⟩ := hs1.a.at ez
    rw [h1] at hka
    have hlk : lookT ths n (k - i) = match ths[n]? with
      | some ⟨_, _, .th m⟩ => lookT ths m (k - (i + 1))
      | _ => none := by
      rw [show k - i = (k - (i + 1)) + 1 by omega]
      rfl
    rw [ez] at hlk
    walk_at "go"
    refine ifF (hasS_hd (rest := rest) h2) ?_
    cases z with
    | mk nm ty v =>
      dsimp only at *
      cases v with
      | non =>
        obtain rfl : xv = .non := hxv
        walk_at "go"
        exact kk _ _ _ G1 (by rw [hp, hlk]; rfl)
      | int q =>
        have h3 : t.drop (i + 1) = [] := h3
        have := congrArg List.length h3
        simp at this
        omega
      | th m =>
        obtain ⟨va, rfl, hva⟩ := hxv
        obtain ⟨y, e2, c2⟩ := h3
        walk_at "go"
        refine ifF rfl ?_
        walk_at "go"
        exact ⟨_, e1, G1, _, m, y, rfl, hs1, e2, c2, by rw [hp, hlk], hi⟩
  · rintro σ' J1 H1 e1 G1 ⟨w, n, z, rfl, hs1, ez, cz, hp, hik⟩
    walk_at "go"
    refine kk _ _ _ G1 ?_
    rw [hp, Nat.sub_self]
    rfl
end Rk
namespace Rk
open PySem PySem.Spec PyProof.Rows L2
variable {P : Program} {w : World} {K : PySem.W.Frag} {mg : Str → Option Value} {base : Heap}
def SrcK : Src → Prop
  | .val _ k => k ≤ 1000
  | .adr _ k => k ≤ 1000
  | _ => True
structure GvD where
  d : LSd
  ths : List Th
  env : Env2
  c : Nat
  ts : Tys
  s : Src
  u : Ty
def oGv : Option Vl → V → Hp → Prop
  | none, v, _ => v = .non
  | some x, v, J => ∃ a xv, v = .ref a ∧ J a = some (.lst [xv]) ∧ rVl x xv J
abbrev spLawGive : Sp := SpD GvD (fun _ => No) (fun a vs J H => ∃ v1 v2 v3, vs = [v1, v2, v3] ∧ v1 = .ref a.d.st ∧ v2 = .ref a.d.ed ∧ rSrc a.s v3 J ∧ LS a.d a.ths a.env a.c J H ∧ WT a.ths ∧ EnvT a.env a.ths a.ts ∧ srcF a.ts a.s a.u = none ∧ SrcK a.s) (fun a v J _ => oGv (giveT a.ths a.env a.s) v J)
theorem srcF_val {ts : Tys} {x : Str} {k : Nat} {u : Ty} (h : srcF ts (.val x k) u = none) : reached ts x k = none ∧ rd ((tyOf ts x).getD k "") = true := by
  unfold srcF at h
  dsimp only at h
  cases er : reached ts x k with
  | some e => rw [er] at h; cases h
  | none =>
    rw [er] at h
    dsimp only at h
    by_cases q : rd ((tyOf ts x).getD k "") = true
    · exact ⟨rfl, q⟩
    · rw [if_neg q] at h; cases h
theorem srcF_adr {ts : Tys} {x : Str} {k : Nat} {u : Ty} (h : srcF ts (.adr x k) u = none) : reached ts x k = none := by
  unfold srcF at h
  dsimp only at h
  cases er : reached ts x k with
  | some e => rw [er] at h; cases h
  | none => rfl
theorem ok_LawGive (T : Good K mg) : FnOk P w K mg base CX0 2 (He.ga K "_law_give") (fdOf K (He.ga K "_law_give")) ["_law_state", "_law_env", "_law_source_here"] spLawGive := by
  refine sp_ok (k := 1) (D_sLawGive T) S_sLawGive (fun a vs J H h => by obtain ⟨_, _, _, rfl, _⟩ := h; rfl) (fun cdv Ar outer s H0 vs E hr => ?_)
  refine ⟨_, (pss_cons (ps_if (pt_cmpR op_eq (pe_ix (xT K) (pv 2) pe_int (fun _ _ => rfl)) pe_str (nomark _)) (pss_one (ps_ret (pe_lst (pa_cons (pe_ix (xT K) (pv 2) pe_int (fun _ _ => rfl)) pa_nil)))) pss_nil)
  (pss_cons (ps_if (pt_cmpR op_eq (pe_ix (xT K) (pv 2) pe_int (fun _ _ => rfl)) pe_str (nomark _)) (pss_one (ps_ret (pe_lst (pa_cons pe_non pa_nil)))) pss_nil)
  (pss_cons (ps_set (i := 3) S_sLawGive.nd rfl (by first | exact Or.inl rfl | exact Or.inr rfl) (pe_call (ok_LawLook T) (hr.mono (by omega)) rfl (g_law_look T) (D_sLawLook T).kp (B_sLawLook T) .nil pass0 (pa_cons (pv 0) (pa_cons (pv 1) (pa_cons (pe_ix (xT K) (pv 2) pe_int (fun _ _ => rfl)) pa_nil)))))
  (pss_cons (ps_if (pt_cmpR o_isN (pv 3) pe_non (nomark _)) (pss_one (ps_ret pe_non)) pss_nil)
  (pss_cons (ps_if (pt_cmpR op_eq (pe_ix (xT K) (pv 2) pe_int (fun _ _ => rfl)) pe_str (nomark _)) (pss_one (ps_ret (pe_lst (pa_cons (pe_tup (pa_cons pe_str (pa_cons (pv 3) pa_nil))) pa_nil)))) pss_nil)
  (pss_cons (ps_if (pt_cmpR o_ninS pe_str (pe_ix (xT K) (pe_ix (xL K) (pe_ix (xL K) (pe_ix (xL K) (pv 0) pe_int (fun _ _ => rfl)) (pv 3) (fun _ _ => rfl)) pe_int (fun _ _ => rfl)) pe_int (fun _ _ => rfl)) (by rfl)) (pss_one (ps_expr (pe_bm PySem.F.plainAttrs_list PySem.F.slot_list_append PySem.F.type_list_append mt_append (pe_ix (xL K) (pv 0) pe_int (fun _ _ => rfl)) (pa_cons (pe_tup (pa_cons pe_str (pa_cons (pv 3) pa_nil))) pa_nil)))) pss_nil)
  (pss_one (ps_ret (pe_lst (pa_cons (pe_ix (xL K) (pe_ix (xL K) (pe_ix (xL K) (pv 0) pe_int (fun _ _ => rfl)) (pv 3) (fun _ _ => rfl)) pe_int (fun _ _ => rfl)) pa_nil)))))))))), ?_⟩
  rintro ⟨d, ths, env, c, ts, s, u⟩ J0 Q G ⟨_, _, _, rfl, rfl, rfl, hsr, hs, hw, he, hf, hk⟩ kk
  dsimp only at *
  cases s with
  | num n =>
    obtain ⟨a, rfl, ha⟩ := hsr
    walk_at "go"
    rename_i P1 J1 H1 hP1 e1 hJ1 g1 G1
    exact kk _ _ _ G1 ⟨P1, _, rfl, hJ1, rfl⟩
  | null =>
    obtain ⟨a, rfl, ha⟩ := hsr
    walk_at "go"
    rename_i P1 J1 H1 hP1 e1 hJ1 g1 G1
    exact kk _ _ _ G1 ⟨P1, _, rfl, hJ1, rfl⟩
  | val x k =>
    obtain ⟨a, b, rfl, ha, hb⟩ := hsr
    obtain ⟨hr, hrd⟩ := srcF_val hf
    walk_at "go"
    refine use_sp G ⟨d, ths, env, c, ts, x, k⟩ ⟨_, _, _, rfl, rfl, rfl, ⟨b, rfl, hb⟩, hs, hw, he, hr, hk⟩ (fun _ z => z.elim) ?_
    rintro v J1 H1 e1 g1 G1 hv
    dsimp only at hv
    subst hv
    have hs1 := hs.step g1
    cases ep : placeT ths env x k with
    | none =>
      walk_at "go"
      exact kk _ _ _ G1 (by unfold giveT; dsimp only; rw [ep]; rfl)
    | some n =>
      obtain ⟨t, y, ht, hkt, e2, c2⟩ := place_ok hw he hr ep
      have eto : tyOf ts x = t := by unfold tyOf; rw [ht]; rfl
      rw [eto] at hrd
      obtain ⟨r, rest, h1, h2, h3⟩ := step_down hw e2 c2 hkt hrd
      have ms1 := hs1.s
      have mt1 := hs1.t
      obtain ⟨ad, kv, xv, ha1, ha2, ma, ⟨ka, rfl, hka, _⟩, hxv⟩ := hs1.a.at e2
      rw [h1] at hka
      have hfin : ∀ J' xv', rVl y.val xv' J' → ∀ P', J' P' = some (.lst [xv']) → oGv (giveT ths env (.val x k)) (.ref P') J' := by
        intro J' xv' h P' hP
        unfold giveT
        dsimp only
        rw [ep]
        show oGv (valT ths n) _ _
        unfold valT
        rw [e2]
        exact ⟨P', xv', rfl, hP, h⟩
      dsimp only [oNum]
      walk_at "go"
      refine ifF rfl ?_
      walk_at "go"
      refine ifF (hasS_hd (rest := rest) h2) ?_
      walk_at "go"
      rename_i P2 J2 H2 hP2 e3 hJ2 g2 G2
      exact kk _ _ _ G2 (hfin _ _ (Up.up e3 hxv) _ hJ2)
  | adr x k =>
    obtain ⟨a, b, rfl, ha, hb⟩ := hsr
    have hr := srcF_adr hf
    walk_at "go"
    refine use_sp G ⟨d, ths, env, c, ts, x, k⟩ ⟨_, _, _, rfl, rfl, rfl, ⟨b, rfl, hb⟩, hs, hw, he, hr, hk⟩ (fun _ z => z.elim) ?_
    rintro v J1 H1 e1 g1 G1 hv
    dsimp only at hv
    subst hv
    cases ep : placeT ths env x k with
    | none =>
      walk_at "go"
      exact kk _ _ _ G1 (by unfold giveT; dsimp only; rw [ep]; rfl)
    | some n =>
      walk_at "go"
      refine ifF rfl ?_
      walk_at "go"
      rename_i P2 J2 H2 hP2 e2 hJ2 g2 G2 P3 J3 H3 hP3 e3 hJ3 g3 G3
      refine kk _ _ _ G3 ?_
      unfold giveT
      dsimp only
      rw [ep]
      exact ⟨P3, _, rfl, hJ3, P2, rfl, e3 _ _ hJ2⟩
structure NwD where
  d : LSd
  ths : List Th
  env : Env2
  c : Nat
  x : Str
  t : Ty
  v : Vl
  hh : Hp
abbrev spLawNew : Sp := SpD NwD (fun a => LSM a.d) (fun a vs J H => ∃ v1 v2 v3 v4 v5, vs = [v1, v2, v3, v4, v5] ∧ v1 = .ref a.d.st ∧ v2 = .ref a.d.ed ∧ v3 = .str a.x ∧ rTy a.t v4 J ∧ rVl a.v v5 J ∧ LS a.d a.ths a.env a.c J H ∧ a.env.lookup a.x = none ∧ a.ths.length ≤ 10000 ∧ a.env.length ≤ 10000 ∧ a.hh = H)
  (fun a v J H => v = .non ∧ ∃ b, a.hh b = none ∧ LS { a.d with as := a.d.as ++ [b] } (a.ths ++ [⟨a.x, a.t, a.v⟩]) (a.env ++ [(a.x, a.ths.length)]) a.c J H)
theorem ok_LawNew (T : Good K mg) : FnOk P w K mg base CX0 1 (He.ga K "_law_new") (fdOf K (He.ga K "_law_new")) ["_law_state", "_law_env", "_law_x", "_law_kt", "_law_value"] spLawNew := by
  refine sp_ok (k := 0) (D_sLawNew T) S_sLawNew (fun a vs J H h => by obtain ⟨_, _, _, _, _, rfl, _⟩ := h; rfl) (fun cdv Ar outer s H0 vs E hr => ?_)
  refine ⟨_, (pss_cons (ps_dput (hu_of hr) (pv 1) (pv 2) (pe_callB (cLen K) (by rfl) (f_len T) (show bootBuiltins "len" = some (.builtin "len") by decide +kernel) (pa_cons (pe_ix (xL K) (pv 0) pe_int (fun _ _ => rfl)) pa_nil)) rfl)
  (pss_one (ps_expr (pe_bm PySem.F.plainAttrs_list PySem.F.slot_list_append PySem.F.type_list_append mt_append (pe_ix (xL K) (pv 0) pe_int (fun _ _ => rfl)) (pa_cons (pe_lst (pa_cons (pv 3) (pa_cons (pv 4) (pa_cons (pv 2) pa_nil)))) pa_nil))))), ?_⟩
  rintro ⟨d, ths, env, c, x, t, vl, hh⟩ J0 Q G ⟨_, _, _, v4, v5, rfl, rfl, rfl, rfl, ht, hv, hs, hx, hl1, hl2, rfl⟩ kk
  dsimp only at *
  have zs := sizeLine_eq
  obtain ⟨kvs, me, he⟩ := hs.e
  have ms := hs.s
  have mt := hs.t
  have mb := hs.b
  have hth := hs.a
  have hnd := hs.nd
  simp only [List.nodup_cons, List.mem_cons, not_or] at hnd
  obtain ⟨⟨n1, n2, n3, n4⟩, ⟨n5, n6, n7⟩, ⟨n8, n9⟩, n10, n11⟩ := hnd
  have hlen : (d.as.map V.ref).length = ths.length := by rw [List.length_map]; exact hth.1
  walk_at "go"
  rw [hlen]
  refine k_dputM G me (.inl (by unfold LSM; simp)) (by rw [he.1]; omega) ?_
  intro H1 g1 G1 me1
  have ms1 := ms.step g1 (fun e => n3 e)
  have mt1 := mt.step g1 (fun e => n6 e)
  have mb1 := mb.step g1 (fun e => n8 e)
  have hth1 := hth.step g1 (fun a ha e => n10 (e ▸ ha))
  have he1 := entR_put (t := ths.length) he hx (show rDp ths.length (V.int (ths.length : Int)) J0 from rfl)
  walk_at "gm"
  refine k_lstM G1 (len_ok rfl) ?_
  intro b H2 hb hb0 mnew g2 G2
  have ms2 := ms1.up g2
  have mt2 := mt1.up g2
  have mb2 := mb1.up g2
  have me2 := me1.up g2
  have hth2 := hth1.step g2 (fun _ _ z => z)
  have nb1 := ms1.nen hb
  have nb2 := mt1.nen hb
  have nb3 := mb1.nen hb
  have nb4 := me1.nen hb
  have nb5 : b ∉ d.as := by
    intro hm
    obtain ⟨i, hi, e⟩ := List.getElem_of_mem hm
    have hi2 : i < ths.length := by rw [← hth1.1]; exact hi
    obtain ⟨kv, xv, m, _⟩ := hth1.2 i b ths[i] (by rw [← e]; exact List.getElem?_eq_getElem hi) (List.getElem?_eq_getElem hi2)
    exact m.nen hb rfl
  walk_at "go"
  refine k_app G2 mt2 (.inl (by unfold LSM; simp)) (by rw [hlen]; omega) ?_
  intro H3 g3 G3 mt3
  refine kk _ _ _ G3 ⟨rfl, b, hb0, ?_⟩
  refine ⟨ms2.step g3 (fun e => n1 e), by simpa using mt3, mb2.step g3 (fun e => n5 e.symm), ?_, ⟨_, me2.step g3 (fun e => n6 e.symm), he1⟩, ?_⟩
  · have h3 := hth2.step g3 (fun a ha e => n7 (e ▸ ha))
    refine ⟨by simp [h3.1], fun i a z ha hz => ?_⟩
    by_cases hi : i < d.as.length
    · rw [List.getElem?_append_left hi] at ha
      rw [List.getElem?_append_left (by rw [← h3.1]; exact hi)] at hz
      exact h3.2 i a z ha hz
    · have hi2 : i = d.as.length := by
        have := (List.getElem?_eq_some_iff.mp ha).1
        simp at this; omega
      subst hi2
      rw [List.getElem?_append_right (Nat.le_refl _), Nat.sub_self] at ha
      rw [h3.1, List.getElem?_append_right (Nat.le_refl _), Nat.sub_self] at hz
      simp at ha hz
      subst ha; subst hz
      exact ⟨v4, v5, mnew.step g3 (fun e => nb2 e.symm), ht, hv⟩
  · show (d.st :: d.tl :: d.bl :: d.ed :: (d.as ++ [b])).Nodup
    have : d.st :: d.tl :: d.bl :: d.ed :: (d.as ++ [b]) = (d.st :: d.tl :: d.bl :: d.ed :: d.as) ++ [b] := rfl
    rw [this, List.nodup_append]
    refine ⟨hs.nd, by simp, ?_⟩
    rintro a ha b' hb' rfl
    obtain rfl : a = b := by simpa using hb'
    simp only [List.mem_cons] at ha
    rcases ha with e | e | e | e | e
    · exact nb1 e.symm
    · exact nb2 e.symm
    · exact nb3 e.symm
    · exact nb4 e.symm
    · exact nb5 e
end Rk
namespace Rk
open PySem PySem.Spec PyProof.Rows L2
variable {P : Program} {w : World} {K : PySem.W.Frag} {mg : Str → Option Value} {base : Heap}
structure PtD where
  d : LSd
  ths : List Th
  env : Env2
  c : Nat
  ts : Tys
  x : Str
  k : Nat
  s : Src
theorem hasS_hw {r : Str} (h : wr r = true) : (!hasS "w" r) = false := by
  have : hasS "w" r = true := h
  rw [this]; rfl
theorem nodup_get {l : List Addr} (h : l.Nodup) {i j : Nat} {a : Addr} (h1 : l[i]? = some a) (h2 : l[j]? = some a) : i = j :=
  (List.getElem?_inj (List.getElem?_eq_some_iff.mp h1).1 h).mp (h1.trans h2.symm)
abbrev spLawPut : Sp := SpD PtD (fun a => LSM a.d) (fun a vs J H => ∃ v1 v2 v3, vs = [v1, v2, v3] ∧ v1 = .ref a.d.st ∧ v2 = .ref a.d.ed ∧ rStm rTy (.pt a.x a.k a.s) v3 J ∧ LS a.d a.ths a.env a.c J H ∧ WT a.ths ∧ EnvT a.env a.ths a.ts ∧ putF1 a.ts a.x a.k a.s = none ∧ SrcK a.s ∧ a.k ≤ 1000)
  (fun a v J H => v = .bl (execT 0 [] a.ths a.env (.pt a.x a.k a.s)).1 ∧ LS a.d (execT 0 [] a.ths a.env (.pt a.x a.k a.s)).2.1 a.env a.c J H)
theorem ok_LawPut (T : Good K mg) : FnOk P w K mg base CX0 3 (He.ga K "_law_put") (fdOf K (He.ga K "_law_put")) ["_law_state", "_law_env", "_law_st"] spLawPut := by
  refine sp_ok (k := 2) (D_sLawPut T) S_sLawPut (fun a vs J H h => by obtain ⟨_, _, _, rfl, _⟩ := h; rfl) (fun cdv Ar outer s H0 vs E hr => ?_)
  refine ⟨_, (pss_cons (ps_set (i := 3) S_sLawPut.nd rfl (by first | exact Or.inl rfl | exact Or.inr rfl) (pe_call (ok_LawLook T) (hr.mono (by omega)) rfl (g_law_look T) (D_sLawLook T).kp (B_sLawLook T) .nil pass0 (pa_cons (pv 0) (pa_cons (pv 1) (pa_cons (pe_ix (xT K) (pv 2) pe_int (fun _ _ => rfl)) pa_nil)))))
  (pss_cons (ps_if (pt_cmpR o_isN (pv 3) pe_non (nomark _)) (pss_one (ps_ret pe_bl)) pss_nil)
  (pss_cons (ps_set (i := 4) S_sLawPut.nd rfl (by first | exact Or.inl rfl | exact Or.inr rfl) (pe_call (ok_LawGive T) (hr.mono (by omega)) rfl (g_law_give T) (D_sLawGive T).kp (B_sLawGive T) .nil pass0 (pa_cons (pv 0) (pa_cons (pv 1) (pa_cons (pe_ix (xT K) (pv 2) pe_int (fun _ _ => rfl)) pa_nil)))))
  (pss_cons (ps_if (pt_cmpR o_isN (pv 4) pe_non (nomark _)) (pss_one (ps_ret pe_bl)) pss_nil)
  (pss_cons (ps_if (pt_cmpR o_ninS pe_str (pe_ix (xT K) (pe_ix (xL K) (pe_ix (xL K) (pe_ix (xL K) (pv 0) pe_int (fun _ _ => rfl)) (pv 3) (fun _ _ => rfl)) pe_int (fun _ _ => rfl)) pe_int (fun _ _ => rfl)) (by rfl)) (pss_one (ps_expr (pe_bm PySem.F.plainAttrs_list PySem.F.slot_list_append PySem.F.type_list_append mt_append (pe_ix (xL K) (pv 0) pe_int (fun _ _ => rfl)) (pa_cons (pe_tup (pa_cons pe_str (pa_cons (pv 3) pa_nil))) pa_nil)))) pss_nil)
  (pss_cons (ps_asg (pe_ix (xL K) (pv 4) pe_int (fun _ _ => rfl)) (pg_sub (pe_ix (xL K) (pe_ix (xL K) (pv 0) pe_int (fun _ _ => rfl)) (pv 3) (fun _ _ => rfl)) pe_int set_list))
  (pss_one (ps_ret pe_bl)))))))), ?_⟩
  rintro ⟨d, ths, env, c, ts, x, k, s⟩ J0 Q G ⟨_, _, v3, rfl, rfl, rfl, hst, hs, hw, he, hf, hk, hk2⟩ kk
  dsimp only at *
  obtain ⟨a, b, sv, rfl, ha, hb, hsr⟩ := hst
  have hr : reached ts x k = none := by
    unfold putF1 at hf
    cases er : reached ts x k with
    | some e => rw [er] at hf; cases hf
    | none => rfl
  walk_at "go"
  refine use_sp G ⟨d, ths, env, c, ts, x, k⟩ ⟨_, _, _, rfl, rfl, rfl, ⟨b, rfl, hb⟩, hs, hw, he, hr, hk2⟩ (fun _ z => z.elim) ?_
  rintro v J1 H1 e1 g1 G1 hv
  dsimp only at hv
  subst hv
  have hs1 := hs.step g1
  cases ep : placeT ths env x k with
  | none =>
    have ex : execT 0 [] ths env (.pt x k s) = (false, ths, env) := by unfold execT; rw [ep]
    rw [ex] at kk
    walk_at "go"
    exact kk _ _ _ G1 ⟨rfl, hs1⟩
  | some n =>
    obtain ⟨t, y, ht, hkt, e2, c2⟩ := place_ok hw he hr ep
    have eto : tyOf ts x = t := by unfold tyOf; rw [ht]; rfl
    unfold putF1 at hf
    rw [hr, eto] at hf
    dsimp only at hf
    have hwr : wr (t.getD k "") = true := by
      by_cases q : wr (t.getD k "") = true
      · exact q
      · rw [if_neg q] at hf; cases hf
    rw [if_pos hwr] at hf
    have hd : t.drop k = t.getD k "" :: t.drop (k + 1) := by
      rw [List.drop_eq_getElem_cons hkt]
      simp [List.getD, List.getElem?_eq_getElem hkt]
    dsimp only [oNum]
    walk_at "go"
    refine ifF rfl ?_
    walk_at "go"
    refine use_sp G1 ⟨d, ths, env, c, ts, s, t.drop (k + 1)⟩ ⟨_, _, _, rfl, rfl, rfl, Up.up e1 hsr, hs1, hw, he, hf, hk⟩ (fun _ z => z.elim) ?_
    rintro v J2 H2 e3 g2 G2 hv
    dsimp only at hv
    have hs2 := hs1.step g2
    cases eg : giveT ths env s with
    | none =>
      rw [eg] at hv
      obtain rfl : v = .non := hv
      have ex : execT 0 [] ths env (.pt x k s) = (false, ths, env) := by unfold execT; rw [ep, eg]
      rw [ex] at kk
      walk_at "go"
      exact kk _ _ _ G2 ⟨rfl, hs2⟩
    | some vl =>
      rw [eg] at hv
      obtain ⟨pa, xv, rfl, hpa, hxv⟩ := hv
      have ex : execT 0 [] ths env (.pt x k s) = (true, setT ths n vl, env) := by unfold execT; rw [ep, eg]
      rw [ex] at kk
      have ms2 := hs2.s
      have mt2 := hs2.t
      have mb2 := hs2.b
      obtain ⟨kvs, me2, hent⟩ := hs2.e
      obtain ⟨ad, kv, xv0, ha1, ha2, ma, ⟨ka, rfl, hka, hkl⟩, hxv0⟩ := hs2.a.at e2
      have hy := (hw n y e2).1
      cases ey : y.ty with
      | nil => exact absurd ey hy
      | cons r rest =>
        rw [ey, hd] at c2
        have hwr2 := ((conv_cons c2).2 hwr).1
        rw [ey] at hka
        walk_at "go"
        refine ifF rfl ?_
        walk_at "go"
        refine ifF (hasS_hw hwr2) ?_
        walk_at "go"
        have hadm : ad ∈ d.as := List.mem_of_getElem? ha2
        refine k_setL (j := 1) G2 ma (.inl (by unfold LSM; simp [hadm])) rfl ?_
        intro H3 g3 G3 ma3
        have hnd := hs2.nd
        simp only [List.nodup_cons, List.mem_cons, not_or] at hnd
        obtain ⟨⟨n1, n2, n3, n4⟩, ⟨n5, n6, n7⟩, ⟨n8, n9⟩, n10, n11⟩ := hnd
        walk_at "go"
        refine kk _ _ _ G3 ⟨rfl, ms2.step g3 (fun e => n4 (e ▸ hadm)), mt2.step g3 (fun e => n7 (e ▸ hadm)), mb2.step g3 (fun e => n9 (e ▸ hadm)), ?_, ⟨kvs, me2.step g3 (fun e => n10 (e ▸ hadm)), hent⟩, hs2.nd⟩
        have hth := hs2.a
        have hlen : (setT ths n vl).length = ths.length := by unfold setT; rw [e2]; simp
        refine ⟨by rw [hlen]; exact hth.1, fun i z w hz hw2 => ?_⟩
        rw [setT_get e2] at hw2
        by_cases q : i = n
        · subst q
          rw [if_pos rfl] at hw2
          cases hw2
          rw [ha2] at hz
          cases hz
          exact ⟨.ref ka, xv, by simpa using ma3, ⟨ka, rfl, (by show _ = some (HO.tup (y.ty.map V.str)); rw [ey]; exact hka), hkl⟩, hxv⟩
        · rw [if_neg q] at hw2
          obtain ⟨kv', xv', m', h1', h2'⟩ := hth.2 i z w hz hw2
          exact ⟨kv', xv', m'.step g3 (fun e => q (nodup_get n11 (e ▸ hz) ha2)), h1', h2'⟩
end Rk
namespace Rk
open PySem PySem.Spec PyProof.Rows L2
variable {P : Program} {w : World} {K : PySem.W.Frag} {mg : Str → Option Value} {base : Heap}
def StmK : Stm Ty → Prop
  | .lt _ _ s => SrcK s
  | .pt _ k s => SrcK s ∧ k ≤ 1000
  | .cl _ ss => ∀ s ∈ ss, SrcK s
def CallOk (fns : List (Fn Ty)) : Nat → Stm Ty → Prop
  | 0, .cl _ _ => False
  | n + 1, .cl f _ => ∀ g, fnOf fns f = some g → ∀ st ∈ g.body, CallOk fns n st
  | _, _ => True
def costE : Nat → Nat
  | 0 => 1
  | n + 1 => 1 + 3 * costE n
structure FnsK (fns : List (Fn Ty)) : Prop where
  n : FnsN fns
  k : ∀ f g, fnOf fns f = some g → g.ps.length ≤ 2 ∧ g.body.length ≤ 3 ∧ (∀ st ∈ g.body, StmK st) ∧ ∀ q ∈ g.ps, q.2.length ≤ 6
  l : fns.length ≤ 1000
structure ExD where
  d : LSd
  ths : List Th
  env : Env2
  c : Nat
  ts : Tys
  fns : List (Fn Ty)
  st : Stm Ty
  hh : Hp
def spEx (n : Nat) : Sp := SpD ExD (fun a => LSM a.d) (fun a vs J H => ∃ v1 v2 v3 v4, vs = [v1, v2, v3, v4] ∧ v1 = .ref a.d.st ∧ v2 = .ref a.d.ed ∧ rLst (rLFn rTy) a.fns v3 J ∧ rStm rTy a.st v4 J ∧ LS a.d a.ths a.env a.c J H ∧ WT a.ths ∧ EnvT a.env a.ths a.ts ∧ BlkN a.fns a.ts [a.st] ∧ FnsK a.fns ∧ StmK a.st ∧ CallOk a.fns n a.st ∧ a.ths.length + 4 * costE n ≤ 9000 ∧ a.env.length ≤ 9000 ∧ a.hh = H)
  (fun a v J H => v = .bl (execT n a.fns a.ths a.env a.st).1 ∧ ∃ nw c', LS { a.d with as := a.d.as ++ nw } (execT n a.fns a.ths a.env a.st).2.1 (execT n a.fns a.ths a.env a.st).2.2 c' J H ∧ (∀ b ∈ nw, a.hh b = none) ∧ (c' ≤ a.c + costE n ∧ a.c ≤ c') ∧ (execT n a.fns a.ths a.env a.st).2.1.length + 4 * a.c ≤ a.ths.length + 4 * c')
theorem execT_pt (n : Nat) (fns : List (Fn Ty)) (ths : List Th) (env : Env2) (x : Str) (k : Nat) (s : Src) : execT n fns ths env (.pt x k s) = execT 0 [] ths env (.pt x k s) := by cases n <;> rfl
theorem setT_len (ths : List Th) (n : Nat) (v : Vl) : (setT ths n v).length = ths.length := by
  unfold setT
  cases ths[n]? <;> simp
theorem costE_pos (n : Nat) : 1 ≤ costE n := by
  cases n with
  | zero => exact Nat.le_refl 1
  | succ n => show 1 ≤ 1 + _; omega
theorem giveAll_drop {ths : List Th} {env : Env2} {ss : List Src} {i : Nat} {s : Src} (h : ss[i]? = some s) : giveAll ths env (ss.drop i) = match giveT ths env s with
    | none => none
    | some v => (giveAll ths env (ss.drop (i + 1))).map (v :: ·) := by
  obtain ⟨h1, rfl⟩ := List.getElem?_eq_some_iff.mp h
  rw [List.drop_eq_getElem_cons h1]
  rfl
theorem fnOf_fm2 {fns : List (Fn Ty)} {f : Str} {g : Fn Ty} (h : fnOf fns f = some g) : ∃ r, (fns.filterMap fun g => if g.name = f then some g else none) = g :: r := by
  induction fns with
  | nil => cases h
  | cons x xs ih =>
    unfold fnOf at h
    rw [List.find?_cons] at h
    by_cases e : x.name = f
    · rw [decide_eq_true e] at h
      cases h
      exact ⟨_, by rw [List.filterMap_cons, if_pos e]⟩
    · rw [decide_eq_false e] at h
      obtain ⟨r, hr⟩ := ih h
      exact ⟨r, by rw [List.filterMap_cons, if_neg e]; exact hr⟩
theorem newAll_drop {ths : List Th} {env : Env2} {ps : List (Str × Ty)} {vs : List Vl} {i : Nat} {p : Str × Ty} {v : Vl} (h1 : ps[i]? = some p) (h2 : vs[i]? = some v) : newAll ths env (ps.drop i) (vs.drop i) = newAll (ths ++ [⟨p.1, p.2, v⟩]) (env ++ [(p.1, ths.length)]) (ps.drop (i + 1)) (vs.drop (i + 1)) := by
  obtain ⟨h3, rfl⟩ := List.getElem?_eq_some_iff.mp h1
  obtain ⟨h4, rfl⟩ := List.getElem?_eq_some_iff.mp h2
  rw [List.drop_eq_getElem_cons h3, List.drop_eq_getElem_cons h4]
  rfl
theorem lookup_none_of {α : Type} {x : Str} : ∀ {l : List (Str × α)}, x ∉ l.map (·.1) → l.lookup x = none
  | [], _ => rfl
  | (y, d) :: l, h => by
    rw [List.map_cons, List.mem_cons, not_or] at h
    have : (x == y) = false := beq_eq_false_iff_ne.mpr h.1
    simp only [List.lookup, this]
    exact lookup_none_of h.2
theorem step_LawExecute (T : Good K mg) (n : Nat) {sp0 : Sp} (G0 : FnOk P w K mg base CX0 (3 + n) (He.ga K "_law_execute") (fdOf K (He.ga K "_law_execute")) ["_law_state", "_law_env", "_law_functions", "_law_st"] sp0) (h0 : ∀ vs H Q E, 0 < n → spEx (n - 1) vs H Q E → sp0 vs H Q E) : FnOk P w K mg base CX0 (3 + n + 1) (He.ga K "_law_execute") (fdOf K (He.ga K "_law_execute")) ["_law_state", "_law_env", "_law_functions", "_law_st"] (spEx n) := by
  refine sp_ok (k := 3 + n) (D_sLawExecute T) S_sLawExecute (fun a vs J H h => by obtain ⟨_, _, _, _, rfl, _⟩ := h; rfl) (fun cdv Ar outer s H0 vs E hr => ?_)
  refine ⟨_, (pss_cons (ps_asg (pe_op op_add (pe_ix (xL K) (pv 0) pe_int (fun _ _ => rfl)) pe_int) (pg_sub (pv 0) pe_int set_list))
  (pss_cons (ps_if (pt_cmpR op_eq (pe_ix (xT K) (pv 3) pe_int (fun _ _ => rfl)) pe_str (nomark _)) (pss_one (ps_ret (pe_call (ok_LawPut T) (hr.mono (by omega)) rfl (g_law_put T) (D_sLawPut T).kp (B_sLawPut T) .nil pass0 (pa_cons (pv 0) (pa_cons (pv 1) (pa_cons (pv 3) pa_nil)))))) pss_nil)
  (pss_cons (ps_if (pt_cmpR op_eq (pe_ix (xT K) (pv 3) pe_int (fun _ _ => rfl)) pe_str (nomark _)) (pss_cons (ps_set (i := 4) S_sLawExecute.nd rfl (by first | exact Or.inl rfl | exact Or.inr rfl) (pe_call (ok_LawGive T) (hr.mono (by omega)) rfl (g_law_give T) (D_sLawGive T).kp (B_sLawGive T) .nil pass0 (pa_cons (pv 0) (pa_cons (pv 1) (pa_cons (pe_ix (xT K) (pv 3) pe_int (fun _ _ => rfl)) pa_nil)))))
  (pss_cons (ps_if (pt_cmpR o_isN (pv 4) pe_non (nomark _)) (pss_one (ps_ret pe_bl)) pss_nil)
  (pss_cons (ps_expr (pe_call (ok_LawNew T) (hr.mono (by omega)) rfl (g_law_new T) (D_sLawNew T).kp (B_sLawNew T) .nil pass0 (pa_cons (pv 0) (pa_cons (pv 1) (pa_cons (pe_ix (xT K) (pv 3) pe_int (fun _ _ => rfl)) (pa_cons (pe_ix (xT K) (pv 3) pe_int (fun _ _ => rfl)) (pa_cons (pe_ix (xL K) (pv 4) pe_int (fun _ _ => rfl)) pa_nil)))))))
  (pss_one (ps_ret pe_bl))))) pss_nil)
  (pss_cons (ps_set (i := 5) S_sLawExecute.nd rfl (by first | exact Or.inl rfl | exact Or.inr rfl) (pe_lst pa_nil))
  (pss_cons (ps_for PassesOwn.never rfl (piL K (pe_ix (xT K) (pv 3) pe_int (fun _ _ => rfl))) (pg_name (i := 6) S_sLawExecute.nd rfl (by first | exact Or.inl rfl | exact Or.inr rfl))
  (pss_cons (ps_set (i := 4) S_sLawExecute.nd rfl (by first | exact Or.inl rfl | exact Or.inr rfl) (pe_call (ok_LawGive T) (hr.mono (by omega)) rfl (g_law_give T) (D_sLawGive T).kp (B_sLawGive T) .nil pass0 (pa_cons (pv 0) (pa_cons (pv 1) (pa_cons (pv 6) pa_nil)))))
  (pss_cons (ps_if (pt_cmpR o_isN (pv 4) pe_non (nomark _)) (pss_one (ps_ret pe_bl)) pss_nil)
  (pss_one (ps_expr (pe_bm PySem.F.plainAttrs_list PySem.F.slot_list_append PySem.F.type_list_append mt_append (pv 5) (pa_cons (pe_ix (xL K) (pv 4) pe_int (fun _ _ => rfl)) pa_nil)))))))
  (pss_cons (ps_set (i := 7) S_sLawExecute.nd rfl (by first | exact Or.inl rfl | exact Or.inr rfl) (pe_ix (xL K) (pe_lc (own := [("_law_g", 11)]) (by rfl) S_sLawExecute.nd (piL K (pv 2)) (blkOk_by (own := [("_law_g", 11)]) (N := ["_law_state", "_law_env", "_law_functions", "_law_st", "_law_told_here", "_law_values", "_law_source_here", "_law_f", "_law_inner", "_law_k", "_law_other", "_law_g"]) (sc := defScope sLawExecute) (by decide +kernel)) (fun _ _ _ _ _ => (pg_name (i := 11) S_sLawExecute.nd rfl (by first | exact Or.inl rfl | exact Or.inr rfl))) (fun _ _ _ _ _ => pts_one (pt_cmpR op_eq (pe_ix (xL K) (pv 11) pe_int (fun _ _ => rfl)) (pe_ix (xT K) (pv 3) pe_int (fun _ _ => rfl)) (nomark _))) (fun _ _ _ _ _ => (pv 11))) pe_int (fun _ _ => rfl)))
  (pss_cons (ps_set (i := 8) S_sLawExecute.nd rfl (by first | exact Or.inl rfl | exact Or.inr rfl) pe_dnewK)
  (pss_cons (ps_for PassesOwn.never rfl (pi_range1 (by rfl) (f_range T) (pa_cons (pe_callB (cLen K) (by rfl) (f_len T) (show bootBuiltins "len" = some (.builtin "len") by decide +kernel) (pa_cons (pv 5) pa_nil)) pa_nil)) (pg_name (i := 9) S_sLawExecute.nd rfl (by first | exact Or.inl rfl | exact Or.inr rfl))
  (pss_one (ps_expr (pe_call (ok_LawNew T) (hr.mono (by omega)) rfl (g_law_new T) (D_sLawNew T).kp (B_sLawNew T) .nil pass0 (pa_cons (pv 0) (pa_cons (pv 8) (pa_cons (pe_ix (xT K) (pe_ix (xL K) (pe_ix (xL K) (pv 7) pe_int (fun _ _ => rfl)) (pv 9) (fun _ _ => rfl)) pe_int (fun _ _ => rfl)) (pa_cons (pe_ix (xT K) (pe_ix (xL K) (pe_ix (xL K) (pv 7) pe_int (fun _ _ => rfl)) (pv 9) (fun _ _ => rfl)) pe_int (fun _ _ => rfl)) (pa_cons (pe_ix (xL K) (pv 5) (pv 9) (fun _ _ => rfl)) pa_nil)))))))))
  (pss_cons (ps_for PassesOwn.never rfl (piL K (pe_ix (xL K) (pv 7) pe_int (fun _ _ => rfl))) (pg_name (i := 10) S_sLawExecute.nd rfl (by first | exact Or.inl rfl | exact Or.inr rfl))
  (pss_one (ps_if (pt_not (pt_val (pe_call G0 (hr.mono (by omega)) rfl (g_law_execute T) (D_sLawExecute T).kp (B_sLawExecute T) .nil pass0 (pa_cons (pv 0) (pa_cons (pv 8) (pa_cons (pv 2) (pa_cons (pv 10) pa_nil))))))) (pss_one (ps_ret pe_bl)) pss_nil)))
  (pss_one (ps_ret pe_bl))))))))))), ?_⟩
  rintro ⟨d, ths, env, c, ts, fns, st, hh⟩ J0 Q G ⟨_, _, v3, v4, rfl, rfl, rfl, hfns, hst, hs, hw, he, hb, hF, hk, hc, hl1, hl2, rfl⟩ kk
  dsimp only at *
  have zs := sizeLine_eq
  have hcp := costE_pos n
  have ms := hs.s
  have hnd := hs.nd
  simp only [List.nodup_cons, List.mem_cons, not_or] at hnd
  obtain ⟨⟨n1, n2, n3, n4⟩, ⟨n5, n6, n7⟩, ⟨n8, n9⟩, n10, n11⟩ := hnd
  walk_at "go"
  refine k_setL (j := 2) G ms (.inl (by unfold LSM; simp)) rfl ?_
  intro H1 g1 G1 ms1
  have hs1 : LS d ths env (c + 1) J0 H1 := by
    obtain ⟨kvs, me, hent⟩ := hs.e
    exact ⟨by simpa using ms1, hs.t.step g1 (fun e => n1 e.symm), hs.b.step g1 (fun e => n2 e.symm), hs.a.step g1 (fun a ha e => n4 (e ▸ ha)), ⟨kvs, me.step g1 (fun e => n3 e.symm), hent⟩, hs.nd⟩
  cases st with
  | pt x k s =>
    have hst2 := hst
    obtain ⟨a, b, sv, rfl, ha, hb2, hsr⟩ := hst2
    rw [execT_pt] at kk
    walk_at "go"
    refine use_sp G1 ⟨d, ths, env, c + 1, ts, x, k, s⟩ ⟨_, _, _, rfl, rfl, rfl, hst, hs1, hw, he, hb.1, hk.1, hk.2⟩ (fun _ z => .inl z) ?_
    rintro v J2 H2 e2 g2 G2 ⟨hv, hs2⟩
    dsimp only at hv hs2
    have hex : (execT 0 [] ths env (.pt x k s)).2.2 = env ∧ (execT 0 [] ths env (.pt x k s)).2.1.length = ths.length := by
      unfold execT
      cases placeT ths env x k with
      | none => exact ⟨rfl, rfl⟩
      | some m =>
        cases giveT ths env s with
        | none => exact ⟨rfl, rfl⟩
        | some w => exact ⟨rfl, setT_len _ _ _⟩
    refine kk _ _ _ G2 ⟨hv, [], c + 1, ?_, by simp, ⟨by omega, by omega⟩, by rw [hex.2]; omega⟩
    rw [hex.1]
    simpa using hs2
  | lt x t s =>
    obtain ⟨a, kv, sv, rfl, ha, hkv, hsr⟩ := hst
    have ex : execT n fns ths env (.lt x t s) = match giveT ths env s with
      | none => (false, ths, env)
      | some v => (true, ths ++ [⟨x, t, v⟩], env ++ [(x, ths.length)]) := by cases n <;> rfl
    rw [ex] at kk
    walk_at "go"
    refine use_sp G1 ⟨d, ths, env, c + 1, ts, s, t.drop 1⟩ ⟨_, _, _, rfl, rfl, rfl, hsr, hs1, hw, he, hb.1, hk⟩ (fun _ z => z.elim) ?_
    rintro v J2 H2 e2 g2 G2 hv
    dsimp only at hv
    have hs2 := hs1.step g2
    cases eg : giveT ths env s with
    | none =>
      rw [eg] at hv kk
      obtain rfl : v = .non := hv
      walk_at "go"
      exact kk _ _ _ G2 ⟨rfl, [], c + 1, by simpa using hs2, by simp, ⟨by omega, by omega⟩, by show ths.length + _ ≤ _; omega⟩
    | some vl =>
      rw [eg] at hv kk
      obtain ⟨pa, xv, rfl, hpa, hxv⟩ := hv
      walk_at "go"
      refine ifF rfl ?_
      walk_at "go"
      refine use_sp G2 ⟨d, ths, env, c + 1, x, t, vl, H2⟩ ⟨_, _, _, _, _, rfl, rfl, rfl, rfl, Up.up e2 hkv, hxv, hs2, he.none hb.2.1.1, by show ths.length ≤ 10000; omega, by show env.length ≤ 10000; omega, rfl⟩ (fun _ z => .inl z) ?_
      rintro v J3 H3 e3 g3 G3 ⟨hv3, b, hb3, hs3⟩
      dsimp only at hb3 hs3
      walk_at "go"
      exact kk _ _ _ G3 ⟨rfl, [b], c + 1, hs3, fun z hz => by obtain rfl : z = b := by simpa using hz
                                                              exact G2.al _ hb3, ⟨by omega, by omega⟩, by simp; omega⟩
  | cl f ss =>
    obtain ⟨a, l, xs, rfl, ha, hl, hss⟩ := hst
    cases n with
    | zero => exact hc.elim
    | succ n =>
    obtain ⟨g, hg, hgl⟩ := hb.2.1
    have hex : execT (n + 1) fns ths env (.cl f ss) = callT (execT n fns) fns ths env f ss := rfl
    rw [hex] at kk
    have ha0 : argF ts g.ps ss = none := by
      have h : argF ts ((fnOf fns f).map (·.ps) |>.getD []) ss = none := hb.1
      rw [hg] at h
      exact h
    obtain ⟨gk1, gk2, gk3, gk4⟩ := hF.k f g hg
    walk_at "go"
    refine k_lstM G1 (by decide) ?_
    intro vl H2 hvl hvl0 mv g2 G2
    have hs2 := hs1.step g2
    have hvn : vl ∉ d.st :: d.tl :: d.bl :: d.ed :: d.as := by
      intro hm
      obtain ⟨kvs, me, _⟩ := hs1.e
      simp only [List.mem_cons] at hm
      rcases hm with e | e | e | e | e
      · exact hs1.s.nen hvl e.symm
      · exact hs1.t.nen hvl e.symm
      · exact hs1.b.nen hvl e.symm
      · exact me.nen hvl e.symm
      · obtain ⟨i, hi, e⟩ := List.getElem_of_mem e
        have hi2 : i < ths.length := by rw [← hs1.a.1]; exact hi
        obtain ⟨kv, xv, m, _⟩ := hs1.a.2 i vl ths[i] (by rw [← e]; exact List.getElem?_eq_getElem hi) (List.getElem?_eq_getElem hi2)
        exact m.nen hvl rfl
    walk_at "go"
    refine k_forL G2 hl (fun i σ' J' H' => ∃ w4 w6 vls va, σ' = [some (.ref d.st), some (.ref d.ed), some v3, some (.ref a), w4, some (.ref vl), w6, none, none, none, none, none] ∧ Mu J' H' vl (.lst va) ∧ AllR rVl vls va J' ∧ LS d ths env (c + 1) J' H' ∧ giveAll ths env ss = (giveAll ths env (ss.drop i)).map (vls ++ ·) ∧ vls.length = i)
      ⟨_, _, [], [], rfl, mv, AllR.nil, hs2, by rw [List.drop_zero]; simp, rfl⟩ ?_ ?_
    · rintro i x σ' J3 H3 hx e3 G3 ⟨w4, w6, vls, va, rfl, mv3, hva, hs3, hgv, hvl2⟩
      obtain ⟨s, hsi, hsr⟩ := hss.at hx
      have hi : i < ss.length := (List.getElem?_eq_some_iff.mp hsi).1
      have hp1 : g.ps[i]? = some (g.ps[i]'(by omega)) := List.getElem?_eq_getElem _
      have hsf := argF_none ha0 i _ _ hp1 hsi
      walk_at "go"
      refine use_sp G3 ⟨d, ths, env, c + 1, ts, s, (g.ps[i]'(by omega)).2.drop 1⟩ ⟨_, _, _, rfl, rfl, rfl, Up.up e3 hsr, hs3, hw, he, hsf, hk s (List.mem_of_getElem? hsi)⟩ (fun _ z => z.elim) ?_
      rintro v J4 H4 e4 g4 G4 hv
      dsimp only at hv
      have hs4 := hs3.step g4
      have mv4 := mv3.up g4
      rw [giveAll_drop hsi] at hgv
      cases eg : giveT ths env s with
      | none =>
        rw [eg] at hv hgv
        obtain rfl : v = .non := hv
        have hn : callT (execT n fns) fns ths env f ss = (false, ths, env) := by
          unfold callT
          rw [hgv]
          rfl
        rw [hn] at kk
        walk_at "go"
        exact kk _ _ _ G4 ⟨rfl, [], c + 1, by simpa using hs4, by simp, ⟨by show c + 1 ≤ c + (1 + 3 * costE n); omega, by omega⟩, by show ths.length + _ ≤ _; omega⟩
      | some w =>
        rw [eg] at hv hgv
        obtain ⟨pa, xv, rfl, hpa, hxv⟩ := hv
        have hval := hva.1
        walk_at "go"
        refine ifF rfl ?_
        walk_at "go"
        refine k_app G4 mv4 (.inr hvl0) (by omega) ?_
        intro H5 g5 G5 mv5
        obtain ⟨kvs, me4, hent4⟩ := hs4.e
        have hs5 : LS d ths env (c + 1) J4 H5 := ⟨hs4.s.step g5 (fun e => hvn (by simp [← e])), hs4.t.step g5 (fun e => hvn (by simp [← e])), hs4.b.step g5 (fun e => hvn (by simp [← e])), hs4.a.step g5 (fun z hz e => hvn (by subst e; simp [hz])), ⟨kvs, me4.step g5 (fun e => hvn (by simp [← e])), hent4⟩, hs4.nd⟩
        walk_at "go"
        refine ⟨_, e3.trans e4, G5, _, _, vls ++ [w], _, rfl, mv5, (Up.up e4 hva).snoc hxv, hs5, ?_, by simp [hvl2]⟩
        rw [hgv]
        cases giveAll ths env (ss.drop (i + 1)) <;> simp
    · rintro σ' J3 H3 e3 G3 ⟨w4, w6, vls, va, rfl, mv3, hva, hs3, hgv, hvl2⟩
      rw [hss.1] at hgv hvl2
      rw [List.drop_of_length_le (Nat.le_refl _)] at hgv
      have hgv : giveAll ths env ss = some vls := by rw [hgv]; simp [giveAll]
      obtain ⟨hv1, hv2⟩ := giveAll_ok hw he ha0 hgl hgv
      have hcall : callT (execT n fns) fns ths env f ss = ((runB (execT n fns) (newAll ths [] g.ps vls).1 (newAll ths [] g.ps vls).2 g.body).1, (runB (execT n fns) (newAll ths [] g.ps vls).1 (newAll ths [] g.ps vls).2 g.body).2.1, env) := by
        unfold callT
        rw [hgv, hg]
      rw [hcall] at kk
      obtain ⟨hn1, hn2, hn3⟩ := newAll_ok hw (EnvT.nil ths) hv1 hv2 (hF.n.t f g hg).1
      rw [List.nil_append] at hn3
      obtain ⟨r, hr⟩ := fnOf_fm2 hg
      obtain ⟨af, fx, rfl, haf, hfx⟩ := hfns
      walk_at "go"
      refine k_lcFM (R := rLFn rTy) (S := rLFn rTy) (fun g => if g.name = f then some g else none) G3 (by walk_at "get") (Up.up e3 hfx) (by have := hF.l; omega) ?_ ?_
      · intro h x J4 H4 Ny Nn hh hx e4 G4 hy hn
        have hx2 := hx
        obtain ⟨cc, pv, bv, rfl, hcc, hpv, hbv⟩ := hx2
        walk_at "go"
        refine ⟨rfl, ?_⟩
        walk_at "go"
        refine if2 (fun q => ?_) (fun q => ?_)
        · walk_at "go"
          have q2 : h.name = f := by simpa using q
          exact hy _ _ _ _ (if_pos q2) (Gr.refl G4.jh) hx
        · have q2 : ¬ h.name = f := by simpa using q
          exact hn _ _ (if_neg q2) (Gr.refl G4.jh)
      · intro D acc J4 H4 hD e4 hDJ hacc g4 G4
        rw [hr] at hacc
        obtain ⟨gv, hgv0, gc, pv, bv, rfl, hgc, ⟨pp, px, rfl, hpp, hpx⟩, ⟨bp, bx, rfl, hbp, hbx⟩⟩ := hacc.at' (i := 0) rfl
        have hs4 := hs3.step g4
        have mv4 := mv3.up g4
        walk_at "go"
        refine k_dictM G4 ?_
        intro ed2 H5 hed hed0 me2 g5 G5
        have hs5 := hs4.step g5
        have mv5 := mv4.up g5
        obtain ⟨kvO, meO0, hentO0⟩ := hs.e
        have hedne : hh d.ed ≠ none := by rw [meO0.h]; simp
        have hin5 : LS ⟨d.st, d.tl, d.bl, d.as ++ [], ed2⟩ ths [] (c + 1) J4 H5 := by
          have q4 : ed2 ∉ d.as := by
            intro hm
            obtain ⟨i, hi, e⟩ := List.getElem_of_mem hm
            have hi2 : i < ths.length := by rw [← hs4.a.1]; exact hi
            obtain ⟨kv, xv, m, _⟩ := hs4.a.2 i ed2 ths[i] (by rw [← e]; exact List.getElem?_eq_getElem hi) (List.getElem?_eq_getElem hi2)
            exact m.nen hed rfl
          refine ⟨hs5.s, by simpa using hs5.t, hs5.b, by simpa using hs5.a, ⟨[], me2, EntR.nil⟩, ?_⟩
          simp only [List.append_nil, List.nodup_cons, List.mem_cons, not_or]
          exact ⟨⟨n1, n2, hs4.s.nen hed, n4⟩, ⟨n5, hs4.t.nen hed, n7⟩, ⟨hs4.b.nen hed, n9⟩, q4, n11⟩
        have hvlen : va.length = g.ps.length := by rw [hva.1, hv1]
        have hM : ∀ (nw : List Addr), (∀ b ∈ nw, hh b = none) → ∀ z, LSM ⟨d.st, d.tl, d.bl, d.as ++ nw, ed2⟩ z → LSM d z ∨ hh z = none := by
          intro nw hnw z hz
          unfold LSM at hz ⊢
          simp only [List.mem_cons, List.mem_append] at hz ⊢
          rcases hz with e | e | e | e | e | e
          · exact .inl (.inl e)
          · exact .inl (.inr (.inl e))
          · exact .inl (.inr (.inr (.inl e)))
          · exact .inr (e ▸ hed0)
          · exact .inl (.inr (.inr (.inr (.inr e))))
          · exact .inr (hnw z e)
        have hO : ∀ (nw : List Addr), (∀ b ∈ nw, hh b = none) → ¬ LSM ⟨d.st, d.tl, d.bl, d.as ++ nw, ed2⟩ d.ed := by
          intro nw hnw hz
          unfold LSM at hz
          simp only [List.mem_cons, List.mem_append] at hz
          rcases hz with e | e | e | e | e | e
          · exact n3 e.symm
          · exact n6 e.symm
          · exact n8 e.symm
          · exact hedne (e ▸ hed0)
          · exact n10 e
          · exact hedne (hnw _ e)
        walk_at "go"
        refine k_iR1E (by omega) ?_
        rw [Int.toNat_natCast]
        refine k_forR G5 (fun j σ' J' H' => ∃ w9 thj enj nw, σ' = [some (.ref d.st), some (.ref d.ed), some (.ref af), some (.ref a), w4, some (.ref vl), w6, some (.ref gc), some (.ref ed2), w9, none, none] ∧ LS ⟨d.st, d.tl, d.bl, d.as ++ nw, ed2⟩ thj enj (c + 1) J' H' ∧ (∃ kvs, Mu J' H' d.ed (.dK kvs) ∧ EntR rDp env kvs J') ∧ Mu J' H' vl (.lst va) ∧
            newAll ths [] g.ps vls = newAll thj enj (g.ps.drop j) (vls.drop j) ∧ (∀ b ∈ nw, hh b = none) ∧ vl ∉ nw ∧ thj.length = ths.length + j ∧ enj.map (·.1) = (g.ps.take j).map (·.1))
          ⟨_, ths, [], [], rfl, hin5, hs5.e, mv5, by simp, by simp, by simp, rfl, rfl⟩ ?_ ?_
        · rintro j σ' J6 H6 hj e6 G6 ⟨w9, thj, enj, nw, rfl, hs6, ⟨kvs6, meO, hentO⟩, mv6, hna, hnw, hvnw, htl, henm⟩
          have hj2 : j < g.ps.length := by omega
          have hp1 := List.getElem?_eq_getElem hj2
          have hw1 : vls[j]? = some (vls[j]'(by omega)) := List.getElem?_eq_getElem _
          obtain ⟨px1, hpx1, cp, kv1, rfl, hcp, hkv1⟩ := hpx.at' hp1
          obtain ⟨vx1, hvx1, hvx2⟩ := hva.at' hw1
          have hvLSM : ¬ LSM ⟨d.st, d.tl, d.bl, d.as ++ nw, ed2⟩ vl := by
            intro hz
            unfold LSM at hz
            simp only [List.mem_cons, List.mem_append, not_or] at hz hvn
            rcases hz with e | e | e | e | e | e
            · exact hvn.1 e
            · exact hvn.2.1 e
            · exact hvn.2.2.1 e
            · exact mv4.nen hed e
            · exact hvn.2.2.2.2 e
            · exact hvnw e
          have hlk : enj.lookup g.ps[j].1 = none := by
            refine lookup_none_of ?_
            rw [henm]
            intro hm
            have h1 := lookup_some_of hm
            rw [nodup_pre2 (hF.n.t f g hg).2 (split_at hp1)] at h1
            cases h1
          have henl : enj.length = j := by
            have := congrArg List.length henm
            simp at this; omega
          walk_at "go"
          refine use_sp G6 ⟨⟨d.st, d.tl, d.bl, d.as ++ nw, ed2⟩, thj, enj, c + 1, g.ps[j].1, g.ps[j].2, vls[j]'(by omega), H6⟩ ⟨_, _, _, _, _, rfl, rfl, rfl, rfl, Up.up e6 hkv1, Up.up ((g4.jj).trans e6) hvx2, hs6, hlk, by show thj.length ≤ 10000; simp only [costE] at hl1; omega, by show enj.length ≤ 10000; omega, rfl⟩ (hM nw hnw) ?_
          rintro v7 J7 H7 e7 g7 G7 ⟨hv7, b7, hb7, hs7⟩
          dsimp only at hb7 hs7
          walk_at "go"
          refine ⟨_, e6.trans e7, G7, _, _, _, nw ++ [b7], rfl, by rw [← List.append_assoc]; exact hs7, ⟨kvs6, meO.step g7 (hO nw hnw), Up.up e7 hentO⟩, mv6.step g7 hvLSM, ?_, ?_, ?_, by simp [htl]; omega, ?_⟩
          · rw [hna, newAll_drop hp1 hw1]
          · intro z hz
            rcases List.mem_append.mp hz with e | e
            · exact hnw z e
            · obtain rfl : z = b7 := by simpa using e
              exact G6.al _ hb7
          · intro hz
            rcases List.mem_append.mp hz with e | e
            · exact hvnw e
            · obtain rfl : vl = b7 := by simpa using e
              exact mv6.nen hb7 rfl
          · rw [List.map_append, henm, List.take_add_one, hp1, List.map_append]
            rfl
        · rintro σ' J6 H6 e6 G6 ⟨w9, th1, en1, nw, rfl, hs6, ⟨kvs6, meO, hentO⟩, mv6, hna, hnw, hvnw, htl, henm⟩
          rw [hvlen, List.drop_of_length_le (Nat.le_refl _), List.drop_of_length_le (by omega)] at hna
          have hna : newAll ths [] g.ps vls = (th1, en1) := hna
          rw [hna] at kk hn1 hn2 hn3
          dsimp only at kk hn1 hn2 hn3
          have hfns6 : rLst (rLFn rTy) fns (.ref af) J6 := ⟨af, fx, rfl, e6 _ _ (g4.jj _ _ (e3 _ _ haf)), Up.up ((e3.trans g4.jj).trans e6) hfx⟩
          have hR : ∀ (v : V) (J' H' : Hp), Gr (LSM d) J0 hh J' H' → v = .bl (runB (execT n fns) th1 en1 g.body).1 → (∃ nw c', LS ⟨d.st, d.tl, d.bl, d.as ++ nw, d.ed⟩ (runB (execT n fns) th1 en1 g.body).2.1 env c' J' H' ∧ (∀ b ∈ nw, hh b = none) ∧ (c' ≤ c + costE (n + 1) ∧ c ≤ c') ∧ (runB (execT n fns) th1 en1 g.body).2.1.length + 4 * c ≤ ths.length + 4 * c') → Q v H' := fun v J' H' h1 h2 h3 => kk v J' H' h1 ⟨h2, h3⟩
          have hLS : ∀ {nw : List Addr} {th : List Th} {en : Env2} {c' : Nat} {J' H' : Hp}, LS ⟨d.st, d.tl, d.bl, d.as ++ nw, ed2⟩ th en c' J' H' → (∀ b ∈ nw, hh b = none) → (∃ kvs, Mu J' H' d.ed (.dK kvs) ∧ EntR rDp env kvs J') → LS ⟨d.st, d.tl, d.bl, d.as ++ nw, d.ed⟩ th env c' J' H' := by
            intro nw th en c' J' H' h hnw ho
            have hq := h.nd
            simp only [List.nodup_cons, List.mem_cons, List.mem_append, not_or] at hq
            refine ⟨h.s, h.t, h.b, h.a, ho, ?_⟩
            simp only [List.nodup_cons, List.mem_cons, List.mem_append, not_or]
            obtain ⟨⟨q1, q2, q3, q4⟩, ⟨q5, q6, q7⟩, ⟨q8, q9⟩, q10, q11⟩ := hq
            exact ⟨⟨q1, q2, n3, q4⟩, ⟨q5, n6, q7⟩, ⟨n8, q9⟩, ⟨n10, fun hm => hedne (hnw _ hm)⟩, q11⟩
          walk_at "go"
          refine k_forL G6 (by walk_at "get") (fun j σ' J' H' => ∃ w9 w10 thj enj tsj nw cj, σ' = [some (.ref d.st), some (.ref d.ed), some (.ref af), some (.ref a), w4, some (.ref vl), w6, some (.ref gc), some (.ref ed2), w9, w10, none] ∧ LS ⟨d.st, d.tl, d.bl, d.as ++ nw, ed2⟩ thj enj cj J' H' ∧ (∃ kvs, Mu J' H' d.ed (.dK kvs) ∧ EntR rDp env kvs J') ∧
              WT thj ∧ EnvT enj thj tsj ∧ BlkN fns tsj (g.body.drop j) ∧ runB (execT n fns) th1 en1 g.body = runB (execT n fns) thj enj (g.body.drop j) ∧ (∀ b ∈ nw, hh b = none) ∧ cj ≤ c + 1 + j * costE n ∧ c + 1 ≤ cj ∧ thj.length + 4 * c ≤ ths.length + 4 * cj ∧ tsj.length ≤ 2 + j)
            ⟨_, _, th1, en1, g.ps, nw, c + 1, rfl, hs6, ⟨kvs6, meO, hentO⟩, hn1, hn3, by rw [List.drop_zero]; exact hF.n.b f g hg, by rw [List.drop_zero], hnw, by omega, Nat.le_refl _, by omega, by omega⟩ ?_ ?_
          · rintro j x σ' J7 H7 hx e7 G7 ⟨w9, w10, thj, enj, tsj, nwj, cj, rfl, hs7, ⟨kvs7, meO7, hentO7⟩, hw7, he7, hb7, hrun, hnw7, hcj1, hcj2, hlj, htj⟩
            obtain ⟨st', hst1, hst2⟩ := hbx.at hx
            have hj3 : j < g.body.length := (List.getElem?_eq_some_iff.mp hst1).1
            have hstm := List.mem_of_getElem? hst1
            have hdrop : g.body.drop j = st' :: g.body.drop (j + 1) := by
              rw [← (List.getElem?_eq_some_iff.mp hst1).2]; exact List.drop_eq_getElem_cons hj3
            rw [hdrop] at hb7 hrun
            have hcost : j * costE n ≤ 2 * costE n := Nat.mul_le_mul_right _ (by omega)
            have henl : enj.length ≤ 2 + j := by rw [he7.1]; exact htj
            have hkept := execT_ok hF.n n thj enj tsj st' hw7 he7 ⟨hb7.1, hb7.2.1, trivial⟩
            have hcall2 : CallOk fns n st' := hc g hg st' hstm
            simp only [costE] at hl1
            walk_at "go"
            refine h0 _ _ _ _ (Nat.succ_pos n) ?_
            show spEx n _ _ _ _
            unfold spEx
            refine use_sp G7 ⟨⟨d.st, d.tl, d.bl, d.as ++ nwj, ed2⟩, thj, enj, cj, tsj, fns, st', H7⟩ ⟨_, _, _, _, rfl, rfl, rfl, Up.up e7 hfns6, Up.up (e6.trans e7) hst2, hs7, hw7, he7, ⟨hb7.1, hb7.2.1, trivial⟩, hF, gk3 st' hstm, hcall2, by show thj.length + 4 * costE n ≤ 9000; omega, by show enj.length ≤ 9000; omega, rfl⟩ (hM nwj hnw7) ?_
            rintro v8 J8 H8 e8 g8 G8 ⟨hv8, nw8, c8, hs8, hnw8, hc8, hl8⟩
            dsimp only at hv8 hs8 hnw8 hc8 hl8
            subst hv8
            have hcc : cj ≤ c8 := hc8.2
            have hc8 := hc8.1
            have hnwA : ∀ b ∈ nwj ++ nw8, hh b = none := by
              intro b hb
              rcases List.mem_append.mp hb with e | e
              · exact hnw7 b e
              · exact G7.al _ (hnw8 b e)
            have hs8 : LS ⟨d.st, d.tl, d.bl, d.as ++ (nwj ++ nw8), ed2⟩ (execT n fns thj enj st').2.1 (execT n fns thj enj st').2.2 c8 J8 H8 := by rw [← List.append_assoc]; exact hs8
            have hO8 : ∃ kvs, Mu J8 H8 d.ed (.dK kvs) ∧ EntR rDp env kvs J8 := ⟨kvs7, meO7.step g8 (hO nwj hnw7), Up.up e8 hentO7⟩
            have hmul : (j + 1) * costE n = j * costE n + costE n := Nat.succ_mul _ _
            cases hb8 : (execT n fns thj enj st').1 with
            | false =>
              have hr8 : runB (execT n fns) thj enj (st' :: g.body.drop (j + 1)) = (false, (execT n fns thj enj st').2) := by
                unfold runB
                rw [hb8]
                rfl
              rw [hr8] at hrun
              walk_at "go"
              refine hR _ _ _ G8 (by rw [hrun]) ⟨nwj ++ nw8, c8, by rw [hrun]; exact hLS hs8 hnwA hO8, hnwA, ⟨by simp only [costE]; omega, by omega⟩, by rw [hrun]; show (execT n fns thj enj st').2.1.length + _ ≤ _; omega⟩
            | true =>
              have hr8 : runB (execT n fns) thj enj (st' :: g.body.drop (j + 1)) = runB (execT n fns) (execT n fns thj enj st').2.1 (execT n fns thj enj st').2.2 (g.body.drop (j + 1)) := by
                rw [runB, hb8]
                rfl
              rw [hr8] at hrun
              walk_at "go"
              exact ⟨_, e7.trans e8, G8, _, _, _, _, _, _, c8, rfl, hs8, hO8, hkept.w, hkept.e hb8, hb7.2.2, hrun, hnwA, by omega, by omega, by omega, by
                have : (grow tsj st').length ≤ tsj.length + 1 := by cases st' <;> simp [grow]
                omega⟩
          · rintro σ' J7 H7 e7 G7 ⟨w9, w10, thj, enj, tsj, nwj, cj, rfl, hs7, hO7, hw7, he7, hb7, hrun, hnw7, hcj1, hcj2, hlj, htj⟩
            rw [hbx.1] at hrun hcj1
            rw [List.drop_of_length_le (Nat.le_refl _)] at hrun
            have hrun : runB (execT n fns) th1 en1 g.body = (true, thj, enj) := hrun
            have hcost : g.body.length * costE n ≤ 3 * costE n := Nat.mul_le_mul_right _ gk2
            walk_at "go"
            refine hR _ _ _ G7 (by rw [hrun]) ⟨nwj, cj, by rw [hrun]; exact hLS hs7 hnw7 hO7, hnw7, ⟨by simp only [costE]; omega, by omega⟩, by rw [hrun]; exact hlj⟩
end Rk
namespace Rk
open PySem PySem.Spec PyProof.Rows L2
variable {P : Program} {w : World} {K : PySem.W.Frag} {mg : Str → Option Value} {base : Heap}
theorem ok_LawExecuteN (T : Good K mg) : ∀ n : Nat, FnOk P w K mg base CX0 (3 + n + 1) (He.ga K "_law_execute") (fdOf K (He.ga K "_law_execute")) ["_law_state", "_law_env", "_law_functions", "_law_st"] (spEx n)
  | 0 => step_LawExecute T 0 (sp0 := fun _ _ _ _ => False) ok_never fun _ _ _ _ h => absurd h (Nat.lt_irrefl 0)
  | n + 1 => step_LawExecute T (n + 1) (ok_LawExecuteN T n) fun _ _ _ _ _ h => h
abbrev spLawExecute : Sp := spEx 3
theorem ok_LawExecute (T : Good K mg) : FnOk P w K mg base CX0 7 (He.ga K "_law_execute") (fdOf K (He.ga K "_law_execute")) ["_law_state", "_law_env", "_law_functions", "_law_st"] spLawExecute := ok_LawExecuteN T 3
/-- a thing as it is shown -/
def rShown (t : Th) (v : V) (J : Hp) : Prop := ∃ a kv xv, v = .ref a ∧ J a = some (.tup [.str t.name, kv, xv]) ∧ rTy t.ty kv J ∧ rVl t.val xv J
instance (t : Th) (v : V) : Up (rShown t v) := ⟨fun e ⟨a, kv, xv, h1, h2, h3, h4⟩ => ⟨a, kv, xv, h1, e _ _ h2, Up.up e h3, Up.up e h4⟩⟩
def rThg (t : Th) (v : V) (J : Hp) : Prop := ∃ a kv xv, v = .ref a ∧ J a = some (.lst [kv, xv, .str t.name]) ∧ rTy t.ty kv J ∧ rVl t.val xv J
instance (t : Th) (v : V) : Up (rThg t v) := ⟨fun e ⟨a, kv, xv, h1, h2, h3, h4⟩ => ⟨a, kv, xv, h1, e _ _ h2, Up.up e h3, Up.up e h4⟩⟩
/-- the state when it is not changed any more -/
def rSta (s : List Th × Nat) (v : V) (J : Hp) : Prop := ∃ st tl bl xs, v = .ref st ∧ J st = some (.lst [.ref tl, .ref bl, .int (s.2 : Int)]) ∧ J tl = some (.lst xs) ∧ AllR rThg s.1 xs J ∧ J bl = some (.lst [])
instance (s : List Th × Nat) (v : V) : Up (rSta s v) := ⟨fun e ⟨st, tl, bl, xs, h1, h2, h3, h4, h5⟩ => ⟨st, tl, bl, xs, h1, e _ _ h2, e _ _ h3, Up.up e h4, e _ _ h5⟩⟩
abbrev spLawThings : Sp := SpD (List Th × Nat) (fun _ => No) (fun a vs J H => ∃ v1, vs = [v1] ∧ rSta a v1 J ∧ a.1.length ≤ 10000) (fun a v J _ => rLst rShown a.1 v J)
theorem ok_LawThings (T : Good K mg) : FnOk P w K mg base CX0 1 (He.ga K "_law_things") (fdOf K (He.ga K "_law_things")) ["_law_state"] spLawThings := by
  refine sp_ok (k := 0) (D_sLawThings T) S_sLawThings (fun a vs J H h => by obtain ⟨_, rfl, _⟩ := h; rfl) (fun cdv Ar outer s H0 vs E hr => ?_)
  refine ⟨_, (pss_one (ps_ret (pe_lc (own := [("_law_thing", 1)]) (by rfl) S_sLawThings.nd (piL K (pe_ix (xL K) (pv 0) pe_int (fun _ _ => rfl))) (blkOk_by (own := [("_law_thing", 1)]) (N := ["_law_state", "_law_thing"]) (sc := defScope sLawThings) (by decide +kernel)) (fun _ _ _ _ _ => (pg_name (i := 1) S_sLawThings.nd rfl (by first | exact Or.inl rfl | exact Or.inr rfl))) (fun _ _ _ _ _ => pts_nil) (fun _ _ _ _ _ => (pe_tup (pa_cons (pe_ix (xL K) (pv 1) pe_int (fun _ _ => rfl)) (pa_cons (pe_ix (xL K) (pv 1) pe_int (fun _ _ => rfl)) (pa_cons (pe_ix (xL K) (pv 1) pe_int (fun _ _ => rfl)) pa_nil)))))))), ?_⟩
  rintro ⟨ths, c⟩ J0 Q G ⟨_, rfl, ⟨st, tl, bl, xs, rfl, hst, htl, hxs, hbl⟩, hl⟩ kk
  dsimp only at *
  walk_at "go"
  refine k_lcFM (R := rThg) (S := rShown) (fun t => some t) G htl hxs (by omega) ?_ ?_
  · intro t x J1 H1 Ny Nn ht hx e1 G1 hy hn
    obtain ⟨a, kv, xv, rfl, ha, h1, h2⟩ := hx
    walk_at "go"
    refine ⟨rfl, ?_⟩
    walk_at "go"
    rename_i P2 J2 H2 hP2 e2 hJ2 g2 G2
    exact hy _ _ _ _ rfl g2 ⟨P2, kv, xv, rfl, hJ2, Up.up e2 h1, Up.up e2 h2⟩
  · intro D acc J1 H1 hD e1 hDJ hacc g1 G1
    rw [List.filterMap_some] at hacc
    exact kk _ _ _ G1 ⟨D, acc, rfl, hDJ, hacc⟩
/-- things become known, one after another -/
theorem know_things {M0 : Addr → Prop} {J0 H0 H : Hp} : ∀ {as : List Addr} {ths : List Th} {J : Hp}, Gr M0 J0 H0 J H → ThR as ths J H → as.Nodup → (∀ a ∈ as, H0 a = none) → ∃ J', Ex J J' ∧ Gr M0 J0 H0 J' H ∧ AllR rThg ths (as.map V.ref) J' ∧ ∀ b, b ∉ as → J' b = J b
  | [], [], J, G, _, _, _ => ⟨J, Ex.refl J, G, AllR.nil, fun _ _ => rfl⟩
  | [], _ :: _, _, _, h, _, _ => absurd h.1 (by simp)
  | _ :: _, [], _, _, h, _, _ => absurd h.1 (by simp)
  | a :: as, t :: ths, J, G, h, hn, h0 => by
    rw [List.nodup_cons] at hn
    obtain ⟨kv, xv, m, h1, h2⟩ := h.2 0 a t rfl rfl
    have ek := ex_know (o := .lst [kv, xv, .str t.name]) m.j
    have G1 := G.know m.j m.h (h0 a List.mem_cons_self)
    have ht : ThR as ths (upd J a (.lst [kv, xv, .str t.name])) H := by
      refine ⟨by have := h.1; simpa using this, fun i b z hb hz => ?_⟩
      obtain ⟨kv', xv', m', h1', h2'⟩ := h.2 (i + 1) b z (by simpa using hb) (by simpa using hz)
      exact ⟨kv', xv', m'.knw (fun e => hn.1 (e ▸ List.mem_of_getElem? hb)), Up.up ek h1', Up.up ek h2'⟩
    obtain ⟨J', e', G', hA, hk⟩ := know_things G1 ht hn.2 fun b hb => h0 b (List.mem_cons_of_mem _ hb)
    refine ⟨J', ek.trans e', G', hA.cons ⟨a, kv, xv, rfl, e' _ _ upd_same, Up.up (ek.trans e') h1, Up.up (ek.trans e') h2⟩, fun b hb => ?_⟩
    rw [List.mem_cons, not_or] at hb
    rw [hk b hb.2, upd_ne hb.1]
theorem know_state {M0 : Addr → Prop} {J0 H0 J H : Hp} {d : LSd} {ths : List Th} {env : Env2} {c : Nat} (G : Gr M0 J0 H0 J H) (h : LS d ths env c J H) (h0 : ∀ b, LSM d b → H0 b = none) : ∃ J', Ex J J' ∧ Gr M0 J0 H0 J' H ∧ rSta (ths, c) (.ref d.st) J' := by
  have hnd := h.nd
  simp only [List.nodup_cons, List.mem_cons, not_or] at hnd
  obtain ⟨⟨n1, n2, n3, n4⟩, ⟨n5, n6, n7⟩, ⟨n8, n9⟩, n10, n11⟩ := hnd
  obtain ⟨J1, e1, G1, hA, hk⟩ := know_things G h.a n11 fun a ha => h0 a (by unfold LSM; simp [ha])
  have ms : Mu J1 H d.st (.lst [.ref d.tl, .ref d.bl, .int (c : Int)]) := ⟨by rw [hk _ n4]; exact h.s.j, h.s.h⟩
  have mt : Mu J1 H d.tl (.lst (d.as.map V.ref)) := ⟨by rw [hk _ n7]; exact h.t.j, h.t.h⟩
  have mb : Mu J1 H d.bl (.lst []) := ⟨by rw [hk _ n9]; exact h.b.j, h.b.h⟩
  have G2 := G1.know ms.j ms.h (h0 _ (by unfold LSM; simp))
  have e2 := ex_know (o := .lst [.ref d.tl, .ref d.bl, .int (c : Int)]) ms.j
  have mt2 := mt.knw (o' := .lst [.ref d.tl, .ref d.bl, .int (c : Int)]) (fun e => n1 e.symm)
  have mb2 := mb.knw (o' := .lst [.ref d.tl, .ref d.bl, .int (c : Int)]) (fun e => n2 e.symm)
  have G3 := G2.know mt2.j mt2.h (h0 _ (by unfold LSM; simp))
  have e3 := ex_know (o := .lst (d.as.map V.ref)) mt2.j
  have mb3 := mb2.knw (o' := .lst (d.as.map V.ref)) (fun e => n5 e.symm)
  have G4 := G3.know mb3.j mb3.h (h0 _ (by unfold LSM; simp))
  have e4 := ex_know (o := .lst []) mb3.j
  exact ⟨_, ((e1.trans e2).trans e3).trans e4, G4, d.st, d.tl, d.bl, d.as.map V.ref, rfl, e4 _ _ (e3 _ _ upd_same), e4 _ _ upd_same, Up.up ((e2.trans e3).trans e4) hA, upd_same⟩
end Rk
namespace Rk
open PySem PySem.Spec PyProof.Rows L2
variable {P : Program} {w : World} {K : PySem.W.Frag} {mg : Str → Option Value} {base : Heap}
def runP (p : Pg Ty) : Res := runB (execT 3 p.fns) [] [] p.main
structure RnP (p : Pg Ty) : Prop where
  b : BlkN p.fns [] p.main
  k : FnsK p.fns
  s : ∀ st ∈ p.main, StmK st ∧ CallOk p.fns 3 st
  l : p.main.length ≤ 10
def ended (b : Bool) : Str := if b = true then "done" else "stopped"
abbrev spLawRun : Sp := SpD (Pg Ty) (fun _ => No) (fun p vs J H => ∃ v1, vs = [v1] ∧ rLPg rTy p v1 J ∧ RnP p) (fun p v J _ => ∃ a sv c, v = .ref a ∧ J a = some (.lst [.str (ended (runP p).1), sv]) ∧ rSta ((runP p).2.1, c) sv J ∧ c ≤ 400 ∧ (runP p).2.1.length ≤ 2000)
theorem ok_LawRun (T : Good K mg) : FnOk P w K mg base CX0 8 (He.ga K "_law_run") (fdOf K (He.ga K "_law_run")) ["_law_p"] spLawRun := by
  refine sp_ok (k := 7) (D_sLawRun T) S_sLawRun (fun a vs J H h => by obtain ⟨_, rfl, _⟩ := h; rfl) (fun cdv Ar outer s H0 vs E hr => ?_)
  refine ⟨_, (pss_cons (ps_set (i := 1) S_sLawRun.nd rfl (by first | exact Or.inl rfl | exact Or.inr rfl) (pe_lst (pa_cons (pe_lst pa_nil) (pa_cons (pe_lst pa_nil) (pa_cons pe_int pa_nil)))))
  (pss_cons (ps_set (i := 2) S_sLawRun.nd rfl (by first | exact Or.inl rfl | exact Or.inr rfl) pe_dnewK)
  (pss_cons (ps_for PassesOwn.never rfl (piL K (pe_ix (xL K) (pv 0) pe_int (fun _ _ => rfl))) (pg_name (i := 3) S_sLawRun.nd rfl (by first | exact Or.inl rfl | exact Or.inr rfl))
  (pss_one (ps_if (pt_not (pt_val (pe_call (ok_LawExecute T) (hr.mono (by omega)) rfl (g_law_execute T) (D_sLawExecute T).kp (B_sLawExecute T) .nil pass0 (pa_cons (pv 1) (pa_cons (pv 2) (pa_cons (pe_ix (xL K) (pv 0) pe_int (fun _ _ => rfl)) (pa_cons (pv 3) pa_nil))))))) (pss_one (ps_ret (pe_lst (pa_cons pe_str (pa_cons (pv 1) pa_nil))))) pss_nil)))
  (pss_one (ps_ret (pe_lst (pa_cons pe_str (pa_cons (pv 1) pa_nil)))))))), ?_⟩
  rintro p J0 Q G ⟨_, rfl, ⟨pa, fv, mv, rfl, hpa, hfv, ⟨am, xm, rfl, ham, hxm⟩⟩, hR⟩ kk
  have hc3 : costE 3 = 40 := rfl
  walk_at "gm"
  refine k_lstM G (by decide) ?_
  intro tl H1 htl htl0 mt g1 G1
  walk_at "gm"
  refine k_lstM G1 (by decide) ?_
  intro bl H2 hbl hbl0 mb g2 G2
  walk_at "gm"
  refine k_lstM G2 (len_ok rfl) ?_
  intro st H3 hst hst0 ms g3 G3
  walk_at "gm"
  refine k_dictM G3 ?_
  intro ed H4 hed hed0 me g4 G4
  have h4 : LS ⟨st, tl, bl, [] ++ [], ed⟩ [] [] 0 J0 H4 := by
    refine ⟨ms.up g4, ((mt.up g2).up g3).up g4, (mb.up g3).up g4, ⟨rfl, fun i a t h => by simp at h⟩, ⟨[], me, EntR.nil⟩, ?_⟩
    simp only [List.append_nil, List.nodup_cons, List.mem_cons, List.not_mem_nil, or_false, not_or, List.nodup_nil, and_true, not_false_eq_true]
    exact ⟨⟨fun e => (mt.up g2).nen hst e.symm, fun e => mb.nen hst e.symm, ms.nen hed⟩, ⟨mt.nen hbl, ((mt.up g2).up g3).nen hed⟩, (mb.up g3).nen hed⟩
  have hM : ∀ (nw : List Addr), (∀ b ∈ nw, H0 b = none) → ∀ b, LSM ⟨st, tl, bl, [] ++ nw, ed⟩ b → H0 b = none := by
    intro nw hnw b hb
    unfold LSM at hb
    simp only [List.mem_cons, List.nil_append] at hb
    rcases hb with e | e | e | e | e
    · exact e ▸ hst0
    · exact e ▸ htl0
    · exact e ▸ hbl0
    · exact e ▸ hed0
    · exact hnw b e
  walk_at "go"
  refine k_forL G4 (by walk_at "get") (fun j σ' J' H' => ∃ w thj enj tsj nw cj, σ' = [some (.ref pa), some (.ref st), some (.ref ed), w] ∧ LS ⟨st, tl, bl, [] ++ nw, ed⟩ thj enj cj J' H' ∧ WT thj ∧ EnvT enj thj tsj ∧ BlkN p.fns tsj (p.main.drop j) ∧ runP p = runB (execT 3 p.fns) thj enj (p.main.drop j) ∧ (∀ b ∈ nw, H0 b = none) ∧ cj ≤ 40 * j ∧ thj.length ≤ 4 * cj ∧ tsj.length ≤ j)
    ⟨_, [], [], [], [], 0, rfl, h4, fun i t h => by simp at h, EnvT.nil [], by rw [List.drop_zero]; exact hR.b, by rw [List.drop_zero]; rfl, by simp, by omega, Nat.zero_le _, Nat.zero_le _⟩ ?_ ?_
  · rintro j x σ' J5 H5 hx e5 G5 ⟨w, thj, enj, tsj, nw, cj, rfl, hs5, hw5, he5, hb5, hrun, hnw, hcj, hlj, htj⟩
    obtain ⟨s', hs1, hs2⟩ := hxm.at hx
    have hj3 : j < p.main.length := (List.getElem?_eq_some_iff.mp hs1).1
    have hstm := List.mem_of_getElem? hs1
    have hml := hR.l
    have hdrop : p.main.drop j = s' :: p.main.drop (j + 1) := by
      rw [← (List.getElem?_eq_some_iff.mp hs1).2]; exact List.drop_eq_getElem_cons hj3
    rw [hdrop] at hb5 hrun
    have henl : enj.length ≤ j := by rw [he5.1]; exact htj
    have hkept := execT_ok hR.k.n 3 thj enj tsj s' hw5 he5 ⟨hb5.1, hb5.2.1, trivial⟩
    obtain ⟨hk1, hk2⟩ := hR.s s' hstm
    walk_at "go"
    unfold spLawExecute spEx
    refine use_sp G5 ⟨⟨st, tl, bl, [] ++ nw, ed⟩, thj, enj, cj, tsj, p.fns, s', H5⟩ ⟨_, _, _, _, rfl, rfl, rfl, Up.up e5 hfv, Up.up e5 hs2, hs5, hw5, he5, ⟨hb5.1, hb5.2.1, trivial⟩, hR.k, hk1, hk2, by show thj.length + 4 * costE 3 ≤ 9000; omega, by show enj.length ≤ 9000; omega, rfl⟩ (fun b hb => .inr (hM nw hnw b hb)) ?_
    rintro v6 J6 H6 e6 g6 G6 ⟨hv6, nw6, c6, hs6, hnw6, hc6, hl6⟩
    dsimp only at hv6 hs6 hnw6 hc6 hl6
    subst hv6
    have hnwA : ∀ b ∈ nw ++ nw6, H0 b = none := by
      intro b hb
      rcases List.mem_append.mp hb with e | e
      · exact hnw b e
      · exact G5.al _ (hnw6 b e)
    have hs6 : LS ⟨st, tl, bl, [] ++ (nw ++ nw6), ed⟩ (execT 3 p.fns thj enj s').2.1 (execT 3 p.fns thj enj s').2.2 c6 J6 H6 := by rw [← List.append_assoc]; exact hs6
    cases hb8 : (execT 3 p.fns thj enj s').1 with
    | false =>
      have hr8 : runB (execT 3 p.fns) thj enj (s' :: p.main.drop (j + 1)) = (false, (execT 3 p.fns thj enj s').2) := by
        unfold runB
        rw [hb8]
        rfl
      rw [hr8] at hrun
      walk_at "go"
      rename_i P7 J7 H7 hP7 e7 hJ7 g7 G7
      obtain ⟨J8, e8, G8, h8⟩ := know_state G7 (hs6.step g7) (hM _ hnwA)
      exact kk _ _ _ G8 ⟨P7, _, c6, rfl, by rw [hrun]; exact e8 _ _ hJ7, by rw [hrun]; exact h8, by omega, by rw [hrun]; show (execT 3 p.fns thj enj s').2.1.length ≤ _; omega⟩
    | true =>
      have hr8 : runB (execT 3 p.fns) thj enj (s' :: p.main.drop (j + 1)) = runB (execT 3 p.fns) (execT 3 p.fns thj enj s').2.1 (execT 3 p.fns thj enj s').2.2 (p.main.drop (j + 1)) := by
        rw [runB, hb8]
        rfl
      rw [hr8] at hrun
      walk_at "go"
      exact ⟨_, e5.trans e6, G6, _, _, _, _, _, c6, rfl, hs6, hkept.w, hkept.e hb8, hb5.2.2, hrun, hnwA, by omega, by omega, by
        have : (grow tsj s').length ≤ tsj.length + 1 := by cases s' <;> simp [grow]
        omega⟩
  · rintro σ' J5 H5 e5 G5 ⟨w, thj, enj, tsj, nw, cj, rfl, hs5, hw5, he5, hb5, hrun, hnw, hcj, hlj, htj⟩
    have hml := hR.l
    rw [hxm.1] at hrun hcj
    rw [List.drop_of_length_le (Nat.le_refl _)] at hrun
    have hrun : runP p = (true, thj, enj) := hrun
    walk_at "go"
    rename_i P7 J7 H7 hP7 e7 hJ7 g7 G7
    obtain ⟨J8, e8, G8, h8⟩ := know_state G7 (hs5.step g7) (hM _ hnw)
    exact kk _ _ _ G8 ⟨P7, _, cj, rfl, by rw [hrun]; exact e8 _ _ hJ7, by rw [hrun]; exact h8, by omega, by rw [hrun]; show thj.length ≤ _; omega⟩
end Rk
namespace Rk
open PySem PySem.Spec PyProof.Rows L2
variable {P : Program} {w : World} {K : PySem.W.Frag} {mg : Str → Option Value} {base : Heap}
theorem Box.upH {b D : Addr} {J H : Hp} {o : HO} (x : Box b J H) (n : ¬ b = D) : Box b J (upd H D o) := by
  obtain ⟨r, a, xs, m, h⟩ := x
  exact ⟨r, a, xs, m.upH n, h⟩
theorem Box.knw {b D : Addr} {J H : Hp} {o : HO} (x : Box b J H) (n : ¬ b = D) (hD : J D = none) : Box b (upd J D o) H := by
  obtain ⟨r, a, xs, m, h⟩ := x
  exact ⟨r, a, xs, m.knw n, ex_know hD _ _ h⟩
theorem Box.nen {b D : Addr} {J H : Hp} (x : Box b J H) (h : H D = none) : ¬ b = D := by
  obtain ⟨r, a, xs, m, _⟩ := x
  exact m.nen h
def rPr (q : Ty × Ty) (v : V) (J : Hp) : Prop := ∃ a v1 v2, v = .ref a ∧ J a = some (.lst [v1, v2]) ∧ rTy q.1 v1 J ∧ rTy q.2 v2 J
instance (q : Ty × Ty) (v : V) : Up (rPr q v) := ⟨fun e ⟨a, v1, v2, h1, h2, h3, h4⟩ => ⟨a, v1, v2, h1, e _ _ h2, Up.up e h3, Up.up e h4⟩⟩
abbrev spLawPair : Sp := SpD (Addr × Nat) (fun d b => b = d.1) (fun d vs J H => ∃ v1 v2, vs = [v1, v2] ∧ v1 = .ref d.1 ∧ v2 = .int (d.2 : Int) ∧ Box d.1 J H ∧ d.2 ≤ 3)
  (fun d v J H => ∃ q : Ty × Ty, rPr q v J ∧ (∀ r ∈ q.1, IsRt r) ∧ (∀ r ∈ q.2, IsRt r) ∧ q.1.length = q.2.length ∧ Box d.1 J H)
theorem ok_LawPair (T : Good K mg) : FnOk P w K mg base CX0 4 (He.ga K "_law_pair") (fdOf K (He.ga K "_law_pair")) ["_law_box", "_law_most"] spLawPair := by
  refine sp_ok (k := 3) (D_sLawPair T) S_sLawPair (fun a vs J H h => by obtain ⟨_, _, rfl, _⟩ := h; rfl) (fun cdv Ar outer s H0 vs E hr => ?_)
  refine ⟨_, (pss_cons (ps_set (i := 2) S_sLawPair.nd rfl (by first | exact Or.inl rfl | exact Or.inr rfl) (pe_call (ok_LawDraw T) (hr.mono (by omega)) rfl (g_law_draw T) (D_sLawDraw T).kp (B_sLawDraw T) .nil pass0 (pa_cons (pv 0) (pa_cons (pe_op op_add (pv 1) pe_int) pa_nil))))
  (pss_cons (ps_set (i := 3) S_sLawPair.nd rfl (by first | exact Or.inl rfl | exact Or.inr rfl) (pe_call (ok_LawRights T) (hr.mono (by omega)) rfl (g_law_rights T) (D_sLawRights T).kp (B_sLawRights T) .nil pass0 (pa_cons (pv 0) (pa_cons (pv 2) pa_nil))))
  (pss_cons (ps_set (i := 4) S_sLawPair.nd rfl (by first | exact Or.inl rfl | exact Or.inr rfl) (pe_call (ok_LawRights T) (hr.mono (by omega)) rfl (g_law_rights T) (D_sLawRights T).kp (B_sLawRights T) .nil pass0 (pa_cons (pv 0) (pa_cons (pv 2) pa_nil))))
  (pss_cons (ps_if (pt_cmpR op_eq (pe_call (ok_LawDraw T) (hr.mono (by omega)) rfl (g_law_draw T) (D_sLawDraw T).kp (B_sLawDraw T) .nil pass0 (pa_cons (pv 0) (pa_cons pe_int pa_nil))) pe_int (nomark _)) (pss_one (ps_set (i := 4) S_sLawPair.nd rfl (by first | exact Or.inl rfl | exact Or.inr rfl) (pe_callTy (cTup K) (by rfl) (f_tuple T) (show bootBuiltins "tuple" = some (.type "tuple") by decide +kernel) (pa_cons (pe_lc (own := [("_law_k", 5)]) (by rfl) S_sLawPair.nd (pi_range1 (by rfl) (f_range T) (pa_cons (pv 2) pa_nil)) (blkOk_by (own := [("_law_k", 5)]) (N := ["_law_box", "_law_most", "_law_many", "_law_one", "_law_two", "_law_k"]) (sc := defScope sLawPair) (by decide +kernel)) (fun _ _ _ _ _ => (pg_name (i := 5) S_sLawPair.nd rfl (by first | exact Or.inl rfl | exact Or.inr rfl))) (fun _ _ _ _ _ => pts_nil) (fun _ _ _ _ _ => (pe_ix (xL K) (pe_lst (pa_cons (pe_ix (xT K) (pv 4) (pv 5) (fun _ _ => rfl)) (pa_cons (pe_ix (xT K) (pv 3) (pv 5) (fun _ _ => rfl)) pa_nil))) (pe_callTy c_int (by rfl) (f_int T) (show bootBuiltins "int" = some (.type "int") by decide +kernel) (pa_cons (pe_cmpR op_gt (pe_call (ok_LawDraw T) (hr.mono (by omega)) rfl (g_law_draw T) (D_sLawDraw T).kp (B_sLawDraw T) .nil pass0 (pa_cons (pv 0) (pa_cons pe_int pa_nil))) pe_int (nomark _)) pa_nil)) (fun _ _ => rfl)))) pa_nil)))) pss_nil)
  (pss_one (ps_ret (pe_lst (pa_cons (pv 3) (pa_cons (pv 4) pa_nil))))))))), ?_⟩
  rintro ⟨b, m⟩ J0 Q G ⟨_, _, rfl, rfl, rfl, hb, hm⟩ kk
  dsimp only at *
  walk_at "go"
  refine use_draw (m + 1) G hb (by omega) (.inl rfl) ?_
  intro n J1 H1 hn e1 g1 G1 b1
  walk_at "go"
  refine use_sp G1 (b, n) ⟨_, _, rfl, rfl, rfl, b1, by show n ≤ 6; omega⟩ (fun z hz => .inl hz) ?_
  rintro v J2 H2 e2 g2 G2 ⟨t1, hl1, hr1, ⟨a1, rfl, ha1, hz1⟩, b2⟩
  dsimp only at hl1 b2
  walk_at "go"
  refine use_sp G2 (b, n) ⟨_, _, rfl, rfl, rfl, b2, by show n ≤ 6; omega⟩ (fun z hz => .inl hz) ?_
  rintro v J3 H3 e3 g3 G3 ⟨t2, hl2, hr2, ⟨a2, rfl, ha2, hz2⟩, b3⟩
  dsimp only at hl2 b3
  walk_at "go"
  refine use_draw 2 G3 b3 (by decide) (.inl rfl) ?_
  intro i4 J4 H4 hi4 e4 g4 G4 b4
  walk_at "go"
  refine if2 (fun q => ?_) (fun q => ?_)
  · walk_at "go"
    refine k_iR1E (by omega) ?_
    rw [Int.toNat_natCast]
    refine k_lcW (M1 := fun z => z = b) (walk_range (lo := 0) (n := n)) G4 (by omega) (fun _ z => .inl z) (fun z hz => by subst hz; obtain ⟨_, _, _, m, _⟩ := b4; rw [m.h]; simp) (fun i acc J' H' => Box b J' H' ∧ ∃ t : Ty, t.length = i ∧ (∀ r ∈ t, IsRt r) ∧ acc = t.map V.str) ⟨b4, [], rfl, by simp, rfl⟩ ?_ ?_ (fun _ _ _ _ => trivial) ?_ ?_
    · rintro D i acc J5 H5 o hD hD1 ⟨x, k⟩
      exact ⟨x.upH (b4.nen hD), k⟩
    · rintro D i acc J5 H5 o hD hD1 ⟨x, k⟩
      exact ⟨x.knw (b4.nen hD) hD1, k⟩
    · rintro i x acc J5 H5 H5' Ny Nn hi hl ej g5 g51 ⟨hb5, t, ht, hr, rfl⟩ ⟨rfl, rfl⟩ hy hnn
      have hx1 : (t1.map V.str)[i]? = some (V.str (t1[i]'(by omega))) := by rw [List.getElem?_map, List.getElem?_eq_getElem (by omega)]; rfl
      have hx2 : (t2.map V.str)[i]? = some (V.str (t2[i]'(by omega))) := by rw [List.getElem?_map, List.getElem?_eq_getElem (by omega)]; rfl
      have hm1 : t1[i]'(by omega) ∈ t1 := List.getElem_mem _
      have hm2 : t2[i]'(by omega) ∈ t2 := List.getElem_mem _
      have q1 := hr1 _ hm1
      have q2 := hr2 _ hm2
      generalize t1[i]'(by omega) = r1 at *
      generalize t2[i]'(by omega) = r2 at *
      dsimp only
      rw [show ((0 : Int) + (i : Int)) = (i : Int) from Int.zero_add _]
      walk_at "go"
      refine ⟨rfl, ?_⟩
      walk_at "go"
      rename_i P6 J6 H6 hP6 e6 hJ6 g6 G6
      refine use_draw (M0 := fun z => z = b) 3 (g6.weak fun _ z => z.elim) (hb5.up g6) (by decide) (.inl rfl) ?_
      intro i7 J7 H7 hi7 e7 g7 G7 b7
      walk_at "go"
      have hidx : ∃ n : Nat, (if decide ((0 : Int) < (i7 : Int)) = true then (1 : Int) else 0) = (n : Int) ∧ ∃ r : Str, IsRt r ∧ ([V.str r2, V.str r1] : List V)[n]? = some (V.str r) := by
        cases decide ((0 : Int) < (i7 : Int))
        · exact ⟨0, by simp, r2, q2, rfl⟩
        · exact ⟨1, by simp, r1, q1, rfl⟩
      obtain ⟨k, hk, r, hrt, hkr⟩ := hidx
      rw [hk]
      walk_at "go"
      refine hy _ _ _ G7 ⟨b7, t ++ [r], by simp [ht], fun z hz => ?_, by simp⟩
      rcases List.mem_append.mp hz with q | q
      · exact hr z q
      · obtain rfl : z = r := by simpa using q
        exact hrt
    · rintro D acc J5 H5 hD ej hDJ g5 G5 hl ⟨hb5, t, ht, hr, rfl⟩
      walk_at "go"
      rename_i P6 J6 H6 hP6 e6 hJ6 g6 G6 P7 J7 H7 hP7 e7 hJ7 g7 G7
      exact kk _ _ _ G7 ⟨(t1, t), ⟨P7, _, _, rfl, hJ7, ⟨a1, rfl, by walk_at "get", hz1⟩, ⟨P6, rfl, e7 _ _ hJ6, by show t.length ≤ 6; omega⟩⟩, hr1, hr, by show t1.length = t.length; omega, (hb5.up g6).up g7⟩
  · walk_at "go"
    rename_i P6 J6 H6 hP6 e6 hJ6 g6 G6
    exact kk _ _ _ G6 ⟨(t1, t2), ⟨P6, _, _, rfl, hJ6, ⟨a1, rfl, by walk_at "get", hz1⟩, ⟨a2, rfl, by walk_at "get", hz2⟩⟩, hr1, hr2, by show t1.length = t2.length; omega, b4.up g6⟩
end Rk
namespace Rk
open PySem PySem.Spec PyProof.Rows L2
variable {P : Program} {w : World} {K : PySem.W.Frag} {mg : Str → Option Value} {base : Heap}
/-! the program's own functions -/
theorem k_isi {H : Hp} {Q : VK} {x c : V} {t u : Value} {b : Bool} (hc : ClsV c u) (hx : TyX K H x t) (hk : PySem.W.kitOne K t u = some b) (k : Q (.bl b) H) : rIsi K [x, c] H Q := ⟨x, c, t, u, b, rfl, hc, hx, hk, k⟩
abbrev spIsNumber : Sp := SpD (Int × Int) (fun _ => No) (fun a vs J H => ∃ v1 v2, vs = [v1, v2] ∧ v1 = .int a.1 ∧ v2 = .int a.2) (fun a v _ _ => v = .bl (decide (0 ≤ a.1) && decide (a.1 ≤ a.2)))
theorem ok_IsNumber (T : Good K mg) : FnOk P w K mg base CX0 1 (He.ga K "is_number") (fdOf K (He.ga K "is_number")) ["thing", "most"] spIsNumber := by
  refine sp_ok (k := 0) (D_sIsNumber T) S_sIsNumber (fun a vs J H h => by obtain ⟨_, _, rfl, _⟩ := h; rfl) (fun cdv Ar outer s H0 vs E hr => ?_)
  refine ⟨_, (pss_one (ps_ret (pe_and (pe_callB (cIsi K) (by rfl) (f_isinstance T) (show bootBuiltins "isinstance" = some (.builtin "isinstance") by decide +kernel) (pa_cons (pv 0) (pa_cons (pe_bltn (v := .ty "int") (by rfl) (f_int T) (show bootBuiltins "int" = some (.type "int") by decide +kernel) rfl) pa_nil))) (pe_and (pe_not (pe_callB (cIsi K) (by rfl) (f_isinstance T) (show bootBuiltins "isinstance" = some (.builtin "isinstance") by decide +kernel) (pa_cons (pv 0) (pa_cons (pe_bltn (v := .ty "bool") (by rfl) (f_bool T) (show bootBuiltins "bool" = some (.type "bool") by decide +kernel) rfl) pa_nil)))) (pe_one (pe_chain op_le op_le pe_int (pv 0) (pv 1))))))), ?_⟩
  rintro ⟨i, m⟩ J0 Q G ⟨_, _, rfl, rfl, rfl⟩ kk
  dsimp only at *
  walk_at "go"
  refine k_isi (.ty "int") (.base (.int i)) (b := true) rfl ?_
  walk_at "go"
  refine k_isi (.ty "bool") (.base (.int i)) (b := false) rfl ?_
  walk_at "go"
  refine if2 (fun q => ?_) (fun q => ?_)
  · walk_at "go"
    exact kk _ _ _ G (by rw [q]; rfl)
  · walk_at "go"
    exact kk _ _ _ G (by rw [q]; rfl)
end Rk
namespace Rk
open PySem PySem.Spec PyProof.Rows L2
variable {P : Program} {w : World} {K : PySem.W.Frag} {mg : Str → Option Value} {base : Heap}
/-! places and sources: no fault -/
def rStr (s : Str) (v : V) (_ : Hp) : Prop := v = .str s
instance (s : Str) (v : V) : Up (rStr s v) := ⟨fun _ h => h⟩
def rBl (b : Bool) (v : V) (_ : Hp) : Prop := v = .bl b
instance (b : Bool) (v : V) : Up (rBl b v) := ⟨fun _ h => h⟩
theorem allR_str {J : Hp} : ∀ (t : List Str), AllR rStr t (t.map V.str) J
  | [] => AllR.nil
  | s :: t => (allR_str t).cons rfl
theorem allR_bl {J : Hp} : ∀ {bs : List Bool} {xs : List V}, AllR rBl bs xs J → xs = bs.map V.bl
  | [], [], _ => rfl
  | [], _ :: _, h => absurd h.1 (by simp)
  | _ :: _, [], h => absurd h.1 (by simp)
  | b :: bs, x :: xs, h => by
    obtain rfl : x = .bl b := h.head
    rw [allR_bl h.tail]; rfl
theorem k_all {H : Hp} {Q : VK} {a : Addr} {bs : List Bool} (h : H a = some (.lst (bs.map V.bl))) (k : Q (.bl (bs.all id)) H) : rAll K [.ref a] H Q := ⟨a, bs, rfl, SqL.of h, k⟩
abbrev spPlaceFault : Sp := SpD (Tys × Str × Nat) (fun _ => No) (fun a vs J _ => ∃ v1 v2, vs = [v1, v2] ∧ rDic rTy a.1 v1 J ∧ rPl a.2 v2 J ∧ reached a.1 a.2.1 a.2.2 = none) (fun a v _ _ => v = .non)
theorem ok_PlaceFault (T : Good K mg) : FnOk P w K mg base CX0 1 (He.ga K "place_fault") (fdOf K (He.ga K "place_fault")) ["known", "place"] spPlaceFault := by
  refine sp_ok (k := 0) (D_sPlaceFault T) S_sPlaceFault (fun a vs J H h => by obtain ⟨_, _, rfl, _⟩ := h; rfl) (fun cdv Ar outer s H0 vs E hr => ?_)
  refine ⟨_, (pss_cons (ps_asg (pv 1) (pgT K (n := 2) rfl (pgs_cons (pg_name (i := 2) S_sPlaceFault.nd rfl (by first | exact Or.inl rfl | exact Or.inr rfl)) (pgs_cons (pg_name (i := 3) S_sPlaceFault.nd rfl (by first | exact Or.inl rfl | exact Or.inr rfl)) pgs_nil))))
  (pss_cons (ps_if (pt_cmp (pc_dnotin (hu_of hr) (pv 2) (pv 0))) (pss_one (ps_ret pe_str)) pss_nil)
  (pss_cons (ps_set (i := 4) S_sPlaceFault.nd rfl (by first | exact Or.inl rfl | exact Or.inr rfl) (pe_dget (hu_of hr) (pv 0) (pv 2) (fun _ _ => rfl)))
  (pss_cons (ps_if (pt_cmpR op_ge (pv 3) (pe_callB (cLen K) (by rfl) (f_len T) (show bootBuiltins "len" = some (.builtin "len") by decide +kernel) (pa_cons (pv 4) pa_nil)) (nomark _)) (pss_one (ps_ret pe_str)) pss_nil)
  (pss_cons (ps_if (pt_not (pt_val (pe_callB (cAll K rfl) (by rfl) (f_all T) (show bootBuiltins "all" = some (.builtin "all") by decide +kernel) (pa_cons (pe_lc (own := [("right", 5)]) (by rfl) S_sPlaceFault.nd (piT K (pe_slice (sTA K) (pv 4) po_none (po_some (pv 3)))) (blkOk_by (own := [("right", 5)]) (N := ["known", "place", "name", "stars", "seen", "right"]) (sc := defScope sPlaceFault) (by decide +kernel)) (fun _ _ _ _ _ => (pg_name (i := 5) S_sPlaceFault.nd rfl (by first | exact Or.inl rfl | exact Or.inr rfl))) (fun _ _ _ _ _ => pts_nil) (fun _ _ _ _ _ => (pe_cmpR o_inS pe_str (pv 5) (by rfl)))) pa_nil)))) (pss_one (ps_ret pe_str)) pss_nil)
  (pss_one (ps_ret pe_non))))))), ?_⟩
  rintro ⟨ts, x, k⟩ J0 Q G ⟨_, _, rfl, ⟨a, kvs, rfl, ha, he⟩, ⟨b, rfl, hb⟩, hr⟩ kk
  dsimp only at *
  obtain ⟨t, et, hk, hall⟩ := reached_none hr
  obtain ⟨v, ev, c, rfl, hc, hl6⟩ := he.some et
  walk_at "go"
  refine ifF (by rw [ev]; rfl) ?_
  walk_at "go"
  rw [List.length_map]
  refine ifF (by simp; omega) ?_
  walk_at "go"
  have hz : ((t.map V.str).take k) = (t.take k).map V.str := by rw [List.map_take]
  refine k_lcTM (R := rStr) (S := rBl) (fun r => some (rd r)) (by assumption) (by rw [← hz]; assumption) (allR_str (t.take k)) (by simp; omega) ?_ ?_
  · intro r x J1 H1 Ny Nn hr hx e1 G1 hy hn
    obtain rfl : x = .str r := hx
    walk_at "go"
    refine ⟨rfl, ?_⟩
    walk_at "go"
    exact hy _ _ _ _ rfl (Gr.refl G1.jh) rfl
  · intro D acc J1 H1 hD e1 hDJ hacc g1 G1
    have e := allR_bl hacc
    subst e
    walk_at "go"
    refine k_all (G1.jh _ _ hDJ) ?_
    have hb : (((t.take k).filterMap fun r => some (rd r)).all id) = true := by
      rw [List.filterMap_eq_map', List.all_map]
      exact hall
    rw [hb]
    walk_at "go"
    exact kk _ _ _ G1 rfl
end Rk
namespace Rk
open PySem PySem.Spec PyProof.Rows L2
variable {P : Program} {w : World} {K : PySem.W.Frag} {mg : Str → Option Value} {base : Heap}
abbrev spSeenType : Sp := SpD (Tys × Str × Nat) (fun _ => No) (fun a vs J _ => ∃ v1 v2, vs = [v1, v2] ∧ rDic rTy a.1 v1 J ∧ rPl a.2 v2 J ∧ (a.1.lookup a.2.1).isSome = true) (fun a v J _ => rTy ((tyOf a.1 a.2.1).drop a.2.2) v J)
theorem ok_SeenType (T : Good K mg) : FnOk P w K mg base CX0 1 (He.ga K "seen_type") (fdOf K (He.ga K "seen_type")) ["known", "place"] spSeenType := by
  refine sp_ok (k := 0) (D_sSeenType T) S_sSeenType (fun a vs J H h => by obtain ⟨_, _, rfl, _⟩ := h; rfl) (fun cdv Ar outer s H0 vs E hr => ?_)
  refine ⟨_, (pss_one (ps_ret (pe_slice (sTA K) (pe_dget (hu_of hr) (pv 0) (pe_ix (xT K) (pv 1) pe_int (fun _ _ => rfl)) (fun _ _ => rfl)) (po_some (pe_ix (xT K) (pv 1) pe_int (fun _ _ => rfl))) po_none))), ?_⟩
  rintro ⟨ts, x, k⟩ J0 Q G ⟨_, _, rfl, ⟨a, kvs, rfl, ha, he⟩, ⟨b, rfl, hb⟩, hx⟩ kk
  dsimp only at *
  obtain ⟨t, et⟩ := Option.isSome_iff_exists.mp hx
  obtain ⟨v, ev, c, rfl, hc, hl6⟩ := he.some et
  have eto : tyOf ts x = t := by unfold tyOf; rw [et]; rfl
  rw [eto] at kk
  walk_at "go"
  rename_i p J1 H1 e1 hJ g1 G1
  exact kk _ _ _ G1 ⟨p, rfl, by rw [List.map_drop]; exact hJ, by simp; omega⟩
end Rk
namespace Rk
open PySem PySem.Spec PyProof.Rows L2
variable {P : Program} {w : World} {K : PySem.W.Frag} {mg : Str → Option Value} {base : Heap}
abbrev spThingInit (K : PySem.W.Frag) : Sp := SpD (Addr × Str × V × V) (fun a b => b = a.1) (fun a vs J H => ∃ v1 v2 v3 v4, vs = [v1, v2, v3, v4] ∧ v1 = .ref a.1 ∧ v2 = .str a.2.1 ∧ v3 = a.2.2.1 ∧ v4 = a.2.2.2 ∧ ∃ dx, Mu J H a.1 (.ins (He.ga K "Thing") dx []))
  (fun a v J H => v = .non ∧ ∃ dx, Mu J H a.1 (.ins (He.ga K "Thing") dx [("name", .str a.2.1), ("kind", a.2.2.1), ("value", a.2.2.2)]))
theorem ok_ThingInit (T : Good K mg) : FnOk P w K mg base CX0 1 (He.ma K (He.ga K "Thing") "__init__") (fdOf K (He.ma K (He.ga K "Thing") "__init__")) ["self", "name", "kind", "value"] (spThingInit K) := by
  refine sp_ok (k := 0) (D_cThingInit T) S_cThingInit (fun a vs J H h => by obtain ⟨_, _, _, _, rfl, _⟩ := h; rfl) (fun cdv Ar outer s H0 vs E hr => ?_)
  refine ⟨_, (pss_cons (ps_fld (pv 0) (pv 1) rfl)
  (pss_cons (ps_fld (pv 0) (pv 2) rfl)
  (pss_one (ps_fld (pv 0) (pv 3) rfl)))), ?_⟩
  rintro ⟨a, nm, kv, xv⟩ J0 Q G ⟨_, _, _, _, rfl, rfl, rfl, rfl, rfl, dx, m⟩ kk
  dsimp only at *
  walk_at "go"
  refine k_sfldE G m (.inl rfl) (clThing T) (naThing_name T) (by decide) ?_
  intro H1 g1 G1 m1
  walk_at "go"
  refine k_sfldE G1 m1 (.inl rfl) (clThing T) (naThing_kind T) (by show (1 : Nat) < 1000; decide) ?_
  intro H2 g2 G2 m2
  walk_at "go"
  refine k_sfldE G2 m2 (.inl rfl) (clThing T) (naThing_value T) (by show (2 : Nat) < 1000; decide) ?_
  intro H3 g3 G3 m3
  walk_at "go"
  exact kk _ _ _ G3 ⟨rfl, dx, m3⟩
end Rk
namespace Rk
open PySem PySem.Spec PyProof.Rows L2
variable {P : Program} {w : World} {K : PySem.W.Frag} {mg : Str → Option Value} {base : Heap}
abbrev spWorldInit (K : PySem.W.Frag) : Sp := SpD (Addr × Hp) (fun a b => b = a.1) (fun a vs J H => ∃ v1, vs = [v1] ∧ v1 = .ref a.1 ∧ a.2 = H ∧ ∃ dx, Mu J H a.1 (.ins (He.ga K "World") dx []))
  (fun a v J H => v = .non ∧ ∃ dx tl bl, a.2 tl = none ∧ a.2 bl = none ∧ ¬ tl = bl ∧ Mu J H tl (.lst []) ∧ Mu J H bl (.lst []) ∧ Mu J H a.1 (.ins (He.ga K "World") dx [("things", .ref tl), ("breaches", .ref bl), ("executed", .int 0)]))
theorem ok_WorldInit (T : Good K mg) : FnOk P w K mg base CX0 1 (He.ma K (He.ga K "World") "__init__") (fdOf K (He.ma K (He.ga K "World") "__init__")) ["self"] (spWorldInit K) := by
  refine sp_ok (k := 0) (D_cWorldInit T) S_cWorldInit (fun a vs J H h => by obtain ⟨_, rfl, _⟩ := h; rfl) (fun cdv Ar outer s H0 vs E hr => ?_)
  refine ⟨_, (pss_cons (ps_fld (pv 0) (pe_lst pa_nil) rfl)
  (pss_cons (ps_fld (pv 0) (pe_lst pa_nil) rfl)
  (pss_one (ps_fld (pv 0) pe_int rfl)))), ?_⟩
  rintro ⟨a, hh⟩ J0 Q G ⟨_, rfl, rfl, rfl, dx, m⟩ kk
  dsimp only at *
  walk_at "go"
  refine k_lstM G (by decide) ?_
  intro tl H1 htl htl0 mt g1 G1
  have hta : ¬ a = tl := m.nen htl
  have m1 := m.up g1
  walk_at "go"
  refine k_sfldE G1 m1 (.inl rfl) (clWorld T) (naWorld_things T) (by decide) ?_
  intro H2 g2 G2 m2
  have mt2 := mt.step g2 (fun e => hta e.symm)
  walk_at "go"
  refine k_lstM G2 (by decide) ?_
  intro bl H3 hbl hbl0 mb g3 G3
  have hba : ¬ a = bl := m2.nen hbl
  have htb : ¬ tl = bl := mt2.nen hbl
  have m3 := m2.up g3
  have mt3 := mt2.up g3
  walk_at "go"
  refine k_sfldE G3 m3 (.inl rfl) (clWorld T) (naWorld_breaches T) (by show (1 : Nat) < 1000; decide) ?_
  intro H4 g4 G4 m4
  have mt4 := mt3.step g4 (fun e => hta e.symm)
  have mb4 := mb.step g4 (fun e => hba e.symm)
  walk_at "go"
  refine k_sfldE G4 m4 (.inl rfl) (clWorld T) (naWorld_executed T) (by show (2 : Nat) < 1000; decide) ?_
  intro H5 g5 G5 m5
  walk_at "go"
  exact kk _ _ _ G5 ⟨rfl, dx, tl, bl, htl0, hbl0, htb, mt4.step g5 (fun e => hta e.symm), mb4.step g5 (fun e => hba e.symm), m5⟩
end Rk
namespace Rk
open PySem PySem.Spec PyProof.Rows L2
variable {P : Program} {w : World} {K : PySem.W.Frag} {mg : Str → Option Value} {base : Heap}
def rTold (v : V) (n : Nat) (J : Hp) : Prop := ∃ a l ws s, v = .ref a ∧ J a = some (.tup [.ref l, .str s]) ∧ J l = some (.lst ws) ∧ ws.length ≤ n
def spFnd (n : Nat) : Sp := SpD (Ty × Ty) (fun _ => No) (fun a vs J _ => ∃ v1 v2, vs = [v1, v2] ∧ rTy a.1 v1 J ∧ rTy a.2 v2 J ∧ a.1.length = a.2.length ∧ a.1.length ≤ n) (fun a v J _ => (conv a.1 a.2 = true ∧ v = .non) ∨ (conv a.1 a.2 = false ∧ rTold v a.1.length J))
theorem wi_eq {x y : Str} (h1 : (!rd y || rd x) = true) (h2 : (!wr y || wr x) = true) : wi y x = true := by unfold wi; rw [h1, h2]; rfl
theorem wi_f1 {x y : Str} (h1 : rd y = true) (h2 : rd x = false) : wi y x = false := by unfold wi; rw [h1, h2]; rfl
theorem wi_f2 {x y : Str} (h1 : wr y = true) (h2 : wr x = false) : wi y x = false := by unfold wi; rw [h1, h2]; simp
theorem or_of {a b : Bool} (h : a = true → b = true) : (!a || b) = true := by
  cases a
  · rfl
  · rw [h rfl]; rfl
theorem step_Find (T : Good K mg) (n : Nat) {sp0 : Sp} (G0 : FnOk P w K mg base CX0 (0 + n) (He.ga K "_find") (fdOf K (He.ga K "_find")) ["one", "two"] sp0) (h0 : ∀ vs H Q E, 0 < n → spFnd (n - 1) vs H Q E → sp0 vs H Q E) : FnOk P w K mg base CX0 (0 + n + 1) (He.ga K "_find") (fdOf K (He.ga K "_find")) ["one", "two"] (spFnd n) := by
  refine sp_ok (k := 0 + n) (D_sFind T) S_sFind (fun a vs J H h => by obtain ⟨_, _, rfl, _⟩ := h; rfl) (fun cdv Ar outer s H0 vs E hr => ?_)
  refine ⟨_, (pss_cons (ps_if (pt_not (ptTru K (pv 0) (by intro _; rfl))) (pss_one (ps_ret pe_non)) pss_nil)
  (pss_cons (ps_for PassesOwn.never rfl (piT K (pe_tup (pa_cons pe_str (pa_cons pe_str pa_nil)))) (pg_name (i := 2) S_sFind.nd rfl (by first | exact Or.inl rfl | exact Or.inr rfl))
  (pss_one (ps_if (PW.pt (pw_and (pt_cmpR o_inS (pv 2) (pe_ix (xT K) (pv 1) pe_int (fun _ _ => rfl)) (by rfl)) (pw_and1 (pt_cmpR o_ninS (pv 2) (pe_ix (xT K) (pv 0) pe_int (fun _ _ => rfl)) (by rfl))))) (pss_one (ps_ret (pe_tup (pa_cons (pe_lst pa_nil) (pa_cons (pv 2) pa_nil))))) pss_nil)))
  (pss_cons (ps_for PassesOwn.never rfl (piT K (pe_tup (pa_cons pe_str (pa_cons pe_str pa_nil)))) (pg_name (i := 2) S_sFind.nd rfl (by first | exact Or.inl rfl | exact Or.inr rfl))
  (pss_one (ps_if (pt_cmpR o_inS (pv 2) (pe_ix (xT K) (pv 1) pe_int (fun _ _ => rfl)) (by rfl)) (pss_cons (ps_set (i := 3) S_sFind.nd rfl (by first | exact Or.inl rfl | exact Or.inr rfl) (pe_ifExp (pt_cmpR op_eq (pv 2) pe_str (nomark _)) (pe_call G0 (hr.mono (by omega)) rfl (g_find T) (D_sFind T).kp (B_sFind T) .nil pass0 (pa_cons (pe_slice (sTA K) (pv 0) (po_some pe_int) po_none) (pa_cons (pe_slice (sTA K) (pv 1) (po_some pe_int) po_none) pa_nil))) (pe_call G0 (hr.mono (by omega)) rfl (g_find T) (D_sFind T).kp (B_sFind T) .nil pass0 (pa_cons (pe_slice (sTA K) (pv 1) (po_some pe_int) po_none) (pa_cons (pe_slice (sTA K) (pv 0) (po_some pe_int) po_none) pa_nil)))))
  (pss_one (ps_if (pt_cmpR o_notN (pv 3) pe_non (nomark _)) (pss_one (ps_ret (pe_tup (pa_cons (pe_op op_cat (pe_lst (pa_cons (pv 2) pa_nil)) (pe_ix (xT K) (pv 3) pe_int (fun _ _ => rfl))) (pa_cons (pe_ix (xT K) (pv 3) pe_int (fun _ _ => rfl)) pa_nil))))) pss_nil))) pss_nil)))
  (pss_one (ps_ret pe_non))))), ?_⟩
  rintro ⟨x, y⟩ J0 Q G ⟨_, _, rfl, ⟨a, rfl, ha, hla⟩, ⟨b, rfl, hb, hlb⟩, hl, hn⟩ kk
  dsimp only at *
  have zs := sizeLine_eq
  cases x with
  | nil =>
    cases y with
    | cons y ys => simp at hl
    | nil =>
      walk_at "go"
      exact kk _ _ _ G (.inl ⟨conv_refl [], rfl⟩)
  | cons x xs =>
    cases y with
    | nil => simp at hl
    | cons y ys =>
      have hl2 : xs.length = ys.length := by simpa using hl
      have hn0 : 0 < n := by simp at hn; omega
      rw [conv_cons_eq hl2] at kk
      walk_at "go"
      refine ifF rfl ?_
      walk_at "go"
      rename_i P1 J1 H1 hP1 e1 hJ1 g1 G1
      have rec1 : ∀ {J H : Hp} {p1 p2 : Addr} {Q : VK} {E : XK} {u v : Ty}, Gr No J0 H0 J H → J p1 = some (.tup (u.map V.str)) → J p2 = some (.tup (v.map V.str)) → u.length + 1 = (x :: xs).length → v.length = u.length → (∀ w J' H', Ex J J' → Gr No J0 H0 J' H' → ((conv u v = true ∧ w = .non) ∨ (conv u v = false ∧ rTold w u.length J')) → Q w H') → sp0 [.ref p1, .ref p2] H Q E := by
        intro J H p1 p2 Q E u v g h1 h2 l1 l2 k
        refine h0 _ _ _ _ hn0 ?_
        unfold spFnd
        refine (use_sp g (u, v) ⟨_, _, rfl, ⟨_, rfl, h1, by show u.length ≤ 6; simp at l1 hla; omega⟩, ⟨_, rfl, h2, by show v.length ≤ 6; simp at l1 hla; omega⟩, l2.symm, by simp at l1 hn; show u.length ≤ n - 1; omega⟩ (fun _ z => z.elim) ?_)
        rintro v J1 H1 e1 g1 G1 h
        exact k _ _ _ e1 G1 h
      refine k_forT G1 (xs := [V.str "r", V.str "w"]) hJ1 (fun i σ' J' H' => ∃ w, σ' = [some (.ref a), some (.ref b), w, none] ∧ (1 ≤ i → (!rd y || rd x) = true) ∧ (2 ≤ i → (!wr y || wr x) = true)) ⟨_, rfl, fun h => by omega, fun h => by omega⟩ ?_ ?_
      · rintro i z σ' J2 H2 hz e2 G2 ⟨w, rfl, i1, i2⟩
        match i, hz with
        | 0, hz =>
          obtain rfl : V.str "r" = z := by simpa using hz
          walk_at "go"
          refine if2 (fun q => ?_) (fun q => ?_)
          · have q1 : rd y = true := q
            walk_at "go"
            refine if2 (fun q2 => ?_) (fun q2 => ?_)
            · have q3 : rd x = false := by simpa [rd] using q2
              walk_at "go"
              refine k_lst G2 (by decide) ?_
              intro L J3 H3 hL e3 hLJ g3 G3
              walk_at "go"
              rename_i P4 J4 H4 hP4 e4 hJ4 g4 G4
              exact kk _ _ _ G4 (.inr ⟨by rw [wi_f1 q1 q3]; rfl, P4, L, [], "r", rfl, hJ4, e4 _ _ hLJ, Nat.zero_le _⟩)
            · have q3 : rd x = true := by simpa [rd] using q2
              walk_at "go"
              exact ⟨_, e2, G2, _, rfl, fun _ => by rw [q1, q3]; rfl, fun h => by omega⟩
          · have q1 : rd y = false := q
            walk_at "go"
            exact ⟨_, e2, G2, _, rfl, fun _ => by rw [q1]; rfl, fun h => by omega⟩
        | 1, hz =>
          obtain rfl : V.str "w" = z := by simpa using hz
          have i1 := i1 (Nat.le_refl 1)
          walk_at "go"
          refine if2 (fun q => ?_) (fun q => ?_)
          · have q1 : wr y = true := q
            walk_at "go"
            refine if2 (fun q2 => ?_) (fun q2 => ?_)
            · have q3 : wr x = false := by simpa [wr] using q2
              walk_at "go"
              refine k_lst G2 (by decide) ?_
              intro L J3 H3 hL e3 hLJ g3 G3
              walk_at "go"
              rename_i P4 J4 H4 hP4 e4 hJ4 g4 G4
              exact kk _ _ _ G4 (.inr ⟨by rw [wi_f2 q1 q3]; rfl, P4, L, [], "w", rfl, hJ4, e4 _ _ hLJ, Nat.zero_le _⟩)
            · have q3 : wr x = true := by simpa [wr] using q2
              walk_at "go"
              exact ⟨_, e2, G2, _, rfl, fun _ => i1, fun _ => by rw [q1, q3]; rfl⟩
          · have q1 : wr y = false := q
            walk_at "go"
            exact ⟨_, e2, G2, _, rfl, fun _ => i1, fun _ => by rw [q1]; rfl⟩
        | i + 2, hz => simp at hz
      · rintro σ' J2 H2 e2 G2 ⟨w, rfl, i1, i2⟩
        have hwi : wi y x = true := wi_eq (i1 (by decide)) (i2 (by decide))
        rw [hwi] at kk
        walk_at "go"
        rename_i P3 J3 H3 hP3 e3 hJ3 g3 G3
        refine k_forT G3 (xs := [V.str "r", V.str "w"]) hJ3 (fun i σ' J' H' => ∃ w w', σ' = [some (.ref a), some (.ref b), w, w'] ∧ (1 ≤ i → (!rd y || conv xs ys) = true) ∧ (2 ≤ i → (!wr y || conv ys xs) = true)) ⟨_, _, rfl, fun h => by omega, fun h => by omega⟩ ?_ ?_
        · rintro i z σ' J4 H4 hz e4 G4 ⟨w, w', rfl, i1, i2⟩
          match i, hz with
          | 0, hz =>
            obtain rfl : V.str "r" = z := by simpa using hz
            walk_at "go"
            refine if2 (fun q => ?_) (fun q => ?_)
            · have q1 : rd y = true := q
              walk_at "go"
              refine rec1 (u := xs) (v := ys) (by assumption) (by walk_at "get") (by walk_at "get") rfl hl2.symm ?_
              rintro v J8 H8 e8 G8 (⟨hc, rfl⟩ | ⟨hc, ta, tl, ws, s, rfl, hta, htl, hws⟩)
              · walk_at "go"
                exact ⟨_, ((e4.trans (by assumption)).trans (by assumption)).trans e8, G8, _, _, rfl, fun _ => by rw [hc]; simp, fun h => by omega⟩
              · walk_at "go"
                refine ifT rfl ?_
                walk_at "go"
                rename_i P9 J9 H9 hP9 e9 hJ9 g9 G9
                refine k_cat G9 (by walk_at "get") (by walk_at "get") (by simp at hws hla ⊢; omega) ?_
                intro L J10 H10 hL e10 hLJ g10 G10
                walk_at "go"
                rename_i P11 J11 H11 hP11 e11 hJ11 g11 G11
                exact kk _ _ _ G11 (.inr ⟨by rw [q1, hc]; simp, P11, L, _, s, rfl, hJ11, e11 _ _ hLJ, by simp at hws ⊢; omega⟩)
            · have q1 : rd y = false := q
              walk_at "go"
              exact ⟨_, e4, G4, _, _, rfl, fun _ => by rw [q1]; rfl, fun h => by omega⟩
          | 1, hz =>
            obtain rfl : V.str "w" = z := by simpa using hz
            have i1 := i1 (Nat.le_refl 1)
            walk_at "go"
            refine if2 (fun q => ?_) (fun q => ?_)
            · have q1 : wr y = true := q
              walk_at "go"
              refine rec1 (u := ys) (v := xs) (by assumption) (by walk_at "get") (by walk_at "get") (by simp; omega) hl2 ?_
              rintro v J8 H8 e8 G8 (⟨hc, rfl⟩ | ⟨hc, ta, tl, ws, s, rfl, hta, htl, hws⟩)
              · walk_at "go"
                exact ⟨_, ((e4.trans (by assumption)).trans (by assumption)).trans e8, G8, _, _, rfl, fun _ => i1, fun _ => by rw [hc]; simp⟩
              · walk_at "go"
                refine ifT rfl ?_
                walk_at "go"
                rename_i P9 J9 H9 hP9 e9 hJ9 g9 G9
                refine k_cat G9 (by walk_at "get") (by walk_at "get") (by simp at hws hla ⊢; omega) ?_
                intro L J10 H10 hL e10 hLJ g10 G10
                walk_at "go"
                rename_i P11 J11 H11 hP11 e11 hJ11 g11 G11
                exact kk _ _ _ G11 (.inr ⟨by rw [q1, hc]; simp, P11, L, _, s, rfl, hJ11, e11 _ _ hLJ, by simp at hws ⊢; omega⟩)
            · have q1 : wr y = false := q
              walk_at "go"
              exact ⟨_, e4, G4, _, _, rfl, fun _ => i1, fun _ => by rw [q1]; rfl⟩
          | i + 2, hz => simp at hz
        · rintro σ' J4 H4 e4 G4 ⟨w, w', rfl, i1, i2⟩
          walk_at "go"
          exact kk _ _ _ G4 (.inl ⟨by rw [i1 (by decide), i2 (by decide)]; rfl, rfl⟩)
theorem ok_FindN (T : Good K mg) : ∀ n : Nat, FnOk P w K mg base CX0 (0 + n + 1) (He.ga K "_find") (fdOf K (He.ga K "_find")) ["one", "two"] (spFnd n)
  | 0 => step_Find T 0 (sp0 := fun _ _ _ _ => False) ok_never fun _ _ _ _ h => absurd h (Nat.lt_irrefl 0)
  | n + 1 => step_Find T (n + 1) (ok_FindN T n) fun _ _ _ _ _ h => h
abbrev spFind : Sp := spFnd 6
theorem ok_Find (T : Good K mg) : FnOk P w K mg base CX0 8 (He.ga K "_find") (fdOf K (He.ga K "_find")) ["one", "two"] spFind := (ok_FindN T 6).mono (by decide)
abbrev spConverts : Sp := SpD (Ty × Ty) (fun _ => No) (fun a vs J _ => ∃ v1 v2, vs = [v1, v2] ∧ rTy a.1 v1 J ∧ rTy a.2 v2 J) (fun a v _ _ => v = .bl (conv a.1 a.2))
theorem ok_Converts (T : Good K mg) : FnOk P w K mg base CX0 9 (He.ga K "converts") (fdOf K (He.ga K "converts")) ["one", "two"] spConverts := by
  refine sp_ok (k := 8) (D_sConverts T) S_sConverts (fun a vs J H h => by obtain ⟨_, _, rfl, _⟩ := h; rfl) (fun cdv Ar outer s H0 vs E hr => ?_)
  refine ⟨_, (pss_one (ps_ret (pe_and (pe_cmpR op_eq (pe_callB (cLen K) (by rfl) (f_len T) (show bootBuiltins "len" = some (.builtin "len") by decide +kernel) (pa_cons (pv 0) pa_nil)) (pe_callB (cLen K) (by rfl) (f_len T) (show bootBuiltins "len" = some (.builtin "len") by decide +kernel) (pa_cons (pv 1) pa_nil)) (nomark _)) (pe_one (pe_cmpR o_isN (pe_call (ok_Find T) (hr.mono (by omega)) rfl (g_find T) (D_sFind T).kp (B_sFind T) .nil pass0 (pa_cons (pv 0) (pa_cons (pv 1) pa_nil))) pe_non (nomark _)))))), ?_⟩
  rintro ⟨x, y⟩ J0 Q G ⟨_, _, rfl, ⟨a, rfl, ha, hla⟩, ⟨b, rfl, hb, hlb⟩⟩ kk
  dsimp only at *
  walk_at "go"
  rw [List.length_map, List.length_map]
  refine if2 (fun q => ?_) (fun q => ?_)
  · have hl : x.length = y.length := by simp at q; omega
    walk_at "go"
    unfold spFind spFnd
    refine use_sp G (x, y) ⟨_, _, rfl, ⟨a, rfl, ha, hla⟩, ⟨b, rfl, hb, hlb⟩, hl, hla⟩ (fun _ z => z.elim) ?_
    rintro v J1 H1 e1 g1 G1 (⟨hc, rfl⟩ | ⟨hc, ta, tl, ws, s, rfl, hta, htl, hws⟩)
    · walk_at "go"
      exact kk _ _ _ G1 (by rw [hc]; rfl)
    · walk_at "go"
      exact kk _ _ _ G1 (by rw [hc]; rfl)
  · have hl : ¬ x.length = y.length := by simp at q; omega
    walk_at "go"
    exact kk _ _ _ G (by simp [conv, hl])
end Rk
namespace Rk
open PySem PySem.Spec PyProof.Rows L2
variable {P : Program} {w : World} {K : PySem.W.Frag} {mg : Str → Option Value} {base : Heap}
/-! the forms: names, places, sources -/
section
variable {H : Hp} {Q : VK}
theorem k_isiS {x : Str} (k : Q (.bl true) H) : rIsi K [.str x, .ty "str"] H Q := k_isi (.ty "str") (.base (.str x)) (b := true) rfl k
theorem k_isiT {p : Addr} {xs : List V} (h : H p = some (.tup xs)) (k : Q (.bl true) H) : rIsi K [.ref p, .ty "tuple"] H Q := k_isi (.ty "tuple") (.base (.tup h)) (b := true) rfl k
theorem k_isiL {p : Addr} {xs : List V} (h : H p = some (.lst xs)) (k : Q (.bl true) H) : rIsi K [.ref p, .ty "list"] H Q := k_isi (.ty "list") (.base (.lst h)) (b := true) rfl k
theorem k_isiI {i : Int} (k : Q (.bl true) H) : rIsi K [.int i, .ty "int"] H Q := k_isi (.ty "int") (.base (.int i)) (b := true) rfl k
theorem k_isiIB {i : Int} (k : Q (.bl false) H) : rIsi K [.int i, .ty "bool"] H Q := k_isi (.ty "bool") (.base (.int i)) (b := false) rfl k
theorem k_isiIT {i : Int} (k : Q (.bl false) H) : rIsi K [.int i, .ty "tuple"] H Q := k_isi (.ty "tuple") (.base (.int i)) (b := false) rfl k
theorem k_isiIL {i : Int} (k : Q (.bl false) H) : rIsi K [.int i, .ty "list"] H Q := k_isi (.ty "list") (.base (.int i)) (b := false) rfl k
theorem k_isiSL {x : Str} (k : Q (.bl false) H) : rIsi K [.str x, .ty "list"] H Q := k_isi (.ty "list") (.base (.str x)) (b := false) rfl k
theorem k_isiTL {p : Addr} {xs : List V} (h : H p = some (.tup xs)) (k : Q (.bl false) H) : rIsi K [.ref p, .ty "list"] H Q := k_isi (.ty "list") (.base (.tup h)) (b := false) rfl k
theorem k_inT {p : Addr} {x : V} {xs : List V} (hp : H p = some (.tup xs)) (f1 : flatV x = true) (f2 : xs.all flatV = true) (k : Q (.bl (inV x xs)) H) : rIn K false x (.ref p) H Q := ⟨p, xs, rfl, .inr (SqT.of hp), f1, f2, k⟩
theorem k_methV {H : Hp} {a C dx : Addr} {fs : List (Str × V)} {mn : Str} {P : Prop} (hH : H a = some (.ins C dx fs)) (hf : fs.lookup mn = none) (k : P) : ∃ a' dx fs, V.ref a = .ref a' ∧ H a' = some (.ins C dx fs) ∧ fs.lookup mn = none ∧ P := ⟨a, dx, fs, rfl, hH, hf, k⟩
end
end Rk
local macro_rules | `(tactic| walk_at "st2") => `(tactic| first
  | ((with_reducible refine' k_fldV ?h1 ?h2 ?h3 ?h4 ?_); (case h1 => walk_at "get"); (case h2 => first | exact clFunction (by assumption) | exact clProgram (by assumption) | exact clThing (by assumption) | exact clWorld (by assumption)); (case h3 => first | exact naFunction_name (by assumption) | exact naFunction_params (by assumption) | exact naFunction_body (by assumption) | exact naProgram_functions (by assumption) | exact naProgram_statements (by assumption) | exact naThing_name (by assumption) | exact naThing_kind (by assumption) | exact naThing_value (by assumption) | exact naWorld_things (by assumption) | exact naWorld_breaches (by assumption) | exact naWorld_executed (by assumption)); (case h4 => exact rfl))
  | ((with_reducible refine' k_methV ?h1 ?h2 ?_); (case h1 => walk_at "get"); (case h2 => exact rfl))
  | with_reducible refine k_isiS ?_
  | ((with_reducible refine' k_isiT ?h1 ?_); (case h1 => walk_at "get"))
  | ((with_reducible refine' k_isiL ?h1 ?_); (case h1 => walk_at "get"))
  | with_reducible refine k_isiI ?_
  | with_reducible refine k_isiIB ?_
  | with_reducible refine k_isiIT ?_
  | with_reducible refine k_isiSL ?_
  | with_reducible refine k_isiIL ?_
  | ((with_reducible refine' k_isiTL ?h1 ?_); (case h1 => walk_at "get")))
local macro_rules | `(tactic| walk_at "gr") => `(tactic| repeat (first | walk_at "st" | ((with_reducible refine' ifT ?h1 ?_); (case h1 => exact rfl)) | ((with_reducible refine' ifF ?h1 ?_); (case h1 => exact rfl))))
namespace Rk
open PySem PySem.Spec PyProof.Rows L2
variable {P : Program} {w : World} {K : PySem.W.Frag} {mg : Str → Option Value} {base : Heap}
def nmsAll : List Str := allNames ++ (["zq", "zz", "fa", "fb"] : List Str)
def NmOk (x : Str) : Prop := x ∈ nmsAll
def nmB (x : Str) : Bool := Nat.ble 1 x.length && Nat.ble x.length 8 && Nat.ble x.cps.size 8 && !decide (x = "null") && (x.cps.toList.all fun c => hasS ⟨#[c]⟩ "abcdefghijklmnopqrstuvwxyz") && (PyData.str x).canLay0
theorem nm_all : nmsAll.all nmB = true := by decide +kernel
structure NmF (x : Str) : Prop where
  l1 : 1 ≤ x.length
  l8 : x.length ≤ 8
  s8 : x.cps.size ≤ 8
  nn : x ≠ "null"
  lt : ∀ c ∈ x.cps.toList, hasS ⟨#[c]⟩ "abcdefghijklmnopqrstuvwxyz" = true
  s : sOk x
theorem NmOk.f {x : Str} (h : NmOk x) : NmF x := by
  have h1 := List.all_eq_true.mp nm_all x h
  unfold nmB at h1
  simp only [Bool.and_eq_true, Nat.ble_eq, Bool.not_eq_true', decide_eq_false_iff_not, List.all_eq_true] at h1
  obtain ⟨⟨⟨⟨⟨h1, h2⟩, h3⟩, h4⟩, h5⟩, h6⟩ := h1
  exact ⟨h1, h2, h3, h4, h5, h6⟩
theorem k_lenS {x : Str} {H : Hp} {Q : VK} (h : x.length ≤ 8) (k : Q (.int (x.length : Int)) H) : rLen K [.str x] H Q := ⟨.str x, x.length, rfl, ⟨Nat.le_trans h (by decide), rfl⟩, k⟩
abbrev spIsName : Sp := SpD Str (fun _ => No) (fun x vs J H => ∃ v1, vs = [v1] ∧ v1 = .str x ∧ NmOk x) (fun a v _ _ => v = .bl true)
theorem ok_IsName (T : Good K mg) : FnOk P w K mg base CX0 1 (He.ga K "is_name") (fdOf K (He.ga K "is_name")) ["thing"] spIsName := by
  refine sp_ok (k := 0) (D_sIsName T) S_sIsName (fun a vs J H h => by obtain ⟨_, rfl, _⟩ := h; rfl) (fun cdv Ar outer s H0 vs E hr => ?_)
  refine ⟨_, (pss_cons (ps_if (PW.pt (pw_or (pt_not (pt_val (pe_callB (cIsi K) (by rfl) (f_isinstance T) (show bootBuiltins "isinstance" = some (.builtin "isinstance") by decide +kernel) (pa_cons (pv 0) (pa_cons (pe_bltn (v := .ty "str") (by rfl) (f_str T) (show bootBuiltins "str" = some (.type "str") by decide +kernel) rfl) pa_nil))))) (pw_or (pt_not (pt_chain op_le op_le pe_int (pe_callB (cLen K) (by rfl) (f_len T) (show bootBuiltins "len" = some (.builtin "len") by decide +kernel) (pa_cons (pv 0) pa_nil)) (pe_gint rfl (iLONGEST_NAME T)))) (pw_or1 (pt_cmpR op_eq (pv 0) pe_str (nomark _)))))) (pss_one (ps_ret pe_bl)) pss_nil)
  (pss_one (ps_ret (pe_callB (cAll K rfl) (by rfl) (f_all T) (show bootBuiltins "all" = some (.builtin "all") by decide +kernel) (pa_cons (pe_lc (own := [("letter", 1)]) (by rfl) S_sIsName.nd (pi_str (pv 0)) (blkOk_by (own := [("letter", 1)]) (N := ["thing", "letter"]) (sc := defScope sIsName) (by decide +kernel)) (fun _ _ _ _ _ => (pg_name (i := 1) S_sIsName.nd rfl (by first | exact Or.inl rfl | exact Or.inr rfl))) (fun _ _ _ _ _ => pts_nil) (fun _ _ _ _ _ => (pe_cmpR o_inS (pv 1) (pe_gstr rfl (tLETTERS T)) (by rfl)))) pa_nil))))), ?_⟩
  rintro x J0 Q G ⟨_, rfl, rfl, hx⟩ kk
  have hf := hx.f
  walk_at "go"
  refine k_lenS hf.l8 ?_
  walk_at "go"
  refine ifT (by simp; have := hf.l1; omega) ?_
  walk_at "go"
  refine ifF (by simp; have := hf.l8; omega) ?_
  walk_at "go"
  refine ifF (by simp; exact hf.nn) ?_
  walk_at "go"
  refine k_lcS G (by have := hf.s8; omega) (fun i acc _ => acc = (List.replicate i true).map V.bl) (fun _ _ _ _ _ h => h) rfl ?_ ?_
  · rintro i c acc J1 H1 Ny Nn hc hl e1 G1 rfl hy hn
    walk_at "go"
    refine ⟨rfl, ?_⟩
    walk_at "go"
    rw [hf.lt c (by rw [Array.mem_toList_iff]; exact Array.mem_of_getElem? hc)]
    refine hy _ _ _ (Gr.refl G1.jh) ?_
    rw [List.replicate_succ', List.map_append]
    rfl
  · rintro D acc J1 H1 hD e1 hDJ g1 G1 hl rfl
    walk_at "go"
    refine k_all (G1.jh _ _ hDJ) ?_
    walk_at "go"
    exact kk _ _ _ G1 (by simp)
def PlN (p : Str × Nat) : Prop := NmOk p.1 ∧ p.2 ≤ 5
abbrev spIsPlace : Sp := SpD (Str × Nat) (fun _ => No) (fun p vs J H => ∃ v1, vs = [v1] ∧ rPl p v1 J ∧ PlN p) (fun a v _ _ => v = .bl true)
theorem ok_IsPlace (T : Good K mg) : FnOk P w K mg base CX0 2 (He.ga K "is_place") (fdOf K (He.ga K "is_place")) ["thing"] spIsPlace := by
  refine sp_ok (k := 1) (D_sIsPlace T) S_sIsPlace (fun a vs J H h => by obtain ⟨_, rfl, _⟩ := h; rfl) (fun cdv Ar outer s H0 vs E hr => ?_)
  refine ⟨_, (pss_cons (ps_if (PW.pt (pw_or (pt_not (pt_val (pe_callB (cIsi K) (by rfl) (f_isinstance T) (show bootBuiltins "isinstance" = some (.builtin "isinstance") by decide +kernel) (pa_cons (pv 0) (pa_cons (pe_bltn (v := .ty "tuple") (by rfl) (f_tuple T) (show bootBuiltins "tuple" = some (.type "tuple") by decide +kernel) rfl) pa_nil))))) (pw_or1 (pt_cmpR op_ne (pe_callB (cLen K) (by rfl) (f_len T) (show bootBuiltins "len" = some (.builtin "len") by decide +kernel) (pa_cons (pv 0) pa_nil)) pe_int (nomark _))))) (pss_one (ps_ret pe_bl)) pss_nil)
  (pss_one (ps_ret (pe_and (pe_call (ok_IsName T) (hr.mono (by omega)) rfl (gis_name T) (D_sIsName T).kp (B_sIsName T) .nil pass0 (pa_cons (pe_ix (xT K) (pv 0) pe_int (fun _ _ => rfl)) pa_nil)) (pe_one (pe_call (ok_IsNumber T) (hr.mono (by omega)) rfl (gis_number T) (D_sIsNumber T).kp (B_sIsNumber T) .nil pass0 (pa_cons (pe_ix (xT K) (pv 0) pe_int (fun _ _ => rfl)) (pa_cons (pe_gint rfl (iMOST_STARS T)) pa_nil)))))))), ?_⟩
  rintro ⟨x, k⟩ J0 Q G ⟨_, rfl, ⟨a, rfl, ha⟩, hx, hk⟩ kk
  dsimp only at *
  walk_at "go"
  refine ifF rfl ?_
  walk_at "go"
  refine use_sp G x ⟨_, rfl, rfl, hx⟩ (fun _ z => z.elim) ?_
  rintro v J1 H1 e1 g1 G1 rfl
  walk_at "go"
  refine use_sp G1 ((k : Int), 5) ⟨_, _, rfl, rfl, rfl⟩ (fun _ z => z.elim) ?_
  rintro v J2 H2 e2 g2 G2 rfl
  exact kk _ _ _ G2 (by simp; omega)
def SrcN : Src → Prop
  | .num n => n ≤ 1000
  | .null => True
  | .val x k => PlN (x, k)
  | .adr x k => PlN (x, k)
def pySrc : Src → PyData
  | .num n => .tuple [.str "number", .int (n : Int)]
  | .null => .tuple [.str "null"]
  | .val x k => .tuple [.str "value", .tuple [.str x, .int (k : Int)]]
  | .adr x k => .tuple [.str "address", .tuple [.str x, .int (k : Int)]]
theorem dp_src {J H : Hp} (e : Ex J H) {s : Src} {v : V} (h : rSrc s v J) : Dp K H v (pySrc s) := by
  cases s with
  | num n => obtain ⟨a, rfl, ha⟩ := h; exact .tup (SqT.of (e _ _ ha)) (.cons (.str _) (.cons (.int _) .nil))
  | null => obtain ⟨a, rfl, ha⟩ := h; exact .tup (SqT.of (e _ _ ha)) (.cons (.str _) .nil)
  | val x k => obtain ⟨a, b, rfl, ha, hb⟩ := h; exact .tup (SqT.of (e _ _ ha)) (.cons (.str _) (.cons (.tup (SqT.of (e _ _ hb)) (.cons (.str _) (.cons (.int _) .nil))) .nil))
  | adr x k => obtain ⟨a, b, rfl, ha, hb⟩ := h; exact .tup (SqT.of (e _ _ ha)) (.cons (.str _) (.cons (.tup (SqT.of (e _ _ hb)) (.cons (.str _) (.cons (.int _) .nil))) .nil))
theorem sOk4 : sOk "number" ∧ sOk "null" ∧ sOk "value" ∧ sOk "address" := by unfold sOk; decide +kernel
theorem lay_src {s : Src} (h : SrcN s) : SeqAt.shaped (pySrc s) = true := by
  obtain ⟨h1, h2, h3, h4⟩ := sOk4
  unfold sOk at h1 h2 h3 h4
  simp only [PyData.canLay0] at h1 h2 h3 h4
  cases s with
  | num n => exact shaped_of (by simp [pySrc, PyData.canLay0, PyData.canLayAll0, h1]) (by simp [pySrc, PyData.depth, PyData.depthAll])
  | null => exact shaped_of (by simp [pySrc, PyData.canLay0, PyData.canLayAll0, h2]) (by simp [pySrc, PyData.depth, PyData.depthAll])
  | val x k =>
    have hx := h.1.f.s
    unfold sOk at hx
    simp only [PyData.canLay0] at hx
    exact shaped_of (by simp [pySrc, PyData.canLay0, PyData.canLayAll0, h3, hx]) (by simp [pySrc, PyData.depth, PyData.depthAll])
  | adr x k =>
    have hx := h.1.f.s
    unfold sOk at hx
    simp only [PyData.canLay0] at hx
    exact shaped_of (by simp [pySrc, PyData.canLay0, PyData.canLayAll0, h4, hx]) (by simp [pySrc, PyData.depth, PyData.depthAll])
theorem eqv_null (s : Src) : PyData.eqv (pySrc s) (pySrc .null) = (match s with | .null => true | _ => false) := by
  cases s <;> simp [pySrc, PyData.eqv, PyData.eqvAll]
abbrev spIsSource : Sp := SpD Src (fun _ => No) (fun s vs J H => ∃ v1, vs = [v1] ∧ rSrc s v1 J ∧ SrcN s) (fun a v _ _ => v = .bl true)
theorem ok_IsSource (T : Good K mg) : FnOk P w K mg base CX0 3 (He.ga K "is_source") (fdOf K (He.ga K "is_source")) ["thing"] spIsSource := by
  refine sp_ok (k := 2) (D_sIsSource T) S_sIsSource (fun a vs J H h => by obtain ⟨_, rfl, _⟩ := h; rfl) (fun cdv Ar outer s H0 vs E hr => ?_)
  refine ⟨_, (pss_cons (ps_if (pt_cmpR (oEqD K hr.units) (pv 0) (pe_tup (pa_cons pe_str pa_nil)) (nomark _)) (pss_one (ps_ret pe_bl)) pss_nil)
  (pss_cons (ps_if (PW.pt (pw_or (pt_not (pt_val (pe_callB (cIsi K) (by rfl) (f_isinstance T) (show bootBuiltins "isinstance" = some (.builtin "isinstance") by decide +kernel) (pa_cons (pv 0) (pa_cons (pe_bltn (v := .ty "tuple") (by rfl) (f_tuple T) (show bootBuiltins "tuple" = some (.type "tuple") by decide +kernel) rfl) pa_nil))))) (pw_or1 (pt_cmpR op_ne (pe_callB (cLen K) (by rfl) (f_len T) (show bootBuiltins "len" = some (.builtin "len") by decide +kernel) (pa_cons (pv 0) pa_nil)) pe_int (nomark _))))) (pss_one (ps_ret pe_bl)) pss_nil)
  (pss_cons (ps_if (pt_cmpR op_eq (pe_ix (xT K) (pv 0) pe_int (fun _ _ => rfl)) pe_str (nomark _)) (pss_one (ps_ret (pe_call (ok_IsNumber T) (hr.mono (by omega)) rfl (gis_number T) (D_sIsNumber T).kp (B_sIsNumber T) .nil pass0 (pa_cons (pe_ix (xT K) (pv 0) pe_int (fun _ _ => rfl)) (pa_cons (pe_gint rfl (iMOST_NUMBER T)) pa_nil))))) pss_nil)
  (pss_one (ps_ret (pe_and (pe_cmpR (oInSeq K) (pe_ix (xT K) (pv 0) pe_int (fun _ _ => rfl)) (pe_tup (pa_cons pe_str (pa_cons pe_str pa_nil))) (by rfl)) (pe_one (pe_call (ok_IsPlace T) (hr.mono (by omega)) rfl (gis_place T) (D_sIsPlace T).kp (B_sIsPlace T) .nil pass0 (pa_cons (pe_ix (xT K) (pv 0) pe_int (fun _ _ => rfl)) pa_nil))))))))), ?_⟩
  rintro s J0 Q G ⟨v1, rfl, hs, hn⟩ kk
  walk_at "go"
  rename_i P1 J1 H1 hP1 e1 hJ1 g1 G1
  refine k_eqD (dp_src G1.jh (Up.up e1 hs)) (dp_src (s := .null) G1.jh ⟨P1, rfl, hJ1⟩) (lay_src hn) (lay_src (s := .null) trivial) ?_
  rw [eqv_null]
  cases s with
  | num n =>
    obtain ⟨a, rfl, ha⟩ := hs
    walk_at "go"
    refine ifF rfl ?_
    walk_at "go"
    refine ifF rfl ?_
    walk_at "go"
    refine use_sp G1 ((n : Int), 1000) ⟨_, _, rfl, rfl, rfl⟩ (fun _ z => z.elim) ?_
    rintro v J2 H2 e2 g2 G2 rfl
    exact kk _ _ _ G2 (by have : n ≤ 1000 := hn; simp; omega)
  | null =>
    walk_at "go"
    exact kk _ _ _ G1 rfl
  | val x k =>
    obtain ⟨a, b, rfl, ha, hb⟩ := hs
    walk_at "go"
    refine ifF rfl ?_
    walk_at "go"
    refine ifF rfl ?_
    walk_at "go"
    rename_i P2 J2 H2 hP2 e2 hJ2 g2 G2
    refine k_inT (G2.jh _ _ hJ2) rfl rfl ?_
    walk_at "go"
    refine use_sp G2 (x, k) ⟨_, rfl, ⟨b, rfl, by walk_at "get"⟩, hn⟩ (fun _ z => z.elim) ?_
    rintro v J3 H3 e3 g3 G3 rfl
    exact kk _ _ _ G3 rfl
  | adr x k =>
    obtain ⟨a, b, rfl, ha, hb⟩ := hs
    walk_at "go"
    refine ifF rfl ?_
    walk_at "go"
    refine ifF rfl ?_
    walk_at "go"
    rename_i P2 J2 H2 hP2 e2 hJ2 g2 G2
    refine k_inT (G2.jh _ _ hJ2) rfl rfl ?_
    walk_at "go"
    refine use_sp G2 (x, k) ⟨_, rfl, ⟨b, rfl, by walk_at "get"⟩, hn⟩ (fun _ z => z.elim) ?_
    rintro v J3 H3 e3 g3 G3 rfl
    exact kk _ _ _ G3 rfl
end Rk
namespace Rk
open PySem PySem.Spec PyProof.Rows L2
variable {P : Program} {w : World} {K : PySem.W.Frag} {mg : Str → Option Value} {base : Heap}
/-! rights, types, depths -/
theorem rights_sq (T : Good K mg) (H : Hp) : SqT K H (He.ga K "RIGHTS") [.str "-", .str "r", .str "rw", .str "w"] := He.tupB_ok (x := "RIGHTS") (vs := rightsVs) (He.ba T.tab).1 H
theorem rt_in {x : Str} (h : IsRt x) : inV (V.str x) [.str "-", .str "r", .str "rw", .str "w"] = true := by
  rcases h with rfl | rfl | rfl | rfl <;> decide +kernel
abbrev spIsRight : Sp := SpD Str (fun _ => No) (fun x vs J H => ∃ v1, vs = [v1] ∧ v1 = .str x ∧ IsRt x) (fun a v _ _ => v = .bl true)
theorem ok_IsRight (T : Good K mg) : FnOk P w K mg base CX0 1 (He.ga K "is_right") (fdOf K (He.ga K "is_right")) ["thing"] spIsRight := by
  refine sp_ok (k := 0) (D_sIsRight T) S_sIsRight (fun a vs J H h => by obtain ⟨_, rfl, _⟩ := h; rfl) (fun cdv Ar outer s H0 vs E hr => ?_)
  refine ⟨_, (pss_one (ps_ret (pe_and (pe_callB (cIsi K) (by rfl) (f_isinstance T) (show bootBuiltins "isinstance" = some (.builtin "isinstance") by decide +kernel) (pa_cons (pv 0) (pa_cons (pe_bltn (v := .ty "str") (by rfl) (f_str T) (show bootBuiltins "str" = some (.type "str") by decide +kernel) rfl) pa_nil))) (pe_one (pe_cmpR (oInSeq K) (pv 0) (pe_glob (v := .ref (He.ga K "RIGHTS")) rfl (gRIGHTS T) rfl) (by rfl)))))), ?_⟩
  rintro x J0 Q G ⟨_, rfl, rfl, hx⟩ kk
  walk_at "go"
  refine ⟨_, _, rfl, .inr (rights_sq T _), rfl, rfl, ?_⟩
  rw [rt_in hx]
  exact kk _ _ _ G rfl
abbrev spIsValueType : Sp := SpD (Ty ⊕ Nat) (fun _ => No) (fun a vs J H => ∃ v1, vs = [v1] ∧ match a with
  | .inl t => rTy t v1 J ∧ AllRt t
  | .inr n => v1 = .int (n : Int)) (fun a v _ _ => v = .bl a.isLeft)
theorem ok_IsValueType (T : Good K mg) : FnOk P w K mg base CX0 2 (He.ga K "is_value_type") (fdOf K (He.ga K "is_value_type")) ["thing"] spIsValueType := by
  refine sp_ok (k := 1) (D_sIsValueType T) S_sIsValueType (fun a vs J H h => by obtain ⟨_, rfl, _⟩ := h; rfl) (fun cdv Ar outer s H0 vs E hr => ?_)
  refine ⟨_, (pss_one (ps_ret (pe_and (pe_callB (cIsi K) (by rfl) (f_isinstance T) (show bootBuiltins "isinstance" = some (.builtin "isinstance") by decide +kernel) (pa_cons (pv 0) (pa_cons (pe_bltn (v := .ty "tuple") (by rfl) (f_tuple T) (show bootBuiltins "tuple" = some (.type "tuple") by decide +kernel) rfl) pa_nil))) (pe_and (pe_cmpR op_le (pe_callB (cLen K) (by rfl) (f_len T) (show bootBuiltins "len" = some (.builtin "len") by decide +kernel) (pa_cons (pv 0) pa_nil)) (pe_gint rfl (iMOST_RIGHTS T)) (nomark _)) (pe_one (pe_callB (cAll K rfl) (by rfl) (f_all T) (show bootBuiltins "all" = some (.builtin "all") by decide +kernel) (pa_cons (pe_lc (own := [("right", 1)]) (by rfl) S_sIsValueType.nd (piT K (pv 0)) (blkOk_by (own := [("right", 1)]) (N := ["thing", "right"]) (sc := defScope sIsValueType) (by decide +kernel)) (fun _ _ _ _ _ => (pg_name (i := 1) S_sIsValueType.nd rfl (by first | exact Or.inl rfl | exact Or.inr rfl))) (fun _ _ _ _ _ => pts_nil) (fun _ _ _ _ _ => (pe_call (ok_IsRight T) (hr.mono (by omega)) rfl (gis_right T) (D_sIsRight T).kp (B_sIsRight T) .nil pass0 (pa_cons (pv 1) pa_nil)))) pa_nil))))))), ?_⟩
  rintro a J0 Q G ⟨v1, rfl, h⟩ kk
  cases a with
  | inr n =>
    obtain rfl : v1 = .int (n : Int) := h
    walk_at "go"
    exact kk _ _ _ G rfl
  | inl t =>
    obtain ⟨⟨a, rfl, ha, hl⟩, ht⟩ := h
    walk_at "go"
    rw [List.length_map]
    refine ifT (by simp; omega) ?_
    walk_at "go"
    refine k_lcTM (R := rStr) (S := rBl) (fun r => some true) G ha (allR_str t) (by omega) ?_ ?_
    · intro r x J1 H1 Ny Nn hr hx e1 G1 hy hn
      obtain rfl : x = .str r := hx
      walk_at "go"
      refine ⟨rfl, ?_⟩
      walk_at "go"
      refine use_sp G1 r ⟨_, rfl, rfl, ht r hr⟩ (fun _ z => z.elim) ?_
      rintro v J2 H2 e2 g2 G2 rfl
      exact hy _ _ _ _ rfl g2 rfl
    · intro D acc J1 H1 hD e1 hDJ hacc g1 G1
      have e := allR_bl hacc
      subst e
      walk_at "go"
      refine k_all (G1.jh _ _ hDJ) ?_
      exact kk _ _ _ G1 (by simp)
abbrev spIsType : Sp := SpD (Ty ⊕ Nat) (fun _ => No) (fun a vs J H => ∃ v1, vs = [v1] ∧ match a with
  | .inl t => rTy t v1 J ∧ AllRt t ∧ t ≠ []
  | .inr n => v1 = .int (n : Int)) (fun a v _ _ => v = .bl a.isLeft)
theorem ok_IsType (T : Good K mg) : FnOk P w K mg base CX0 3 (He.ga K "is_type") (fdOf K (He.ga K "is_type")) ["thing"] spIsType := by
  refine sp_ok (k := 2) (D_sIsType T) S_sIsType (fun a vs J H h => by obtain ⟨_, rfl, _⟩ := h; rfl) (fun cdv Ar outer s H0 vs E hr => ?_)
  refine ⟨_, (pss_one (ps_ret (pe_and (pe_call (ok_IsValueType T) (hr.mono (by omega)) rfl (gis_value_type T) (D_sIsValueType T).kp (B_sIsValueType T) .nil pass0 (pa_cons (pv 0) pa_nil)) (pe_one (pe_cmpR op_gt (pe_callB (cLen K) (by rfl) (f_len T) (show bootBuiltins "len" = some (.builtin "len") by decide +kernel) (pa_cons (pv 0) pa_nil)) pe_int (nomark _)))))), ?_⟩
  rintro a J0 Q G ⟨v1, rfl, h⟩ kk
  cases a with
  | inr n =>
    obtain rfl : v1 = .int (n : Int) := h
    walk_at "go"
    refine use_sp G (.inr n) ⟨_, rfl, rfl⟩ (fun _ z => z.elim) ?_
    rintro v J2 H2 e2 g2 G2 rfl
    walk_at "go"
    exact kk _ _ _ G2 rfl
  | inl t =>
    obtain ⟨⟨a, rfl, ha, hl⟩, ht, hne⟩ := h
    walk_at "go"
    refine use_sp G (.inl t) ⟨_, rfl, ⟨a, rfl, ha, hl⟩, ht⟩ (fun _ z => z.elim) ?_
    rintro v J2 H2 e2 g2 G2 rfl
    have := List.length_pos_iff.mpr hne
    walk_at "go"
    refine ifT rfl ?_
    walk_at "go"
    rw [List.length_map]
    exact kk _ _ _ G2 (by simp; omega)
/-- what a test of kinds promises -/
def spKd {κ : Type} (RK : κ → V → Hp → Prop) (ok : κ → Prop) (kd : Bool) : Sp := SpD κ (fun _ => No) (fun t vs J H => ∃ v1, vs = [v1] ∧ RK t v1 J ∧ ok t) (fun t v _ _ => v = .bl kd)
theorem kd_type (T : Good K mg) : Held P w K mg base 12 (He.ga K "is_type") (spKd rTy (fun t => AllRt t ∧ t ≠ []) true) :=
  ⟨_, _, ((ok_IsType T).imp fun vs H Q E ⟨t, J, hj, ⟨v1, h1, h2, h3⟩, k⟩ => ⟨.inl t, J, hj, ⟨v1, h1, h2, h3⟩, k⟩).mono (by decide), (D_sIsType T).kp, B_sIsType T⟩
theorem kd_typeN (T : Good K mg) : Held P w K mg base 12 (He.ga K "is_type") (spKd rDp (fun _ => True) false) :=
  ⟨_, _, ((ok_IsType T).imp fun vs H Q E ⟨t, J, hj, ⟨v1, h1, h2, h3⟩, k⟩ => ⟨.inr t, J, hj, ⟨v1, h1, h2⟩, k⟩).mono (by decide), (D_sIsType T).kp, B_sIsType T⟩
abbrev spIsDepth : Sp := spKd rDp (fun n => n ≤ 5) true
theorem ok_IsDepth (T : Good K mg) : FnOk P w K mg base CX0 2 (He.ga K "is_depth") (fdOf K (He.ga K "is_depth")) ["thing"] spIsDepth := by
  refine sp_ok (k := 1) (D_sIsDepth T) S_sIsDepth (fun a vs J H h => by obtain ⟨_, rfl, _⟩ := h; rfl) (fun cdv Ar outer s H0 vs E hr => ?_)
  refine ⟨_, (pss_one (ps_ret (pe_call (ok_IsNumber T) (hr.mono (by omega)) rfl (gis_number T) (D_sIsNumber T).kp (B_sIsNumber T) .nil pass0 (pa_cons (pv 0) (pa_cons (pe_gint rfl (iMOST_DEPTH T)) pa_nil))))), ?_⟩
  rintro n J0 Q G ⟨_, rfl, rfl, hn⟩ kk
  walk_at "go"
  refine use_sp G ((n : Int), 5) ⟨_, _, rfl, rfl, rfl⟩ (fun _ z => z.elim) ?_
  rintro v J2 H2 e2 g2 G2 rfl
  exact kk _ _ _ G2 (by simp; omega)
theorem kd_depth (T : Good K mg) : Held P w K mg base 12 (He.ga K "is_depth") (spKd rDp (fun n => n ≤ 5) true) := ⟨_, _, (ok_IsDepth T).mono (by decide), (D_sIsDepth T).kp, B_sIsDepth T⟩
theorem kd_depthT (T : Good K mg) : Held P w K mg base 12 (He.ga K "is_depth") (spKd rTy (fun _ => False) true) := ⟨_, _, ((ok_IsDepth T).imp fun vs H Q E ⟨t, J, hj, ⟨v1, h1, h2, h3⟩, k⟩ => h3.elim).mono (by decide), (D_sIsDepth T).kp, B_sIsDepth T⟩
end Rk
namespace Rk
open PySem PySem.Spec PyProof.Rows L2
variable {P : Program} {w : World} {K : PySem.W.Frag} {mg : Str → Option Value} {base : Heap}
/-! statements, parameters, blocks, functions -/
def S1 (fk : Addr) (sp : Sp) : Addr → Option Sp := fun f => if f = fk then some sp else none
theorem hk_of {fk : Addr} {sp : Sp} (h : Held P w K mg base 12 fk sp) : ∀ f sp', S1 fk sp f = some sp' → Held P w K mg base 12 f sp' := fun f sp' e => by
  unfold S1 at e
  by_cases q : f = fk
  · rw [if_pos q] at e
    cases e
    rw [q]
    exact h
  · rw [if_neg q] at e
    cases e
theorem s1_at (fk : Addr) (sp : Sp) : S1 fk sp fk = some sp := if_pos rfl
def StNm {κ : Type} (ok : κ → Prop) : Stm κ → Prop
  | .lt x t s => NmOk x ∧ ok t ∧ SrcN s
  | .pt x k s => PlN (x, k) ∧ SrcN s
  | .cl f ss => NmOk f ∧ ss.length ≤ 1000 ∧ ∀ s ∈ ss, SrcN s
def BlW (kd : Bool) (v : V) : Prop := ∃ b, v = .bl b ∧ (kd = true → b = true)
theorem k_callAE {κ : Type} {RK : κ → V → Hp → Prop} {ok : κ → Prop} {kd : Bool} {M0 : Addr → Prop} {J0 H0 J H : Hp} {Q : VK} {E : XK} {v : V} (G : Gr M0 J0 H0 J H) (t : κ) (hv : RK t v J) (ht : ok t) (k : ∀ J' H', Ex J J' → Gr M0 J0 H0 J' H' → Q (.bl kd) H') : spKd RK ok kd [v] H Q E :=
  use_sp G t ⟨v, rfl, hv, ht⟩ (fun _ z => z.elim) fun v J' H' e g G' h => by subst h; exact k J' H' e G'
abbrev spIsStatement {κ : Type} (RK : κ → V → Hp → Prop) (ok : κ → Prop) (kd : Bool) (fk : Addr) : Sp := SpD (Stm κ) (fun _ => No) (fun st vs J H => ∃ v1 v2, vs = [v1, v2] ∧ rStm RK st v1 J ∧ v2 = .ref fk ∧ StNm ok st) (fun st v _ _ => BlW kd v)
theorem ok_IsStatement (T : Good K mg) {κ : Type} {RK : κ → V → Hp → Prop} [∀ d v, Up (RK d v)] {ok : κ → Prop} {kd : Bool} {fk : Addr} {S0 : Addr → Option Sp} (HK : ∀ f sp, S0 f = some sp → Held P w K mg base 12 f sp) (hS : S0 fk = some (spKd RK ok kd)) : FnOk P w K mg base CX0 13 (He.ga K "is_statement") (fdOf K (He.ga K "is_statement")) ["thing", "is_kind"] (spIsStatement RK ok kd fk) := by
  refine sp_ok (k := 12) (D_sIsStatement T) S_sIsStatement (fun a vs J H h => by obtain ⟨_, _, rfl, _⟩ := h; rfl) (fun cdv Ar outer s H0 vs E hr => ?_)
  refine ⟨_, (pss_cons (ps_if (PW.pt (pw_or (pt_not (pt_val (pe_callB (cIsi K) (by rfl) (f_isinstance T) (show bootBuiltins "isinstance" = some (.builtin "isinstance") by decide +kernel) (pa_cons (pv 0) (pa_cons (pe_bltn (v := .ty "tuple") (by rfl) (f_tuple T) (show bootBuiltins "tuple" = some (.type "tuple") by decide +kernel) rfl) pa_nil))))) (pw_or1 (pt_cmpR op_eq (pe_callB (cLen K) (by rfl) (f_len T) (show bootBuiltins "len" = some (.builtin "len") by decide +kernel) (pa_cons (pv 0) pa_nil)) pe_int (nomark _))))) (pss_one (ps_ret pe_bl)) pss_nil)
  (pss_cons (ps_if (pt_cmpR op_eq (pe_ix (xT K) (pv 0) pe_int (fun _ _ => rfl)) pe_str (nomark _)) (pss_one (ps_ret (pe_and (pe_cmpR op_eq (pe_callB (cLen K) (by rfl) (f_len T) (show bootBuiltins "len" = some (.builtin "len") by decide +kernel) (pa_cons (pv 0) pa_nil)) pe_int (nomark _)) (pe_and (pe_call (ok_IsName T) (hr.mono (by omega)) rfl (gis_name T) (D_sIsName T).kp (B_sIsName T) .nil pass0 (pa_cons (pe_ix (xT K) (pv 0) pe_int (fun _ _ => rfl)) pa_nil)) (pe_and (pe_callA (i := 1) HK hr rfl (by first | exact Or.inl rfl | exact Or.inr (Or.inl rfl) | exact Or.inr (Or.inr rfl)) (pa_cons (pe_ix (xT K) (pv 0) pe_int (fun _ _ => rfl)) pa_nil)) (pe_one (pe_call (ok_IsSource T) (hr.mono (by omega)) rfl (gis_source T) (D_sIsSource T).kp (B_sIsSource T) .nil pass0 (pa_cons (pe_ix (xT K) (pv 0) pe_int (fun _ _ => rfl)) pa_nil)))))))) pss_nil)
  (pss_cons (ps_if (pt_cmpR op_eq (pe_ix (xT K) (pv 0) pe_int (fun _ _ => rfl)) pe_str (nomark _)) (pss_one (ps_ret (pe_and (pe_cmpR op_eq (pe_callB (cLen K) (by rfl) (f_len T) (show bootBuiltins "len" = some (.builtin "len") by decide +kernel) (pa_cons (pv 0) pa_nil)) pe_int (nomark _)) (pe_and (pe_call (ok_IsPlace T) (hr.mono (by omega)) rfl (gis_place T) (D_sIsPlace T).kp (B_sIsPlace T) .nil pass0 (pa_cons (pe_ix (xT K) (pv 0) pe_int (fun _ _ => rfl)) pa_nil)) (pe_one (pe_call (ok_IsSource T) (hr.mono (by omega)) rfl (gis_source T) (D_sIsSource T).kp (B_sIsSource T) .nil pass0 (pa_cons (pe_ix (xT K) (pv 0) pe_int (fun _ _ => rfl)) pa_nil))))))) pss_nil)
  (pss_cons (ps_if (PW.pt (pw_or (pt_cmpR op_ne (pe_ix (xT K) (pv 0) pe_int (fun _ _ => rfl)) pe_str (nomark _)) (pw_or (pt_cmpR op_ne (pe_callB (cLen K) (by rfl) (f_len T) (show bootBuiltins "len" = some (.builtin "len") by decide +kernel) (pa_cons (pv 0) pa_nil)) pe_int (nomark _)) (pw_or1 (pt_not (pt_val (pe_call (ok_IsName T) (hr.mono (by omega)) rfl (gis_name T) (D_sIsName T).kp (B_sIsName T) .nil pass0 (pa_cons (pe_ix (xT K) (pv 0) pe_int (fun _ _ => rfl)) pa_nil)))))))) (pss_one (ps_ret pe_bl)) pss_nil)
  (pss_one (ps_ret (pe_and (pe_callB (cIsi K) (by rfl) (f_isinstance T) (show bootBuiltins "isinstance" = some (.builtin "isinstance") by decide +kernel) (pa_cons (pe_ix (xT K) (pv 0) pe_int (fun _ _ => rfl)) (pa_cons (pe_bltn (v := .ty "list") (by rfl) (f_list T) (show bootBuiltins "list" = some (.type "list") by decide +kernel) rfl) pa_nil))) (pe_one (pe_callB (cAll K rfl) (by rfl) (f_all T) (show bootBuiltins "all" = some (.builtin "all") by decide +kernel) (pa_cons (pe_lc (own := [("source", 2)]) (by rfl) S_sIsStatement.nd (piL K (pe_ix (xT K) (pv 0) pe_int (fun _ _ => rfl))) (blkOk_by (own := [("source", 2)]) (N := ["thing", "is_kind", "source"]) (sc := defScope sIsStatement) (by decide +kernel)) (fun _ _ _ _ _ => (pg_name (i := 2) S_sIsStatement.nd rfl (by first | exact Or.inl rfl | exact Or.inr rfl))) (fun _ _ _ _ _ => pts_nil) (fun _ _ _ _ _ => (pe_call (ok_IsSource T) (hr.mono (by omega)) rfl (gis_source T) (D_sIsSource T).kp (B_sIsSource T) .nil pass0 (pa_cons (pv 2) pa_nil)))) pa_nil)))))))))), ?_⟩
  rintro st J0 Q G ⟨v1, _, rfl, hst, rfl, hn⟩ kk
  cases st with
  | lt x t s =>
    obtain ⟨a, kv, sv, rfl, ha, hk, hs⟩ := hst
    obtain ⟨hx, ht, hsn⟩ := hn
    walk_at "gr"
    refine use_sp G x ⟨_, rfl, rfl, hx⟩ (fun _ z => z.elim) ?_
    rintro v J1 H1 e1 g1 G1 rfl
    walk_at "gr"
    refine k_callA rfl hS ?_
    walk_at "gr"
    refine k_callAE G1 t (Up.up e1 hk) ht ?_
    intro J2 H2 e2 G2
    walk_at "gr"
    refine if2 (fun q => ?_) (fun q => ?_)
    · walk_at "gr"
      refine use_sp G2 s ⟨_, rfl, Up.up (e1.trans e2) hs, hsn⟩ (fun _ z => z.elim) ?_
      rintro v J3 H3 e3 g3 G3 rfl
      exact kk _ _ _ G3 ⟨_, rfl, fun _ => rfl⟩
    · walk_at "gr"
      exact kk _ _ _ G2 ⟨_, rfl, fun z => by rw [z] at q; cases q⟩
  | pt x k s =>
    obtain ⟨a, b, sv, rfl, ha, hb, hs⟩ := hst
    obtain ⟨hx, hsn⟩ := hn
    walk_at "gr"
    refine use_sp G (x, k) ⟨_, rfl, ⟨b, rfl, hb⟩, hx⟩ (fun _ z => z.elim) ?_
    rintro v J1 H1 e1 g1 G1 rfl
    walk_at "gr"
    refine use_sp G1 s ⟨_, rfl, Up.up e1 hs, hsn⟩ (fun _ z => z.elim) ?_
    rintro v J3 H3 e3 g3 G3 rfl
    exact kk _ _ _ G3 ⟨_, rfl, fun _ => rfl⟩
  | cl f ss =>
    obtain ⟨a, l, xs, rfl, ha, hl, hs⟩ := hst
    obtain ⟨hx, hsl, hsn⟩ := hn
    walk_at "gr"
    refine use_sp G f ⟨_, rfl, rfl, hx⟩ (fun _ z => z.elim) ?_
    rintro v J1 H1 e1 g1 G1 rfl
    walk_at "gr"
    refine k_lcFM (R := rSrc) (S := rBl) (fun r => some true) G1 (by walk_at "get") (Up.up e1 hs) (by omega) ?_ ?_
    · intro r x J2 H2 Ny Nn hr hx e2 G2 hy hn
      walk_at "gr"
      refine ⟨rfl, ?_⟩
      walk_at "gr"
      refine use_sp G2 r ⟨_, rfl, hx, hsn r hr⟩ (fun _ z => z.elim) ?_
      rintro v J3 H3 e3 g3 G3 rfl
      exact hy _ _ _ _ rfl g3 rfl
    · intro D acc J2 H2 hD e2 hDJ hacc g2 G2
      have e := allR_bl hacc
      subst e
      walk_at "gr"
      refine k_all (G2.jh _ _ hDJ) ?_
      exact kk _ _ _ G2 ⟨_, rfl, fun _ => by simp⟩
def PrN {κ : Type} (ok : κ → Prop) (q : Str × κ) : Prop := NmOk q.1 ∧ ok q.2
abbrev spIsParameter {κ : Type} (RK : κ → V → Hp → Prop) (ok : κ → Prop) (kd : Bool) (fk : Addr) : Sp := SpD (Str × κ) (fun _ => No) (fun q vs J H => ∃ v1 v2, vs = [v1, v2] ∧ rPar RK q v1 J ∧ v2 = .ref fk ∧ PrN ok q) (fun st v _ _ => BlW kd v)
theorem ok_IsParameter (T : Good K mg) {κ : Type} {RK : κ → V → Hp → Prop} [∀ d v, Up (RK d v)] {ok : κ → Prop} {kd : Bool} {fk : Addr} {S0 : Addr → Option Sp} (HK : ∀ f sp, S0 f = some sp → Held P w K mg base 12 f sp) (hS : S0 fk = some (spKd RK ok kd)) : FnOk P w K mg base CX0 13 (He.ga K "_is_parameter") (fdOf K (He.ga K "_is_parameter")) ["thing", "is_kind"] (spIsParameter RK ok kd fk) := by
  refine sp_ok (k := 12) (D_sIsParameter T) S_sIsParameter (fun a vs J H h => by obtain ⟨_, _, rfl, _⟩ := h; rfl) (fun cdv Ar outer s H0 vs E hr => ?_)
  refine ⟨_, (pss_one (ps_ret (pe_and (pe_callB (cIsi K) (by rfl) (f_isinstance T) (show bootBuiltins "isinstance" = some (.builtin "isinstance") by decide +kernel) (pa_cons (pv 0) (pa_cons (pe_bltn (v := .ty "tuple") (by rfl) (f_tuple T) (show bootBuiltins "tuple" = some (.type "tuple") by decide +kernel) rfl) pa_nil))) (pe_and (pe_cmpR op_eq (pe_callB (cLen K) (by rfl) (f_len T) (show bootBuiltins "len" = some (.builtin "len") by decide +kernel) (pa_cons (pv 0) pa_nil)) pe_int (nomark _)) (pe_and (pe_call (ok_IsName T) (hr.mono (by omega)) rfl (gis_name T) (D_sIsName T).kp (B_sIsName T) .nil pass0 (pa_cons (pe_ix (xT K) (pv 0) pe_int (fun _ _ => rfl)) pa_nil)) (pe_one (pe_callA (i := 1) HK hr rfl (by first | exact Or.inl rfl | exact Or.inr (Or.inl rfl) | exact Or.inr (Or.inr rfl)) (pa_cons (pe_ix (xT K) (pv 0) pe_int (fun _ _ => rfl)) pa_nil)))))))), ?_⟩
  rintro ⟨x, t⟩ J0 Q G ⟨v1, _, rfl, ⟨a, kv, rfl, ha, hk⟩, rfl, hx, ht⟩ kk
  dsimp only at *
  walk_at "gr"
  refine use_sp G x ⟨_, rfl, rfl, hx⟩ (fun _ z => z.elim) ?_
  rintro v J1 H1 e1 g1 G1 rfl
  walk_at "gr"
  refine k_callA rfl hS ?_
  walk_at "gr"
  refine k_callAE G1 t (Up.up e1 hk) ht ?_
  intro J2 H2 e2 G2
  exact kk _ _ _ G2 ⟨_, rfl, fun z => z⟩
end Rk
namespace Rk
open PySem PySem.Spec PyProof.Rows L2
variable {P : Program} {w : World} {K : PySem.W.Frag} {mg : Str → Option Value} {base : Heap}
/-! blocks and functions -/
def rFn {κ : Type} (K : PySem.W.Frag) (RK : κ → V → Hp → Prop) (f : Fn κ) (v : V) (J : Hp) : Prop := ∃ a dx pv bv, v = .ref a ∧ J a = some (.ins (He.ga K "Function") dx [("name", .str f.name), ("params", pv), ("body", bv)]) ∧ rLst (rPar RK) f.ps pv J ∧ rLst (rStm RK) f.body bv J
instance {κ : Type} (K : PySem.W.Frag) (RK : κ → V → Hp → Prop) [∀ d v, Up (RK d v)] (f : Fn κ) (v : V) : Up (rFn K RK f v) := ⟨fun e ⟨a, dx, pv, bv, h1, h2, h3, h4⟩ => ⟨a, dx, pv, bv, h1, e _ _ h2, Up.up e h3, Up.up e h4⟩⟩
def rPg {κ : Type} (K : PySem.W.Frag) (RK : κ → V → Hp → Prop) (p : Pg κ) (v : V) (J : Hp) : Prop := ∃ a dx fv mv, v = .ref a ∧ J a = some (.ins (He.ga K "Program") dx [("functions", fv), ("statements", mv)]) ∧ rLst (rFn K RK) p.fns fv J ∧ rLst (rStm RK) p.main mv J
instance {κ : Type} (K : PySem.W.Frag) (RK : κ → V → Hp → Prop) [∀ d v, Up (RK d v)] (p : Pg κ) (v : V) : Up (rPg K RK p v) := ⟨fun e ⟨a, dx, pv, bv, h1, h2, h3, h4⟩ => ⟨a, dx, pv, bv, h1, e _ _ h2, Up.up e h3, Up.up e h4⟩⟩
theorem k_isiF (T : Good K mg) {H : Hp} {Q : VK} {a dx : Addr} {fs : List (Str × V)} (h : H a = some (.ins (He.ga K "Function") dx fs)) (k : Q (.bl true) H) : rIsi K [.ref a, .ref (He.ga K "Function")] H Q := by
  obtain ⟨_, t⟩ := He.ba T.tab
  obtain ⟨t1, t⟩ := He.ba t
  obtain ⟨t2, t⟩ := He.ba t
  obtain ⟨t3, t4⟩ := He.ba t
  exact k_isi (.own _) (.base (.ins h (clFunction T) (He.eqO_ok t1) (He.eqO_ok t2) (of_decide_eq_true t3) (of_decide_eq_true t4))) (b := true) (by unfold PySem.W.kitOne; rw [if_pos (by simp)]) k
def rBw (kd : Bool) (_ : Unit) (v : V) (_ : Hp) : Prop := BlW kd v
instance (kd : Bool) (u : Unit) (v : V) : Up (rBw kd u v) := ⟨fun _ h => h⟩
theorem allR_w {kd : Bool} {J : Hp} : ∀ {us : List Unit} {xs : List V}, AllR (rBw kd) us xs J → ∃ bs : List Bool, xs = bs.map V.bl ∧ (kd = true → bs.all id = true)
  | [], [], _ => ⟨[], rfl, fun _ => rfl⟩
  | [], _ :: _, h => absurd h.1 (by simp)
  | _ :: _, [], h => absurd h.1 (by simp)
  | _ :: us, x :: xs, h => by
    obtain ⟨b, rfl, hb⟩ := h.head
    obtain ⟨bs, rfl, hbs⟩ := allR_w h.tail
    exact ⟨b :: bs, rfl, fun z => by simp [hb z]; simpa using hbs z⟩
abbrev spIsBlock {κ : Type} (RK : κ → V → Hp → Prop) (ok : κ → Prop) (kd : Bool) (fk : Addr) : Sp := SpD (List (Stm κ) × Nat) (fun _ => No) (fun a vs J H => ∃ v1 v2 v3, vs = [v1, v2, v3] ∧ rLst (rStm RK) a.1 v1 J ∧ v2 = .int (a.2 : Int) ∧ v3 = .ref fk ∧ a.1.length ≤ a.2 ∧ a.2 ≤ 1000 ∧ ∀ st ∈ a.1, StNm ok st) (fun st v _ _ => BlW kd v)
theorem ok_IsBlock (T : Good K mg) {κ : Type} {RK : κ → V → Hp → Prop} [∀ d v, Up (RK d v)] {ok : κ → Prop} {kd : Bool} {fk : Addr} {S0 : Addr → Option Sp} (HK : ∀ f sp, S0 f = some sp → Held P w K mg base 12 f sp) (hS : S0 fk = some (spKd RK ok kd)) : FnOk P w K mg base CX0 14 (He.ga K "_is_block") (fdOf K (He.ga K "_is_block")) ["thing", "most", "is_kind"] (spIsBlock RK ok kd fk) := by
  refine sp_ok (k := 13) (D_sIsBlock T) S_sIsBlock (fun a vs J H h => by obtain ⟨_, _, _, rfl, _⟩ := h; rfl) (fun cdv Ar outer s H0 vs E hr => ?_)
  refine ⟨_, (pss_cons (ps_if (PW.pt (pw_or (pt_not (pt_val (pe_callB (cIsi K) (by rfl) (f_isinstance T) (show bootBuiltins "isinstance" = some (.builtin "isinstance") by decide +kernel) (pa_cons (pv 0) (pa_cons (pe_bltn (v := .ty "list") (by rfl) (f_list T) (show bootBuiltins "list" = some (.type "list") by decide +kernel) rfl) pa_nil))))) (pw_or1 (pt_cmpR op_gt (pe_callB (cLen K) (by rfl) (f_len T) (show bootBuiltins "len" = some (.builtin "len") by decide +kernel) (pa_cons (pv 0) pa_nil)) (pv 1) (nomark _))))) (pss_one (ps_ret pe_bl)) pss_nil)
  (pss_one (ps_ret (pe_callB (cAll K rfl) (by rfl) (f_all T) (show bootBuiltins "all" = some (.builtin "all") by decide +kernel) (pa_cons (pe_lc (own := [("statement", 3)]) (by rfl) S_sIsBlock.nd (piL K (pv 0)) (blkOk_by (own := [("statement", 3)]) (N := ["thing", "most", "is_kind", "statement"]) (sc := defScope sIsBlock) (by decide +kernel)) (fun _ _ _ _ _ => (pg_name (i := 3) S_sIsBlock.nd rfl (by first | exact Or.inl rfl | exact Or.inr rfl))) (fun _ _ _ _ _ => pts_nil) (fun _ _ _ _ _ => (pe_call (ok_IsStatement T HK hS) (hr.mono (by omega)) rfl (gis_statement T) (D_sIsStatement T).kp (B_sIsStatement T) .nil pass0 (pa_cons (pv 3) (pa_cons (pv 2) pa_nil))))) pa_nil))))), ?_⟩
  rintro ⟨blk, m⟩ J0 Q G ⟨v1, _, _, rfl, ⟨l, xs, rfl, hl, hxs⟩, rfl, rfl, hlm, hm, hok⟩ kk
  dsimp only at *
  walk_at "gr"
  rw [hxs.1]
  refine ifF (by simp; omega) ?_
  walk_at "gr"
  refine k_lcFM (R := rStm RK) (S := rBw kd) (fun r => some ()) G hl hxs (by omega) ?_ ?_
  · intro r x J2 H2 Ny Nn hr hx e2 G2 hy hn
    walk_at "gr"
    refine ⟨rfl, ?_⟩
    walk_at "gr"
    refine use_sp G2 r ⟨_, _, rfl, hx, rfl, hok r hr⟩ (fun _ z => z.elim) ?_
    rintro v J3 H3 e3 g3 G3 hv
    exact hy _ _ _ _ rfl g3 hv
  · intro D acc J2 H2 hD e2 hDJ hacc g2 G2
    obtain ⟨bs, rfl, hbs⟩ := allR_w hacc
    walk_at "gr"
    refine k_all (G2.jh _ _ hDJ) ?_
    exact kk _ _ _ G2 ⟨_, rfl, hbs⟩
structure FnNm {κ : Type} (ok : κ → Prop) (f : Fn κ) : Prop where
  n : NmOk f.name
  p : ∀ q ∈ f.ps, PrN ok q
  b : ∀ st ∈ f.body, StNm ok st
  l1 : f.ps.length ≤ 4
  l2 : f.body.length ≤ 12
abbrev spIsFunction {κ : Type} (K : PySem.W.Frag) (RK : κ → V → Hp → Prop) (ok : κ → Prop) (kd : Bool) (fk : Addr) : Sp := SpD (Fn κ) (fun _ => No) (fun f vs J H => ∃ v1 v2, vs = [v1, v2] ∧ rFn K RK f v1 J ∧ v2 = .ref fk ∧ FnNm ok f) (fun st v _ _ => BlW kd v)
theorem ok_IsFunction (T : Good K mg) {κ : Type} {RK : κ → V → Hp → Prop} [∀ d v, Up (RK d v)] {ok : κ → Prop} {kd : Bool} {fk : Addr} {S0 : Addr → Option Sp} (HK : ∀ f sp, S0 f = some sp → Held P w K mg base 12 f sp) (hS : S0 fk = some (spKd RK ok kd)) : FnOk P w K mg base CX0 15 (He.ga K "_is_function") (fdOf K (He.ga K "_is_function")) ["thing", "is_kind"] (spIsFunction K RK ok kd fk) := by
  refine sp_ok (k := 14) (D_sIsFunction T) S_sIsFunction (fun a vs J H h => by obtain ⟨_, _, rfl, _⟩ := h; rfl) (fun cdv Ar outer s H0 vs E hr => ?_)
  refine ⟨_, (pss_cons (ps_if (PW.pt (pw_or (pt_not (pt_val (pe_callB (cIsi K) (by rfl) (f_isinstance T) (show bootBuiltins "isinstance" = some (.builtin "isinstance") by decide +kernel) (pa_cons (pv 0) (pa_cons (pe_glob (v := .ref (He.ga K "Function")) rfl (gFunction T) rfl) pa_nil))))) (pw_or (pt_not (pt_val (pe_call (ok_IsName T) (hr.mono (by omega)) rfl (gis_name T) (D_sIsName T).kp (B_sIsName T) .nil pass0 (pa_cons (pFld K (pv 0) rfl) pa_nil)))) (pw_or1 (pt_not (pt_val (pe_callB (cIsi K) (by rfl) (f_isinstance T) (show bootBuiltins "isinstance" = some (.builtin "isinstance") by decide +kernel) (pa_cons (pFld K (pv 0) rfl) (pa_cons (pe_bltn (v := .ty "list") (by rfl) (f_list T) (show bootBuiltins "list" = some (.type "list") by decide +kernel) rfl) pa_nil))))))))) (pss_one (ps_ret pe_bl)) pss_nil)
  (pss_cons (ps_if (PW.pt (pw_or (pt_cmpR op_gt (pe_callB (cLen K) (by rfl) (f_len T) (show bootBuiltins "len" = some (.builtin "len") by decide +kernel) (pa_cons (pFld K (pv 0) rfl) pa_nil)) (pe_gint rfl (iMOST_PARAMETERS T)) (nomark _)) (pw_or1 (pt_not (pt_val (pe_callB (cAll K rfl) (by rfl) (f_all T) (show bootBuiltins "all" = some (.builtin "all") by decide +kernel) (pa_cons (pe_lc (own := [("told", 2)]) (by rfl) S_sIsFunction.nd (piL K (pFld K (pv 0) rfl)) (blkOk_by (own := [("told", 2)]) (N := ["thing", "is_kind", "told"]) (sc := defScope sIsFunction) (by decide +kernel)) (fun _ _ _ _ _ => (pg_name (i := 2) S_sIsFunction.nd rfl (by first | exact Or.inl rfl | exact Or.inr rfl))) (fun _ _ _ _ _ => pts_nil) (fun _ _ _ _ _ => (pe_call (ok_IsParameter T HK hS) (hr.mono (by omega)) rfl (g_is_parameter T) (D_sIsParameter T).kp (B_sIsParameter T) .nil pass0 (pa_cons (pv 2) (pa_cons (pv 1) pa_nil))))) pa_nil))))))) (pss_one (ps_ret pe_bl)) pss_nil)
  (pss_one (ps_ret (pe_call (ok_IsBlock T HK hS) (hr.mono (by omega)) rfl (g_is_block T) (D_sIsBlock T).kp (B_sIsBlock T) .nil pass0 (pa_cons (pFld K (pv 0) rfl) (pa_cons (pe_gint rfl (iMOST_BODY T)) (pa_cons (pv 1) pa_nil)))))))), ?_⟩
  rintro f J0 Q G ⟨v1, _, rfl, ⟨a, dx, pv, bv, rfl, ha, ⟨lp, xp, rfl, hlp, hxp⟩, ⟨lb, xb, rfl, hlb, hxb⟩⟩, rfl, hf⟩ kk
  have hf1 := hf.l1
  have hf2 := hf.l2
  walk_at "gr"
  refine k_isiF T (G.jh _ _ ha) ?_
  walk_at "gr"
  refine use_sp G f.name ⟨_, rfl, rfl, hf.n⟩ (fun _ z => z.elim) ?_
  rintro v J1 H1 e1 g1 G1 rfl
  walk_at "gr"
  rw [hxp.1]
  refine ifF (by simp; omega) ?_
  walk_at "gr"
  refine k_lcFM (R := rPar RK) (S := rBw kd) (fun r => some ()) G1 (by walk_at "get") (Up.up e1 hxp) (by omega) ?_ ?_
  · intro r x J2 H2 Ny Nn hr hx e2 G2 hy hn
    walk_at "gr"
    refine ⟨rfl, ?_⟩
    walk_at "gr"
    refine use_sp G2 r ⟨_, _, rfl, hx, rfl, hf.p r hr⟩ (fun _ z => z.elim) ?_
    rintro v J3 H3 e3 g3 G3 hv
    exact hy _ _ _ _ rfl g3 hv
  · intro D acc J2 H2 hD e2 hDJ hacc g2 G2
    obtain ⟨bs, rfl, hbs⟩ := allR_w hacc
    walk_at "gr"
    refine k_all (G2.jh _ _ hDJ) ?_
    walk_at "gr"
    refine if2 (fun q => ?_) (fun q => ?_)
    · walk_at "gr"
      exact kk _ _ _ G2 ⟨_, rfl, fun z => by rw [hbs z] at q; cases q⟩
    · walk_at "gr"
      refine use_sp G2 (f.body, 12) ⟨_, _, _, rfl, ⟨lb, xb, rfl, by walk_at "get", Up.up (e1.trans e2) hxb⟩, rfl, rfl, hf2, (by decide : 12 ≤ 1000), hf.b⟩ (fun _ z => z.elim) ?_
      rintro v J3 H3 e3 g3 G3 hv
      exact kk _ _ _ G3 hv
end Rk
namespace Rk
open PySem PySem.Spec PyProof.Rows L2
variable {P : Program} {w : World} {K : PySem.W.Frag} {mg : Str → Option Value} {base : Heap}
/-! dicts by comprehensions; calls, names -/
section
variable {X : Cx} (K : PySem.W.Frag)
theorem piE {e : Expr} {ta : TA} {p pos tpos : Pos} {elts : List Expr} {kk : Nat} (hg : Gl X "enumerate") (hm : X.mg "enumerate" = none) (ha : PA X [e] ta) (hs : starEach [e] X.env = [(false, eval e X.env)] := by rfl) (h : X.K = K := by rfl) :
    PI X (.Tuple elts kk tpos) (.Call (.Name "enumerate" p) [e] [] pos) (iEnum K ta) := h ▸ pi_enum hg hm ha hs
theorem piZ {e e2 : Expr} {ta : TA} {p pos tpos : Pos} {elts : List Expr} {kk : Nat} (hg : Gl X "zip") (hm : X.mg "zip" = none) (ha : PA X [e, e2] ta)
    (hs : starEach [e, e2] X.env = (false, eval e X.env) :: starEach [e2] X.env := by rfl) (hpl : (backTo pos (starEach [e2] X.env)).any (·.1) = false := by rfl) (h : X.K = K := by rfl) :
    PI X (.Tuple elts kk tpos) (.Call (.Name "zip" p) [e, e2] [] pos) (iZip K ta) := h ▸ pi_zip hg hm ha hs hpl
end
theorem k_dcL {α β : Type} {R : α → V → Hp → Prop} {S : β → V → Hp → Prop} [∀ d v, Up (R d v)] [∀ d v, Up (S d v)] {M0 : Addr → Prop} {J0 H0 J H : Hp} {Q : VK} {σ : L2.St} {a : Addr} {xs : List V} {ds : List α} {g : TG} {tt : TT} {tk tv : TE} {vs : List Nat} (key : α → Str) (val : α → β)
    (G : Gr M0 J0 H0 J H) (ha : J a = some (.lst xs)) (hx : AllR R ds xs J) (hn : ds.length ≤ 1000000) (hnd : (ds.map key).Nodup)
    (hs : ∀ d x J1 H1 (Ny : V → V → Hp → Prop) (Nn : Hp → Prop), d ∈ ds → R d x J1 → Ex J J1 → Gr M0 J0 H0 J1 H1 → (∀ z J4 H4, Gr No J1 H1 J4 H4 → S (val d) z J4 → Ny (.str (key d)) z H4) →
      g x (wipe σ vs) H1 fun σ2 H2 => wipe σ2 vs = wipe σ vs ∧ tt σ2 H2 fun b H3 => if b = true then tk σ2 H3 fun y H4 => tv σ2 H4 fun z H5 => Ny y z H5 else Nn H3)
    (k : ∀ D kvs J' H', H D = none → H0 D = none → Ex J J' → Mu J' H' D (.dK kvs) → EntR S (ds.map fun d => (key d, val d)) kvs J' → Gr No J H J' H' → Gr M0 J0 H0 J' H' → Q (.ref D) H') :
    ∀ D, H D = none → ∃ W : Nat → Nat → Hp → Prop, (∃ m, W 0 m (upd H D (.dK []))) ∧ ∀ i m H, W i m H →
  ((Itl K a).stop i H ∧ ap Q (.ref D) H) ∨ ((Itl K a).go i H ∧ ∃ Nx : Hp → Prop, (∀ H', Nx H' → ∃ m', m' < m ∧ W (i + 1) m' H') ∧ ∀ x H', (Itl K a).yld i H x H' → g x (wipe σ vs) H' fun σ2 H2 => wipe σ2 vs = wipe σ vs ∧ tt σ2 H2 fun b H3 =>
    if b = true then tk σ2 H3 fun y H4 => tv σ2 H4 fun z H5 => ∃ kvs k, y = kV k ∧ H5 D = some (.dK kvs) ∧ kvs.length < sizeLine ∧ Nx (upd H5 D (.dK (putK kvs k z))) else Nx H3) := by
  intro D hD
  have hD0 : H0 D = none := G.al D hD
  have zs : sizeLine = 16777216 := sizeLine_eq
  have w := walk_list (K := K) (a := a) (xs := xs)
  have hlen := hx.1
  let Pv : Nat → Hp → Prop := fun i H' => ∃ J' kvs, Ex J J' ∧ Gr M0 J0 H0 J' H' ∧ Gr No J H J' H' ∧ Mu J' H' D (.dK kvs) ∧ EntR S ((ds.take i).map fun d => (key d, val d)) kvs J'
  refine ⟨fun i m H => m = xs.length - i ∧ i ≤ xs.length ∧ Pv i H, ⟨xs.length, by simp, Nat.zero_le _, J, [], Ex.refl J, G.step (Gr.new G.jh hD), Gr.new G.jh hD, Mu.new G.jh hD, EntR.nil⟩, ?_⟩
  rintro i m H1 ⟨rfl, hi, J1, kvs, e, g1, g2, mu, he⟩
  have hq : SqL K H1 a xs := SqL.of (g1.jh _ _ (e _ _ ha))
  by_cases hlt : i < xs.length
  · refine .inr ⟨w.goes i H1 hlt hq, Pv (i + 1), fun H' p' => ⟨xs.length - (i + 1), by omega, rfl, hlt, p'⟩, fun x H' y => ?_⟩
    obtain ⟨rfl, hxi⟩ := w.yields i H1 x H' hlt hq y
    obtain ⟨d, hd, hr⟩ := hx.at hxi
    refine hs d x J1 H' (fun y z H5 => ∃ kvs k, y = kV k ∧ H5 D = some (.dK kvs) ∧ kvs.length < sizeLine ∧ Pv (i + 1) (upd H5 D (.dK (putK kvs k z)))) (Pv (i + 1)) (List.mem_of_getElem? hd) (Up.up e hr) e g1 fun z J4 H4 g4 hS => ?_
    have m4 := mu.up g4
    refine ⟨kvs, Sum.inr (key d), rfl, m4.h, by rw [he.1]; simp; omega, J4, _, e.trans g4.jj, (g1.step g4).mut m4.j (.inr hD0), (g2.trans g4).mut m4.j (.inr hD), m4.set, ?_⟩
    rw [List.take_add_one, hd, List.map_append]
    refine entR_put (Up.up g4.jj he) ?_ hS
    have h2 := split_at hd
    have h3 : ((ds.map fun d => (key d, val d)).map (·.1)).Nodup := by rw [List.map_map]; exact hnd
    refine nodup_pre2 (x := (key d, val d)) (r := (ds.drop (i + 1)).map fun d => (key d, val d)) h3 ?_
    conv => lhs; rw [h2]
    rw [List.map_append, List.map_cons]
  · have e2 : i = xs.length := by omega
    subst e2
    rw [hlen, List.take_of_length_le (Nat.le_refl _)] at he
    exact .inl ⟨w.stops H1 hq, k D kvs J1 H1 hD hD0 e mu he g2 g1⟩
theorem lets_names {κ : Type} (b : List (Stm κ)) : (b.filterMap fun st => match st with
    | .lt x _ _ => some x
    | _ => none) = (letsOf b).map (·.1) := by
  induction b with
  | nil => rfl
  | cons st r ih =>
    rw [List.filterMap_cons, show letsOf (st :: r) = letsOf [st] ++ letsOf r from letsOf_append [st] _, List.map_append, ← ih]
    cases st <;> rfl
abbrev spMade {κ : Type} (RK : κ → V → Hp → Prop) : Sp := SpD (List (Stm κ)) (fun _ => No) (fun a vs J H => ∃ v1, vs = [v1] ∧ rLst (rStm RK) a v1 J ∧ a.length ≤ 1000) (fun a v J _ => rLst rStr ((letsOf a).map (·.1)) v J)
theorem ok_Made (T : Good K mg) {κ : Type} {RK : κ → V → Hp → Prop} [∀ d v, Up (RK d v)] : FnOk P w K mg base CX0 1 (He.ga K "_made") (fdOf K (He.ga K "_made")) ["statements"] (spMade RK) := by
  refine sp_ok (k := 0) (D_sMade T) S_sMade (fun a vs J H h => by obtain ⟨_, rfl, _⟩ := h; rfl) (fun cdv Ar outer s H0 vs E hr => ?_)
  refine ⟨_, (pss_one (ps_ret (pe_lc (own := [("statement", 1)]) (by rfl) S_sMade.nd (piL K (pv 0)) (blkOk_by (own := [("statement", 1)]) (N := ["statements", "statement"]) (sc := defScope sMade) (by decide +kernel)) (fun _ _ _ _ _ => (pg_name (i := 1) S_sMade.nd rfl (by first | exact Or.inl rfl | exact Or.inr rfl))) (fun _ _ _ _ _ => pts_one (pt_cmpR op_eq (pe_ix (xT K) (pv 1) pe_int (fun _ _ => rfl)) pe_str (nomark _))) (fun _ _ _ _ _ => (pe_ix (xT K) (pv 1) pe_int (fun _ _ => rfl)))))), ?_⟩
  rintro blk J0 Q G ⟨v1, rfl, ⟨l, xs, rfl, hl, hxs⟩, hlm⟩ kk
  walk_at "gr"
  refine k_lcFM (R := rStm RK) (S := rStr) (fun st => match st with
    | .lt x _ _ => some x
    | _ => none) G hl hxs (by omega) ?_ ?_
  · intro st x J2 H2 Ny Nn hr hx e2 G2 hy hn
    cases st with
    | lt x t s =>
      obtain ⟨a, kv, sv, rfl, ha, hk, hs⟩ := hx
      walk_at "gr"
      refine ⟨rfl, ?_⟩
      walk_at "gr"
      exact hy _ _ _ _ rfl (Gr.refl G2.jh) rfl
    | pt x k s =>
      obtain ⟨a, b, sv, rfl, ha, hb, hs⟩ := hx
      walk_at "gr"
      refine ⟨rfl, ?_⟩
      walk_at "gr"
      exact hn _ _ rfl (Gr.refl G2.jh)
    | cl f ss =>
      obtain ⟨a, l, xs, rfl, ha, hl, hs⟩ := hx
      walk_at "gr"
      refine ⟨rfl, ?_⟩
      walk_at "gr"
      exact hn _ _ rfl (Gr.refl G2.jh)
  · intro D acc J2 H2 hD e2 hDJ hacc g2 G2
    rw [lets_names] at hacc
    exact kk _ _ _ G2 ⟨D, acc, rfl, hDJ, hacc⟩
def ClA {κ : Type} (fns : List (Fn κ)) (st : Stm κ) : Prop := ∀ f ss, st = .cl f ss → ∃ g ∈ fns, g.name = f ∧ ss.length = g.ps.length
abbrev spAreCalls {κ : Type} (K : PySem.W.Frag) (RK : κ → V → Hp → Prop) : Sp := SpD (List (Stm κ) × List (Fn κ)) (fun _ => No) (fun a vs J H => ∃ v1 v2, vs = [v1, v2] ∧ rLst (rStm RK) a.1 v1 J ∧ rLst (rFn K RK) a.2 v2 J ∧ a.1.length ≤ 1000 ∧ a.2.length ≤ 1000 ∧ (a.2.map (·.name)).Nodup ∧ ∀ st ∈ a.1, ClA a.2 st) (fun a v J _ => v = .bl true)
theorem ok_AreCalls (T : Good K mg) {κ : Type} {RK : κ → V → Hp → Prop} [∀ d v, Up (RK d v)] : FnOk P w K mg base CX0 1 (He.ga K "_are_calls") (fdOf K (He.ga K "_are_calls")) ["statements", "functions"] (spAreCalls K RK) := by
  refine sp_ok (k := 0) (D_sAreCalls T) S_sAreCalls (fun a vs J H h => by obtain ⟨_, _, rfl, _⟩ := h; rfl) (fun cdv Ar outer s H0 vs E hr => ?_)
  refine ⟨_, (pss_cons (ps_setDc (i := 2) (own := [("function", 4)]) (by rfl) S_sAreCalls.nd rfl rfl (swD_true rfl rfl rfl (by decide +kernel)) (piL K (pv 1)) (blkOk_by (own := [("function", 4)]) (N := ["statements", "functions", "counts", "statement", "function"]) (sc := defScope sAreCalls) (by decide +kernel)) (fun _ _ _ _ _ => (pg_name (i := 4) S_sAreCalls.nd rfl (by first | exact Or.inl rfl | exact Or.inr rfl))) (fun _ _ _ _ _ => pts_nil) (fun _ _ _ _ _ => (pFld K (pv 4) rfl)) (fun _ _ _ _ _ => (pe_callB (cLen K) (by rfl) (f_len T) (show bootBuiltins "len" = some (.builtin "len") by decide +kernel) (pa_cons (pFld K (pv 4) rfl) pa_nil))))
  (pss_cons (ps_for PassesOwn.never rfl (piL K (pv 0)) (pg_name (i := 3) S_sAreCalls.nd rfl (by first | exact Or.inl rfl | exact Or.inr rfl))
  (pss_one (ps_if (PW.pt (pw_and (pt_cmpR op_eq (pe_ix (xT K) (pv 3) pe_int (fun _ _ => rfl)) pe_str (nomark _)) (pw_and1 (pt_cmpR op_ne (pe_dget1 (hu_of hr) (pv 2) (pe_ix (xT K) (pv 3) pe_int (fun _ _ => rfl)) (by constructor <;> rfl)) (pe_callB (cLen K) (by rfl) (f_len T) (show bootBuiltins "len" = some (.builtin "len") by decide +kernel) (pa_cons (pe_ix (xT K) (pv 3) pe_int (fun _ _ => rfl)) pa_nil)) (nomark _))))) (pss_one (ps_ret pe_bl)) pss_nil)))
  (pss_one (ps_ret pe_bl)))), ?_⟩
  rintro ⟨blk, fns⟩ J0 Q G ⟨v1, v2, rfl, ⟨l, xs, rfl, hl, hxs⟩, ⟨lf, xf, rfl, hlf, hxf⟩, hl1, hl2, hnd, hok⟩ kk
  dsimp only at *
  walk_at "gr"
  refine k_dcL (R := rFn K RK) (S := rDp) (·.name) (fun g => g.ps.length) G hlf hxf (by omega) hnd ?_ ?_
  · intro g x J1 H1 Ny Nn hg hx e1 G1 hy
    obtain ⟨a, dx, pv, bv, rfl, ha, ⟨lp, xp, rfl, hlp, hxp⟩, hbv⟩ := hx
    walk_at "gr"
    refine ⟨rfl, ?_⟩
    walk_at "gr"
    rw [hxp.1]
    exact hy _ _ _ (Gr.refl G1.jh) rfl
  · intro D kvs J1 H1 hD hD0 e1 mD hkv g1 G1
    walk_at "gr"
    refine k_forL G1 (e1 _ _ hl) (fun i σ' J' H' => ∃ w, σ' = [some (.ref l), some (.ref lf), some (.ref D), w, none] ∧ Mu J' H' D (.dK kvs)) ⟨_, rfl, mD⟩ ?_ ?_
    · rintro i x σ' J2 H2 hx e2 G2 ⟨w, rfl, mD2⟩
      obtain ⟨st, hst, hr⟩ := hxs.at hx
      have hst2 := hok st (List.mem_of_getElem? hst)
      cases st with
      | lt x t s =>
        obtain ⟨a, kv, sv, rfl, ha, hk, hs⟩ := hr
        walk_at "gr"
        exact ⟨_, e2, G2, _, rfl, mD2⟩
      | pt x k s =>
        obtain ⟨a, b, sv, rfl, ha, hb, hs⟩ := hr
        walk_at "gr"
        exact ⟨_, e2, G2, _, rfl, mD2⟩
      | cl f ss =>
        obtain ⟨a, b, ys, rfl, ha, hb, hs⟩ := hr
        obtain ⟨g, hg, hgn, hgl⟩ := hst2 f ss rfl
        have hlk : (fns.map fun d => (d.name, d.ps.length)).lookup f = some g.ps.length := by
          refine lookup_mem_nd (by rw [List.map_map]; exact hnd) ?_
          rw [← hgn]
          exact List.mem_map_of_mem (f := fun d : Fn κ => (d.name, d.ps.length)) hg
        obtain ⟨v, hv, rfl⟩ := hkv.some hlk
        walk_at "gr"
        rw [hv]
        walk_at "gr"
        rw [hs.1, hgl]
        refine ifF (by simp) ?_
        walk_at "gr"
        exact ⟨_, e2, G2, _, rfl, mD2⟩
    · rintro σ' J2 H2 e2 G2 ⟨w, rfl, mD2⟩
      walk_at "gr"
      exact kk _ _ _ G2 rfl
end Rk
namespace Rk
open PySem PySem.Spec PyProof.Rows L2
variable {P : Program} {w : World} {K : PySem.W.Frag} {mg : Str → Option Value} {base : Heap}
/-! the names of a program; whether it is one -/
abbrev spNamesOf {κ : Type} (K : PySem.W.Frag) (RK : κ → V → Hp → Prop) : Sp := SpD (Pg κ) (fun _ => No) (fun p vs J H => ∃ v1 v2, vs = [v1, v2] ∧ rLst (rFn K RK) p.fns v1 J ∧ rLst (rStm RK) p.main v2 J ∧ p.fns.length ≤ 4 ∧ p.main.length ≤ 40 ∧ ∀ f ∈ p.fns, f.ps.length ≤ 4 ∧ f.body.length ≤ 12) (fun p v J _ => rLst rStr (nmsOf p) v J)
theorem fnN_len2 {κ : Type} (f : Fn κ) (h1 : f.ps.length ≤ 4) (h2 : f.body.length ≤ 12) : (fnN f).length ≤ 16 := by
  have := letsOf_len f.body
  simp [fnN]; omega
theorem ok_NamesOf (T : Good K mg) {κ : Type} {RK : κ → V → Hp → Prop} [∀ d v, Up (RK d v)] : FnOk P w K mg base CX0 2 (He.ga K "names_of") (fdOf K (He.ga K "names_of")) ["functions", "statements"] (spNamesOf K RK) := by
  refine sp_ok (k := 1) (D_sNamesOf T) S_sNamesOf (fun a vs J H h => by obtain ⟨_, _, rfl, _⟩ := h; rfl) (fun cdv Ar outer s H0 vs E hr => ?_)
  refine ⟨_, (pss_cons (ps_set (i := 2) S_sNamesOf.nd rfl (by first | exact Or.inl rfl | exact Or.inr rfl) (pe_lst pa_nil))
  (pss_cons (ps_for PassesOwn.never rfl (piL K (pv 0)) (pg_name (i := 3) S_sNamesOf.nd rfl (by first | exact Or.inl rfl | exact Or.inr rfl))
  (pss_one (ps_expr (pe_bm PySem.F.plainAttrs_list PySem.F.slot_list_extend PySem.F.type_list_extend mt_extend (pv 2) (pa_cons (pe_op op_cat (pe_lc (own := [("name", 4), ("kind", 5)]) (by rfl) S_sNamesOf.nd (piL K (pFld K (pv 3) rfl)) (blkOk_by (own := [("name", 4), ("kind", 5)]) (N := ["functions", "statements", "names", "function", "name", "kind"]) (sc := defScope sNamesOf) (by decide +kernel)) (fun _ _ _ _ _ => (pgT K (n := 2) rfl (pgs_cons (pg_name (i := 4) S_sNamesOf.nd rfl (by first | exact Or.inl rfl | exact Or.inr rfl)) (pgs_cons (pg_name (i := 5) S_sNamesOf.nd rfl (by first | exact Or.inl rfl | exact Or.inr rfl)) pgs_nil)))) (fun _ _ _ _ _ => pts_nil) (fun _ _ _ _ _ => (pv 4))) (pe_call (ok_Made (RK := RK) T) (hr.mono (by omega)) rfl (g_made T) (D_sMade T).kp (B_sMade T) .nil pass0 (pa_cons (pFld K (pv 3) rfl) pa_nil))) pa_nil)))))
  (pss_one (ps_ret (pe_op op_cat (pv 2) (pe_call (ok_Made (RK := RK) T) (hr.mono (by omega)) rfl (g_made T) (D_sMade T).kp (B_sMade T) .nil pass0 (pa_cons (pv 1) pa_nil))))))), ?_⟩
  rintro p J0 Q G ⟨v1, v2, rfl, ⟨lf, xf, rfl, hlf, hxf⟩, hm, hl1, hl2, hl3⟩ kk
  have zs := sizeLine_eq
  walk_at "gr"
  refine k_lstM G (by decide) ?_
  intro l H1 hl hl0 ml g1 G1
  walk_at "gr"
  refine k_forL G1 hlf (fun i σ' J' H' => ∃ w ac, σ' = [some (.ref lf), some v2, some (.ref l), w, none, none] ∧ Mu J' H' l (.lst ac) ∧ AllR rStr ((p.fns.take i).map fnN).flatten ac J' ∧ ac.length ≤ 16 * i) ⟨_, [], rfl, ml, AllR.nil, by simp⟩ ?_ ?_
  · rintro i x σ' J2 H2 hx e2 G2 ⟨w, ac, rfl, ml2, hac, hlen⟩
    obtain ⟨f, hf, a, dx, pv, bv, rfl, ha, ⟨lp, xp, rfl, hlp, hxp⟩, hbv⟩ := hxf.at hx
    have hi : i < p.fns.length := (List.getElem?_eq_some_iff.mp hf).1
    obtain ⟨hf1, hf2⟩ := hl3 f (List.mem_of_getElem? hf)
    walk_at "gr"
    refine k_lcFM (R := rPar RK) (S := rStr) (fun q => some q.1) G2 (by walk_at "get") (Up.up e2 hxp) (by omega) ?_ ?_
    · intro q x J3 H3 Ny Nn hq hx e3 G3 hy hn
      obtain ⟨b, kv, rfl, hb, hkv⟩ := hx
      walk_at "gr"
      refine ⟨rfl, ?_⟩
      walk_at "gr"
      exact hy _ _ _ _ rfl (Gr.refl G3.jh) rfl
    · intro D acc J3 H3 hD e3 hDJ hacc g3 G3
      have ml3 := ml2.up g3
      have e0 : f.ps.filterMap (fun q => some q.1) = f.ps.map (·.1) := by simp
      rw [e0] at hacc
      walk_at "gr"
      refine use_sp G3 f.body ⟨_, rfl, Up.up (e2.trans e3) hbv, by omega⟩ (fun _ z => z.elim) ?_
      rintro v J4 H4 e4 g4 G4 ⟨lm, xm, rfl, hlm, hxm⟩
      have ml4 := ml3.up g4
      have hc1 := hacc.1
      have hc2 := hxm.1
      have hc3 := letsOf_len f.body
      rw [List.length_map] at hc1 hc2
      walk_at "gr"
      refine k_cat G4 (by walk_at "get") (by walk_at "get") (by omega) ?_
      intro L J5 H5 hL e5 hLJ g5 G5
      have ml5 := ml4.up g5
      walk_at "gr"
      refine k_ext G5 ml5 (.inr hl0) (by walk_at "get") (by rw [List.length_append]; omega) ?_
      intro H6 g6 G6 ml6
      walk_at "gr"
      refine ⟨_, ((e2.trans e3).trans e4).trans e5, G6, _, _, rfl, ml6, ?_, by rw [List.length_append, List.length_append]; omega⟩
      rw [List.take_add_one, hf]
      simp only [Option.toList_some, List.map_append, List.flatten_append, List.map_cons, List.map_nil, List.flatten_cons, List.flatten_nil, List.append_nil]
      exact (Up.up ((e3.trans e4).trans e5) hac).append ((Up.up (e4.trans e5) hacc).append (Up.up e5 hxm))
  · rintro σ' J2 H2 e2 G2 ⟨w, ac, rfl, ml2, hac, hlen⟩
    rw [hxf.1] at hlen
    rw [hxf.1, List.take_of_length_le (Nat.le_refl _)] at hac
    walk_at "gr"
    refine use_sp G2 p.main ⟨_, rfl, Up.up e2 hm, by omega⟩ (fun _ z => z.elim) ?_
    rintro v J4 H4 e4 g4 G4 ⟨lm, xm, rfl, hlm, hxm⟩
    have ml4 := ml2.up g4
    have hc2 := hxm.1
    have hc3 := letsOf_len p.main
    rw [List.length_map] at hc2
    walk_at "gr"
    refine k_cat G4 ml4.h (by walk_at "get") (by omega) ?_
    intro L J5 H5 hL e5 hLJ g5 G5
    exact kk _ _ _ G5 ⟨L, _, rfl, hLJ, (Up.up (e4.trans e5) hac).append (Up.up e5 hxm)⟩
structure PgNm {κ : Type} (ok : κ → Prop) (p : Pg κ) : Prop where
  f : ∀ f ∈ p.fns, FnNm ok f
  m : ∀ st ∈ p.main, StNm ok st
  l1 : p.fns.length ≤ 4
  l2 : p.main.length ≤ 40
  nd : (p.fns.map (·.name) ++ nmsOf p).Nodup
  c : ∀ (i : Nat) f, p.fns[i]? = some f → ∀ st ∈ f.body, ClA (p.fns.take i) st
  cm : ∀ st ∈ p.main, ClA p.fns st
abbrev spIsProgram {κ : Type} (K : PySem.W.Frag) (RK : κ → V → Hp → Prop) (ok : κ → Prop) (kd : Bool) (fk : Addr) : Sp := SpD (Pg κ) (fun _ => No) (fun p vs J H => ∃ v1 v2 v3, vs = [v1, v2, v3] ∧ rLst (rFn K RK) p.fns v1 J ∧ rLst (rStm RK) p.main v2 J ∧ v3 = .ref fk ∧ PgNm ok p) (fun p v _ _ => BlW kd v)
theorem nms_len {κ : Type} {p : Pg κ} (hl : p.main.length ≤ 40) (h1 : p.fns.length ≤ 4) (h2 : ∀ f ∈ p.fns, f.ps.length ≤ 4 ∧ f.body.length ≤ 12) : (nmsOf p).length ≤ 200 := by
  have : ∀ l : List (Fn κ), (∀ f ∈ l, (fnN f).length ≤ 16) → ((l.map fnN).flatten).length ≤ 16 * l.length := by
    intro l
    induction l with
    | nil => intro _; simp
    | cons a r ih =>
      intro h
      have := ih fun f hf => h f (List.mem_cons_of_mem _ hf)
      have := h a List.mem_cons_self
      simp at *; omega
  have := this p.fns fun f hf => fnN_len2 f (h2 f hf).1 (h2 f hf).2
  have := letsOf_len p.main
  unfold nmsOf
  rw [List.length_append, List.length_map]
  omega
theorem ok_IsProgram (T : Good K mg) {κ : Type} {RK : κ → V → Hp → Prop} [∀ d v, Up (RK d v)] {ok : κ → Prop} {kd : Bool} {fk : Addr} {S0 : Addr → Option Sp} (HK : ∀ f sp, S0 f = some sp → Held P w K mg base 12 f sp) (hS : S0 fk = some (spKd RK ok kd)) : FnOk P w K mg base CX0 16 (He.ga K "_is_program") (fdOf K (He.ga K "_is_program")) ["functions", "statements", "is_kind"] (spIsProgram K RK ok kd fk) := by
  refine sp_ok (k := 15) (D_sIsProgram T) S_sIsProgram (fun a vs J H h => by obtain ⟨_, _, _, rfl, _⟩ := h; rfl) (fun cdv Ar outer s H0 vs E hr => ?_)
  refine ⟨_, (pss_cons (ps_if (PW.pt (pw_or (pt_not (pt_val (pe_callB (cIsi K) (by rfl) (f_isinstance T) (show bootBuiltins "isinstance" = some (.builtin "isinstance") by decide +kernel) (pa_cons (pv 0) (pa_cons (pe_bltn (v := .ty "list") (by rfl) (f_list T) (show bootBuiltins "list" = some (.type "list") by decide +kernel) rfl) pa_nil))))) (pw_or1 (pt_cmpR op_gt (pe_callB (cLen K) (by rfl) (f_len T) (show bootBuiltins "len" = some (.builtin "len") by decide +kernel) (pa_cons (pv 0) pa_nil)) (pe_gint rfl (iMOST_FUNCTIONS T)) (nomark _))))) (pss_one (ps_ret pe_bl)) pss_nil)
  (pss_cons (ps_if (pt_not (pt_val (pe_callB (cAll K rfl) (by rfl) (f_all T) (show bootBuiltins "all" = some (.builtin "all") by decide +kernel) (pa_cons (pe_lc (own := [("function", 5)]) (by rfl) S_sIsProgram.nd (piL K (pv 0)) (blkOk_by (own := [("function", 5)]) (N := ["functions", "statements", "is_kind", "names", "place", "function", "name"]) (sc := defScope sIsProgram) (by decide +kernel)) (fun _ _ _ _ _ => (pg_name (i := 5) S_sIsProgram.nd rfl (by first | exact Or.inl rfl | exact Or.inr rfl))) (fun _ _ _ _ _ => pts_nil) (fun _ _ _ _ _ => (pe_call (ok_IsFunction T HK hS) (hr.mono (by omega)) rfl (g_is_function T) (D_sIsFunction T).kp (B_sIsFunction T) .nil pass0 (pa_cons (pv 5) (pa_cons (pv 2) pa_nil))))) pa_nil)))) (pss_one (ps_ret pe_bl)) pss_nil)
  (pss_cons (ps_if (pt_not (pt_val (pe_call (ok_IsBlock T HK hS) (hr.mono (by omega)) rfl (g_is_block T) (D_sIsBlock T).kp (B_sIsBlock T) .nil pass0 (pa_cons (pv 1) (pa_cons (pe_gint rfl (iMOST_STATEMENTS T)) (pa_cons (pv 2) pa_nil)))))) (pss_one (ps_ret pe_bl)) pss_nil)
  (pss_cons (ps_set (i := 3) S_sIsProgram.nd rfl (by first | exact Or.inl rfl | exact Or.inr rfl) (pe_op op_cat (pe_lc (own := [("function", 5)]) (by rfl) S_sIsProgram.nd (piL K (pv 0)) (blkOk_by (own := [("function", 5)]) (N := ["functions", "statements", "is_kind", "names", "place", "function", "name"]) (sc := defScope sIsProgram) (by decide +kernel)) (fun _ _ _ _ _ => (pg_name (i := 5) S_sIsProgram.nd rfl (by first | exact Or.inl rfl | exact Or.inr rfl))) (fun _ _ _ _ _ => pts_nil) (fun _ _ _ _ _ => (pFld K (pv 5) rfl))) (pe_call (ok_NamesOf (RK := RK) T) (hr.mono (by omega)) rfl (gnames_of T) (D_sNamesOf T).kp (B_sNamesOf T) .nil pass0 (pa_cons (pv 0) (pa_cons (pv 1) pa_nil)))))
  (pss_cons (ps_if (pt_cmpR op_ne (pe_callB cLenD (by rfl) (f_len T) (show bootBuiltins "len" = some (.builtin "len") by decide +kernel) (pa_cons (pe_dc (own := [("name", 6)]) (by rfl) S_sIsProgram.nd (piL K (pv 3)) (blkOk_by (own := [("name", 6)]) (N := ["functions", "statements", "is_kind", "names", "place", "function", "name"]) (sc := defScope sIsProgram) (by decide +kernel)) (fun _ _ _ _ _ => (pg_name (i := 6) S_sIsProgram.nd rfl (by first | exact Or.inl rfl | exact Or.inr rfl))) (fun _ _ _ _ _ => pts_nil) (fun _ _ _ _ _ => (pv 6)) (fun _ _ _ _ _ => pe_bl)) pa_nil)) (pe_callB (cLen K) (by rfl) (f_len T) (show bootBuiltins "len" = some (.builtin "len") by decide +kernel) (pa_cons (pv 3) pa_nil)) (nomark _)) (pss_one (ps_ret pe_bl)) pss_nil)
  (pss_cons (ps_for PassesOwn.never rfl (piE K (by rfl) (f_enumerate T) (pa_cons (pv 0) pa_nil)) (pgT K (n := 2) rfl (pgs_cons (pg_name (i := 4) S_sIsProgram.nd rfl (by first | exact Or.inl rfl | exact Or.inr rfl)) (pgs_cons (pg_name (i := 5) S_sIsProgram.nd rfl (by first | exact Or.inl rfl | exact Or.inr rfl)) pgs_nil)))
  (pss_one (ps_if (pt_not (pt_val (pe_call (ok_AreCalls (RK := RK) T) (hr.mono (by omega)) rfl (g_are_calls T) (D_sAreCalls T).kp (B_sAreCalls T) .nil pass0 (pa_cons (pFld K (pv 5) rfl) (pa_cons (pe_slice (sL K) (pv 0) po_none (po_some (pv 4))) pa_nil))))) (pss_one (ps_ret pe_bl)) pss_nil)))
  (pss_one (ps_ret (pe_call (ok_AreCalls (RK := RK) T) (hr.mono (by omega)) rfl (g_are_calls T) (D_sAreCalls T).kp (B_sAreCalls T) .nil pass0 (pa_cons (pv 1) (pa_cons (pv 0) pa_nil))))))))))), ?_⟩
  rintro p J0 Q G ⟨v1, v2, _, rfl, ⟨lf, xf, rfl, hlf, hxf⟩, ⟨lm, xm, rfl, hlm, hxm⟩, rfl, hp⟩ kk
  have zs := sizeLine_eq
  have hp1 := hp.l1
  have hp2 := hp.l2
  have hfl : ∀ f ∈ p.fns, f.ps.length ≤ 4 ∧ f.body.length ≤ 12 := fun f hf => ⟨(hp.f f hf).l1, (hp.f f hf).l2⟩
  have hnl := nms_len hp2 hp1 hfl
  walk_at "gr"
  rw [hxf.1]
  refine ifF (by simp; omega) ?_
  walk_at "gr"
  refine k_lcFM (R := rFn K RK) (S := rBw kd) (fun r => some ()) G hlf hxf (by omega) ?_ ?_
  · intro r x J2 H2 Ny Nn hr hx e2 G2 hy hn
    walk_at "gr"
    refine ⟨rfl, ?_⟩
    walk_at "gr"
    refine use_sp G2 r ⟨_, _, rfl, hx, rfl, hp.f r hr⟩ (fun _ z => z.elim) ?_
    rintro v J3 H3 e3 g3 G3 hv
    exact hy _ _ _ _ rfl g3 hv
  · intro D acc J2 H2 hD e2 hDJ hacc g2 G2
    obtain ⟨bs, rfl, hbs⟩ := allR_w hacc
    walk_at "gr"
    refine k_all (G2.jh _ _ hDJ) ?_
    walk_at "gr"
    refine if2 (fun q => ?_) (fun q => ?_)
    · walk_at "gr"
      exact kk _ _ _ G2 ⟨_, rfl, fun z => by rw [hbs z] at q; cases q⟩
    · walk_at "gr"
      refine use_sp G2 (p.main, 40) ⟨_, _, _, rfl, ⟨lm, xm, rfl, e2 _ _ hlm, Up.up e2 hxm⟩, rfl, rfl, hp2, (by decide : 40 ≤ 1000), hp.m⟩ (fun _ z => z.elim) ?_
      rintro v J3 H3 e3 g3 G3 ⟨b, rfl, hb⟩
      walk_at "gr"
      refine if2 (fun q => ?_) (fun q => ?_)
      · walk_at "gr"
        exact kk _ _ _ G3 ⟨_, rfl, fun z => by rw [hb z] at q; cases q⟩
      · walk_at "gr"
        refine k_lcFM (R := rFn K RK) (S := rStr) (fun f => some f.name) G3 (by walk_at "get") (Up.up (e2.trans e3) hxf) (by omega) ?_ ?_
        · intro r x J4 H4 Ny Nn hr hx e4 G4 hy hn
          obtain ⟨a, dx, pv, bv, rfl, ha, hpv, hbv⟩ := hx
          walk_at "gr"
          refine ⟨rfl, ?_⟩
          walk_at "gr"
          exact hy _ _ _ _ rfl (Gr.refl G4.jh) rfl
        · intro D4 acc J4 H4 hD4 e4 hDJ4 hacc4 g4 G4
          have e0 : p.fns.filterMap (fun f => some f.name) = p.fns.map (·.name) := by simp
          rw [e0] at hacc4
          have e04 := (e2.trans e3).trans e4
          walk_at "gr"
          refine use_sp G4 p ⟨_, _, rfl, ⟨lf, xf, rfl, e04 _ _ hlf, Up.up e04 hxf⟩, ⟨lm, xm, rfl, e04 _ _ hlm, Up.up e04 hxm⟩, hp1, hp2, hfl⟩ (fun _ z => z.elim) ?_
          rintro v J5 H5 e5 g5 G5 ⟨ln, xn, rfl, hln, hxn⟩
          have hc1 := hacc4.1
          have hc2 := hxn.1
          rw [List.length_map] at hc1
          walk_at "gr"
          refine k_cat G5 (by walk_at "get") (by walk_at "get") (by omega) ?_
          intro L J6 H6 hL e6 hLJ g6 G6
          have hnm := (Up.up (e5.trans e6) hacc4).append (Up.up e6 hxn)
          walk_at "gr"
          refine k_dcL (R := rStr) (S := rBl) (fun s => s) (fun _ => true) G6 hLJ hnm (by rw [List.length_append, List.length_map]; omega) (by rw [List.map_id']; exact hp.nd) ?_ ?_
          · intro s x J7 H7 Ny Nn hs hx e7 G7 hy
            obtain rfl : x = .str s := hx
            walk_at "gr"
            refine ⟨rfl, ?_⟩
            walk_at "gr"
            exact hy _ _ _ (Gr.refl G7.jh) rfl
          · intro D7 kvs J7 H7 hD7 hD70 e7 mD7 hkv g7 G7
            walk_at "gr"
            rw [hkv.1, List.length_map, ← hnm.1]
            refine ifF (by simp) ?_
            walk_at "gr"
            have e07 := (e04.trans e5).trans (e6.trans e7)
            refine k_forP (walk_enum (K := K) (a := lf) (xs := xf)) G7 (fun i σ' J' H' => ∃ w4 w5, σ' = [some (.ref lf), some (.ref lm), some (.ref fk), some (.ref L), w4, w5, none]) ⟨_, _, rfl⟩ (fun J' H' e e' => SqL.of (e' _ _ (e _ _ (e07 _ _ hlf)))) (fun i σ' _ _ _ _ _ z => z) ?_ ?_
            · rintro i x y T8 σ' J8 H8 hi hx hy e8 G8 hT8 ⟨w4, w5, rfl⟩
              obtain rfl : V.int (i : Int) = x := Option.some.inj hx
              obtain ⟨f, hf, a, dx, pv, bv, rfl, ha, hpv, hbv⟩ := hxf.at hy
              have hfm := List.mem_of_getElem? hf
              have hil : i < p.fns.length := (List.getElem?_eq_some_iff.mp hf).1
              have e08 := e07.trans e8
              walk_at "gr"
              refine k_slLt G8 (e08 _ _ hlf) ?_
              intro P9 J9 H9 e9 hJ9 g9 G9
              walk_at "gr"
              refine use_sp G9 (f.body, p.fns.take i) ⟨_, _, rfl, Up.up (e08.trans e9) hbv, ⟨P9, _, rfl, hJ9, Up.up (e08.trans e9) (hxf.take i)⟩, by have := (hfl f hfm).2; show f.body.length ≤ 1000; omega, by show (p.fns.take i).length ≤ 1000; rw [List.length_take]; omega, ?_, hp.c i f hf⟩ (fun _ z => z.elim) ?_
              · show ((p.fns.take i).map (·.name)).Nodup
                rw [List.map_take]
                exact (List.nodup_append.mp hp.nd).1.sublist (List.take_sublist _ _)
              rintro v J10 H10 e10 g10 G10 rfl
              walk_at "gr"
              exact ⟨_, (e8.trans e9).trans e10, G10, _, _, rfl⟩
            · rintro σ' J8 H8 e8 G8 ⟨w4, w5, rfl⟩
              have e08 := e07.trans e8
              walk_at "gr"
              refine use_sp G8 (p.main, p.fns) ⟨_, _, rfl, ⟨lm, xm, rfl, e08 _ _ hlm, Up.up e08 hxm⟩, ⟨lf, xf, rfl, e08 _ _ hlf, Up.up e08 hxf⟩, by show p.main.length ≤ 1000; omega, by show p.fns.length ≤ 1000; omega, (List.nodup_append.mp hp.nd).1, hp.cm⟩ (fun _ z => z.elim) ?_
              rintro v J10 H10 e10 g10 G10 rfl
              exact kk _ _ _ G10 ⟨_, rfl, fun _ => rfl⟩
end Rk
namespace Rk
open PySem PySem.Spec PyProof.Rows L2
variable {P : Program} {w : World} {K : PySem.W.Frag} {mg : Str → Option Value} {base : Heap}
/-! copies; the makers of functions and programs -/
def KnT (x : V) (J : Hp) : Prop := (∃ s, x = .str s) ∨ (∃ n, x = .int n) ∨ (∃ p ys, x = .ref p ∧ J p = some (.tup ys)) ∨ ∃ p ys, x = .ref p ∧ J p = some (.lst ys)
def KnN (x : V) (J : Hp) : Prop := (∃ s, x = .str s) ∨ (∃ n, x = .int n) ∨ (∃ p ys, x = .ref p ∧ J p = some (.tup ys))
def Cpy (x y : V) (J : Hp) : Prop := y = x ∨ ∃ p q zs, x = .ref p ∧ J p = some (.lst zs) ∧ y = .ref q ∧ J q = some (.lst zs)
instance (x y : V) : Up (Cpy x y) := ⟨fun e h => h.imp id fun ⟨p, q, zs, h1, h2, h3, h4⟩ => ⟨p, q, zs, h1, e _ _ h2, h3, e _ _ h4⟩⟩
theorem KnN.t {x : V} {J : Hp} (h : KnN x J) : KnT x J := h.imp id fun h => h.imp id fun h => .inl h
theorem KnN.eq {x y : V} {J J' : Hp} (h : KnN x J) (e : Ex J J') (c : Cpy x y J') : y = x := by
  rcases c with c | ⟨p, q, zs, rfl, h2, rfl, h4⟩
  · exact c
  · rcases h with ⟨s, h⟩ | ⟨n, h⟩ | ⟨p', ys, h, h5⟩
    · cases h
    · cases h
    · cases h
      have := e _ _ h5
      rw [this] at h2
      cases h2
def rKn (x : V) (v : V) (J : Hp) : Prop := v = x ∧ KnT x J
instance (x v : V) : Up (rKn x v) := ⟨fun e ⟨h1, h2⟩ => ⟨h1, by
  rcases h2 with h | h | ⟨p, ys, h3, h4⟩ | ⟨p, ys, h3, h4⟩
  · exact .inl h
  · exact .inr (.inl h)
  · exact .inr (.inr (.inl ⟨p, ys, h3, e _ _ h4⟩))
  · exact .inr (.inr (.inr ⟨p, ys, h3, e _ _ h4⟩))⟩⟩
theorem allR_kn {J : Hp} : ∀ {xs : List V}, (∀ x ∈ xs, KnT x J) → AllR rKn xs xs J
  | [], _ => AllR.nil
  | x :: xs, h => (allR_kn fun y hy => h y (List.mem_cons_of_mem _ hy)).cons ⟨rfl, h x List.mem_cons_self⟩
abbrev spCopiedPart : Sp := SpD (List V) (fun _ => No) (fun xs vs J H => ∃ v1, vs = [v1] ∧ ∃ a, v1 = .ref a ∧ J a = some (.tup xs) ∧ xs.length ≤ 1000 ∧ ∀ x ∈ xs, KnT x J) (fun xs v J _ => ∃ q ys, v = .ref q ∧ J q = some (.tup ys) ∧ AllR Cpy xs ys J)
theorem ok_CopiedPart (T : Good K mg) : FnOk P w K mg base CX0 1 (He.ga K "_copied") (fdOf K (He.ga K "_copied")) ["part"] spCopiedPart := by
  refine sp_ok (k := 0) (D_sCopiedPart T) S_sCopiedPart (fun a vs J H h => by obtain ⟨_, rfl, _⟩ := h; rfl) (fun cdv Ar outer s H0 vs E hr => ?_)
  refine ⟨_, (pss_cons (ps_if (pt_not (pt_val (pe_callB (cIsi K) (by rfl) (f_isinstance T) (show bootBuiltins "isinstance" = some (.builtin "isinstance") by decide +kernel) (pa_cons (pv 0) (pa_cons (pe_bltn (v := .ty "tuple") (by rfl) (f_tuple T) (show bootBuiltins "tuple" = some (.type "tuple") by decide +kernel) rfl) pa_nil))))) (pss_one (ps_ret (pv 0))) pss_nil)
  (pss_one (ps_ret (pe_callTy (cTup K) (by rfl) (f_tuple T) (show bootBuiltins "tuple" = some (.type "tuple") by decide +kernel) (pa_cons (pe_lc (own := [("item", 1)]) (by rfl) S_sCopiedPart.nd (piT K (pv 0)) (blkOk_by (own := [("item", 1)]) (N := ["part", "item"]) (sc := defScope sCopiedPart) (by decide +kernel)) (fun _ _ _ _ _ => (pg_name (i := 1) S_sCopiedPart.nd rfl (by first | exact Or.inl rfl | exact Or.inr rfl))) (fun _ _ _ _ _ => pts_nil) (fun _ _ _ _ _ => (pe_ifExp (pt_val (pe_callB (cIsi K) (by rfl) (f_isinstance T) (show bootBuiltins "isinstance" = some (.builtin "isinstance") by decide +kernel) (pa_cons (pv 1) (pa_cons (pe_bltn (v := .ty "list") (by rfl) (f_list T) (show bootBuiltins "list" = some (.type "list") by decide +kernel) rfl) pa_nil)))) (pe_callTy (cList K) (by rfl) (f_list T) (show bootBuiltins "list" = some (.type "list") by decide +kernel) (pa_cons (pv 1) pa_nil)) (pv 1)))) pa_nil))))), ?_⟩
  rintro xs J0 Q G ⟨_, rfl, a, rfl, ha, hl, hk⟩ kk
  walk_at "gr"
  refine k_lcTM (R := rKn) (S := Cpy) (fun x => some x) G ha (allR_kn hk) (by omega) ?_ ?_
  · rintro x _ J1 H1 Ny Nn hxm ⟨rfl, hx⟩ e1 G1 hy hn
    walk_at "gr"
    refine ⟨rfl, ?_⟩
    rcases hx with ⟨s, rfl⟩ | ⟨n, rfl⟩ | ⟨p, ys, rfl, hp⟩ | ⟨p, ys, rfl, hp⟩
    · walk_at "gr"
      exact hy _ _ _ _ rfl (Gr.refl G1.jh) (.inl rfl)
    · walk_at "gr"
      exact hy _ _ _ _ rfl (Gr.refl G1.jh) (.inl rfl)
    · walk_at "gr"
      exact hy _ _ _ _ rfl (Gr.refl G1.jh) (.inl rfl)
    · walk_at "gr"
      refine k_lstOf G1 (.inl (G1.jh _ _ hp)) ?_
      intro q J2 H2 hq e2 hqJ g2 G2
      exact hy _ _ _ _ rfl g2 (.inr ⟨p, q, ys, rfl, e2 _ _ hp, rfl, hqJ⟩)
  · intro D acc J1 H1 hD e1 hDJ hacc g1 G1
    rw [List.filterMap_some] at hacc
    walk_at "gr"
    rename_i q J2 H2 hq e2 hqJ g2 G2
    exact kk _ _ _ G2 ⟨q, acc, rfl, hqJ, Up.up e2 hacc⟩
/-- what is told of a value, and stays told -/
structure UpP where
  r : V → Hp → Prop
  up : ∀ v J J', Ex J J' → r v J → r v J'
def rUp (p : UpP) (v : V) (J : Hp) : Prop := p.r v J
instance (p : UpP) (v : V) : Up (rUp p v) := ⟨fun e h => p.up _ _ _ e h⟩
/-- it is told of a copy, too -/
def CpOk (p : UpP) : Prop := ∀ v J, p.r v J → ∃ a xs, v = .ref a ∧ J a = some (.tup xs) ∧ xs.length ≤ 1000 ∧ (∀ x ∈ xs, KnT x J) ∧ ∀ J' q ys, Ex J J' → J' q = some (.tup ys) → AllR Cpy xs ys J' → p.r (.ref q) J'
abbrev spCopied : Sp := SpD (List UpP) (fun _ => No) (fun ds vs J H => ∃ v1, vs = [v1] ∧ rLst rUp ds v1 J ∧ (∀ p ∈ ds, CpOk p) ∧ ds.length ≤ 1000) (fun ds v J _ => rLst rUp ds v J)
theorem ok_Copied (T : Good K mg) : FnOk P w K mg base CX0 2 (He.ga K "copied") (fdOf K (He.ga K "copied")) ["thing"] spCopied := by
  refine sp_ok (k := 1) (D_sCopied T) S_sCopied (fun a vs J H h => by obtain ⟨_, rfl, _⟩ := h; rfl) (fun cdv Ar outer s H0 vs E hr => ?_)
  refine ⟨_, (pss_cons (ps_if (pt_not (pt_val (pe_callB (cIsi K) (by rfl) (f_isinstance T) (show bootBuiltins "isinstance" = some (.builtin "isinstance") by decide +kernel) (pa_cons (pv 0) (pa_cons (pe_bltn (v := .ty "list") (by rfl) (f_list T) (show bootBuiltins "list" = some (.type "list") by decide +kernel) rfl) pa_nil))))) (pss_one (ps_ret (pv 0))) pss_nil)
  (pss_one (ps_ret (pe_lc (own := [("part", 1)]) (by rfl) S_sCopied.nd (piL K (pv 0)) (blkOk_by (own := [("part", 1)]) (N := ["thing", "part"]) (sc := defScope sCopied) (by decide +kernel)) (fun _ _ _ _ _ => (pg_name (i := 1) S_sCopied.nd rfl (by first | exact Or.inl rfl | exact Or.inr rfl))) (fun _ _ _ _ _ => pts_nil) (fun _ _ _ _ _ => (pe_call (ok_CopiedPart T) (hr.mono (by omega)) rfl (g_copied T) (D_sCopiedPart T).kp (B_sCopiedPart T) .nil pass0 (pa_cons (pv 1) pa_nil))))))), ?_⟩
  rintro ds J0 Q G ⟨_, rfl, ⟨l, xs, rfl, hl, hxs⟩, hcp, hlen⟩ kk
  walk_at "gr"
  refine k_lcFM (R := rUp) (S := rUp) (fun x => some x) G hl hxs (by omega) ?_ ?_
  · rintro d x J1 H1 Ny Nn hd hx e1 G1 hy hn
    obtain ⟨a, zs, rfl, ha, hz1, hz2, hz3⟩ := hcp d hd x J1 hx
    walk_at "gr"
    refine ⟨rfl, ?_⟩
    walk_at "gr"
    refine use_sp G1 zs ⟨_, rfl, a, rfl, ha, hz1, hz2⟩ (fun _ z => z.elim) ?_
    rintro v J2 H2 e2 g2 G2 ⟨q, ys, rfl, hq, hys⟩
    exact hy _ _ _ _ rfl g2 (hz3 _ _ _ e2 hq hys)
  · intro D acc J1 H1 hD e1 hDJ hacc g1 G1
    rw [List.filterMap_some] at hacc
    exact kk _ _ _ G1 ⟨D, acc, rfl, hDJ, hacc⟩
/-- kinds are no lists -/
class KnK {κ : Type} (RK : κ → V → Hp → Prop) : Prop where
  kn : ∀ t v J, RK t v J → KnN v J
instance : KnK rDp := ⟨fun n v J h => .inr (.inl ⟨_, h⟩)⟩
instance : KnK rTy := ⟨fun t v J ⟨a, h1, h2, _⟩ => .inr (.inr ⟨a, _, h1, h2⟩)⟩
section
variable {κ : Type} {RK : κ → V → Hp → Prop} [∀ d v, Up (RK d v)]
def upS (RK : κ → V → Hp → Prop) [∀ d v, Up (RK d v)] (st : Stm κ) : UpP := ⟨rStm RK st, fun _ _ _ e h => Up.up e h⟩
def upQ (RK : κ → V → Hp → Prop) [∀ d v, Up (RK d v)] (q : Str × κ) : UpP := ⟨rPar RK q, fun _ _ _ e h => Up.up e h⟩
theorem rLst_map {α : Type} {R : α → V → Hp → Prop} (f : α → UpP) (hf : ∀ d v J, R d v J ↔ (f d).r v J) {ds : List α} {v : V} {J : Hp} : rLst rUp (ds.map f) v J ↔ rLst R ds v J := by
  constructor
  · rintro ⟨a, xs, h1, h2, h3⟩
    exact ⟨a, xs, h1, h2, (AllR.map.mp h3).imp fun d x _ h => (hf d x J).mpr h⟩
  · rintro ⟨a, xs, h1, h2, h3⟩
    exact ⟨a, xs, h1, h2, AllR.map.mpr (h3.imp fun d x _ h => (hf d x J).mp h)⟩
theorem rLst_S {b : List (Stm κ)} {v : V} {J : Hp} : rLst rUp (b.map (upS RK)) v J ↔ rLst (rStm RK) b v J := rLst_map (R := rStm RK) (upS RK) fun _ _ _ => Iff.rfl
theorem rLst_Q {b : List (Str × κ)} {v : V} {J : Hp} : rLst rUp (b.map (upQ RK)) v J ↔ rLst (rPar RK) b v J := rLst_map (R := rPar RK) (upQ RK) fun _ _ _ => Iff.rfl
theorem cpy2 {x1 x2 : V} {ys : List V} {J : Hp} (h : AllR Cpy [x1, x2] ys J) : ∃ y1 y2, ys = [y1, y2] ∧ Cpy x1 y1 J ∧ Cpy x2 y2 J := by
  have hl := h.1
  match ys, hl with
  | [y1, y2], _ => exact ⟨y1, y2, rfl, h.head, h.tail.head⟩
theorem cpy3 {x1 x2 x3 : V} {ys : List V} {J : Hp} (h : AllR Cpy [x1, x2, x3] ys J) : ∃ y1 y2 y3, ys = [y1, y2, y3] ∧ Cpy x1 y1 J ∧ Cpy x2 y2 J ∧ Cpy x3 y3 J := by
  have hl := h.1
  match ys, hl with
  | [y1, y2, y3], _ => exact ⟨y1, y2, y3, rfl, h.head, h.tail.head, h.tail.tail.head⟩
theorem cpy4 {x1 x2 x3 x4 : V} {ys : List V} {J : Hp} (h : AllR Cpy [x1, x2, x3, x4] ys J) : ∃ y1 y2 y3 y4, ys = [y1, y2, y3, y4] ∧ Cpy x1 y1 J ∧ Cpy x2 y2 J ∧ Cpy x3 y3 J ∧ Cpy x4 y4 J := by
  have hl := h.1
  match ys, hl with
  | [y1, y2, y3, y4], _ => exact ⟨y1, y2, y3, y4, rfl, h.head, h.tail.head, h.tail.tail.head, h.tail.tail.tail.head⟩
theorem kn_str (s : Str) (J : Hp) : KnN (.str s) J := .inl ⟨s, rfl⟩
theorem kn_src {s : Src} {v : V} {J : Hp} (h : rSrc s v J) : KnN v J := by
  cases s with
  | num n => obtain ⟨a, h1, h2⟩ := h; exact .inr (.inr ⟨a, _, h1, h2⟩)
  | null => obtain ⟨a, h1, h2⟩ := h; exact .inr (.inr ⟨a, _, h1, h2⟩)
  | val x k => obtain ⟨a, b, h1, h2, _⟩ := h; exact .inr (.inr ⟨a, _, h1, h2⟩)
  | adr x k => obtain ⟨a, b, h1, h2, _⟩ := h; exact .inr (.inr ⟨a, _, h1, h2⟩)
theorem cp_S [KnK RK] (st : Stm κ) : CpOk (upS RK st) := by
  intro v J h
  cases st with
  | lt x t s =>
    obtain ⟨a, kv, sv, rfl, ha, hk, hs⟩ := h
    have k3 := KnK.kn _ _ _ hk
    have k4 := kn_src hs
    refine ⟨a, _, rfl, ha, Nat.le_of_ble_eq_true rfl, ?_, ?_⟩
    · intro z hz
      simp only [List.mem_cons, List.not_mem_nil, or_false] at hz
      rcases hz with rfl | rfl | rfl | rfl
      · exact (kn_str _ _).t
      · exact (kn_str _ _).t
      · exact k3.t
      · exact k4.t
    · intro J' q ys e hq hc
      obtain ⟨y1, y2, y3, y4, rfl, c1, c2, c3, c4⟩ := cpy4 hc
      rw [(kn_str _ J).eq e c1, (kn_str _ J).eq e c2, k3.eq e c3, k4.eq e c4] at hq
      exact ⟨q, kv, sv, rfl, hq, Up.up e hk, Up.up e hs⟩
  | pt x k s =>
    obtain ⟨a, b, sv, rfl, ha, hb, hs⟩ := h
    have k2 : KnN (.ref b) J := .inr (.inr ⟨b, _, rfl, hb⟩)
    have k3 := kn_src hs
    refine ⟨a, _, rfl, ha, Nat.le_of_ble_eq_true rfl, ?_, ?_⟩
    · intro z hz
      simp only [List.mem_cons, List.not_mem_nil, or_false] at hz
      rcases hz with rfl | rfl | rfl
      · exact (kn_str _ _).t
      · exact k2.t
      · exact k3.t
    · intro J' q ys e hq hc
      obtain ⟨y1, y2, y3, rfl, c1, c2, c3⟩ := cpy3 hc
      rw [(kn_str _ J).eq e c1, k2.eq e c2, k3.eq e c3] at hq
      exact ⟨q, b, sv, rfl, hq, e _ _ hb, Up.up e hs⟩
  | cl f ss =>
    obtain ⟨a, l, xs, rfl, ha, hl, hs⟩ := h
    refine ⟨a, _, rfl, ha, Nat.le_of_ble_eq_true rfl, ?_, ?_⟩
    · intro z hz
      simp only [List.mem_cons, List.not_mem_nil, or_false] at hz
      rcases hz with rfl | rfl | rfl
      · exact (kn_str _ _).t
      · exact (kn_str _ _).t
      · exact .inr (.inr (.inr ⟨l, xs, rfl, hl⟩))
    · intro J' q ys e hq hc
      obtain ⟨y1, y2, y3, rfl, c1, c2, c3⟩ := cpy3 hc
      rw [(kn_str _ J).eq e c1, (kn_str _ J).eq e c2] at hq
      rcases c3 with rfl | ⟨p, r, zs, h1, h2, rfl, h4⟩
      · exact ⟨q, l, xs, rfl, hq, e _ _ hl, Up.up e hs⟩
      · cases h1
        have := e _ _ hl
        rw [h2] at this
        cases this
        exact ⟨q, r, xs, rfl, hq, h4, Up.up e hs⟩
theorem cp_Q [KnK RK] (p : Str × κ) : CpOk (upQ RK p) := by
  rintro v J ⟨a, kv, rfl, ha, hk⟩
  have k2 := KnK.kn _ _ _ hk
  refine ⟨a, _, rfl, ha, Nat.le_of_ble_eq_true rfl, ?_, ?_⟩
  · intro z hz
    simp only [List.mem_cons, List.not_mem_nil, or_false] at hz
    rcases hz with rfl | rfl
    · exact (kn_str _ _).t
    · exact k2.t
  · intro J' q ys e hq hc
    obtain ⟨y1, y2, rfl, c1, c2⟩ := cpy2 hc
    rw [(kn_str _ J).eq e c1, k2.eq e c2] at hq
    exact ⟨q, kv, rfl, hq, Up.up e hk⟩
end
structure FiD where
  self : Addr
  name : Str
  ps : List UpP
  bd : List UpP
abbrev spFunctionInit (K : PySem.W.Frag) : Sp := SpD FiD (fun a b => b = a.self) (fun a vs J H => ∃ v1 v2 v3 v4, vs = [v1, v2, v3, v4] ∧ v1 = .ref a.self ∧ v2 = .str a.name ∧ rLst rUp a.ps v3 J ∧ rLst rUp a.bd v4 J ∧ (∀ p ∈ a.ps, CpOk p) ∧ (∀ p ∈ a.bd, CpOk p) ∧ a.ps.length ≤ 1000 ∧ a.bd.length ≤ 1000 ∧ ∃ dx, Mu J H a.self (.ins (He.ga K "Function") dx []))
  (fun a v J H => v = .non ∧ ∃ dx pv bv, Mu J H a.self (.ins (He.ga K "Function") dx [("name", .str a.name), ("params", pv), ("body", bv)]) ∧ rLst rUp a.ps pv J ∧ rLst rUp a.bd bv J)
theorem ok_FunctionInit (T : Good K mg) : FnOk P w K mg base CX0 3 (He.ma K (He.ga K "Function") "__init__") (fdOf K (He.ma K (He.ga K "Function") "__init__")) ["self", "name", "params", "body"] (spFunctionInit K) := by
  refine sp_ok (k := 2) (D_cFunctionInit T) S_cFunctionInit (fun a vs J H h => by obtain ⟨_, _, _, _, rfl, _⟩ := h; rfl) (fun cdv Ar outer s H0 vs E hr => ?_)
  refine ⟨_, (pss_cons (ps_fld (pv 0) (pv 1) rfl)
  (pss_cons (ps_fld (pv 0) (pe_call (ok_Copied T) (hr.mono (by omega)) rfl (gcopied T) (D_sCopied T).kp (B_sCopied T) .nil pass0 (pa_cons (pv 2) pa_nil)) rfl)
  (pss_one (ps_fld (pv 0) (pe_call (ok_Copied T) (hr.mono (by omega)) rfl (gcopied T) (D_sCopied T).kp (B_sCopied T) .nil pass0 (pa_cons (pv 3) pa_nil)) rfl)))), ?_⟩
  rintro ⟨a, nm, ps, bd⟩ J0 Q G ⟨_, _, v3, v4, rfl, rfl, rfl, hps, hbd, hcp, hcb, hl1, hl2, dx, m⟩ kk
  dsimp only at *
  walk_at "gr"
  refine k_sfldE G m (.inl rfl) (clFunction T) (naFunction_name T) (by decide) ?_
  intro H1 g1 G1 m1
  walk_at "gr"
  refine use_sp G1 ps ⟨_, rfl, hps, hcp, hl1⟩ (fun _ z => z.elim) ?_
  rintro pv J2 H2 e2 g2 G2 hpv
  have m2 := m1.up g2
  walk_at "gr"
  refine k_sfldE G2 m2 (.inl rfl) (clFunction T) (naFunction_params T) (by show (1 : Nat) < 1000; decide) ?_
  intro H3 g3 G3 m3
  walk_at "gr"
  refine use_sp G3 bd ⟨_, rfl, Up.up e2 hbd, hcb, hl2⟩ (fun _ z => z.elim) ?_
  rintro bv J4 H4 e4 g4 G4 hbv
  have m4 := m3.up g4
  walk_at "gr"
  refine k_sfldE G4 m4 (.inl rfl) (clFunction T) (naFunction_body T) (by show (2 : Nat) < 1000; decide) ?_
  intro H5 g5 G5 m5
  walk_at "gr"
  exact kk _ _ _ G5 ⟨rfl, dx, pv, bv, m5, Up.up e4 hpv, hbv⟩
end Rk
namespace Rk
open PySem PySem.Spec PyProof.Rows L2
variable {P : Program} {w : World} {K : PySem.W.Frag} {mg : Str → Option Value} {base : Heap}
/-! the maker of programs -/
structure PiD (κ : Type) where
  self : Addr
  p : Pg κ
abbrev spProgramInit {κ : Type} (K : PySem.W.Frag) (RK : κ → V → Hp → Prop) (ok1 ok2 : κ → Prop) (kd1 kd2 : Bool) : Sp := SpD (PiD κ) (fun a b => b = a.self) (fun a vs J H => ∃ v1 v2 v3, vs = [v1, v2, v3] ∧ v1 = .ref a.self ∧ rLst (rFn K RK) a.p.fns v2 J ∧ rLst (rStm RK) a.p.main v3 J ∧ PgNm ok1 a.p ∧ (kd1 = true ∨ (kd2 = true ∧ PgNm ok2 a.p)) ∧ ∃ dx, Mu J H a.self (.ins (He.ga K "Program") dx []))
  (fun a v J H => v = .non ∧ ∃ dx fv mv, Mu J H a.self (.ins (He.ga K "Program") dx [("functions", fv), ("statements", mv)]) ∧ rLst (rFn K RK) a.p.fns fv J ∧ rLst (rStm RK) a.p.main mv J)
theorem ok_ProgramInit (T : Good K mg) {κ : Type} {RK : κ → V → Hp → Prop} [∀ d v, Up (RK d v)] [KnK RK] {ok1 ok2 : κ → Prop} {kd1 kd2 : Bool} (h1 : Held P w K mg base 12 (He.ga K "is_type") (spKd RK ok1 kd1)) (h2 : Held P w K mg base 12 (He.ga K "is_depth") (spKd RK ok2 kd2)) : FnOk P w K mg base CX0 17 (He.ma K (He.ga K "Program") "__init__") (fdOf K (He.ma K (He.ga K "Program") "__init__")) ["self", "functions", "statements"] (spProgramInit K RK ok1 ok2 kd1 kd2) := by
  refine sp_ok (k := 16) (D_cProgramInit T) S_cProgramInit (fun a vs J H h => by obtain ⟨_, _, _, rfl, _⟩ := h; rfl) (fun cdv Ar outer s H0 vs E hr => ?_)
  refine ⟨_, (pss_cons (ps_if (PW.pt (pw_and (pt_not (pt_val (pe_call (ok_IsProgram T (hk_of h1) (s1_at _ _)) (hr.mono (by omega)) rfl (g_is_program T) (D_sIsProgram T).kp (B_sIsProgram T) .nil pass0 (pa_cons (pv 1) (pa_cons (pv 2) (pa_cons (pe_glob (v := .ref (He.ga K "is_type")) rfl (gis_type T) rfl) pa_nil)))))) (pw_and1 (pt_not (pt_val (pe_call (ok_IsProgram T (hk_of h2) (s1_at _ _)) (hr.mono (by omega)) rfl (g_is_program T) (D_sIsProgram T).kp (B_sIsProgram T) .nil pass0 (pa_cons (pv 1) (pa_cons (pv 2) (pa_cons (pe_glob (v := .ref (He.ga K "is_depth")) rfl (gis_depth T) rfl) pa_nil))))))))) (pss_one ps_never) pss_nil)
  (pss_cons (ps_fld (pv 0) (pe_lc (own := [("told", 3)]) (by rfl) S_cProgramInit.nd (piL K (pv 1)) (blkOk_by (own := [("told", 3)]) (N := ["self", "functions", "statements", "told"]) (sc := defScope cProgramInit) (by decide +kernel)) (fun _ _ _ _ _ => (pg_name (i := 3) S_cProgramInit.nd rfl (by first | exact Or.inl rfl | exact Or.inr rfl))) (fun _ _ _ _ _ => pts_nil) (fun _ _ _ _ _ => (pe_make (mkFunction T) (ok_FunctionInit T) (hr.mono (by omega)) rfl (gFunction T) (B_cFunctionInit T) .nil pass0 (pa_cons (pFld K (pv 3) rfl) (pa_cons (pFld K (pv 3) rfl) (pa_cons (pFld K (pv 3) rfl) pa_nil)))))) rfl)
  (pss_one (ps_fld (pv 0) (pe_call (ok_Copied T) (hr.mono (by omega)) rfl (gcopied T) (D_sCopied T).kp (B_sCopied T) .nil pass0 (pa_cons (pv 2) pa_nil)) rfl)))), ?_⟩
  rintro ⟨self, p⟩ J0 Q G ⟨_, v2, v3, rfl, rfl, hf, hm, hn1, hn2, dx, m⟩ kk
  dsimp only at *
  have hfl := hn1.l1
  have hml := hn1.l2
  refine k_seqT (fun σ' H' => σ' = [some (.ref self), some v2, some v3, none] ∧ ∃ J1, Ex J0 J1 ∧ Gr (fun b => b = self) J0 H0 J1 H' ∧ Mu J1 H' self (.ins (He.ga K "Program") dx [])) ?_ ?_
  · rintro _ H1 ⟨rfl, J1, e1, G1, m1⟩
    obtain ⟨lf, xf, rfl, hlf, hxf⟩ := hf
    walk_at "gr"
    refine k_lcFM (R := rFn K RK) (S := rFn K RK) (fun f => some f) G1 (e1 _ _ hlf) (Up.up e1 hxf) (by omega) ?_ ?_
    · rintro f x J2 H2 Ny Nn hfm ⟨a, fdx, pv, bv, rfl, ha, hpv, hbv⟩ e2 G2 hy hn
      have hf1 := (hn1.f f hfm).l1
      have hf2 := (hn1.f f hfm).l2
      have gg : Gr No J2 H2 J2 H2 := Gr.refl G2.jh
      walk_at "gr"
      refine ⟨rfl, ?_⟩
      walk_at "gr"
      rename_i y ydx H3 hy1 hy2 g3 G3 m3
      refine use_sp G3 ⟨y, f.name, f.ps.map (upQ RK), f.body.map (upS RK)⟩ ⟨_, _, _, _, rfl, rfl, rfl, rLst_Q.mpr hpv, rLst_S.mpr hbv, ?_, ?_, ?_, ?_, ydx, m3⟩ (fun b hb => .inr (by subst hb; exact hy1)) ?_
      · intro q hq
        obtain ⟨z, hz, rfl⟩ := List.mem_map.mp hq
        exact cp_Q z
      · intro q hq
        obtain ⟨z, hz, rfl⟩ := List.mem_map.mp hq
        exact cp_S z
      · show (f.ps.map (upQ RK)).length ≤ 1000
        rw [List.length_map]; omega
      · show (f.body.map (upS RK)).length ≤ 1000
        rw [List.length_map]; omega
      rintro v J4 H4 e4 g4 G4 ⟨rfl, fdx2, pv2, bv2, m4, hpv2, hbv2⟩
      refine ⟨rfl, ?_⟩
      refine hy _ _ _ _ rfl (G4.know m4.j m4.h hy1) ⟨y, fdx2, pv2, bv2, rfl, upd_same, Up.up (ex_know m4.j) (rLst_Q.mp hpv2), Up.up (ex_know m4.j) (rLst_S.mp hbv2)⟩
    · intro D acc J2 H2 hD e2 hDJ hacc g2 G2
      rw [List.filterMap_some] at hacc
      have m2 := m1.up g2
      walk_at "gr"
      refine k_sfldE G2 m2 (.inl rfl) (clProgram T) (naProgram_functions T) (by decide) ?_
      intro H3 g3 G3 m3
      walk_at "gr"
      refine use_sp G3 (p.main.map (upS RK)) ⟨_, rfl, rLst_S.mpr (Up.up (e1.trans e2) hm), ?_, by rw [List.length_map]; omega⟩ (fun _ z => z.elim) ?_
      · intro q hq
        obtain ⟨z, hz, rfl⟩ := List.mem_map.mp hq
        exact cp_S z
      rintro mv J4 H4 e4 g4 G4 hmv
      have m4 := m3.up g4
      walk_at "gr"
      refine k_sfldE G4 m4 (.inl rfl) (clProgram T) (naProgram_statements T) (by show (1 : Nat) < 1000; decide) ?_
      intro H5 g5 G5 m5
      walk_at "gr"
      exact kk _ _ _ G5 ⟨rfl, dx, _, _, m5, ⟨D, acc, rfl, e4 _ _ hDJ, Up.up e4 hacc⟩, rLst_S.mp hmv⟩
  · intro N hN
    walk_at "gr"
    refine use_sp G p ⟨_, _, _, rfl, hf, hm, rfl, hn1⟩ (fun _ z => z.elim) ?_
    rintro v J1 H1 e1 g1 G1 ⟨b, rfl, hb⟩
    have m1 := m.up g1
    walk_at "gr"
    refine if2 (fun q => ?_) (fun q => ?_)
    · have hk : kd1 ≠ true := fun z => by rw [hb z] at q; cases q
      obtain ⟨k2, hn3⟩ := hn2.resolve_left hk
      walk_at "gr"
      refine use_sp G1 p ⟨_, _, _, rfl, Up.up e1 hf, Up.up e1 hm, rfl, hn3⟩ (fun _ z => z.elim) ?_
      rintro v J2 H2 e2 g2 G2 ⟨b2, rfl, hb2⟩
      have m2 := m1.up g2
      walk_at "gr"
      rw [hb2 k2]
      refine ifF rfl ?_
      walk_at "gr"
      exact hN _ _ ⟨rfl, J2, e1.trans e2, G2, m2⟩
    · walk_at "gr"
      exact hN _ _ ⟨rfl, J1, e1, G1, m1⟩
end Rk
namespace Rk
open PySem PySem.Spec PyProof.Rows L2
variable {P : Program} {w : World} {K : PySem.W.Frag} {mg : Str → Option Value} {base : Heap}
/-! with_table, the law's made -/
abbrev spTyped : Sp := SpD (List (Stm Nat) × Tys) (fun _ => No) (fun a vs J _ => ∃ v1 v2, vs = [v1, v2] ∧ rLst (rStm rDp) a.1 v1 J ∧ rDic rTy a.2 v2 J ∧ a.1.length ≤ 1000 ∧ ∀ x t s, Stm.lt x t s ∈ a.1 → (a.2.lookup x).isSome = true) (fun a v J _ => rLst (rStm rTy) (a.1.map (typS a.2)) v J)
theorem ok_Typed (T : Good K mg) : FnOk P w K mg base CX0 1 (He.ga K "_typed") (fdOf K (He.ga K "_typed")) ["statements", "table"] spTyped := by
  refine sp_ok (k := 0) (D_sTyped T) S_sTyped (fun a vs J H h => by obtain ⟨_, _, rfl, _⟩ := h; rfl) (fun cdv Ar outer s H0 vs E hr => ?_)
  refine ⟨_, (pss_cons (ps_set (i := 2) S_sTyped.nd rfl (by first | exact Or.inl rfl | exact Or.inr rfl) (pe_lst pa_nil))
  (pss_cons (ps_for PassesOwn.never rfl (piL K (pv 0)) (pg_name (i := 3) S_sTyped.nd rfl (by first | exact Or.inl rfl | exact Or.inr rfl))
  (pss_one (ps_if (pt_cmpR op_eq (pe_ix (xT K) (pv 3) pe_int (fun _ _ => rfl)) pe_str (nomark _)) (pss_one (ps_expr (pe_bm PySem.F.plainAttrs_list PySem.F.slot_list_append PySem.F.type_list_append mt_append (pv 2) (pa_cons (pe_tup (pa_cons pe_str (pa_cons (pe_ix (xT K) (pv 3) pe_int (fun _ _ => rfl)) (pa_cons (pe_dget (hu_of hr) (pv 1) (pe_ix (xT K) (pv 3) pe_int (fun _ _ => rfl)) (fun _ _ => rfl)) (pa_cons (pe_ix (xT K) (pv 3) pe_int (fun _ _ => rfl)) pa_nil))))) pa_nil)))) (pss_one (ps_expr (pe_bm PySem.F.plainAttrs_list PySem.F.slot_list_append PySem.F.type_list_append mt_append (pv 2) (pa_cons (pv 3) pa_nil)))))))
  (pss_one (ps_ret (pv 2))))), ?_⟩
  rintro ⟨blk, tb⟩ J0 Q G ⟨v1, v2, rfl, ⟨b, xs, rfl, hb, hB⟩, ⟨dt, kvs, rfl, hdt, he⟩, hl, hne⟩ kk
  dsimp only at *
  have zs := sizeLine_eq
  walk_at "go"
  refine k_lstM (by assumption) (by decide) ?_
  intro l H1 hl1 hl0 ml g1 G1
  walk_at "go"
  refine k_forL (by assumption) hb (fun i σ' J' H' => ∃ w ac, σ' = [some (.ref b), some (.ref dt), some (.ref l), w] ∧ Mu J' H' l (.lst ac) ∧ AllR (rStm rTy) ((blk.take i).map (typS tb)) ac J') ⟨_, [], rfl, ml, AllR.nil⟩ ?_ ?_
  · rintro i x σ' J2 H2 hx ej2 g2 ⟨w, ac, rfl, ml2, hac⟩
    obtain ⟨d, hd, hr⟩ := hB.at hx
    have hi : i < blk.length := (List.getElem?_eq_some_iff.mp hd).1
    have hla : ac.length = i := by have := hac.1; simp at this; omega
    have snoc : ∀ {J v}, Ex J2 J → rStm rTy (typS tb d) v J → AllR (rStm rTy) ((blk.take (i + 1)).map (typS tb)) (ac ++ [v]) J := by
      intro J v e h
      rw [List.take_add_one, hd]
      simpa using (Up.up e hac).snoc h
    cases d with
    | lt y t s =>
      obtain ⟨a, kv, sv, rfl, ha, hk, hs⟩ := hr
      obtain ⟨u, hu⟩ := Option.isSome_iff_exists.mp (hne y t s (List.mem_of_getElem? hd))
      obtain ⟨v, ev, hv⟩ := he.some hu
      walk_at "go"
      refine k_app (by assumption) (ml2.up (by assumption)) (.inr hl0) (by omega) ?_
      intro H5 g5 G5 ml5
      walk_at "go"
      refine ⟨_, ej2.trans (by assumption), G5, _, _, rfl, ml5, snoc (by assumption) ⟨_, _, _, rfl, by assumption, ?_, by walk_at "up"⟩⟩
      unfold tyOf
      rw [hu]
      walk_at "up"
    | pt y k s =>
      obtain ⟨a, c, sv, rfl, ha, hc, hs⟩ := hr
      walk_at "go"
      refine k_app (by assumption) ml2 (.inr hl0) (by omega) ?_
      intro H5 g5 G5 ml5
      walk_at "go"
      exact ⟨_, ej2, G5, _, _, rfl, ml5, snoc (Ex.refl _) ⟨a, c, sv, rfl, by walk_at "get", by walk_at "get", Up.up ej2 hs⟩⟩
    | cl f ss =>
      obtain ⟨a, c, ys, rfl, ha, hc, hs⟩ := hr
      walk_at "go"
      refine k_app (by assumption) ml2 (.inr hl0) (by omega) ?_
      intro H5 g5 G5 ml5
      walk_at "go"
      exact ⟨_, ej2, G5, _, _, rfl, ml5, snoc (Ex.refl _) ⟨a, c, ys, rfl, by walk_at "get", by walk_at "get", Up.up ej2 hs⟩⟩
  · rintro σ' J2 H2 ej2 g2 ⟨w, ac, rfl, ml2, hac⟩
    rw [hB.1, List.take_of_length_le (Nat.le_refl _)] at hac
    walk_at "go"
    exact kk _ _ _ (g2.know ml2.j ml2.h (by assumption)) ⟨l, ac, rfl, upd_same, Up.up (ex_know ml2.j) hac⟩
abbrev okT (t : Ty) : Prop := AllRt t ∧ t ≠ []
abbrev spWithTable (K : PySem.W.Frag) : Sp := SpD (Pg Nat × Tys) (fun _ => No) (fun a vs J H => ∃ v1 v2, vs = [v1, v2] ∧ rPg K rDp a.1 v1 J ∧ rDic rTy a.2 v2 J ∧ TbOk a.2 a.1 ∧ PgNm okT (typP a.2 a.1)) (fun a v J _ => rPg K rTy (typP a.2 a.1) v J)
theorem ok_WithTable (T : Good K mg) : FnOk P w K mg base CX0 19 (He.ga K "with_table") (fdOf K (He.ga K "with_table")) ["sketch", "table"] (spWithTable K) := by
  refine sp_ok (k := 18) (D_sWithTable T) S_sWithTable (fun a vs J H h => by obtain ⟨_, _, rfl, _⟩ := h; rfl) (fun cdv Ar outer s H0 vs E hr => ?_)
  refine ⟨_, (pss_cons (ps_set (i := 2) S_sWithTable.nd rfl (by first | exact Or.inl rfl | exact Or.inr rfl) (pe_lst pa_nil))
  (pss_cons (ps_for PassesOwn.never rfl (piL K (pFld K (pv 0) rfl)) (pg_name (i := 3) S_sWithTable.nd rfl (by first | exact Or.inl rfl | exact Or.inr rfl))
  (pss_cons (ps_setLc (i := 4) (own := [("name", 5), ("kind", 6)]) (by rfl) S_sWithTable.nd rfl rfl (sw_true rfl rfl rfl (by decide +kernel)) (piL K (pFld K (pv 3) rfl)) (blkOk_by (own := [("name", 5), ("kind", 6)]) (N := ["sketch", "table", "functions", "function", "params", "name", "kind"]) (sc := defScope sWithTable) (by decide +kernel)) (fun _ _ _ _ _ => (pgT K (n := 2) rfl (pgs_cons (pg_name (i := 5) S_sWithTable.nd rfl (by first | exact Or.inl rfl | exact Or.inr rfl)) (pgs_cons (pg_name (i := 6) S_sWithTable.nd rfl (by first | exact Or.inl rfl | exact Or.inr rfl)) pgs_nil)))) (fun _ _ _ _ _ => pts_nil) (fun _ _ _ _ _ => (pe_tup (pa_cons (pv 5) (pa_cons (pe_dget (hu_of hr) (pv 1) (pv 5) (fun _ _ => rfl)) pa_nil)))))
  (pss_one (ps_expr (pe_bm PySem.F.plainAttrs_list PySem.F.slot_list_append PySem.F.type_list_append mt_append (pv 2) (pa_cons (pe_make (mkFunction T) (ok_FunctionInit T) (hr.mono (by omega)) rfl (gFunction T) (B_cFunctionInit T) .nil pass0 (pa_cons (pFld K (pv 3) rfl) (pa_cons (pv 4) (pa_cons (pe_call (ok_Typed T) (hr.mono (by omega)) rfl (g_typed T) (D_sTyped T).kp (B_sTyped T) .nil pass0 (pa_cons (pFld K (pv 3) rfl) (pa_cons (pv 1) pa_nil))) pa_nil)))) pa_nil))))))
  (pss_one (ps_ret (pe_make (mkProgram T) (ok_ProgramInit (RK := rTy) T (kd_type T) (kd_depthT T)) (hr.mono (by omega)) rfl (gProgram T) (B_cProgramInit T) .nil pass0 (pa_cons (pv 2) (pa_cons (pe_call (ok_Typed T) (hr.mono (by omega)) rfl (g_typed T) (D_sTyped T).kp (B_sTyped T) .nil pass0 (pa_cons (pFld K (pv 0) rfl) (pa_cons (pv 1) pa_nil))) pa_nil))))))), ?_⟩
  rintro ⟨p, tb⟩ J0 Q G ⟨v1, v2, rfl, ⟨a, dx, fv, mv, rfl, ha, ⟨lf, xf, rfl, hlf, hxf⟩, hm⟩, hd, hok, hnm⟩ kk
  dsimp only at *
  have zs := sizeLine_eq
  have hpl : p.fns.length ≤ 4 := by have := hnm.l1; simpa [typP] using this
  have hml : p.main.length ≤ 40 := by have := hnm.l2; simpa [typP] using this
  have hd0 := hd
  obtain ⟨dt, kvs, rfl, hdt, he⟩ := hd0
  walk_at "gr"
  refine k_lstM G (by decide) ?_
  intro l H1 hl hl0 ml g1 G1
  walk_at "gr"
  refine k_forL G1 hlf (fun i σ' J' H' => ∃ w w' ac, σ' = [some (.ref a), some (.ref dt), some (.ref l), w, w', none, none] ∧ Mu J' H' l (.lst ac) ∧ AllR (rFn K rTy) ((p.fns.take i).map (typF tb)) ac J') ⟨_, _, [], rfl, ml, AllR.nil⟩ ?_ ?_
  · rintro i x σ' J2 H2 hx e2 G2 ⟨w, w', ac, rfl, ml2, hac⟩
    obtain ⟨f, hf, c, fdx, pv, bv, rfl, hc, ⟨ap, px, rfl, hap, hpx⟩, hbv⟩ := hxf.at hx
    have hfm := List.mem_of_getElem? hf
    have hi : i < p.fns.length := (List.getElem?_eq_some_iff.mp hf).1
    have hal := hac.1
    rw [List.length_map, List.length_take] at hal
    walk_at "gr"
    refine k_lcFM (R := rPar rDp) (S := rPar rTy) (fun q => some (q.1, tyOf tb q.1)) G2 (by walk_at "get") (Up.up e2 hpx) (by have := (hok.l1 f hfm).1; omega) ?_ ?_
    · intro q x J3 H3 Ny Nn hq hx e3 G3 hy hn
      obtain ⟨b, kv, rfl, hb, hkv⟩ := hx
      obtain ⟨u, hu⟩ := Option.isSome_iff_exists.mp (hok.ps f hfm q hq)
      obtain ⟨v, ev, hv⟩ := he.some hu
      walk_at "gr"
      refine ⟨rfl, ?_⟩
      walk_at "gr"
      rename_i P4 J4 H4 hP4 e4 hJ4 g4 G4
      refine hy _ _ _ _ rfl g4 ⟨P4, _, rfl, hJ4, ?_⟩
      unfold tyOf
      rw [hu]
      exact Up.up ((e2.trans e3).trans e4) hv
    · intro D acc J3 H3 hD e3 hDJ hacc g3 G3
      have ml3 := ml2.up g3
      have e0 : f.ps.filterMap (fun q => some (q.1, tyOf tb q.1)) = (typF tb f).ps := by simp [typF]
      rw [e0] at hacc
      walk_at "gr"
      refine use_sp G3 (f.body, tb) ⟨_, _, rfl, Up.up (e2.trans e3) hbv, Up.up (e2.trans e3) ⟨dt, kvs, rfl, hdt, he⟩, (hok.l1 f hfm).2, hok.b f hfm⟩ (fun _ z => z.elim) ?_
      rintro bv2 J4 H4 e4 g4 G4 hbv2
      have ml4 := ml3.up g4
      walk_at "gr"
      rename_i y ydx H5 hy1 hy2 g5 G5 m5
      have ml5 := ml4.up g5
      have hly : ¬ l = y := ml4.nen hy1
      refine use_sp G5 ⟨y, f.name, (typF tb f).ps.map (upQ rTy), (typF tb f).body.map (upS rTy)⟩ ⟨_, _, _, _, rfl, rfl, rfl, rLst_Q.mpr ⟨D, acc, rfl, e4 _ _ hDJ, Up.up e4 hacc⟩, rLst_S.mpr hbv2, ?_, ?_, ?_, ?_, ydx, m5⟩ (fun b hb => .inr (by subst hb; exact hy2)) ?_
      · intro q hq
        obtain ⟨z, hz, rfl⟩ := List.mem_map.mp hq
        exact cp_Q z
      · intro q hq
        obtain ⟨z, hz, rfl⟩ := List.mem_map.mp hq
        exact cp_S z
      · show ((typF tb f).ps.map (upQ rTy)).length ≤ 1000
        have := (hok.l1 f hfm).1
        simpa [typF] using this
      · show ((typF tb f).body.map (upS rTy)).length ≤ 1000
        have := (hok.l1 f hfm).2
        simpa [typF] using this
      rintro v J6 H6 e6 g6 G6 ⟨rfl, fdx2, pv2, bv3, m6, hpv2, hbv3⟩
      dsimp only at m6 hpv2 hbv3
      have ml6 := ml5.step g6 (fun e => hly e)
      have G7 := G6.know m6.j m6.h hy2
      have e7 := ex_know (o := .ins (He.ga K "Function") fdx2 [("name", .str f.name), ("params", pv2), ("body", bv3)]) m6.j
      have ml7 := ml6.knw (o' := .ins (He.ga K "Function") fdx2 [("name", .str f.name), ("params", pv2), ("body", bv3)]) hly
      refine ⟨rfl, ?_⟩
      walk_at "gr"
      refine k_app G7 ml7 (.inr hl0) (by omega) ?_
      intro H8 g8 G8 ml8
      walk_at "gr"
      refine ⟨_, (((e2.trans e3).trans e4).trans e6).trans e7, G8, _, _, _, rfl, ml8, ?_⟩
      rw [List.take_add_one, hf]
      rw [List.map_append]
      exact (Up.up (((e3.trans e4).trans e6).trans e7) hac).snoc ⟨y, fdx2, pv2, bv3, rfl, upd_same, Up.up e7 (rLst_Q.mp hpv2), Up.up e7 (rLst_S.mp hbv3)⟩
  · rintro σ' J2 H2 e2 G2 ⟨w, w', ac, rfl, ml2, hac⟩
    rw [hxf.1, List.take_of_length_le (Nat.le_refl _)] at hac
    have G3 := G2.know ml2.j ml2.h hl0
    have e3 := ex_know (o := .lst ac) ml2.j
    walk_at "gr"
    refine use_sp G3 (p.main, tb) ⟨_, _, rfl, Up.up (e2.trans e3) hm, Up.up (e2.trans e3) ⟨dt, kvs, rfl, hdt, he⟩, hok.l2.2, hok.m⟩ (fun _ z => z.elim) ?_
    rintro mv2 J4 H4 e4 g4 G4 hmv2
    walk_at "gr"
    rename_i y ydx H5 hy1 hy2 g5 G5 m5
    refine use_sp G5 ⟨y, typP tb p⟩ ⟨_, _, _, rfl, rfl, ⟨l, ac, rfl, e4 _ _ upd_same, Up.up (e3.trans e4) hac⟩, hmv2, hnm, .inl rfl, ydx, m5⟩ (fun b hb => .inr (by subst hb; exact hy2)) ?_
    rintro v J6 H6 e6 g6 G6 ⟨rfl, pdx, fv2, mv3, m6, hfv2, hmv3⟩
    dsimp only at m6
    refine ⟨rfl, ?_⟩
    exact kk _ _ _ (G6.know m6.j m6.h hy2) ⟨y, pdx, fv2, mv3, rfl, upd_same, Up.up (ex_know m6.j) hfv2, Up.up (ex_know m6.j) hmv3⟩
end Rk
namespace Rk
open PySem PySem.Spec PyProof.Rows L2
variable {P : Program} {w : World} {K : PySem.W.Frag} {mg : Str → Option Value} {base : Heap}
/-! the law's made; function_of -/
abbrev spLawMade (K : PySem.W.Frag) : Sp := SpD (Pg Nat) (fun _ => No) (fun p vs J H => ∃ v1, vs = [v1] ∧ rLPg rDp p v1 J ∧ PgNm (fun _ => True) p ∧ PgNm (fun n => n ≤ 5) p) (fun p v J _ => rPg K rDp p v J)
theorem ok_LawMade (T : Good K mg) : FnOk P w K mg base CX0 19 (He.ga K "_law_made") (fdOf K (He.ga K "_law_made")) ["_law_p"] (spLawMade K) := by
  refine sp_ok (k := 18) (D_sLawMade T) S_sLawMade (fun a vs J H h => by obtain ⟨_, rfl, _⟩ := h; rfl) (fun cdv Ar outer s H0 vs E hr => ?_)
  refine ⟨_, (pss_cons (ps_setLc (i := 1) (own := [("_law_f", 2)]) (by rfl) S_sLawMade.nd rfl rfl (sw_true rfl rfl rfl (by decide +kernel)) (piL K (pe_ix (xL K) (pv 0) pe_int (fun _ _ => rfl))) (blkOk_by (own := [("_law_f", 2)]) (N := ["_law_p", "_law_functions", "_law_f"]) (sc := defScope sLawMade) (by decide +kernel)) (fun _ _ _ _ _ => (pg_name (i := 2) S_sLawMade.nd rfl (by first | exact Or.inl rfl | exact Or.inr rfl))) (fun _ _ _ _ _ => pts_nil) (fun _ _ _ _ _ => (pe_make (mkFunction T) (ok_FunctionInit T) (hr.mono (by omega)) rfl (gFunction T) (B_cFunctionInit T) .nil pass0 (pa_cons (pe_ix (xL K) (pv 2) pe_int (fun _ _ => rfl)) (pa_cons (pe_callTy (cList K) (by rfl) (f_list T) (show bootBuiltins "list" = some (.type "list") by decide +kernel) (pa_cons (pe_ix (xL K) (pv 2) pe_int (fun _ _ => rfl)) pa_nil)) (pa_cons (pe_callTy (cList K) (by rfl) (f_list T) (show bootBuiltins "list" = some (.type "list") by decide +kernel) (pa_cons (pe_ix (xL K) (pv 2) pe_int (fun _ _ => rfl)) pa_nil)) pa_nil))))))
  (pss_one (ps_ret (pe_make (mkProgram T) (ok_ProgramInit (RK := rDp) T (kd_typeN T) (kd_depth T)) (hr.mono (by omega)) rfl (gProgram T) (B_cProgramInit T) .nil pass0 (pa_cons (pv 1) (pa_cons (pe_callTy (cList K) (by rfl) (f_list T) (show bootBuiltins "list" = some (.type "list") by decide +kernel) (pa_cons (pe_ix (xL K) (pv 0) pe_int (fun _ _ => rfl)) pa_nil)) pa_nil)))))), ?_⟩
  rintro p J0 Q G ⟨v1, rfl, ⟨a, fv, mv, rfl, ha, ⟨lf, xf, rfl, hlf, hxf⟩, ⟨lm, xm, rfl, hlm, hxm⟩⟩, hn1, hn2⟩ kk
  have hfl := hn1.l1
  have hml := hn1.l2
  walk_at "gr"
  refine k_lcFM (R := rLFn rDp) (S := rFn K rDp) (fun f => some f) G hlf hxf (by omega) ?_ ?_
  · rintro f x J2 H2 Ny Nn hfm ⟨c, pv, bv, rfl, hc, ⟨lp, xp, rfl, hlp, hxp⟩, ⟨lb, xb, rfl, hlb, hxb⟩⟩ e2 G2 hy hn
    have hf1 := (hn1.f f hfm).l1
    have hf2 := (hn1.f f hfm).l2
    have gg : Gr No J2 H2 J2 H2 := Gr.refl G2.jh
    walk_at "gr"
    refine ⟨rfl, ?_⟩
    walk_at "gr"
    refine k_lstOf gg (.inl (G2.jh _ _ hlp)) ?_
    intro L3 J3 H3 hL3 e3 hLJ3 g3 G3
    walk_at "gr"
    refine k_lstOf G3 (.inl (by walk_at "get")) ?_
    intro L4 J4 H4 hL4 e4 hLJ4 g4 G4
    walk_at "gr"
    rename_i y ydx H5 hy1 hy2 g5 G5 m5
    refine use_sp G5 ⟨y, f.name, f.ps.map (upQ rDp), f.body.map (upS rDp)⟩ ⟨_, _, _, _, rfl, rfl, rfl, rLst_Q.mpr ⟨L3, xp, rfl, e4 _ _ hLJ3, Up.up (e3.trans e4) hxp⟩, rLst_S.mpr ⟨L4, xb, rfl, hLJ4, Up.up (e3.trans e4) hxb⟩, ?_, ?_, ?_, ?_, ydx, m5⟩ (fun b hb => .inr (by subst hb; exact hy2)) ?_
    · intro q hq
      obtain ⟨z, hz, rfl⟩ := List.mem_map.mp hq
      exact cp_Q z
    · intro q hq
      obtain ⟨z, hz, rfl⟩ := List.mem_map.mp hq
      exact cp_S z
    · show (f.ps.map (upQ rDp)).length ≤ 1000
      rw [List.length_map]; omega
    · show (f.body.map (upS rDp)).length ≤ 1000
      rw [List.length_map]; omega
    rintro v J6 H6 e6 g6 G6 ⟨rfl, fdx2, pv2, bv2, m6, hpv2, hbv2⟩
    refine ⟨rfl, ?_⟩
    exact hy _ _ _ _ rfl (G6.know m6.j m6.h hy2) ⟨y, fdx2, pv2, bv2, rfl, upd_same, Up.up (ex_know m6.j) (rLst_Q.mp hpv2), Up.up (ex_know m6.j) (rLst_S.mp hbv2)⟩
  · intro D acc J2 H2 hD e2 hDJ hacc g2 G2
    rw [List.filterMap_some] at hacc
    walk_at "gr"
    refine k_lstOf G2 (.inl (by walk_at "get")) ?_
    intro L3 J3 H3 hL3 e3 hLJ3 g3 G3
    walk_at "gr"
    rename_i y ydx H5 hy1 hy2 g5 G5 m5
    refine use_sp G5 ⟨y, p⟩ ⟨_, _, _, rfl, rfl, ⟨D, acc, rfl, e3 _ _ hDJ, Up.up e3 hacc⟩, ⟨L3, xm, rfl, hLJ3, Up.up (e2.trans e3) hxm⟩, hn1, .inr ⟨rfl, hn2⟩, ydx, m5⟩ (fun b hb => .inr (by subst hb; exact hy2)) ?_
    rintro v J6 H6 e6 g6 G6 ⟨rfl, pdx, fv2, mv3, m6, hfv2, hmv3⟩
    dsimp only at m6
    refine ⟨rfl, ?_⟩
    exact kk _ _ _ (G6.know m6.j m6.h hy2) ⟨y, pdx, fv2, mv3, rfl, upd_same, Up.up (ex_know m6.j) hfv2, Up.up (ex_know m6.j) hmv3⟩
abbrev spFunctionOf (K : PySem.W.Frag) : Sp := SpD (List (Fn Ty) × Str) (fun _ => No) (fun a vs J H => ∃ v1 v2, vs = [v1, v2] ∧ rLst (rFn K rTy) a.1 v1 J ∧ v2 = .str a.2 ∧ ∃ g, fnOf a.1 a.2 = some g) (fun a v J _ => ∃ g, fnOf a.1 a.2 = some g ∧ rFn K rTy g v J)
theorem ok_FunctionOf (T : Good K mg) : FnOk P w K mg base CX0 1 (He.ga K "function_of") (fdOf K (He.ga K "function_of")) ["functions", "name"] (spFunctionOf K) := by
  refine sp_ok (k := 0) (D_sFunctionOf T) S_sFunctionOf (fun a vs J H h => by obtain ⟨_, _, rfl, _⟩ := h; rfl) (fun cdv Ar outer s H0 vs E hr => ?_)
  refine ⟨_, (pss_cons (ps_for PassesOwn.never rfl (piL K (pv 0)) (pg_name (i := 2) S_sFunctionOf.nd rfl (by first | exact Or.inl rfl | exact Or.inr rfl))
  (pss_one (ps_if (pt_cmpR op_eq (pFld K (pv 2) rfl) (pv 1) (nomark _)) (pss_one (ps_ret (pv 2))) pss_nil)))
  (pss_one (ps_ret pe_non))), ?_⟩
  rintro ⟨fns, f⟩ J0 Q G ⟨_, _, rfl, ⟨lf, xf, rfl, hlf, hxf⟩, rfl, g, hg⟩ kk
  dsimp only at *
  walk_at "gr"
  refine k_forL G hlf (fun i σ' J' H' => ∃ w, σ' = [some (.ref lf), some (.str f), w] ∧ fnOf fns f = fnOf (fns.drop i) f) ⟨_, rfl, by rw [List.drop_zero]⟩ ?_ ?_
  · rintro i x σ' J2 H2 hx e2 G2 ⟨w, rfl, hd⟩
    obtain ⟨h, hh, hr⟩ := hxf.at hx
    have hi : i < fns.length := (List.getElem?_eq_some_iff.mp hh).1
    have hdr : fns.drop i = h :: fns.drop (i + 1) := by
      rw [← (List.getElem?_eq_some_iff.mp hh).2]; exact List.drop_eq_getElem_cons hi
    rw [hdr] at hd
    have hr2 := Up.up e2 hr
    obtain ⟨c, fdx, pv, bv, rfl, hc, hpv, hbv⟩ := hr
    walk_at "gr"
    refine if2 (fun q => ?_) (fun q => ?_)
    · have q2 : h.name = f := by simpa using q
      walk_at "gr"
      refine kk _ _ _ G2 ⟨h, ?_, hr2⟩
      rw [hd]
      unfold fnOf
      rw [List.find?_cons, decide_eq_true q2]
    · have q2 : ¬ h.name = f := by simpa using q
      walk_at "gr"
      refine ⟨_, e2, G2, _, rfl, ?_⟩
      rw [hd]
      unfold fnOf
      rw [List.find?_cons, decide_eq_false q2]
  · rintro σ' J2 H2 e2 G2 ⟨w, rfl, hd⟩
    rw [hxf.1, List.drop_of_length_le (Nat.le_refl _)] at hd
    rw [hg] at hd
    cases hd
end Rk
namespace Rk
open PySem PySem.Spec PyProof.Rows L2
variable {P : Program} {w : World} {K : PySem.W.Frag} {mg : Str → Option Value} {base : Heap}
/-! judging, where there is no fault -/
abbrev spConversionFault : Sp := SpD (Ty × Ty) (fun _ => No) (fun a vs J _ => ∃ v1 v2 v3, vs = [v1, v2, v3] ∧ rTy a.1 v1 J ∧ rTy a.2 v2 J ∧ cvF a.1 a.2 = none) (fun a v _ _ => v = .non)
theorem cvF_none {a u : Ty} (h : cvF a u = none) : a.length = u.length ∧ conv a u = true := by
  unfold cvF at h
  by_cases q : a.length = u.length
  · rw [if_pos q] at h
    by_cases q2 : conv a u = true
    · exact ⟨q, q2⟩
    · rw [if_neg q2] at h; cases h
  · rw [if_neg q] at h; cases h
theorem ok_ConversionFault (T : Good K mg) : FnOk P w K mg base CX0 10 (He.ga K "_conversion_fault") (fdOf K (He.ga K "_conversion_fault")) ["one", "two", "extra"] spConversionFault := by
  refine sp_ok (k := 9) (D_sConversionFault T) S_sConversionFault (fun a vs J H h => by obtain ⟨_, _, _, rfl, _⟩ := h; rfl) (fun cdv Ar outer s H0 vs E hr => ?_)
  refine ⟨_, (pss_cons (ps_if (pt_cmpR op_ne (pe_callB (cLen K) (by rfl) (f_len T) (show bootBuiltins "len" = some (.builtin "len") by decide +kernel) (pa_cons (pv 0) pa_nil)) (pe_callB (cLen K) (by rfl) (f_len T) (show bootBuiltins "len" = some (.builtin "len") by decide +kernel) (pa_cons (pv 1) pa_nil)) (nomark _)) (pss_one (ps_ret pe_str)) pss_nil)
  (pss_cons (ps_if (PW.pt (pw_or (pt_val (pe_call (ok_Converts T) (hr.mono (by omega)) rfl (gconverts T) (D_sConverts T).kp (B_sConverts T) .nil pass0 (pa_cons (pv 0) (pa_cons (pv 1) pa_nil)))) (pw_or1 (pt_cmpR (oInSeq K) (pe_tup (pa_cons (pv 0) (pa_cons (pv 1) pa_nil))) (pv 2) (by rfl))))) (pss_one (ps_ret pe_non)) pss_nil)
  (pss_one (ps_ret pe_str)))), ?_⟩
  rintro ⟨x, y⟩ J0 Q G ⟨_, _, v3, rfl, ⟨a, rfl, ha, hla⟩, ⟨b, rfl, hb, hlb⟩, hc⟩ kk
  dsimp only at *
  obtain ⟨hl, hc⟩ := cvF_none hc
  walk_at "gr"
  rw [List.length_map, List.length_map, hl]
  refine ifF (by simp) ?_
  walk_at "gr"
  refine use_sp G (x, y) ⟨_, _, rfl, ⟨a, rfl, ha, hla⟩, ⟨b, rfl, hb, hlb⟩⟩ (fun _ z => z.elim) ?_
  rintro v J1 H1 e1 g1 G1 hv
  dsimp only at hv
  rw [hc] at hv
  subst hv
  walk_at "gr"
  exact kk _ _ _ G1 rfl
def pyTy (t : Ty) : PyData := .tuple (t.map PyData.str)
theorem dp_strs {J H : Hp} : ∀ (t : Ty), DpAll K H (t.map V.str) (t.map PyData.str)
  | [] => .nil
  | s :: t => .cons (.str s) (dp_strs (J := J) t)
theorem dp_ty {J H : Hp} (e : Ex J H) {t : Ty} {v : V} (h : rTy t v J) : Dp K H v (pyTy t) := by
  obtain ⟨a, rfl, ha, _⟩ := h
  exact .tup (SqT.of (e _ _ ha)) (dp_strs (J := J) t)
theorem sOk_rt {s : Str} (h : IsRt s) : sOk s := by
  unfold sOk
  rcases h with rfl | rfl | rfl | rfl <;> decide +kernel
theorem lay_strs {t : Ty} (h : ∀ s ∈ t, sOk s) : PyData.canLayAll0 (t.map PyData.str) = true := lay_all (f := PyData.str) fun s hs => h s hs
theorem shaped_ty {t : Ty} (h : ∀ s ∈ t, sOk s) : SeqAt.shaped (pyTy t) = true := by
  refine shaped_of (by unfold pyTy; simp only [PyData.canLay0]; exact lay_strs h) ?_
  unfold pyTy
  simp only [PyData.depth]
  have := dep_all (f := PyData.str) (n := 0) (ds := t) fun s _ => by simp [PyData.depth]
  omega
theorem eqv_ty0 (t : Ty) : PyData.eqv (pyTy t) (pyTy []) = decide (t.length = 0) := by
  cases t <;> simp [pyTy, PyData.eqv, PyData.eqvAll]
abbrev spSourceFault : Sp := SpD (Tys × Src × Ty) (fun _ => No) (fun a vs J _ => ∃ v1 v2 v3 v4, vs = [v1, v2, v3, v4] ∧ rDic rTy a.1 v1 J ∧ rSrc a.2.1 v2 J ∧ rTy a.2.2 v3 J ∧ AllRt a.2.2 ∧ srcF a.1 a.2.1 a.2.2 = none) (fun a v _ _ => v = .non)
theorem srcF_valN {ts : Tys} {x : Str} {k : Nat} {u : Ty} (h : srcF ts (.val x k) u = none) : reached ts x k = none ∧ rd ((tyOf ts x).getD k "") = true ∧ cvF ((tyOf ts x).drop (k + 1)) u = none := by
  unfold srcF at h
  dsimp only at h
  cases er : reached ts x k with
  | some e => rw [er] at h; cases h
  | none =>
    rw [er] at h
    dsimp only at h
    by_cases q : rd ((tyOf ts x).getD k "") = true
    · rw [if_pos q] at h
      exact ⟨rfl, q, h⟩
    · rw [if_neg q] at h; cases h
theorem srcF_adrN {ts : Tys} {x : Str} {k : Nat} {u : Ty} (h : srcF ts (.adr x k) u = none) : reached ts x k = none ∧ cvF ((tyOf ts x).drop k) u = none := by
  unfold srcF at h
  dsimp only at h
  cases er : reached ts x k with
  | some e => rw [er] at h; cases h
  | none => rw [er] at h; exact ⟨rfl, h⟩
theorem tyOf_of {ts : Tys} {x : Str} {t : Ty} (h : ts.lookup x = some t) : tyOf ts x = t := by unfold tyOf; rw [h]; rfl
theorem ok_SourceFault (T : Good K mg) : FnOk P w K mg base CX0 11 (He.ga K "source_fault") (fdOf K (He.ga K "source_fault")) ["known", "source", "wanted", "extra"] spSourceFault := by
  refine sp_ok (k := 10) (D_sSourceFault T) S_sSourceFault (fun a vs J H h => by obtain ⟨_, _, _, _, rfl, _⟩ := h; rfl) (fun cdv Ar outer s H0 vs E hr => ?_)
  refine ⟨_, (pss_cons (ps_if (pt_cmpR op_eq (pe_ix (xT K) (pv 1) pe_int (fun _ _ => rfl)) pe_str (nomark _)) (pss_one (ps_ret (pe_ifExp (pt_cmpR (oEqD K hr.units) (pv 2) (pe_tup pa_nil) (nomark _)) pe_non pe_str))) pss_nil)
  (pss_cons (ps_if (pt_cmpR op_eq (pe_ix (xT K) (pv 1) pe_int (fun _ _ => rfl)) pe_str (nomark _)) (pss_one (ps_ret (pe_ifExp (pt_cmpR (oNeD K hr.units) (pv 2) (pe_tup pa_nil) (nomark _)) pe_non pe_str))) pss_nil)
  (pss_cons (ps_set (i := 4) S_sSourceFault.nd rfl (by first | exact Or.inl rfl | exact Or.inr rfl) (pe_call (ok_PlaceFault T) (hr.mono (by omega)) rfl (gplace_fault T) (D_sPlaceFault T).kp (B_sPlaceFault T) .nil pass0 (pa_cons (pv 0) (pa_cons (pe_ix (xT K) (pv 1) pe_int (fun _ _ => rfl)) pa_nil))))
  (pss_cons (ps_if (pt_cmpR o_notN (pv 4) pe_non (nomark _)) (pss_one (ps_ret (pv 4))) pss_nil)
  (pss_cons (ps_set (i := 5) S_sSourceFault.nd rfl (by first | exact Or.inl rfl | exact Or.inr rfl) (pe_call (ok_SeenType T) (hr.mono (by omega)) rfl (gseen_type T) (D_sSeenType T).kp (B_sSeenType T) .nil pass0 (pa_cons (pv 0) (pa_cons (pe_ix (xT K) (pv 1) pe_int (fun _ _ => rfl)) pa_nil))))
  (pss_cons (ps_if (pt_cmpR op_eq (pe_ix (xT K) (pv 1) pe_int (fun _ _ => rfl)) pe_str (nomark _)) (pss_one (ps_ret (pe_call (ok_ConversionFault T) (hr.mono (by omega)) rfl (g_conversion_fault T) (D_sConversionFault T).kp (B_sConversionFault T) .nil pass0 (pa_cons (pv 5) (pa_cons (pv 2) (pa_cons (pv 3) pa_nil)))))) pss_nil)
  (pss_cons (ps_if (pt_cmpR o_ninS pe_str (pe_ix (xT K) (pv 5) pe_int (fun _ _ => rfl)) (by rfl)) (pss_one (ps_ret pe_str)) pss_nil)
  (pss_one (ps_ret (pe_call (ok_ConversionFault T) (hr.mono (by omega)) rfl (g_conversion_fault T) (D_sConversionFault T).kp (B_sConversionFault T) .nil pass0 (pa_cons (pe_slice (sTA K) (pv 5) (po_some pe_int) po_none) (pa_cons (pv 2) (pa_cons (pv 3) pa_nil))))))))))))), ?_⟩
  rintro ⟨ts, s, u⟩ J0 Q G ⟨v1, v2, v3, v4, rfl, hd, hs, hu, hrt, hf⟩ kk
  dsimp only at *
  have hsp := shaped_ty fun s hs => sOk_rt (hrt s hs)
  have hs0 := shaped_ty (t := []) fun s hs => by cases hs
  cases s with
  | num n =>
    obtain ⟨c, rfl, hc⟩ := hs
    have hl : u.length = 0 := by
      unfold srcF at hf
      by_cases q : u.length = 0
      · exact q
      · simp only [if_neg q] at hf; cases hf
    walk_at "gr"
    rename_i P1 J1 H1 hP1 e1 hJ1 g1 G1
    refine k_eqD (dp_ty G1.jh (Up.up e1 hu)) (dp_ty (t := []) G1.jh ⟨P1, rfl, hJ1, Nat.zero_le _⟩) hsp hs0 ?_
    rw [eqv_ty0, decide_eq_true hl]
    walk_at "gr"
    exact kk _ _ _ G1 rfl
  | null =>
    obtain ⟨c, rfl, hc⟩ := hs
    have hl : ¬ u.length = 0 := by
      intro q
      unfold srcF at hf
      simp only [if_pos q] at hf; cases hf
    walk_at "gr"
    rename_i P1 J1 H1 hP1 e1 hJ1 g1 G1
    refine k_neD (dp_ty G1.jh (Up.up e1 hu)) (dp_ty (t := []) G1.jh ⟨P1, rfl, hJ1, Nat.zero_le _⟩) hsp hs0 ?_
    rw [eqv_ty0, decide_eq_false hl]
    walk_at "gr"
    exact kk _ _ _ G1 rfl
  | val x k =>
    obtain ⟨a, b, rfl, ha, hb⟩ := hs
    obtain ⟨hr, hrd, hcv⟩ := srcF_valN hf
    obtain ⟨t, et, hk, hall⟩ := reached_none hr
    rw [tyOf_of et] at hrd hcv
    walk_at "gr"
    refine use_sp G (ts, x, k) ⟨_, _, rfl, hd, ⟨b, rfl, hb⟩, hr⟩ (fun _ z => z.elim) ?_
    rintro v J1 H1 e1 g1 G1 rfl
    walk_at "gr"
    refine use_sp G1 (ts, x, k) ⟨_, _, rfl, Up.up e1 hd, ⟨b, rfl, e1 _ _ hb⟩, by show (ts.lookup x).isSome = true; rw [et]; rfl⟩ (fun _ z => z.elim) ?_
    rintro v J2 H2 e2 g2 G2 ⟨c, rfl, hc, hcl⟩
    dsimp only at hc hcl
    rw [tyOf_of et] at hc hcl
    have hdr : t.drop k = t.getD k "" :: t.drop (k + 1) := by
      rw [List.drop_eq_getElem_cons hk]
      simp [List.getD, List.getElem?_eq_getElem hk]
    rw [hdr, List.map_cons] at hc
    walk_at "gr"
    refine ifF (by have h : hasS "r" (t.getD k "") = true := hrd; rw [h]; rfl) ?_
    walk_at "gr"
    rename_i P3 J3 H3 e3 hJ3 g3 G3
    refine use_sp G3 (t.drop (k + 1), u) ⟨_, _, _, rfl, ⟨P3, rfl, hJ3, by rw [List.length_drop] at hcl ⊢; omega⟩, Up.up ((e1.trans e2).trans e3) hu, hcv⟩ (fun _ z => z.elim) ?_
    rintro v J4 H4 e4 g4 G4 rfl
    exact kk _ _ _ G4 rfl
  | adr x k =>
    obtain ⟨a, b, rfl, ha, hb⟩ := hs
    obtain ⟨hr, hcv⟩ := srcF_adrN hf
    obtain ⟨t, et, hk, hall⟩ := reached_none hr
    walk_at "gr"
    refine use_sp G (ts, x, k) ⟨_, _, rfl, hd, ⟨b, rfl, hb⟩, hr⟩ (fun _ z => z.elim) ?_
    rintro v J1 H1 e1 g1 G1 rfl
    walk_at "gr"
    refine use_sp G1 (ts, x, k) ⟨_, _, rfl, Up.up e1 hd, ⟨b, rfl, e1 _ _ hb⟩, by show (ts.lookup x).isSome = true; rw [et]; rfl⟩ (fun _ z => z.elim) ?_
    rintro v J2 H2 e2 g2 G2 hv
    dsimp only at hv
    walk_at "gr"
    refine use_sp G2 ((tyOf ts x).drop k, u) ⟨_, _, _, rfl, hv, Up.up (e1.trans e2) hu, hcv⟩ (fun _ z => z.elim) ?_
    rintro v J4 H4 e4 g4 G4 rfl
    exact kk _ _ _ G4 rfl
abbrev spPutFault : Sp := SpD (Tys × Str × Nat × Src) (fun _ => No) (fun a vs J _ => ∃ v1 v2 v3 v4, vs = [v1, v2, v3, v4] ∧ rDic rTy a.1 v1 J ∧ rPl (a.2.1, a.2.2.1) v2 J ∧ rSrc a.2.2.2 v3 J ∧ TysRt a.1 ∧ putF1 a.1 a.2.1 a.2.2.1 a.2.2.2 = none) (fun a v _ _ => v = .non)
theorem putF_N {ts : Tys} {x : Str} {k : Nat} {s : Src} (h : putF1 ts x k s = none) : reached ts x k = none ∧ wr ((tyOf ts x).getD k "") = true ∧ srcF ts s ((tyOf ts x).drop (k + 1)) = none := by
  unfold putF1 at h
  cases er : reached ts x k with
  | some e => rw [er] at h; cases h
  | none =>
    rw [er] at h
    dsimp only at h
    by_cases q : wr ((tyOf ts x).getD k "") = true
    · rw [if_pos q] at h
      exact ⟨rfl, q, h⟩
    · rw [if_neg q] at h; cases h
theorem ok_PutFault (T : Good K mg) : FnOk P w K mg base CX0 12 (He.ga K "_put_fault") (fdOf K (He.ga K "_put_fault")) ["known", "place", "source", "extra"] spPutFault := by
  refine sp_ok (k := 11) (D_sPutFault T) S_sPutFault (fun a vs J H h => by obtain ⟨_, _, _, _, rfl, _⟩ := h; rfl) (fun cdv Ar outer s H0 vs E hr => ?_)
  refine ⟨_, (pss_cons (ps_set (i := 4) S_sPutFault.nd rfl (by first | exact Or.inl rfl | exact Or.inr rfl) (pe_call (ok_PlaceFault T) (hr.mono (by omega)) rfl (gplace_fault T) (D_sPlaceFault T).kp (B_sPlaceFault T) .nil pass0 (pa_cons (pv 0) (pa_cons (pv 1) pa_nil))))
  (pss_cons (ps_if (pt_cmpR o_notN (pv 4) pe_non (nomark _)) (pss_one (ps_ret (pv 4))) pss_nil)
  (pss_cons (ps_set (i := 5) S_sPutFault.nd rfl (by first | exact Or.inl rfl | exact Or.inr rfl) (pe_call (ok_SeenType T) (hr.mono (by omega)) rfl (gseen_type T) (D_sSeenType T).kp (B_sSeenType T) .nil pass0 (pa_cons (pv 0) (pa_cons (pv 1) pa_nil))))
  (pss_cons (ps_if (pt_cmpR o_ninS pe_str (pe_ix (xT K) (pv 5) pe_int (fun _ _ => rfl)) (by rfl)) (pss_one (ps_ret pe_str)) pss_nil)
  (pss_one (ps_ret (pe_call (ok_SourceFault T) (hr.mono (by omega)) rfl (gsource_fault T) (D_sSourceFault T).kp (B_sSourceFault T) .nil pass0 (pa_cons (pv 0) (pa_cons (pv 2) (pa_cons (pe_slice (sTA K) (pv 5) (po_some pe_int) po_none) (pa_cons (pv 3) pa_nil))))))))))), ?_⟩
  rintro ⟨ts, x, k, s⟩ J0 Q G ⟨v1, _, v3, v4, rfl, hd, ⟨b, rfl, hb⟩, hs, hrt, hf⟩ kk
  dsimp only at *
  obtain ⟨hr, hwr, hf⟩ := putF_N hf
  obtain ⟨t, et, hk, hall⟩ := reached_none hr
  rw [tyOf_of et] at hwr hf
  walk_at "gr"
  refine use_sp G (ts, x, k) ⟨_, _, rfl, hd, ⟨b, rfl, hb⟩, hr⟩ (fun _ z => z.elim) ?_
  rintro v J1 H1 e1 g1 G1 rfl
  walk_at "gr"
  refine use_sp G1 (ts, x, k) ⟨_, _, rfl, Up.up e1 hd, ⟨b, rfl, e1 _ _ hb⟩, by show (ts.lookup x).isSome = true; rw [et]; rfl⟩ (fun _ z => z.elim) ?_
  rintro v J2 H2 e2 g2 G2 ⟨c, rfl, hc, hcl⟩
  dsimp only at hc hcl
  rw [tyOf_of et] at hc hcl
  have hdr : t.drop k = t.getD k "" :: t.drop (k + 1) := by
    rw [List.drop_eq_getElem_cons hk]
    simp [List.getD, List.getElem?_eq_getElem hk]
  rw [hdr, List.map_cons] at hc
  walk_at "gr"
  refine ifF (by have h : hasS "w" (t.getD k "") = true := hwr; rw [h]; rfl) ?_
  walk_at "gr"
  rename_i P3 J3 H3 e3 hJ3 g3 G3
  refine use_sp G3 (ts, s, t.drop (k + 1)) ⟨_, _, _, _, rfl, Up.up ((e1.trans e2).trans e3) hd, Up.up ((e1.trans e2).trans e3) hs, ⟨P3, rfl, hJ3, by rw [List.length_drop] at hcl ⊢; omega⟩, (hrt.at et).1.drop _, hf⟩ (fun _ z => z.elim) ?_
  rintro v J4 H4 e4 g4 G4 rfl
  exact kk _ _ _ G4 rfl
end Rk
namespace Rk
open PySem PySem.Spec PyProof.Rows L2
variable {P : Program} {w : World} {K : PySem.W.Frag} {mg : Str → Option Value} {base : Heap}
/-! judging statements, blocks, programs -/
abbrev spStatementFault (K : PySem.W.Frag) : Sp := SpD (Tys × List (Fn Ty) × Stm Ty) (fun _ => No) (fun a vs J _ => ∃ v1 v2 v3 v4, vs = [v1, v2, v3, v4] ∧ rLst (rFn K rTy) a.2.1 v1 J ∧ rDic rTy a.1 v2 J ∧ rStm rTy a.2.2 v3 J ∧ TysRt a.1 ∧ StOk a.1 a.2.1 a.2.2 ∧ stmF a.1 a.2.1 a.2.2 = none) (fun a v _ _ => v = .non)
theorem ok_StatementFault (T : Good K mg) : FnOk P w K mg base CX0 13 (He.ga K "statement_fault") (fdOf K (He.ga K "statement_fault")) ["functions", "known", "statement", "extra"] (spStatementFault K) := by
  refine sp_ok (k := 12) (D_sStatementFault T) S_sStatementFault (fun a vs J H h => by obtain ⟨_, _, _, _, rfl, _⟩ := h; rfl) (fun cdv Ar outer s H0 vs E hr => ?_)
  refine ⟨_, (pss_cons (ps_if (pt_cmpR op_eq (pe_ix (xT K) (pv 2) pe_int (fun _ _ => rfl)) pe_str (nomark _)) (pss_one (ps_ret (pe_call (ok_SourceFault T) (hr.mono (by omega)) rfl (gsource_fault T) (D_sSourceFault T).kp (B_sSourceFault T) .nil pass0 (pa_cons (pv 1) (pa_cons (pe_ix (xT K) (pv 2) pe_int (fun _ _ => rfl)) (pa_cons (pe_slice (sTA K) (pe_ix (xT K) (pv 2) pe_int (fun _ _ => rfl)) (po_some pe_int) po_none) (pa_cons (pv 3) pa_nil))))))) pss_nil)
  (pss_cons (ps_if (pt_cmpR op_eq (pe_ix (xT K) (pv 2) pe_int (fun _ _ => rfl)) pe_str (nomark _)) (pss_one (ps_ret (pe_call (ok_PutFault T) (hr.mono (by omega)) rfl (g_put_fault T) (D_sPutFault T).kp (B_sPutFault T) .nil pass0 (pa_cons (pv 1) (pa_cons (pe_ix (xT K) (pv 2) pe_int (fun _ _ => rfl)) (pa_cons (pe_ix (xT K) (pv 2) pe_int (fun _ _ => rfl)) (pa_cons (pv 3) pa_nil))))))) pss_nil)
  (pss_cons (ps_set (i := 4) S_sStatementFault.nd rfl (by first | exact Or.inl rfl | exact Or.inr rfl) (pe_call (ok_FunctionOf T) (hr.mono (by omega)) rfl (gfunction_of T) (D_sFunctionOf T).kp (B_sFunctionOf T) .nil pass0 (pa_cons (pv 0) (pa_cons (pe_ix (xT K) (pv 2) pe_int (fun _ _ => rfl)) pa_nil))))
  (pss_cons (ps_for PassesOwn.never rfl (piZ K (by rfl) (f_zip T) (pa_cons (pFld K (pv 4) rfl) (pa_cons (pe_ix (xT K) (pv 2) pe_int (fun _ _ => rfl)) pa_nil))) (pgT K (n := 2) rfl (pgs_cons (pgT K (n := 2) rfl (pgs_cons (pg_name (i := 5) S_sStatementFault.nd rfl (by first | exact Or.inl rfl | exact Or.inr rfl)) (pgs_cons (pg_name (i := 6) S_sStatementFault.nd rfl (by first | exact Or.inl rfl | exact Or.inr rfl)) pgs_nil))) (pgs_cons (pg_name (i := 7) S_sStatementFault.nd rfl (by first | exact Or.inl rfl | exact Or.inr rfl)) pgs_nil)))
  (pss_cons (ps_set (i := 8) S_sStatementFault.nd rfl (by first | exact Or.inl rfl | exact Or.inr rfl) (pe_call (ok_SourceFault T) (hr.mono (by omega)) rfl (gsource_fault T) (D_sSourceFault T).kp (B_sSourceFault T) .nil pass0 (pa_cons (pv 1) (pa_cons (pv 7) (pa_cons (pe_slice (sTA K) (pv 6) (po_some pe_int) po_none) (pa_cons (pv 3) pa_nil))))))
  (pss_one (ps_if (pt_cmpR o_notN (pv 8) pe_non (nomark _)) (pss_one (ps_ret (pv 8))) pss_nil))))
  (pss_one (ps_ret pe_non)))))), ?_⟩
  rintro ⟨ts, fns, st⟩ J0 Q G ⟨v1, v2, v3, v4, rfl, hF, hT, hS, hts, hok, hf⟩ kk
  dsimp only at *
  cases st with
  | lt x t s =>
    obtain ⟨a, kv, sv, rfl, ha, ⟨b, rfl, hb, hbl⟩, hs⟩ := hS
    walk_at "gr"
    rename_i P1 J1 H1 e1 hJ1 g1 G1
    refine use_sp G1 (ts, s, t.drop 1) ⟨_, _, _, _, rfl, Up.up e1 hT, Up.up e1 hs, ⟨P1, rfl, by rw [List.map_drop]; exact hJ1, by rw [List.length_drop]; omega⟩, hok.1.drop 1, hf⟩ (fun _ z => z.elim) ?_
    rintro v J2 H2 e2 g2 G2 rfl
    exact kk _ _ _ G2 rfl
  | pt x k s =>
    obtain ⟨a, b, sv, rfl, ha, hb, hs⟩ := hS
    walk_at "gr"
    refine use_sp G (ts, x, k, s) ⟨_, _, _, _, rfl, hT, ⟨b, rfl, hb⟩, hs, hts, hf⟩ (fun _ z => z.elim) ?_
    rintro v J2 H2 e2 g2 G2 rfl
    exact kk _ _ _ G2 rfl
  | cl f ss =>
    obtain ⟨a, l, xs, rfl, ha, hl, hs⟩ := hS
    obtain ⟨g, hg, hlen, hl4, hok⟩ := hok
    have hf : argF ts ((fnOf fns f).map (·.ps) |>.getD []) ss = none := hf
    rw [hg] at hf
    have hf : argF ts g.ps ss = none := hf
    walk_at "gr"
    refine use_sp G (fns, f) ⟨_, _, rfl, hF, rfl, g, hg⟩ (fun _ z => z.elim) ?_
    rintro v J1 H1 e1 g1 G1 ⟨g', hg', hr⟩
    dsimp only at hg' hr
    rw [hg] at hg'
    cases hg'
    obtain ⟨c, fdx, pv, bv, rfl, hc, ⟨lp, xp, rfl, hlp, hxp⟩, hbv⟩ := hr
    walk_at "gr"
    refine k_forP (walk_zip (K := K) (a := lp) (b := l) (xs := xp) (ys := xs) (n := g.ps.length) (by rw [hxp.1, hs.1, hlen]; simp)) G1 (fun i σ' J' H' => ∃ w5 w6 w7 w8, σ' = [some v1, some v2, some (.ref a), some v4, some (.ref c), w5, w6, w7, w8]) ⟨_, _, _, _, rfl⟩ (fun J' H' e e' => ⟨SqL.of (e' _ _ (e _ _ hlp)), SqL.of (e' _ _ (e _ _ (e1 _ _ hl)))⟩) (fun i σ' _ _ _ _ _ z => z) ?_ ?_
    · rintro i x y T8 σ' J2 H2 hi hx hy e2 G2 hT8 ⟨w5, w6, w7, w8, rfl⟩
      obtain ⟨q, hq, cp, kv, rfl, hcp, kp, rfl, hkp, hkl⟩ := hxp.at hx
      obtain ⟨s, hsi, hsr⟩ := hs.at hy
      obtain ⟨o1, o2⟩ := hok i _ _ hq hsi
      have hsf := argF_none hf i q s hq hsi
      walk_at "gr"
      rename_i P3 J3 H3 e3 hJ3 g3 G3
      refine use_sp G3 (ts, s, q.2.drop 1) ⟨_, _, _, _, rfl, Up.up ((e1.trans e2).trans e3) hT, Up.up ((e1.trans e2).trans e3) hsr, ⟨P3, rfl, by rw [List.map_drop]; exact hJ3, by rw [List.length_drop]; omega⟩, o1.drop 1, hsf⟩ (fun _ z => z.elim) ?_
      rintro v J4 H4 e4 g4 G4 rfl
      walk_at "gr"
      exact ⟨_, (e2.trans e3).trans e4, G4, _, _, _, _, rfl⟩
    · rintro σ' J2 H2 e2 G2 ⟨w5, w6, w7, w8, rfl⟩
      walk_at "gr"
      exact kk _ _ _ G2 rfl
/-- no statement of a block has a fault -/
def BlkZ (fns : List (Fn Ty)) : Tys → List (Stm Ty) → Prop
  | _, [] => True
  | ts, st :: r => stmF ts fns st = none ∧ BlkZ fns (grow ts st) r
theorem blkZ_of {fns : List (Fn Ty)} {f : Str} : ∀ {b : List (Stm Ty)} {ts : Tys} {k : Nat}, blkF fns f ts b k = [] → BlkZ fns ts b
  | [], _, _, _ => trivial
  | st :: r, ts, k, h => by
    unfold blkF at h
    obtain ⟨h1, h2⟩ := List.append_eq_nil_iff.mp h
    refine ⟨?_, blkZ_of h2⟩
    cases e : stmF ts fns st with
    | none => rfl
    | some z => rw [e] at h1; cases h1
structure BfD where
  ts : Tys
  fns : List (Fn Ty)
  blk : List (Stm Ty)
  d : Addr
  hh : Hp
abbrev spBlockFaults (K : PySem.W.Frag) : Sp := SpD BfD (fun a b => b = a.d) (fun a vs J H => ∃ v1 v2 v3 v4 v5, vs = [v1, v2, v3, v4, v5] ∧ v3 = .ref a.d ∧ (∃ kvs, Mu J H a.d (.dK kvs) ∧ EntR rTy a.ts kvs J) ∧
  rLst (rFn K rTy) a.fns v1 J ∧ rLst (rStm rTy) a.blk v4 J ∧ TysRt a.ts ∧ BlkOk a.fns a.ts a.blk ∧ BlkZ a.fns a.ts a.blk ∧ a.blk.length ≤ 1000 ∧ a.ts.length ≤ 1000 ∧ a.hh = H) (fun a v J H => ∃ l, v = .ref l ∧ a.hh l = none ∧ Mu J H l (.lst []))
theorem ok_BlockFaults (T : Good K mg) : FnOk P w K mg base CX0 14 (He.ga K "block_faults") (fdOf K (He.ga K "block_faults")) ["functions", "name", "known", "statements", "extra"] (spBlockFaults K) := by
  refine sp_ok (k := 13) (D_sBlockFaults T) S_sBlockFaults (fun a vs J H h => by obtain ⟨_, _, _, _, _, rfl, _⟩ := h; rfl) (fun cdv Ar outer s H0 vs E hr => ?_)
  refine ⟨_, (pss_cons (ps_set (i := 5) S_sBlockFaults.nd rfl (by first | exact Or.inl rfl | exact Or.inr rfl) (pe_lst pa_nil))
  (pss_cons (ps_for PassesOwn.never rfl (piE K (by rfl) (f_enumerate T) (pa_cons (pv 3) pa_nil)) (pgT K (n := 2) rfl (pgs_cons (pg_name (i := 6) S_sBlockFaults.nd rfl (by first | exact Or.inl rfl | exact Or.inr rfl)) (pgs_cons (pg_name (i := 7) S_sBlockFaults.nd rfl (by first | exact Or.inl rfl | exact Or.inr rfl)) pgs_nil)))
  (pss_cons (ps_set (i := 8) S_sBlockFaults.nd rfl (by first | exact Or.inl rfl | exact Or.inr rfl) (pe_call (ok_StatementFault T) (hr.mono (by omega)) rfl (gstatement_fault T) (D_sStatementFault T).kp (B_sStatementFault T) .nil pass0 (pa_cons (pv 0) (pa_cons (pv 2) (pa_cons (pv 7) (pa_cons (pv 4) pa_nil))))))
  (pss_cons (ps_if (pt_cmpR o_notN (pv 8) pe_non (nomark _)) (pss_one (ps_expr (pe_bm PySem.F.plainAttrs_list PySem.F.slot_list_append PySem.F.type_list_append mt_append (pv 5) (pa_cons (pe_tup (pa_cons (pv 1) (pa_cons (pv 6) (pa_cons (pv 8) pa_nil)))) pa_nil)))) pss_nil)
  (pss_one (ps_if (pt_cmpR op_eq (pe_ix (xT K) (pv 7) pe_int (fun _ _ => rfl)) pe_str (nomark _)) (pss_one (ps_dput (hu_of hr) (pv 2) (pe_ix (xT K) (pv 7) pe_int (fun _ _ => rfl)) (pe_ix (xT K) (pv 7) pe_int (fun _ _ => rfl)) rfl)) pss_nil)))))
  (pss_one (ps_ret (pv 5))))), ?_⟩
  rintro ⟨ts, fns, blk, d, hh⟩ J0 Q G ⟨v1, v2, _, v4, v5, rfl, rfl, ⟨kvs, md, he⟩, hF, ⟨b, xs, rfl, hb, hB⟩, hts, hok, hz, hl1, hl2, rfl⟩ kk
  dsimp only at *
  have zs := sizeLine_eq
  walk_at "gr"
  refine k_lstM G (by decide) ?_
  intro l H1 hl hl0 ml g1 G1
  have md1 := md.up g1
  have hdl : ¬ d = l := md.nen hl
  walk_at "gr"
  refine k_forP (walk_enum (K := K) (a := b) (xs := xs)) G1 (fun i σ' J' H' => ∃ w6 w7 w8 ti kv, σ' = [some v1, some v2, some (.ref d), some (.ref b), some v5, some (.ref l), w6, w7, w8] ∧ Mu J' H' d (.dK kv) ∧ EntR rTy ti kv J' ∧ Mu J' H' l (.lst []) ∧ TysRt ti ∧ BlkOk fns ti (blk.drop i) ∧ BlkZ fns ti (blk.drop i) ∧ ti.length ≤ 1000 + i)
    ⟨_, _, _, ts, kvs, rfl, md1, he, ml, hts, by rw [List.drop_zero]; exact hok, by rw [List.drop_zero]; exact hz, by omega⟩ (fun J' H' e e' => SqL.of (e' _ _ (e _ _ hb))) ?_ ?_ ?_
  · rintro i σ' J2 H2 J3 H3 g ⟨w6, w7, w8, ti, kv, rfl, md2, he2, ml2, h⟩
    exact ⟨w6, w7, w8, ti, kv, rfl, md2.up g, Up.up g.jj he2, ml2.up g, h⟩
  · rintro i x y T8 σ' J2 H2 hi hx hy e2 G2 hT8 ⟨w6, w7, w8, ti, kv, rfl, md2, he2, ml2, hti, hbo, hbz, hl3⟩
    obtain rfl : V.int (i : Int) = x := Option.some.inj hx
    obtain ⟨st, hst, hsr⟩ := hB.at hy
    have hi2 : i < blk.length := (List.getElem?_eq_some_iff.mp hst).1
    have hdr : blk.drop i = st :: blk.drop (i + 1) := by
      rw [← (List.getElem?_eq_some_iff.mp hst).2]; exact List.drop_eq_getElem_cons hi2
    rw [hdr] at hbo hbz
    obtain ⟨ho1, ho2, ho3⟩ := hbo
    obtain ⟨hz1, hz2⟩ := hbz
    walk_at "gr"
    refine use_spS G2 (ti, fns, st) ⟨_, _, _, _, rfl, Up.up (e2.trans G2.jh) hF, ⟨d, kv, rfl, md2.h, Up.up G2.jh he2⟩, Up.up (e2.trans G2.jh) hsr, hti, ho1, hz1⟩ ?_
    rintro v H3 g3 G3 rfl
    have md3 := md2.up g3
    have ml3 := ml2.up g3
    walk_at "gr"
    cases st with
    | lt x t s =>
      obtain ⟨a, kv2, sv, rfl, ha, ⟨b2, rfl, hb2, hbl⟩, hs⟩ := hsr
      walk_at "gr"
      refine k_dputM G3 md3 (.inl rfl) (by rw [he2.1]; omega) ?_
      intro H4 g4 G4 md4
      walk_at "gr"
      exact ⟨_, e2, G4, _, _, _, grow ti (.lt x t s), _, rfl, md4, entR_put he2 ho2.1 ⟨b2, rfl, e2 _ _ hb2, hbl⟩, ml3.step g4 (fun e => hdl e.symm), hti.snoc ho2.2 hbl, ho3, hz2, by simp [grow]; omega⟩
    | pt x k s =>
      obtain ⟨a, b2, sv, rfl, ha, hb2, hs⟩ := hsr
      walk_at "gr"
      exact ⟨_, e2, G3, _, _, _, ti, _, rfl, md3, he2, ml3, hti, ho3, hz2, by omega⟩
    | cl x ss =>
      obtain ⟨a, b2, ys, rfl, ha, hb2, hs⟩ := hsr
      walk_at "gr"
      exact ⟨_, e2, G3, _, _, _, ti, _, rfl, md3, he2, ml3, hti, ho3, hz2, by omega⟩
  · rintro σ' J2 H2 e2 G2 ⟨w6, w7, w8, ti, kv, rfl, md2, he2, ml2, h⟩
    walk_at "gr"
    exact kk _ _ _ G2 ⟨l, rfl, hl0, ml2⟩
end Rk
namespace Rk
open PySem PySem.Spec PyProof.Rows L2
variable {P : Program} {w : World} {K : PySem.W.Frag} {mg : Str → Option Value} {base : Heap}
/-! faults, is_let_by: none -/
theorem pgF_z {p : Pg Ty} (h : pgF p = []) : (∀ g ∈ p.fns, BlkZ p.fns g.ps g.body) ∧ BlkZ p.fns [] p.main := by
  unfold pgF at h
  obtain ⟨h1, h2⟩ := List.append_eq_nil_iff.mp h
  refine ⟨fun g hg => ?_, blkZ_of h2⟩
  rw [List.flatten_eq_nil_iff] at h1
  exact blkZ_of (h1 _ (List.mem_map_of_mem (f := fun g : Fn Ty => blkF p.fns g.name g.ps g.body 0) hg))
abbrev spFaults (K : PySem.W.Frag) : Sp := SpD (Pg Ty) (fun _ => No) (fun p vs J _ => ∃ v1 v2, vs = [v1, v2] ∧ rPg K rTy p v1 J ∧ PgOk p ∧ pgF p = []) (fun a v J _ => ∃ l, v = .ref l ∧ J l = some (.lst []))
theorem ok_Faults (T : Good K mg) : FnOk P w K mg base CX0 15 (He.ga K "faults") (fdOf K (He.ga K "faults")) ["program", "extra"] (spFaults K) := by
  refine sp_ok (k := 14) (D_sFaults T) S_sFaults (fun a vs J H h => by obtain ⟨_, _, rfl, _⟩ := h; rfl) (fun cdv Ar outer s H0 vs E hr => ?_)
  refine ⟨_, (pss_cons (ps_set (i := 2) S_sFaults.nd rfl (by first | exact Or.inl rfl | exact Or.inr rfl) (pe_lst pa_nil))
  (pss_cons (ps_for PassesOwn.never rfl (piL K (pFld K (pv 0) rfl)) (pg_name (i := 3) S_sFaults.nd rfl (by first | exact Or.inl rfl | exact Or.inr rfl))
  (pss_cons (ps_setDc (i := 4) (own := [("name", 5), ("kind", 6)]) (by rfl) S_sFaults.nd rfl rfl (swD_true rfl rfl rfl (by decide +kernel)) (piL K (pFld K (pv 3) rfl)) (blkOk_by (own := [("name", 5), ("kind", 6)]) (N := ["program", "extra", "found", "function", "known", "name", "kind"]) (sc := defScope sFaults) (by decide +kernel)) (fun _ _ _ _ _ => (pgT K (n := 2) rfl (pgs_cons (pg_name (i := 5) S_sFaults.nd rfl (by first | exact Or.inl rfl | exact Or.inr rfl)) (pgs_cons (pg_name (i := 6) S_sFaults.nd rfl (by first | exact Or.inl rfl | exact Or.inr rfl)) pgs_nil)))) (fun _ _ _ _ _ => pts_nil) (fun _ _ _ _ _ => (pv 5)) (fun _ _ _ _ _ => (pv 6)))
  (pss_one (ps_expr (pe_bm PySem.F.plainAttrs_list PySem.F.slot_list_extend PySem.F.type_list_extend mt_extend (pv 2) (pa_cons (pe_call (ok_BlockFaults T) (hr.mono (by omega)) rfl (gblock_faults T) (D_sBlockFaults T).kp (B_sBlockFaults T) .nil pass0 (pa_cons (pFld K (pv 0) rfl) (pa_cons (pFld K (pv 3) rfl) (pa_cons (pv 4) (pa_cons (pFld K (pv 3) rfl) (pa_cons (pv 1) pa_nil)))))) pa_nil))))))
  (pss_one (ps_ret (pe_op op_cat (pv 2) (pe_call (ok_BlockFaults T) (hr.mono (by omega)) rfl (gblock_faults T) (D_sBlockFaults T).kp (B_sBlockFaults T) .nil pass0 (pa_cons (pFld K (pv 0) rfl) (pa_cons pe_str (pa_cons pe_dnewK (pa_cons (pFld K (pv 0) rfl) (pa_cons (pv 1) pa_nil))))))))))), ?_⟩
  rintro p J0 Q G ⟨_, v2, rfl, ⟨a, dx, fv, mv, rfl, ha, ⟨lf, xf, rfl, hlf, hxf⟩, hm⟩, hok, hz⟩ kk
  dsimp only at *
  have zs := sizeLine_eq
  obtain ⟨hz1, hz2⟩ := pgF_z hz
  have hl1 := hok.l1
  have hl2 := hok.l2
  walk_at "gr"
  refine k_lstM G (by decide) ?_
  intro l H1 hl hl0 ml g1 G1
  walk_at "gr"
  refine k_forL G1 hlf (fun i σ' J' H' => ∃ w3 w4, σ' = [some (.ref a), some v2, some (.ref l), w3, w4, none, none] ∧ Mu J' H' l (.lst [])) ⟨_, _, rfl, ml⟩ ?_ ?_
  · rintro i x σ' J2 H2 hx e2 G2 ⟨w3, w4, rfl, ml2⟩
    obtain ⟨f, hf, c, fdx, pv, bv, rfl, hc, ⟨lp, xp, rfl, hlp, hxp⟩, hbv⟩ := hxf.at hx
    have hfm := List.mem_of_getElem? hf
    have of := hok.f f hfm
    have of1 := of.l1
    have of2 := of.l2
    walk_at "gr"
    refine k_dcL (R := rPar rTy) (S := rTy) (fun q => q.1) (fun q => q.2) G2 (by walk_at "get") (Up.up e2 hxp) (by omega) of.n ?_ ?_
    · intro q x J3 H3 Ny Nn hq hx e3 G3 hy
      obtain ⟨b, kv, rfl, hb, hkv⟩ := hx
      walk_at "gr"
      refine ⟨rfl, ?_⟩
      walk_at "gr"
      exact hy _ _ _ (Gr.refl G3.jh) hkv
    · intro D kvs J3 H3 hD hD0 e3 mD hkv g3 G3
      have ml3 := ml2.up g3
      have hlD : ¬ l = D := ml2.nen hD
      have hkv : EntR rTy f.ps kvs J3 := by simpa using hkv
      walk_at "gr"
      refine use_sp G3 ⟨f.ps, p.fns, f.body, D, H3⟩ ⟨_, _, _, _, _, rfl, rfl, ⟨kvs, mD, hkv⟩, Up.up (e2.trans e3) ⟨lf, xf, rfl, hlf, hxf⟩, Up.up (e2.trans e3) hbv, of.t, of.b, hz1 f hfm, by show f.body.length ≤ 1000; omega, by show f.ps.length ≤ 1000; omega, rfl⟩ (fun b hb => .inr (by subst hb; exact hD0)) ?_
      rintro v J4 H4 e4 g4 G4 ⟨r, rfl, hr, mr⟩
      have ml4 := ml3.step g4 (fun e => hlD e)
      walk_at "gr"
      refine k_ext G4 ml4 (.inr hl0) mr.h (by simp) ?_
      intro H5 g5 G5 ml5
      walk_at "gr"
      exact ⟨_, (e2.trans e3).trans e4, G5, _, _, rfl, ml5⟩
  · rintro σ' J2 H2 e2 G2 ⟨w3, w4, rfl, ml2⟩
    walk_at "gr"
    refine k_dictM G2 ?_
    intro D H3 hD hD0 mD g3 G3
    have ml3 := ml2.up g3
    have hlD : ¬ l = D := ml2.nen hD
    walk_at "gr"
    refine use_sp G3 ⟨[], p.fns, p.main, D, H3⟩ ⟨_, _, _, _, _, rfl, rfl, ⟨[], mD, EntR.nil⟩, Up.up e2 ⟨lf, xf, rfl, hlf, hxf⟩, Up.up e2 hm, (fun p hp => by cases hp), hok.m, hz2, by show p.main.length ≤ 1000; omega, Nat.zero_le _, rfl⟩ (fun b hb => .inr (by subst hb; exact hD0)) ?_
    rintro v J4 H4 e4 g4 G4 ⟨r, rfl, hr, mr⟩
    have ml4 := ml3.step g4 (fun e => hlD e)
    walk_at "gr"
    refine k_cat G4 ml4.h mr.h (by simp) ?_
    intro L J5 H5 hL e5 hLJ g5 G5
    exact kk _ _ _ G5 ⟨L, rfl, hLJ⟩
abbrev spIsLetBy (K : PySem.W.Frag) : Sp := SpD (Pg Ty) (fun _ => No) (fun p vs J _ => ∃ v1 v2, vs = [v1, v2] ∧ rPg K rTy p v1 J ∧ PgOk p ∧ pgF p = []) (fun a v J _ => v = .bl true)
theorem ok_IsLetBy (T : Good K mg) : FnOk P w K mg base CX0 16 (He.ga K "is_let_by") (fdOf K (He.ga K "is_let_by")) ["program", "extra"] (spIsLetBy K) := by
  refine sp_ok (k := 15) (D_sIsLetBy T) S_sIsLetBy (fun a vs J H h => by obtain ⟨_, _, rfl, _⟩ := h; rfl) (fun cdv Ar outer s H0 vs E hr => ?_)
  refine ⟨_, (pss_one (ps_ret (pNotT K (pe_call (ok_Faults T) (hr.mono (by omega)) rfl (gfaults T) (D_sFaults T).kp (B_sFaults T) .nil pass0 (pa_cons (pv 0) (pa_cons (pv 1) pa_nil)))))), ?_⟩
  rintro p J0 Q G ⟨v1, v2, rfl, hp, hok, hz⟩ kk
  walk_at "gr"
  refine use_sp G p ⟨_, _, rfl, hp, hok, hz⟩ (fun _ z => z.elim) ?_
  rintro v J1 H1 e1 g1 G1 ⟨l, rfl, hl⟩
  walk_at "gr"
  exact kk _ _ _ G1 rfl
end Rk
namespace Rk
open PySem PySem.Spec PyProof.Rows L2
variable {P : Program} {w : World} {K : PySem.W.Frag} {mg : Str → Option Value} {base : Heap}
/-! the program's world -/
def PThR (K : PySem.W.Frag) (as : List Addr) (ths : List Th) (J H : Hp) : Prop := as.length = ths.length ∧ ∀ (i : Nat) (a : Addr) (t : Th), as[i]? = some a → ths[i]? = some t → ∃ dx kv xv, Mu J H a (.ins (He.ga K "Thing") dx [("name", .str t.name), ("kind", kv), ("value", xv)]) ∧ rTy t.ty kv J ∧ rVl t.val xv J
structure WS (K : PySem.W.Frag) (d : LSd) (ths : List Th) (env : Env2) (c : Nat) (J H : Hp) : Prop where
  s : ∃ dx, Mu J H d.st (.ins (He.ga K "World") dx [("things", .ref d.tl), ("breaches", .ref d.bl), ("executed", .int (c : Int))])
  t : Mu J H d.tl (.lst (d.as.map V.ref))
  b : Mu J H d.bl (.lst [])
  a : PThR K d.as ths J H
  e : ∃ kvs, Mu J H d.ed (.dK kvs) ∧ EntR rDp env kvs J
  nd : (d.st :: d.tl :: d.bl :: d.ed :: d.as).Nodup
theorem PThR.step {M : Addr → Prop} {as : List Addr} {ths : List Th} {J H J1 H1 : Hp} (x : PThR K as ths J H) (g : Gr M J H J1 H1) (n : ∀ a ∈ as, ¬ M a) : PThR K as ths J1 H1 := ⟨x.1, fun i a t ha ht => by
  obtain ⟨dx, kv, xv, m, h1, h2⟩ := x.2 i a t ha ht
  exact ⟨dx, kv, xv, m.step g (n a (List.mem_of_getElem? ha)), Up.up g.jj h1, Up.up g.jj h2⟩⟩
theorem WS.step {d : LSd} {ths : List Th} {env : Env2} {c : Nat} {J H J1 H1 : Hp} (x : WS K d ths env c J H) (g : Gr No J H J1 H1) : WS K d ths env c J1 H1 := by
  obtain ⟨kvs, me, he⟩ := x.e
  obtain ⟨dx, ms⟩ := x.s
  exact ⟨⟨dx, ms.up g⟩, x.t.up g, x.b.up g, x.a.step g (fun _ _ z => z), ⟨kvs, me.up g, Up.up g.jj he⟩, x.nd⟩
theorem PThR.at {as : List Addr} {ths : List Th} {J H : Hp} (x : PThR K as ths J H) {n : Nat} {t : Th} (e : ths[n]? = some t) : ∃ a dx kv xv, (as.map V.ref)[n]? = some (.ref a) ∧ as[n]? = some a ∧ Mu J H a (.ins (He.ga K "Thing") dx [("name", .str t.name), ("kind", kv), ("value", xv)]) ∧ rTy t.ty kv J ∧ rVl t.val xv J := by
  have hn : n < as.length := by rw [x.1]; exact (List.getElem?_eq_some_iff.mp e).1
  obtain ⟨dx, kv, xv, h⟩ := x.2 n as[n] t (List.getElem?_eq_getElem hn) e
  exact ⟨as[n], dx, kv, xv, by rw [List.getElem?_map, List.getElem?_eq_getElem hn]; rfl, List.getElem?_eq_getElem hn, h⟩
structure RdD where
  d : LSd
  ths : List Th
  env : Env2
  c : Nat
  n : Nat
abbrev spWorldRead (K : PySem.W.Frag) : Sp := SpD RdD (fun _ => No) (fun a vs J H => ∃ v1 v2, vs = [v1, v2] ∧ v1 = .ref a.d.st ∧ v2 = .int (a.n : Int) ∧ WS K a.d a.ths a.env a.c J H ∧ ∃ z r rest, a.ths[a.n]? = some z ∧ z.ty = r :: rest ∧ rd r = true) (fun a v J _ => ∃ z, a.ths[a.n]? = some z ∧ rVl z.val v J)
theorem ok_WorldRead (T : Good K mg) : FnOk P w K mg base CX0 1 (He.ma K (He.ga K "World") "read") (fdOf K (He.ma K (He.ga K "World") "read")) ["self", "number"] (spWorldRead K) := by
  refine sp_ok (k := 0) (D_cWorldRead T) S_cWorldRead (fun a vs J H h => by obtain ⟨_, _, rfl, _⟩ := h; rfl) (fun cdv Ar outer s H0 vs E hr => ?_)
  refine ⟨_, (pss_cons (ps_set (i := 2) S_cWorldRead.nd rfl (by first | exact Or.inl rfl | exact Or.inr rfl) (pe_ix (xL K) (pFld K (pv 0) rfl) (pv 1) (fun _ _ => rfl)))
  (pss_cons (ps_if (pt_cmpR o_ninS pe_str (pe_ix (xT K) (pFld K (pv 2) rfl) pe_int (fun _ _ => rfl)) (by rfl)) (pss_one (ps_expr (pe_bm PySem.F.plainAttrs_list PySem.F.slot_list_append PySem.F.type_list_append mt_append (pFld K (pv 0) rfl) (pa_cons (pe_tup (pa_cons pe_str (pa_cons (pv 1) pa_nil))) pa_nil)))) pss_nil)
  (pss_one (ps_ret (pFld K (pv 2) rfl))))), ?_⟩
  rintro ⟨d, ths, env, c, n⟩ J0 Q G ⟨_, _, rfl, rfl, rfl, hs, z, r, rest, ez, hz1, hz2⟩ kk
  dsimp only at *
  obtain ⟨wdx, ms⟩ := hs.s
  have mt := hs.t
  obtain ⟨a, dx, kv, xv, ha1, ha2, ma, ⟨ka, rfl, hka, _⟩, hxv⟩ := hs.a.at ez
  rw [hz1] at hka
  walk_at "gr"
  refine ifF (hasS_hd (rest := rest) hz2) ?_
  walk_at "gr"
  exact kk _ _ _ G ⟨z, ez, hxv⟩
structure MkD where
  d : LSd
  ths : List Th
  env : Env2
  c : Nat
  x : Str
  t : Ty
  v : Vl
  hh : Hp
abbrev spWorldMake (K : PySem.W.Frag) : Sp := SpD MkD (fun a b => b = a.d.tl) (fun a vs J H => ∃ v1 v2 v3 v4, vs = [v1, v2, v3, v4] ∧ v1 = .ref a.d.st ∧ v2 = .str a.x ∧ rTy a.t v3 J ∧ rVl a.v v4 J ∧ WS K a.d a.ths a.env a.c J H ∧ a.ths.length ≤ 10000 ∧ a.hh = H)
  (fun a v J H => v = .int (a.ths.length : Int) ∧ ∃ b, a.hh b = none ∧ WS K { a.d with as := a.d.as ++ [b] } (a.ths ++ [⟨a.x, a.t, a.v⟩]) a.env a.c J H)
theorem ok_WorldMake (T : Good K mg) : FnOk P w K mg base CX0 3 (He.ma K (He.ga K "World") "make") (fdOf K (He.ma K (He.ga K "World") "make")) ["self", "name", "kind", "value"] (spWorldMake K) := by
  refine sp_ok (k := 2) (D_cWorldMake T) S_cWorldMake (fun a vs J H h => by obtain ⟨_, _, _, _, rfl, _⟩ := h; rfl) (fun cdv Ar outer s H0 vs E hr => ?_)
  refine ⟨_, (pss_cons (ps_expr (pe_bm PySem.F.plainAttrs_list PySem.F.slot_list_append PySem.F.type_list_append mt_append (pFld K (pv 0) rfl) (pa_cons (pe_make (mkThing T) (ok_ThingInit T) (hr.mono (by omega)) rfl (gThing T) (B_cThingInit T) .nil pass0 (pa_cons (pv 1) (pa_cons (pv 2) (pa_cons (pv 3) pa_nil)))) pa_nil)))
  (pss_one (ps_ret (pe_op op_sub (pe_callB (cLen K) (by rfl) (f_len T) (show bootBuiltins "len" = some (.builtin "len") by decide +kernel) (pa_cons (pFld K (pv 0) rfl) pa_nil)) pe_int)))), ?_⟩
  rintro ⟨d, ths, env, c, x, t, vl, hh⟩ J0 Q G ⟨_, _, v3, v4, rfl, rfl, rfl, ht, hv, hs, hl, rfl⟩ kk
  dsimp only at *
  have zs := sizeLine_eq
  obtain ⟨wdx, ms⟩ := hs.s
  have mt := hs.t
  have mb := hs.b
  obtain ⟨kvs, me, he⟩ := hs.e
  have hth := hs.a
  have hlen : (d.as.map V.ref).length = ths.length := by rw [List.length_map]; exact hth.1
  walk_at "gr"
  rename_i y ydx H1 hy1 hy2 g1 G1 m1
  change spThingInit K _ _ _ _
  have hyt : ¬ d.tl = y := mt.nen hy1
  have hys : ¬ d.st = y := ms.nen hy1
  have hyb : ¬ d.bl = y := mb.nen hy1
  have hye : ¬ d.ed = y := me.nen hy1
  have hya : y ∉ d.as := by
    intro hm
    obtain ⟨i, hi, e⟩ := List.getElem_of_mem hm
    have hi2 : i < ths.length := by rw [← hth.1]; exact hi
    obtain ⟨_, _, _, m, _⟩ := hth.2 i y ths[i] (by rw [← e]; exact List.getElem?_eq_getElem hi) (List.getElem?_eq_getElem hi2)
    exact m.nen hy1 rfl
  refine use_sp G1 (y, x, v3, v4) ⟨_, _, _, _, rfl, rfl, rfl, rfl, rfl, ydx, m1⟩ (fun b hb => .inr (by subst hb; exact hy2)) ?_
  rintro v J2 H2 e2 g2 G2 ⟨rfl, ydx2, m2⟩
  dsimp only at m2
  have ms2 := (ms.up g1).step g2 (fun e => hys e)
  have mt2 := (mt.up g1).step g2 (fun e => hyt e)
  have mb2 := (mb.up g1).step g2 (fun e => hyb e)
  have me2 := (me.up g1).step g2 (fun e => hye e)
  have hth2 := (hth.step g1 (fun _ _ z => z)).step g2 (fun a ha e => hya (show y ∈ d.as from (show a = y from e) ▸ ha))
  have hnd := hs.nd
  simp only [List.nodup_cons, List.mem_cons, not_or] at hnd
  obtain ⟨⟨n1, n2, n3, n4⟩, ⟨n5, n6, n7⟩, ⟨n8, n9⟩, n10, n11⟩ := hnd
  refine ⟨rfl, ?_⟩
  walk_at "gr"
  refine k_app G2 mt2 (.inl rfl) (by rw [hlen]; omega) ?_
  intro H3 g3 G3 mt3
  have ms3 := ms2.step g3 n1
  have hsub : (((List.map V.ref d.as ++ [V.ref y]).length : Int) - 1) = (ths.length : Int) := by
    rw [List.length_append, hlen]; simp
  walk_at "gr"
  rw [hsub]
  refine kk _ _ _ G3 ⟨rfl, y, hy2, ⟨wdx, ms3⟩, by simpa using mt3, mb2.step g3 (fun e => n5 e.symm), ?_, ⟨kvs, me2.step g3 (fun e => n6 e.symm), Up.up e2 he⟩, ?_⟩
  · have h3 := hth2.step g3 (fun a ha e => n7 (e ▸ ha))
    refine ⟨by simp [h3.1], fun i a z ha hz => ?_⟩
    by_cases hi : i < d.as.length
    · rw [List.getElem?_append_left hi] at ha
      rw [List.getElem?_append_left (by rw [← h3.1]; exact hi)] at hz
      exact h3.2 i a z ha hz
    · have hi2 : i = d.as.length := by
        have := (List.getElem?_eq_some_iff.mp ha).1
        simp at this; omega
      subst hi2
      rw [List.getElem?_append_right (Nat.le_refl _), Nat.sub_self] at ha
      rw [h3.1, List.getElem?_append_right (Nat.le_refl _), Nat.sub_self] at hz
      simp at ha hz
      subst ha; subst hz
      exact ⟨ydx2, v3, v4, m2.step g3 (fun e => hyt e.symm), Up.up e2 ht, Up.up e2 hv⟩
  · show (d.st :: d.tl :: d.bl :: d.ed :: (d.as ++ [y])).Nodup
    have : d.st :: d.tl :: d.bl :: d.ed :: (d.as ++ [y]) = (d.st :: d.tl :: d.bl :: d.ed :: d.as) ++ [y] := rfl
    rw [this, List.nodup_append]
    refine ⟨hs.nd, by simp, ?_⟩
    rintro a ha b' hb' rfl
    obtain rfl : a = y := by simpa using hb'
    simp only [List.mem_cons] at ha
    rcases ha with e | e | e | e | e
    · exact hys e.symm
    · exact hyt e.symm
    · exact hyb e.symm
    · exact hye e.symm
    · exact hya e
structure WrD where
  d : LSd
  ths : List Th
  env : Env2
  c : Nat
  n : Nat
  v : Vl
abbrev spWorldWrite (K : PySem.W.Frag) : Sp := SpD WrD (fun a b => b ∈ a.d.as) (fun a vs J H => ∃ v1 v2 v3, vs = [v1, v2, v3] ∧ v1 = .ref a.d.st ∧ v2 = .int (a.n : Int) ∧ rVl a.v v3 J ∧ WS K a.d a.ths a.env a.c J H ∧ ∃ z r rest, a.ths[a.n]? = some z ∧ z.ty = r :: rest ∧ wr r = true) (fun a v J H => v = .non ∧ WS K a.d (setT a.ths a.n a.v) a.env a.c J H)
theorem ok_WorldWrite (T : Good K mg) : FnOk P w K mg base CX0 1 (He.ma K (He.ga K "World") "write") (fdOf K (He.ma K (He.ga K "World") "write")) ["self", "number", "value"] (spWorldWrite K) := by
  refine sp_ok (k := 0) (D_cWorldWrite T) S_cWorldWrite (fun a vs J H h => by obtain ⟨_, _, _, rfl, _⟩ := h; rfl) (fun cdv Ar outer s H0 vs E hr => ?_)
  refine ⟨_, (pss_cons (ps_set (i := 3) S_cWorldWrite.nd rfl (by first | exact Or.inl rfl | exact Or.inr rfl) (pe_ix (xL K) (pFld K (pv 0) rfl) (pv 1) (fun _ _ => rfl)))
  (pss_cons (ps_if (pt_cmpR o_ninS pe_str (pe_ix (xT K) (pFld K (pv 3) rfl) pe_int (fun _ _ => rfl)) (by rfl)) (pss_one (ps_expr (pe_bm PySem.F.plainAttrs_list PySem.F.slot_list_append PySem.F.type_list_append mt_append (pFld K (pv 0) rfl) (pa_cons (pe_tup (pa_cons pe_str (pa_cons (pv 1) pa_nil))) pa_nil)))) pss_nil)
  (pss_one (ps_fld (pv 3) (pv 2) rfl)))), ?_⟩
  rintro ⟨d, ths, env, c, n, vl⟩ J0 Q G ⟨_, _, v3, rfl, rfl, rfl, hv, hs, z, r, rest, ez, hz1, hz2⟩ kk
  dsimp only at *
  obtain ⟨wdx, ms⟩ := hs.s
  have mt := hs.t
  have mb := hs.b
  obtain ⟨kvs, me, he⟩ := hs.e
  have hth := hs.a
  obtain ⟨a, dx, kv, xv, ha1, ha2, ma, ⟨ka, rfl, hka, hkl⟩, hxv⟩ := hs.a.at ez
  have hka2 := And.intro hka True.intro
  rw [hz1] at hka
  have ham : a ∈ d.as := List.mem_of_getElem? ha2
  have hnd := hs.nd
  simp only [List.nodup_cons, List.mem_cons, not_or] at hnd
  obtain ⟨⟨n1, n2, n3, n4⟩, ⟨n5, n6, n7⟩, ⟨n8, n9⟩, n10, n11⟩ := hnd
  walk_at "gr"
  refine ifF (hasS_hw hz2) ?_
  walk_at "gr"
  refine k_sfldE G ma (.inl ham) (clThing T) (naThing_value T) (by show (3 : Nat) < 1000; decide) ?_
  intro H1 g1 G1 m1
  walk_at "gr"
  refine kk _ _ _ G1 ⟨rfl, ⟨wdx, ms.step g1 (fun e => n4 (e ▸ ham))⟩, mt.step g1 (fun e => n7 (e ▸ ham)), mb.step g1 (fun e => n9 (e ▸ ham)), ?_, ⟨kvs, me.step g1 (fun e => n10 (e ▸ ham)), he⟩, hs.nd⟩
  have hlen : (setT ths n vl).length = ths.length := by unfold setT; rw [ez]; simp
  refine ⟨by rw [hlen]; exact hth.1, fun i b w hb hw2 => ?_⟩
  rw [setT_get ez] at hw2
  by_cases q : i = n
  · subst q
    rw [if_pos rfl] at hw2
    cases hw2
    rw [ha2] at hb
    cases hb
    exact ⟨dx, .ref ka, v3, m1, ⟨ka, rfl, hka2.1, hkl⟩, hv⟩
  · rw [if_neg q] at hw2
    obtain ⟨dx', kv', xv', m', h1', h2'⟩ := hth.2 i b w hb hw2
    exact ⟨dx', kv', xv', m'.step g1 (fun e => q (nodup_get n11 (e ▸ hb) ha2)), h1', h2'⟩
end Rk
namespace Rk
open PySem PySem.Spec PyProof.Rows L2
variable {P : Program} {w : World} {K : PySem.W.Frag} {mg : Str → Option Value} {base : Heap}
/-! looking up -/
abbrev spThingAt (K : PySem.W.Frag) : Sp := SpD LkD (fun _ => No) (fun a vs J H => ∃ v1 v2 v3, vs = [v1, v2, v3] ∧ v1 = .ref a.d.st ∧ v2 = .ref a.d.ed ∧ rPl (a.x, a.k) v3 J ∧ WS K a.d a.ths a.env a.c J H ∧ WT a.ths ∧ EnvT a.env a.ths a.ts ∧ reached a.ts a.x a.k = none ∧ a.k ≤ 1000) (fun a v _ _ => v = oNum (placeT a.ths a.env a.x a.k))
theorem ok_ThingAt (T : Good K mg) : FnOk P w K mg base CX0 2 (He.ga K "_thing_at") (fdOf K (He.ga K "_thing_at")) ["world", "known", "place"] (spThingAt K) := by
  refine sp_ok (k := 1) (D_sThingAt T) S_sThingAt (fun a vs J H h => by obtain ⟨_, _, _, rfl, _⟩ := h; rfl) (fun cdv Ar outer s H0 vs E hr => ?_)
  refine ⟨_, (pss_cons (ps_set (i := 3) S_sThingAt.nd rfl (by first | exact Or.inl rfl | exact Or.inr rfl) (pe_dget (hu_of hr) (pv 1) (pe_ix (xT K) (pv 2) pe_int (fun _ _ => rfl)) (fun _ _ => rfl)))
  (pss_cons (ps_for PassesOwn.never rfl (pi_range1 (by rfl) (f_range T) (pa_cons (pe_ix (xT K) (pv 2) pe_int (fun _ _ => rfl)) pa_nil)) (pg_name (i := 4) S_sThingAt.nd rfl (by first | exact Or.inl rfl | exact Or.inr rfl))
  (pss_cons (ps_set (i := 5) S_sThingAt.nd rfl (by first | exact Or.inl rfl | exact Or.inr rfl) (pe_meth (pv 0) (clWorld T) (meread T) (ok_WorldRead T) (hr.mono (by omega)) (B_cWorldRead T) .nil pass0 (pa_cons (pv 3) pa_nil)))
  (pss_cons (ps_if (pt_cmpR o_isN (pv 5) pe_non (nomark _)) (pss_one (ps_ret pe_non)) pss_nil)
  (pss_one (ps_set (i := 3) S_sThingAt.nd rfl (by first | exact Or.inl rfl | exact Or.inr rfl) (pe_ix (xT K) (pv 5) pe_int (fun _ _ => rfl)))))))
  (pss_one (ps_ret (pv 3))))), ?_⟩
  rintro ⟨d, ths, env, c, ts, x, k⟩ J0 Q G ⟨_, _, _, rfl, rfl, rfl, ⟨pa, rfl, hpa⟩, hs, hw, he, hr, hk⟩ kk
  dsimp only at *
  obtain ⟨t, ht, hkt, hall⟩ := reached_none hr
  obtain ⟨n0, z0, en0, ez0, et0⟩ := he.look ht
  obtain ⟨kvs, me, hent⟩ := hs.e
  obtain ⟨_, hv0, rfl⟩ := hent.some en0
  walk_at "gr"
  refine k_iR1E (by omega) ?_
  rw [Int.toNat_natCast]
  refine k_forR G (fun i σ' J' H' => ∃ (w w' : Option V) (n : Nat) (z : Th), σ' = [some (.ref d.st), some (.ref d.ed), some (.ref pa), some (.int (n : Int)), w, w'] ∧ WS K d ths env c J' H' ∧ ths[n]? = some z ∧ conv z.ty (t.drop i) = true ∧ placeT ths env x k = lookT ths n (k - i) ∧ i ≤ k) ⟨_, _, n0, z0, rfl, hs, ez0, by rw [et0]; exact conv_refl _, by unfold placeT; rw [en0]; rfl, Nat.zero_le _⟩ ?_ ?_
  · rintro i σ' J1 H1 hi e1 G1 ⟨w, w', n, z, rfl, hs1, ez, cz, hp, hik⟩
    obtain ⟨r, rest, h1, h2, h3⟩ := step_down hw ez cz (by omega) (all_rd hall (by omega) i hi)
    obtain ⟨wdx, ms1⟩ := hs1.s
    have hlk : lookT ths n (k - i) = match ths[n]? with
      | some ⟨_, _, .th m⟩ => lookT ths m (k - (i + 1))
      | _ => none := by
      rw [show k - i = (k - (i + 1)) + 1 by omega]
      rfl
    rw [ez] at hlk
    walk_at "gr"
    refine use_sp G1 ⟨d, ths, env, c, n⟩ ⟨_, _, rfl, rfl, rfl, hs1, z, r, rest, ez, h1, h2⟩ (fun _ z => z.elim) ?_
    rintro xv J2 H2 e2 g2 G2 ⟨z', ez', hxv⟩
    dsimp only at ez'
    rw [ez] at ez'
    cases ez'
    have hs2 := hs1.step g2
    cases z with
    | mk nm ty v =>
      dsimp only at *
      cases v with
      | non =>
        obtain rfl : xv = .non := hxv
        walk_at "gr"
        exact kk _ _ _ G2 (by rw [hp, hlk]; rfl)
      | int q =>
        have h3 : t.drop (i + 1) = [] := h3
        have := congrArg List.length h3
        simp at this
        omega
      | th m =>
        obtain ⟨va, rfl, hva⟩ := hxv
        obtain ⟨y, e3, c2⟩ := h3
        walk_at "gr"
        exact ⟨_, e1.trans e2, G2, _, _, m, y, rfl, hs2, e3, c2, by rw [hp, hlk], hi⟩
  · rintro σ' J1 H1 e1 G1 ⟨w, w', n, z, rfl, hs1, ez, cz, hp, hik⟩
    walk_at "gr"
    refine kk _ _ _ G1 ?_
    rw [hp, Nat.sub_self]
    rfl
abbrev spLookedUp (K : PySem.W.Frag) : Sp := SpD GvD (fun _ => No) (fun a vs J H => ∃ v1 v2 v3, vs = [v1, v2, v3] ∧ v1 = .ref a.d.st ∧ v2 = .ref a.d.ed ∧ rSrc a.s v3 J ∧ WS K a.d a.ths a.env a.c J H ∧ WT a.ths ∧ EnvT a.env a.ths a.ts ∧ srcF a.ts a.s a.u = none ∧ SrcK a.s) (fun a v J _ => oGv (giveT a.ths a.env a.s) v J)
theorem ok_LookedUp (T : Good K mg) : FnOk P w K mg base CX0 3 (He.ga K "_looked_up") (fdOf K (He.ga K "_looked_up")) ["world", "known", "source"] (spLookedUp K) := by
  refine sp_ok (k := 2) (D_sLookedUp T) S_sLookedUp (fun a vs J H h => by obtain ⟨_, _, _, rfl, _⟩ := h; rfl) (fun cdv Ar outer s H0 vs E hr => ?_)
  refine ⟨_, (pss_cons (ps_if (pt_cmpR op_eq (pe_ix (xT K) (pv 2) pe_int (fun _ _ => rfl)) pe_str (nomark _)) (pss_one (ps_ret (pe_lst (pa_cons (pe_ix (xT K) (pv 2) pe_int (fun _ _ => rfl)) pa_nil)))) pss_nil)
  (pss_cons (ps_if (pt_cmpR op_eq (pe_ix (xT K) (pv 2) pe_int (fun _ _ => rfl)) pe_str (nomark _)) (pss_one (ps_ret (pe_lst (pa_cons pe_non pa_nil)))) pss_nil)
  (pss_cons (ps_set (i := 3) S_sLookedUp.nd rfl (by first | exact Or.inl rfl | exact Or.inr rfl) (pe_call (ok_ThingAt T) (hr.mono (by omega)) rfl (g_thing_at T) (D_sThingAt T).kp (B_sThingAt T) .nil pass0 (pa_cons (pv 0) (pa_cons (pv 1) (pa_cons (pe_ix (xT K) (pv 2) pe_int (fun _ _ => rfl)) pa_nil)))))
  (pss_cons (ps_if (pt_cmpR o_isN (pv 3) pe_non (nomark _)) (pss_one (ps_ret pe_non)) pss_nil)
  (pss_cons (ps_if (pt_cmpR op_eq (pe_ix (xT K) (pv 2) pe_int (fun _ _ => rfl)) pe_str (nomark _)) (pss_one (ps_ret (pe_lst (pa_cons (pe_tup (pa_cons pe_str (pa_cons (pv 3) pa_nil))) pa_nil)))) pss_nil)
  (pss_one (ps_ret (pe_lst (pa_cons (pe_meth (pv 0) (clWorld T) (meread T) (ok_WorldRead T) (hr.mono (by omega)) (B_cWorldRead T) .nil pass0 (pa_cons (pv 3) pa_nil)) pa_nil))))))))), ?_⟩
  rintro ⟨d, ths, env, c, ts, s, u⟩ J0 Q G ⟨_, _, _, rfl, rfl, rfl, hsr, hs, hw, he, hf, hk⟩ kk
  dsimp only at *
  cases s with
  | num n =>
    obtain ⟨a, rfl, ha⟩ := hsr
    walk_at "gr"
    rename_i P1 J1 H1 hP1 e1 hJ1 g1 G1
    exact kk _ _ _ G1 ⟨P1, _, rfl, hJ1, rfl⟩
  | null =>
    obtain ⟨a, rfl, ha⟩ := hsr
    walk_at "gr"
    rename_i P1 J1 H1 hP1 e1 hJ1 g1 G1
    exact kk _ _ _ G1 ⟨P1, _, rfl, hJ1, rfl⟩
  | val x k =>
    obtain ⟨a, b, rfl, ha, hb⟩ := hsr
    obtain ⟨hr, hrd⟩ := srcF_val hf
    walk_at "gr"
    refine use_sp G ⟨d, ths, env, c, ts, x, k⟩ ⟨_, _, _, rfl, rfl, rfl, ⟨b, rfl, hb⟩, hs, hw, he, hr, hk⟩ (fun _ z => z.elim) ?_
    rintro v J1 H1 e1 g1 G1 hv
    dsimp only at hv
    subst hv
    have hs1 := hs.step g1
    cases ep : placeT ths env x k with
    | none =>
      walk_at "gr"
      exact kk _ _ _ G1 (by unfold giveT; dsimp only; rw [ep]; rfl)
    | some n =>
      obtain ⟨t, y, ht, hkt, e2, c2⟩ := place_ok hw he hr ep
      have eto : tyOf ts x = t := by unfold tyOf; rw [ht]; rfl
      rw [eto] at hrd
      obtain ⟨r, rest, h1, h2, h3⟩ := step_down hw e2 c2 hkt hrd
      obtain ⟨wdx, ms1⟩ := hs1.s
      have hfin : ∀ J' xv', rVl y.val xv' J' → ∀ P', J' P' = some (.lst [xv']) → oGv (giveT ths env (.val x k)) (.ref P') J' := by
        intro J' xv' h P' hP
        unfold giveT
        dsimp only
        rw [ep]
        show oGv (valT ths n) _ _
        unfold valT
        rw [e2]
        exact ⟨P', xv', rfl, hP, h⟩
      dsimp only [oNum]
      walk_at "gr"
      refine use_sp G1 ⟨d, ths, env, c, n⟩ ⟨_, _, rfl, rfl, rfl, hs1, y, r, rest, e2, h1, h2⟩ (fun _ z => z.elim) ?_
      rintro xv J2 H2 e3 g2 G2 ⟨z', ez', hxv⟩
      dsimp only at ez'
      rw [e2] at ez'
      cases ez'
      walk_at "gr"
      rename_i P2 J3 H3 hP2 e4 hJ3 g3 G3
      exact kk _ _ _ G3 (hfin _ _ (Up.up e4 hxv) _ hJ3)
  | adr x k =>
    obtain ⟨a, b, rfl, ha, hb⟩ := hsr
    have hr := srcF_adr hf
    walk_at "gr"
    refine use_sp G ⟨d, ths, env, c, ts, x, k⟩ ⟨_, _, _, rfl, rfl, rfl, ⟨b, rfl, hb⟩, hs, hw, he, hr, hk⟩ (fun _ z => z.elim) ?_
    rintro v J1 H1 e1 g1 G1 hv
    dsimp only at hv
    subst hv
    cases ep : placeT ths env x k with
    | none =>
      walk_at "gr"
      exact kk _ _ _ G1 (by unfold giveT; dsimp only; rw [ep]; rfl)
    | some n =>
      walk_at "gr"
      rename_i P2 J2 H2 hP2 e2 hJ2 g2 G2 P3 J3 H3 hP3 e3 hJ3 g3 G3
      refine kk _ _ _ G3 ?_
      unfold giveT
      dsimp only
      rw [ep]
      exact ⟨P3, _, rfl, hJ3, P2, rfl, e3 _ _ hJ2⟩
end Rk
namespace Rk
open PySem PySem.Spec PyProof.Rows L2
variable {P : Program} {w : World} {K : PySem.W.Frag} {mg : Str → Option Value} {base : Heap}
/-! all sources; a put -/
structure AgD where
  d : LSd
  ths : List Th
  env : Env2
  c : Nat
  ts : Tys
  ps : List (Str × Ty)
  ss : List Src
def oAll : Option (List Vl) → V → Hp → Prop
  | none, v, _ => v = .non
  | some vls, v, J => rLst rVl vls v J
abbrev spAllLookedUp (K : PySem.W.Frag) : Sp := SpD AgD (fun _ => No) (fun a vs J H => ∃ v1 v2 v3, vs = [v1, v2, v3] ∧ v1 = .ref a.d.st ∧ v2 = .ref a.d.ed ∧ rLst rSrc a.ss v3 J ∧ WS K a.d a.ths a.env a.c J H ∧ WT a.ths ∧ EnvT a.env a.ths a.ts ∧ argF a.ts a.ps a.ss = none ∧ a.ss.length = a.ps.length ∧ a.ss.length ≤ 1000 ∧ ∀ s ∈ a.ss, SrcK s) (fun a v J _ => oAll (giveAll a.ths a.env a.ss) v J)
theorem ok_AllLookedUp (T : Good K mg) : FnOk P w K mg base CX0 4 (He.ga K "_all_looked_up") (fdOf K (He.ga K "_all_looked_up")) ["world", "known", "sources"] (spAllLookedUp K) := by
  refine sp_ok (k := 3) (D_sAllLookedUp T) S_sAllLookedUp (fun a vs J H h => by obtain ⟨_, _, _, rfl, _⟩ := h; rfl) (fun cdv Ar outer s H0 vs E hr => ?_)
  refine ⟨_, (pss_cons (ps_set (i := 3) S_sAllLookedUp.nd rfl (by first | exact Or.inl rfl | exact Or.inr rfl) (pe_lst pa_nil))
  (pss_cons (ps_for PassesOwn.never rfl (piL K (pv 2)) (pg_name (i := 4) S_sAllLookedUp.nd rfl (by first | exact Or.inl rfl | exact Or.inr rfl))
  (pss_cons (ps_set (i := 5) S_sAllLookedUp.nd rfl (by first | exact Or.inl rfl | exact Or.inr rfl) (pe_call (ok_LookedUp T) (hr.mono (by omega)) rfl (g_looked_up T) (D_sLookedUp T).kp (B_sLookedUp T) .nil pass0 (pa_cons (pv 0) (pa_cons (pv 1) (pa_cons (pv 4) pa_nil)))))
  (pss_cons (ps_if (pt_cmpR o_isN (pv 5) pe_non (nomark _)) (pss_one (ps_ret pe_non)) pss_nil)
  (pss_one (ps_expr (pe_bm PySem.F.plainAttrs_list PySem.F.slot_list_extend PySem.F.type_list_extend mt_extend (pv 3) (pa_cons (pv 5) pa_nil)))))))
  (pss_one (ps_ret (pv 3))))), ?_⟩
  rintro ⟨d, ths, env, c, ts, ps, ss⟩ J0 Q G ⟨_, _, _, rfl, rfl, rfl, ⟨l, xs, rfl, hl, hxs⟩, hs, hw, he, hf, hlen, hl2, hk⟩ kk
  dsimp only at *
  have zs := sizeLine_eq
  walk_at "gr"
  refine k_lstM G (by decide) ?_
  intro r H1 hr hr0 mr g1 G1
  have hs1 := hs.step g1
  walk_at "gr"
  refine k_forL G1 hl (fun i σ' J' H' => ∃ w4 w5 vls va, σ' = [some (.ref d.st), some (.ref d.ed), some (.ref l), some (.ref r), w4, w5] ∧ Mu J' H' r (.lst va) ∧ AllR rVl vls va J' ∧ WS K d ths env c J' H' ∧ giveAll ths env ss = (giveAll ths env (ss.drop i)).map (vls ++ ·) ∧ vls.length = i)
    ⟨_, _, [], [], rfl, mr, AllR.nil, hs1, by rw [List.drop_zero]; cases giveAll ths env ss <;> simp, rfl⟩ ?_ ?_
  · rintro i x σ' J2 H2 hx e2 G2 ⟨w4, w5, vls, va, rfl, mr2, hva, hs2, hgv, hvl⟩
    obtain ⟨s, hsi, hsr⟩ := hxs.at hx
    have hi : i < ss.length := (List.getElem?_eq_some_iff.mp hsi).1
    have hp : ps[i]? = some (ps[i]'(by omega)) := List.getElem?_eq_getElem _
    have hsf := argF_none hf i _ s hp hsi
    have hval := hva.1
    walk_at "gr"
    refine use_sp G2 ⟨d, ths, env, c, ts, s, (ps[i]'(by omega)).2.drop 1⟩ ⟨_, _, _, rfl, rfl, rfl, Up.up e2 hsr, hs2, hw, he, hsf, hk s (List.mem_of_getElem? hsi)⟩ (fun _ z => z.elim) ?_
    rintro v J3 H3 e3 g3 G3 hv
    dsimp only at hv
    have hs3 := hs2.step g3
    have mr3 := mr2.up g3
    rw [giveAll_drop hsi] at hgv
    cases eg : giveT ths env s with
    | none =>
      rw [eg] at hv hgv
      obtain rfl : v = .non := hv
      walk_at "gr"
      exact kk _ _ _ G3 (by rw [hgv]; rfl)
    | some w =>
      rw [eg] at hv hgv
      obtain ⟨pa, xv, rfl, hpa, hxv⟩ := hv
      walk_at "gr"
      refine k_ext G3 mr3 (.inr hr0) (by walk_at "get") (by simp; omega) ?_
      intro H4 g4 G4 mr4
      have hrn : r ∉ d.st :: d.tl :: d.bl :: d.ed :: d.as := by
        intro hm
        obtain ⟨wdx, ms⟩ := hs3.s
        obtain ⟨kvs, me, _⟩ := hs3.e
        obtain ⟨wdx0, ms0⟩ := hs.s
        obtain ⟨kvs0, me0, _⟩ := hs.e
        simp only [List.mem_cons] at hm
        rcases hm with h | h | h | h | h
        · exact ms0.nen hr h.symm
        · exact hs.t.nen hr h.symm
        · exact hs.b.nen hr h.symm
        · exact me0.nen hr h.symm
        · obtain ⟨j, hj, e⟩ := List.getElem_of_mem h
          have hj2 : j < ths.length := by rw [← hs.a.1]; exact hj
          obtain ⟨_, _, _, m, _⟩ := hs.a.2 j r ths[j] (by rw [← e]; exact List.getElem?_eq_getElem hj) (List.getElem?_eq_getElem hj2)
          exact m.nen hr rfl
      have hs4 : WS K d ths env c J3 H4 := by
        obtain ⟨wdx, ms⟩ := hs3.s
        obtain ⟨kvs, me, hent⟩ := hs3.e
        exact ⟨⟨wdx, ms.step g4 (fun e => hrn (by simp [← e]))⟩, hs3.t.step g4 (fun e => hrn (by simp [← e])), hs3.b.step g4 (fun e => hrn (by simp [← e])), hs3.a.step g4 (fun z hz e => hrn (by subst e; simp [hz])), ⟨kvs, me.step g4 (fun e => hrn (by simp [← e])), hent⟩, hs3.nd⟩
      walk_at "gr"
      refine ⟨_, e2.trans e3, G4, _, _, vls ++ [w], _, rfl, mr4, (Up.up e3 hva).append (AllR.nil.cons hxv), hs4, ?_, by simp [hvl]⟩
      rw [hgv]
      cases giveAll ths env (ss.drop (i + 1)) <;> simp
  · rintro σ' J2 H2 e2 G2 ⟨w4, w5, vls, va, rfl, mr2, hva, hs2, hgv, hvl⟩
    rw [hxs.1, List.drop_of_length_le (Nat.le_refl _)] at hgv
    have hgv : giveAll ths env ss = some vls := by rw [hgv]; simp [giveAll]
    walk_at "gr"
    exact kk _ _ _ (G2.know mr2.j mr2.h hr0) (by rw [hgv]; exact ⟨r, va, rfl, upd_same, Up.up (ex_know mr2.j) hva⟩)
abbrev spPut (K : PySem.W.Frag) : Sp := SpD PtD (fun a => LSM a.d) (fun a vs J H => ∃ v1 v2 v3 v4, vs = [v1, v2, v3, v4] ∧ v1 = .ref a.d.st ∧ v2 = .ref a.d.ed ∧ rPl (a.x, a.k) v3 J ∧ rSrc a.s v4 J ∧ WS K a.d a.ths a.env a.c J H ∧ WT a.ths ∧ EnvT a.env a.ths a.ts ∧ putF1 a.ts a.x a.k a.s = none ∧ SrcK a.s ∧ a.k ≤ 1000)
  (fun a v J H => v = .bl (execT 0 [] a.ths a.env (.pt a.x a.k a.s)).1 ∧ WS K a.d (execT 0 [] a.ths a.env (.pt a.x a.k a.s)).2.1 a.env a.c J H)
theorem ok_Put (T : Good K mg) : FnOk P w K mg base CX0 4 (He.ga K "_put") (fdOf K (He.ga K "_put")) ["world", "known", "place", "source"] (spPut K) := by
  refine sp_ok (k := 3) (D_sPut T) S_sPut (fun a vs J H h => by obtain ⟨_, _, _, _, rfl, _⟩ := h; rfl) (fun cdv Ar outer s H0 vs E hr => ?_)
  refine ⟨_, (pss_cons (ps_set (i := 4) S_sPut.nd rfl (by first | exact Or.inl rfl | exact Or.inr rfl) (pe_call (ok_ThingAt T) (hr.mono (by omega)) rfl (g_thing_at T) (D_sThingAt T).kp (B_sThingAt T) .nil pass0 (pa_cons (pv 0) (pa_cons (pv 1) (pa_cons (pv 2) pa_nil)))))
  (pss_cons (ps_if (pt_cmpR o_isN (pv 4) pe_non (nomark _)) (pss_one (ps_ret pe_bl)) pss_nil)
  (pss_cons (ps_set (i := 5) S_sPut.nd rfl (by first | exact Or.inl rfl | exact Or.inr rfl) (pe_call (ok_LookedUp T) (hr.mono (by omega)) rfl (g_looked_up T) (D_sLookedUp T).kp (B_sLookedUp T) .nil pass0 (pa_cons (pv 0) (pa_cons (pv 1) (pa_cons (pv 3) pa_nil)))))
  (pss_cons (ps_if (pt_cmpR o_isN (pv 5) pe_non (nomark _)) (pss_one (ps_ret pe_bl)) pss_nil)
  (pss_cons (ps_expr (pe_meth (pv 0) (clWorld T) (mewrite T) (ok_WorldWrite T) (hr.mono (by omega)) (B_cWorldWrite T) .nil pass0 (pa_cons (pv 4) (pa_cons (pe_ix (xL K) (pv 5) pe_int (fun _ _ => rfl)) pa_nil))))
  (pss_one (ps_ret pe_bl))))))), ?_⟩
  rintro ⟨d, ths, env, c, ts, x, k, s⟩ J0 Q G ⟨_, _, _, v4, rfl, rfl, rfl, ⟨b, rfl, hb⟩, hsr, hs, hw, he, hf, hk, hk2⟩ kk
  dsimp only at *
  obtain ⟨hr, hwr, hf⟩ := putF_N hf
  walk_at "gr"
  refine use_sp G ⟨d, ths, env, c, ts, x, k⟩ ⟨_, _, _, rfl, rfl, rfl, ⟨b, rfl, hb⟩, hs, hw, he, hr, hk2⟩ (fun _ z => z.elim) ?_
  rintro v J1 H1 e1 g1 G1 hv
  dsimp only at hv
  subst hv
  have hs1 := hs.step g1
  cases ep : placeT ths env x k with
  | none =>
    have ex : execT 0 [] ths env (.pt x k s) = (false, ths, env) := by unfold execT; rw [ep]
    rw [ex] at kk
    walk_at "gr"
    exact kk _ _ _ G1 ⟨rfl, hs1⟩
  | some n =>
    obtain ⟨t, y, ht, hkt, e2, c2⟩ := place_ok hw he hr ep
    rw [tyOf_of ht] at hwr hf
    have hd : t.drop k = t.getD k "" :: t.drop (k + 1) := by
      rw [List.drop_eq_getElem_cons hkt]
      simp [List.getD, List.getElem?_eq_getElem hkt]
    dsimp only [oNum]
    walk_at "gr"
    refine use_sp G1 ⟨d, ths, env, c, ts, s, t.drop (k + 1)⟩ ⟨_, _, _, rfl, rfl, rfl, Up.up e1 hsr, hs1, hw, he, hf, hk⟩ (fun _ z => z.elim) ?_
    rintro v J2 H2 e3 g2 G2 hv
    dsimp only at hv
    have hs2 := hs1.step g2
    cases eg : giveT ths env s with
    | none =>
      rw [eg] at hv
      obtain rfl : v = .non := hv
      have ex : execT 0 [] ths env (.pt x k s) = (false, ths, env) := by unfold execT; rw [ep, eg]
      rw [ex] at kk
      walk_at "gr"
      exact kk _ _ _ G2 ⟨rfl, hs2⟩
    | some vl =>
      rw [eg] at hv
      obtain ⟨pa, xv, rfl, hpa, hxv⟩ := hv
      have ex : execT 0 [] ths env (.pt x k s) = (true, setT ths n vl, env) := by unfold execT; rw [ep, eg]
      rw [ex] at kk
      obtain ⟨wdx, ms2⟩ := hs2.s
      have hy := (hw n y e2).1
      cases ey : y.ty with
      | nil => exact absurd ey hy
      | cons r rest =>
        rw [ey, hd] at c2
        have hwr2 := ((conv_cons c2).2 hwr).1
        walk_at "gr"
        refine use_sp G2 ⟨d, ths, env, c, n, vl⟩ ⟨_, _, _, rfl, rfl, rfl, hxv, hs2, y, r, rest, e2, ey, hwr2⟩ (fun z hz => .inl (by unfold LSM; simp; exact .inr (.inr (.inr (.inr hz))))) ?_
        rintro v J3 H3 e4 g3 G3 ⟨rfl, hs3⟩
        walk_at "gr"
        exact kk _ _ _ G3 ⟨rfl, hs3⟩
end Rk
namespace Rk
open PySem PySem.Spec PyProof.Rows L2
variable {P : Program} {w : World} {K : PySem.W.Frag} {mg : Str → Option Value} {base : Heap}
/-! the program's run -/
structure AaD where
  d : LSd
  ths : List Th
  env : Env2
  c : Nat
  ts : Tys
  fns : List (Fn Ty)
  blk : List (Stm Ty)
  hh : Hp
def spAct (K : PySem.W.Frag) (n : Nat) : Sp := SpD ExD (fun a => LSM a.d) (fun a vs J H => ∃ v1 v2 v3 v4, vs = [v1, v2, v3, v4] ∧ v1 = .ref a.d.st ∧ rLst (rFn K rTy) a.fns v2 J ∧ v3 = .ref a.d.ed ∧ rStm rTy a.st v4 J ∧ WS K a.d a.ths a.env a.c J H ∧ WT a.ths ∧ EnvT a.env a.ths a.ts ∧ BlkN a.fns a.ts [a.st] ∧ FnsK a.fns ∧ StmK a.st ∧ CallOk a.fns n a.st ∧ a.ths.length + 4 * costE n ≤ 9000 ∧ a.env.length ≤ 9000 ∧ a.c + costE n ≤ 1000 ∧ a.hh = H)
  (fun a v J H => v = .bl (execT n a.fns a.ths a.env a.st).1 ∧ ∃ nw c', WS K { a.d with as := a.d.as ++ nw } (execT n a.fns a.ths a.env a.st).2.1 (execT n a.fns a.ths a.env a.st).2.2 c' J H ∧ (∀ b ∈ nw, a.hh b = none) ∧ (c' ≤ a.c + costE n ∧ a.c ≤ c') ∧ (execT n a.fns a.ths a.env a.st).2.1.length + 4 * a.c ≤ a.ths.length + 4 * c')
def spActAll (K : PySem.W.Frag) (n : Nat) : Sp := SpD AaD (fun a => LSM a.d) (fun a vs J H => ∃ v1 v2 v3 v4, vs = [v1, v2, v3, v4] ∧ v1 = .ref a.d.st ∧ rLst (rFn K rTy) a.fns v2 J ∧ v3 = .ref a.d.ed ∧ rLst (rStm rTy) a.blk v4 J ∧ WS K a.d a.ths a.env a.c J H ∧ WT a.ths ∧ EnvT a.env a.ths a.ts ∧ BlkN a.fns a.ts a.blk ∧ FnsK a.fns ∧ (∀ st ∈ a.blk, StmK st ∧ CallOk a.fns n st) ∧ a.ths.length + 4 * (a.blk.length * costE n) ≤ 9000 ∧ a.env.length + a.blk.length ≤ 9000 ∧ a.c + a.blk.length * costE n ≤ 1000 ∧ a.hh = H)
  (fun a v J H => v = .bl (runB (execT n a.fns) a.ths a.env a.blk).1 ∧ ∃ nw c', WS K { a.d with as := a.d.as ++ nw } (runB (execT n a.fns) a.ths a.env a.blk).2.1 (runB (execT n a.fns) a.ths a.env a.blk).2.2 c' J H ∧ (∀ b ∈ nw, a.hh b = none) ∧ (c' ≤ a.c + a.blk.length * costE n ∧ a.c ≤ c') ∧ (runB (execT n a.fns) a.ths a.env a.blk).2.1.length + 4 * a.c ≤ a.ths.length + 4 * c')
theorem lsm_mono {d : LSd} {nw : List Addr} {hh : Hp} (h : ∀ b ∈ nw, hh b = none) : ∀ z, LSM ⟨d.st, d.tl, d.bl, d.as ++ nw, d.ed⟩ z → LSM d z ∨ hh z = none := by
  intro z hz
  unfold LSM at hz ⊢
  simp only [List.mem_cons, List.mem_append] at hz ⊢
  rcases hz with e | e | e | e | e | e
  · exact .inl (.inl e)
  · exact .inl (.inr (.inl e))
  · exact .inl (.inr (.inr (.inl e)))
  · exact .inl (.inr (.inr (.inr (.inl e))))
  · exact .inl (.inr (.inr (.inr (.inr e))))
  · exact .inr (h z e)
theorem step_ActAll (T : Good K mg) {L : Nat} (hL : 8 ≤ L) (n : Nat) (GA : FnOk P w K mg base CX0 L (He.ga K "act") (fdOf K (He.ga K "act")) ["world", "functions", "known", "statement"] (spAct K n)) : FnOk P w K mg base CX0 (L + 1) (He.ga K "act_all") (fdOf K (He.ga K "act_all")) ["world", "functions", "known", "statements"] (spActAll K n) := by
  refine sp_ok (k := L) (D_sActAll T) S_sActAll (fun a vs J H h => by obtain ⟨_, _, _, _, rfl, _⟩ := h; rfl) (fun cdv Ar outer s H0 vs E hr => ?_)
  refine ⟨_, (pss_cons (ps_for PassesOwn.never rfl (piL K (pv 3)) (pg_name (i := 4) S_sActAll.nd rfl (by first | exact Or.inl rfl | exact Or.inr rfl))
  (pss_one (ps_if (pt_not (pt_val (pe_call GA (hr.mono (by omega)) rfl (gact T) (D_sAct T).kp (B_sAct T) .nil pass0 (pa_cons (pv 0) (pa_cons (pv 1) (pa_cons (pv 2) (pa_cons (pv 4) pa_nil))))))) (pss_one (ps_ret pe_bl)) pss_nil)))
  (pss_one (ps_ret pe_bl))), ?_⟩
  rintro ⟨d, ths, env, c, ts, fns, blk, hh⟩ J0 Q G ⟨_, v2, _, _, rfl, rfl, hfns, rfl, ⟨l, xs, rfl, hl, hxs⟩, hs, hw, he, hb, hF, hk, hl1, hl2, hl3, rfl⟩ kk
  dsimp only at *
  walk_at "gr"
  refine k_forL G hl (fun j σ' J' H' => ∃ w4 thj enj tsj nwj cj, σ' = [some (.ref d.st), some v2, some (.ref d.ed), some (.ref l), w4] ∧ WS K ⟨d.st, d.tl, d.bl, d.as ++ nwj, d.ed⟩ thj enj cj J' H' ∧
      WT thj ∧ EnvT enj thj tsj ∧ BlkN fns tsj (blk.drop j) ∧ runB (execT n fns) ths env blk = runB (execT n fns) thj enj (blk.drop j) ∧ (∀ b ∈ nwj, hh b = none) ∧ cj ≤ c + j * costE n ∧ c ≤ cj ∧ thj.length + 4 * c ≤ ths.length + 4 * cj ∧ tsj.length ≤ ts.length + j)
    ⟨_, ths, env, ts, [], c, rfl, by simpa using hs, hw, he, by rw [List.drop_zero]; exact hb, by rw [List.drop_zero], by simp, by omega, Nat.le_refl _, by omega, by omega⟩ ?_ ?_
  · rintro j x σ' J7 H7 hx e7 G7 ⟨w4, thj, enj, tsj, nwj, cj, rfl, hs7, hw7, he7, hb7, hrun, hnw7, hcj1, hcj2, hlj, htj⟩
    obtain ⟨st', hst1, hst2⟩ := hxs.at hx
    have hj3 : j < blk.length := (List.getElem?_eq_some_iff.mp hst1).1
    obtain ⟨hk1, hk2⟩ := hk st' (List.mem_of_getElem? hst1)
    have hdrop : blk.drop j = st' :: blk.drop (j + 1) := by
      rw [← (List.getElem?_eq_some_iff.mp hst1).2]; exact List.drop_eq_getElem_cons hj3
    rw [hdrop] at hb7 hrun
    have hmul : (j + 1) * costE n = j * costE n + costE n := Nat.succ_mul _ _
    have hmul2 : (j + 1) * costE n ≤ blk.length * costE n := Nat.mul_le_mul_right _ hj3
    have henl : enj.length ≤ ts.length + j := by rw [he7.1]; exact htj
    have henv := he.1
    have hkept := execT_ok hF.n n thj enj tsj st' hw7 he7 ⟨hb7.1, hb7.2.1, trivial⟩
    walk_at "gr"
    unfold spAct
    refine use_sp G7 ⟨⟨d.st, d.tl, d.bl, d.as ++ nwj, d.ed⟩, thj, enj, cj, tsj, fns, st', H7⟩ ⟨_, _, _, _, rfl, rfl, Up.up e7 hfns, rfl, Up.up e7 hst2, hs7, hw7, he7, ⟨hb7.1, hb7.2.1, trivial⟩, hF, hk1, hk2, by show thj.length + 4 * costE n ≤ 9000; omega, by show enj.length ≤ 9000; omega, by show cj + costE n ≤ 1000; omega, rfl⟩ (lsm_mono hnw7) ?_
    rintro v8 J8 H8 e8 g8 G8 ⟨hv8, nw8, c8, hs8, hnw8, hc8, hl8⟩
    dsimp only at hv8 hs8 hnw8 hc8 hl8
    subst hv8
    have hnwA : ∀ b ∈ nwj ++ nw8, hh b = none := by
      intro b hb
      rcases List.mem_append.mp hb with e | e
      · exact hnw7 b e
      · exact G7.al _ (hnw8 b e)
    have hs8 : WS K ⟨d.st, d.tl, d.bl, d.as ++ (nwj ++ nw8), d.ed⟩ (execT n fns thj enj st').2.1 (execT n fns thj enj st').2.2 c8 J8 H8 := by rw [← List.append_assoc]; exact hs8
    cases hb8 : (execT n fns thj enj st').1 with
    | false =>
      have hr8 : runB (execT n fns) thj enj (st' :: blk.drop (j + 1)) = (false, (execT n fns thj enj st').2) := by
        unfold runB
        rw [hb8]
        rfl
      rw [hr8] at hrun
      walk_at "gr"
      exact kk _ _ _ G8 ⟨by rw [hrun], nwj ++ nw8, c8, by rw [hrun]; exact hs8, hnwA, ⟨by omega, by omega⟩, by rw [hrun]; show (execT n fns thj enj st').2.1.length + _ ≤ _; omega⟩
    | true =>
      have hr8 : runB (execT n fns) thj enj (st' :: blk.drop (j + 1)) = runB (execT n fns) (execT n fns thj enj st').2.1 (execT n fns thj enj st').2.2 (blk.drop (j + 1)) := by
        rw [runB, hb8]
        rfl
      rw [hr8] at hrun
      walk_at "gr"
      exact ⟨_, e7.trans e8, G8, _, _, _, _, _, c8, rfl, hs8, hkept.w, hkept.e hb8, hb7.2.2, hrun, hnwA, by omega, by omega, by omega, by
        have : (grow tsj st').length ≤ tsj.length + 1 := by cases st' <;> simp [grow]
        omega⟩
  · rintro σ' J7 H7 e7 G7 ⟨w4, thj, enj, tsj, nwj, cj, rfl, hs7, hw7, he7, hb7, hrun, hnw7, hcj1, hcj2, hlj, htj⟩
    rw [hxs.1] at hrun hcj1
    rw [List.drop_of_length_le (Nat.le_refl _)] at hrun
    have hrun : runB (execT n fns) ths env blk = (true, thj, enj) := hrun
    walk_at "gr"
    exact kk _ _ _ G7 ⟨by rw [hrun], nwj, cj, by rw [hrun]; exact hs7, hnw7, ⟨by omega, by omega⟩, by rw [hrun]; exact hlj⟩
end Rk
namespace Rk
open PySem PySem.Spec PyProof.Rows L2
variable {P : Program} {w : World} {K : PySem.W.Frag} {mg : Str → Option Value} {base : Heap}
structure CaD where
  d : LSd
  ths : List Th
  env : Env2
  c : Nat
  ts : Tys
  fns : List (Fn Ty)
  f : Str
  ss : List Src
  hh : Hp
def spCall (K : PySem.W.Frag) (m : Nat) : Sp := SpD CaD (fun a => LSM a.d) (fun a vs J H => ∃ v1 v2 v3 v4 v5, vs = [v1, v2, v3, v4, v5] ∧ v1 = .ref a.d.st ∧ rLst (rFn K rTy) a.fns v2 J ∧ v3 = .ref a.d.ed ∧ v4 = .str a.f ∧ rLst rSrc a.ss v5 J ∧ WS K a.d a.ths a.env a.c J H ∧ WT a.ths ∧ EnvT a.env a.ths a.ts ∧ BlkN a.fns a.ts [.cl a.f a.ss] ∧ FnsK a.fns ∧ (∀ s ∈ a.ss, SrcK s) ∧ CallOk a.fns (m + 1) (.cl a.f a.ss) ∧ a.ths.length + 2 + 4 * (3 * costE m) ≤ 9000 ∧ a.c + 3 * costE m ≤ 1000 ∧ a.hh = H)
  (fun a v J H => v = .bl (callT (execT m a.fns) a.fns a.ths a.env a.f a.ss).1 ∧ ∃ nw c', WS K { a.d with as := a.d.as ++ nw } (callT (execT m a.fns) a.fns a.ths a.env a.f a.ss).2.1 a.env c' J H ∧ (∀ b ∈ nw, a.hh b = none) ∧ (c' ≤ a.c + 3 * costE m ∧ a.c ≤ c') ∧ (callT (execT m a.fns) a.fns a.ths a.env a.f a.ss).2.1.length + 4 * a.c ≤ a.ths.length + 2 + 4 * c')
theorem step_Act (T : Good K mg) {L : Nat} (hL : 8 ≤ L) (n : Nat) {spc : Sp} (GC : FnOk P w K mg base CX0 L (He.ga K "_call") (fdOf K (He.ga K "_call")) ["world", "functions", "known", "name", "sources"] spc) (h0 : ∀ vs H Q E, 0 < n → spCall K (n - 1) vs H Q E → spc vs H Q E) : FnOk P w K mg base CX0 (L + 1) (He.ga K "act") (fdOf K (He.ga K "act")) ["world", "functions", "known", "statement"] (spAct K n) := by
  refine sp_ok (k := L) (D_sAct T) S_sAct (fun a vs J H h => by obtain ⟨_, _, _, _, rfl, _⟩ := h; rfl) (fun cdv Ar outer s H0 vs E hr => ?_)
  refine ⟨_, (pss_cons (ps_fldaug (pv 0) pe_int in_add)
  (pss_cons (ps_if (pt_cmpR op_gt (pFld K (pv 0) rfl) (pe_gint rfl (iMOST_EXECUTED T)) (nomark _)) (pss_one ps_never) pss_nil)
  (pss_cons (ps_if (pt_cmpR op_eq (pe_ix (xT K) (pv 3) pe_int (fun _ _ => rfl)) pe_str (nomark _)) (pss_one (ps_ret (pe_call GC (hr.mono (by omega)) rfl (g_call T) (D_sCall T).kp (B_sCall T) .nil pass0 (pa_cons (pv 0) (pa_cons (pv 1) (pa_cons (pv 2) (pa_cons (pe_ix (xT K) (pv 3) pe_int (fun _ _ => rfl)) (pa_cons (pe_ix (xT K) (pv 3) pe_int (fun _ _ => rfl)) pa_nil)))))))) pss_nil)
  (pss_cons (ps_if (pt_cmpR op_eq (pe_ix (xT K) (pv 3) pe_int (fun _ _ => rfl)) pe_str (nomark _)) (pss_one (ps_ret (pe_call (ok_Put T) (hr.mono (by omega)) rfl (g_put T) (D_sPut T).kp (B_sPut T) .nil pass0 (pa_cons (pv 0) (pa_cons (pv 2) (pa_cons (pe_ix (xT K) (pv 3) pe_int (fun _ _ => rfl)) (pa_cons (pe_ix (xT K) (pv 3) pe_int (fun _ _ => rfl)) pa_nil))))))) pss_nil)
  (pss_cons (ps_set (i := 4) S_sAct.nd rfl (by first | exact Or.inl rfl | exact Or.inr rfl) (pe_call (ok_LookedUp T) (hr.mono (by omega)) rfl (g_looked_up T) (D_sLookedUp T).kp (B_sLookedUp T) .nil pass0 (pa_cons (pv 0) (pa_cons (pv 2) (pa_cons (pe_ix (xT K) (pv 3) pe_int (fun _ _ => rfl)) pa_nil)))))
  (pss_cons (ps_if (pt_cmpR o_isN (pv 4) pe_non (nomark _)) (pss_one (ps_ret pe_bl)) pss_nil)
  (pss_cons (ps_dput (hu_of hr) (pv 2) (pe_ix (xT K) (pv 3) pe_int (fun _ _ => rfl)) (pe_meth (pv 0) (clWorld T) (memake T) (ok_WorldMake T) (hr.mono (by omega)) (B_cWorldMake T) .nil pass0 (pa_cons (pe_ix (xT K) (pv 3) pe_int (fun _ _ => rfl)) (pa_cons (pe_ix (xT K) (pv 3) pe_int (fun _ _ => rfl)) (pa_cons (pe_ix (xL K) (pv 4) pe_int (fun _ _ => rfl)) pa_nil)))) rfl)
  (pss_one (ps_ret pe_bl))))))))), ?_⟩
  rintro ⟨d, ths, env, c, ts, fns, st, hh⟩ J0 Q G ⟨_, v2, _, v4, rfl, rfl, hfns, rfl, hst, hs, hw, he, hb, hF, hk, hc, hl1, hl2, hl3, rfl⟩ kk
  dsimp only at *
  have zs := sizeLine_eq
  have hcp := costE_pos n
  obtain ⟨wdx, ms⟩ := hs.s
  have hnd := hs.nd
  simp only [List.nodup_cons, List.mem_cons, not_or] at hnd
  obtain ⟨⟨n1, n2, n3, n4⟩, ⟨n5, n6, n7⟩, ⟨n8, n9⟩, n10, n11⟩ := hnd
  walk_at "gr"
  refine ⟨_, _, _, _, _, rfl, ms.h, clWorld T, naWorld_executed T, rfl, ?_⟩
  walk_at "gr"
  refine ⟨_, _, rfl, rfl, _, _, ms.h, by show (3 : Nat) < 1000; decide, ?_⟩
  have g1 := mut_one (o' := .ins (He.ga K "World") wdx [("things", .ref d.tl), ("breaches", .ref d.bl), ("executed", .int ((c : Int) + 1))]) G ms
  have G1 := G.mut (o := .ins (He.ga K "World") wdx [("things", .ref d.tl), ("breaches", .ref d.bl), ("executed", .int ((c : Int) + 1))]) ms.j (.inl (by unfold LSM; simp))
  have ms1 := ms.set (o' := .ins (He.ga K "World") wdx [("things", .ref d.tl), ("breaches", .ref d.bl), ("executed", .int ((c : Int) + 1))])
  change Ends.nx _ _ (upd hh d.st (.ins (He.ga K "World") wdx [("things", .ref d.tl), ("breaches", .ref d.bl), ("executed", .int ((c : Int) + 1))]))
  generalize upd hh d.st (.ins (He.ga K "World") wdx [("things", .ref d.tl), ("breaches", .ref d.bl), ("executed", .int ((c : Int) + 1))]) = H1 at *
  have hs1 : WS K d ths env (c + 1) J0 H1 := by
    obtain ⟨kvs, me, hent⟩ := hs.e
    exact ⟨⟨wdx, ms1⟩, hs.t.step g1 (fun e => n1 e.symm), hs.b.step g1 (fun e => n2 e.symm), hs.a.step g1 (fun a ha e => n4 (e ▸ ha)), ⟨kvs, me.step g1 (fun e => n3 e.symm), hent⟩, hs.nd⟩
  walk_at "gr"
  refine ifF (by simp; omega) ?_
  cases st with
  | pt x k s =>
    obtain ⟨a, b, sv, rfl, ha, hb2, hsr⟩ := hst
    rw [execT_pt] at kk
    walk_at "gr"
    change spPut K _ _ _ _
    refine use_sp G1 ⟨d, ths, env, c + 1, ts, x, k, s⟩ ⟨_, _, _, _, rfl, rfl, rfl, ⟨b, rfl, hb2⟩, hsr, hs1, hw, he, hb.1, hk.1, hk.2⟩ (fun _ z => .inl z) ?_
    rintro v J2 H2 e2 g2 G2 ⟨hv, hs2⟩
    dsimp only at hv hs2
    have hex : (execT 0 [] ths env (.pt x k s)).2.2 = env ∧ (execT 0 [] ths env (.pt x k s)).2.1.length = ths.length := by
      unfold execT
      cases placeT ths env x k with
      | none => exact ⟨rfl, rfl⟩
      | some m =>
        cases giveT ths env s with
        | none => exact ⟨rfl, rfl⟩
        | some w => exact ⟨rfl, setT_len _ _ _⟩
    exact kk _ _ _ G2 ⟨hv, [], c + 1, by rw [hex.1]; simpa using hs2, by simp, ⟨by omega, by omega⟩, by rw [hex.2]; omega⟩
  | lt x t s =>
    obtain ⟨a, kv, sv, rfl, ha, hkv, hsr⟩ := hst
    obtain ⟨hsf, ⟨hx, ht⟩, _⟩ := hb
    have hsf : srcF ts s (t.drop 1) = none := hsf
    have hex : execT n fns ths env (.lt x t s) = match giveT ths env s with
      | none => (false, ths, env)
      | some v => (true, ths ++ [⟨x, t, v⟩], env ++ [(x, ths.length)]) := by cases n <;> rfl
    walk_at "gr"
    change spLookedUp K _ _ _ _
    refine use_sp G1 ⟨d, ths, env, c + 1, ts, s, t.drop 1⟩ ⟨_, _, _, rfl, rfl, rfl, hsr, hs1, hw, he, hsf, hk⟩ (fun _ z => z.elim) ?_
    rintro v J2 H2 e2 g2 G2 hv
    dsimp only at hv
    have hs2 := hs1.step g2
    cases eg : giveT ths env s with
    | none =>
      rw [eg] at hv hex
      obtain rfl : v = .non := hv
      rw [hex] at kk
      walk_at "gr"
      exact kk _ _ _ G2 ⟨rfl, [], c + 1, by simpa using hs2, by simp, ⟨by omega, by omega⟩, by show ths.length + _ ≤ _; omega⟩
    | some vl =>
      rw [eg] at hv hex
      obtain ⟨pa, xv, rfl, hpa, hxv⟩ := hv
      rw [hex] at kk
      obtain ⟨wdx2, ms2⟩ := hs2.s
      walk_at "gr"
      change spWorldMake K _ _ _ _
      refine use_sp G2 ⟨d, ths, env, c + 1, x, t, vl, H2⟩ ⟨_, _, _, _, rfl, rfl, rfl, Up.up e2 hkv, hxv, hs2, by show ths.length ≤ 10000; omega, rfl⟩ (fun z hz => .inl (by subst hz; unfold LSM; simp)) ?_
      rintro v J3 H3 e3 g3 G3 ⟨rfl, b, hb0, hs3⟩
      dsimp only at hb0 hs3
      obtain ⟨kvs, me3, hent3⟩ := hs3.e
      walk_at "gr"
      refine k_dputM G3 me3 (.inl (by unfold LSM; simp)) (by rw [hent3.1]; omega) ?_
      intro H4 g4 G4 me4
      have hbH : hh b = none := G2.al _ hb0
      have hs4 : WS K ⟨d.st, d.tl, d.bl, d.as ++ [b], d.ed⟩ (ths ++ [⟨x, t, vl⟩]) (env ++ [(x, ths.length)]) (c + 1) J3 H4 := by
        have hq := hs3.nd
        simp only [List.nodup_cons, List.mem_cons, not_or] at hq
        obtain ⟨⟨q1, q2, q3, q4⟩, ⟨q5, q6, q7⟩, ⟨q8, q9⟩, q10, q11⟩ := hq
        obtain ⟨wdx3, ms3⟩ := hs3.s
        exact ⟨⟨wdx3, ms3.step g4 q3⟩, hs3.t.step g4 q6, hs3.b.step g4 q8, hs3.a.step g4 (fun z hz e => q10 (e ▸ hz)), ⟨_, me4, entR_put hent3 (he.none hx) rfl⟩, hs3.nd⟩
      walk_at "gr"
      exact kk _ _ _ G4 ⟨rfl, [b], c + 1, hs4, by simpa using hbH, ⟨by omega, by omega⟩, by show (ths ++ [_]).length + _ ≤ _; rw [List.length_append]; simp; omega⟩
  | cl f ss =>
    cases n with
    | zero => exact hc.elim
    | succ m =>
      obtain ⟨a, l, xs, rfl, ha, hl, hxs⟩ := hst
      have hce : costE (m + 1) = 1 + 3 * costE m := rfl
      rw [hce] at hl1 hl3
      walk_at "gr"
      refine h0 _ _ _ _ (Nat.succ_pos m) ?_
      show spCall K m _ _ _ _
      unfold spCall
      refine use_sp G1 ⟨d, ths, env, c + 1, ts, fns, f, ss, H1⟩ ⟨_, _, _, _, _, rfl, rfl, hfns, rfl, rfl, ⟨l, xs, rfl, hl, hxs⟩, hs1, hw, he, hb, hF, hk, hc, by show ths.length + 2 + _ ≤ _; omega, by show c + 1 + _ ≤ _; omega, rfl⟩ (fun _ z => .inl z) ?_
      rintro v J2 H2 e2 g2 G2 ⟨hv, nw, c', hs2, hnw, hc', hlen⟩
      dsimp only at hv hs2 hnw hc' hlen
      have hex : execT (m + 1) fns ths env (.cl f ss) = callT (execT m fns) fns ths env f ss := rfl
      have hen : (callT (execT m fns) fns ths env f ss).2.2 = env := by
        unfold callT
        cases giveAll ths env ss with
        | none => rfl
        | some vs => cases fnOf fns f <;> rfl
      rw [hex] at kk
      refine kk _ _ _ G2 ⟨hv, nw, c', by rw [hen]; exact hs2, fun b hb => G1.al _ (hnw b hb), ⟨by rw [hce]; omega, by omega⟩, by omega⟩
end Rk
namespace Rk
open PySem PySem.Spec PyProof.Rows L2
variable {P : Program} {w : World} {K : PySem.W.Frag} {mg : Str → Option Value} {base : Heap}
theorem step_Call (T : Good K mg) {L : Nat} (hL : 8 ≤ L) (m : Nat) (GA : FnOk P w K mg base CX0 L (He.ga K "act_all") (fdOf K (He.ga K "act_all")) ["world", "functions", "known", "statements"] (spActAll K m)) : FnOk P w K mg base CX0 (L + 1) (He.ga K "_call") (fdOf K (He.ga K "_call")) ["world", "functions", "known", "name", "sources"] (spCall K m) := by
  refine sp_ok (k := L) (D_sCall T) S_sCall (fun a vs J H h => by obtain ⟨_, _, _, _, _, rfl, _⟩ := h; rfl) (fun cdv Ar outer s H0 vs E hr => ?_)
  refine ⟨_, (pss_cons (ps_set (i := 5) S_sCall.nd rfl (by first | exact Or.inl rfl | exact Or.inr rfl) (pe_call (ok_AllLookedUp T) (hr.mono (by omega)) rfl (g_all_looked_up T) (D_sAllLookedUp T).kp (B_sAllLookedUp T) .nil pass0 (pa_cons (pv 0) (pa_cons (pv 2) (pa_cons (pv 4) pa_nil)))))
  (pss_cons (ps_if (pt_cmpR o_isN (pv 5) pe_non (nomark _)) (pss_one (ps_ret pe_bl)) pss_nil)
  (pss_cons (ps_set (i := 6) S_sCall.nd rfl (by first | exact Or.inl rfl | exact Or.inr rfl) (pe_call (ok_FunctionOf T) (hr.mono (by omega)) rfl (gfunction_of T) (D_sFunctionOf T).kp (B_sFunctionOf T) .nil pass0 (pa_cons (pv 1) (pa_cons (pv 3) pa_nil))))
  (pss_cons (ps_set (i := 7) S_sCall.nd rfl (by first | exact Or.inl rfl | exact Or.inr rfl) pe_dnewK)
  (pss_cons (ps_for PassesOwn.never rfl (piZ K (by rfl) (f_zip T) (pa_cons (pFld K (pv 6) rfl) (pa_cons (pv 5) pa_nil))) (pgT K (n := 2) rfl (pgs_cons (pgT K (n := 2) rfl (pgs_cons (pg_name (i := 8) S_sCall.nd rfl (by first | exact Or.inl rfl | exact Or.inr rfl)) (pgs_cons (pg_name (i := 9) S_sCall.nd rfl (by first | exact Or.inl rfl | exact Or.inr rfl)) pgs_nil))) (pgs_cons (pg_name (i := 10) S_sCall.nd rfl (by first | exact Or.inl rfl | exact Or.inr rfl)) pgs_nil)))
  (pss_one (ps_dput (hu_of hr) (pv 7) (pv 8) (pe_meth (pv 0) (clWorld T) (memake T) (ok_WorldMake T) (hr.mono (by omega)) (B_cWorldMake T) .nil pass0 (pa_cons (pv 8) (pa_cons (pv 9) (pa_cons (pv 10) pa_nil)))) rfl)))
  (pss_one (ps_ret (pe_call GA (hr.mono (by omega)) rfl (gact_all T) (D_sActAll T).kp (B_sActAll T) .nil pass0 (pa_cons (pv 0) (pa_cons (pv 1) (pa_cons (pv 7) (pa_cons (pFld K (pv 6) rfl) pa_nil)))))))))))), ?_⟩
  rintro ⟨d, ths, env, c, ts, fns, f, ss, hh⟩ J0 Q G ⟨_, v2, _, _, v5, rfl, rfl, hfns, rfl, rfl, hss, hs, hw, he, hb, hF, hk, hc, hl1, hl3, rfl⟩ kk
  dsimp only at *
  have zs := sizeLine_eq
  obtain ⟨hargF, ⟨g, hg, hlen⟩, _⟩ := hb
  have hargF : argF ts ((fnOf fns f).map (·.ps) |>.getD []) ss = none := hargF
  rw [hg] at hargF
  have ha0 : argF ts g.ps ss = none := hargF
  obtain ⟨gk1, gk2, gk3, gk4⟩ := hF.k f g hg
  have hnd := hs.nd
  simp only [List.nodup_cons, List.mem_cons, not_or] at hnd
  obtain ⟨⟨n1, n2, n3, n4⟩, ⟨n5, n6, n7⟩, ⟨n8, n9⟩, n10, n11⟩ := hnd
  walk_at "gr"
  change spAllLookedUp K _ _ _ _
  refine use_sp G ⟨d, ths, env, c, ts, g.ps, ss⟩ ⟨_, _, _, rfl, rfl, rfl, hss, hs, hw, he, ha0, hlen, by show ss.length ≤ 1000; omega, hk⟩ (fun _ z => z.elim) ?_
  rintro v J1 H1 e1 g1 G1 hv
  dsimp only at hv
  have hs1 := hs.step g1
  cases hgv : giveAll ths env ss with
  | none =>
    rw [hgv] at hv
    obtain rfl : v = .non := hv
    have hn : callT (execT m fns) fns ths env f ss = (false, ths, env) := by
      unfold callT
      rw [hgv]
    rw [hn] at kk
    walk_at "gr"
    exact kk _ _ _ G1 ⟨rfl, [], c, by simpa using hs1, by simp, ⟨by omega, by omega⟩, by show ths.length + _ ≤ _; omega⟩
  | some vls =>
    rw [hgv] at hv
    obtain ⟨vl, va, rfl, hvl, hva⟩ := hv
    obtain ⟨hv1, hv2⟩ := giveAll_ok hw he ha0 hlen hgv
    have hcall : callT (execT m fns) fns ths env f ss = ((runB (execT m fns) (newAll ths [] g.ps vls).1 (newAll ths [] g.ps vls).2 g.body).1, (runB (execT m fns) (newAll ths [] g.ps vls).1 (newAll ths [] g.ps vls).2 g.body).2.1, env) := by
      unfold callT
      rw [hgv, hg]
    rw [hcall] at kk
    obtain ⟨hn1, hn2, hn3⟩ := newAll_ok hw (EnvT.nil ths) hv1 hv2 (hF.n.t f g hg).1
    rw [List.nil_append] at hn3
    walk_at "gr"
    change spFunctionOf K _ _ _ _
    refine use_sp G1 (fns, f) ⟨_, _, rfl, Up.up e1 hfns, rfl, g, hg⟩ (fun _ z => z.elim) ?_
    rintro v J2 H2 e2 g2 G2 ⟨g', hg', hr⟩
    dsimp only at hg' hr
    rw [hg] at hg'
    cases hg'
    obtain ⟨gc, fdx, pv, bv, rfl, hgc, ⟨lp, xp, rfl, hlp, hxp⟩, hbv⟩ := hr
    have hgc : J2 gc = some (.ins (He.ga K "Function") fdx [("name", .str g.name), ("params", .ref lp), ("body", bv)]) := hgc
    have hs2 := hs1.step g2
    walk_at "gr"
    refine k_dictM G2 ?_
    intro ed2 H3 hed hed0 me2 g3 G3
    have hs3 := hs2.step g3
    obtain ⟨kvO, meO0, hentO0⟩ := hs.e
    have hedne : hh d.ed ≠ none := by rw [meO0.h]; simp
    have hq4 : ed2 ∉ d.as := by
      intro hm
      obtain ⟨i, hi, e⟩ := List.getElem_of_mem hm
      have hi2 : i < ths.length := by rw [← hs2.a.1]; exact hi
      obtain ⟨_, _, _, m', _⟩ := hs2.a.2 i ed2 ths[i] (by rw [← e]; exact List.getElem?_eq_getElem hi) (List.getElem?_eq_getElem hi2)
      exact m'.nen hed rfl
    have hin3 : WS K ⟨d.st, d.tl, d.bl, d.as ++ [], ed2⟩ ths [] c J2 H3 := by
      obtain ⟨wdx2, ms2⟩ := hs2.s
      refine ⟨hs3.s, by simpa using hs3.t, hs3.b, by simpa using hs3.a, ⟨[], me2, EntR.nil⟩, ?_⟩
      simp only [List.append_nil, List.nodup_cons, List.mem_cons, not_or]
      exact ⟨⟨n1, n2, ms2.nen hed, n4⟩, ⟨n5, hs2.t.nen hed, n7⟩, ⟨hs2.b.nen hed, n9⟩, hq4, n11⟩
    have hvlen : va.length = g.ps.length := by rw [hva.1, hv1]
    have hM : ∀ (nw : List Addr), (∀ b ∈ nw, hh b = none) → ∀ z, LSM ⟨d.st, d.tl, d.bl, d.as ++ nw, ed2⟩ z → LSM d z ∨ hh z = none := by
      intro nw hnw z hz
      unfold LSM at hz ⊢
      simp only [List.mem_cons, List.mem_append] at hz ⊢
      rcases hz with e | e | e | e | e | e
      · exact .inl (.inl e)
      · exact .inl (.inr (.inl e))
      · exact .inl (.inr (.inr (.inl e)))
      · exact .inr (e ▸ hed0)
      · exact .inl (.inr (.inr (.inr (.inr e))))
      · exact .inr (hnw z e)
    have hO : ∀ (nw : List Addr), (∀ b ∈ nw, hh b = none) → ¬ LSM ⟨d.st, d.tl, d.bl, d.as ++ nw, ed2⟩ d.ed := by
      intro nw hnw hz
      unfold LSM at hz
      simp only [List.mem_cons, List.mem_append] at hz
      rcases hz with e | e | e | e | e | e
      · exact n3 e.symm
      · exact n6 e.symm
      · exact n8 e.symm
      · exact hedne (e ▸ hed0)
      · exact n10 e
      · exact hedne (hnw _ e)
    walk_at "gr"
    refine k_forP (walk_zip (K := K) (a := lp) (b := vl) (xs := xp) (ys := va) (n := g.ps.length) (by rw [hxp.1, hvlen]; simp)) G3 (fun j σ' J' H' => ∃ w8 w9 w10 thj enj nw, σ' = [some (.ref d.st), some v2, some (.ref d.ed), some (.str f), some v5, some (.ref vl), some (.ref gc), some (.ref ed2), w8, w9, w10] ∧ WS K ⟨d.st, d.tl, d.bl, d.as ++ nw, ed2⟩ thj enj c J' H' ∧ (∃ kvs, Mu J' H' d.ed (.dK kvs) ∧ EntR rDp env kvs J') ∧
        newAll ths [] g.ps vls = newAll thj enj (g.ps.drop j) (vls.drop j) ∧ (∀ b ∈ nw, hh b = none) ∧ thj.length = ths.length + j ∧ enj.map (·.1) = (g.ps.take j).map (·.1))
      ⟨_, _, _, ths, [], [], rfl, hin3, hs3.e, by simp, by simp, rfl, rfl⟩ (fun J' H' e e' => ⟨SqL.of (e' _ _ (e _ _ hlp)), SqL.of (e' _ _ (e _ _ (e2 _ _ hvl)))⟩) ?_ ?_ ?_
    · rintro j σ' J4 H4 J5 H5 gN ⟨w8, w9, w10, thj, enj, nw, rfl, hs4, ⟨kvs4, meO, hentO⟩, hrest⟩
      exact ⟨w8, w9, w10, thj, enj, nw, rfl, hs4.step gN, ⟨kvs4, meO.up gN, Up.up gN.jj hentO⟩, hrest⟩
    · rintro j x y T8 σ' J6 H6 hj hx hy e6 G6 hT8 ⟨w8, w9, w10, thj, enj, nw, rfl, hs6, ⟨kvs6, meO, hentO⟩, hna, hnw, htl, henm⟩
      have hp1 := List.getElem?_eq_getElem hj
      have hw1 : vls[j]? = some (vls[j]'(by omega)) := List.getElem?_eq_getElem _
      obtain ⟨px1, hpx1, cp, kv1, rfl, hcp, hkv1⟩ := hxp.at' hp1
      obtain ⟨vx1, hvx1, hvx2⟩ := hva.at' hw1
      have hx : xp[j]? = some x := hx
      have hy : va[j]? = some y := hy
      rw [hpx1] at hx
      rw [hvx1] at hy
      cases hx
      cases hy
      have hlk : enj.lookup g.ps[j].1 = none := by
        refine lookup_none_of ?_
        rw [henm]
        intro hm
        have h1 := lookup_some_of hm
        rw [nodup_pre2 (hF.n.t f g hg).2 (split_at hp1)] at h1
        cases h1
      have henl : enj.length = j := by
        have := congrArg List.length henm
        simp at this; omega
      obtain ⟨wdx6, ms6⟩ := hs6.s
      walk_at "gr"
      change spWorldMake K _ _ _ _
      refine use_sp G6 ⟨⟨d.st, d.tl, d.bl, d.as ++ nw, ed2⟩, thj, enj, c, g.ps[j].1, g.ps[j].2, vls[j]'(by omega), H6⟩ ⟨_, _, _, _, rfl, rfl, rfl, Up.up e6 hkv1, Up.up (e2.trans e6) hvx2, hs6, by show thj.length ≤ 10000; omega, rfl⟩ (fun z hz => .inl (by subst hz; unfold LSM; simp)) ?_
      rintro v J7 H7 e7 g7 G7 ⟨rfl, b7, hb7, hs7⟩
      dsimp only at hb7 hs7 g7
      obtain ⟨kvs7, me7, hent7⟩ := hs7.e
      have hbh : hh b7 = none := G6.al _ hb7
      have hnwA : ∀ b ∈ nw ++ [b7], hh b = none := by
        intro z hz
        rcases List.mem_append.mp hz with e | e
        · exact hnw z e
        · obtain rfl : z = b7 := by simpa using e
          exact hbh
      have mO7 := meO.step g7 (fun e => n6 e.symm)
      walk_at "gr"
      refine k_dputM G7 me7 (.inr hed0) (by rw [hent7.1]; omega) ?_
      intro H8 g8 G8 me8
      have hq := hs7.nd
      simp only [List.nodup_cons, List.mem_cons, not_or] at hq
      obtain ⟨⟨q1, q2, q3, q4⟩, ⟨q5, q6, q7⟩, ⟨q8, q9⟩, q10, q11⟩ := hq
      obtain ⟨wdx7, ms7⟩ := hs7.s
      have hedd : ¬ d.ed = ed2 := fun e => hedne (e ▸ hed0)
      walk_at "gr"
      refine ⟨_, e6.trans e7, G8, _, _, _, thj ++ [⟨g.ps[j].1, g.ps[j].2, vls[j]'(by omega)⟩], enj ++ [(g.ps[j].1, thj.length)], nw ++ [b7], rfl, ?_, ⟨kvs6, mO7.step g8 hedd, Up.up e7 hentO⟩, ?_, hnwA, by simp [htl]; omega, ?_⟩
      · rw [← List.append_assoc]
        exact ⟨⟨wdx7, ms7.step g8 q3⟩, hs7.t.step g8 q6, hs7.b.step g8 q8, hs7.a.step g8 (fun z hz e => q10 (e ▸ hz)), ⟨_, me8, entR_put hent7 hlk rfl⟩, hs7.nd⟩
      · rw [hna, newAll_drop hp1 hw1]
      · rw [List.map_append, henm, List.take_add_one, hp1, List.map_append]
        rfl
    · rintro σ' J6 H6 e6 G6 ⟨w8, w9, w10, th1, en1, nw, rfl, hs6, ⟨kvs6, meO, hentO⟩, hna, hnw, htl, henm⟩
      rw [List.drop_of_length_le (Nat.le_refl _), List.drop_of_length_le (by omega)] at hna
      have hna : newAll ths [] g.ps vls = (th1, en1) := hna
      rw [hna] at kk hn1 hn2 hn3
      dsimp only at kk hn1 hn2 hn3
      have henl : en1.length ≤ 2 := by
        have := congrArg List.length henm
        simp at this; omega
      have hcost : g.body.length * costE m ≤ 3 * costE m := Nat.mul_le_mul_right _ gk2
      have hck : ∀ st ∈ g.body, StmK st ∧ CallOk fns m st := fun st hst => ⟨gk3 st hst, hc g hg st hst⟩
      walk_at "gr"
      show spActAll K m _ _ _ _
      unfold spActAll
      refine use_sp G6 ⟨⟨d.st, d.tl, d.bl, d.as ++ nw, ed2⟩, th1, en1, c, g.ps, fns, g.body, H6⟩ ⟨_, _, _, _, rfl, rfl, Up.up ((e1.trans e2).trans e6) hfns, rfl, Up.up e6 hbv, hs6, hn1, hn3, hF.n.b f g hg, hF, hck, by show th1.length + 4 * (g.body.length * costE m) ≤ 9000; omega, by show en1.length + g.body.length ≤ 9000; omega, by show c + g.body.length * costE m ≤ 1000; omega, rfl⟩ (hM nw hnw) ?_
      rintro v J8 H8 e8 g8 G8 ⟨hv8, nw8, c8, hs8, hnw8, hc8, hl8⟩
      dsimp only at hv8 hs8 hnw8 hc8 hl8
      have hnwA : ∀ b ∈ nw ++ nw8, hh b = none := by
        intro b hb
        rcases List.mem_append.mp hb with e | e
        · exact hnw b e
        · exact G6.al _ (hnw8 b e)
      have hq := hs8.nd
      simp only [List.nodup_cons, List.mem_cons, List.mem_append, not_or] at hq
      obtain ⟨⟨q1, q2, q3, q4⟩, ⟨q5, q6, q7⟩, ⟨q8, q9⟩, q10, q11⟩ := hq
      have hs9 : WS K ⟨d.st, d.tl, d.bl, d.as ++ (nw ++ nw8), d.ed⟩ (runB (execT m fns) th1 en1 g.body).2.1 env c8 J8 H8 := by
        refine ⟨hs8.s, by rw [← List.append_assoc]; exact hs8.t, hs8.b, by rw [← List.append_assoc]; exact hs8.a, ⟨kvs6, meO.step g8 (hO nw hnw), Up.up e8 hentO⟩, ?_⟩
        rw [← List.append_assoc]
        simp only [List.nodup_cons, List.mem_cons, List.mem_append, not_or]
        refine ⟨⟨q1, q2, n3, q4⟩, ⟨q5, n6, q7⟩, ⟨n8, q9⟩, ⟨⟨n10, fun hm => hedne (hnw _ hm)⟩, fun hm => ?_⟩, q11⟩
        exact hedne (G6.al _ (hnw8 _ hm))
      exact kk _ _ _ G8 ⟨hv8, nw ++ nw8, c8, hs9, hnwA, ⟨by omega, by omega⟩, by omega⟩
end Rk
namespace Rk
open PySem PySem.Spec PyProof.Rows L2
variable {P : Program} {w : World} {K : PySem.W.Frag} {mg : Str → Option Value} {base : Heap}
theorem ok_Runs (T : Good K mg) : ∀ n : Nat, FnOk P w K mg base CX0 (9 + 3 * n) (He.ga K "act") (fdOf K (He.ga K "act")) ["world", "functions", "known", "statement"] (spAct K n) ∧ FnOk P w K mg base CX0 (10 + 3 * n) (He.ga K "act_all") (fdOf K (He.ga K "act_all")) ["world", "functions", "known", "statements"] (spActAll K n) ∧
    FnOk P w K mg base CX0 (11 + 3 * n) (He.ga K "_call") (fdOf K (He.ga K "_call")) ["world", "functions", "known", "name", "sources"] (spCall K n)
  | 0 => by
    have h1 := step_Act (P := P) (w := w) (base := base) T (L := 8) (Nat.le_refl _) 0 (spc := fun _ _ _ _ => False) ok_never fun _ _ _ _ h => absurd h (Nat.lt_irrefl 0)
    have h2 := step_ActAll T (L := 9) (by decide) 0 h1
    exact ⟨h1, h2, step_Call T (L := 10) (by decide) 0 h2⟩
  | n + 1 => by
    obtain ⟨_, _, h0⟩ := ok_Runs T n
    have h1 := step_Act T (L := 11 + 3 * n) (by omega) (n + 1) h0 fun _ _ _ _ _ h => h
    have h2 := step_ActAll T (L := 11 + 3 * n + 1) (by omega) (n + 1) h1
    have h3 := step_Call T (L := 11 + 3 * n + 2) (by omega) (n + 1) h2
    exact ⟨h1.mono (by omega), h2.mono (by omega), h3.mono (by omega)⟩
theorem ok_ActAll3 (T : Good K mg) : FnOk P w K mg base CX0 60 (He.ga K "act_all") (fdOf K (He.ga K "act_all")) ["world", "functions", "known", "statements"] (spActAll K 3) := (ok_Runs T 3).2.1.mono (by decide)
/-- a world that is not changed any more -/
def rPThg (K : PySem.W.Frag) (t : Th) (v : V) (J : Hp) : Prop := ∃ a dx kv xv, v = .ref a ∧ J a = some (.ins (He.ga K "Thing") dx [("name", .str t.name), ("kind", kv), ("value", xv)]) ∧ rTy t.ty kv J ∧ rVl t.val xv J
instance (t : Th) (v : V) : Up (rPThg K t v) := ⟨fun e ⟨a, dx, kv, xv, h1, h2, h3, h4⟩ => ⟨a, dx, kv, xv, h1, e _ _ h2, Up.up e h3, Up.up e h4⟩⟩
def rWld (K : PySem.W.Frag) (s : List Th × Nat) (v : V) (J : Hp) : Prop := ∃ st dx tl bl xs, v = .ref st ∧ J st = some (.ins (He.ga K "World") dx [("things", .ref tl), ("breaches", .ref bl), ("executed", .int (s.2 : Int))]) ∧ J tl = some (.lst xs) ∧ AllR (rPThg K) s.1 xs J ∧ J bl = some (.lst [])
instance (s : List Th × Nat) (v : V) : Up (rWld K s v) := ⟨fun e ⟨st, dx, tl, bl, xs, h1, h2, h3, h4, h5⟩ => ⟨st, dx, tl, bl, xs, h1, e _ _ h2, e _ _ h3, Up.up e h4, e _ _ h5⟩⟩
abbrev spShownThings (K : PySem.W.Frag) : Sp := SpD (List Th × Nat) (fun _ => No) (fun a vs J H => ∃ v1, vs = [v1] ∧ rWld K a v1 J ∧ a.1.length ≤ 10000) (fun a v J _ => rLst rShown a.1 v J)
theorem ok_ShownThings (T : Good K mg) : FnOk P w K mg base CX0 1 (He.ga K "shown_things") (fdOf K (He.ga K "shown_things")) ["world"] (spShownThings K) := by
  refine sp_ok (k := 0) (D_sShownThings T) S_sShownThings (fun a vs J H h => by obtain ⟨_, rfl, _⟩ := h; rfl) (fun cdv Ar outer s H0 vs E hr => ?_)
  refine ⟨_, (pss_one (ps_ret (pe_lc (own := [("thing", 1)]) (by rfl) S_sShownThings.nd (piL K (pFld K (pv 0) rfl)) (blkOk_by (own := [("thing", 1)]) (N := ["world", "thing"]) (sc := defScope sShownThings) (by decide +kernel)) (fun _ _ _ _ _ => (pg_name (i := 1) S_sShownThings.nd rfl (by first | exact Or.inl rfl | exact Or.inr rfl))) (fun _ _ _ _ _ => pts_nil) (fun _ _ _ _ _ => (pe_tup (pa_cons (pFld K (pv 1) rfl) (pa_cons (pFld K (pv 1) rfl) (pa_cons (pFld K (pv 1) rfl) pa_nil)))))))), ?_⟩
  rintro ⟨ths, c⟩ J0 Q G ⟨_, rfl, ⟨st, dx, tl, bl, xs, rfl, hst, htl, hxs, hbl⟩, hl⟩ kk
  dsimp only at *
  walk_at "gr"
  refine k_lcFM (R := rPThg K) (S := rShown) (fun t => some t) G htl hxs (by omega) ?_ ?_
  · intro t x J1 H1 Ny Nn ht hx e1 G1 hy hn
    obtain ⟨a, tdx, kv, xv, rfl, ha, h1, h2⟩ := hx
    walk_at "gr"
    refine ⟨rfl, ?_⟩
    walk_at "gr"
    rename_i P2 J2 H2 hP2 e2 hJ2 g2 G2
    exact hy _ _ _ _ rfl g2 ⟨P2, kv, xv, rfl, hJ2, Up.up e2 h1, Up.up e2 h2⟩
  · intro D acc J1 H1 hD e1 hDJ hacc g1 G1
    rw [List.filterMap_some] at hacc
    exact kk _ _ _ G1 ⟨D, acc, rfl, hDJ, hacc⟩
theorem know_pthings {M0 : Addr → Prop} {J0 H0 H : Hp} : ∀ {as : List Addr} {ths : List Th} {J : Hp}, Gr M0 J0 H0 J H → PThR K as ths J H → as.Nodup → (∀ a ∈ as, H0 a = none) → ∃ J', Ex J J' ∧ Gr M0 J0 H0 J' H ∧ AllR (rPThg K) ths (as.map V.ref) J' ∧ ∀ b, b ∉ as → J' b = J b
  | [], [], J, G, _, _, _ => ⟨J, Ex.refl J, G, AllR.nil, fun _ _ => rfl⟩
  | [], _ :: _, _, _, h, _, _ => absurd h.1 (by simp)
  | _ :: _, [], _, _, h, _, _ => absurd h.1 (by simp)
  | a :: as, t :: ths, J, G, h, hn, h0 => by
    rw [List.nodup_cons] at hn
    obtain ⟨dx, kv, xv, m, h1, h2⟩ := h.2 0 a t rfl rfl
    have ek := ex_know (o := .ins (He.ga K "Thing") dx [("name", .str t.name), ("kind", kv), ("value", xv)]) m.j
    have G1 := G.know m.j m.h (h0 a List.mem_cons_self)
    have ht : PThR K as ths (upd J a (.ins (He.ga K "Thing") dx [("name", .str t.name), ("kind", kv), ("value", xv)])) H := by
      refine ⟨by have := h.1; simpa using this, fun i b z hb hz => ?_⟩
      obtain ⟨dx', kv', xv', m', h1', h2'⟩ := h.2 (i + 1) b z (by simpa using hb) (by simpa using hz)
      exact ⟨dx', kv', xv', m'.knw (fun e => hn.1 (e ▸ List.mem_of_getElem? hb)), Up.up ek h1', Up.up ek h2'⟩
    obtain ⟨J', e', G', hA, hk⟩ := know_pthings G1 ht hn.2 fun b hb => h0 b (List.mem_cons_of_mem _ hb)
    refine ⟨J', ek.trans e', G', hA.cons ⟨a, dx, kv, xv, rfl, e' _ _ upd_same, Up.up (ek.trans e') h1, Up.up (ek.trans e') h2⟩, fun b hb => ?_⟩
    rw [List.mem_cons, not_or] at hb
    rw [hk b hb.2, upd_ne hb.1]
theorem know_world {M0 : Addr → Prop} {J0 H0 J H : Hp} {d : LSd} {ths : List Th} {env : Env2} {c : Nat} (G : Gr M0 J0 H0 J H) (h : WS K d ths env c J H) (h0 : ∀ b, LSM d b → H0 b = none) : ∃ J', Ex J J' ∧ Gr M0 J0 H0 J' H ∧ rWld K (ths, c) (.ref d.st) J' := by
  have hnd := h.nd
  simp only [List.nodup_cons, List.mem_cons, not_or] at hnd
  obtain ⟨⟨n1, n2, n3, n4⟩, ⟨n5, n6, n7⟩, ⟨n8, n9⟩, n10, n11⟩ := hnd
  obtain ⟨J1, e1, G1, hA, hk⟩ := know_pthings G h.a n11 fun a ha => h0 a (by unfold LSM; simp [ha])
  obtain ⟨wdx, hs⟩ := h.s
  have ms : Mu J1 H d.st (.ins (He.ga K "World") wdx [("things", .ref d.tl), ("breaches", .ref d.bl), ("executed", .int (c : Int))]) := ⟨by rw [hk _ n4]; exact hs.j, hs.h⟩
  have mt : Mu J1 H d.tl (.lst (d.as.map V.ref)) := ⟨by rw [hk _ n7]; exact h.t.j, h.t.h⟩
  have mb : Mu J1 H d.bl (.lst []) := ⟨by rw [hk _ n9]; exact h.b.j, h.b.h⟩
  have G2 := G1.know ms.j ms.h (h0 _ (by unfold LSM; simp))
  have e2 := ex_know (o := .ins (He.ga K "World") wdx [("things", .ref d.tl), ("breaches", .ref d.bl), ("executed", .int (c : Int))]) ms.j
  have mt2 := mt.knw (o' := .ins (He.ga K "World") wdx [("things", .ref d.tl), ("breaches", .ref d.bl), ("executed", .int (c : Int))]) (fun e => n1 e.symm)
  have mb2 := mb.knw (o' := .ins (He.ga K "World") wdx [("things", .ref d.tl), ("breaches", .ref d.bl), ("executed", .int (c : Int))]) (fun e => n2 e.symm)
  have G3 := G2.know mt2.j mt2.h (h0 _ (by unfold LSM; simp))
  have e3 := ex_know (o := .lst (d.as.map V.ref)) mt2.j
  have mb3 := mb2.knw (o' := .lst (d.as.map V.ref)) (fun e => n5 e.symm)
  have G4 := G3.know mb3.j mb3.h (h0 _ (by unfold LSM; simp))
  have e4 := ex_know (o := .lst []) mb3.j
  exact ⟨_, ((e1.trans e2).trans e3).trans e4, G4, d.st, wdx, d.tl, d.bl, d.as.map V.ref, rfl, e4 _ _ (e3 _ _ upd_same), e4 _ _ upd_same, Up.up ((e2.trans e3).trans e4) hA, upd_same⟩
/-- what a run tells -/
def rDue (r : Bool × List Th) (v : V) (J : Hp) : Prop := ∃ a bl tl, v = .ref a ∧ J a = some (.tup [.str (ended r.1), .ref bl, tl]) ∧ J bl = some (.lst []) ∧ rLst rShown r.2 tl J
instance (r : Bool × List Th) (v : V) : Up (rDue r v) := ⟨fun e ⟨a, bl, tl, h1, h2, h3, h4⟩ => ⟨a, bl, tl, h1, e _ _ h2, e _ _ h3, Up.up e h4⟩⟩
abbrev spRun (K : PySem.W.Frag) : Sp := SpD (Pg Ty) (fun _ => No) (fun p vs J _ => ∃ v1 v2, vs = [v1, v2] ∧ rPg K rTy p v1 J ∧ PgOk p ∧ pgF p = [] ∧ RnP p) (fun p v J _ => rDue ((runP p).1, (runP p).2.1) v J)
theorem ok_Run (T : Good K mg) : FnOk P w K mg base CX0 61 (He.ga K "run") (fdOf K (He.ga K "run")) ["program", "extra"] (spRun K) := by
  refine sp_ok (k := 60) (D_sRun T) S_sRun (fun a vs J H h => by obtain ⟨_, _, rfl, _⟩ := h; rfl) (fun cdv Ar outer s H0 vs E hr => ?_)
  refine ⟨_, (pss_cons (ps_if (pt_not (pt_val (pe_call (ok_IsLetBy T) (hr.mono (by omega)) rfl (gis_let_by T) (D_sIsLetBy T).kp (B_sIsLetBy T) .nil pass0 (pa_cons (pv 0) (pa_cons (pv 1) pa_nil))))) (pss_one ps_never) pss_nil)
  (pss_cons (ps_set (i := 2) S_sRun.nd rfl (by first | exact Or.inl rfl | exact Or.inr rfl) (pe_make0 (mkWorld T) (ok_WorldInit T) (hr.mono (by omega)) rfl (gWorld T) (B_cWorldInit T) .nil pass0))
  (pss_cons (ps_set (i := 3) S_sRun.nd rfl (by first | exact Or.inl rfl | exact Or.inr rfl) (pe_call (ok_ActAll3 T) (hr.mono (by omega)) rfl (gact_all T) (D_sActAll T).kp (B_sActAll T) .nil pass0 (pa_cons (pv 2) (pa_cons (pFld K (pv 0) rfl) (pa_cons pe_dnewK (pa_cons (pFld K (pv 0) rfl) pa_nil))))))
  (pss_one (ps_ret (pe_tup (pa_cons (pe_ifExp (pt_val (pv 3)) pe_str pe_str) (pa_cons (pFld K (pv 2) rfl) (pa_cons (pe_call (ok_ShownThings T) (hr.mono (by omega)) rfl (gshown_things T) (D_sShownThings T).kp (B_sShownThings T) .nil pass0 (pa_cons (pv 2) pa_nil)) pa_nil))))))))), ?_⟩
  rintro p J0 Q G ⟨v1, v2, rfl, hp, hok, hz, hR⟩ kk
  have hc3 : costE 3 = 40 := rfl
  have hml := hR.l
  walk_at "gr"
  refine use_sp G p ⟨_, _, rfl, hp, hok, hz⟩ (fun _ z => z.elim) ?_
  rintro v J1 H1 e1 g1 G1 rfl
  walk_at "gr"
  rename_i x xdx H2 hx1 hx0 g2 G2 m2
  change spWorldInit K _ _ _ _
  refine use_sp G2 (x, H2) ⟨_, rfl, rfl, rfl, xdx, m2⟩ (fun b hb => .inr (by subst hb; exact hx0)) ?_
  rintro v J3 H3 e3 g3 G3 ⟨rfl, wdx, tl, bl, htl, hbl, htb, mt3, mb3, mw3⟩
  dsimp only at htl hbl mw3
  have htl0 : H0 tl = none := G2.al _ htl
  have hbl0 : H0 bl = none := G2.al _ hbl
  have hxt : ¬ x = tl := m2.nen htl
  have hxb : ¬ x = bl := m2.nen hbl
  obtain ⟨a, dx, fv, mv, rfl, ha, hfv, ⟨lm, xm, rfl, hlm, hxm⟩⟩ := hp
  refine ⟨rfl, ?_⟩
  walk_at "gr"
  refine k_dictM G3 ?_
  intro ed H4 hed hed0 me g4 G4
  have h4 : WS K ⟨x, tl, bl, [] ++ [], ed⟩ [] [] 0 J3 H4 := by
    refine ⟨⟨wdx, mw3.up g4⟩, mt3.up g4, mb3.up g4, ⟨rfl, fun i a t h => by simp at h⟩, ⟨[], me, EntR.nil⟩, ?_⟩
    simp only [List.append_nil, List.nodup_cons, List.mem_cons, List.not_mem_nil, or_false, not_or, List.nodup_nil, and_true, not_false_eq_true]
    exact ⟨⟨hxt, hxb, mw3.nen hed⟩, ⟨htb, mt3.nen hed⟩, mb3.nen hed⟩
  have hM : ∀ (nw : List Addr), (∀ b ∈ nw, H0 b = none) → ∀ b, LSM ⟨x, tl, bl, [] ++ nw, ed⟩ b → H0 b = none := by
    intro nw hnw b hb
    unfold LSM at hb
    simp only [List.mem_cons, List.nil_append] at hb
    rcases hb with e | e | e | e | e
    · exact e ▸ hx0
    · exact e ▸ htl0
    · exact e ▸ hbl0
    · exact e ▸ hed0
    · exact hnw b e
  have hcost : p.main.length * costE 3 ≤ 10 * costE 3 := Nat.mul_le_mul_right _ hml
  rw [hc3] at hcost
  walk_at "gr"
  show spActAll K 3 _ _ _ _
  unfold spActAll
  refine use_sp G4 ⟨⟨x, tl, bl, [] ++ [], ed⟩, [], [], 0, [], p.fns, p.main, H4⟩ ⟨_, _, _, _, rfl, rfl, Up.up (e1.trans e3) hfv, rfl, ⟨lm, xm, rfl, e3 _ _ (e1 _ _ hlm), Up.up (e1.trans e3) hxm⟩, h4, (fun i t h => by simp at h), EnvT.nil [], hR.b, hR.k, hR.s, by show 0 + 4 * (p.main.length * 40) ≤ 9000; omega, by show 0 + p.main.length ≤ 9000; omega, by show 0 + p.main.length * 40 ≤ 1000; omega, rfl⟩ (fun b hb => .inr (hM [] (by simp) b hb)) ?_
  rintro v J5 H5 e5 g5 G5 ⟨hv, nw, c', hs5, hnw, hc', hlen⟩
  dsimp only at hv hs5 hnw hc' hlen
  have hnw0 : ∀ b ∈ nw, H0 b = none := fun b hb => G4.al _ (hnw b hb)
  obtain ⟨J6, e6, G6, hW⟩ := know_world G5 hs5 (hM nw hnw0)
  dsimp only at hW
  have hrun : runB (execT 3 p.fns) [] [] p.main = runP p := rfl
  rw [hrun] at hv hW hlen
  have hlen3 : (runP p).2.1.length ≤ 10000 := by
    have h0 : ([] : List Th).length = 0 := rfl
    rw [h0] at hlen
    have : c' ≤ 0 + p.main.length * 40 := hc'.1
    omega
  obtain ⟨st, sdx, tl2, bl2, xs2, hst, hst2, htl2, hxs2, hbl2⟩ := id hW
  cases hst
  have fin : ∀ (J7 H7 : Hp), Ex J6 J7 → Gr No J0 H0 J7 H7 → ∀ tv, rLst rShown (runP p).2.1 tv J7 → ∀ J8 H8 P, Ex J7 J8 → Gr No J0 H0 J8 H8 → J8 P = some (.tup [.str (ended (runP p).1), .ref bl2, tv]) → Q (.ref P) H8 := by
    intro J7 H7 e7 G7 tv htv J8 H8 P e8 G8 hP
    exact kk _ _ _ G8 ⟨P, bl2, tv, rfl, hP, e8 _ _ (e7 _ _ hbl2), Up.up e8 htv⟩
  subst hv
  cases hb : (runP p).1 with
  | true =>
    rw [hb] at fin
    walk_at "gr"
    change spShownThings K _ _ _ _
    refine use_sp G6 ((runP p).2.1, c') ⟨_, rfl, hW, hlen3⟩ (fun _ z => z.elim) ?_
    rintro tv J7 H7 e7 g7 G7 htv
    walk_at "gr"
    rename_i P8 J8 H8 hP8 e8 hJ8 g8 G8
    exact fin J7 H7 e7 G7 tv htv J8 H8 P8 e8 G8 hJ8
  | false =>
    rw [hb] at fin
    walk_at "gr"
    change spShownThings K _ _ _ _
    refine use_sp G6 ((runP p).2.1, c') ⟨_, rfl, hW, hlen3⟩ (fun _ z => z.elim) ?_
    rintro tv J7 H7 e7 g7 G7 htv
    walk_at "gr"
    rename_i P8 J8 H8 hP8 e8 hJ8 g8 G8
    exact fin J7 H7 e7 G7 tv htv J8 H8 P8 e8 G8 hJ8
abbrev spLawTold (K : PySem.W.Frag) : Sp := spRun K
theorem ok_LawTold (T : Good K mg) : FnOk P w K mg base CX0 62 (He.ga K "_law_told") (fdOf K (He.ga K "_law_told")) ["_law_program_here", "_law_extra"] (spLawTold K) := by
  refine sp_ok (k := 61) (D_sLawTold T) S_sLawTold (fun a vs J H h => by obtain ⟨_, _, rfl, _⟩ := h; rfl) (fun cdv Ar outer s H0 vs E hr => ?_)
  refine ⟨_, (pss_one (ps_try_thru0 (pss_one (ps_ret (pe_call (ok_Run T) (hr.mono (by omega)) rfl (grun T) (D_sRun T).kp (B_sRun T) .nil pass0 (pa_cons (pv 0) (pa_cons (pv 1) pa_nil))))))), ?_⟩
  rintro p J0 Q G ⟨v1, v2, rfl, hp, hok, hz, hR⟩ kk
  walk_at "gr"
  change spRun K _ _ _ _
  refine use_sp G p ⟨_, _, rfl, hp, hok, hz, hR⟩ (fun _ z => z.elim) ?_
  rintro v J1 H1 e1 g1 G1 h
  exact kk _ _ _ G1 h
end Rk
namespace Rk
open PySem PySem.Spec PyProof.Rows L2
/-! what a closed table gives -/
theorem fafb_ok : (["fa", "fb"] : List Str).all (fun x => decide (x ∉ allNames) && !decide (x = "zq")) = true := by decide +kernel
theorem nm_inB {x : Str} (h : InB x) : NmOk x := by
  unfold NmOk nmsAll
  rcases h with h | rfl
  · exact List.mem_append_left _ h
  · exact List.mem_append_right _ (by simp)
theorem nm_zz : NmOk "zz" := List.mem_append_right _ (by simp)
theorem nm_fn {x : Str} (h : x ∈ (["fa", "fb"] : List Str)) : NmOk x := by
  refine List.mem_append_right _ ?_
  simp only [List.mem_cons, List.not_mem_nil, or_false] at h ⊢
  rcases h with rfl | rfl <;> simp
theorem srcN_of {s : Src} (h : SrcW InB s) : SrcN s := by
  have nm : ∀ {x : Str}, InB x ∨ x = "zz" → NmOk x := fun h => h.elim nm_inB fun e => e ▸ nm_zz
  cases s with
  | num n => exact h
  | null => trivial
  | val x k => exact ⟨nm h.1, h.2⟩
  | adr x k => exact ⟨nm h.1, h.2⟩
theorem srcK_of {s : Src} (h : SrcW InB s) : SrcK s := by
  cases s with
  | num n => trivial
  | null => trivial
  | val x k => exact Nat.le_trans h.2 (by decide)
  | adr x k => exact Nat.le_trans h.2 (by decide)
/-- the names of a program are in order -/
structure PgA {κ : Type} (ok : κ → Prop) (p : Pg κ) : Prop where
  w : PgW ok InB p
  nd : (nmsOf p).Nodup
  na : ∀ x ∈ nmsOf p, InB x
  l : p.main.length ≤ 10
theorem fn_name {κ : Type} {ok : κ → Prop} {p : Pg κ} (a : PgA ok p) {f : Fn κ} (hf : f ∈ p.fns) : f.name ∈ (["fa", "fb"] : List Str) := by
  have h : f.name ∈ p.fns.map (·.name) := List.mem_map_of_mem hf
  rw [a.w.n] at h
  exact List.mem_of_mem_take h
theorem mem_nms_fn {κ : Type} {p : Pg κ} {f : Fn κ} (hf : f ∈ p.fns) {x : Str} (h : x ∈ fnN f) : x ∈ nmsOf p := List.mem_append_left _ (List.mem_flatten.mpr ⟨fnN f, List.mem_map_of_mem hf, h⟩)
theorem fn_at {κ : Type} {ok : κ → Prop} {p : Pg κ} (a : PgA ok p) {f : Fn κ} (hf : f ∈ p.fns) : ∃ i, p.fns[i]? = some f ∧ FnW ok InB (p.fns.take i) f := by
  obtain ⟨i, hi, e⟩ := List.getElem_of_mem hf
  have : p.fns[i]? = some f := by rw [← e]; exact List.getElem?_eq_getElem hi
  exact ⟨i, this, a.w.f i f this⟩
theorem stN_of {κ : Type} {ok : κ → Prop} {p : Pg κ} (a : PgA ok p) {fns : List (Fn κ)} (hs : ∀ g ∈ fns, g ∈ p.fns) {st : Stm κ} (w : StmW ok InB fns st) (hn : ∀ x t s, st = .lt x t s → InB x) : StNm ok st := by
  cases st with
  | lt x t s => exact ⟨nm_inB (hn x t s rfl), w.1, srcN_of w.2⟩
  | pt x k s => exact ⟨⟨nm_inB w.1, w.2.1⟩, srcN_of w.2.2⟩
  | cl f ss =>
    obtain ⟨g, hg, h1, h2, h3⟩ := w
    obtain ⟨i, _, wg⟩ := fn_at a (hs g hg)
    refine ⟨h1 ▸ nm_fn (fn_name a (hs g hg)), ?_, fun s hs => srcN_of (h3 s hs)⟩
    have := wg.l
    omega
theorem clA_of {κ : Type} {ok : κ → Prop} {fns : List (Fn κ)} {st : Stm κ} (w : StmW ok InB fns st) : ClA fns st := by
  intro f ss e
  subst e
  obtain ⟨g, hg, h1, h2, _⟩ := w
  exact ⟨g, hg, h1, h2⟩
theorem pgNm_of {κ : Type} {ok : κ → Prop} {p : Pg κ} (a : PgA ok p) : PgNm ok p := by
  refine ⟨fun f hf => ?_, fun st hst => ?_, ?_, ?_, ?_, ?_, ?_⟩
  · obtain ⟨i, hi, w⟩ := fn_at a hf
    refine ⟨nm_fn (fn_name a hf), fun q hq => ⟨nm_inB (a.na _ (mem_nms_fn hf (List.mem_append_left _ (List.mem_map_of_mem hq)))), w.k q hq⟩, fun st hst => ?_, by have := w.l; omega, by have := w.l; omega⟩
    refine stN_of a (fun g hg => List.mem_of_mem_take hg) (w.b st hst) fun x t s e => ?_
    subst e
    exact a.na _ (mem_nms_fn hf (List.mem_append_right _ (List.mem_map_of_mem (f := (·.1)) (mem_lets.mpr ⟨s, hst⟩))))
  · refine stN_of a (fun g hg => hg) (a.w.m st hst) fun x t s e => ?_
    subst e
    exact a.na _ (List.mem_append_right _ (List.mem_map_of_mem (f := (·.1)) (mem_lets.mpr ⟨s, hst⟩)))
  · have := a.w.l; omega
  · have := a.l; omega
  · refine List.nodup_append.mpr ⟨?_, a.nd, ?_⟩
    · rw [a.w.n]
      exact List.Nodup.sublist (List.take_sublist _ _) (by decide)
    · intro x hx y hy e
      subst e
      rw [a.w.n] at hx
      have h1 := List.all_eq_true.mp fafb_ok x (List.mem_of_mem_take hx)
      simp only [Bool.and_eq_true, decide_eq_true_eq, Bool.not_eq_true', decide_eq_false_iff_not] at h1
      rcases a.na x hy with h | h
      · exact h1.1 h
      · exact h1.2 h
  · intro i f hf st hst
    exact clA_of ((a.w.f i f hf).b st hst)
  · intro st hst
    exact clA_of (a.w.m st hst)
theorem stmW_kw {κ : Type} {ok ok' : κ → Prop} (h : ∀ t, ok t → ok' t) {P : Str → Prop} {fns : List (Fn κ)} {st : Stm κ} (w : StmW ok P fns st) : StmW ok' P fns st := by
  cases st with
  | lt x t s => exact ⟨h _ w.1, w.2⟩
  | pt x k s => exact w
  | cl f ss => exact w
theorem pgA_d {p : Pg Nat} (d : PgD p) {ok : Nat → Prop} (h : ∀ n, KN n → ok n) : PgA ok p :=
  ⟨⟨d.w.n, d.w.l, fun i f hf => ⟨(d.w.f i f hf).l, fun q hq => h _ ((d.w.f i f hf).k q hq), fun st hst => stmW_kw h ((d.w.f i f hf).b st hst)⟩, fun st hst => stmW_kw h (d.w.m st hst)⟩, d.nd, d.na, d.l⟩
theorem lets_typ (tb : Tys) (b : List (Stm Nat)) : (letsOf (b.map (typS tb))).map (·.1) = (letsOf b).map (·.1) := by
  induction b with
  | nil => rfl
  | cons st r ih =>
    rw [List.map_cons, show letsOf (typS tb st :: r.map (typS tb)) = letsOf [typS tb st] ++ letsOf (r.map (typS tb)) from letsOf_append [typS tb st] _, show letsOf (st :: r) = letsOf [st] ++ letsOf r from letsOf_append [st] _, List.map_append, List.map_append, ih]
    cases st <;> rfl
theorem fnN_typ (tb : Tys) (f : Fn Nat) : fnN (typF tb f) = fnN f := by
  unfold fnN typF
  simp only [lets_typ, List.map_map]
  rfl
theorem nmsOf_typ (tb : Tys) (p : Pg Nat) : nmsOf (typP tb p) = nmsOf p := by
  unfold nmsOf typP
  simp only [lets_typ, List.map_map]
  congr 2
  exact List.map_congr_left fun f _ => fnN_typ tb f
theorem ty_ok {tb : Tys} {p : Pg Nat} (g : TbG tb p) {x : Str} {n : Nat} (h : (x, n) ∈ kindsOf p) : okT (tyOf tb x) := by
  obtain ⟨h1, h2⟩ := g.ty h
  exact ⟨h2, fun e => by rw [e] at h1; simp at h1⟩
theorem stmW_typ {tb : Tys} {fns : List (Fn Nat)} {st : Stm Nat} (w : StmW KN InB fns st) (ht : ∀ x n s, st = .lt x n s → okT (tyOf tb x)) : StmW okT InB (fns.map (typF tb)) (typS tb st) := by
  cases st with
  | lt x n s => exact ⟨ht x n s rfl, w.2⟩
  | pt x k s => exact w
  | cl f ss =>
    obtain ⟨g, hg, h1, h2, h3⟩ := w
    exact ⟨typF tb g, List.mem_map_of_mem hg, h1, by rw [h2]; simp [typF], h3⟩
theorem pgA_typ {tb : Tys} {p : Pg Nat} (d : PgD p) (g : TbG tb p) : PgA okT (typP tb p) := by
  refine ⟨⟨?_, ?_, ?_, ?_⟩, by rw [nmsOf_typ]; exact d.nd, by rw [nmsOf_typ]; exact d.na, by show (p.main.map (typS tb)).length ≤ 10; rw [List.length_map]; exact d.l⟩
  · show (p.fns.map (typF tb)).map (·.name) = (["fa", "fb"] : List Str).take (p.fns.map (typF tb)).length
    rw [List.map_map, List.length_map]
    exact d.w.n
  · show (p.fns.map (typF tb)).length ≤ 2
    rw [List.length_map]; exact d.w.l
  · intro i f hf
    have hf : (p.fns.map (typF tb))[i]? = some f := hf
    rw [List.getElem?_map] at hf
    cases e : p.fns[i]? with
    | none => rw [e] at hf; cases hf
    | some h =>
      rw [e] at hf
      obtain rfl : typF tb h = f := by simpa using hf
      have hm := List.mem_of_getElem? e
      have v := d.w.f i h e
      refine ⟨by simpa [typF] using v.l, fun q hq => ?_, fun st hst => ?_⟩
      · obtain ⟨z, hz, rfl⟩ := List.mem_map.mp hq
        exact ty_ok g (n := z.2) (mem_kinds_fn hm (List.mem_append_left _ hz))
      · obtain ⟨z, hz, rfl⟩ := List.mem_map.mp hst
        show StmW okT InB ((p.fns.map (typF tb)).take i) _
        rw [← List.map_take]
        refine stmW_typ (v.b z hz) fun x n s e => ?_
        subst e
        exact ty_ok g (n := n) (mem_kinds_fn hm (List.mem_append_right _ (mem_lets.mpr ⟨s, hz⟩)))
  · intro st hst
    obtain ⟨z, hz, rfl⟩ := List.mem_map.mp hst
    refine stmW_typ (d.w.m z hz) fun x n s e => ?_
    subst e
    exact ty_ok g (n := n) (mem_kinds_main (mem_lets.mpr ⟨s, hz⟩))
/-! the run's premises -/
theorem blkN_of {tb : Tys} {fns : List (Fn Ty)} : ∀ {b : List (Stm Nat)} {ds : List (Str × Nat)}, (∀ i s, b[i]? = some s → stmF (tyE tb (ds ++ letsOf (b.take i))) fns (typS tb s) = none ∧ (match typS tb s with
    | .lt x t _ => (tyE tb (ds ++ letsOf (b.take i))).lookup x = none ∧ t ≠ []
    | .pt _ _ _ => True
    | .cl f ss => ∃ g, fnOf fns f = some g ∧ ss.length = g.ps.length)) → BlkN fns (tyE tb ds) (b.map (typS tb))
  | [], _, _ => trivial
  | st :: r, ds, h => by
    obtain ⟨h1, h2⟩ := blk_at (P := fun ds s => stmF (tyE tb ds) fns (typS tb s) = none ∧ (match typS tb s with
      | .lt x t _ => (tyE tb ds).lookup x = none ∧ t ≠ []
      | .pt _ _ _ => True
      | .cl f ss => ∃ g, fnOf fns f = some g ∧ ss.length = g.ps.length)) h
    rw [List.map_cons]
    refine ⟨h1.1, h1.2, ?_⟩
    rw [grow_typ]
    exact blkN_of h2
theorem fnOf_mem {fns : List (Fn Ty)} {f : Str} {g : Fn Ty} (h : fnOf fns f = some g) : g ∈ fns ∧ g.name = f := by
  unfold fnOf at h
  exact ⟨List.mem_of_find?_eq_some h, by simpa using List.find?_some h⟩
theorem callOk_of {p : Pg Ty} (a : PgA okT p) : ∀ (n i : Nat), i ≤ n → ∀ st, StmW okT InB (p.fns.take i) st → CallOk p.fns n st
  | n, i, hi, .lt _ _ _, _ => by cases n <;> trivial
  | n, i, hi, .pt _ _ _, _ => by cases n <;> trivial
  | 0, i, hi, .cl f ss, w => by
    obtain ⟨g, hg, _⟩ := w
    obtain rfl : i = 0 := by omega
    simp at hg
  | n + 1, i, hi, .cl f ss, w => by
    obtain ⟨g, hg, hgn, _⟩ := w
    intro g' hg' st hst
    obtain ⟨hm, hn⟩ := fnOf_mem hg'
    obtain ⟨j, hj, e⟩ := List.getElem_of_mem hg
    have hji : j < i := by rw [List.length_take] at hj; omega
    have hgj : p.fns[j]? = some g := by
      rw [← e, List.getElem_take, List.getElem?_eq_getElem]
    have hgg : g' = g := by
      have h1 := find_name (fns := p.fns) (f := f) (by rw [a.w.n]; exact List.Nodup.sublist (List.take_sublist _ _) (by decide)) (List.mem_of_getElem? hgj) hgn
      have h2 : fnOf p.fns f = some g := h1
      rw [hg'] at h2
      exact Option.some.inj h2
    subst hgg
    exact callOk_of a n j (by omega) st ((a.w.f j g' hgj).b st hst)
theorem rnP_of {tb : Tys} {p : Pg Nat} (d : PgD p) (g : TbG tb p) (hf : ∀ ds st, AtSt p ds st → stmF (tyE tb ds) (typP tb p).fns (typS tb st) = none) : RnP (typP tb p) := by
  have A := pgA_typ d g
  have hall : ∀ ds st, AtSt p ds st → stmF (tyE tb ds) (typP tb p).fns (typS tb st) = none ∧ (match typS tb st with
    | .lt x t _ => (tyE tb ds).lookup x = none ∧ t ≠ []
    | .pt _ _ _ => True
    | .cl f ss => ∃ g, fnOf (typP tb p).fns f = some g ∧ ss.length = g.ps.length) := by
    intro ds st h
    refine ⟨hf ds st h, ?_⟩
    cases st with
    | lt x n s => exact ⟨by rw [tyE_look, h.fresh d]; rfl, (ty_ok g h.lt_mem).2⟩
    | pt x k s => trivial
    | cl f ss =>
      obtain ⟨fn, hfn, e, hl, hw⟩ := h.w d
      exact ⟨typF tb fn, fnOf_typ d hfn e, by rw [hl]; simp [typF]⟩
  have hK : ∀ {fns : List (Fn Ty)} {st : Stm Ty}, StmW okT InB fns st → StmK st := by
    intro fns st w
    cases st with
    | lt x t s => exact srcK_of w.2
    | pt x k s => exact ⟨srcK_of w.2.2, Nat.le_trans w.2.1 (by decide)⟩
    | cl f ss =>
      obtain ⟨g, _, _, _, h⟩ := w
      exact fun s hs => srcK_of (h s hs)
  refine ⟨?_, ⟨⟨?_, ?_⟩, ?_, ?_⟩, ?_, A.l⟩
  · exact blkN_of (ds := []) fun i s hs => hall _ _ (.inr ⟨i, hs, by simp⟩)
  · intro f g' hg'
    obtain ⟨hm, _⟩ := fnOf_mem hg'
    obtain ⟨f0, hf0, rfl⟩ := List.mem_map.mp hm
    exact blkN_of (ds := f0.ps) fun i s hs => hall _ _ (.inl ⟨f0, hf0, i, hs, rfl⟩)
  · intro f g' hg'
    obtain ⟨hm, _⟩ := fnOf_mem hg'
    obtain ⟨i, hi, w⟩ := fn_at A hm
    refine ⟨fun q hq => (w.k q hq).2, ?_⟩
    obtain ⟨f0, hf0, rfl⟩ := List.mem_map.mp hm
    have := (List.nodup_append.mp (letsOf_fst_nd d hf0)).1
    show ((f0.ps.map fun q => (q.1, tyOf tb q.1)).map (·.1)).Nodup
    rw [List.map_map]
    exact this
  · intro f g' hg'
    obtain ⟨hm, _⟩ := fnOf_mem hg'
    obtain ⟨i, hi, w⟩ := fn_at A hm
    refine ⟨w.l.1, w.l.2, fun st hst => hK (w.b st hst), fun q hq => ?_⟩
    obtain ⟨f0, hf0, rfl⟩ := List.mem_map.mp hm
    obtain ⟨z, hz, rfl⟩ := List.mem_map.mp hq
    have h1 := mem_kinds_fn hf0 (List.mem_append_left (letsOf f0.body) hz)
    have h2 := (g.ty (x := z.1) (n := z.2) h1).1
    have h3 := d.kw _ h1
    show (tyOf tb z.1).length ≤ 6
    omega
  · show (p.fns.map (typF tb)).length ≤ 1000
    rw [List.length_map]; have := d.w.l; omega
  · intro st hst
    have w := A.w.m st hst
    refine ⟨hK w, callOk_of A 3 2 (by decide) st ?_⟩
    have hl : (typP tb p).fns.take 2 = (typP tb p).fns := List.take_of_length_le A.w.l
    rw [hl]
    exact w
/-! names and types of things -/
def StP2 (Pn : Str → Ty → Prop) : Stm Ty → Prop
  | .lt x t _ => Pn x t
  | _ => True
theorem setT_all {Pn : Str → Ty → Prop} {ths : List Th} {n : Nat} {v : Vl} (h : ∀ t ∈ ths, Pn t.name t.ty) : ∀ t ∈ setT ths n v, Pn t.name t.ty := by
  unfold setT
  cases e : ths[n]? with
  | none => exact h
  | some y =>
    intro t ht
    rcases List.mem_or_eq_of_mem_set ht with z | z
    · exact h t z
    · subst z
      exact h y (List.mem_of_getElem? e)
theorem newAll_all {Pn : Str → Ty → Prop} : ∀ {ps : List (Str × Ty)} {vs : List Vl} {ths : List Th} {env : Env2}, (∀ t ∈ ths, Pn t.name t.ty) → (∀ q ∈ ps, Pn q.1 q.2) → ∀ t ∈ (newAll ths env ps vs).1, Pn t.name t.ty
  | [], vs, ths, env, h, _ => by cases vs <;> simpa [newAll] using h
  | _ :: _, [], ths, env, h, _ => by simpa [newAll] using h
  | p :: ps, v :: vs, ths, env, h, hp => by
    unfold newAll
    refine newAll_all (fun t ht => ?_) fun q hq => hp q (List.mem_cons_of_mem _ hq)
    rcases List.mem_append.mp ht with z | z
    · exact h t z
    · obtain rfl : t = ⟨p.1, p.2, v⟩ := by simpa using z
      exact hp p List.mem_cons_self
theorem runB_all {Pn : Str → Ty → Prop} {ex : List Th → Env2 → Stm Ty → Res} (hex : ∀ ths env st, (∀ t ∈ ths, Pn t.name t.ty) → StP2 Pn st → ∀ t ∈ (ex ths env st).2.1, Pn t.name t.ty) : ∀ {b : List (Stm Ty)} {ths : List Th} {env : Env2}, (∀ t ∈ ths, Pn t.name t.ty) → (∀ st ∈ b, StP2 Pn st) → ∀ t ∈ (runB ex ths env b).2.1, Pn t.name t.ty
  | [], ths, env, h, _ => h
  | st :: r, ths, env, h, hb => by
    have h1 := hex ths env st h (hb st List.mem_cons_self)
    unfold runB
    by_cases q : (ex ths env st).1 = true
    · rw [if_pos q]
      exact runB_all hex h1 fun s hs => hb s (List.mem_cons_of_mem _ hs)
    · rw [if_neg q]
      exact h1
theorem execT_all {Pn : Str → Ty → Prop} {fns : List (Fn Ty)} (hf : ∀ f g, fnOf fns f = some g → (∀ q ∈ g.ps, Pn q.1 q.2) ∧ ∀ st ∈ g.body, StP2 Pn st) : ∀ (n : Nat) (ths : List Th) (env : Env2) (st : Stm Ty), (∀ t ∈ ths, Pn t.name t.ty) → StP2 Pn st → ∀ t ∈ (execT n fns ths env st).2.1, Pn t.name t.ty := by
  intro n
  have hlt : ∀ (n : Nat) ths env x t s, (∀ t ∈ ths, Pn t.name t.ty) → Pn x t → ∀ t' ∈ (execT n fns ths env (.lt x t s)).2.1, Pn t'.name t'.ty := by
    intro n ths env x t s h hp
    have e : execT n fns ths env (.lt x t s) = match giveT ths env s with
      | none => (false, ths, env)
      | some v => (true, ths ++ [⟨x, t, v⟩], env ++ [(x, ths.length)]) := by cases n <;> rfl
    rw [e]
    cases giveT ths env s with
    | none => exact h
    | some v =>
      intro t' ht'
      rcases List.mem_append.mp ht' with z | z
      · exact h t' z
      · obtain rfl : t' = ⟨x, t, v⟩ := by simpa using z
        exact hp
  have hpt : ∀ (n : Nat) ths env x k s, (∀ t ∈ ths, Pn t.name t.ty) → ∀ t' ∈ (execT n fns ths env (.pt x k s)).2.1, Pn t'.name t'.ty := by
    intro n ths env x k s h
    have e : execT n fns ths env (.pt x k s) = match placeT ths env x k with
      | none => (false, ths, env)
      | some n => match giveT ths env s with
        | none => (false, ths, env)
        | some v => (true, setT ths n v, env) := by cases n <;> rfl
    rw [e]
    cases placeT ths env x k with
    | none => exact h
    | some m =>
      cases giveT ths env s with
      | none => exact h
      | some v => exact setT_all h
  induction n with
  | zero =>
    intro ths env st h hp
    cases st with
    | lt x t s => exact hlt 0 ths env x t s h hp
    | pt x k s => exact hpt 0 ths env x k s h
    | cl f ss => exact h
  | succ n ih =>
    intro ths env st h hp
    cases st with
    | lt x t s => exact hlt (n + 1) ths env x t s h hp
    | pt x k s => exact hpt (n + 1) ths env x k s h
    | cl f ss =>
      show ∀ t ∈ (callT (execT n fns) fns ths env f ss).2.1, Pn t.name t.ty
      unfold callT
      cases giveAll ths env ss with
      | none => exact h
      | some vs =>
        cases e : fnOf fns f with
        | none => exact h
        | some g =>
          obtain ⟨h1, h2⟩ := hf f g e
          exact runB_all ih (newAll_all h h1) h2
def ThS (x : Str) (t : Ty) : Prop := sOk x ∧ (∀ r ∈ t, sOk r) ∧ t.length ≤ 6
theorem runP_ths {tb : Tys} {p : Pg Nat} (d : PgD p) (g : TbG tb p) : ∀ t ∈ (runP (typP tb p)).2.1, ThS t.name t.ty := by
  have hq : ∀ {x : Str} {n : Nat}, (x, n) ∈ kindsOf p → ThS x (tyOf tb x) := by
    intro x n h
    obtain ⟨h1, h2⟩ := g.ty h
    have h3 := d.kw _ h
    refine ⟨(nm_inB (d.na x ?_)).f.s, fun r hr => sOk_rt (h2 r hr), by have : n ≤ 3 := h3; omega⟩
    exact (kinds_perm p).mem_iff.mp (List.mem_map_of_mem (f := (·.1)) h)
  have hst : ∀ {b : List (Stm Nat)}, (∀ q ∈ letsOf b, q ∈ kindsOf p) → ∀ st ∈ b.map (typS tb), StP2 ThS st := by
    intro b hb st hst
    obtain ⟨z, hz, rfl⟩ := List.mem_map.mp hst
    cases z with
    | lt x n s => exact hq (hb (x, n) (mem_lets.mpr ⟨s, hz⟩))
    | pt x k s => trivial
    | cl f ss => trivial
  unfold runP
  refine runB_all (Pn := ThS) (execT_all (fns := (typP tb p).fns) ?_ 3) (fun t h => by cases h) ?_
  · intro f g' hg'
    obtain ⟨hm, _⟩ := fnOf_mem hg'
    obtain ⟨f0, hf0, rfl⟩ := List.mem_map.mp hm
    refine ⟨fun q hqm => ?_, hst fun q hqm => mem_kinds_fn hf0 (List.mem_append_right _ hqm)⟩
    obtain ⟨z, hz, rfl⟩ := List.mem_map.mp hqm
    exact hq (n := z.2) (mem_kinds_fn hf0 (List.mem_append_left _ hz))
  · exact hst fun q hqm => mem_kinds_main hqm
end Rk
namespace Rk
open PySem PySem.Spec PyProof.Rows L2
variable {P : Program} {w : World} {K : PySem.W.Frag} {mg : Str → Option Value} {base : Heap}
/-! data told; claims -/
def pyVl : Vl → PyData
  | .non => .none
  | .int i => .int i
  | .th m => .tuple [.str "thing", .int (m : Int)]
def pyShown (t : Th) : PyData := .tuple [.str t.name, pyTy t.ty, pyVl t.val]
def pyDue (r : Bool × List Th) : PyData := .tuple [.str (ended r.1), .list [], .list (r.2.map pyShown)]
theorem dp_vl {J H : Hp} (e : Ex J H) {x : Vl} {v : V} (h : rVl x v J) : Dp K H v (pyVl x) := by
  cases x with
  | non => obtain rfl : v = .non := h; exact .non
  | int i => obtain rfl : v = .int i := h; exact .int i
  | th m => obtain ⟨a, rfl, ha⟩ := h; exact .tup (SqT.of (e _ _ ha)) (.cons (.str _) (.cons (.int _) .nil))
theorem dp_shown {J H : Hp} (e : Ex J H) {t : Th} {v : V} (h : rShown t v J) : Dp K H v (pyShown t) := by
  obtain ⟨a, kv, xv, rfl, ha, h1, h2⟩ := h
  exact .tup (SqT.of (e _ _ ha)) (.cons (.str _) (.cons (dp_ty e h1) (.cons (dp_vl e h2) .nil)))
theorem dp_due {J H : Hp} (e : Ex J H) {r : Bool × List Th} {v : V} (h : rDue r v J) : Dp K H v (pyDue r) := by
  obtain ⟨a, bl, tl, rfl, ha, hbl, ⟨l, xs, rfl, hl, hxs⟩⟩ := h
  exact .tup (SqT.of (e _ _ ha)) (.cons (.str _) (.cons (.lst (SqL.of (e _ _ hbl)) .nil) (.cons (.lst (SqL.of (e _ _ hl)) (dp_all (J := J) (R := rShown) (fun d v h => dp_shown e h) hxs)) .nil)))
theorem dp_nil {H : Hp} {a : Addr} (h : H a = some (.lst [])) : Dp K H (.ref a) (.list []) := .lst (SqL.of h) .nil
theorem sOk_thing : sOk "thing" := by unfold sOk; decide +kernel
theorem sOk_ended (b : Bool) : sOk (ended b) := by unfold sOk; cases b <;> decide +kernel
theorem lay_shown {t : Th} (h : ThS t.name t.ty) : (pyShown t).canLay0 = true ∧ (pyShown t).depth ≤ 2 := by
  obtain ⟨h1, h2, _⟩ := h
  have h0 := sOk_thing
  unfold sOk at h0 h1
  simp only [PyData.canLay0] at h0 h1
  have hs := lay_strs h2
  have hd := dep_all (f := PyData.str) (n := 0) (ds := t.ty) fun s _ => by simp [PyData.depth]
  cases e : t.val with
  | non => exact ⟨by simp [pyShown, pyTy, pyVl, e, PyData.canLay0, PyData.canLayAll0, h1, hs], by simp [pyShown, pyTy, pyVl, e, PyData.depth, PyData.depthAll]; omega⟩
  | int i => exact ⟨by simp [pyShown, pyTy, pyVl, e, PyData.canLay0, PyData.canLayAll0, h1, hs], by simp [pyShown, pyTy, pyVl, e, PyData.depth, PyData.depthAll]; omega⟩
  | th m => exact ⟨by simp [pyShown, pyTy, pyVl, e, PyData.canLay0, PyData.canLayAll0, h0, h1, hs], by simp [pyShown, pyTy, pyVl, e, PyData.depth, PyData.depthAll]; omega⟩
theorem lay_due {r : Bool × List Th} (h : ∀ t ∈ r.2, ThS t.name t.ty) : (pyDue r).canLay0 = true ∧ (pyDue r).depth ≤ 64 := by
  have h0 := sOk_ended r.1
  unfold sOk at h0
  simp only [PyData.canLay0] at h0
  have h1 := lay_all (f := pyShown) fun t ht => (lay_shown (h t ht)).1
  have h2 := dep_all (f := pyShown) (n := 2) (ds := r.2) fun t ht => (lay_shown (h t ht)).2
  exact ⟨by simp [pyDue, PyData.canLay0, PyData.canLayAll0, h0, h1], by simp [pyDue, PyData.depth, PyData.depthAll]; omega⟩
theorem nil_ok : SeqAt.shaped (.list []) = true := by decide +kernel
/-- all claims of a program -/
def uniC (p : Pg Nat) : List Cl := ((kindsOf p).map fun q => (((List.range 4).map fun l => [(q.1, l, lr), (q.1, l, lw)]).flatten : List Cl)).flatten
theorem uniC_len {p : Pg Nat} (d : PgD p) : (uniC p).length < 400 := by
  have : ∀ l : List (Str × Nat), ((l.map fun q => (((List.range 4).map fun l => [(q.1, l, lr), (q.1, l, lw)]).flatten : List Cl)).flatten).length = 8 * l.length := by
    intro l
    induction l with
    | nil => rfl
    | cons a r ih =>
      rw [List.map_cons, List.flatten_cons, List.length_append, ih, List.length_cons]
      show 8 + 8 * r.length = _
      omega
  unfold uniC
  rw [this]
  have := d.kl
  omega
theorem uniC_mem {p : Pg Nat} (d : PgD p) {c : Cl} (h : InP p (c.1, c.2.1)) (hl : c.2.2 = lr ∨ c.2.2 = lw) : c ∈ uniC p := by
  obtain ⟨n, hn, hk⟩ := h
  have h3 : n ≤ 3 := d.kw _ hn
  refine List.mem_flatten.mpr ⟨_, List.mem_map_of_mem (f := fun q : Str × Nat => (((List.range 4).map fun l => [(q.1, l, lr), (q.1, l, lw)]).flatten : List Cl)) hn, ?_⟩
  refine List.mem_flatten.mpr ⟨_, List.mem_map_of_mem (f := fun l => ([(c.1, l, lr), (c.1, l, lw)] : List Cl)) (List.mem_range.mpr (show c.2.1 < 4 by dsimp only at hk; omega)), ?_⟩
  obtain ⟨c1, c2, c3⟩ := c
  dsimp only at hl ⊢
  rcases hl with rfl | rfl <;> simp
theorem FdR.put2 {fs : List Cl} {kvs : List (List Key × V)} (h : FdR fs kvs) {c : Cl} (hc : c ∈ fs) (v : V) : FdR fs (putK kvs (clK c) v) := by
  have h1 := h.has c
  rw [decide_eq_true hc, ← valV_any] at h1
  unfold putK
  rw [if_pos h1]
  unfold FdR
  rw [List.map_map, ← show kvs.map (·.1) = fs.map clK from h]
  refine List.map_congr_left fun z _ => ?_
  show (if _ then _ else _ : List Key × V).1 = z.1
  split <;> rfl
end Rk
namespace Rk
open PySem PySem.Spec PyProof.Rows L2
variable {P : Program} {w : World} {K : PySem.W.Frag} {mg : Str → Option Value} {base : Heap}
def rTop (_ : Unit) (_ : V) (_ : Hp) : Prop := True
instance (u : Unit) (v : V) : Up (rTop u v) := ⟨fun _ h => h⟩
/-- all that a closed table gives -/
structure Ready (p : Pg Nat) (tb : Tys) : Prop where
  tk : TbOk tb p
  n1 : PgNm (fun _ => True) p
  n2 : PgNm (fun n => n ≤ 5) p
  n3 : PgNm okT (typP tb p)
  ok : PgOk (typP tb p)
  z : pgF (typP tb p) = []
  r : RnP (typP tb p)
  t : ∀ t ∈ (runP (typP tb p)).2.1, ThS t.name t.ty
theorem ready_of {p : Pg Nat} (h : PgS p) {F : Fnd} (hc : ∀ ds st, AtSt p ds st → Closed F (stmR (kindsOf p) p.fns st)) : Ready p (tabF F (kindsOf p)) := by
  have tG := tabF_G (F := F) h.d
  have hf : ∀ ds st, AtSt p ds st → stmF (tyE (tabF F (kindsOf p)) ds) (typP (tabF F (kindsOf p)) p).fns (typS (tabF F (kindsOf p)) st) = none := fun ds st a => (no_fault h a (hc ds st a)).1
  refine ⟨tG.tbOk h.d, pgNm_of (pgA_d h.d fun _ _ => trivial), pgNm_of (pgA_d h.d fun n hn => Nat.le_trans hn (by decide)), pgNm_of (pgA_typ h.d tG), pgOk_of h.d tG fun ds st a => (no_fault h a (hc ds st a)).2, pgF_nil_of hf, rnP_of h.d tG hf, runP_ths h.d tG⟩
abbrev spLaw (K : PySem.W.Frag) : Sp := SpD (Addr × List Int) (fun _ => No) (fun a vs J H => ∃ v1, vs = [v1] ∧ v1 = .ref a.1 ∧ SqL K J a.1 (a.2.map V.int)) (fun a v J _ => v = .bl true)
theorem ok_Law (T : Good K mg) : FnOk P w K mg base CX0 63 (He.ga K "law") (fdOf K (He.ga K "law")) ["_law_script"] (spLaw K) := by
  refine sp_ok (k := 62) (D_sLaw T) S_sLaw (fun a vs J H h => by obtain ⟨_, rfl, _⟩ := h; rfl) (fun cdv Ar outer s H0 vs E hr => ?_)
  refine ⟨_, (pss_cons (ps_set (i := 1) S_sLaw.nd rfl (by first | exact Or.inl rfl | exact Or.inr rfl) (pe_lst (pa_cons (pe_call (ok_LawRow (K := K) T) (hr.mono (by omega)) rfl (g_law_row T) (D_sLawRow T).kp (B_sLawRow T) .nil pass0 (pa_cons (pv 0) (pa_cons pe_int (pa_cons pe_int pa_nil)))) (pa_cons pe_int pa_nil))))
  (pss_cons (ps_for PassesOwn.never rfl (pi_range1 (by rfl) (f_range T) (pa_cons pe_int pa_nil)) (pg_name (i := 2) S_sLaw.nd rfl (by first | exact Or.inl rfl | exact Or.inr rfl))
  (pss_cons (ps_set (i := 3) S_sLaw.nd rfl (by first | exact Or.inl rfl | exact Or.inr rfl) (pe_call (ok_LawShaped T) (hr.mono (by omega)) rfl (g_law_shaped T) (D_sLawShaped T).kp (B_sLawShaped T) .nil pass0 (pa_cons (pv 1) (pa_cons pe_int pa_nil))))
  (pss_cons (ps_set (i := 4) S_sLaw.nd rfl (by first | exact Or.inl rfl | exact Or.inr rfl) (pe_call (ok_LawAllRules T) (hr.mono (by omega)) rfl (g_law_all_rules T) (D_sLawAllRules T).kp (B_sLawAllRules T) .nil pass0 (pa_cons (pv 3) pa_nil)))
  (pss_cons (ps_set (i := 5) S_sLaw.nd rfl (by first | exact Or.inl rfl | exact Or.inr rfl) pe_dnewT)
  (pss_cons (ps_for PassesOwn.never rfl (piL K (pe_call (ok_LawClaims T) (hr.mono (by omega)) rfl (g_law_claims T) (D_sLawClaims T).kp (B_sLawClaims T) .nil pass0 (pa_cons (pv 3) pa_nil))) (pg_name (i := 6) S_sLaw.nd rfl (by first | exact Or.inl rfl | exact Or.inr rfl))
  (pss_one (ps_if (pt_cmpR op_eq (pe_call (ok_LawDraw T) (hr.mono (by omega)) rfl (g_law_draw T) (D_sLawDraw T).kp (B_sLawDraw T) .nil pass0 (pa_cons (pv 1) (pa_cons pe_int pa_nil))) pe_int (nomark _)) (pss_one (ps_dput (hu_of hr) (pv 5) (pv 6) pe_bl rfl)) pss_nil)))
  (pss_cons (ps_set (i := 7) S_sLaw.nd rfl (by first | exact Or.inl rfl | exact Or.inr rfl) (pe_call (ok_LawTable T) (hr.mono (by omega)) rfl (g_law_table T) (D_sLawTable T).kp (B_sLawTable T) .nil pass0 (pa_cons (pv 3) (pa_cons (pe_call (ok_LawClosed T) (hr.mono (by omega)) rfl (g_law_closed T) (D_sLawClosed T).kp (B_sLawClosed T) .nil pass0 (pa_cons (pv 5) (pa_cons (pv 4) pa_nil))) pa_nil))))
  (pss_cons (ps_set (i := 8) S_sLaw.nd rfl (by first | exact Or.inl rfl | exact Or.inr rfl) (pe_call (ok_WithTable (K := K) T) (hr.mono (by omega)) rfl (gwith_table T) (D_sWithTable T).kp (B_sWithTable T) .nil pass0 (pa_cons (pe_call (ok_LawMade (K := K) T) (hr.mono (by omega)) rfl (g_law_made T) (D_sLawMade T).kp (B_sLawMade T) .nil pass0 (pa_cons (pv 3) pa_nil)) (pa_cons (pv 7) pa_nil))))
  (pss_cons (ps_set (i := 9) S_sLaw.nd rfl (by first | exact Or.inl rfl | exact Or.inr rfl) (pe_call (ok_LawTyped T) (hr.mono (by omega)) rfl (g_law_typed T) (D_sLawTyped T).kp (B_sLawTyped T) .nil pass0 (pa_cons (pv 3) (pa_cons (pv 7) pa_nil))))
  (pss_cons (ps_if (PW.pt (pw_or (pt_not (pt_val (pe_call (ok_IsLetBy (K := K) T) (hr.mono (by omega)) rfl (gis_let_by T) (D_sIsLetBy T).kp (B_sIsLetBy T) .nil pass0 (pa_cons (pv 8) (pa_cons (pe_lst pa_nil) pa_nil))))) (pw_or1 (pt_cmpR (oNeD K hr.units) (pe_call (ok_LawFaults T) (hr.mono (by omega)) rfl (g_law_faults T) (D_sLawFaults T).kp (B_sLawFaults T) .nil pass0 (pa_cons (pv 9) (pa_cons (pe_lst pa_nil) pa_nil))) (pe_lst pa_nil) (nomark _))))) (pss_one (ps_ret pe_bl)) pss_nil)
  (pss_cons (ps_setLc (i := 10) (own := [("_law_pair_here", 14)]) (by rfl) S_sLaw.nd rfl rfl (sw_true rfl rfl rfl (by decide +kernel)) (piL K (pe_lc (own := [("_law_k", 15)]) (by rfl) S_sLaw.nd (pi_range1 (by rfl) (f_range T) (pa_cons pe_int pa_nil)) (blkOk_by (own := [("_law_k", 15)]) (N := ["_law_script", "_law_box", "_law_turn", "_law_p", "_law_told_here", "_law_found", "_law_claim", "_law_table_here", "_law_program_here", "_law_plain", "_law_extra", "_law_ended", "_law_state", "_law_due", "_law_pair_here", "_law_k"]) (sc := defScope sLaw) (by decide +kernel)) (fun _ _ _ _ _ => (pg_name (i := 15) S_sLaw.nd rfl (by first | exact Or.inl rfl | exact Or.inr rfl))) (fun _ _ _ _ _ => pts_nil) (fun _ _ _ _ _ => (pe_call (ok_LawPair T) (hr.mono (by omega)) rfl (g_law_pair T) (D_sLawPair T).kp (B_sLawPair T) .nil pass0 (pa_cons (pv 1) (pa_cons pe_int pa_nil)))))) (blkOk_by (own := [("_law_pair_here", 14)]) (N := ["_law_script", "_law_box", "_law_turn", "_law_p", "_law_told_here", "_law_found", "_law_claim", "_law_table_here", "_law_program_here", "_law_plain", "_law_extra", "_law_ended", "_law_state", "_law_due", "_law_pair_here", "_law_k"]) (sc := defScope sLaw) (by decide +kernel)) (fun _ _ _ _ _ => (pg_name (i := 14) S_sLaw.nd rfl (by first | exact Or.inl rfl | exact Or.inr rfl))) (fun _ _ _ _ _ => pts_one (pt_val (pe_call (ok_Converts T) (hr.mono (by omega)) rfl (gconverts T) (D_sConverts T).kp (B_sConverts T) .nil pass0 (pa_cons (pe_ix (xL K) (pv 14) pe_int (fun _ _ => rfl)) (pa_cons (pe_ix (xL K) (pv 14) pe_int (fun _ _ => rfl)) pa_nil))))) (fun _ _ _ _ _ => (pv 14)))
  (pss_cons (ps_setLc (i := 10) (own := [("_law_pair_here", 14)]) (by rfl) S_sLaw.nd rfl rfl (sw_true rfl rfl rfl (by decide +kernel)) (piL K (pv 10)) (blkOk_by (own := [("_law_pair_here", 14)]) (N := ["_law_script", "_law_box", "_law_turn", "_law_p", "_law_told_here", "_law_found", "_law_claim", "_law_table_here", "_law_program_here", "_law_plain", "_law_extra", "_law_ended", "_law_state", "_law_due", "_law_pair_here", "_law_k"]) (sc := defScope sLaw) (by decide +kernel)) (fun _ _ _ _ _ => (pg_name (i := 14) S_sLaw.nd rfl (by first | exact Or.inl rfl | exact Or.inr rfl))) (fun _ _ _ _ _ => pts_nil) (fun _ _ _ _ _ => (pe_tup (pa_cons (pe_ix (xL K) (pv 14) pe_int (fun _ _ => rfl)) (pa_cons (pe_ix (xL K) (pv 14) pe_int (fun _ _ => rfl)) pa_nil)))))
  (pss_cons (ps_asg (pe_call (ok_LawRun T) (hr.mono (by omega)) rfl (g_law_run T) (D_sLawRun T).kp (B_sLawRun T) .nil pass0 (pa_cons (pv 9) pa_nil)) (pgU K (n := 2) rfl (pgs_cons (pg_name (i := 11) S_sLaw.nd rfl (by first | exact Or.inl rfl | exact Or.inr rfl)) (pgs_cons (pg_name (i := 12) S_sLaw.nd rfl (by first | exact Or.inl rfl | exact Or.inr rfl)) pgs_nil))))
  (pss_cons (ps_set (i := 13) S_sLaw.nd rfl (by first | exact Or.inl rfl | exact Or.inr rfl) pe_str)
  (pss_cons (ps_if (pt_cmpR op_le (pe_ix (xL K) (pv 12) pe_int (fun _ _ => rfl)) pe_int (nomark _)) (pss_one (ps_set (i := 13) S_sLaw.nd rfl (by first | exact Or.inl rfl | exact Or.inr rfl) (pe_tup (pa_cons (pv 11) (pa_cons (pe_lst pa_nil) (pa_cons (pe_call (ok_LawThings T) (hr.mono (by omega)) rfl (g_law_things T) (D_sLawThings T).kp (B_sLawThings T) .nil pass0 (pa_cons (pv 12) pa_nil)) pa_nil)))))) pss_nil)
  (pss_one (ps_if (PW.pt (pw_or (pt_cmpR (oNeD K hr.units) (pe_ix (xL K) (pv 12) pe_int (fun _ _ => rfl)) (pe_lst pa_nil) (nomark _)) (pw_or (pt_cmpR (oNeD K hr.units) (pe_call (ok_LawTold (K := K) T) (hr.mono (by omega)) rfl (g_law_told T) (D_sLawTold T).kp (B_sLawTold T) .nil pass0 (pa_cons (pv 8) (pa_cons (pe_lst pa_nil) pa_nil))) (pv 13) (nomark _)) (pw_or1 (pt_cmpR (oNeD K hr.units) (pe_call (ok_LawTold (K := K) T) (hr.mono (by omega)) rfl (g_law_told T) (D_sLawTold T).kp (B_sLawTold T) .nil pass0 (pa_cons (pv 8) (pa_cons (pv 10) pa_nil))) (pv 13) (nomark _)))))) (pss_one (ps_ret pe_bl)) pss_nil))))))))))))))))
  (pss_one (ps_ret pe_bl)))), ?_⟩
  rintro ⟨a, xs⟩ J0 Q G ⟨_, rfl, rfl, hsq⟩ kk
  dsimp only at *
  walk_at "gm"
  refine use_sp G (a, xs) ⟨_, _, _, rfl, rfl, rfl, rfl, hsq⟩ (fun _ z => z.elim) ?_
  rintro v J1 H1 e1 g1 G1 ⟨r, ys, rfl, hr⟩
  walk_at "gm"
  refine k_lstM G1 (len_ok rfl) ?_
  intro b H2 hb hb0 mb g2 G2
  have hb2 : Box b J1 H2 := ⟨r, 0, ys, mb, hr⟩
  walk_at "gm"
  refine k_iR1E (n := 4) (by decide) ?_
  rw [Int.toNat_natCast]
  refine k_forR G2 (fun i σ' J' H' => ∃ w2 w3 w4 w5 w6 w7 w8 w9 w10 w11 w12 w13, σ' = [some (.ref a), some (.ref b), w2, w3, w4, w5, w6, w7, w8, w9, w10, w11, w12, w13, none, none] ∧ Box b J' H') ⟨_, _, _, _, _, _, _, _, _, _, _, _, rfl, hb2⟩ ?_ ?_
  · rintro i σ' J3 H3 hi e3 G3 ⟨w2, w3, w4, w5, w6, w7, w8, w9, w10, w11, w12, w13, rfl, hb3⟩
    walk_at "gm"
    refine use_sp G3 (b, 9) ⟨_, _, rfl, rfl, rfl, hb3, Nat.le_refl _⟩ (fun z hz => .inr (by subst hz; exact hb0)) ?_
    rintro pv J4 H4 e4 g4 G4 ⟨p, hp, hS, hb4⟩
    dsimp only at hb4
    have hd := hS.d
    walk_at "gm"
    refine use_sp G4 p ⟨_, rfl, hp, hS⟩ (fun _ z => z.elim) ?_
    rintro rv J5 H5 e5 g5 G5 ⟨rs, hrs, hin, hok, hrl⟩
    have hb5 := hb4.up g5
    walk_at "gm"
    refine k_dictTM G5 ?_
    intro fd H6 hfd hfd0 mf g6 G6
    have hb6 := hb5.up g6
    have hbf : ¬ b = fd := hb5.nen hfd
    walk_at "gm"
    refine use_sp G6 p ⟨_, rfl, Up.up e5 hp, hd⟩ (fun _ z => z.elim) ?_
    rintro v7 J7 H7 e7 g7 G7 ⟨cs, ⟨lc, xc, rfl, hlc, hxc⟩, hcg, hcl⟩
    have hb7 := hb6.up g7
    have mf7 := mf.up g7
    walk_at "gm"
    refine k_forL G7 hlc (fun j σ' J' H' => ∃ w6 fs kvs, σ' = [some (.ref a), some (.ref b), some (.int (i : Int)), some pv, some rv, some (.ref fd), w6, w7, w8, w9, w10, w11, w12, w13, none, none] ∧ Mu J' H' fd (.dT kvs) ∧ FdR fs kvs ∧ fs.Nodup ∧ (∀ c ∈ fs, c ∈ uniC p) ∧ Box b J' H') ⟨_, [], [], rfl, mf7, rfl, List.nodup_nil, (fun c h => by cases h), hb7⟩ ?_ ?_
    · rintro j x σ' J8 H8 hx e8 G8 ⟨w6, fs, kvs, rfl, mf8, hf8, hnd8, hsub8, hb8⟩
      obtain ⟨c, hc, ca, rfl, hca⟩ := hxc.at hx
      obtain ⟨hc1, hc2⟩ := hcg c (List.mem_of_getElem? hc)
      have hcu := uniC_mem hd hc1 hc2
      have hlf := nodup_len hnd8 hsub8
      have hul := uniC_len hd
      have hkl := hf8.len
      have zs := sizeLine_eq
      walk_at "gm"
      refine use_draw 4 G8 hb8 (by decide) (.inr hb0) ?_
      intro k J9 H9 hk e9 g9 G9 hb9
      have mf9 := mf8.step g9 (fun e => hbf e.symm)
      walk_at "gm"
      refine if2 (fun q => ?_) (fun q => ?_)
      · walk_at "gm"
        refine k_dputT G9 mf9 (.inr hfd0) (x := clK c) (G9.jh _ _ (e9 _ _ (e8 _ _ hca))) (by omega) ?_
        intro H10 g10 G10 mf10
        have hb10 := hb9.step g10 hbf
        walk_at "gm"
        by_cases hm : c ∈ fs
        · exact ⟨_, e8.trans e9, G10, _, fs, _, rfl, mf10, hf8.put2 hm _, hnd8, hsub8, hb10⟩
        · refine ⟨_, e8.trans e9, G10, _, fs ++ [c], _, rfl, mf10, hf8.put hm _, ?_, ?_, hb10⟩
          · refine List.nodup_append.mpr ⟨hnd8, by simp, ?_⟩
            rintro z hz y hy rfl
            obtain rfl : z = c := by simpa using hy
            exact hm hz
          · intro z hz
            rcases List.mem_append.mp hz with h | h
            · exact hsub8 z h
            · obtain rfl : z = c := by simpa using h
              exact hcu
      · walk_at "gm"
        exact ⟨_, e8.trans e9, G9, _, fs, _, rfl, mf9, hf8, hnd8, hsub8, hb9⟩
    · rintro σ' J8 H8 e8 G8 ⟨w6, fs, kvs, rfl, mf8, hf8, hnd8, hsub8, hb8⟩
      walk_at "gm"
      refine use_sp G8 ⟨fd, fs, rs, uniC p⟩ ⟨_, _, rfl, rfl, Up.up (e7.trans e8) hrs, ⟨kvs, mf8, hf8⟩, hnd8, hsub8, (fun r hr => uniC_mem hd (hok r hr).1.2.1 (hok r hr).1.2.2), uniC_len hd, by show rs.length ≤ 100000; omega, fun r hr => (hok r hr).2⟩ (fun z hz => .inr (by subst hz; exact hfd0)) ?_
      rintro v9 J9 H9 e9 g9 G9 ⟨rfl, fs9, kvs9, mf9, hf9, hcl9⟩
      dsimp only at g9 mf9 hcl9
      have hb9 := hb8.step g9 hbf
      have hC : ∀ ds st, AtSt p ds st → Closed (fndF fs9) (stmR (kindsOf p) p.fns st) := fun ds st h r hr => hcl9 r (hin ds st h r hr)
      have hrdy := ready_of hS hC
      have G10 := G9.know mf9.j mf9.h hfd0
      have e10 := ex_know (o := .dT kvs9) mf9.j
      have hb10 := hb9.knw (o := .dT kvs9) hbf mf9.j
      have hfnd : rFnd fs9 (.ref fd) (upd J9 fd (.dT kvs9)) := ⟨fd, kvs9, rfl, upd_same, hf9⟩
      generalize upd J9 fd (.dT kvs9) = J10 at *
      have hp10 : rLPg rDp p pv J10 := Up.up ((((e5.trans e7).trans e8).trans e9).trans e10) hp
      walk_at "gm"
      refine use_sp G10 (p, fs9) ⟨_, _, rfl, hp10, hfnd, hd⟩ (fun _ z => z.elim) ?_
      rintro tv J11 H11 e11 g11 G11 htv
      have hb11 := hb10.up g11
      dsimp only at htv
      have eA := And.intro ((((((e4.trans e5).trans e7).trans e8).trans e9).trans e10).trans e11) True.intro
      have hp11 := Up.up e11 hp10
      generalize tabF (fndF fs9) (kindsOf p) = tb at *
      clear hC hcl9 hfnd hp10 hp hb10 hb9 hb8 hb7 hb6 hb5 hb4 hb3 mf9 mf8 mf7 mf e10 e9 e8 e7 e5 e4 g9 g7 g6 g5 g4 G9 G8 G7 G6 G5 G4 hcg hcl hxc hlc hin hok hrl hrs
      clear e11 g11 g1 g2 G10 G2 G1 hb2 mb
      walk_at "gm"
      refine use_sp G11 p ⟨_, rfl, hp11, hrdy.n1, hrdy.n2⟩ (fun _ z => z.elim) ?_
      rintro mv J12 H12 e12 g12 G12 hmv
      have hb12 := hb11.up g12
      walk_at "gm"
      refine use_sp G12 (p, tb) ⟨_, _, rfl, hmv, Up.up e12 htv, hrdy.tk, hrdy.n3⟩ (fun _ z => z.elim) ?_
      rintro qv J13 H13 e13 g13 G13 hqv
      dsimp only at hqv
      have hb13 := hb12.up g13
      walk_at "gm"
      refine use_sp G13 (p, tb) ⟨_, _, rfl, Up.up (e12.trans e13) hp11, Up.up (e12.trans e13) htv, hrdy.tk⟩ (fun _ z => z.elim) ?_
      rintro lv J14 H14 e14 g14 G14 hlv
      dsimp only at hlv
      have hb14 := hb13.up g14
      have hqv := Up.up e14 hqv
      have eA := And.intro (((eA.1.trans e12).trans e13).trans e14) True.intro
      obtain ⟨_, _, _, _, hqok, hqz, hqr, hqt⟩ := hrdy
      generalize typP tb p = q at *
      clear hp11 htv hmv hb13 hb12 hb11 e14 e13 e12 g14 g13 g12 G13 G12 G11
      walk_at "gm"
      refine k_lst G14 (by decide) ?_
      intro L15 J15 H15 hL15 e15 hLJ15 g15 G15
      have hb15 := hb14.up g15
      walk_at "gm"
      refine use_sp G15 q ⟨_, _, rfl, Up.up e15 hqv, hqok, hqz⟩ (fun _ z => z.elim) ?_
      rintro v J16 H16 e16 g16 G16 rfl
      have hb16 := hb15.up g16
      walk_at "gr"
      refine k_lst G16 (by decide) ?_
      intro L17 J17 H17 hL17 e17 hLJ17 g17 G17
      have hb17 := hb16.up g17
      walk_at "gm"
      refine use_sp G17 q ⟨_, _, rfl, Up.up ((e15.trans e16).trans e17) hlv, hqok⟩ (fun _ z => z.elim) ?_
      rintro fv J18 H18 e18 g18 G18 ⟨lf, xf, rfl, hlf, hxf⟩
      rw [hqz] at hxf
      obtain rfl : xf = [] := List.length_eq_zero_iff.mp hxf.1
      have hb18 := hb17.up g18
      walk_at "gm"
      refine k_lst G18 (by decide) ?_
      intro L19 J19 H19 hL19 e19 hLJ19 g19 G19
      have hb19 := hb18.up g19
      refine k_neD (dp_nil (G19.jh _ _ (e19 _ _ hlf))) (dp_nil (G19.jh _ _ hLJ19)) nil_ok nil_ok ?_
      refine k_bl ?_
      refine k_ap ?_
      refine ifF (by decide +kernel) ?_
      have hqv := Up.up ((((e15.trans e16).trans e17).trans e18).trans e19) hqv
      have hlv := Up.up ((((e15.trans e16).trans e17).trans e18).trans e19) hlv
      have eA := And.intro (eA.1.trans ((((e15.trans e16).trans e17).trans e18).trans e19)) True.intro
      clear hb18 hb17 hb16 hb15 hb14 e19 e18 e17 e16 e15 g19 g18 g17 g16 g15 G18 G17 G16 G15 G14 hLJ19 hLJ17 hLJ15 hL19 hL17 hL15 hlf
      refine k_next ?_
      refine k_nx ?_
      refine k_seqT (fun σ' H' => ∃ J' D qs ac, Ex J19 J' ∧ Gr No J0 H0 J' H' ∧ Box b J' H' ∧ J' D = some (.lst ac) ∧ AllR rPr qs ac J' ∧ qs.length ≤ 3 ∧ σ' = [some (.ref a), some (.ref b), some (.int (i : Int)), some pv, some rv, some (.ref fd), w6, some tv, some qv, some lv, some (.ref D), w11, w12, w13, none, none]) ?_ ?_
      · rintro _ H21 ⟨J21, D2, qs2, acc2, e21, G21, hb21, hDJ2, hacc2, hq3, rfl⟩
        refine k_seqT (fun σ' H' => ∃ J' xv, Ex J19 J' ∧ Gr No J0 H0 J' H' ∧ Box b J' H' ∧ σ' = [some (.ref a), some (.ref b), some (.int (i : Int)), some pv, some rv, some (.ref fd), w6, some tv, some qv, some lv, some xv, w11, w12, w13, none, none]) ?_ ?_
        · rintro _ H22 ⟨J22, xv, e22, G22, hb22, rfl⟩
          have hqv := Up.up e22 hqv
          have hlv := Up.up e22 hlv
          have eA := And.intro (eA.1.trans e22) True.intro
          clear e21 G21 hb21 hDJ2 hacc2 e22 G19 hb19
          refine k_seqT (fun σ' H' => ∃ J' sv c, Ex J22 J' ∧ Gr No J0 H0 J' H' ∧ Box b J' H' ∧ rSta ((runP q).2.1, c) sv J' ∧ c ≤ 400 ∧ (runP q).2.1.length ≤ 2000 ∧ σ' = [some (.ref a), some (.ref b), some (.int (i : Int)), some pv, some rv, some (.ref fd), w6, some tv, some qv, some lv, some xv, some (.str (ended (runP q).1)), some sv, w13, none, none]) ?_ ?_
          · rintro _ HA ⟨JA, sv, c, eB, GA, hbA, hsta, hc4, hlen, rfl⟩
            have hqv := Up.up eB hqv
            have eA := And.intro (eA.1.trans eB) True.intro
            clear eB G22 hb22
            refine k_seq ?_
            refine k_asg ?_
            refine k_c ?_
            refine k_gname ?_
            refine k_nx ?_
            have hsta2 := hsta
            obtain ⟨st, tl, bl, ts, rfl, hst, htl, hts, hbl⟩ := hsta
            refine k_seqT (fun σ' H' => ∃ J' dv, Ex JA J' ∧ Gr No J0 H0 J' H' ∧ Box b J' H' ∧ rDue ((runP q).1, (runP q).2.1) dv J' ∧ ∃ st tl bl c, J' st = some (.lst [.ref tl, .ref bl, .int c]) ∧ J' bl = some (.lst []) ∧ σ' = [some (.ref a), some (.ref b), some (.int (i : Int)), some pv, some rv, some (.ref fd), w6, some tv, some qv, some lv, some xv, some (.str (ended (runP q).1)), some (.ref st), some dv, none, none]) ?_ ?_
            · rintro _ H23 ⟨J23, dv, e23, G23, hb23, hdue, st, tl, bl, c, hst, hbl, rfl⟩
              have hqv := Up.up e23 hqv
              have eA := And.intro (eA.1.trans e23) True.intro
              obtain ⟨hly1, hly2⟩ := lay_due (r := ((runP q).1, (runP q).2.1)) hqt
              have hshp := shaped_of hly1 hly2
              have hself := PySem.SeqAt.eqv_refl _ hly1
              clear e23 GA hbA hly1 hly2 hqt hlv
              walk_at "gm"
              refine k_lst G23 (by decide) ?_
              intro L24 J24 H24 hL24 e24 hLJ24 g24 G24
              refine k_neD (dp_nil (G24.jh _ _ (e24 _ _ hbl))) (dp_nil (G24.jh _ _ hLJ24)) nil_ok nil_ok ?_
              walk_at "gm"
              refine k_lst G24 (by decide) ?_
              intro L25 J25 H25 hL25 e25 hLJ25 g25 G25
              walk_at "gm"
              refine use_sp G25 q ⟨_, _, rfl, Up.up (e24.trans e25) hqv, hqok, hqz, hqr⟩ (fun _ z => z.elim) ?_
              rintro v26 J26 H26 e26 g26 G26 hv26
              walk_at "gm"
              refine k_neD (dp_due G26.jh hv26) (dp_due G26.jh (Up.up ((e24.trans e25).trans e26) hdue)) hshp hshp ?_
              rw [hself]
              walk_at "gm"
              refine use_sp G26 q ⟨_, _, rfl, Up.up ((e24.trans e25).trans e26) hqv, hqok, hqz, hqr⟩ (fun _ z => z.elim) ?_
              rintro v27 J27 H27 e27 g27 G27 hv27
              walk_at "gm"
              refine k_neD (dp_due G27.jh hv27) (dp_due G27.jh (Up.up (((e24.trans e25).trans e26).trans e27) hdue)) hshp hshp ?_
              rw [hself]
              walk_at "gm"
              exact ⟨_, e3.trans (eA.1.trans (((e24.trans e25).trans e26).trans e27)), G27, _, _, _, _, _, _, _, _, _, _, _, _, rfl, (((hb23.up g24).up g25).up g26).up g27⟩
            · intro N hN
              walk_at "gm"
              refine ifT (by simp; omega) ?_
              walk_at "gm"
              refine k_lst GA (by decide) ?_
              intro L24 J24 H24 hL24 e24 hLJ24 g24 G24
              walk_at "gm"
              refine use_sp G24 ((runP q).2.1, c) ⟨_, rfl, Up.up e24 hsta2, by show (runP q).2.1.length ≤ 10000; omega⟩ (fun _ z => z.elim) ?_
              rintro tv2 J25 H25 e25 g25 G25 htv2
              dsimp only at htv2
              walk_at "gm"
              rename_i P26 J26 H26 hP26 e26 hJ26 g26 G26
              exact hN _ _ ⟨J26, .ref P26, (e24.trans e25).trans e26, G26, ((hbA.up g24).up g25).up g26, ⟨P26, L24, tv2, rfl, hJ26, e26 _ _ (e25 _ _ hLJ24), Up.up e26 htv2⟩, st, tl, bl, _, e26 _ _ (e25 _ _ (e24 _ _ hst)), e26 _ _ (e25 _ _ (e24 _ _ hbl)), rfl⟩
          · intro N hN
            walk_at "gm"
            refine use_sp G22 q ⟨_, rfl, hlv, hqr⟩ (fun _ z => z.elim) ?_
            rintro v J23 H23 e23 g23 G23 ⟨ra, sv, c, rfl, hra, hsta, hc4, hlen⟩
            walk_at "gm"
            exact hN _ _ ⟨J23, sv, c, e23, G23, hb22.up g23, hsta, hc4, hlen, rfl⟩
        · intro N hN
          walk_at "gm"
          refine k_lcFM (R := rPr) (S := rTop) (fun _ => some ()) G21 hDJ2 hacc2 (by omega) ?_ ?_
          · rintro z x J22 H22 Ny Nn hz ⟨c, u1, u2, rfl, hc, h1, h2⟩ e22 G22 hy hn
            walk_at "gm"
            refine ⟨rfl, ?_⟩
            refine k_yes ?_
            refine ifT rfl ?_
            iterate 13 walk_at "s0"
            rename_i P23 J23 H23 hP23 e23 hJ23 g23 G23
            exact hy _ _ _ _ rfl g23 trivial
          · intro D3 acc3 J22 H22 hD3 e22 hDJ3 hacc3 g22 G22
            refine k_gname ?_
            exact hN _ _ ⟨J22, .ref D3, e21.trans e22, G22, hb21.up g22, rfl⟩
      · intro N hN
        walk_at "gm"
        refine k_iR1E (n := 3) (by decide) ?_
        rw [Int.toNat_natCast]
        refine k_lcW (M1 := fun z => z = b) (walk_range (lo := 0) (n := 3)) G19 (by decide) (fun z hz => .inr (by subst hz; exact hb0)) (fun z hz => by subst hz; obtain ⟨_, _, _, m, _⟩ := hb19; rw [m.h]; simp) (fun i acc J' H' => Box b J' H' ∧ ∃ qs : List (Ty × Ty), AllR rPr qs acc J') ⟨hb19, [], AllR.nil⟩ ?_ ?_ (fun _ _ _ _ => trivial) ?_ ?_
        · rintro D i acc J5 H5 o hD hD1 ⟨x, k⟩
          exact ⟨x.upH (hb19.nen hD), k⟩
        · rintro D i acc J5 H5 o hD hD1 ⟨x, qs, hqs⟩
          exact ⟨x.knw (hb19.nen hD) hD1, qs, Up.up (ex_know hD1) hqs⟩
        · rintro k x acc J5 H5 H5' Ny Nn hk hl ej g5 g51 ⟨hb5, qs, hqs⟩ ⟨rfl, rfl⟩ hy hnn
          have gg : Gr (fun z => z = b) J5 H5' J5 H5' := Gr.refl g5.jh
          walk_at "gm"
          refine ⟨rfl, ?_⟩
          walk_at "gm"
          refine use_sp gg (b, 3) ⟨_, _, rfl, rfl, rfl, hb5, Nat.le_refl _⟩ (fun z hz => .inl hz) ?_
          rintro v J6 H6 e6 g6 G6 ⟨q', hq', _, _, _, hb6⟩
          exact hy _ _ _ G6 ⟨hb6, qs ++ [q'], (Up.up e6 hqs).snoc hq'⟩
        · rintro D acc J20 H20 hD e20 hDJ g20 G20 hl ⟨hb20, qs, hqs⟩
          have hql : qs.length ≤ 3 := by rw [← hqs.1]; exact hl
          walk_at "gm"
          refine k_lcFM (R := rPr) (S := rPr) (fun z => if conv z.1 z.2 = true then some z else none) G20 hDJ hqs (by omega) ?_ ?_
          · intro z x J21 H21 Ny Nn hz hx e21 G21 hy hn
            have hx2 := hx
            obtain ⟨c, u1, u2, rfl, hc, h1, h2⟩ := hx
            walk_at "gm"
            refine ⟨rfl, ?_⟩
            walk_at "gm"
            refine use_sp G21 (z.1, z.2) ⟨_, _, rfl, h1, h2⟩ (fun _ z => z.elim) ?_
            rintro v J22 H22 e22 g22 G22 rfl
            walk_at "gm"
            refine if2 (fun q9 => ?_) (fun q9 => ?_)
            · refine k_var rfl ?_
              exact hy _ _ _ _ (if_pos q9) g22 (Up.up e22 hx2)
            · exact hn _ _ (if_neg (fun h => by rw [show conv z.1 z.2 = false from q9] at h; cases h)) g22
          · intro D2 acc2 J21 H21 hD2 e21 hDJ2 hacc2 g21 G21
            have hfl := List.length_filterMap_le (fun z : Ty × Ty => if conv z.1 z.2 = true then some z else none) qs
            refine k_gname ?_
            exact hN _ _ ⟨J21, D2, _, acc2, e20.trans e21, G21, hb20.up g21, hDJ2, hacc2, by omega, rfl⟩
  · rintro σ' J3 H3 e3 G3 ⟨w2, w3, w4, w5, w6, w7, w8, w9, w10, w11, w12, w13, rfl, hb3⟩
    walk_at "gm"
    exact kk _ _ _ G3 rfl
end Rk
end
namespace Rk
open PySem PySem.Spec PyProof.Rows L2
theorem facts {P : Program} {w : World} {K : PySem.W.Frag} {h : Heap} {mg : Str → Option Value} {f : Addr} (X : K.In h) (G : h.Ns mainGlobals mg) (hfa : mg ("law" : Str) = some (.ref f)) (c1 : He.SaysD fa fn K) (c2 : tabB K = true) :
    ∃ fd : FuncData, (∀ (s : Shared) (v : Value), BindsTo s fd ⟨[v], []⟩ [("_law_script", v)]) ∧ ∀ base : Heap, K.In base → base.Ns mainGlobals mg → FnOk P w K mg base CX0 63 f fd ["_law_script"] (spLaw K) := by
  have T : Good K mg := ⟨c1, c2, h, X, G⟩
  have e := hfa.symm.trans (glaw T)
  cases e
  have b := FunD.bindsA (ps := ["_law_script"]) (D_sLaw T) fun _ _ _ _ _ _ us hl => match us, hl with | [_], _ => rfl
  exact ⟨_, fun s v => b s [v] rfl, fun base _ _ => ok_Law T⟩
end Rk
open PySem PySem.W PySem.Calls PyProof.Rows
theorem PySem.Challenge.cw_rightskept_k80_whole_no_breach_holds : PySem.Challenge.rw_rightskept_k80_whole_no_breach.Holds := by
  refine Rk.closing fun w mg fa h Y G hmg => ?_
  obtain ⟨K, KX, c1, c2⟩ := Y
  obtain ⟨fd, hb, hF⟩ := Rk.facts (P := (PySem.Challenge.rw_rightskept_k80_whole_no_breach).prog) (w := w) KX G hmg c1 c2
  exact ⟨K, fd, Rk.spLaw K, KX, hb, fun H a ns hl _ hS => ⟨(a, ns), H, Rk.Ex.refl H, ⟨_, rfl, rfl, hS⟩, fun v J' H' _ h => h⟩, hF⟩
