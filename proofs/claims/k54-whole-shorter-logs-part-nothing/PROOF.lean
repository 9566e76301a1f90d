import PyProof.Rows.All
import Wide.All
import OpenK.AllK
import Wide.FinOn
import HandS.ForMost
import PySem.Challenge.RW_twinbegun_k54_whole_shorter_logs_part_no
import KE.KStateDown
import KE.KSuper
import HandS.More
import HandS.Defaults
import HandS.HeadHook1
import HandS.HeadHook2
import HandS.HeadHook4
import HandS.HeadNt
import Lean
import HandS.Head0
import HandS.Head1
import HandS.Head2
import HandS.HeadEnd
import HandS.IsInst
import HandS.Conv
import HandS.TupAny
import HandS.DictComp
import HandS.ListItems
import HandS.Wide
import HandS.Star
import HandS.Small
import HandS.Steps
import HandS.Walk
import HandS.Zip
import KE.GoesZip
import KE.GoesMore
import KE.GoesEnum
import HandS.Style
import HandS.Nested
import HandS.ClsMeth
import KE.KDictZip
import KE.KDictItemsList
import KE.KItemsList
import HandS.Ends
section
set_option Elab.async false
set_option linter.all false
set_option maxRecDepth 100000
/-! The text by places (written by wip/gen_head.py). -/
namespace Tw
open PySem L2
def top (i : Nat) : Stmt := PySem.Challenge.pw_twinbegun_k54_whole_shorter_logs_part_no.main.body.getD i (.Pass ⟨0, 0, 0, 0⟩)
abbrev s_is_name : Stmt := top 19
abbrev s_is_integer : Stmt := top 20
abbrev s_is_plain : Stmt := top 21
abbrev s_is_terms : Stmt := top 22
abbrev s_is_changes : Stmt := top 23
abbrev s_check_names : Stmt := top 24
abbrev s_Program_init : Stmt := inClass (top 25) 1
abbrev s_Program_is_rule : Stmt := inClass (top 25) 6
abbrev s_Program_modes : Stmt := inClass (top 25) 7
abbrev s_Program_registers : Stmt := inClass (top 25) 8
abbrev s_Program_signs : Stmt := inClass (top 25) 9
abbrev s_Program_is_state : Stmt := inClass (top 25) 13
abbrev s_Program_is_event : Stmt := inClass (top 25) 14
abbrev s_Program_check_events : Stmt := inClass (top 25) 15
abbrev s_Program_moved : Stmt := inClass (top 25) 16
abbrev s_Program_run : Stmt := inClass (top 25) 18
abbrev s_plain_row : Stmt := top 27
abbrev s_greatest_divisor : Stmt := top 29
abbrev s_reduced : Stmt := top 30
abbrev s_first_place : Stmt := top 31
abbrev s_cleared : Stmt := top 32
abbrev s_echelon : Stmt := top 33
abbrev s_rank : Stmt := top 34
abbrev s_are_signs_equal : Stmt := top 36
abbrev s_copied : Stmt := top 37
abbrev s_pair_row : Stmt := top 38
abbrev s_Comparison_init : Stmt := inClass (top 39) 0
abbrev s_Alike_told : Stmt := inClass (top 40) 3
abbrev s_Apart_told : Stmt := inClass (top 41) 2
abbrev s_Apart_events : Stmt := inClass (top 41) 3
abbrev s_compare : Stmt := top 42
abbrev s_Probe_init : Stmt := inClass (top 44) 0
abbrev s_Probe_call : Stmt := inClass (top 44) 1
abbrev s_Probe_value_at : Stmt := inClass (top 44) 3
abbrev s_Probe_value : Stmt := inClass (top 44) 4
abbrev s_law_bag : Stmt := top 46
abbrev s_law_take : Stmt := top 47
abbrev s_law_of : Stmt := top 48
abbrev s_law_mixed : Stmt := top 49
abbrev s_law_names : Stmt := top 50
abbrev s_law_factor : Stmt := top 51
abbrev s_law_terms : Stmt := top 52
abbrev s_law_changes : Stmt := top 53
abbrev s_law_spec : Stmt := top 54
abbrev s_law_program : Stmt := top 55
abbrev s_law_amount : Stmt := top 56
abbrev s_law_event : Stmt := top 57
abbrev s_law_events : Stmt := top 58
abbrev s_law_state : Stmt := top 59
abbrev s_law_after : Stmt := top 60
abbrev s_law_run : Stmt := top 61
abbrev s_law_look : Stmt := top 62
abbrev s_law_value : Stmt := top 63
abbrev s_law_probe : Stmt := top 64
abbrev s_law_renamed : Stmt := top 65
abbrev s_law_changed : Stmt := top 66
abbrev s_law_two_probes : Stmt := top 67
abbrev s_law_gap : Stmt := top 68
abbrev s_law : Stmt := top 69
abbrev s_Alike_init : Stmt := inClass (top 40) 0
abbrev s_Apart_init : Stmt := inClass (top 41) 0
end Tw
end

section
set_option Elab.async false
set_option linter.all false
set_option maxRecDepth 100000
set_option maxHeartbeats 4000000
/-! The facts by names (written by wip/gen_head.py). -/
namespace Tw
open PySem PySem.Spec PyProof.Rows L2
def d_is_name : He.DefD := ⟨("is_name", none), "is_name", "is_name", defArgs s_is_name, defBody s_is_name, defScope s_is_name, [], []⟩
def d_is_integer : He.DefD := ⟨("is_integer", none), "is_integer", "is_integer", defArgs s_is_integer, defBody s_is_integer, defScope s_is_integer, [], []⟩
def d_is_plain : He.DefD := ⟨("is_plain", none), "is_plain", "is_plain", defArgs s_is_plain, defBody s_is_plain, defScope s_is_plain, [], []⟩
def d_is_terms : He.DefD := ⟨("is_terms", none), "is_terms", "is_terms", defArgs s_is_terms, defBody s_is_terms, defScope s_is_terms, [], []⟩
def d_is_changes : He.DefD := ⟨("is_changes", none), "is_changes", "is_changes", defArgs s_is_changes, defBody s_is_changes, defScope s_is_changes, [], []⟩
def d_check_names : He.DefD := ⟨("check_names", none), "check_names", "check_names", defArgs s_check_names, defBody s_check_names, defScope s_check_names, [], []⟩
def d_Program_init : He.DefD := ⟨("Program", some "__init__"), "__init__", "Program.__init__", defArgs s_Program_init, defBody s_Program_init, defScope s_Program_init, [.adr (He.dflAt ("Program", some "__init__") 0)], []⟩
def d_Program_is_rule : He.DefD := ⟨("Program", some "is_rule"), "is_rule", "Program.is_rule", defArgs s_Program_is_rule, defBody s_Program_is_rule, defScope s_Program_is_rule, [], []⟩
def d_Program_modes : He.DefD := ⟨("Program", some "modes"), "modes", "Program.modes", defArgs s_Program_modes, defBody s_Program_modes, defScope s_Program_modes, [], []⟩
def d_Program_registers : He.DefD := ⟨("Program", some "registers"), "registers", "Program.registers", defArgs s_Program_registers, defBody s_Program_registers, defScope s_Program_registers, [], []⟩
def d_Program_signs : He.DefD := ⟨("Program", some "signs"), "signs", "Program.signs", defArgs s_Program_signs, defBody s_Program_signs, defScope s_Program_signs, [], []⟩
def d_Program_is_state : He.DefD := ⟨("Program", some "is_state"), "is_state", "Program.is_state", defArgs s_Program_is_state, defBody s_Program_is_state, defScope s_Program_is_state, [], []⟩
def d_Program_is_event : He.DefD := ⟨("Program", some "is_event"), "is_event", "Program.is_event", defArgs s_Program_is_event, defBody s_Program_is_event, defScope s_Program_is_event, [], []⟩
def d_Program_check_events : He.DefD := ⟨("Program", some "check_events"), "check_events", "Program.check_events", defArgs s_Program_check_events, defBody s_Program_check_events, defScope s_Program_check_events, [], []⟩
def d_Program_moved : He.DefD := ⟨("Program", some "moved"), "moved", "Program.moved", defArgs s_Program_moved, defBody s_Program_moved, defScope s_Program_moved, [], []⟩
def d_Program_run : He.DefD := ⟨("Program", some "run"), "run", "Program.run", defArgs s_Program_run, defBody s_Program_run, defScope s_Program_run, [], []⟩
def d_plain_row : He.DefD := ⟨("plain_row", none), "plain_row", "plain_row", defArgs s_plain_row, defBody s_plain_row, defScope s_plain_row, [], []⟩
def d_greatest_divisor : He.DefD := ⟨("greatest_divisor", none), "greatest_divisor", "greatest_divisor", defArgs s_greatest_divisor, defBody s_greatest_divisor, defScope s_greatest_divisor, [], []⟩
def d_reduced : He.DefD := ⟨("reduced", none), "reduced", "reduced", defArgs s_reduced, defBody s_reduced, defScope s_reduced, [], []⟩
def d_first_place : He.DefD := ⟨("first_place", none), "first_place", "first_place", defArgs s_first_place, defBody s_first_place, defScope s_first_place, [], []⟩
def d_cleared : He.DefD := ⟨("cleared", none), "cleared", "cleared", defArgs s_cleared, defBody s_cleared, defScope s_cleared, [], []⟩
def d_echelon : He.DefD := ⟨("echelon", none), "echelon", "echelon", defArgs s_echelon, defBody s_echelon, defScope s_echelon, [], []⟩
def d_rank : He.DefD := ⟨("rank", none), "rank", "rank", defArgs s_rank, defBody s_rank, defScope s_rank, [], []⟩
def d_are_signs_equal : He.DefD := ⟨("are_signs_equal", none), "are_signs_equal", "are_signs_equal", defArgs s_are_signs_equal, defBody s_are_signs_equal, defScope s_are_signs_equal, [], []⟩
def d_copied : He.DefD := ⟨("copied", none), "copied", "copied", defArgs s_copied, defBody s_copied, defScope s_copied, [], []⟩
def d_pair_row : He.DefD := ⟨("pair_row", none), "pair_row", "pair_row", defArgs s_pair_row, defBody s_pair_row, defScope s_pair_row, [], []⟩
def d_Comparison_init : He.DefD := ⟨("Comparison", some "__init__"), "__init__", "Comparison.__init__", defArgs s_Comparison_init, defBody s_Comparison_init, defScope s_Comparison_init, [], []⟩
def d_Alike_told : He.DefD := ⟨("Alike", some "told"), "told", "Alike.told", defArgs s_Alike_told, defBody s_Alike_told, defScope s_Alike_told, [], []⟩
def d_Apart_told : He.DefD := ⟨("Apart", some "told"), "told", "Apart.told", defArgs s_Apart_told, defBody s_Apart_told, defScope s_Apart_told, [], []⟩
def d_Apart_events : He.DefD := ⟨("Apart", some "events"), "events", "Apart.events", defArgs s_Apart_events, defBody s_Apart_events, defScope s_Apart_events, [], []⟩
def d_compare : He.DefD := ⟨("compare", none), "compare", "compare", defArgs s_compare, defBody s_compare, defScope s_compare, [], []⟩
def d_Probe_init : He.DefD := ⟨("Probe", some "__init__"), "__init__", "Probe.__init__", defArgs s_Probe_init, defBody s_Probe_init, defScope s_Probe_init, [], []⟩
def d_Probe_call : He.DefD := ⟨("Probe", some "__call__"), "__call__", "Probe.__call__", defArgs s_Probe_call, defBody s_Probe_call, defScope s_Probe_call, [], []⟩
def d_Probe_value_at : He.DefD := ⟨("Probe", some "value_at"), "value_at", "Probe.value_at", defArgs s_Probe_value_at, defBody s_Probe_value_at, defScope s_Probe_value_at, [], []⟩
def d_Probe_value : He.DefD := ⟨("Probe", some "value"), "value", "Probe.value", defArgs s_Probe_value, defBody s_Probe_value, defScope s_Probe_value, [], []⟩
def d_law_bag : He.DefD := ⟨("_law_bag", none), "_law_bag", "_law_bag", defArgs s_law_bag, defBody s_law_bag, defScope s_law_bag, [], []⟩
def d_law_take : He.DefD := ⟨("_law_take", none), "_law_take", "_law_take", defArgs s_law_take, defBody s_law_take, defScope s_law_take, [], []⟩
def d_law_of : He.DefD := ⟨("_law_of", none), "_law_of", "_law_of", defArgs s_law_of, defBody s_law_of, defScope s_law_of, [], []⟩
def d_law_mixed : He.DefD := ⟨("_law_mixed", none), "_law_mixed", "_law_mixed", defArgs s_law_mixed, defBody s_law_mixed, defScope s_law_mixed, [], []⟩
def d_law_names : He.DefD := ⟨("_law_names", none), "_law_names", "_law_names", defArgs s_law_names, defBody s_law_names, defScope s_law_names, [], []⟩
def d_law_factor : He.DefD := ⟨("_law_factor", none), "_law_factor", "_law_factor", defArgs s_law_factor, defBody s_law_factor, defScope s_law_factor, [], []⟩
def d_law_terms : He.DefD := ⟨("_law_terms", none), "_law_terms", "_law_terms", defArgs s_law_terms, defBody s_law_terms, defScope s_law_terms, [], []⟩
def d_law_changes : He.DefD := ⟨("_law_changes", none), "_law_changes", "_law_changes", defArgs s_law_changes, defBody s_law_changes, defScope s_law_changes, [], []⟩
def d_law_spec : He.DefD := ⟨("_law_spec", none), "_law_spec", "_law_spec", defArgs s_law_spec, defBody s_law_spec, defScope s_law_spec, [], []⟩
def d_law_program : He.DefD := ⟨("_law_program", none), "_law_program", "_law_program", defArgs s_law_program, defBody s_law_program, defScope s_law_program, [], []⟩
def d_law_amount : He.DefD := ⟨("_law_amount", none), "_law_amount", "_law_amount", defArgs s_law_amount, defBody s_law_amount, defScope s_law_amount, [], []⟩
def d_law_event : He.DefD := ⟨("_law_event", none), "_law_event", "_law_event", defArgs s_law_event, defBody s_law_event, defScope s_law_event, [], []⟩
def d_law_events : He.DefD := ⟨("_law_events", none), "_law_events", "_law_events", defArgs s_law_events, defBody s_law_events, defScope s_law_events, [], []⟩
def d_law_state : He.DefD := ⟨("_law_state", none), "_law_state", "_law_state", defArgs s_law_state, defBody s_law_state, defScope s_law_state, [], []⟩
def d_law_after : He.DefD := ⟨("_law_after", none), "_law_after", "_law_after", defArgs s_law_after, defBody s_law_after, defScope s_law_after, [], []⟩
def d_law_run : He.DefD := ⟨("_law_run", none), "_law_run", "_law_run", defArgs s_law_run, defBody s_law_run, defScope s_law_run, [], []⟩
def d_law_look : He.DefD := ⟨("_law_look", none), "_law_look", "_law_look", defArgs s_law_look, defBody s_law_look, defScope s_law_look, [], []⟩
def d_law_value : He.DefD := ⟨("_law_value", none), "_law_value", "_law_value", defArgs s_law_value, defBody s_law_value, defScope s_law_value, [], []⟩
def d_law_probe : He.DefD := ⟨("_law_probe", none), "_law_probe", "_law_probe", defArgs s_law_probe, defBody s_law_probe, defScope s_law_probe, [], []⟩
def d_law_renamed : He.DefD := ⟨("_law_renamed", none), "_law_renamed", "_law_renamed", defArgs s_law_renamed, defBody s_law_renamed, defScope s_law_renamed, [], []⟩
def d_law_changed : He.DefD := ⟨("_law_changed", none), "_law_changed", "_law_changed", defArgs s_law_changed, defBody s_law_changed, defScope s_law_changed, [], []⟩
def d_law_two_probes : He.DefD := ⟨("_law_two_probes", none), "_law_two_probes", "_law_two_probes", defArgs s_law_two_probes, defBody s_law_two_probes, defScope s_law_two_probes, [], []⟩
def d_law_gap : He.DefD := ⟨("_law_gap", none), "_law_gap", "_law_gap", defArgs s_law_gap, defBody s_law_gap, defScope s_law_gap, [], []⟩
def d_law : He.DefD := ⟨("law", none), "law", "law", defArgs s_law, defBody s_law, defScope s_law, [], []⟩
def fns : List He.DefD := [d_is_name, d_is_integer, d_is_plain, d_is_terms, d_is_changes, d_check_names, d_Program_init, d_Program_is_rule, d_Program_modes, d_Program_registers, d_Program_signs, d_Program_is_state, d_Program_is_event, d_Program_check_events, d_Program_moved, d_Program_run, d_plain_row, d_greatest_divisor, d_reduced, d_first_place, d_cleared, d_echelon, d_rank, d_are_signs_equal, d_copied, d_pair_row, d_Comparison_init, d_Alike_told, d_Apart_told, d_Apart_events, d_compare, d_Probe_init, d_Probe_call, d_Probe_value_at, d_Probe_value, d_law_bag, d_law_take, d_law_of, d_law_mixed, d_law_names, d_law_factor, d_law_terms, d_law_changes, d_law_spec, d_law_program, d_law_amount, d_law_event, d_law_events, d_law_state, d_law_after, d_law_run, d_law_look, d_law_value, d_law_probe, d_law_renamed, d_law_changed, d_law_two_probes, d_law_gap, d_law]
def fas : List He.Fa := [.glo "is_name", .glo "is_integer", .glo "is_plain", .glo "is_terms", .glo "is_changes", .glo "check_names", .glo "plain_row", .glo "greatest_divisor", .glo "reduced", .glo "first_place", .glo "cleared", .glo "echelon", .glo "rank", .glo "are_signs_equal", .glo "copied", .glo "pair_row", .glo "compare", .glo "_law_bag", .glo "_law_take", .glo "_law_of", .glo "_law_mixed", .glo "_law_names", .glo "_law_factor", .glo "_law_terms", .glo "_law_changes", .glo "_law_spec", .glo "_law_program", .glo "_law_amount", .glo "_law_event", .glo "_law_events", .glo "_law_state", .glo "_law_after", .glo "_law_run", .glo "_law_look", .glo "_law_value", .glo "_law_probe", .glo "_law_renamed", .glo "_law_changed", .glo "_law_two_probes", .glo "_law_gap", .glo "law", .glo "Program", .glo "Comparison", .glo "Alike", .glo "Apart", .glo "Probe", .glo "RESERVED", .free "len", .free "isinstance", .free "all", .free "list", .free "tuple", .free "int", .free "sum", .free "dict", .free "zip", .free "enumerate", .free "range", .free "sorted", .free "abs", .free "min", .free "str", .free "super", .free "bool", .int "MOST_AMOUNT" 1000000000000, .int "MOST_FACTOR" 1000, .cls "Program", .cls "Probe", .cls "Alike", .cls "Apart", .noat "Program" "own_modes", .noat "Program" "own_registers", .noat "Program" "own_signs", .noat "Program" "own_rules", .noat "Program" "by_pair", .noat "Probe" "program", .noat "Probe" "start", .noat "Probe" "by_mode", .noat "Probe" "own_look", .noat "Alike" "one", .noat "Alike" "other", .noat "Alike" "own_logs", .noat "Apart" "one", .noat "Apart" "other", .noat "Apart" "own_events", .meth "Program" "is_rule", .meth "Program" "modes", .meth "Program" "registers", .meth "Program" "signs", .meth "Program" "is_state", .meth "Program" "is_event", .meth "Program" "check_events", .meth "Program" "moved", .meth "Program" "run", .meth "Probe" "value_at", .meth "Probe" "value", .meth "Probe" "__call__", .meth "Alike" "told", .meth "Apart" "told", .meth "Apart" "events", .mkr "Program", .mkr "Probe", .mkr "Alike", .mkr "Apart"]
def exB (K : PySem.W.Frag) : Bool := He.tupB K "RESERVED" [.str "amount", .str "one"] && PySem.W.fnIn K (He.ma K (He.ga K "Probe") "__call__")
/-- a def that closes over its class, by Bools: the closure, no defaults, the code's file, the class, what super() finds -/
def supB (K : PySem.W.Frag) (f D f2 : Addr) : Bool :=
  (match K.lookup f with
    | some ⟨_, _, .func fd, _⟩ => (match fd.closure with
        | [(x, cc)] => (x == ("__class__" : Str)) && (match K.lookup cc with
            | some ⟨_, _, .cell (some (.ref d)), _⟩ => d == D
            | _ => false)
        | _ => false) && (match fd.defaults with
        | .none => true
        | _ => false) && (match fd.code with
        | .ref c => PySem.W.codeIn K (.ref c) fd.qualname && (match K.lookup c with
            | some ⟨_, _, .fields vs, _⟩ => (match (vs[2]? : Option Value) with
                | some (Value.str z _) => z == ("/claim/cut.py" : Str)
                | _ => false)
            | _ => false)
        | _ => false)
    | _ => false) && (PySem.W.clsIn K D).isSome && (match PySem.W.mroIn K D (.ref D) with
    | some true => true
    | _ => false) && (match PySem.W.ks_superIn K D D "__init__" with
    | some (some (.ref g)) => g == f2
    | _ => false) && (match PySem.W.typeIn K (.ref f2) with
    | some (.type t) => t == "function"
    | _ => false) && (match PySem.W.nsIn K cStatics "thirdparty.any" with
    | some none => true
    | _ => false) && PySem.W.fnIn K f2
abbrev XW : Type := Option (Str × Str × Arguments × FuncBody × Scope × Addr × Addr)
def xW (K : PySem.W.Frag) (f : Addr) : XW := match K.lookup f with
  | some ⟨_, _, .func fd, _⟩ => some (fd.name, fd.qualname, fd.params, fd.body, fd.scope, fd.globals, fd.builtins)
  | _ => none
def spZ (K : PySem.W.Frag) : Bool × List XW := (supB K (He.ma K (He.ga K "Alike") "__init__") (He.ga K "Alike") (He.ma K (He.ga K "Comparison") "__init__") && supB K (He.ma K (He.ga K "Apart") "__init__") (He.ga K "Apart") (He.ma K (He.ga K "Comparison") "__init__"),
  [xW K (He.ma K (He.ga K "Alike") "__init__"), xW K (He.ma K (He.ga K "Apart") "__init__")])
def spV : Bool × List XW := (true, [some ("__init__", "Alike.__init__", defArgs s_Alike_init, .stmts (defBody s_Alike_init), defScope s_Alike_init, mainGlobals, builtinsNs), some ("__init__", "Apart.__init__", defArgs s_Apart_init, .stmts (defBody s_Apart_init), defScope s_Apart_init, mainGlobals, builtinsNs)])
/-- what the walk knows of the top -/
structure Txt (K : PySem.W.Frag) (mg : Str → Option Value) : Prop where
  says : He.SaysD fas fns K
  ex : exB K = true
  sp : spZ K = spV
  glo : ∀ (i : Nat) {x : Str}, fas[i]? = some (.glo x) → mg x = some (.ref (He.ga K x))
  free : ∀ (i : Nat) {x : Str}, fas[i]? = some (.free x) → mg x = none
  int : ∀ (i : Nat) {x : Str} {z : Int}, fas[i]? = some (.int x z) → ∃ t, mg x = some (.int z t)
theorem txt_of {K : PySem.W.Frag} {mg : Str → Option Value} {h : Heap} (X : K.In h) (G : h.Ns mainGlobals mg) (c : He.SaysD fas fns K) (e : exB K = true) (z : spZ K = spV) : Txt K mg :=
  ⟨c, e, z, fun i _ q => He.glo_ok X G (c.fact i q), fun i _ q => He.free_ok X G (c.fact i q), fun i _ _ q => He.int_ok X G (c.fact i q)⟩

section
variable {K : PySem.W.Frag} {mg : Str → Option Value}
theorem g_is_name (T : Txt K mg) : mg "is_name" = some (.ref (He.ga K "is_name")) := T.glo 0 rfl
theorem g_is_integer (T : Txt K mg) : mg "is_integer" = some (.ref (He.ga K "is_integer")) := T.glo 1 rfl
theorem g_is_plain (T : Txt K mg) : mg "is_plain" = some (.ref (He.ga K "is_plain")) := T.glo 2 rfl
theorem g_is_terms (T : Txt K mg) : mg "is_terms" = some (.ref (He.ga K "is_terms")) := T.glo 3 rfl
theorem g_is_changes (T : Txt K mg) : mg "is_changes" = some (.ref (He.ga K "is_changes")) := T.glo 4 rfl
theorem g_check_names (T : Txt K mg) : mg "check_names" = some (.ref (He.ga K "check_names")) := T.glo 5 rfl
theorem g_plain_row (T : Txt K mg) : mg "plain_row" = some (.ref (He.ga K "plain_row")) := T.glo 6 rfl
theorem g_greatest_divisor (T : Txt K mg) : mg "greatest_divisor" = some (.ref (He.ga K "greatest_divisor")) := T.glo 7 rfl
theorem g_reduced (T : Txt K mg) : mg "reduced" = some (.ref (He.ga K "reduced")) := T.glo 8 rfl
theorem g_first_place (T : Txt K mg) : mg "first_place" = some (.ref (He.ga K "first_place")) := T.glo 9 rfl
theorem g_cleared (T : Txt K mg) : mg "cleared" = some (.ref (He.ga K "cleared")) := T.glo 10 rfl
theorem g_echelon (T : Txt K mg) : mg "echelon" = some (.ref (He.ga K "echelon")) := T.glo 11 rfl
theorem g_rank (T : Txt K mg) : mg "rank" = some (.ref (He.ga K "rank")) := T.glo 12 rfl
theorem g_are_signs_equal (T : Txt K mg) : mg "are_signs_equal" = some (.ref (He.ga K "are_signs_equal")) := T.glo 13 rfl
theorem g_copied (T : Txt K mg) : mg "copied" = some (.ref (He.ga K "copied")) := T.glo 14 rfl
theorem g_pair_row (T : Txt K mg) : mg "pair_row" = some (.ref (He.ga K "pair_row")) := T.glo 15 rfl
theorem g_compare (T : Txt K mg) : mg "compare" = some (.ref (He.ga K "compare")) := T.glo 16 rfl
theorem g_law_bag (T : Txt K mg) : mg "_law_bag" = some (.ref (He.ga K "_law_bag")) := T.glo 17 rfl
theorem g_law_take (T : Txt K mg) : mg "_law_take" = some (.ref (He.ga K "_law_take")) := T.glo 18 rfl
theorem g_law_of (T : Txt K mg) : mg "_law_of" = some (.ref (He.ga K "_law_of")) := T.glo 19 rfl
theorem g_law_mixed (T : Txt K mg) : mg "_law_mixed" = some (.ref (He.ga K "_law_mixed")) := T.glo 20 rfl
theorem g_law_names (T : Txt K mg) : mg "_law_names" = some (.ref (He.ga K "_law_names")) := T.glo 21 rfl
theorem g_law_factor (T : Txt K mg) : mg "_law_factor" = some (.ref (He.ga K "_law_factor")) := T.glo 22 rfl
theorem g_law_terms (T : Txt K mg) : mg "_law_terms" = some (.ref (He.ga K "_law_terms")) := T.glo 23 rfl
theorem g_law_changes (T : Txt K mg) : mg "_law_changes" = some (.ref (He.ga K "_law_changes")) := T.glo 24 rfl
theorem g_law_spec (T : Txt K mg) : mg "_law_spec" = some (.ref (He.ga K "_law_spec")) := T.glo 25 rfl
theorem g_law_program (T : Txt K mg) : mg "_law_program" = some (.ref (He.ga K "_law_program")) := T.glo 26 rfl
theorem g_law_amount (T : Txt K mg) : mg "_law_amount" = some (.ref (He.ga K "_law_amount")) := T.glo 27 rfl
theorem g_law_event (T : Txt K mg) : mg "_law_event" = some (.ref (He.ga K "_law_event")) := T.glo 28 rfl
theorem g_law_events (T : Txt K mg) : mg "_law_events" = some (.ref (He.ga K "_law_events")) := T.glo 29 rfl
theorem g_law_state (T : Txt K mg) : mg "_law_state" = some (.ref (He.ga K "_law_state")) := T.glo 30 rfl
theorem g_law_after (T : Txt K mg) : mg "_law_after" = some (.ref (He.ga K "_law_after")) := T.glo 31 rfl
theorem g_law_run (T : Txt K mg) : mg "_law_run" = some (.ref (He.ga K "_law_run")) := T.glo 32 rfl
theorem g_law_look (T : Txt K mg) : mg "_law_look" = some (.ref (He.ga K "_law_look")) := T.glo 33 rfl
theorem g_law_value (T : Txt K mg) : mg "_law_value" = some (.ref (He.ga K "_law_value")) := T.glo 34 rfl
theorem g_law_probe (T : Txt K mg) : mg "_law_probe" = some (.ref (He.ga K "_law_probe")) := T.glo 35 rfl
theorem g_law_renamed (T : Txt K mg) : mg "_law_renamed" = some (.ref (He.ga K "_law_renamed")) := T.glo 36 rfl
theorem g_law_changed (T : Txt K mg) : mg "_law_changed" = some (.ref (He.ga K "_law_changed")) := T.glo 37 rfl
theorem g_law_two_probes (T : Txt K mg) : mg "_law_two_probes" = some (.ref (He.ga K "_law_two_probes")) := T.glo 38 rfl
theorem g_law_gap (T : Txt K mg) : mg "_law_gap" = some (.ref (He.ga K "_law_gap")) := T.glo 39 rfl
theorem g_law (T : Txt K mg) : mg "law" = some (.ref (He.ga K "law")) := T.glo 40 rfl
theorem g_Program (T : Txt K mg) : mg "Program" = some (.ref (He.ga K "Program")) := T.glo 41 rfl
theorem g_Comparison (T : Txt K mg) : mg "Comparison" = some (.ref (He.ga K "Comparison")) := T.glo 42 rfl
theorem g_Alike (T : Txt K mg) : mg "Alike" = some (.ref (He.ga K "Alike")) := T.glo 43 rfl
theorem g_Apart (T : Txt K mg) : mg "Apart" = some (.ref (He.ga K "Apart")) := T.glo 44 rfl
theorem g_Probe (T : Txt K mg) : mg "Probe" = some (.ref (He.ga K "Probe")) := T.glo 45 rfl
theorem g_RESERVED (T : Txt K mg) : mg "RESERVED" = some (.ref (He.ga K "RESERVED")) := T.glo 46 rfl
theorem b_len (T : Txt K mg) : mg "len" = none := T.free 47 rfl
theorem b_isinstance (T : Txt K mg) : mg "isinstance" = none := T.free 48 rfl
theorem b_all (T : Txt K mg) : mg "all" = none := T.free 49 rfl
theorem b_list (T : Txt K mg) : mg "list" = none := T.free 50 rfl
theorem b_tuple (T : Txt K mg) : mg "tuple" = none := T.free 51 rfl
theorem b_int (T : Txt K mg) : mg "int" = none := T.free 52 rfl
theorem b_sum (T : Txt K mg) : mg "sum" = none := T.free 53 rfl
theorem b_dict (T : Txt K mg) : mg "dict" = none := T.free 54 rfl
theorem b_zip (T : Txt K mg) : mg "zip" = none := T.free 55 rfl
theorem b_enumerate (T : Txt K mg) : mg "enumerate" = none := T.free 56 rfl
theorem b_range (T : Txt K mg) : mg "range" = none := T.free 57 rfl
theorem b_sorted (T : Txt K mg) : mg "sorted" = none := T.free 58 rfl
theorem b_abs (T : Txt K mg) : mg "abs" = none := T.free 59 rfl
theorem b_min (T : Txt K mg) : mg "min" = none := T.free 60 rfl
theorem b_str (T : Txt K mg) : mg "str" = none := T.free 61 rfl
theorem b_super (T : Txt K mg) : mg "super" = none := T.free 62 rfl
theorem b_bool (T : Txt K mg) : mg "bool" = none := T.free 63 rfl
theorem i_MOST_AMOUNT (T : Txt K mg) : ∃ t, mg "MOST_AMOUNT" = some (.int 1000000000000 t) := T.int 64 rfl
theorem i_MOST_FACTOR (T : Txt K mg) : ∃ t, mg "MOST_FACTOR" = some (.int 1000 t) := T.int 65 rfl
theorem c_Program (T : Txt K mg) : Cls K (He.ga K "Program") := He.cls_ok (T.says.fact 66 (f := .cls "Program") rfl)
theorem c_Probe (T : Txt K mg) : Cls K (He.ga K "Probe") := He.cls_ok (T.says.fact 67 (f := .cls "Probe") rfl)
theorem c_Alike (T : Txt K mg) : Cls K (He.ga K "Alike") := He.cls_ok (T.says.fact 68 (f := .cls "Alike") rfl)
theorem c_Apart (T : Txt K mg) : Cls K (He.ga K "Apart") := He.cls_ok (T.says.fact 69 (f := .cls "Apart") rfl)
theorem n_Program_own_modes (T : Txt K mg) : NoAttr K (He.ga K "Program") "own_modes" := He.noat_ok (T.says.fact 70 (f := .noat "Program" "own_modes") rfl)
theorem n_Program_own_registers (T : Txt K mg) : NoAttr K (He.ga K "Program") "own_registers" := He.noat_ok (T.says.fact 71 (f := .noat "Program" "own_registers") rfl)
theorem n_Program_own_signs (T : Txt K mg) : NoAttr K (He.ga K "Program") "own_signs" := He.noat_ok (T.says.fact 72 (f := .noat "Program" "own_signs") rfl)
theorem n_Program_own_rules (T : Txt K mg) : NoAttr K (He.ga K "Program") "own_rules" := He.noat_ok (T.says.fact 73 (f := .noat "Program" "own_rules") rfl)
theorem n_Program_by_pair (T : Txt K mg) : NoAttr K (He.ga K "Program") "by_pair" := He.noat_ok (T.says.fact 74 (f := .noat "Program" "by_pair") rfl)
theorem n_Probe_program (T : Txt K mg) : NoAttr K (He.ga K "Probe") "program" := He.noat_ok (T.says.fact 75 (f := .noat "Probe" "program") rfl)
theorem n_Probe_start (T : Txt K mg) : NoAttr K (He.ga K "Probe") "start" := He.noat_ok (T.says.fact 76 (f := .noat "Probe" "start") rfl)
theorem n_Probe_by_mode (T : Txt K mg) : NoAttr K (He.ga K "Probe") "by_mode" := He.noat_ok (T.says.fact 77 (f := .noat "Probe" "by_mode") rfl)
theorem n_Probe_own_look (T : Txt K mg) : NoAttr K (He.ga K "Probe") "own_look" := He.noat_ok (T.says.fact 78 (f := .noat "Probe" "own_look") rfl)
theorem n_Alike_one (T : Txt K mg) : NoAttr K (He.ga K "Alike") "one" := He.noat_ok (T.says.fact 79 (f := .noat "Alike" "one") rfl)
theorem n_Alike_other (T : Txt K mg) : NoAttr K (He.ga K "Alike") "other" := He.noat_ok (T.says.fact 80 (f := .noat "Alike" "other") rfl)
theorem n_Alike_own_logs (T : Txt K mg) : NoAttr K (He.ga K "Alike") "own_logs" := He.noat_ok (T.says.fact 81 (f := .noat "Alike" "own_logs") rfl)
theorem n_Apart_one (T : Txt K mg) : NoAttr K (He.ga K "Apart") "one" := He.noat_ok (T.says.fact 82 (f := .noat "Apart" "one") rfl)
theorem n_Apart_other (T : Txt K mg) : NoAttr K (He.ga K "Apart") "other" := He.noat_ok (T.says.fact 83 (f := .noat "Apart" "other") rfl)
theorem n_Apart_own_events (T : Txt K mg) : NoAttr K (He.ga K "Apart") "own_events" := He.noat_ok (T.says.fact 84 (f := .noat "Apart" "own_events") rfl)
theorem m_Program_is_rule (T : Txt K mg) : Meth K (He.ga K "Program") "is_rule" (He.ma K (He.ga K "Program") "is_rule") := He.meth_ok (T.says.fact 85 (f := .meth "Program" "is_rule") rfl)
theorem m_Program_modes (T : Txt K mg) : Meth K (He.ga K "Program") "modes" (He.ma K (He.ga K "Program") "modes") := He.meth_ok (T.says.fact 86 (f := .meth "Program" "modes") rfl)
theorem m_Program_registers (T : Txt K mg) : Meth K (He.ga K "Program") "registers" (He.ma K (He.ga K "Program") "registers") := He.meth_ok (T.says.fact 87 (f := .meth "Program" "registers") rfl)
theorem m_Program_signs (T : Txt K mg) : Meth K (He.ga K "Program") "signs" (He.ma K (He.ga K "Program") "signs") := He.meth_ok (T.says.fact 88 (f := .meth "Program" "signs") rfl)
theorem m_Program_is_state (T : Txt K mg) : Meth K (He.ga K "Program") "is_state" (He.ma K (He.ga K "Program") "is_state") := He.meth_ok (T.says.fact 89 (f := .meth "Program" "is_state") rfl)
theorem m_Program_is_event (T : Txt K mg) : Meth K (He.ga K "Program") "is_event" (He.ma K (He.ga K "Program") "is_event") := He.meth_ok (T.says.fact 90 (f := .meth "Program" "is_event") rfl)
theorem m_Program_check_events (T : Txt K mg) : Meth K (He.ga K "Program") "check_events" (He.ma K (He.ga K "Program") "check_events") := He.meth_ok (T.says.fact 91 (f := .meth "Program" "check_events") rfl)
theorem m_Program_moved (T : Txt K mg) : Meth K (He.ga K "Program") "moved" (He.ma K (He.ga K "Program") "moved") := He.meth_ok (T.says.fact 92 (f := .meth "Program" "moved") rfl)
theorem m_Program_run (T : Txt K mg) : Meth K (He.ga K "Program") "run" (He.ma K (He.ga K "Program") "run") := He.meth_ok (T.says.fact 93 (f := .meth "Program" "run") rfl)
theorem m_Probe_value_at (T : Txt K mg) : Meth K (He.ga K "Probe") "value_at" (He.ma K (He.ga K "Probe") "value_at") := He.meth_ok (T.says.fact 94 (f := .meth "Probe" "value_at") rfl)
theorem m_Probe_value (T : Txt K mg) : Meth K (He.ga K "Probe") "value" (He.ma K (He.ga K "Probe") "value") := He.meth_ok (T.says.fact 95 (f := .meth "Probe" "value") rfl)
theorem m_Probe_call (T : Txt K mg) : Meth K (He.ga K "Probe") "__call__" (He.ma K (He.ga K "Probe") "__call__") := He.meth_ok (T.says.fact 96 (f := .meth "Probe" "__call__") rfl)
theorem m_Alike_told (T : Txt K mg) : Meth K (He.ga K "Alike") "told" (He.ma K (He.ga K "Alike") "told") := He.meth_ok (T.says.fact 97 (f := .meth "Alike" "told") rfl)
theorem m_Apart_told (T : Txt K mg) : Meth K (He.ga K "Apart") "told" (He.ma K (He.ga K "Apart") "told") := He.meth_ok (T.says.fact 98 (f := .meth "Apart" "told") rfl)
theorem m_Apart_events (T : Txt K mg) : Meth K (He.ga K "Apart") "events" (He.ma K (He.ga K "Apart") "events") := He.meth_ok (T.says.fact 99 (f := .meth "Apart" "events") rfl)
theorem k_Program (T : Txt K mg) : Mk K (He.ga K "Program") (He.ma K (He.ga K "Program") "__init__") := He.mkr_ok (T.says.fact 100 (f := .mkr "Program") rfl)
theorem k_Probe (T : Txt K mg) : Mk K (He.ga K "Probe") (He.ma K (He.ga K "Probe") "__init__") := He.mkr_ok (T.says.fact 101 (f := .mkr "Probe") rfl)
theorem k_Alike (T : Txt K mg) : Mk K (He.ga K "Alike") (He.ma K (He.ga K "Alike") "__init__") := He.mkr_ok (T.says.fact 102 (f := .mkr "Alike") rfl)
theorem k_Apart (T : Txt K mg) : Mk K (He.ga K "Apart") (He.ma K (He.ga K "Apart") "__init__") := He.mkr_ok (T.says.fact 103 (f := .mkr "Apart") rfl)
theorem fd_is_name (T : Txt K mg) : ∃ fd, FunD K "is_name" "is_name" (defArgs s_is_name) (defBody s_is_name) (defScope s_is_name) [] [] (He.fAd K ("is_name", none)) fd := T.says.def_ 0 (d := d_is_name) rfl
theorem fd_is_integer (T : Txt K mg) : ∃ fd, FunD K "is_integer" "is_integer" (defArgs s_is_integer) (defBody s_is_integer) (defScope s_is_integer) [] [] (He.fAd K ("is_integer", none)) fd := T.says.def_ 1 (d := d_is_integer) rfl
theorem fd_is_plain (T : Txt K mg) : ∃ fd, FunD K "is_plain" "is_plain" (defArgs s_is_plain) (defBody s_is_plain) (defScope s_is_plain) [] [] (He.fAd K ("is_plain", none)) fd := T.says.def_ 2 (d := d_is_plain) rfl
theorem fd_is_terms (T : Txt K mg) : ∃ fd, FunD K "is_terms" "is_terms" (defArgs s_is_terms) (defBody s_is_terms) (defScope s_is_terms) [] [] (He.fAd K ("is_terms", none)) fd := T.says.def_ 3 (d := d_is_terms) rfl
theorem fd_is_changes (T : Txt K mg) : ∃ fd, FunD K "is_changes" "is_changes" (defArgs s_is_changes) (defBody s_is_changes) (defScope s_is_changes) [] [] (He.fAd K ("is_changes", none)) fd := T.says.def_ 4 (d := d_is_changes) rfl
theorem fd_check_names (T : Txt K mg) : ∃ fd, FunD K "check_names" "check_names" (defArgs s_check_names) (defBody s_check_names) (defScope s_check_names) [] [] (He.fAd K ("check_names", none)) fd := T.says.def_ 5 (d := d_check_names) rfl
theorem fd_Program_init (T : Txt K mg) : ∃ fd, FunD K "__init__" "Program.__init__" (defArgs s_Program_init) (defBody s_Program_init) (defScope s_Program_init) [.ref (He.dflAt ("Program", some "__init__") 0 K)] [] (He.fAd K ("Program", some "__init__")) fd := T.says.def_ 6 (d := d_Program_init) rfl
theorem fd_Program_is_rule (T : Txt K mg) : ∃ fd, FunD K "is_rule" "Program.is_rule" (defArgs s_Program_is_rule) (defBody s_Program_is_rule) (defScope s_Program_is_rule) [] [] (He.fAd K ("Program", some "is_rule")) fd := T.says.def_ 7 (d := d_Program_is_rule) rfl
theorem fd_Program_modes (T : Txt K mg) : ∃ fd, FunD K "modes" "Program.modes" (defArgs s_Program_modes) (defBody s_Program_modes) (defScope s_Program_modes) [] [] (He.fAd K ("Program", some "modes")) fd := T.says.def_ 8 (d := d_Program_modes) rfl
theorem fd_Program_registers (T : Txt K mg) : ∃ fd, FunD K "registers" "Program.registers" (defArgs s_Program_registers) (defBody s_Program_registers) (defScope s_Program_registers) [] [] (He.fAd K ("Program", some "registers")) fd := T.says.def_ 9 (d := d_Program_registers) rfl
theorem fd_Program_signs (T : Txt K mg) : ∃ fd, FunD K "signs" "Program.signs" (defArgs s_Program_signs) (defBody s_Program_signs) (defScope s_Program_signs) [] [] (He.fAd K ("Program", some "signs")) fd := T.says.def_ 10 (d := d_Program_signs) rfl
theorem fd_Program_is_state (T : Txt K mg) : ∃ fd, FunD K "is_state" "Program.is_state" (defArgs s_Program_is_state) (defBody s_Program_is_state) (defScope s_Program_is_state) [] [] (He.fAd K ("Program", some "is_state")) fd := T.says.def_ 11 (d := d_Program_is_state) rfl
theorem fd_Program_is_event (T : Txt K mg) : ∃ fd, FunD K "is_event" "Program.is_event" (defArgs s_Program_is_event) (defBody s_Program_is_event) (defScope s_Program_is_event) [] [] (He.fAd K ("Program", some "is_event")) fd := T.says.def_ 12 (d := d_Program_is_event) rfl
theorem fd_Program_check_events (T : Txt K mg) : ∃ fd, FunD K "check_events" "Program.check_events" (defArgs s_Program_check_events) (defBody s_Program_check_events) (defScope s_Program_check_events) [] [] (He.fAd K ("Program", some "check_events")) fd := T.says.def_ 13 (d := d_Program_check_events) rfl
theorem fd_Program_moved (T : Txt K mg) : ∃ fd, FunD K "moved" "Program.moved" (defArgs s_Program_moved) (defBody s_Program_moved) (defScope s_Program_moved) [] [] (He.fAd K ("Program", some "moved")) fd := T.says.def_ 14 (d := d_Program_moved) rfl
theorem fd_Program_run (T : Txt K mg) : ∃ fd, FunD K "run" "Program.run" (defArgs s_Program_run) (defBody s_Program_run) (defScope s_Program_run) [] [] (He.fAd K ("Program", some "run")) fd := T.says.def_ 15 (d := d_Program_run) rfl
theorem fd_plain_row (T : Txt K mg) : ∃ fd, FunD K "plain_row" "plain_row" (defArgs s_plain_row) (defBody s_plain_row) (defScope s_plain_row) [] [] (He.fAd K ("plain_row", none)) fd := T.says.def_ 16 (d := d_plain_row) rfl
theorem fd_greatest_divisor (T : Txt K mg) : ∃ fd, FunD K "greatest_divisor" "greatest_divisor" (defArgs s_greatest_divisor) (defBody s_greatest_divisor) (defScope s_greatest_divisor) [] [] (He.fAd K ("greatest_divisor", none)) fd := T.says.def_ 17 (d := d_greatest_divisor) rfl
theorem fd_reduced (T : Txt K mg) : ∃ fd, FunD K "reduced" "reduced" (defArgs s_reduced) (defBody s_reduced) (defScope s_reduced) [] [] (He.fAd K ("reduced", none)) fd := T.says.def_ 18 (d := d_reduced) rfl
theorem fd_first_place (T : Txt K mg) : ∃ fd, FunD K "first_place" "first_place" (defArgs s_first_place) (defBody s_first_place) (defScope s_first_place) [] [] (He.fAd K ("first_place", none)) fd := T.says.def_ 19 (d := d_first_place) rfl
theorem fd_cleared (T : Txt K mg) : ∃ fd, FunD K "cleared" "cleared" (defArgs s_cleared) (defBody s_cleared) (defScope s_cleared) [] [] (He.fAd K ("cleared", none)) fd := T.says.def_ 20 (d := d_cleared) rfl
theorem fd_echelon (T : Txt K mg) : ∃ fd, FunD K "echelon" "echelon" (defArgs s_echelon) (defBody s_echelon) (defScope s_echelon) [] [] (He.fAd K ("echelon", none)) fd := T.says.def_ 21 (d := d_echelon) rfl
theorem fd_rank (T : Txt K mg) : ∃ fd, FunD K "rank" "rank" (defArgs s_rank) (defBody s_rank) (defScope s_rank) [] [] (He.fAd K ("rank", none)) fd := T.says.def_ 22 (d := d_rank) rfl
theorem fd_are_signs_equal (T : Txt K mg) : ∃ fd, FunD K "are_signs_equal" "are_signs_equal" (defArgs s_are_signs_equal) (defBody s_are_signs_equal) (defScope s_are_signs_equal) [] [] (He.fAd K ("are_signs_equal", none)) fd := T.says.def_ 23 (d := d_are_signs_equal) rfl
theorem fd_copied (T : Txt K mg) : ∃ fd, FunD K "copied" "copied" (defArgs s_copied) (defBody s_copied) (defScope s_copied) [] [] (He.fAd K ("copied", none)) fd := T.says.def_ 24 (d := d_copied) rfl
theorem fd_pair_row (T : Txt K mg) : ∃ fd, FunD K "pair_row" "pair_row" (defArgs s_pair_row) (defBody s_pair_row) (defScope s_pair_row) [] [] (He.fAd K ("pair_row", none)) fd := T.says.def_ 25 (d := d_pair_row) rfl
theorem fd_Comparison_init (T : Txt K mg) : ∃ fd, FunD K "__init__" "Comparison.__init__" (defArgs s_Comparison_init) (defBody s_Comparison_init) (defScope s_Comparison_init) [] [] (He.fAd K ("Comparison", some "__init__")) fd := T.says.def_ 26 (d := d_Comparison_init) rfl
theorem fd_Alike_told (T : Txt K mg) : ∃ fd, FunD K "told" "Alike.told" (defArgs s_Alike_told) (defBody s_Alike_told) (defScope s_Alike_told) [] [] (He.fAd K ("Alike", some "told")) fd := T.says.def_ 27 (d := d_Alike_told) rfl
theorem fd_Apart_told (T : Txt K mg) : ∃ fd, FunD K "told" "Apart.told" (defArgs s_Apart_told) (defBody s_Apart_told) (defScope s_Apart_told) [] [] (He.fAd K ("Apart", some "told")) fd := T.says.def_ 28 (d := d_Apart_told) rfl
theorem fd_Apart_events (T : Txt K mg) : ∃ fd, FunD K "events" "Apart.events" (defArgs s_Apart_events) (defBody s_Apart_events) (defScope s_Apart_events) [] [] (He.fAd K ("Apart", some "events")) fd := T.says.def_ 29 (d := d_Apart_events) rfl
theorem fd_compare (T : Txt K mg) : ∃ fd, FunD K "compare" "compare" (defArgs s_compare) (defBody s_compare) (defScope s_compare) [] [] (He.fAd K ("compare", none)) fd := T.says.def_ 30 (d := d_compare) rfl
theorem fd_Probe_init (T : Txt K mg) : ∃ fd, FunD K "__init__" "Probe.__init__" (defArgs s_Probe_init) (defBody s_Probe_init) (defScope s_Probe_init) [] [] (He.fAd K ("Probe", some "__init__")) fd := T.says.def_ 31 (d := d_Probe_init) rfl
theorem fd_Probe_call (T : Txt K mg) : ∃ fd, FunD K "__call__" "Probe.__call__" (defArgs s_Probe_call) (defBody s_Probe_call) (defScope s_Probe_call) [] [] (He.fAd K ("Probe", some "__call__")) fd := T.says.def_ 32 (d := d_Probe_call) rfl
theorem fd_Probe_value_at (T : Txt K mg) : ∃ fd, FunD K "value_at" "Probe.value_at" (defArgs s_Probe_value_at) (defBody s_Probe_value_at) (defScope s_Probe_value_at) [] [] (He.fAd K ("Probe", some "value_at")) fd := T.says.def_ 33 (d := d_Probe_value_at) rfl
theorem fd_Probe_value (T : Txt K mg) : ∃ fd, FunD K "value" "Probe.value" (defArgs s_Probe_value) (defBody s_Probe_value) (defScope s_Probe_value) [] [] (He.fAd K ("Probe", some "value")) fd := T.says.def_ 34 (d := d_Probe_value) rfl
theorem fd_law_bag (T : Txt K mg) : ∃ fd, FunD K "_law_bag" "_law_bag" (defArgs s_law_bag) (defBody s_law_bag) (defScope s_law_bag) [] [] (He.fAd K ("_law_bag", none)) fd := T.says.def_ 35 (d := d_law_bag) rfl
theorem fd_law_take (T : Txt K mg) : ∃ fd, FunD K "_law_take" "_law_take" (defArgs s_law_take) (defBody s_law_take) (defScope s_law_take) [] [] (He.fAd K ("_law_take", none)) fd := T.says.def_ 36 (d := d_law_take) rfl
theorem fd_law_of (T : Txt K mg) : ∃ fd, FunD K "_law_of" "_law_of" (defArgs s_law_of) (defBody s_law_of) (defScope s_law_of) [] [] (He.fAd K ("_law_of", none)) fd := T.says.def_ 37 (d := d_law_of) rfl
theorem fd_law_mixed (T : Txt K mg) : ∃ fd, FunD K "_law_mixed" "_law_mixed" (defArgs s_law_mixed) (defBody s_law_mixed) (defScope s_law_mixed) [] [] (He.fAd K ("_law_mixed", none)) fd := T.says.def_ 38 (d := d_law_mixed) rfl
theorem fd_law_names (T : Txt K mg) : ∃ fd, FunD K "_law_names" "_law_names" (defArgs s_law_names) (defBody s_law_names) (defScope s_law_names) [] [] (He.fAd K ("_law_names", none)) fd := T.says.def_ 39 (d := d_law_names) rfl
theorem fd_law_factor (T : Txt K mg) : ∃ fd, FunD K "_law_factor" "_law_factor" (defArgs s_law_factor) (defBody s_law_factor) (defScope s_law_factor) [] [] (He.fAd K ("_law_factor", none)) fd := T.says.def_ 40 (d := d_law_factor) rfl
theorem fd_law_terms (T : Txt K mg) : ∃ fd, FunD K "_law_terms" "_law_terms" (defArgs s_law_terms) (defBody s_law_terms) (defScope s_law_terms) [] [] (He.fAd K ("_law_terms", none)) fd := T.says.def_ 41 (d := d_law_terms) rfl
theorem fd_law_changes (T : Txt K mg) : ∃ fd, FunD K "_law_changes" "_law_changes" (defArgs s_law_changes) (defBody s_law_changes) (defScope s_law_changes) [] [] (He.fAd K ("_law_changes", none)) fd := T.says.def_ 42 (d := d_law_changes) rfl
theorem fd_law_spec (T : Txt K mg) : ∃ fd, FunD K "_law_spec" "_law_spec" (defArgs s_law_spec) (defBody s_law_spec) (defScope s_law_spec) [] [] (He.fAd K ("_law_spec", none)) fd := T.says.def_ 43 (d := d_law_spec) rfl
theorem fd_law_program (T : Txt K mg) : ∃ fd, FunD K "_law_program" "_law_program" (defArgs s_law_program) (defBody s_law_program) (defScope s_law_program) [] [] (He.fAd K ("_law_program", none)) fd := T.says.def_ 44 (d := d_law_program) rfl
theorem fd_law_amount (T : Txt K mg) : ∃ fd, FunD K "_law_amount" "_law_amount" (defArgs s_law_amount) (defBody s_law_amount) (defScope s_law_amount) [] [] (He.fAd K ("_law_amount", none)) fd := T.says.def_ 45 (d := d_law_amount) rfl
theorem fd_law_event (T : Txt K mg) : ∃ fd, FunD K "_law_event" "_law_event" (defArgs s_law_event) (defBody s_law_event) (defScope s_law_event) [] [] (He.fAd K ("_law_event", none)) fd := T.says.def_ 46 (d := d_law_event) rfl
theorem fd_law_events (T : Txt K mg) : ∃ fd, FunD K "_law_events" "_law_events" (defArgs s_law_events) (defBody s_law_events) (defScope s_law_events) [] [] (He.fAd K ("_law_events", none)) fd := T.says.def_ 47 (d := d_law_events) rfl
theorem fd_law_state (T : Txt K mg) : ∃ fd, FunD K "_law_state" "_law_state" (defArgs s_law_state) (defBody s_law_state) (defScope s_law_state) [] [] (He.fAd K ("_law_state", none)) fd := T.says.def_ 48 (d := d_law_state) rfl
theorem fd_law_after (T : Txt K mg) : ∃ fd, FunD K "_law_after" "_law_after" (defArgs s_law_after) (defBody s_law_after) (defScope s_law_after) [] [] (He.fAd K ("_law_after", none)) fd := T.says.def_ 49 (d := d_law_after) rfl
theorem fd_law_run (T : Txt K mg) : ∃ fd, FunD K "_law_run" "_law_run" (defArgs s_law_run) (defBody s_law_run) (defScope s_law_run) [] [] (He.fAd K ("_law_run", none)) fd := T.says.def_ 50 (d := d_law_run) rfl
theorem fd_law_look (T : Txt K mg) : ∃ fd, FunD K "_law_look" "_law_look" (defArgs s_law_look) (defBody s_law_look) (defScope s_law_look) [] [] (He.fAd K ("_law_look", none)) fd := T.says.def_ 51 (d := d_law_look) rfl
theorem fd_law_value (T : Txt K mg) : ∃ fd, FunD K "_law_value" "_law_value" (defArgs s_law_value) (defBody s_law_value) (defScope s_law_value) [] [] (He.fAd K ("_law_value", none)) fd := T.says.def_ 52 (d := d_law_value) rfl
theorem fd_law_probe (T : Txt K mg) : ∃ fd, FunD K "_law_probe" "_law_probe" (defArgs s_law_probe) (defBody s_law_probe) (defScope s_law_probe) [] [] (He.fAd K ("_law_probe", none)) fd := T.says.def_ 53 (d := d_law_probe) rfl
theorem fd_law_renamed (T : Txt K mg) : ∃ fd, FunD K "_law_renamed" "_law_renamed" (defArgs s_law_renamed) (defBody s_law_renamed) (defScope s_law_renamed) [] [] (He.fAd K ("_law_renamed", none)) fd := T.says.def_ 54 (d := d_law_renamed) rfl
theorem fd_law_changed (T : Txt K mg) : ∃ fd, FunD K "_law_changed" "_law_changed" (defArgs s_law_changed) (defBody s_law_changed) (defScope s_law_changed) [] [] (He.fAd K ("_law_changed", none)) fd := T.says.def_ 55 (d := d_law_changed) rfl
theorem fd_law_two_probes (T : Txt K mg) : ∃ fd, FunD K "_law_two_probes" "_law_two_probes" (defArgs s_law_two_probes) (defBody s_law_two_probes) (defScope s_law_two_probes) [] [] (He.fAd K ("_law_two_probes", none)) fd := T.says.def_ 56 (d := d_law_two_probes) rfl
theorem fd_law_gap (T : Txt K mg) : ∃ fd, FunD K "_law_gap" "_law_gap" (defArgs s_law_gap) (defBody s_law_gap) (defScope s_law_gap) [] [] (He.fAd K ("_law_gap", none)) fd := T.says.def_ 57 (d := d_law_gap) rfl
theorem fd_law (T : Txt K mg) : ∃ fd, FunD K "law" "law" (defArgs s_law) (defBody s_law) (defScope s_law) [] [] (He.fAd K ("law", none)) fd := T.says.def_ 58 (d := d_law) rfl
end
end Tw
end

section
set_option Elab.async false
set_option linter.all false
set_option maxRecDepth 100000
set_option maxHeartbeats 0
/-! The head: the run of the top (written by wip/gen_head.py). -/
namespace Tw
open PySem PySem.Spec PySem.W PySem.Calls PyProof.Rows L2
abbrev Al3 : Type := He.AlD × Bool × Bool × List XW
/-- the facts, the defs, one more Bool, the closures -/
def obsZ (n : Nat) (g : Addr → Option Obj) : Al3 := (He.obsD fas fns (He.frG g (He5.asA g n)), exB (He.frG g (He5.asA g n)), spZ (He.frG g (He5.asA g n)))
def valZ : Al3 := (He.valD fns, true, spV)
def hookZ : PySem.W.Hook where
  α := Al3
  obs := fun s => obsZ 4 s.heap.get?
  val := fun _ => valZ
  says := fun _ h => ∃ K : PySem.W.Frag, K.In h ∧ He.SaysD fas fns K ∧ exB K = true ∧ spZ K = spV
  of := fun _ _ e => ⟨_, He.frG_in, congrArg (fun z : Al3 => z.1) e, congrArg (fun z : Al3 => z.2.1) e, congrArg (fun z : Al3 => z.2.2) e⟩
  keeps := fun _ _ _ ⟨K, hK, c⟩ k => ⟨K, PySem.W.Frag.In.keeps hK k, c⟩
abbrev R : PySem.W.OpenRow := PySem.W.OpenLaw.row PySem.Challenge.rw_twinbegun_k54_whole_shorter_logs_part_no
def obZ (s : PySem.W.SharedT) : Al3 := obsZ 4 (HandSHeadRun.getT s)
theorem obZ_eq (s : PySem.W.SharedT) : obZ s = hookZ.obs s.abs := by
  have e : HandSHeadRun.getT s = s.abs.heap.get? := funext fun a => HandSHeadRun.getT_eq s a
  show obsZ 4 _ = obsZ 4 _
  rw [e]
def looseA : List Str := [("_wall" : Str), ("TwinError" : Str), ("Missing" : Str), ("InvalidName" : Str), ("DuplicateName" : Str), ("InvalidCount" : Str), ("TooWide" : Str), ("InvalidRule" : Str), ("DuplicateRule" : Str), ("InvalidState" : Str), ("InvalidEvent" : Str), ("InvalidLook" : Str), ("SignsDiffer" : Str), ("UnknownName" : Str), ("RESERVED" : Str), ("MOST_AMOUNT" : Str), ("MOST_FACTOR" : Str), ("is_name" : Str), ("is_integer" : Str), ("is_plain" : Str), ("is_terms" : Str), ("is_changes" : Str), ("check_names" : Str), ("Program" : Str), ("plain_row" : Str), ("greatest_divisor" : Str), ("reduced" : Str), ("first_place" : Str), ("cleared" : Str), ("echelon" : Str), ("rank" : Str), ("are_signs_equal" : Str), ("copied" : Str), ("pair_row" : Str), ("Comparison" : Str)]
def looseB : List Str := [("Alike" : Str), ("Apart" : Str), ("compare" : Str), ("Probe" : Str), ("_law_bag" : Str), ("_law_take" : Str), ("_law_of" : Str), ("_law_mixed" : Str), ("_law_names" : Str), ("_law_factor" : Str), ("_law_terms" : Str), ("_law_changes" : Str), ("_law_spec" : Str), ("_law_program" : Str), ("_law_amount" : Str), ("_law_event" : Str), ("_law_events" : Str), ("_law_state" : Str), ("_law_after" : Str), ("_law_run" : Str), ("_law_look" : Str), ("_law_value" : Str), ("_law_probe" : Str), ("_law_renamed" : Str), ("_law_changed" : Str), ("_law_two_probes" : Str), ("_law_gap" : Str)]
def looseN : List Str := looseA ++ looseB
noncomputable section
abbrev qV : Program := PySem.W.view R.prog [69]
/-- what is looked at behind the top -/
def lookZ (w : World) (s : PySem.W.SharedT) := (HandSHeadRun.looksF R.prog (boot_heap w.params) s.abs, HandSHeadRun.seenQ qV looseN (importedModules R.prog.main.body) (fun s => PySem.W.xlAt qV [] s && PySem.W.recOk R.toRowW.records s) s.abs, obZ s)
def runZ (w : World) (os : OsState) := (HandSHeadRun.endF (HandSHeadRun.stepQ (HandSHeadRun.denQ HandSHeadRun.tabQ) R.prog w) 10000 R.prog w os).map (lookZ w)
def goodZ (w : World) := some (true, PySem.W.openGood qV looseN, valZ)
theorem run_z (w : World) (os : OsState) : runZ w os = goodZ w := by kernel_rfl
theorem head_run (w : World) : HandSHeadRun.RunEq R qV hookZ obZ 10000 looseN w := fun os => run_z w os
end

end Tw
end

section
set_option linter.all false
/-! Plain mathematics of the echelon form: no program in sight. -/
namespace TwM
/-! ### the mirror of tables.py -/
def gcdL (xs : List Int) : Int := xs.foldl (fun c x => ((Int.gcd c x : Nat) : Int)) 0
def reduced (xs : List Int) : List Int := if 1 < gcdL xs then xs.map (fun x => x / gcdL xs) else xs
def firstPlace (xs : List Int) (w : Nat) : Option Nat := (List.range w).find? fun i => decide (xs.getD i 0 ≠ 0)
def cleared (xs ys : List Int) (p : Nat) : List Int := reduced (List.zipWith (fun x y => ys.getD p 0 * x - xs.getD p 0 * y) xs ys)
def clearAll (xs : List Int) (steps : List (Nat × List Int)) : List Int :=
  steps.foldl (fun n st => if n.getD st.1 0 ≠ 0 then cleared n st.2 st.1 else n) xs
def unit (many idx : Nat) : List Int := (List.range many).map fun k => if k = idx then 1 else 0
def stepOf (many idx : Nat) (row : List Int) (steps : List (Nat × List Int)) : List (Nat × List Int) :=
  let n := clearAll (row ++ unit many idx) steps
  match firstPlace n row.length with
  | none => steps
  | some p => steps ++ [(p, reduced n)]
def goSteps (many : Nat) : Nat → List (List Int) → List (Nat × List Int) → List (Nat × List Int)
  | _, [], steps => steps
  | idx, r :: rs, steps => goSteps many (idx + 1) rs (stepOf many idx r steps)
def stepsM (rows : List (List Int)) : List (Nat × List Int) := goSteps rows.length 0 rows []
def rankM (rows : List (List Int)) : Nat := (stepsM rows).length

/-! ### gcd -/
theorem gcdL_nonneg (xs : List Int) : 0 ≤ gcdL xs := by
  have h : ∀ (xs : List Int) (c : Int), 0 ≤ c → 0 ≤ xs.foldl (fun c x => ((Int.gcd c x : Nat) : Int)) c := by
    intro xs
    induction xs with
    | nil => intro c h; exact h
    | cons x xs ih => intro c _; exact ih _ (Int.natCast_nonneg _)
  exact h xs 0 (Int.le_refl _)
theorem gcd_fold_dvd : ∀ (xs : List Int) (c : Int), (xs.foldl (fun c x => ((Int.gcd c x : Nat) : Int)) c ∣ c) ∧ ∀ x ∈ xs, xs.foldl (fun c x => ((Int.gcd c x : Nat) : Int)) c ∣ x := by
  intro xs
  induction xs with
  | nil => intro c; exact ⟨Int.dvd_refl c, fun x h => nomatch h⟩
  | cons y ys ih =>
    intro c
    obtain ⟨h1, h2⟩ := ih ((Int.gcd c y : Nat) : Int)
    refine ⟨Int.dvd_trans h1 (Int.gcd_dvd_left ..), fun x hx => ?_⟩
    rcases List.mem_cons.mp hx with rfl | hx
    · exact Int.dvd_trans h1 (Int.gcd_dvd_right ..)
    · exact h2 x hx
theorem gcdL_dvd {xs : List Int} {x : Int} (h : x ∈ xs) : gcdL xs ∣ x := (gcd_fold_dvd xs 0).2 x h

/-! ### reduced -/
/-- a positive multiple of the reduced list is the list -/
theorem reduced_mul (xs : List Int) : ∃ g : Int, g ≠ 0 ∧ xs = (reduced xs).map (g * ·) := by
  unfold reduced
  split
  · rename_i h
    refine ⟨gcdL xs, by omega, ?_⟩
    rw [List.map_map]
    conv => lhs; rw [← List.map_id xs]
    apply List.map_congr_left
    intro x hx
    show x = gcdL xs * (x / gcdL xs)
    exact (Int.mul_ediv_cancel' (gcdL_dvd hx)).symm
  · refine ⟨1, by decide, ?_⟩
    conv => lhs; rw [← List.map_id xs]
    apply List.map_congr_left
    intro x _
    simp
theorem reduced_length (xs : List Int) : (reduced xs).length = xs.length := by
  unfold reduced; split <;> simp
/-- an upper bound of the size of each number -/
def Bd (k : Nat) (xs : List Int) : Prop := ∀ x ∈ xs, x.natAbs < 2 ^ k
theorem Bd.mono {j k : Nat} {xs : List Int} (h : Bd j xs) (hjk : j ≤ k) : Bd k xs := fun x hx =>
  Nat.lt_of_lt_of_le (h x hx) (Nat.pow_le_pow_right (by decide) hjk)
theorem reduced_bd {k : Nat} {xs : List Int} (h : Bd k xs) : Bd k (reduced xs) := by
  unfold reduced
  split
  · intro y hy
    obtain ⟨x, hx, rfl⟩ := List.mem_map.mp hy
    have h1 := h x hx
    have h2 : (x / gcdL xs).natAbs ≤ x.natAbs := Int.natAbs_ediv_le_natAbs _ _
    omega
  · exact h
theorem getD_bd {k : Nat} {xs : List Int} (h : Bd k xs) (i : Nat) : (xs.getD i 0).natAbs < 2 ^ k := by
  rw [List.getD_eq_getElem?_getD]
  cases e : xs[i]? with
  | none => exact Nat.pow_pos (by decide)
  | some x => exact h x (List.mem_of_getElem? e)
theorem mem_zipWith {α β γ : Type} {f : α → β → γ} : ∀ {xs : List α} {ys : List β} {z : γ}, z ∈ List.zipWith f xs ys → ∃ x ∈ xs, ∃ y ∈ ys, z = f x y
  | [], ys, z, h => by simp at h
  | x :: xs, [], z, h => by simp at h
  | x :: xs, y :: ys, z, h => by
    rw [List.zipWith_cons_cons] at h
    rcases List.mem_cons.mp h with rfl | h
    · exact ⟨x, List.mem_cons_self, y, List.mem_cons_self, rfl⟩
    · obtain ⟨a, ha, b, hb, e⟩ := mem_zipWith h
      exact ⟨a, List.mem_cons_of_mem _ ha, b, List.mem_cons_of_mem _ hb, e⟩
theorem mix_bd {j k : Nat} {xs ys : List Int} (hx : Bd j xs) (hy : Bd k ys) (p : Nat) : Bd (j + k + 1) (List.zipWith (fun x y => ys.getD p 0 * x - xs.getD p 0 * y) xs ys) := by
  intro z hz
  obtain ⟨x, mx, y, my, rfl⟩ := mem_zipWith hz
  have a1 := hx x mx
  have a2 := hy y my
  have a3 := getD_bd hx p
  have a4 := getD_bd hy p
  have b1 : (ys.getD p 0 * x).natAbs < 2 ^ (j + k) := by
    rw [Int.natAbs_mul, Nat.pow_add, Nat.mul_comm]
    exact Nat.mul_lt_mul'' a1 a4
  have b2 : (xs.getD p 0 * y).natAbs < 2 ^ (j + k) := by
    rw [Int.natAbs_mul, Nat.pow_add]
    exact Nat.mul_lt_mul'' a3 a2
  have : 2 ^ (j + k + 1) = 2 ^ (j + k) + 2 ^ (j + k) := by rw [Nat.pow_succ]; omega
  omega
theorem cleared_bd {j k : Nat} {xs ys : List Int} (hx : Bd j xs) (hy : Bd k ys) (p : Nat) : Bd (j + k + 1) (cleared xs ys p) := reduced_bd (mix_bd hx hy p)
/-- sizes: the i-th step has 2^i (b + 1) - 1 bits -/
def szB (b i : Nat) : Nat := 2 ^ i * (b + 1) - 1
theorem szB_succ (b i : Nat) : szB b i + szB b i + 1 = szB b (i + 1) := by
  unfold szB
  have h1 : 0 < 2 ^ i * (b + 1) := Nat.mul_pos (Nat.pow_pos (by decide)) (by omega)
  rw [Nat.pow_succ, Nat.mul_assoc, Nat.mul_comm 2, ← Nat.mul_assoc]
  omega
theorem szB_mono {b i j : Nat} (h : i ≤ j) : szB b i ≤ szB b j := by
  unfold szB
  have := Nat.mul_le_mul_right (b + 1) (Nat.pow_le_pow_right (n := 2) (by decide) h)
  omega
/-- the steps' sizes -/
def StepsBd (b : Nat) (steps : List (Nat × List Int)) : Prop := ∀ (i : Nat) (st : Nat × List Int), steps[i]? = some st → Bd (szB b i) st.2
theorem clearAll_bd {b : Nat} : ∀ (pre post : List (Nat × List Int)) (n : List Int), StepsBd b (pre ++ post) → Bd (szB b pre.length) n → Bd (szB b (pre.length + post.length)) (clearAll n post)
  | pre, [], n, _, hn => hn
  | pre, st :: post, n, hs, hn => by
    have h1 : Bd (szB b pre.length) st.2 := hs pre.length st (by simp)
    have e : (pre ++ st :: post) = (pre ++ [st]) ++ post := by simp
    have h2 : Bd (szB b (pre ++ [st]).length) (if n.getD st.1 0 ≠ 0 then cleared n st.2 st.1 else n) := by
      have el : (pre ++ [st]).length = pre.length + 1 := by simp
      rw [el]
      split
      · have q := cleared_bd hn h1 st.1
        rw [szB_succ] at q
        exact q
      · exact hn.mono (szB_mono (Nat.le_succ _))
    have q := clearAll_bd (pre ++ [st]) post _ (e ▸ hs) h2
    have el : (pre ++ [st]).length + post.length = pre.length + (st :: post).length := by simp; omega
    rw [el] at q
    exact q
/-! ### lengths -/
theorem cleared_length {xs ys : List Int} {p : Nat} (h : xs.length = ys.length) : (cleared xs ys p).length = xs.length := by
  unfold cleared
  rw [reduced_length, List.length_zipWith, h, Nat.min_self]
theorem clearAll_length {m : Nat} : ∀ (steps : List (Nat × List Int)) (n : List Int), (∀ st ∈ steps, st.2.length = m) → n.length = m → (clearAll n steps).length = m
  | [], n, _, h => h
  | st :: steps, n, hs, h => by
    have h1 := hs st List.mem_cons_self
    refine clearAll_length steps (if n.getD st.1 0 ≠ 0 then cleared n st.2 st.1 else n) (fun s hs' => hs s (List.mem_cons_of_mem _ hs')) ?_
    split
    · rw [cleared_length (by rw [h, h1])]; exact h
    · exact h
theorem unit_length (many idx : Nat) : (unit many idx).length = many := by unfold unit; simp

/-! ### entries -/
theorem getD_map_mul (g : Int) (xs : List Int) (i : Nat) : (xs.map (g * ·)).getD i 0 = g * xs.getD i 0 := by
  rw [List.getD_eq_getElem?_getD, List.getD_eq_getElem?_getD, List.getElem?_map]
  cases xs[i]? with
  | none => simp
  | some x => rfl
theorem reduced_zero {xs : List Int} {i : Nat} : (reduced xs).getD i 0 = 0 ↔ xs.getD i 0 = 0 := by
  obtain ⟨g, hg, e⟩ := reduced_mul xs
  have h : xs.getD i 0 = g * (reduced xs).getD i 0 := by
    conv => lhs; rw [e]
    exact getD_map_mul g _ i
  constructor
  · intro z; rw [h, z, Int.mul_zero]
  · intro z
    rw [h] at z
    exact (Int.mul_eq_zero.mp z).resolve_left hg
theorem getD_zipWith {f : Int → Int → Int} (f0 : f 0 0 = 0) {xs ys : List Int} (h : xs.length = ys.length) (i : Nat) : (List.zipWith f xs ys).getD i 0 = f (xs.getD i 0) (ys.getD i 0) := by
  rw [List.getD_eq_getElem?_getD, List.getD_eq_getElem?_getD, List.getD_eq_getElem?_getD, List.getElem?_zipWith]
  cases e : xs[i]? with
  | none =>
    have : ys[i]? = none := by rw [List.getElem?_eq_none_iff] at e ⊢; omega
    rw [this]; simp [f0]
  | some x =>
    have hi : i < xs.length := (List.getElem?_eq_some_iff.mp e).1
    have : ys[i]? = some ys[i] := List.getElem?_eq_getElem (by omega)
    rw [this]; simp
theorem cleared_zero {xs ys : List Int} {p i : Nat} (h : xs.length = ys.length) : (cleared xs ys p).getD i 0 = 0 ↔ ys.getD p 0 * xs.getD i 0 - xs.getD p 0 * ys.getD i 0 = 0 := by
  unfold cleared
  rw [reduced_zero, getD_zipWith (by simp) h]
/-- the steps stand in steps: pivots in the width, not zero there, zero at the pivots ahead -/
structure Ech (w m : Nat) (steps : List (Nat × List Int)) : Prop where
  len : ∀ st ∈ steps, st.2.length = m
  piv : ∀ st ∈ steps, st.1 < w ∧ st.2.getD st.1 0 ≠ 0
  zero : ∀ (i j : Nat) (a b : Nat × List Int), i < j → steps[i]? = some a → steps[j]? = some b → b.2.getD a.1 0 = 0
/-- behind the clearing by the steps all their places are zero -/
theorem clearAll_zero {w m : Nat} : ∀ (post pre : List (Nat × List Int)) (n : List Int), Ech w m (pre ++ post) → n.length = m → (∀ st ∈ pre, n.getD st.1 0 = 0) → ∀ st ∈ pre ++ post, (clearAll n post).getD st.1 0 = 0
  | [], pre, n, _, _, h => fun st hst => h st (by simpa using hst)
  | s :: post, pre, n, E, hl, h => by
    have e : pre ++ s :: post = (pre ++ [s]) ++ post := by simp
    have hs : s.2.length = m := E.len s (by simp)
    rw [e]
    refine clearAll_zero post (pre ++ [s]) (if n.getD s.1 0 ≠ 0 then cleared n s.2 s.1 else n) (e ▸ E) ?_ ?_
    · split
      · rw [cleared_length (by omega)]; exact hl
      · exact hl
    · intro st hst
      rcases List.mem_append.mp hst with hst | hst
      · have z := h st hst
        split
        · rw [cleared_zero (by omega), z]
          obtain ⟨i, hi⟩ := List.mem_iff_getElem?.mp hst
          have hlt : i < pre.length := (List.getElem?_eq_some_iff.mp hi).1
          have z2 : s.2.getD st.1 0 = 0 := E.zero i pre.length st s hlt (by rw [List.getElem?_append_left hlt]; exact hi) (by simp)
          rw [z2]; simp
        · exact z
      · have : st = s := by simpa using hst
        subst this
        split
        · rw [cleared_zero (by omega)]
          rw [Int.mul_comm]; omega
        · rename_i hz
          exact Decidable.of_not_not hz
theorem firstPlace_some {xs : List Int} {w p : Nat} (h : firstPlace xs w = some p) : p < w ∧ xs.getD p 0 ≠ 0 := by
  unfold firstPlace at h
  have h1 := List.find?_some h
  have h2 := List.mem_of_find?_eq_some h
  exact ⟨List.mem_range.mp h2, of_decide_eq_true h1⟩
theorem firstPlace_none {xs : List Int} {w : Nat} (h : firstPlace xs w = none) : ∀ i < w, xs.getD i 0 = 0 := by
  unfold firstPlace at h
  intro i hi
  have := List.find?_eq_none.mp h i (List.mem_range.mpr hi)
  simpa using this
theorem Ech.step {w many idx : Nat} {row : List Int} {steps : List (Nat × List Int)} (E : Ech w (w + many) steps) (hr : row.length = w) : Ech w (w + many) (stepOf many idx row steps) := by
  have hl : (row ++ unit many idx).length = w + many := by rw [List.length_append, unit_length, hr]
  have hc := clearAll_length steps (row ++ unit many idx) E.len hl
  have hz := clearAll_zero steps [] (row ++ unit many idx) (by simpa using E) hl (fun _ h => nomatch h)
  unfold stepOf
  dsimp only
  split
  · exact E
  · rename_i p hp
    rw [hr] at hp
    obtain ⟨p1, p2⟩ := firstPlace_some hp
    refine ⟨fun st hst => ?_, fun st hst => ?_, fun i j a b hij ha hb => ?_⟩
    · rcases List.mem_append.mp hst with h | h
      · exact E.len st h
      · have : st = (p, reduced (clearAll (row ++ unit many idx) steps)) := by simpa using h
        subst this
        show (reduced _).length = _
        rw [reduced_length]; exact hc
    · rcases List.mem_append.mp hst with h | h
      · exact E.piv st h
      · have : st = (p, reduced (clearAll (row ++ unit many idx) steps)) := by simpa using h
        subst this
        exact ⟨p1, fun z => p2 (reduced_zero.mp z)⟩
    · by_cases hj : j < steps.length
      · rw [List.getElem?_append_left hj] at hb
        rw [List.getElem?_append_left (by omega)] at ha
        exact E.zero i j a b hij ha hb
      · have hj2 : j = steps.length := by
          have := (List.getElem?_eq_some_iff.mp hb).1
          simp at this; omega
        subst hj2
        have : b = (p, reduced (clearAll (row ++ unit many idx) steps)) := by simpa using hb.symm
        subst this
        rw [List.getElem?_append_left hij] at ha
        show (reduced _).getD a.1 0 = 0
        rw [reduced_zero]
        exact hz a (by simpa using List.mem_of_getElem? ha)
theorem Ech.go {w many : Nat} : ∀ (rows : List (List Int)) (idx : Nat) (steps : List (Nat × List Int)), (∀ r ∈ rows, r.length = w) → Ech w (w + many) steps → Ech w (w + many) (goSteps many idx rows steps)
  | [], _, _, _, E => E
  | r :: rs, idx, steps, h, E => Ech.go rs (idx + 1) _ (fun x hx => h x (List.mem_cons_of_mem _ hx)) (E.step (h r List.mem_cons_self))
theorem Ech.nil {w m : Nat} : Ech w m [] := ⟨(fun _ h => nomatch h), (fun _ h => nomatch h), (fun i j a b _ h => by simp at h)⟩
theorem pigeon : ∀ (w : Nat) (l : List Nat), l.Nodup → (∀ x ∈ l, x < w) → l.length ≤ w
  | 0, l, _, h => by
    cases l with
    | nil => exact Nat.le_refl _
    | cons x xs => exact absurd (h x List.mem_cons_self) (Nat.not_lt_zero _)
  | w + 1, l, hn, h => by
    have q := pigeon w (l.erase w) (hn.erase w) (fun x hx => by
      have h1 := (hn.mem_erase_iff).mp hx
      have h2 := h x h1.2
      have h3 := h1.1
      omega)
    have e := List.length_erase (a := w) (l := l)
    split at e <;> omega
theorem Ech.length_le {w m : Nat} {steps : List (Nat × List Int)} (E : Ech w m steps) : steps.length ≤ w := by
  have nd : (steps.map (·.1)).Nodup := by
    refine List.pairwise_iff_getElem.mpr fun i j hi hj hij z => ?_
    rw [List.length_map] at hi hj
    have z' : steps[i].1 = steps[j].1 := by simpa using z
    have h1 := E.zero i j steps[i] steps[j] hij (List.getElem?_eq_getElem _) (List.getElem?_eq_getElem _)
    have h2 := (E.piv steps[j] (List.getElem_mem _)).2
    rw [z'] at h1
    exact h2 h1
  have := pigeon w _ nd (fun x hx => by
    obtain ⟨st, hst, rfl⟩ := List.mem_map.mp hx
    exact (E.piv st hst).1)
  rwa [List.length_map] at this
theorem rankM_le {w : Nat} {rows : List (List Int)} (h : ∀ r ∈ rows, r.length = w) : rankM rows ≤ w :=
  (Ech.go (many := rows.length) rows 0 [] h Ech.nil).length_le

/-! ### one more column: nothing changes but a zero behind -/
def pad (xs : List Int) : List Int := xs ++ [0]
def padS (steps : List (Nat × List Int)) : List (Nat × List Int) := steps.map fun st => (st.1, pad st.2)
theorem gcdL_pad (xs : List Int) : gcdL (pad xs) = gcdL xs := by
  have h := gcdL_nonneg xs
  unfold pad
  unfold gcdL at h ⊢
  rw [List.foldl_append]
  show ((Int.gcd _ 0 : Nat) : Int) = _
  rw [Int.gcd_zero_right]
  omega
theorem reduced_pad (xs : List Int) : reduced (pad xs) = pad (reduced xs) := by
  unfold reduced
  rw [gcdL_pad]
  split
  · unfold pad; simp
  · rfl
theorem getD_pad (xs : List Int) (i : Nat) : (pad xs).getD i 0 = xs.getD i 0 := by
  unfold pad
  rw [List.getD_eq_getElem?_getD, List.getD_eq_getElem?_getD]
  by_cases h : i < xs.length
  · rw [List.getElem?_append_left h]
  · rw [List.getElem?_append_right (by omega), List.getElem?_eq_none (by omega : xs.length ≤ i)]
    cases e : ([0] : List Int)[i - xs.length]? with
    | none => rfl
    | some z =>
      have : z = 0 := by simpa using List.mem_of_getElem? e
      rw [this]; rfl
theorem cleared_pad {xs ys : List Int} (h : xs.length = ys.length) (p : Nat) : cleared (pad xs) (pad ys) p = pad (cleared xs ys p) := by
  unfold cleared
  rw [getD_pad, getD_pad, ← reduced_pad]
  unfold pad
  rw [List.zipWith_append h]
  simp
theorem clearAll_pad {m : Nat} : ∀ (steps : List (Nat × List Int)) (n : List Int), (∀ st ∈ steps, st.2.length = m) → n.length = m → clearAll (pad n) (padS steps) = pad (clearAll n steps)
  | [], n, _, _ => rfl
  | st :: steps, n, hs, h => by
    have h1 := hs st List.mem_cons_self
    have e : (if (pad n).getD st.1 0 ≠ 0 then cleared (pad n) (pad st.2) st.1 else pad n) = pad (if n.getD st.1 0 ≠ 0 then cleared n st.2 st.1 else n) := by
      rw [getD_pad]
      split
      · exact cleared_pad (by omega) _
      · rfl
    show clearAll (if (pad n).getD st.1 0 ≠ 0 then cleared (pad n) (pad st.2) st.1 else pad n) (padS steps) = _
    rw [e]
    exact clearAll_pad steps _ (fun s hs' => hs s (List.mem_cons_of_mem _ hs')) (by
      split
      · rw [cleared_length (by omega)]; exact h
      · exact h)
theorem firstPlace_pad (xs : List Int) (w : Nat) : firstPlace (pad xs) w = firstPlace xs w := by
  unfold firstPlace
  congr 1
  funext i
  rw [getD_pad]
theorem unit_pad {many idx : Nat} (h : idx ≠ many) : unit (many + 1) idx = pad (unit many idx) := by
  unfold unit pad
  rw [List.range_succ, List.map_append]
  simp [Ne.symm h]
theorem stepOf_pad {w many idx : Nat} {row : List Int} {steps : List (Nat × List Int)} (E : Ech w (w + many) steps) (hr : row.length = w) (h : idx ≠ many) :
    stepOf (many + 1) idx row (padS steps) = padS (stepOf many idx row steps) := by
  have hl : (row ++ unit many idx).length = w + many := by rw [List.length_append, unit_length, hr]
  have e : row ++ unit (many + 1) idx = pad (row ++ unit many idx) := by rw [unit_pad h]; unfold pad; simp
  unfold stepOf
  dsimp only
  rw [e, clearAll_pad steps _ E.len hl, firstPlace_pad]
  cases firstPlace (clearAll (row ++ unit many idx) steps) row.length with
  | none => rfl
  | some p =>
    unfold padS
    rw [List.map_append]
    simp [reduced_pad]
theorem goSteps_pad {w many : Nat} : ∀ (rows : List (List Int)) (idx : Nat) (steps : List (Nat × List Int)), (∀ r ∈ rows, r.length = w) → Ech w (w + many) steps → idx + rows.length ≤ many →
    goSteps (many + 1) idx rows (padS steps) = padS (goSteps many idx rows steps)
  | [], _, _, _, _, _ => rfl
  | r :: rs, idx, steps, h, E, hi => by
    have hr := h r List.mem_cons_self
    show goSteps (many + 1) (idx + 1) rs (stepOf (many + 1) idx r (padS steps)) = _
    have hl : idx + (rs.length + 1) ≤ many := hi
    rw [stepOf_pad E hr (by omega)]
    exact goSteps_pad rs (idx + 1) _ (fun x hx => h x (List.mem_cons_of_mem _ hx)) (E.step hr) (by omega)
theorem goSteps_append {many : Nat} : ∀ (xs ys : List (List Int)) (idx : Nat) (steps : List (Nat × List Int)), goSteps many idx (xs ++ ys) steps = goSteps many (idx + xs.length) ys (goSteps many idx xs steps)
  | [], _, _, _ => rfl
  | x :: xs, ys, idx, steps => by
    show goSteps many (idx + 1) (xs ++ ys) _ = _
    rw [goSteps_append xs ys (idx + 1)]
    have : idx + 1 + xs.length = idx + (x :: xs).length := by simp; omega
    rw [this]
    rfl
theorem stepsM_snoc {w : Nat} {rows : List (List Int)} {row : List Int} (h : ∀ r ∈ rows, r.length = w) : stepsM (rows ++ [row]) = stepOf (rows.length + 1) rows.length row (padS (stepsM rows)) := by
  unfold stepsM
  rw [List.length_append]
  show goSteps (rows.length + 1) 0 (rows ++ [row]) [] = _
  rw [goSteps_append, Nat.zero_add]
  have q := goSteps_pad (w := w) (many := rows.length) rows 0 [] h Ech.nil (by omega)
  have e : padS [] = [] := rfl
  rw [e] at q
  rw [q]
  rfl
/-! ### functionals -/
def dot (f xs : List Int) : Int := (List.zipWith (· * ·) f xs).sum
theorem dot_nil (xs : List Int) : dot [] xs = 0 := rfl
theorem dot_nil' (f : List Int) : dot f [] = 0 := by cases f <;> rfl
theorem dot_cons (a x : Int) (f xs : List Int) : dot (a :: f) (x :: xs) = a * x + dot f xs := by
  unfold dot; rw [List.zipWith_cons_cons, List.sum_cons]
theorem dot_scale (g : Int) : ∀ f xs : List Int, dot f (xs.map (g * ·)) = g * dot f xs
  | [], xs => by simp [dot_nil]
  | a :: f, [] => by simp [dot_nil']
  | a :: f, x :: xs => by
    rw [List.map_cons, dot_cons, dot_cons, dot_scale g f xs, Int.mul_add]
    congr 1
    rw [← Int.mul_assoc, ← Int.mul_assoc, Int.mul_comm a g]
theorem dot_mix (a b : Int) : ∀ f xs ys : List Int, xs.length = ys.length → dot f (List.zipWith (fun x y => a * x - b * y) xs ys) = a * dot f xs - b * dot f ys
  | [], xs, ys, _ => by simp [dot_nil]
  | c :: f, [], [], _ => by simp [dot_nil']
  | c :: f, x :: xs, [], h => by simp at h
  | c :: f, [], y :: ys, h => by simp at h
  | c :: f, x :: xs, y :: ys, h => by
    rw [List.zipWith_cons_cons, dot_cons, dot_cons, dot_cons, dot_mix a b f xs ys (by simpa using h)]
    rw [Int.mul_add, Int.mul_add, Int.mul_sub, ← Int.mul_assoc, ← Int.mul_assoc, ← Int.mul_assoc, ← Int.mul_assoc, Int.mul_comm c a, Int.mul_comm c b]
    omega
theorem dot_append : ∀ (f xs ys : List Int), f.length ≤ xs.length → dot f (xs ++ ys) = dot f xs
  | [], xs, ys, _ => rfl
  | a :: f, [], ys, h => by simp at h
  | a :: f, x :: xs, ys, h => by rw [List.cons_append, dot_cons, dot_cons, dot_append f xs ys (by simpa using h)]
theorem dot_zero : ∀ (f xs : List Int), (∀ i < f.length, xs.getD i 0 = 0) → dot f xs = 0
  | [], xs, _ => rfl
  | a :: f, [], _ => dot_nil' _
  | a :: f, x :: xs, h => by
    have h0 : x = 0 := by simpa using h 0 (by simp)
    rw [dot_cons, h0, dot_zero f xs fun i hi => by simpa using h (i + 1) (by simpa using hi)]
    simp
theorem dot_reduced (f xs : List Int) : dot f (reduced xs) = 0 ↔ dot f xs = 0 := by
  obtain ⟨g, hg, e⟩ := reduced_mul xs
  have h : dot f xs = g * dot f (reduced xs) := by
    conv => lhs; rw [e]
    exact dot_scale g f _
  constructor
  · intro z; rw [h, z, Int.mul_zero]
  · intro z
    rw [h] at z
    exact (Int.mul_eq_zero.mp z).resolve_left hg
/-- clearing by steps on which f is zero keeps the value of f, up to factors -/
theorem clearAll_dot {m : Nat} {f : List Int} : ∀ (steps : List (Nat × List Int)) (n : List Int), (∀ st ∈ steps, st.2.length = m ∧ st.2.getD st.1 0 ≠ 0 ∧ dot f st.2 = 0) → n.length = m →
    (dot f (clearAll n steps) = 0 ↔ dot f n = 0)
  | [], n, _, _ => Iff.rfl
  | st :: steps, n, hs, h => by
    obtain ⟨h1, h2, h3⟩ := hs st List.mem_cons_self
    have q := clearAll_dot (f := f) steps (if n.getD st.1 0 ≠ 0 then cleared n st.2 st.1 else n) (fun s hs' => hs s (List.mem_cons_of_mem _ hs')) (by
      split
      · rw [cleared_length (by omega)]; exact h
      · exact h)
    refine Iff.trans q ?_
    split
    · unfold cleared
      rw [dot_reduced, dot_mix _ _ _ _ _ (by omega), h3]
      constructor
      · intro z
        have z' : st.2.getD st.1 0 * dot f n = 0 := by omega
        exact (Int.mul_eq_zero.mp z').resolve_left h2
      · intro z; rw [z]; simp
    · exact Iff.rfl
theorem vanish_step {w many idx : Nat} {f row : List Int} {steps : List (Nat × List Int)} (E : Ech w (w + many) steps) (hr : row.length = w) (hf : f.length ≤ w) (v : ∀ st ∈ steps, dot f st.2 = 0) (hv : dot f row = 0) :
    ∀ st ∈ stepOf many idx row steps, dot f st.2 = 0 := by
  have hl : (row ++ unit many idx).length = w + many := by rw [List.length_append, unit_length, hr]
  have q := (clearAll_dot (f := f) steps _ (fun st hst => ⟨E.len st hst, (E.piv st hst).2, v st hst⟩) hl).mpr (by rw [dot_append f row _ (by omega)]; exact hv)
  unfold stepOf
  dsimp only
  split
  · exact v
  · intro st hst
    rcases List.mem_append.mp hst with h | h
    · exact v st h
    · rename_i p _
      have : st = (p, reduced (clearAll (row ++ unit many idx) steps)) := by simpa using h
      subst this
      exact (dot_reduced _ _).mpr q
theorem vanish_go {w many : Nat} {f : List Int} (hf : f.length ≤ w) : ∀ (rows : List (List Int)) (idx : Nat) (steps : List (Nat × List Int)), (∀ r ∈ rows, r.length = w) → (∀ r ∈ rows, dot f r = 0) → Ech w (w + many) steps → (∀ st ∈ steps, dot f st.2 = 0) →
    ∀ st ∈ goSteps many idx rows steps, dot f st.2 = 0
  | [], _, _, _, _, _, v => v
  | r :: rs, idx, steps, h, hv, E, v => vanish_go hf rs (idx + 1) _ (fun x hx => h x (List.mem_cons_of_mem _ hx)) (fun x hx => hv x (List.mem_cons_of_mem _ hx)) (E.step (h r List.mem_cons_self))
      (vanish_step E (h r List.mem_cons_self) hf v (hv r List.mem_cons_self))
/-- a row is told by others: each functional that is zero on them is zero on it -/
def Dep (w : Nat) (rows : List (List Int)) (row : List Int) : Prop := ∀ f : List Int, f.length = w → (∀ r ∈ rows, dot f r = 0) → dot f row = 0
theorem Dep.mono {w : Nat} {rows rows' : List (List Int)} {row : List Int} (h : Dep w rows row) (s : ∀ r ∈ rows, r ∈ rows') : Dep w rows' row := fun f hf hv => h f hf fun r hr => hv r (s r hr)
theorem Dep.mem {w : Nat} {rows : List (List Int)} {row : List Int} (h : row ∈ rows) : Dep w rows row := fun _ _ hv => hv row h
theorem stepsM_ech {w : Nat} {rows : List (List Int)} (h : ∀ r ∈ rows, r.length = w) : Ech w (w + rows.length) (stepsM rows) := Ech.go (many := rows.length) rows 0 [] h Ech.nil
theorem padS_length (steps : List (Nat × List Int)) : (padS steps).length = steps.length := by unfold padS; simp
theorem stepOf_length (many idx : Nat) (row : List Int) (steps : List (Nat × List Int)) : (stepOf many idx row steps).length = steps.length ∨ (stepOf many idx row steps).length = steps.length + 1 := by
  unfold stepOf
  dsimp only
  split
  · exact .inl rfl
  · exact .inr (by simp)
/-- the rank of some rows and one more: the same, and then the row is told by them; or one more -/
theorem rankM_snoc {w : Nat} {rows : List (List Int)} {row : List Int} (h : ∀ r ∈ rows, r.length = w) (hr : row.length = w) :
    (rankM (rows ++ [row]) = rankM rows ∧ Dep w rows row) ∨ rankM (rows ++ [row]) = rankM rows + 1 := by
  have E := stepsM_ech h
  have E2 : Ech w (w + (rows.length + 1)) (padS (stepsM rows)) := by
    have q := goSteps_pad (w := w) (many := rows.length) rows 0 [] h Ech.nil (by omega)
    have e : padS [] = [] := rfl
    rw [e] at q
    show Ech w (w + (rows.length + 1)) (padS (goSteps rows.length 0 rows []))
    rw [← q]
    exact Ech.go (many := rows.length + 1) rows 0 [] h Ech.nil
  have hl : (row ++ unit (rows.length + 1) rows.length).length = w + (rows.length + 1) := by rw [List.length_append, unit_length, hr]
  unfold rankM
  rw [stepsM_snoc h]
  unfold stepOf
  dsimp only
  cases hp : firstPlace (clearAll (row ++ unit (rows.length + 1) rows.length) (padS (stepsM rows))) row.length with
  | some p => exact .inr (by simp [padS_length])
  | none =>
    refine .inl ⟨padS_length _, fun f hf hv => ?_⟩
    have z := firstPlace_none hp
    have d0 : dot f (clearAll (row ++ unit (rows.length + 1) rows.length) (padS (stepsM rows))) = 0 := dot_zero f _ fun i hi => z i (by omega)
    have v := vanish_go (w := w) (many := rows.length + 1) (f := f) (by omega) rows 0 [] h hv Ech.nil (fun _ h => nomatch h)
    have q := goSteps_pad (w := w) (many := rows.length) rows 0 [] h Ech.nil (by omega)
    have e : padS [] = [] := rfl
    rw [e] at q
    have v2 : ∀ st ∈ padS (stepsM rows), dot f st.2 = 0 := by
      show ∀ st ∈ padS (goSteps rows.length 0 rows []), dot f st.2 = 0
      rw [← q]
      exact v
    have k := (clearAll_dot (f := f) (padS (stepsM rows)) _ (fun st hst => ⟨E2.len st hst, (E2.piv st hst).2, v2 st hst⟩) hl).mp d0
    rw [dot_append f row _ (by omega)] at k
    exact k
/-- the steps' sizes along the run -/
theorem stepOf_bd {w many idx b : Nat} {row : List Int} {steps : List (Nat × List Int)} (hb : 0 < b) (S : StepsBd b steps) (hr : Bd b row) : StepsBd b (stepOf many idx row steps) := by
  have hu : Bd b (row ++ unit many idx) := by
    intro x hx
    rcases List.mem_append.mp hx with h | h
    · exact hr x h
    · unfold unit at h
      obtain ⟨k, _, rfl⟩ := List.mem_map.mp h
      have : 2 ≤ 2 ^ b := by
        have := Nat.pow_le_pow_right (n := 2) (by decide) hb
        simpa using this
      split
      · show 1 < 2 ^ b; omega
      · show 0 < 2 ^ b; omega
  have q := clearAll_bd (b := b) [] steps (row ++ unit many idx) (by simpa using S) (hu.mono (by unfold szB; simp))
  have e0 : ([] : List (Nat × List Int)).length + steps.length = steps.length := by simp
  rw [e0] at q
  unfold stepOf
  dsimp only
  split
  · exact S
  · intro i st hi
    by_cases h : i < steps.length
    · rw [List.getElem?_append_left h] at hi
      exact S i st hi
    · have hi2 : i = steps.length := by
        have := (List.getElem?_eq_some_iff.mp hi).1
        simp at this; omega
      subst hi2
      rename_i p _
      have : st = (p, reduced (clearAll (row ++ unit many idx) steps)) := by simpa using hi.symm
      subst this
      exact reduced_bd q
end TwM
end

section
set_option linter.all false
/-! Plain mathematics of the programs: states as rows, events, functionals. -/
namespace TwM
/-! ### vectors -/
theorem dot_add : ∀ (u v xs : List Int), u.length = v.length → dot (List.zipWith (· + ·) u v) xs = dot u xs + dot v xs
  | [], [], xs, _ => by simp [dot_nil]
  | [], b :: v, xs, h => by simp at h
  | a :: u, [], xs, h => by simp at h
  | a :: u, b :: v, [], h => by simp [dot_nil']
  | a :: u, b :: v, x :: xs, h => by
    rw [List.zipWith_cons_cons, dot_cons, dot_cons, dot_cons, dot_add u v xs (by simpa using h), Int.add_mul]
    omega
theorem dot_smul (c : Int) : ∀ (u xs : List Int), dot (u.map (c * ·)) xs = c * dot u xs
  | [], xs => by simp [dot_nil]
  | a :: u, [] => by simp [dot_nil']
  | a :: u, x :: xs => by
    rw [List.map_cons, dot_cons, dot_cons, dot_smul c u xs, Int.mul_add, Int.mul_assoc]
theorem dot_zeros : ∀ (n : Nat) (xs : List Int), dot (List.replicate n 0) xs = 0
  | 0, xs => rfl
  | n + 1, [] => dot_nil' _
  | n + 1, x :: xs => by rw [List.replicate_succ, dot_cons, dot_zeros n xs]; simp
theorem dot_zeros' : ∀ (f : List Int) (n : Nat), dot f (List.replicate n 0) = 0
  | [], n => rfl
  | a :: f, 0 => rfl
  | a :: f, n + 1 => by rw [List.replicate_succ, dot_cons, dot_zeros' f n]; simp
theorem dot_split : ∀ (f xs ys : List Int), dot f (xs ++ ys) = dot (f.take xs.length) xs + dot (f.drop xs.length) ys
  | f, [], ys => by simp [dot_nil]
  | [], x :: xs, ys => by simp [dot_nil]
  | a :: f, x :: xs, ys => by
    rw [List.cons_append, dot_cons, dot_split f xs ys]
    show _ = dot (a :: f.take xs.length) (x :: xs) + dot (f.drop xs.length) ys
    rw [dot_cons]
    omega
theorem dot_both {f g xs ys : List Int} (h : f.length = xs.length) : dot (f ++ g) (xs ++ ys) = dot f xs + dot g ys := by
  rw [dot_split, ← h, List.take_left, List.drop_left]

/-! ### programs -/
structure Rule (N : Type) where
  mode : N
  sign : N
  goal : N
  changes : List (N × List (N × Int))
structure Spec (N : Type) where
  modes : List N
  registers : List N
  signs : List N
  rules : List (Rule N)
abbrev State (N : Type) := N × List Int
abbrev Event (N : Type) := N × Int
section
variable {N : Type} [DecidableEq N]
def look (x : N) : List N → List Int → Int
  | k :: ks, v :: vs => if k = x then v else look x ks vs
  | _, _ => 0
def known (amt one : N) (regs : List N) (vals : List Int) (a : Int) (x : N) : Int := if x = one then 1 else if x = amt then a else look x regs vals
def sumT (kn : N → Int) (ts : List (N × Int)) : Int := (ts.map fun t => t.2 * kn t.1).sum
def setF (m : N → Int) (x : N) (v : Int) : N → Int := fun y => if y = x then v else m y
def late (amt one : N) (regs : List N) (vals : List Int) (a : Int) (changes : List (N × List (N × Int))) : N → Int :=
  changes.foldl (fun m c => setF m c.1 (sumT (known amt one regs vals a) c.2)) fun x => look x regs vals
def ruleAt (sp : Spec N) (m s : N) : Option (Rule N) := sp.rules.find? fun r => decide (r.mode = m ∧ r.sign = s)
def moved (amt one : N) (sp : Spec N) (st : State N) (ev : Event N) : State N := match ruleAt sp st.1 ev.1 with
  | none => st
  | some r => (r.goal, sp.registers.map (late amt one sp.registers st.2 ev.2 r.changes))
def run (amt one : N) (sp : Spec N) (st : State N) (evs : List (Event N)) : State N := evs.foldl (moved amt one sp) st
def value (amt one : N) (sp : Spec N) (lk : List (N × List (N × Int))) (st : State N) : Int := match lk.find? fun p => decide (p.1 = st.1) with
  | none => 0
  | some p => sumT (known amt one sp.registers st.2 0) p.2
def rowL (st : State N) (ms : List N) : List Int := ms.flatMap fun m => if m = st.1 then 1 :: st.2 else List.replicate (1 + st.2.length) 0
def rowM (sp : Spec N) (st : State N) : List Int := rowL st sp.modes
def width (sp : Spec N) : Nat := sp.modes.length * (sp.registers.length + 1)
structure StateOk (sp : Spec N) (st : State N) : Prop where
  mode : st.1 ∈ sp.modes
  len : st.2.length = sp.registers.length
/-- what the functionals need of a program -/
structure SpecLin (sp : Spec N) : Prop where
  modes : sp.modes.Nodup
  goals : ∀ r ∈ sp.rules, r.goal ∈ sp.modes
variable {amt0 one0 : N} {sp : Spec N} {st : State N}
theorem moved_ok {amt one : N} (S : SpecLin sp) (h : StateOk sp st) (ev : Event N) : StateOk sp (moved amt one sp st ev) := by
  unfold moved
  cases e : ruleAt sp st.1 ev.1 with
  | none => exact h
  | some r => exact ⟨S.goals r (List.mem_of_find?_eq_some e), by simp⟩
theorem run_ok {amt one : N} (S : SpecLin sp) : ∀ (evs : List (Event N)) (st : State N), StateOk sp st → StateOk sp (run amt one sp st evs)
  | [], _, h => h
  | ev :: evs, st, h => run_ok S evs _ (moved_ok S h ev)
theorem rowL_length (st : State N) : ∀ ms : List N, (rowL st ms).length = ms.length * (st.2.length + 1)
  | [] => by simp [rowL]
  | m :: ms => by
    have ih := rowL_length st ms
    unfold rowL at ih ⊢
    rw [List.flatMap_cons, List.length_append, ih, List.length_cons, Nat.add_mul]
    split <;> simp <;> omega
theorem rowM_length (h : StateOk sp st) : (rowM sp st).length = width sp := by
  unfold rowM width
  rw [rowL_length, h.len]

/-! ### what depends affinely on the values, and on the amount -/
def Aff (R : Nat) (ψ : List Int → Int → Int) : Prop := ∃ u v : List Int, u.length = R + 1 ∧ v.length = R + 1 ∧ ∀ vals a, vals.length = R → ψ vals a = dot u (1 :: vals) + a * dot v (1 :: vals)
theorem Aff.zero {R : Nat} : Aff R fun _ _ => 0 := ⟨List.replicate (R + 1) 0, List.replicate (R + 1) 0, by simp, by simp, fun vals a _ => by rw [dot_zeros]; simp⟩
theorem Aff.one {R : Nat} : Aff R fun _ _ => 1 := ⟨1 :: List.replicate R 0, List.replicate (R + 1) 0, by simp, by simp, fun vals a _ => by rw [dot_cons, dot_zeros, dot_zeros]; simp⟩
theorem Aff.amt {R : Nat} : Aff R fun _ a => a := ⟨List.replicate (R + 1) 0, 1 :: List.replicate R 0, by simp, by simp, fun vals a _ => by rw [dot_cons, dot_zeros, dot_zeros]; simp⟩
theorem Aff.add {R : Nat} {ψ φ : List Int → Int → Int} (h : Aff R ψ) (k : Aff R φ) : Aff R fun vals a => ψ vals a + φ vals a := by
  obtain ⟨u, v, hu, hv, h⟩ := h
  obtain ⟨u', v', hu', hv', k⟩ := k
  refine ⟨List.zipWith (· + ·) u u', List.zipWith (· + ·) v v', by rw [List.length_zipWith]; omega, by rw [List.length_zipWith]; omega, fun vals a hl => ?_⟩
  show ψ vals a + φ vals a = _
  rw [h vals a hl, k vals a hl, dot_add u u' _ (by omega), dot_add v v' _ (by omega), Int.mul_add]
  omega
theorem Aff.smul {R : Nat} {ψ : List Int → Int → Int} (c : Int) (h : Aff R ψ) : Aff R fun vals a => c * ψ vals a := by
  obtain ⟨u, v, hu, hv, h⟩ := h
  refine ⟨u.map (c * ·), v.map (c * ·), by simpa using hu, by simpa using hv, fun vals a hl => ?_⟩
  show c * ψ vals a = _
  rw [h vals a hl, dot_smul, dot_smul, Int.mul_add, ← Int.mul_assoc, ← Int.mul_assoc, Int.mul_comm c a]
theorem look_dot (x : N) : ∀ regs : List N, ∃ u : List Int, u.length = regs.length ∧ ∀ vals : List Int, vals.length = regs.length → look x regs vals = dot u vals
  | [] => ⟨[], rfl, fun vals _ => by unfold look; rfl⟩
  | k :: ks => by
    obtain ⟨u, hu, h⟩ := look_dot x ks
    by_cases e : k = x
    · refine ⟨1 :: List.replicate ks.length 0, by simp, fun vals hl => ?_⟩
      cases vals with
      | nil => simp at hl
      | cons v vs =>
        unfold look
        rw [if_pos e, dot_cons, dot_zeros]; simp
    · refine ⟨0 :: u, by simp [hu], fun vals hl => ?_⟩
      cases vals with
      | nil => simp at hl
      | cons v vs =>
        unfold look
        rw [if_neg e, dot_cons, h vs (by simpa using hl)]; simp
theorem Aff.look (x : N) (regs : List N) : Aff regs.length fun vals _ => look x regs vals := by
  obtain ⟨u, hu, h⟩ := look_dot x regs
  refine ⟨0 :: u, List.replicate (regs.length + 1) 0, by simp [hu], by simp, fun vals a hl => ?_⟩
  show TwM.look x regs vals = _
  rw [h vals hl, dot_cons, dot_zeros]; simp
theorem Aff.known (amt one : N) (regs : List N) (x : N) : Aff regs.length fun vals a => known amt one regs vals a x := by
  unfold TwM.known
  by_cases h1 : x = one
  · simp only [h1, if_true]; exact Aff.one
  · by_cases h2 : x = amt
    · simp only [if_neg h1, if_pos h2]; exact Aff.amt
    · simp only [if_neg h1, if_neg h2]; exact Aff.look x regs
theorem Aff.sumT (amt one : N) (regs : List N) : ∀ ts : List (N × Int), Aff regs.length fun vals a => TwM.sumT (TwM.known amt one regs vals a) ts
  | [] => Aff.zero
  | t :: ts => ((Aff.known amt one regs t.1).smul t.2).add (Aff.sumT amt one regs ts)
theorem Aff.fold (amt one : N) (regs : List N) : ∀ (changes : List (N × List (N × Int))) (m : List Int → Int → N → Int), (∀ x, Aff regs.length fun vals a => m vals a x) →
    ∀ x, Aff regs.length fun vals a => changes.foldl (fun m c => setF m c.1 (TwM.sumT (TwM.known amt one regs vals a) c.2)) (m vals a) x
  | [], _, h, x => h x
  | c :: cs, m, h, x => Aff.fold amt one regs cs (fun vals a => setF (m vals a) c.1 (TwM.sumT (TwM.known amt one regs vals a) c.2)) (fun y => by
      unfold setF
      by_cases e : y = c.1
      · simp only [if_pos e]; exact Aff.sumT amt one regs c.2
      · simp only [if_neg e]; exact h y) x
theorem Aff.late (amt one : N) (regs : List N) (changes : List (N × List (N × Int))) (x : N) : Aff regs.length fun vals a => late amt one regs vals a changes x :=
  Aff.fold amt one regs changes (fun vals _ x => TwM.look x regs vals) (fun x => Aff.look x regs) x
theorem Aff.dotMap {R : Nat} (m : List Int → Int → N → Int) (h : ∀ x, Aff R fun vals a => m vals a x) : ∀ (l : List Int) (xs : List N), Aff R fun vals a => dot l (xs.map (m vals a))
  | [], xs => Aff.zero
  | b :: l, [] => Aff.zero
  | b :: l, x :: xs => by
    have q := ((h x).smul b).add (Aff.dotMap m h l xs)
    have e : (fun (vals : List Int) (a : Int) => dot (b :: l) ((x :: xs).map (m vals a))) = fun vals a => b * m vals a x + dot l (xs.map (m vals a)) := by
      funext vals a
      rw [List.map_cons, dot_cons]
    rw [e]
    exact q

/-! ### functionals by modes -/
theorem byMode {R : Nat} : ∀ (ms : List N) (f : List Int), f.length = ms.length * (R + 1) → ∃ L : N → List Int, (∀ m, (L m).length = R + 1) ∧ ∀ st : State N, st.2.length = R → dot f (rowL st ms) = dot (L st.1) (1 :: st.2)
  | [], f, _ => ⟨fun _ => List.replicate (R + 1) 0, fun _ => by simp, fun st _ => by rw [dot_zeros]; exact dot_nil' f⟩
  | m :: ms, f, hf => by
    rw [List.length_cons, Nat.add_mul] at hf
    obtain ⟨L, hL, h⟩ := byMode (R := R) ms (f.drop (R + 1)) (by rw [List.length_drop]; omega)
    have ht : (f.take (R + 1)).length = R + 1 := by rw [List.length_take]; omega
    refine ⟨fun x => if m = x then List.zipWith (· + ·) (f.take (R + 1)) (L x) else L x, fun x => ?_, fun st hs => ?_⟩
    · dsimp only
      split
      · rw [List.length_zipWith, ht, hL]; simp
      · exact hL x
    · have e : rowL st (m :: ms) = (if m = st.1 then 1 :: st.2 else List.replicate (1 + st.2.length) 0) ++ rowL st ms := by
        unfold rowL; rw [List.flatMap_cons]
      have el : (if m = st.1 then 1 :: st.2 else List.replicate (1 + st.2.length) 0).length = R + 1 := by
        split <;> simp <;> omega
      rw [e, dot_split, el, h st hs]
      dsimp only
      split
      · rw [dot_add _ _ _ (by rw [ht, hL])]
      · rw [dot_zeros']; omega
theorem ofModes {R : Nat} {L : N → List Int} (hL : ∀ m, (L m).length = R + 1) : ∀ ms : List N, (ms.flatMap L).length = ms.length * (R + 1) ∧
    ((∀ st : State N, st.2.length = R → st.1 ∉ ms → dot (ms.flatMap L) (rowL st ms) = 0) ∧ (ms.Nodup → ∀ st : State N, st.2.length = R → st.1 ∈ ms → dot (ms.flatMap L) (rowL st ms) = dot (L st.1) (1 :: st.2)))
  | [] => ⟨by simp, fun _ _ _ => rfl, fun _ _ _ h => nomatch h⟩
  | m :: ms => by
    obtain ⟨h1, h2, h3⟩ := ofModes hL ms
    have e : ∀ st : State N, rowL st (m :: ms) = (if m = st.1 then 1 :: st.2 else List.replicate (1 + st.2.length) 0) ++ rowL st ms := fun st => by
      unfold rowL; rw [List.flatMap_cons]
    have el : ∀ st : State N, st.2.length = R → (L m).length = (if m = st.1 then 1 :: st.2 else List.replicate (1 + st.2.length) 0).length := fun st hs => by
      rw [hL]; split <;> simp <;> omega
    refine ⟨by rw [List.flatMap_cons, List.length_append, h1, hL, List.length_cons, Nat.add_mul]; omega, fun st hs hn => ?_, fun nd st hs hm => ?_⟩
    · rw [List.mem_cons, not_or] at hn
      rw [e, List.flatMap_cons, dot_both (el st hs), if_neg (fun z => hn.1 z.symm), dot_zeros', h2 st hs hn.2]; rfl
    · rw [List.nodup_cons] at nd
      rw [e, List.flatMap_cons, dot_both (el st hs)]
      by_cases q : m = st.1
      · rw [if_pos q, h2 st hs (q ▸ nd.1), q]; omega
      · rw [if_neg q, dot_zeros', h3 nd.2 st hs ((List.mem_cons.mp hm).resolve_left fun z => q z.symm)]; omega
/-- a functional behind an event is one ahead of it, affine in the amount -/
theorem pull (S : SpecLin sp) (amt one s : N) (f : List Int) (hf : f.length = width sp) : ∃ g h : List Int, g.length = width sp ∧ h.length = width sp ∧
    ∀ (st : State N) (a : Int), StateOk sp st → dot f (rowM sp (moved amt one sp st (s, a))) = dot g (rowM sp st) + a * dot h (rowM sp st) := by
  obtain ⟨L, hL, hd⟩ := byMode sp.modes f hf
  have key : ∀ m : N, Aff sp.registers.length fun vals a => dot (L (moved amt one sp (m, vals) (s, a)).1) (1 :: (moved amt one sp (m, vals) (s, a)).2) := fun m => by
    unfold moved
    dsimp only
    cases e : ruleAt sp m s with
    | none =>
      refine ⟨L m, List.replicate (sp.registers.length + 1) 0, hL m, by simp, fun vals a _ => ?_⟩
      show dot (L m) (1 :: vals) = _
      rw [dot_zeros]; simp
    | some r =>
      dsimp only
      have q := Aff.dotMap (fun vals a => late amt one sp.registers vals a r.changes) (fun x => Aff.late amt one sp.registers r.changes x) (L r.goal).tail sp.registers
      have q2 := (Aff.one.smul ((L r.goal).headD 0)).add q
      have e2 : (fun (vals : List Int) (a : Int) => dot (L r.goal) (1 :: sp.registers.map (late amt one sp.registers vals a r.changes))) =
          fun vals a => (L r.goal).headD 0 * 1 + dot (L r.goal).tail (sp.registers.map (late amt one sp.registers vals a r.changes)) := by
        funext vals a
        cases h : L r.goal with
        | nil => have := hL r.goal; rw [h] at this; simp at this
        | cons b l => rw [dot_cons]; rfl
      rw [e2]
      exact q2
  have U := fun m => Classical.choose_spec (key m)
  have W := fun m => Classical.choose_spec (U m)
  obtain ⟨g1, _, g3⟩ := ofModes (L := fun m => Classical.choose (key m)) (fun m => (W m).1) sp.modes
  obtain ⟨h1, _, h3⟩ := ofModes (L := fun m => Classical.choose (U m)) (fun m => (W m).2.1) sp.modes
  refine ⟨_, _, g1, h1, fun st a ok => ?_⟩
  have o2 := moved_ok (amt := amt) (one := one) S ok (s, a)
  show dot f (rowL _ sp.modes) = dot _ (rowL st sp.modes) + a * dot _ (rowL st sp.modes)
  rw [hd _ o2.len, g3 S.modes st ok.len ok.mode, h3 S.modes st ok.len ok.mode]
  exact (W st.1).2.2 st.2 a ok.len
/-- the value of a look is a functional -/
theorem value_dot (S : SpecLin sp) (amt one : N) (lk : List (N × List (N × Int))) : ∃ g : List Int, g.length = width sp ∧ ∀ st : State N, StateOk sp st → value amt one sp lk st = dot g (rowM sp st) := by
  have key : ∀ m : N, ∃ u : List Int, u.length = sp.registers.length + 1 ∧ ∀ vals : List Int, vals.length = sp.registers.length → value amt one sp lk (m, vals) = dot u (1 :: vals) := fun m => by
    unfold value
    dsimp only
    cases e : lk.find? fun p => decide (p.1 = m) with
    | none => exact ⟨List.replicate (sp.registers.length + 1) 0, by simp, fun vals _ => by rw [dot_zeros]; simp only [e]⟩
    | some p =>
      obtain ⟨u, v, hu, hv, h⟩ := Aff.sumT amt one sp.registers p.2
      exact ⟨u, hu, fun vals hl => by have := h vals 0 hl; simp only [e]; simpa using this⟩
  have U := fun m => Classical.choose_spec (key m)
  obtain ⟨g1, _, g3⟩ := ofModes (L := fun m => Classical.choose (key m)) (fun m => (U m).1) sp.modes
  refine ⟨_, g1, fun st ok => ?_⟩
  show _ = dot _ (rowL st sp.modes)
  rw [g3 S.modes st ok.len ok.mode]
  exact (U st.1).2 st.2 ok.len
end
end TwM
end

section
set_option linter.all false
/-! Plain mathematics of the search through the lists of events, level by level; the sizes of the values. -/
namespace TwM
section
variable {N : Type} [DecidableEq N]
/-- a program, a start and a look -/
structure Given (N : Type) where
  spec : Spec N
  start : State N
  look : List (N × List (N × Int))
variable (amt one : N)
def stateAt (g : Given N) (evs : List (Event N)) : State N := run amt one g.spec g.start evs
def valueAt (g : Given N) (evs : List (Event N)) : Int := value amt one g.spec g.look (stateAt amt one g evs)
def pairRow (g1 g2 : Given N) (evs : List (Event N)) : List Int := rowM g1.spec (stateAt amt one g1 evs) ++ rowM g2.spec (stateAt amt one g2 evs)
def gap (g1 g2 : Given N) (evs : List (Event N)) : Int := valueAt amt one g1 evs - valueAt amt one g2 evs
structure GivenLin (g : Given N) : Prop where
  spec : SpecLin g.spec
  start : StateOk g.spec g.start
def W2 (g1 g2 : Given N) : Nat := width g1.spec + width g2.spec
variable {amt one} {g1 g2 : Given N}
theorem stateAt_snoc (g : Given N) (l : List (Event N)) (e : Event N) : stateAt amt one g (l ++ [e]) = moved amt one g.spec (stateAt amt one g l) e := by
  unfold stateAt run
  rw [List.foldl_append]
  rfl
theorem GivenLin.at (G : GivenLin g1) (evs : List (Event N)) : StateOk g1.spec (stateAt amt one g1 evs) := run_ok G.spec evs _ G.start
theorem pairRow_length (G1 : GivenLin g1) (G2 : GivenLin g2) (evs : List (Event N)) : (pairRow amt one g1 g2 evs).length = W2 g1 g2 := by
  unfold pairRow W2
  rw [List.length_append, rowM_length (G1.at evs), rowM_length (G2.at evs)]
theorem pull2 (G1 : GivenLin g1) (G2 : GivenLin g2) (s : N) (f : List Int) (hf : f.length = W2 g1 g2) : ∃ g h : List Int, g.length = W2 g1 g2 ∧ h.length = W2 g1 g2 ∧
    ∀ (l : List (Event N)) (a : Int), dot f (pairRow amt one g1 g2 (l ++ [(s, a)])) = dot g (pairRow amt one g1 g2 l) + a * dot h (pairRow amt one g1 g2 l) := by
  unfold W2 at hf
  obtain ⟨a1, b1, la1, lb1, h1⟩ := pull G1.spec amt one s (f.take (width g1.spec)) (by rw [List.length_take]; omega)
  obtain ⟨a2, b2, la2, lb2, h2⟩ := pull G2.spec amt one s (f.drop (width g1.spec)) (by rw [List.length_drop]; omega)
  refine ⟨a1 ++ a2, b1 ++ b2, by rw [List.length_append, la1, la2]; rfl, by rw [List.length_append, lb1, lb2]; rfl, fun l a => ?_⟩
  have o1 := G1.at (amt := amt) (one := one) l
  have o2 := G2.at (amt := amt) (one := one) l
  have e1 : (rowM g1.spec (stateAt amt one g1 (l ++ [(s, a)]))).length = width g1.spec := rowM_length (G1.at _)
  unfold pairRow
  rw [dot_split, e1, stateAt_snoc, stateAt_snoc, h1 _ a o1, h2 _ a o2, dot_both (by rw [la1, rowM_length o1]), dot_both (by rw [lb1, rowM_length o1]), Int.mul_add]
  omega
theorem gap_dot (G1 : GivenLin g1) (G2 : GivenLin g2) : ∃ f : List Int, f.length = W2 g1 g2 ∧ ∀ evs, gap amt one g1 g2 evs = dot f (pairRow amt one g1 g2 evs) := by
  obtain ⟨u, hu, h1⟩ := value_dot G1.spec amt one g1.look
  obtain ⟨v, hv, h2⟩ := value_dot G2.spec amt one g2.look
  refine ⟨u ++ v.map (-1 * ·), by rw [List.length_append, List.length_map, hu, hv]; rfl, fun evs => ?_⟩
  unfold gap pairRow valueAt
  rw [dot_both (by rw [hu, rowM_length (G1.at evs)]), dot_smul, h1 _ (G1.at evs), h2 _ (G2.at evs)]
  omega
/-- what is told by rows without a gap has no gap -/
theorem dep_gap (G1 : GivenLin g1) (G2 : GivenLin g2) {lgs : List (List (Event N))} (hz : ∀ l ∈ lgs, gap amt one g1 g2 l = 0) {evs : List (Event N)} (d : Dep (W2 g1 g2) (lgs.map (pairRow amt one g1 g2)) (pairRow amt one g1 g2 evs)) : gap amt one g1 g2 evs = 0 := by
  obtain ⟨f, hf, h⟩ := gap_dot (amt := amt) (one := one) G1 G2
  rw [h]
  refine d f hf fun r hr => ?_
  obtain ⟨l, hl, rfl⟩ := List.mem_map.mp hr
  rw [← h]
  exact hz l hl
/-- one event more -/
theorem dep_ext (G1 : GivenLin g1) (G2 : GivenLin g2) {lgs lgs' : List (List (Event N))} {s : N} (hs : ∀ l ∈ lgs, l ∈ lgs')
    (kids : ∀ l ∈ lgs, ∀ a : Int, a = 0 ∨ a = 1 → Dep (W2 g1 g2) (lgs'.map (pairRow amt one g1 g2)) (pairRow amt one g1 g2 (l ++ [(s, a)]))) {l : List (Event N)} (d : Dep (W2 g1 g2) (lgs.map (pairRow amt one g1 g2)) (pairRow amt one g1 g2 l)) (a : Int) :
    Dep (W2 g1 g2) (lgs'.map (pairRow amt one g1 g2)) (pairRow amt one g1 g2 (l ++ [(s, a)])) := by
  intro f hf hv
  obtain ⟨g, h, lg, lh, e⟩ := pull2 (amt := amt) (one := one) G1 G2 s f hf
  have z : ∀ r ∈ lgs.map (pairRow amt one g1 g2), dot g r = 0 ∧ dot h r = 0 := fun r hr => by
    obtain ⟨x, hx, rfl⟩ := List.mem_map.mp hr
    have k0 := kids x hx 0 (.inl rfl) f hf hv
    have k1 := kids x hx 1 (.inr rfl) f hf hv
    rw [e] at k0 k1
    omega
  rw [e, d g lg fun r hr => (z r hr).1, d h lh fun r hr => (z r hr).2]
  simp

/-! ### the search -/
variable (amt one g1 g2) in
/-- ahead of the level n: lgs the lists whose rows are kept, wait those of the level -/
structure Bfs (sg : List N) (n : Nat) (lgs wait : List (List (Event N))) : Prop where
  len : ∀ l ∈ wait, l.length = n
  old : ∀ l ∈ lgs, l.length ≤ n
  good : ∀ l, l ∈ lgs ∨ l ∈ wait → ∀ e ∈ l, e.1 ∈ sg ∧ (e.2 = 0 ∨ e.2 = 1)
  kids : ∀ l ∈ lgs, ∀ s ∈ sg, ∀ a : Int, a = 0 ∨ a = 1 → (l ++ [(s, a)]) ∈ wait ∨ Dep (W2 g1 g2) (lgs.map (pairRow amt one g1 g2)) (pairRow amt one g1 g2 (l ++ [(s, a)]))
  root : [] ∈ wait ∨ Dep (W2 g1 g2) (lgs.map (pairRow amt one g1 g2)) (pairRow amt one g1 g2 [])
  zero : ∀ l ∈ lgs, gap amt one g1 g2 l = 0
  rank : rankM (lgs.map (pairRow amt one g1 g2)) = lgs.length
  cov : ∀ l : List (Event N), (∀ e ∈ l, e.1 ∈ sg) → l.length < n → Dep (W2 g1 g2) (lgs.map (pairRow amt one g1 g2)) (pairRow amt one g1 g2 l)
  few : wait ≠ [] → n ≤ lgs.length
variable (amt one g1 g2) in
/-- within a level: done are worked off, lat come later -/
structure Inn (sg : List N) (lgs0 done lgs lat : List (List (Event N))) : Prop where
  new : ∃ ns, lgs = lgs0 ++ ns ∧ (∀ l ∈ ns, l ∈ done) ∧ (∀ l ∈ ns, ∀ s ∈ sg, ∀ a : Int, a = 0 ∨ a = 1 → (l ++ [(s, a)]) ∈ lat) ∧ (∀ l ∈ lat, ∃ k ∈ ns, ∃ s ∈ sg, ∃ a : Int, (a = 0 ∨ a = 1) ∧ l = k ++ [(s, a)])
  deps : ∀ l ∈ done, Dep (W2 g1 g2) (lgs.map (pairRow amt one g1 g2)) (pairRow amt one g1 g2 l)
  zero : ∀ l ∈ lgs, gap amt one g1 g2 l = 0
  rank : rankM (lgs.map (pairRow amt one g1 g2)) = lgs.length
theorem Bfs.start (sg : List N) : Bfs amt one g1 g2 sg 0 [] [[]] where
  len := by simp
  old := by simp
  good := by simp
  kids := by simp
  root := .inl (by simp)
  zero := by simp
  rank := rfl
  cov := fun l _ h => absurd h (Nat.not_lt_zero _)
  few := fun _ => Nat.zero_le _
theorem Bfs.inn {sg : List N} {n : Nat} {lgs wait : List (List (Event N))} (B : Bfs amt one g1 g2 sg n lgs wait) : Inn amt one g1 g2 sg lgs [] lgs [] where
  new := ⟨[], by simp, by simp, by simp, by simp⟩
  deps := by simp
  zero := B.zero
  rank := B.rank
theorem row_lens (G1 : GivenLin g1) (G2 : GivenLin g2) (lgs : List (List (Event N))) : ∀ r ∈ lgs.map (pairRow amt one g1 g2), r.length = W2 g1 g2 := fun r hr => by
  obtain ⟨l, _, rfl⟩ := List.mem_map.mp hr
  exact pairRow_length G1 G2 l
theorem Inn.few (G1 : GivenLin g1) (G2 : GivenLin g2) {sg : List N} {lgs0 done lgs lat : List (List (Event N))} (I : Inn amt one g1 g2 sg lgs0 done lgs lat) : lgs.length ≤ W2 g1 g2 := by
  rw [← I.rank]
  exact rankM_le (row_lens G1 G2 lgs)
/-- the row is kept -/
theorem Inn.keep (G1 : GivenLin g1) (G2 : GivenLin g2) {sg : List N} {lgs0 done lgs lat kidsOf : List (List (Event N))} {l : List (Event N)} (I : Inn amt one g1 g2 sg lgs0 done lgs lat) (hz : gap amt one g1 g2 l = 0)
    (hr : lgs.length < rankM (lgs.map (pairRow amt one g1 g2) ++ [pairRow amt one g1 g2 l])) (hk : ∀ x, x ∈ kidsOf ↔ ∃ s ∈ sg, ∃ a : Int, (a = 0 ∨ a = 1) ∧ x = l ++ [(s, a)]) :
    Inn amt one g1 g2 sg lgs0 (done ++ [l]) (lgs ++ [l]) (lat ++ kidsOf) := by
  obtain ⟨ns, e, h1, h2, h3⟩ := I.new
  have em : (lgs ++ [l]).map (pairRow amt one g1 g2) = lgs.map (pairRow amt one g1 g2) ++ [pairRow amt one g1 g2 l] := by simp
  refine ⟨⟨ns ++ [l], by rw [e]; simp, fun x hx => ?_, fun x hx s hs a ha => ?_, fun x hx => ?_⟩, fun x hx => ?_, fun x hx => ?_, ?_⟩
  · rcases List.mem_append.mp hx with h | h
    · exact List.mem_append_left _ (h1 x h)
    · exact List.mem_append_right _ h
  · rcases List.mem_append.mp hx with h | h
    · exact List.mem_append_left _ (h2 x h s hs a ha)
    · have : x = l := by simpa using h
      subst this
      exact List.mem_append_right _ ((hk _).mpr ⟨s, hs, a, ha, rfl⟩)
  · rcases List.mem_append.mp hx with h | h
    · obtain ⟨k, hk2, r⟩ := h3 x h
      exact ⟨k, List.mem_append_left _ hk2, r⟩
    · obtain ⟨s, hs, a, ha, r⟩ := (hk x).mp h
      exact ⟨l, by simp, s, hs, a, ha, r⟩
  · rw [em]
    rcases List.mem_append.mp hx with h | h
    · exact (I.deps x h).mono fun r hr2 => List.mem_append_left _ hr2
    · have : x = l := by simpa using h
      subst this
      exact Dep.mem (by simp)
  · rcases List.mem_append.mp hx with h | h
    · exact I.zero x h
    · have : x = l := by simpa using h
      rw [this]; exact hz
  · rw [em, List.length_append, List.length_singleton]
    have rk := I.rank
    rcases rankM_snoc (row_lens (amt := amt) (one := one) G1 G2 lgs) (pairRow_length (amt := amt) (one := one) G1 G2 l) with ⟨q, _⟩ | q <;> omega
/-- the row is told by the others -/
theorem Inn.skip (G1 : GivenLin g1) (G2 : GivenLin g2) {sg : List N} {lgs0 done lgs lat : List (List (Event N))} {l : List (Event N)} (I : Inn amt one g1 g2 sg lgs0 done lgs lat)
    (hr : ¬ lgs.length < rankM (lgs.map (pairRow amt one g1 g2) ++ [pairRow amt one g1 g2 l])) : Inn amt one g1 g2 sg lgs0 (done ++ [l]) lgs lat := by
  obtain ⟨ns, e, h1, h2, h3⟩ := I.new
  refine ⟨⟨ns, e, fun x hx => List.mem_append_left _ (h1 x hx), h2, h3⟩, fun x hx => ?_, I.zero, I.rank⟩
  rcases List.mem_append.mp hx with h | h
  · exact I.deps x h
  · have : x = l := by simpa using h
    subst this
    have rk := I.rank
    rcases rankM_snoc (row_lens (amt := amt) (one := one) G1 G2 lgs) (pairRow_length (amt := amt) (one := one) G1 G2 x) with ⟨_, q⟩ | q
    · exact q
    · omega
theorem snoc_cases {α : Type} : ∀ l : List α, l = [] ∨ ∃ k x, l = k ++ [x]
  | [] => .inl rfl
  | a :: l => .inr (by
    rcases snoc_cases l with h | ⟨k, x, h⟩
    · exact ⟨[], a, by rw [h]; rfl⟩
    · exact ⟨a :: k, x, by rw [h]; rfl⟩)
/-- the level is worked off -/
theorem Inn.next (G1 : GivenLin g1) (G2 : GivenLin g2) {sg : List N} {n : Nat} {lgs0 wait lgs lat : List (List (Event N))} (B : Bfs amt one g1 g2 sg n lgs0 wait) (hw : wait ≠ []) (I : Inn amt one g1 g2 sg lgs0 wait lgs lat) : Bfs amt one g1 g2 sg (n + 1) lgs lat := by
  obtain ⟨ns, e, h1, h2, h3⟩ := I.new
  have sub : ∀ l ∈ lgs0, l ∈ lgs := fun l hl => by rw [e]; exact List.mem_append_left _ hl
  have subR : ∀ r ∈ lgs0.map (pairRow amt one g1 g2), r ∈ lgs.map (pairRow amt one g1 g2) := fun r hr => by
    obtain ⟨l, hl, rfl⟩ := List.mem_map.mp hr
    exact List.mem_map_of_mem (sub l hl)
  have kid0 : ∀ l ∈ lgs0, ∀ s ∈ sg, ∀ a : Int, a = 0 ∨ a = 1 → Dep (W2 g1 g2) (lgs.map (pairRow amt one g1 g2)) (pairRow amt one g1 g2 (l ++ [(s, a)])) := fun l hl s hs a ha => by
    rcases B.kids l hl s hs a ha with h | h
    · exact I.deps _ h
    · exact h.mono subR
  have rt : Dep (W2 g1 g2) (lgs.map (pairRow amt one g1 g2)) (pairRow amt one g1 g2 []) := by
    rcases B.root with h | h
    · exact I.deps _ h
    · exact h.mono subR
  refine ⟨fun l hl => ?_, fun l hl => ?_, fun l hl ev he => ?_, fun l hl s hs a ha => ?_, .inr rt, I.zero, I.rank, fun l hl hn => ?_, fun hl => ?_⟩
  · obtain ⟨k, hk, s, _, a, _, rfl⟩ := h3 l hl
    rw [List.length_append, B.len k (h1 k hk)]; rfl
  · rw [e] at hl
    rcases List.mem_append.mp hl with h | h
    · exact Nat.le_succ_of_le (B.old l h)
    · exact Nat.le_succ_of_le (Nat.le_of_eq (B.len l (h1 l h)))
  · rcases hl with hl | hl
    · rw [e] at hl
      rcases List.mem_append.mp hl with h | h
      · exact B.good l (.inl h) ev he
      · exact B.good l (.inr (h1 l h)) ev he
    · obtain ⟨k, hk, s, hs, a, ha, rfl⟩ := h3 l hl
      rcases List.mem_append.mp he with h | h
      · exact B.good k (.inr (h1 k hk)) ev h
      · have : ev = (s, a) := by simpa using h
        rw [this]; exact ⟨hs, ha⟩
  · rw [e] at hl
    rcases List.mem_append.mp hl with h | h
    · exact .inr (kid0 l h s hs a ha)
    · exact .inl (h2 l h s hs a ha)
  · rcases snoc_cases l with rfl | ⟨k, x, rfl⟩
    · exact rt
    · have hk : k.length < n := by rw [List.length_append, List.length_singleton] at hn; omega
      have d := B.cov k (fun ev he => hl ev (List.mem_append_left _ he)) hk
      have hx := hl x (by simp)
      exact dep_ext (s := x.1) G1 G2 sub (fun y hy a ha => kid0 y hy x.1 hx a ha) d x.2
  · have hn : ns ≠ [] := by
      intro z
      cases hlat : lat with
      | nil => exact hl hlat
      | cons y ys =>
        obtain ⟨k, hk, _⟩ := h3 y (by rw [hlat]; simp)
        rw [z] at hk
        exact nomatch hk
    have : 0 < ns.length := List.length_pos_iff.mpr hn
    have := B.few hw
    rw [e, List.length_append]; omega
/-- the end of the search: no list has a gap -/
theorem Bfs.alike (G1 : GivenLin g1) (G2 : GivenLin g2) {sg : List N} {n : Nat} {lgs : List (List (Event N))} (B : Bfs amt one g1 g2 sg n lgs []) (l : List (Event N)) (hl : ∀ e ∈ l, e.1 ∈ sg) : gap amt one g1 g2 l = 0 := by
  refine dep_gap G1 G2 B.zero ?_
  have key : ∀ (m : Nat) (l : List (Event N)), l.length = m → (∀ e ∈ l, e.1 ∈ sg) → Dep (W2 g1 g2) (lgs.map (pairRow amt one g1 g2)) (pairRow amt one g1 g2 l) := by
    intro m
    induction m with
    | zero =>
      intro l h _
      rw [List.length_eq_zero_iff.mp h]
      rcases B.root with q | q
      · exact nomatch q
      · exact q
    | succ m ih =>
      intro l h hl
      rcases snoc_cases l with rfl | ⟨k, x, rfl⟩
      · simp at h
      · rw [List.length_append, List.length_singleton] at h
        have d := ih k (by omega) fun ev he => hl ev (List.mem_append_left _ he)
        refine dep_ext (s := x.1) G1 G2 (fun _ h => h) (fun y hy a ha => ?_) d x.2
        rcases B.kids y hy x.1 (hl x (by simp)) a ha with q | q
        · exact nomatch q
        · exact q
  exact key l.length l rfl hl
/-- a gap at a level: no shorter list has one -/
theorem Bfs.apart (G1 : GivenLin g1) (G2 : GivenLin g2) {sg : List N} {n : Nat} {lgs wait : List (List (Event N))} (B : Bfs amt one g1 g2 sg n lgs wait) (l : List (Event N)) (hl : ∀ e ∈ l, e.1 ∈ sg) (hn : l.length < n) : gap amt one g1 g2 l = 0 :=
  dep_gap G1 G2 B.zero (B.cov l hl hn)

/-! ### sizes -/
structure SpecBd (sp : Spec N) : Prop where
  terms : ∀ r ∈ sp.rules, ∀ c ∈ r.changes, c.2.length ≤ 4 ∧ ∀ t ∈ c.2, t.2.natAbs ≤ 1000
theorem look_bd {k : Nat} (x : N) : ∀ (regs : List N) (vals : List Int), Bd k vals → (look x regs vals).natAbs < 2 ^ k
  | [], vals, _ => by unfold look; exact Nat.pow_pos (by decide)
  | _ :: _, [], _ => by unfold look; exact Nat.pow_pos (by decide)
  | r :: regs, v :: vals, h => by
    unfold look
    split
    · exact h v List.mem_cons_self
    · exact look_bd x regs vals fun y hy => h y (List.mem_cons_of_mem _ hy)
theorem sumT_bd {M : Nat} {kn : N → Int} : ∀ ts : List (N × Int), (∀ t ∈ ts, t.2.natAbs ≤ 1000 ∧ (kn t.1).natAbs ≤ M) → (sumT kn ts).natAbs ≤ ts.length * (1000 * M)
  | [], _ => by simp [sumT]
  | t :: ts, h => by
    have h1 := h t List.mem_cons_self
    have ih := sumT_bd ts fun x hx => h x (List.mem_cons_of_mem _ hx)
    have e : sumT kn (t :: ts) = t.2 * kn t.1 + sumT kn ts := by unfold sumT; simp
    have m : (t.2 * kn t.1).natAbs ≤ 1000 * M := by rw [Int.natAbs_mul]; exact Nat.mul_le_mul h1.1 h1.2
    rw [e, List.length_cons, Nat.add_mul]
    omega
theorem known_bd {k : Nat} (hk : 0 < k) (regs : List N) {vals : List Int} (hv : Bd k vals) {a : Int} (ha : a.natAbs ≤ 1) (x : N) : (known amt one regs vals a x).natAbs ≤ 2 ^ k - 1 := by
  have h2 : 2 ≤ 2 ^ k := by
    have := Nat.pow_le_pow_right (n := 2) (by decide) hk
    simpa using this
  unfold known
  split
  · show 1 ≤ _; omega
  · split
    · omega
    · have := look_bd x regs vals hv; omega
theorem term_room (k : Nat) : 4 * (1000 * (2 ^ k - 1)) < 2 ^ (k + 12) := by
  have h : 0 < 2 ^ k := Nat.pow_pos (by decide)
  have e : 2 ^ (k + 12) = 2 ^ k * 4096 := by rw [Nat.pow_add]
  omega
theorem late_bd {k : Nat} (hk : 0 < k) (regs : List N) {vals : List Int} (hv : Bd k vals) {a : Int} (ha : a.natAbs ≤ 1) : ∀ (changes : List (N × List (N × Int))) (m : N → Int), (∀ c ∈ changes, c.2.length ≤ 4 ∧ ∀ t ∈ c.2, t.2.natAbs ≤ 1000) → (∀ x, (m x).natAbs < 2 ^ (k + 12)) →
    ∀ x, (changes.foldl (fun m c => setF m c.1 (sumT (known amt one regs vals a) c.2)) m x).natAbs < 2 ^ (k + 12)
  | [], m, _, hm, x => hm x
  | c :: cs, m, hc, hm, x => late_bd hk regs hv ha cs _ (fun d hd => hc d (List.mem_cons_of_mem _ hd)) (fun y => by
      unfold setF
      dsimp only
      split
      · obtain ⟨c1, c2⟩ := hc c List.mem_cons_self
        have q := sumT_bd (M := 2 ^ k - 1) (kn := known amt one regs vals a) c.2 fun t ht => ⟨c2 t ht, known_bd hk regs hv ha t.1⟩
        have q2 := Nat.mul_le_mul_right (1000 * (2 ^ k - 1)) c1
        have := term_room k
        omega
      · exact hm y) x
theorem moved_bd {sp : Spec N} {st : State N} {k : Nat} (hk : 0 < k) (S : SpecBd sp) (hv : Bd k st.2) {ev : Event N} (ha : ev.2.natAbs ≤ 1) : Bd (k + 12) (moved amt one sp st ev).2 := by
  unfold moved
  cases e : ruleAt sp st.1 ev.1 with
  | none => exact hv.mono (by omega)
  | some r =>
    intro y hy
    obtain ⟨x, _, rfl⟩ := List.mem_map.mp hy
    refine late_bd hk sp.registers hv ha r.changes _ (S.terms r (List.mem_of_find?_eq_some e)) (fun x => ?_) x
    exact Nat.lt_of_lt_of_le (look_bd x sp.registers st.2 hv) (Nat.pow_le_pow_right (by decide) (by omega))
theorem run_bd {sp : Spec N} (S : SpecBd sp) : ∀ (evs : List (Event N)) (st : State N) (k : Nat), 0 < k → Bd k st.2 → (∀ e ∈ evs, e.2.natAbs ≤ 1) → Bd (k + 12 * evs.length) (run amt one sp st evs).2
  | [], st, k, _, h, _ => h
  | ev :: evs, st, k, hk, h, he => by
    have q := run_bd S evs (moved amt one sp st ev) (k + 12) (by omega) (moved_bd hk S h (he ev List.mem_cons_self)) fun e h' => he e (List.mem_cons_of_mem _ h')
    have e : k + 12 + 12 * evs.length = k + 12 * (ev :: evs).length := by rw [List.length_cons]; omega
    rw [e] at q
    exact q
theorem rowL_bd {k : Nat} (hk : 0 < k) {st : State N} (h : Bd k st.2) (ms : List N) : Bd k (rowL st ms) := by
  have h2 : 2 ≤ 2 ^ k := by
    have := Nat.pow_le_pow_right (n := 2) (by decide) hk
    simpa using this
  intro x hx
  unfold rowL at hx
  obtain ⟨m, _, hm⟩ := List.mem_flatMap.mp hx
  split at hm
  · rcases List.mem_cons.mp hm with rfl | hm
    · show 1 < _; omega
    · exact h x hm
  · rw [List.eq_of_mem_replicate hm]
    show 0 < _; omega
theorem pairRow_bd (S1 : SpecBd g1.spec) (S2 : SpecBd g2.spec) (h1 : Bd 60 g1.start.2) (h2 : Bd 60 g2.start.2) {evs : List (Event N)} (hn : evs.length ≤ 6) (he : ∀ e ∈ evs, e.2 = 0 ∨ e.2 = 1) : Bd 132 (pairRow amt one g1 g2 evs) := by
  have he' : ∀ e ∈ evs, e.2.natAbs ≤ 1 := fun e h => by rcases he e h with q | q <;> rw [q] <;> decide
  intro x hx
  unfold pairRow at hx
  rcases List.mem_append.mp hx with hx | hx
  · exact (rowL_bd (by omega) (run_bd S1 evs g1.start 60 (by decide) h1 he') g1.spec.modes).mono (by omega) x hx
  · exact (rowL_bd (by omega) (run_bd S2 evs g2.start 60 (by decide) h2 he') g2.spec.modes).mono (by omega) x hx
end
end TwM
end

section
set_option linter.all false
/-! Sizes at any amount, and small facts of the programs. -/
namespace TwM
variable {N : Type} [DecidableEq N] {amt one : N}
theorem known_lt {k : Nat} (hk : 0 < k) (regs : List N) {vals : List Int} (hv : Bd k vals) {a : Int} (ha : a.natAbs < 2 ^ k) (x : N) : (known amt one regs vals a x).natAbs < 2 ^ k := by
  have h2 : 2 ≤ 2 ^ k := by
    have := Nat.pow_le_pow_right (n := 2) (by decide) hk
    simpa using this
  unfold known
  split
  · show 1 < _; omega
  · split
    · exact ha
    · exact look_bd x regs vals hv
theorem late_lt {k : Nat} (hk : 0 < k) (regs : List N) {vals : List Int} (hv : Bd k vals) {a : Int} (ha : a.natAbs < 2 ^ k) : ∀ (changes : List (N × List (N × Int))) (m : N → Int), (∀ c ∈ changes, c.2.length ≤ 4 ∧ ∀ t ∈ c.2, t.2.natAbs ≤ 1000) → (∀ x, (m x).natAbs < 2 ^ (k + 12)) →
    ∀ x, (changes.foldl (fun m c => setF m c.1 (sumT (known amt one regs vals a) c.2)) m x).natAbs < 2 ^ (k + 12)
  | [], m, _, hm, x => hm x
  | c :: cs, m, hc, hm, x => late_lt hk regs hv ha cs _ (fun d hd => hc d (List.mem_cons_of_mem _ hd)) (fun y => by
      unfold setF
      dsimp only
      split
      · obtain ⟨c1, c2⟩ := hc c List.mem_cons_self
        have q := sumT_bd (M := 2 ^ k - 1) (kn := known amt one regs vals a) c.2 fun t ht => ⟨c2 t ht, by have := known_lt (amt := amt) (one := one) hk regs hv ha t.1; omega⟩
        have q2 := Nat.mul_le_mul_right (1000 * (2 ^ k - 1)) c1
        have := term_room k
        omega
      · exact hm y) x
theorem moved_lt {sp : Spec N} {st : State N} {k : Nat} (hk : 0 < k) (S : SpecBd sp) (hv : Bd k st.2) {ev : Event N} (ha : ev.2.natAbs < 2 ^ k) : Bd (k + 12) (moved amt one sp st ev).2 := by
  unfold moved
  cases e : ruleAt sp st.1 ev.1 with
  | none => exact hv.mono (by omega)
  | some r =>
    intro y hy
    obtain ⟨x, _, rfl⟩ := List.mem_map.mp hy
    refine late_lt hk sp.registers hv ha r.changes _ (S.terms r (List.mem_of_find?_eq_some e)) (fun x => ?_) x
    exact Nat.lt_of_lt_of_le (look_bd x sp.registers st.2 hv) (Nat.pow_le_pow_right (by decide) (by omega))
theorem run_take (sp : Spec N) (st : State N) (evs : List (Event N)) {i : Nat} {e : Event N} (h : evs[i]? = some e) : run amt one sp st (evs.take (i + 1)) = moved amt one sp (run amt one sp st (evs.take i)) e := by
  have e1 : evs.take (i + 1) = evs.take i ++ [e] := by rw [List.take_add_one, h]; rfl
  rw [e1]
  unfold run
  rw [List.foldl_append]
  rfl
theorem run_lt {sp : Spec N} (S : SpecBd sp) {st : State N} {k : Nat} (hk : 41 ≤ k) (hv : Bd k st.2) (evs : List (Event N)) (he : ∀ e ∈ evs, e.2.natAbs ≤ 1000000000000) : ∀ i ≤ evs.length, Bd (k + 12 * i) (run amt one sp st (evs.take i)).2
  | 0, _ => hv
  | i + 1, hi => by
    have ih := run_lt S hk hv evs he i (by omega)
    have hlt : i < evs.length := by omega
    have e : evs[i]? = some evs[i] := List.getElem?_eq_getElem hlt
    rw [run_take sp st evs e]
    have hb : (evs[i]).2.natAbs < 2 ^ (k + 12 * i) := by
      have h1 := he _ (List.getElem_mem hlt)
      have h2 : 2 ^ 41 ≤ 2 ^ (k + 12 * i) := Nat.pow_le_pow_right (by decide) (by omega)
      omega
    exact moved_lt (by omega) S ih hb
theorem look_at {x : N} {v : Int} : ∀ {regs : List N} {vals : List Int} {i : Nat}, regs.Nodup → regs[i]? = some x → vals[i]? = some v → look x regs vals = v
  | [], _, i, _, h, _ => by simp at h
  | r :: regs, [], i, _, _, h => by simp at h
  | r :: regs, u :: vals, 0, _, h1, h2 => by
    simp at h1 h2
    unfold look
    rw [if_pos h1, h2]
  | r :: regs, u :: vals, i + 1, nd, h1, h2 => by
    have h1' : regs[i]? = some x := by simpa using h1
    have h2' : vals[i]? = some v := by simpa using h2
    obtain ⟨n1, n2⟩ := List.nodup_cons.mp nd
    unfold look
    rw [if_neg, look_at n2 h1' h2']
    intro e
    exact n1 (e ▸ List.mem_of_getElem? h1')
end TwM
end

section
set_option linter.all false
/-! Small facts for the walk of tables. -/
namespace TwM
theorem fmod_lt {a b : Int} (h : b ≠ 0) : (a.fmod b).natAbs < b.natAbs := by
  rcases Int.lt_trichotomy b 0 with hb | hb | hb
  · have h1 := Int.fmod_nonneg_of_pos (-a) (b := -b) (by omega)
    have h2 := Int.fmod_lt_of_pos (-a) (b := -b) (by omega)
    rw [Int.neg_fmod_neg] at h1 h2
    omega
  · exact absurd hb h
  · have h1 := Int.fmod_nonneg_of_pos a hb
    have h2 := Int.fmod_lt_of_pos a hb
    omega
theorem gcd_fmod {a b : Int} : Int.gcd b (a.fmod b) = Int.gcd a b := by
  have e : a.fmod b = a - b * a.fdiv b := Int.fmod_def a b
  rw [e]
  apply Nat.dvd_antisymm
  · have h1 := Int.gcd_dvd_left b (a - b * a.fdiv b)
    have h2 := Int.gcd_dvd_right b (a - b * a.fdiv b)
    have h3 : ((Int.gcd b (a - b * a.fdiv b) : Nat) : Int) ∣ a := by
      have := Int.dvd_add h2 (Int.dvd_mul_of_dvd_left (c := a.fdiv b) h1)
      rwa [Int.sub_add_cancel] at this
    exact Int.natCast_dvd_natCast.mp (Int.dvd_coe_gcd h3 h1)
  · have h1 := Int.gcd_dvd_left a b
    have h2 := Int.gcd_dvd_right a b
    exact Int.natCast_dvd_natCast.mp (Int.dvd_coe_gcd h2 (Int.dvd_sub h1 (Int.dvd_mul_of_dvd_left (c := a.fdiv b) h2)))
theorem gcdL_zero : ∀ (xs : List Int), (∀ x ∈ xs, x = 0) → gcdL xs = 0 := by
  have h : ∀ (xs : List Int), (∀ x ∈ xs, x = 0) → xs.foldl (fun c x => ((Int.gcd c x : Nat) : Int)) 0 = 0 := by
    intro xs
    induction xs with
    | nil => intro _; rfl
    | cons x xs ih =>
      intro h
      rw [List.foldl_cons, h x List.mem_cons_self]
      exact ih fun y hy => h y (List.mem_cons_of_mem _ hy)
  exact h
theorem gcdL_lt {k : Nat} {xs : List Int} (h : Bd k xs) (h1 : 1 < gcdL xs) : (gcdL xs).natAbs < 2 ^ k := by
  by_cases z : ∀ x ∈ xs, x = 0
  · rw [gcdL_zero xs z] at h1; omega
  · have ⟨x, hx, hz⟩ : ∃ x, x ∈ xs ∧ x ≠ 0 := by
      false_or_by_contra
      rename_i q
      exact z fun x hx => by
        false_or_by_contra
        rename_i q2
        exact q ⟨x, hx, q2⟩
    have d := gcdL_dvd hx
    have l := h x hx
    have d2 : (gcdL xs).natAbs ∣ x.natAbs := Int.natAbs_dvd_natAbs.mpr d
    have := Nat.le_of_dvd (by omega) d2
    omega
theorem gcdL_take {xs : List Int} {i : Nat} {x : Int} (h : xs[i]? = some x) : gcdL (xs.take (i + 1)) = ((Int.gcd (gcdL (xs.take i)) x : Nat) : Int) := by
  have e : xs.take (i + 1) = xs.take i ++ [x] := by rw [List.take_add_one, h]; rfl
  unfold gcdL
  rw [e, List.foldl_append]
  rfl
theorem firstPlace_at {xs : List Int} {w i : Nat} (hi : i < w) (h0 : ∀ j < i, xs.getD j 0 = 0) (h : xs.getD i 0 ≠ 0) : firstPlace xs w = some i := by
  unfold firstPlace
  rw [List.find?_range_eq_some]
  exact ⟨by simpa using h, by simpa using hi, fun j hj => by simpa using h0 j hj⟩
theorem firstPlace_no {xs : List Int} {w : Nat} (h : ∀ j < w, xs.getD j 0 = 0) : firstPlace xs w = none := by
  unfold firstPlace
  rw [List.find?_range_eq_none]
  exact fun j hj => by simpa using h j hj
end TwM
end

section
set_option linter.all false
/-! The echelon form, row by row. -/
namespace TwM
/-- the steps behind the first rows -/
def stepsAt (many : Nat) (rows : List (List Int)) (i : Nat) : List (Nat × List Int) := goSteps many 0 (rows.take i) []
theorem stepsAt_succ {many : Nat} {rows : List (List Int)} {i : Nat} {r : List Int} (h : rows[i]? = some r) : stepsAt many rows (i + 1) = stepOf many i r (stepsAt many rows i) := by
  have e : rows.take (i + 1) = rows.take i ++ [r] := by rw [List.take_add_one, h]; rfl
  have hl : (rows.take i).length = i := by
    obtain ⟨h1, _⟩ := List.getElem?_eq_some_iff.mp h
    rw [List.length_take]; omega
  unfold stepsAt
  rw [e, goSteps_append, Nat.zero_add, hl]
  rfl
theorem stepsAt_ech {w many : Nat} {rows : List (List Int)} (h : ∀ r ∈ rows, r.length = w) (i : Nat) : Ech w (w + many) (stepsAt many rows i) :=
  Ech.go (many := many) (rows.take i) 0 [] (fun r hr => h r (List.mem_of_mem_take hr)) Ech.nil
theorem stepsAt_len {many : Nat} {rows : List (List Int)} : ∀ i, i ≤ rows.length → (stepsAt many rows i).length ≤ i
  | 0, _ => by unfold stepsAt; rw [List.take_zero]; exact Nat.le_refl _
  | i + 1, hi => by
    have hlt : i < rows.length := by omega
    have e : rows[i]? = some rows[i] := List.getElem?_eq_getElem hlt
    have ih := stepsAt_len (many := many) (rows := rows) i (by omega)
    rw [stepsAt_succ e]
    rcases stepOf_length many i rows[i] (stepsAt many rows i) with q | q <;> omega
theorem stepsAt_bd {w many b : Nat} {rows : List (List Int)} (hb : 0 < b) (hr : ∀ r ∈ rows, Bd b r) : ∀ i, i ≤ rows.length → StepsBd b (stepsAt many rows i)
  | 0, _ => by
    unfold stepsAt
    rw [List.take_zero]
    intro i st h
    have : (goSteps many 0 [] ([] : List (Nat × List Int))) = [] := rfl
    rw [this] at h
    simp at h
  | i + 1, hi => by
    have hlt : i < rows.length := by omega
    have e : rows[i]? = some rows[i] := List.getElem?_eq_getElem hlt
    rw [stepsAt_succ e]
    exact stepOf_bd (w := w) hb (stepsAt_bd (w := w) hb hr i (by omega)) (hr _ (List.getElem_mem hlt))
theorem clearAll_take {n : List Int} {steps : List (Nat × List Int)} {j : Nat} {st : Nat × List Int} (h : steps[j]? = some st) :
    clearAll n (steps.take (j + 1)) = if (clearAll n (steps.take j)).getD st.1 0 ≠ 0 then cleared (clearAll n (steps.take j)) st.2 st.1 else clearAll n (steps.take j) := by
  have e : steps.take (j + 1) = steps.take j ++ [st] := by rw [List.take_add_one, h]; rfl
  unfold clearAll
  rw [e, List.foldl_append]
  rfl
theorem start_bd {b many idx : Nat} {row : List Int} (hb : 0 < b) (hr : Bd b row) : Bd b (row ++ unit many idx) := by
  intro x hx
  rcases List.mem_append.mp hx with h | h
  · exact hr x h
  · unfold unit at h
    obtain ⟨k, _, rfl⟩ := List.mem_map.mp h
    have : 2 ≤ 2 ^ b := by
      have := Nat.pow_le_pow_right (n := 2) (by decide) hb
      simpa using this
    split
    · show 1 < 2 ^ b; omega
    · show 0 < 2 ^ b; omega
theorem clear_bd {b many idx j : Nat} {row : List Int} {steps : List (Nat × List Int)} (hb : 0 < b) (S : StepsBd b steps) (hr : Bd b row) (hj : j ≤ steps.length) : Bd (szB b j) (clearAll (row ++ unit many idx) (steps.take j)) := by
  have S2 : StepsBd b ([] ++ steps.take j) := by
    intro i st h
    rw [List.nil_append, List.getElem?_take] at h
    split at h
    · exact S i st h
    · cases h
  have q := clearAll_bd (b := b) [] (steps.take j) (row ++ unit many idx) S2 ((start_bd hb hr).mono (by unfold szB; simp))
  have e0 : ([] : List (Nat × List Int)).length + (steps.take j).length = j := by rw [List.length_take]; simp; omega
  rw [e0] at q
  exact q
theorem clear_len {w many idx j : Nat} {row : List Int} {steps : List (Nat × List Int)} (E : Ech w (w + many) steps) (hr : row.length = w) : (clearAll (row ++ unit many idx) (steps.take j)).length = w + many :=
  clearAll_length (m := w + many) (steps.take j) _ (fun st hst => E.len st (List.mem_of_mem_take hst)) (by rw [List.length_append, unit_length, hr])
theorem unit_take {many idx i : Nat} : (unit many idx).take i = (List.range (min i many)).map fun k => if k = idx then 1 else 0 := by
  unfold unit
  rw [← List.map_take, List.take_range]
end TwM
end

section
set_option Elab.async false
set_option linter.all false
set_option maxRecDepth 100000
set_option maxHeartbeats 4000000
/-! Callees by names, rules of our own, what stands in the heap. -/
namespace Tw
open PySem PySem.Spec PyProof.Rows L2
/-! ### readings, weakened and joined -/
section
variable {X : Cx} {e : Expr} {t t' : TE}
theorem pe_imp (h : PE X e t) (k : ∀ σ H Q, t' σ H Q → t σ H Q) : PE X e t' := ⟨fun pins s σ H Q I q => h.run pins s σ H Q I (k σ H Q q)⟩
/-- either of two readings -/
def tEither (t t' : TE) : TE := fun σ H Q => t σ H Q ∨ t' σ H Q
theorem pe_either (h : PE X e t) (h' : PE X e t') : PE X e (tEither t t') := ⟨fun pins s σ H Q I q => q.elim (h.run pins s σ H Q I) (h'.run pins s σ H Q I)⟩
end
/-! ### callees -/
section
variable (P : Program) (w : World) (K : PySem.W.Frag) (mg : Str → Option Value) (base : Heap)
/-- a def of the module's -/
structure Cal (k : Nat) (x : Str) (sp : Sp) : Prop where
  run : FnR P w K mg base CX0 k (He.ga K x) sp
  mg : mg x = some (.ref (He.ga K x))
  kp : PySem.W.keepIn K (.ref (He.ga K x)) = true
/-- a method m of the class C -/
structure Met (k : Nat) (C m : Str) (sp : Sp) : Prop where
  run : FnR P w K mg base CX0 k (He.ma K (He.ga K C) m) sp
  cls : L2.Cls K (He.ga K C)
  met : Meth K (He.ga K C) m (He.ma K (He.ga K C) m)
/-- a class's making -/
structure Mak (k : Nat) (C : Str) (sp : Sp) : Prop where
  run : FnR P w K mg base CX0 k (He.ma K (He.ga K C) "__init__") sp
  mg : mg C = some (.ref (He.ga K C))
  making : Mk K (He.ga K C) (He.ma K (He.ga K C) "__init__")
end
section
variable {P : Program} {w : World} {K : PySem.W.Frag} {mg : Str → Option Value} {base : Heap} {j k : Nat} {x C m : Str} {sp sp' : Sp}
theorem Cal.up (c : Cal P w K mg base j x sp) (h : j ≤ k) : Cal P w K mg base k x sp := ⟨c.run.mono h, c.mg, c.kp⟩
theorem Met.up (c : Met P w K mg base j C m sp) (h : j ≤ k) : Met P w K mg base k C m sp := ⟨c.run.mono h, c.cls, c.met⟩
theorem Mak.up (c : Mak P w K mg base j C sp) (h : j ≤ k) : Mak P w K mg base k C sp := ⟨c.run.mono h, c.mg, c.making⟩
/-- the context of a def's body -/
abbrev bX (P : Program) (w : World) (K : PySem.W.Frag) (mg : Str → Option Value) (base : Heap) (N : List Str) (qual : Str) (st : Stmt) (f : Addr) (cdv : Value) (A : Around) (outer : List Env) (s : Shared) (H : Hp) (E : XK) : Cx :=
  (cxOf CX0 P w K mg base N qual (defScope st) f cdv A outer s H E).nox
/-- what is to be shown of a body -/
def BodyOk (P : Program) (w : World) (K : PySem.W.Frag) (mg : Str → Option Value) (base : Heap) (N : List Str) (qual : Str) (st : Stmt) (f : Addr) (k : Nat) (sp : Sp) : Prop :=
  ∀ (cdv : Value) (A : Around) (outer : List Env) (s : Shared) (H : Hp) (vs : List V) (Q : VK) (E : XK), Room k (bX P w K mg base N qual st f cdv A outer s H E).A → sp vs H Q E →
    ∃ t, PSs (bX P w K mg base N qual st f cdv A outer s H E) (defBody st) t ∧ t { nx := fun _ H' => Q .non H', rt := Q } (start N vs) H
/-- a def by its body: what is left is the term of its body and the reading -/
theorem fn_by {nm qual : Str} {st : Stmt} {f : Addr} {N ps : List Str} (F : ∃ fd, FunD K nm qual (defArgs st) (defBody st) (defScope st) [] [] f fd) (S : FnScope N ps (defScope st))
    (hb : ∀ (kV doc pm : Value) (an : Option Addr) (cdv ct : Value) (us : List Value), us.length = ps.length → bindArgs (PySem.W.fnOf nm qual (defArgs st) (defBody st) (defScope st) .none kV doc pm an cdv ct) ⟨us, []⟩ = pure (ps.zip us))
    (len : ∀ vs H Q E, sp vs H Q E → vs.length = ps.length) (body : BodyOk P w K mg base N qual st f k sp) : FnR P w K mg base CX0 (k + 1) f sp := by
  obtain ⟨fd, F⟩ := F
  have G : FnOk P w K mg base CX0 (k + 1) f fd ps sp := F.ok S len fun cdv A outer s H vs Q E hr h => by
    obtain ⟨t, a, b⟩ := body cdv A outer s H vs Q E hr h
    exact ⟨t, PSs.nox a, b⟩
  have b : Binds K fd ps [] := F.bindsN hb
  exact (G.raw b .nil).imp fun vs H Q E h => by rw [List.append_nil]; exact h
theorem kp_of {nm qual : Str} {st : Stmt} {f : Addr} (F : ∃ fd, FunD K nm qual (defArgs st) (defBody st) (defScope st) [] [] f fd) : PySem.W.keepIn K (.ref f) = true := by
  obtain ⟨fd, F⟩ := F
  exact F.kp
end
/-! ### the calls -/
/-- f(..), o.m(..), C(..) by promises of positional values -/
def tCl (sp : Sp) (t : TA) : TE := fun σ H Q => t σ H fun vs H1 => sp vs H1 Q E0
def tMt (C : Addr) (m : Str) (sp : Sp) (to : TE) (t : TA) : TE := fun σ H Q => to σ H fun x H1 => ∃ a dx fs, x = .ref a ∧ H1 a = some (.ins C dx fs) ∧ fs.lookup m = none ∧ t σ H1 fun vs H2 => sp (x :: vs) H2 Q E0
def tMk (C : Addr) (sp : Sp) (t : TA) : TE := fun σ H Q => t σ H fun vs H1 => ∀ x dx, H1 x = none → H1 dx = none → dx ≠ x → sp (V.ref x :: vs) (upd (upd H1 dx (.own x)) x (.ins C dx [])) (fun v H2 => v = .non ∧ Q (.ref x) H2) E0
section
variable {X : Cx} {k : Nat} {x C m : Str} {sp : Sp} {p pos apos : Pos} {e o : Expr} {es : List Expr} {to : TE} {t : TA}
theorem pe_c (c : Cal X.prog X.w X.K X.mg X.base k x sp) (hr : Room k X.A) (ha : PA X (e :: es) t) (hg : Gl X x := by rfl) (hdb : (x == ("__debug__" : Str)) = false := by decide)
    (he : starEach (e :: es) X.env = (false, eval e X.env) :: starEach es X.env := by rfl) (hpl : (backTo pos (starEach es X.env)).any (·.1) = false := by rfl) : PE X (.Call (.Name x p) (e :: es) [] pos) (tCl sp t) := by
  refine ⟨fun pins s σ H Q I h => wpAny_Call_Name_kw (ld_glob I hg c.mg ?_ hdb)⟩
  refine PySem.W.callWith_K (h₀ := X.base) I.ok.mod.kin c.kp (thn (ha.run pos pins s σ H _ I h) fun us s1 ⟨vs, H1, I1, r, q⟩ => ⟨I1.kIn, wpAny_call (run_fnR c.run hr pass0 I1 r q)⟩) he hpl
theorem pe_m {pl : Sem Bool} (c : Met X.prog X.w X.K X.mg X.base k C m sp) (hr : Room k X.A) (ho : PE X o to) (ha : PA X (e :: es) t)
    (hst : starEach (e :: es) X.env = (false, eval e X.env) :: starEach es X.env := by rfl) (hpl : (backTo pos (starEach es X.env)).any (·.1) = false := by rfl)
    (ht : eval (.Call (.Attribute o m apos) (e :: es) [] pos) X.env = (do
      let ov ← eval o X.env
      standAt apos.atName
      let (f, first) ← holding [ov] (getMethod ov m pl)
      callWith pos f first (backTo pos (starEach (e :: es) X.env)) (backToKw pos (keywordEach [] X.env))) := by rfl) :
    PE X (.Call (.Attribute o m apos) (e :: es) [] pos) (tMt (He.ga X.K C) m sp to t) :=
  pe_methR ho c.cls c.met c.run hr pass0 ha hst hpl ht
theorem pe_m0 {pl : Sem Bool} (c : Met X.prog X.w X.K X.mg X.base k C m sp) (hr : Room k X.A) (ho : PE X o to)
    (ht : eval (.Call (.Attribute o m apos) [] [] pos) X.env = (do
      let ov ← eval o X.env
      standAt apos.atName
      let (f, first) ← holding [ov] (getMethod ov m pl)
      callWith pos f first (backTo pos (starEach [] X.env)) (backToKw pos (keywordEach [] X.env))) := by rfl) :
    PE X (.Call (.Attribute o m apos) [] [] pos) (tMt (He.ga X.K C) m sp to tNil) := by
  refine ⟨fun pins s σ H Q I h => PySem.W.methodCall_KW (pl := pl) (thn (ho.run pins s σ H _ I h) fun u s1 ⟨x, H1, I1, rx, a, dx, fs, ex, ea, l, q⟩ => ?_) ht⟩
  subst ex
  obtain rfl : u = Value.ref a := rx
  exact getmeth_ok I1 ea c.cls c.met l (PySem.W.callWith_K0 (first := [.ref a]) I1.kIn c.met.kp (wpAny_call (run_fnR (us := [.ref a]) (vs := [.ref a]) c.run hr pass0 I1 (.cons rfl .nil) q)))
theorem pe_k (c : Mak X.prog X.w X.K X.mg X.base k C sp) (hr : Room (k + 1) X.A) (ha : PA X (e :: es) t) (hg : Gl X C := by rfl) (hdb : (C == ("__debug__" : Str)) = false := by decide)
    (he : starEach (e :: es) X.env = (false, eval e X.env) :: starEach es X.env := by rfl) (hpl : (backTo pos (starEach es X.env)).any (·.1) = false := by rfl) : PE X (.Call (.Name C p) (e :: es) [] pos) (tMk (He.ga X.K C) sp t) :=
  StX.pe_makeR c.making c.run hr hg c.mg pass0 ha hdb he hpl
end

/-! ### heaps: what is kept by draws, by calls -/
/-- the bag's form: no other list of ours has it -/
def bagO : HO → Bool
  | .lst [.ref _, .int _, .int _, .int _, .int _] => true
  | _ => false
/-- all but bags is as it was -/
def Kp (H H' : Hp) : Prop := ∀ a o, H a = some o → bagO o = false → H' a = some o
theorem Kp.refl (H : Hp) : Kp H H := fun _ _ h _ => h
theorem Kp.trans {H H1 H2 : Hp} (a : Kp H H1) (b : Kp H1 H2) : Kp H H2 := fun c o h q => b c o (a c o h q) q
theorem Same.kp {H H' : Hp} (a : Same H H') : Kp H H' := fun c o h _ => a c o h
theorem same_new {H : Hp} {p : Addr} (o : HO) (h : H p = none) : Same H (upd H p o) := fun a u e => by rw [upd_ne (ne_of_none e h)]; exact e
theorem kp_new {H : Hp} {p : Addr} (o : HO) (h : H p = none) : Kp H (upd H p o) := Same.kp (same_new o h)
theorem Same.new {H H1 : Hp} {p : Addr} (a : Same H H1) (o : HO) (h : H1 p = none) : Same H (upd H1 p o) := a.trans (same_new o h)
theorem Kp.new {H H1 : Hp} {p : Addr} (a : Kp H H1) (o : HO) (h : H1 p = none) : Kp H (upd H1 p o) := a.trans (kp_new o h)
/-- an object that was not there may be written -/
theorem Same.put {H H1 : Hp} {p : Addr} (a : Same H H1) (o : HO) (h : H p = none) : Same H (upd H1 p o) := fun b u e => by rw [upd_ne (ne_of_none e h)]; exact a b u e
theorem Kp.put {H H1 : Hp} {p : Addr} (a : Kp H H1) (o : HO) (h : H p = none) : Kp H (upd H1 p o) := fun b u e q => by rw [upd_ne (ne_of_none e h)]; exact a b u e q
theorem bagO_strs (ss : List Str) : bagO (.lst (ss.map V.str)) = false := by
  cases ss with
  | nil => rfl
  | cons s r => rfl
theorem bagO_ints (ss : List Int) : bagO (.lst (ss.map V.int)) = false := by
  cases ss with
  | nil => rfl
  | cons s r => rfl
theorem bagO_refs (ss : List Addr) : bagO (.lst (ss.map V.ref)) = false := by
  match ss with
  | [] => rfl
  | [_] => rfl
  | _ :: _ :: _ => rfl
theorem bagO_bls (ss : List Bool) : bagO (.lst (ss.map V.bl)) = false := by
  cases ss with
  | nil => rfl
  | cons s r => rfl
/-- nothing but tuples is asked -/
def Tk (H H' : Hp) : Prop := ∀ a xs, H a = some (.tup xs) → H' a = some (.tup xs)
theorem Kp.tk {H H' : Hp} (a : Kp H H') : Tk H H' := fun c xs h => a c _ h rfl
theorem Same.tk {H H' : Hp} (a : Same H H') : Tk H H' := fun c xs h => a c _ h

/-! ### data of tuples -/
abbrev Terms := List (Str × Int)
def TermAt (H : Hp) (a : Addr) (t : Str × Int) : Prop := H a = some (.tup [.str t.1, .int t.2])
def TermsAt (H : Hp) (a : Addr) (ts : Terms) : Prop := ∃ as : List Addr, H a = some (.tup (as.map V.ref)) ∧ Paired (TermAt H) as ts
def ChangeAt (H : Hp) (a : Addr) (c : Str × Terms) : Prop := ∃ b, H a = some (.tup [.str c.1, .ref b]) ∧ TermsAt H b c.2
def ChangesAt (H : Hp) (a : Addr) (cs : List (Str × Terms)) : Prop := ∃ as : List Addr, H a = some (.tup (as.map V.ref)) ∧ Paired (ChangeAt H) as cs
def RuleAt (H : Hp) (a : Addr) (r : TwM.Rule Str) : Prop := ∃ b, H a = some (.tup [.str r.mode, .str r.sign, .str r.goal, .ref b]) ∧ ChangesAt H b r.changes
def StateAt (H : Hp) (a : Addr) (st : TwM.State Str) : Prop := ∃ b, H a = some (.tup [.str st.1, .ref b]) ∧ H b = some (.tup (st.2.map V.int))
theorem Paired.imp {α β : Type} {F G : α → β → Prop} (h : ∀ a b, F a b → G a b) : ∀ {xs : List α} {ys : List β}, Paired F xs ys → Paired G xs ys
  | _, _, .nil => .nil
  | _, _, .cons r t => .cons (h _ _ r) (Paired.imp h t)
section
variable {H H' : Hp} (k : Tk H H')
include k
theorem TermAt.tk {a : Addr} {t : Str × Int} (h : TermAt H a t) : TermAt H' a t := k _ _ h
theorem TermsAt.tk {a : Addr} {ts : Terms} (h : TermsAt H a ts) : TermsAt H' a ts := let ⟨as, h1, h2⟩ := h; ⟨as, k _ _ h1, Paired.imp (fun _ _ => TermAt.tk k) h2⟩
theorem ChangeAt.tk {a : Addr} {c : Str × Terms} (h : ChangeAt H a c) : ChangeAt H' a c := let ⟨b, h1, h2⟩ := h; ⟨b, k _ _ h1, h2.tk k⟩
theorem ChangesAt.tk {a : Addr} {cs : List (Str × Terms)} (h : ChangesAt H a cs) : ChangesAt H' a cs := let ⟨as, h1, h2⟩ := h; ⟨as, k _ _ h1, Paired.imp (fun _ _ => ChangeAt.tk k) h2⟩
theorem RuleAt.tk {a : Addr} {r : TwM.Rule Str} (h : RuleAt H a r) : RuleAt H' a r := let ⟨b, h1, h2⟩ := h; ⟨b, k _ _ h1, h2.tk k⟩
theorem StateAt.tk {a : Addr} {st : TwM.State Str} (h : StateAt H a st) : StateAt H' a st := let ⟨b, h1, h2⟩ := h; ⟨b, k _ _ h1, k _ _ h2⟩
end
end Tw
end

section
set_option Elab.async false
set_option linter.all false
set_option maxRecDepth 100000
set_option maxHeartbeats 4000000
/-! Short words for often met rules. -/
namespace Tw
open PySem PySem.Spec PyProof.Rows L2
theorem q_dec {Q : VK} {H : Hp} {p : Prop} [Decidable p] (h : p) (q : Q (.bl true) H) : Q (.bl (decide p)) H := by rw [decide_eq_true h]; exact q
theorem q_decF {Q : VK} {H : Hp} {p : Prop} [Decidable p] (h : ¬ p) (q : Q (.bl false) H) : Q (.bl (decide p)) H := by rw [decide_eq_false h]; exact q
theorem it_dec {p A B : Prop} [Decidable p] (h : p) (a : A) : if decide p = true then A else B := by rw [decide_eq_true h]; exact iteT a
theorem it_decF {p A B : Prop} [Decidable p] (h : ¬ p) (b : B) : if decide p = true then A else B := by rw [decide_eq_false h]; exact iteF b
theorem it_ndec {p A B : Prop} [Decidable p] (h : ¬ p) (a : A) : if (!decide p) = true then A else B := by rw [decide_eq_false h]; exact iteT a
theorem it_ndecF {p A B : Prop} [Decidable p] (h : p) (b : B) : if (!decide p) = true then A else B := by rw [decide_eq_true h]; exact iteF b
/-! ### isinstance, by values -/
section
variable {K : PySem.W.Frag} {H : Hp} {Q : VK}
theorem rd_is {x : V} {n m : String} {b : Bool} (t : TyX K H x (.type n)) (h : kitB n m = some b) (q : Q (.bl b) H) : rIsi K [x, .ty m] H Q := ⟨x, .ty m, _, _, b, rfl, .ty m, t, kit_ty h, q⟩
theorem rd_ii {i : Int} (q : Q (.bl true) H) : rIsi K [.int i, .ty "int"] H Q := rd_is (.base (.int i)) (by decide +kernel) q
theorem rd_ib {i : Int} (q : Q (.bl false) H) : rIsi K [.int i, .ty "bool"] H Q := rd_is (.base (.int i)) (by decide +kernel) q
theorem rd_ss {i : Str} (q : Q (.bl true) H) : rIsi K [.str i, .ty "str"] H Q := rd_is (.base (.str i)) (by decide +kernel) q
theorem rd_tt {a : Addr} {xs : List V} (h : H a = some (.tup xs)) (q : Q (.bl true) H) : rIsi K [.ref a, .ty "tuple"] H Q := rd_is (.base (.tup h)) (by decide +kernel) q
/-- (list, tuple) -/
theorem rd_isLT {x : V} {n : String} (t : TyX K H x (.type n)) (hn : n = "list" ∨ n = "tuple") {p : Addr} (hp : H p = some (.tup [.ty "list", .ty "tuple"])) (q : Q (.bl true) H) : rIsiT K [x, .ref p] H Q := by
  refine ⟨x, p, _, _, [.type "list", .type "tuple"], true, rfl, hp, .cons (.ty _) (.cons (.ty _) .nil), t, ?_, q⟩
  rcases hn with rfl | rfl
  · exact kitAny_cons (b := true) (kit_ty (by decide +kernel)) (fun z => nomatch z) fun _ => rfl
  · exact kitAny_cons (b := false) (kit_ty (by decide +kernel)) (fun _ => kitAny_cons (b := true) (kit_ty (by decide +kernel)) (fun z => nomatch z) fun _ => rfl) fun z => nomatch z
end
/-- one argument of a built-in -/
def t1 (r : List V → Hp → VK → Prop) (ta : TE) : TE := fun σ H Q => ta σ H fun x H1 => r [x] H1 Q
def t2 (r : List V → Hp → VK → Prop) (ta tb : TE) : TE := fun σ H Q => ta σ H fun x H1 => tb σ H1 fun y H2 => r [x, y] H2 Q
section
variable {X : Cx} {e f : Expr} {ta tb : TE} {p p2 pos : Pos} {x : Str}
theorem pe_b1 {id : String} {r : List V → Hp → VK → Prop} (hc : CallR X (.builtin id) r) (hm : X.mg x = none) (ha : PE X e ta) (hv : bootBuiltins x = some (.builtin id) := by decide +kernel) (hg : Gl X x := by rfl) (hn : x ≠ "__name__" := by decide) (hdb : (x == ("__debug__" : Str)) = false := by decide)
    (he : starEach [e] X.env = (false, eval e X.env) :: starEach [] X.env := by rfl) (hpl : (backTo pos (starEach [] X.env)).any (·.1) = false := by rfl) : PE X (.Call (.Name x p) [e] [] pos) (t1 r ta) :=
  pe_callB hc hg hm hv (pa_cons ha pa_nil he) hn hdb he hpl
theorem pe_t1 {n : String} {r : List V → Hp → VK → Prop} (hc : CallR X (.type n) r) (hm : X.mg x = none) (ha : PE X e ta) (hv : bootBuiltins x = some (.type n) := by decide +kernel) (hg : Gl X x := by rfl) (hn : x ≠ "__name__" := by decide) (hdb : (x == ("__debug__" : Str)) = false := by decide)
    (he : starEach [e] X.env = (false, eval e X.env) :: starEach [] X.env := by rfl) (hpl : (backTo pos (starEach [] X.env)).any (·.1) = false := by rfl) : PE X (.Call (.Name x p) [e] [] pos) (t1 r ta) :=
  pe_callTy hc hg hm hv (pa_cons ha pa_nil he) hn hdb he hpl
theorem pe_b2 {id : String} {r : List V → Hp → VK → Prop} (hc : CallR X (.builtin id) r) (hm : X.mg x = none) (ha : PE X e ta) (hb : PE X f tb) (hv : bootBuiltins x = some (.builtin id) := by decide +kernel) (hg : Gl X x := by rfl) (hn : x ≠ "__name__" := by decide) (hdb : (x == ("__debug__" : Str)) = false := by decide)
    (he : starEach [e, f] X.env = (false, eval e X.env) :: starEach [f] X.env := by rfl) (he2 : starEach [f] X.env = (false, eval f X.env) :: starEach [] X.env := by rfl) (hpl : (backTo pos (starEach [f] X.env)).any (·.1) = false := by rfl) : PE X (.Call (.Name x p) [e, f] [] pos) (t2 r ta tb) :=
  pe_callB hc hg hm hv (pa_cons ha (pa_cons hb pa_nil he2) he) hn hdb he hpl
/-- isinstance(e, T), T a built-in type -/
def tIsR (K : PySem.W.Frag) (nm : String) (ta : TE) : TE := fun σ H Q => ta σ H fun x H1 => rIsi K [x, .ty nm] H1 Q
theorem pe_is {n : Str} (nm : String) (T : Txt X.K X.mg) (ha : PE X e ta) (hn : X.mg n = none) (hb : bootBuiltins n = some (.type nm) := by decide +kernel) (hg : Gl X n := by rfl) (hi : Gl X "isinstance" := by rfl) (ht : n ≠ "__name__" := by decide) (hd : (n == ("__debug__" : Str)) = false := by decide)
    (s1 : starEach [e, .Name n p2] X.env = (false, eval e X.env) :: starEach [.Name n p2] X.env := by rfl) (s2 : starEach [.Name n p2] X.env = (false, eval (.Name n p2) X.env) :: starEach [] X.env := by rfl) (s3 : (backTo pos (starEach [.Name n p2] X.env)).any (·.1) = false := by rfl) :
    PE X (.Call (.Name "isinstance" p) [e, .Name n p2] [] pos) (tIsR X.K nm ta) :=
  pe_callB call_isi hi (b_isinstance T) (by decide +kernel) (pa_cons ha (pa_cons (pe_bltn (v := .ty nm) hg hn hb rfl ht hd) pa_nil s2) s1) (by decide) (by decide) s1 s3
/-- isinstance(e, (list, tuple)) -/
def tIsLT (K : PySem.W.Frag) (ta : TE) : TE := fun σ H Q => ta σ H fun x H1 => (tTup (tCons (tC (.ty "list")) (tCons (tC (.ty "tuple")) tNil))) σ H1 fun y H2 => rIsiT K [x, y] H2 Q
theorem pe_isLT {q1 q2 q3 : Pos} {kk : Nat} (T : Txt X.K X.mg) (ha : PE X e ta) (hl : Gl X "list" := by rfl) (ht : Gl X "tuple" := by rfl) (hi : Gl X "isinstance" := by rfl)
    (s1 : starEach [e, .Tuple [.Name "list" q1, .Name "tuple" q2] kk q3] X.env = (false, eval e X.env) :: starEach [.Tuple [.Name "list" q1, .Name "tuple" q2] kk q3] X.env := by rfl)
    (s2 : starEach [.Tuple [.Name "list" q1, .Name "tuple" q2] kk q3] X.env = (false, eval (.Tuple [.Name "list" q1, .Name "tuple" q2] kk q3) X.env) :: starEach [] X.env := by rfl) (s3 : (backTo pos (starEach [.Tuple [.Name "list" q1, .Name "tuple" q2] kk q3] X.env)).any (·.1) = false := by rfl)
    (s4 : starEach [.Name "list" q1, .Name "tuple" q2] X.env = (false, eval (.Name "list" q1) X.env) :: starEach [.Name "tuple" q2] X.env := by rfl) (s5 : starEach [.Name "tuple" q2] X.env = (false, eval (.Name "tuple" q2) X.env) :: starEach [] X.env := by rfl) :
    PE X (.Call (.Name "isinstance" p) [e, .Tuple [.Name "list" q1, .Name "tuple" q2] kk q3] [] pos) (tIsLT X.K ta) :=
  pe_callB call_isiT hi (b_isinstance T) (by decide +kernel) (pa_cons ha (pa_cons (pe_tup (pa_cons (pe_bltn (v := .ty "list") hl (b_list T) (by decide +kernel) rfl (by decide) (by decide)) (pa_cons (pe_bltn (v := .ty "tuple") ht (b_tuple T) (by decide +kernel) rfl (by decide) (by decide)) pa_nil s5) s4)) pa_nil s2) s1) (by decide) (by decide) s1 s3
theorem rd_LT {K : PySem.W.Frag} {H : Hp} {Q : VK} {σ : L2.St} {v : V} {n : String} (ht : ∀ p, H p = none → TyX K (upd H p (.tup [.ty "list", .ty "tuple"])) v (.type n)) (hn : n = "list" ∨ n = "tuple") (q : ∀ p, H p = none → Q (.bl true) (upd H p (.tup [.ty "list", .ty "tuple"]))) :
    (tTup (tCons (tC (.ty "list")) (tCons (tC (.ty "tuple")) tNil))) σ H fun y H2 => rIsiT K [v, y] H2 Q :=
  ⟨by show 2 ≤ sizeLine; decide, fun p hp => rd_isLT (ht p hp) hn upd_same (q p hp)⟩
theorem rd_LTl {K : PySem.W.Frag} {H : Hp} {Q : VK} {σ : L2.St} {a : Addr} {xs : List V} (h : H a = some (.lst xs)) (q : ∀ p, H p = none → Q (.bl true) (upd H p (.tup [.ty "list", .ty "tuple"]))) :
    (tTup (tCons (tC (.ty "list")) (tCons (tC (.ty "tuple")) tNil))) σ H fun y H2 => rIsiT K [.ref a, y] H2 Q :=
  rd_LT (n := "list") (fun p hp => .base (.lst (by rw [upd_ne (ne_of_none h hp)]; exact h))) (.inl rfl) q
theorem rd_LTt {K : PySem.W.Frag} {H : Hp} {Q : VK} {σ : L2.St} {a : Addr} {xs : List V} (h : H a = some (.tup xs)) (q : ∀ p, H p = none → Q (.bl true) (upd H p (.tup [.ty "list", .ty "tuple"]))) :
    (tTup (tCons (tC (.ty "list")) (tCons (tC (.ty "tuple")) tNil))) σ H fun y H2 => rIsiT K [.ref a, y] H2 Q :=
  rd_LT (n := "tuple") (fun p hp => .base (.tup (by rw [upd_ne (ne_of_none h hp)]; exact h))) (.inr rfl) q
/-! the second part a constant -/
def tIt (K : PySem.W.Frag) (i : Int) (te : TE) : TE := fun σ H Q => te σ H fun x H1 => rIxT K x (.int i) H1 Q
theorem pe_ti {i : Int} {j : Nat} {cp : Pos} (he : PE X e ta) (hs : PlainIx (.Constant (.int i) j cp) := fun _ _ => rfl) : PE X (.Subscript e (.Constant (.int i) j cp) pos) (tIt X.K i ta) := pe_ix ix_tup he pe_int hs
def tIl (K : PySem.W.Frag) (i : Int) (te : TE) : TE := fun σ H Q => te σ H fun x H1 => rIxL K x (.int i) H1 Q
theorem pe_li {i : Int} {j : Nat} {cp : Pos} (he : PE X e ta) (hs : PlainIx (.Constant (.int i) j cp) := fun _ _ => rfl) : PE X (.Subscript e (.Constant (.int i) j cp) pos) (tIl X.K i ta) := pe_ix ix_list he pe_int hs
def tOc (r : R2) (ta : TE) (v : V) : TE := fun σ H Q => ta σ H fun x H1 => r x v H1 Q
theorem pe_oc {op : Operator} {r : R2} {v : V} (ho : OpR X (binaryOp op) r) (ha : PE X e ta) (hb : PE X f (tC v)) : PE X (.BinOp e op f pos) (tOc r ta v) := pe_op ho ha hb
theorem pe_cc {op : CmpOp} {r : R2} {v : V} (ho : OpR X (compareOp op) r) (ha : PE X e ta) (hb : PE X f (tC v)) (hm : behindInMarks op f = false) : PE X (.Compare e [op] [f] pos) (tOc r ta v) := pe_cmpR ho ha hb hm
def tTc (r : R2) (ta : TE) (v : V) : TT := fun σ H Q => ta σ H fun x H1 => r x v H1 fun z H2 => ∃ k, z = .bl k ∧ Q k H2
theorem pt_cc {op : CmpOp} {r : R2} {v : V} (ho : OpR X (compareOp op) r) (ha : PE X e ta) (hb : PE X f (tC v)) (hm : behindInMarks op f = false) : PT X (.Compare e [op] [f] pos) (tTc r ta v) := pt_cmpR ho ha hb hm
/-- x == c, x != c as tests of ints, of texts -/
theorem rd_ne {Q : VK} {H : Hp} {x y : V} (hs : scal x y = true) (q : Q (.bl (!decide (x = y))) H) : rNe x y H Q := ⟨hs, q⟩
theorem rd_eq {Q : VK} {H : Hp} {x y : V} (hs : scal x y = true) (q : Q (.bl (decide (x = y))) H) : rEq x y H Q := ⟨hs, q⟩
end
end Tw
end

section
set_option Elab.async false
set_option linter.all false
set_option maxRecDepth 100000
set_option maxHeartbeats 4000000
/-! The small looks at values: is_plain .. is_changes. -/
namespace Tw
open PySem PySem.Spec PyProof.Rows L2
/-! ### membership of texts in lists of texts, items of tuples -/
theorem inV_strs {x : Str} {ss : List Str} : inV (.str x) (ss.map V.str) = decide (x ∈ ss) := by
  unfold inV
  induction ss with
  | nil => rfl
  | cons s r ih =>
    rw [List.map_cons, List.any_cons, ih]
    show ((s == x) || decide (x ∈ r)) = decide (x ∈ s :: r)
    by_cases e : s = x
    · subst e; simp
    · have : (s == x) = false := beq_eq_false_iff_ne.mpr e
      rw [this, Bool.false_or]
      simp [List.mem_cons, Ne.symm e]
theorem flat_strs (ss : List Str) : (ss.map V.str).all flatV = true := by
  rw [List.all_map, List.all_eq_true]; intro s _; rfl
/-- len of a list, of a tuple -/
def rLn (K : PySem.W.Frag) : List V → Hp → VK → Prop := fun xs H Q => ∃ p ys, xs = [.ref p] ∧ (SqL K H p ys ∨ SqT K H p ys) ∧ Q (.int (ys.length : Nat)) H
theorem cr_ln {X : Cx} : CallR X (.builtin "len") (rLn X.K) := call_len_seq
section
variable {K : PySem.W.Frag} {H : Hp} {Q : VK} {x : Str} {l : Addr} {ss : List Str}
theorem rd_in (h : SqL K H l (ss.map V.str)) (hx : x ∈ ss) (q : Q (.bl true) H) : rIn K false (.str x) (.ref l) H Q := ⟨l, _, rfl, .inl h, rfl, flat_strs ss, by rw [if_neg (by decide), inV_strs, decide_eq_true hx]; exact q⟩
theorem rd_inF (h : SqL K H l (ss.map V.str)) (hx : x ∉ ss) (q : Q (.bl false) H) : rIn K false (.str x) (.ref l) H Q := ⟨l, _, rfl, .inl h, rfl, flat_strs ss, by rw [if_neg (by decide), inV_strs, decide_eq_false hx]; exact q⟩
theorem rd_ni (h : SqL K H l (ss.map V.str)) (hx : x ∈ ss) (q : Q (.bl false) H) : rIn K true (.str x) (.ref l) H Q := ⟨l, _, rfl, .inl h, rfl, flat_strs ss, by rw [if_pos rfl, inV_strs, decide_eq_true hx]; exact q⟩
theorem rd_niT (h : SqL K H l (ss.map V.str)) (hx : x ∉ ss) (q : Q (.bl true) H) : rIn K true (.str x) (.ref l) H Q := ⟨l, _, rfl, .inl h, rfl, flat_strs ss, by rw [if_pos rfl, inV_strs, decide_eq_false hx]; exact q⟩
theorem rd_it {a : Addr} {xs : List V} {i : Int} {v : V} (h : H a = some (.tup xs)) (e : atI xs i = some v) (q : Q v H) : rIxT K (.ref a) (.int i) H Q := ⟨a, xs, i, v, rfl, rfl, SqT.of h, e, q⟩
theorem rd_lenT {a : Addr} {xs : List V} (h : H a = some (.tup xs)) (q : Q (.int xs.length) H) : rLn K [.ref a] H Q := ⟨a, xs, rfl, .inr (SqT.of h), q⟩
theorem rd_lenL {a : Addr} {xs : List V} (h : H a = some (.lst xs)) (q : Q (.int xs.length) H) : rLn K [.ref a] H Q := ⟨a, xs, rfl, .inl (SqL.of h), q⟩
end
theorem Same.lst {H H' : Hp} (k : Same H H') {a : Addr} {xs : List V} (h : H a = some (.lst xs)) : H' a = some (.lst xs) := k _ _ h
theorem paired_at {α β : Type} {F : α → β → Prop} : ∀ {xs : List α} {ys : List β}, Paired F xs ys → ∀ {i : Nat} {x : α}, xs[i]? = some x → ∃ y, ys[i]? = some y ∧ F x y
  | _, _, .nil, i, x, h => by simp at h
  | _, _, .cons r t, 0, x, h => by simp at h; subst h; exact ⟨_, rfl, r⟩
  | _, _, .cons r t, i + 1, x, h => by
    obtain ⟨y, h1, h2⟩ := paired_at t (i := i) (x := x) (by simpa using h)
    exact ⟨y, by simpa using h1, h2⟩
theorem refs_at {as : List Addr} {i : Nat} {v : V} (h : (as.map V.ref)[i]? = some v) : ∃ a, v = .ref a ∧ as[i]? = some a := by
  rw [List.getElem?_map] at h
  cases e : as[i]? with
  | none => rw [e] at h; cases h
  | some a => rw [e] at h; exact ⟨a, (Option.some.inj h).symm, rfl⟩
theorem take_snoc {α : Type} {xs : List α} {i : Nat} {x : α} (h : xs[i]? = some x) : xs.take (i + 1) = xs.take i ++ [x] := by
  rw [List.take_add_one, h]; rfl
theorem nodup_at {α β : Type} {f : α → β} {xs : List α} (h : (xs.map f).Nodup) {i : Nat} {x : α} (hx : xs[i]? = some x) : f x ∉ (xs.take i).map f := by
  intro z
  obtain ⟨y, hy, e⟩ := List.mem_map.mp z
  obtain ⟨j, hj⟩ := List.mem_iff_getElem?.mp hy
  rw [List.getElem?_take] at hj
  split at hj
  · rename_i hji
    obtain ⟨h1, e1⟩ := List.getElem?_eq_some_iff.mp hx
    obtain ⟨h2, e2⟩ := List.getElem?_eq_some_iff.mp hj
    have q := List.pairwise_iff_getElem.mp h j i (by simpa using h2) (by simpa using h1) hji
    simp only [List.getElem_map, e1, e2] at q
    exact q e
  · cases hj
section
variable {P : Program} {w : World} {K : PySem.W.Frag} {mg : Str → Option Value} {base : Heap}
def spPlain : Sp := fun vs H Q _ => ∃ i, vs = [.int i] ∧ Q (.bl true) H
theorem ok_is_plain (T : Txt K mg) : Cal P w K mg base 1 "is_plain" spPlain := by
  have sc : FnScope ["value"] ["value"] (defScope s_is_plain) := ⟨rfl, rfl, rfl, by decide +kernel, rfl, by decide +kernel, by decide +kernel⟩
  refine ⟨fn_by (fd_is_plain T) sc (fun _ _ _ _ _ _ us hl => match us, hl with | [_], _ => rfl) ?_ fun cdv A outer s H vs Q E hr h => ?_, g_is_plain T, kp_of (fd_is_plain T)⟩
  · rintro vs H Q E ⟨i, rfl, _⟩; rfl
  · obtain ⟨i, rfl, k⟩ := h
    refine ⟨_, pss_one (ps_ret (pe_and (pe_is "int" T (pv 0) (b_int T)) (pe_one (pe_not (pe_is "bool" T (pv 0) (b_bool T)))))), ?_⟩
    exact ⟨_, rfl, rd_ii ⟨true, rfl, iteT ⟨_, rfl, rd_ib ⟨false, rfl, k⟩⟩⟩⟩
def spInteger : Sp := fun vs H Q _ => ∃ i lo hi, vs = [.int i, .int lo, .int hi] ∧ lo ≤ i ∧ i ≤ hi ∧ Q (.bl true) H
theorem ok_is_integer (T : Txt K mg) : Cal P w K mg base 1 "is_integer" spInteger := by
  have sc : FnScope ["value", "least", "most"] ["value", "least", "most"] (defScope s_is_integer) := ⟨rfl, rfl, rfl, by decide +kernel, rfl, by decide +kernel, by decide +kernel⟩
  refine ⟨fn_by (fd_is_integer T) sc (fun _ _ _ _ _ _ us hl => match us, hl with | [_, _, _], _ => rfl) ?_ fun cdv A outer s H vs Q E hr h => ?_, g_is_integer T, kp_of (fd_is_integer T)⟩
  · rintro vs H Q E ⟨i, lo, hi, rfl, _⟩; rfl
  · obtain ⟨i, lo, hi, rfl, h1, h2, k⟩ := h
    refine ⟨_, pss_one (ps_ret (pe_and (pe_is "int" T (pv 0) (b_int T)) (pe_and (pe_not (pe_is "bool" T (pv 0) (b_bool T))) (pe_one (pe_chain op_le op_le (pv 1) (pv 0) (pv 2)))))), ?_⟩
    exact ⟨_, rfl, rd_ii ⟨true, rfl, iteT ⟨_, rfl, rd_ib ⟨false, rfl, true, rfl, iteT ⟨_, rfl, _, rfl, _, _, rfl, rfl, _, rfl, it_dec h1 ⟨_, rfl, _, _, rfl, rfl, q_dec h2 k⟩⟩⟩⟩⟩⟩
/-- terms out of such sources -/
structure TermsOk (ss : List Str) (ts : Terms) : Prop where
  nd : (ts.map (·.1)).Nodup
  src : ∀ t ∈ ts, t.1 ∈ ss
  fac : ∀ t ∈ ts, -1000 ≤ t.2 ∧ t.2 ≤ 1000
  few : ts.length ≤ 4
def spTerms : Sp := fun vs H Q _ => ∃ a l ts ss, vs = [.ref a, .ref l] ∧ TermsAt H a ts ∧ H l = some (.lst (ss.map V.str)) ∧ TermsOk ss ts ∧ ∀ H', Same H H' → Q (.bl true) H'
theorem ok_is_terms (T : Txt K mg) : Cal P w K mg base 2 "is_terms" spTerms := by
  have sc : FnScope ["value", "sources", "known", "term"] ["value", "sources"] (defScope s_is_terms) := ⟨rfl, rfl, rfl, by decide +kernel, rfl, by decide +kernel, by decide +kernel⟩
  obtain ⟨t0, hfac⟩ := i_MOST_FACTOR T
  refine ⟨fn_by (fd_is_terms T) sc (fun _ _ _ _ _ _ us hl => match us, hl with | [_, _], _ => rfl) ?_ fun cdv A outer s H vs Q E hr h => ?_, g_is_terms T, kp_of (fd_is_terms T)⟩
  · rintro vs H Q E ⟨a, l, ts, ss, rfl, _⟩; rfl
  · obtain ⟨a, l, ts, ss, rfl, hT, hl, ok, k⟩ := h
    obtain ⟨as, ha, pr⟩ := hT
    refine ⟨_, pss_cons (ps_if (pt_not (pt_val (pe_is "tuple" T (pv 0) (b_tuple T)))) pss_never pss_nil)
      (pss_cons (ps_set (i := 2) sc.nd rfl (.inl rfl) (pe_lst pa_nil))
      (pss_cons (ps_for PassesOwn.never rfl (pi_tup (pv 0)) (pg_name (i := 3) sc.nd rfl (.inl rfl))
        (pss_cons (ps_if (PW.pt (pw_or (pt_not (pt_val (pe_is "tuple" T (pv 3) (b_tuple T)))) (pw_or1 (pt_cmpR op_ne (pe_b1 cr_ln (b_len T) (pv 3)) pe_int (nomark _))))) pss_never pss_nil)
        (pss_cons (ps_if (PW.pt (pw_or (pt_not (pt_val (pe_is "str" T (pe_ti (pv 3)) (b_str T)))) (pw_or (pt_cmpR op_notIn_seq (pe_ti (pv 3)) (pv 1) rfl)
            (pw_or1 (pt_cmpR op_in_seq (pe_ti (pv 3)) (pv 2) rfl))))) pss_never pss_nil)
        (pss_cons (ps_if (pt_not (pt_val (pe_c (ok_is_integer T) hr (pa_cons (pe_ti (pv 3)) (pa_cons (pe_op op_sub pe_int (pe_glob (v := .int 1000) rfl hfac ⟨_, rfl⟩)) (pa_cons (pe_glob (v := .int 1000) rfl hfac ⟨_, rfl⟩) pa_nil)))))) pss_never pss_nil)
        (pss_one (ps_expr (pe_bm PySem.F.plainAttrs_list PySem.F.slot_list_append PySem.F.type_list_append mt_append (pv 2) (pa_cons (pe_ti (pv 3)) pa_nil))))))))
      (pss_one (ps_ret pe_bl)))), ?_⟩
    refine ⟨_, rfl, rd_tt ha ⟨true, rfl, iteF ?_⟩⟩
    refine ⟨by show 0 ≤ sizeLine; decide, fun p hp => ?_⟩
    refine ⟨_, rfl, a, rfl, ⟨_, SqT.of (same_new _ hp _ _ ha)⟩, for_tup (K := K) (a := a) (xs := as.map V.ref) (fun i σ H2 => ∃ v, σ = [some (.ref a), some (.ref l), some (.ref p), v] ∧ Same H H2 ∧ H2 p = some (.lst ((ts.take i).map fun t => V.str t.1)))
      ⟨none, rfl, same_new _ hp, upd_same⟩ (fun i σ H2 _ ⟨v, _, s2, _⟩ => SqT.of (s2 _ _ ha)) ?_ ?_⟩
    · rintro i y σ H2 hi ⟨v, rfl, s2, hl2⟩
      obtain ⟨b, rfl, hb⟩ := refs_at hi
      obtain ⟨t, ht, tm⟩ := paired_at pr hb
      have mt : t ∈ ts := List.mem_of_getElem? ht
      have tb : H2 b = some (.tup [.str t.1, .int t.2]) := s2 _ _ tm
      have hl3 : H2 l = some (.lst (ss.map V.str)) := s2 _ _ hl
      have hk : H2 p = some (.lst (((ts.take i).map (·.1)).map V.str)) := by rw [List.map_map]; exact hl2
      refine ⟨_, rfl, rd_tt tb ⟨true, rfl, iteF ⟨_, rfl, rd_lenT tb ⟨rfl, _, rfl, iteF ?_⟩⟩⟩⟩
      refine ⟨_, rfl, rd_it tb rfl ?_⟩
      refine rd_ss ⟨true, rfl, iteF ⟨_, rfl, rd_it tb rfl ⟨_, rfl, rd_ni (SqL.of hl3) (ok.src t mt) ⟨_, rfl, iteF ⟨_, rfl, rd_it tb rfl ⟨_, rfl, rd_inF (SqL.of hk) (nodup_at ok.nd ht) ⟨_, rfl, iteF ?_⟩⟩⟩⟩⟩⟩⟩
      refine ⟨_, rfl, rd_it tb rfl ⟨_, _, rfl, rfl, _, _, _, rfl, by have := ok.fac t mt; omega, (ok.fac t mt).2, true, rfl, iteF ?_⟩⟩
      refine ⟨_, rfl, .inl ⟨rfl, _, SqL.of hl2⟩, _, rfl, rd_it tb rfl ?_⟩
      refine ⟨p, _, _, rfl, rfl, hl2, ?_, ?_⟩
      · rw [List.length_map, List.length_take]
        exact small1000 (by have := ok.few; omega)
      · refine ⟨_, rfl, Same.put s2 _ hp, ?_⟩
        rw [upd_same, take_snoc ht, List.map_append]
        rfl
    · rintro σ H2 ⟨v, rfl, s2, _⟩
      exact k H2 s2
end
end Tw
end

section
set_option Elab.async false
set_option linter.all false
set_option maxRecDepth 100000
set_option maxHeartbeats 4000000
/-! Looks at changes, rules, names, states, events. -/
namespace Tw
open PySem PySem.Spec PyProof.Rows L2
/-! ### fields -/
def rFd (K : PySem.W.Frag) (f : Str) (x : V) (H : Hp) (Q : VK) : Prop := ∃ a C dx fs v, x = .ref a ∧ H a = some (.ins C dx fs) ∧ Cls K C ∧ NoAttr K C f ∧ fs.lookup f = some v ∧ Q v H
def tFd (K : PySem.W.Frag) (f : Str) (ta : TE) : TE := fun σ H Q => ta σ H fun x H1 => rFd K f x H1 Q
theorem pe_f {X : Cx} {e : Expr} {ta : TE} {f : Str} {pos : Pos} (he : PE X e ta) (hb : attributeBase e f X.env (eval e X.env) = eval e X.env := by rfl) : PE X (.Attribute e f pos) (tFd X.K f ta) := pe_fld he hb
section
variable {K : PySem.W.Frag} {H : Hp} {Q : VK}
theorem rd_f {f : Str} {a C dx : Addr} {fs : List (Str × V)} {v : V} (h : H a = some (.ins C dx fs)) (c : Cls K C) (n : NoAttr K C f) (l : fs.lookup f = some v) (q : Q v H) : rFd K f (.ref a) H Q := ⟨a, C, dx, fs, v, rfl, h, c, n, l, q⟩
theorem rd_cat {a b : Addr} {xs ys : List V} (h1 : H a = some (.lst xs)) (h2 : H b = some (.lst ys)) (hl : xs.length + ys.length ≤ 1000) (q : ∀ p, H p = none → Q (.ref p) (upd H p (.lst (xs ++ ys)))) : rCat (.ref a) (.ref b) H Q :=
  ⟨a, b, xs, ys, rfl, rfl, h1, h2, Nat.le_of_lt (small1000 hl), q⟩
end
/-! ### slices of lists -/
theorem cut_take {xs : List V} (i : Nat) : cutV xs none (some (i : Int)) = xs.take i := by
  unfold cutV
  rw [HT.sIx_none, HT.sIx_nat, List.drop_zero, Nat.sub_zero]
  by_cases h : i ≤ xs.length
  · rw [Nat.min_eq_left h]
  · rw [Nat.min_eq_right (by omega), List.take_length, List.take_of_length_le (by omega)]
theorem cut_drop {xs : List V} (i : Nat) : cutV xs (some (i : Int)) none = xs.drop i := by
  unfold cutV
  rw [HT.sIx_none, HT.sIx_nat]
  by_cases h : i ≤ xs.length
  · rw [Nat.min_eq_left h, List.take_of_length_le (by rw [List.length_drop]; omega)]
  · rw [Nat.min_eq_right (by omega), List.drop_of_length_le (by omega : xs.length ≤ i), List.drop_length, List.take_nil]
/-! ### len of a text -/
def rLs : List V → Hp → VK → Prop := fun xs H Q => ∃ z, xs = [.str z] ∧ z.length ≤ sizeLine ∧ Q (.int z.length) H
theorem cr_ls {X : Cx} : CallR X (.builtin "len") rLs := call_len_str
abbrev amtS : Str := "amount"
abbrev oneS : Str := "one"
abbrev lk (fs : List (Str × V)) (x : Str) : Option V := fs.lookup x
/-! ### what is right -/
structure ChangesOk (regs : List Str) (cs : List (Str × Terms)) : Prop where
  nd : (cs.map (·.1)).Nodup
  reg : ∀ c ∈ cs, c.1 ∈ regs
  ok : ∀ c ∈ cs, TermsOk (regs ++ [amtS, oneS]) c.2
  few : cs.length ≤ 4
structure RuleOk (sp : TwM.Spec Str) (r : TwM.Rule Str) : Prop where
  mode : r.mode ∈ sp.modes
  sign : r.sign ∈ sp.signs
  goal : r.goal ∈ sp.modes
  ch : ChangesOk sp.registers r.changes
def letters : Str := "abcdefghijklmnopqrstuvwxyz"
structure NameOk (s : Str) : Prop where
  lo : 1 ≤ s.length
  hi : s.length ≤ 6
  amt : s ≠ "amount"
  one : s ≠ "one"
  let_ : ∀ c ∈ s.cps.toList, c ∈ letters.cps.toList
section
variable {P : Program} {w : World} {K : PySem.W.Frag} {mg : Str → Option Value} {base : Heap}
def spChanges : Sp := fun vs H Q _ => ∃ a l cs regs, vs = [.ref a, .ref l] ∧ ChangesAt H a cs ∧ H l = some (.lst (regs.map V.str)) ∧ regs.length ≤ 4 ∧ ChangesOk regs cs ∧ ∀ H', Same H H' → Q (.bl true) H'
theorem ok_is_changes (T : Txt K mg) : Cal P w K mg base 3 "is_changes" spChanges := by
  have sc : FnScope ["value", "registers", "known", "change"] ["value", "registers"] (defScope s_is_changes) := ⟨rfl, rfl, rfl, by decide +kernel, rfl, by decide +kernel, by decide +kernel⟩
  refine ⟨fn_by (fd_is_changes T) sc (fun _ _ _ _ _ _ us hl => match us, hl with | [_, _], _ => rfl) ?_ fun cdv A outer s H vs Q E hr h => ?_, g_is_changes T, kp_of (fd_is_changes T)⟩
  · rintro vs H Q E ⟨a, l, ts, ss, rfl, _⟩; rfl
  · obtain ⟨a, l, cs, regs, rfl, hT, hl, hn, ok, k⟩ := h
    obtain ⟨as, ha, pr⟩ := hT
    refine ⟨_, pss_cons (ps_if (pt_not (pt_val (pe_is "tuple" T (pv 0) (b_tuple T)))) pss_never pss_nil)
      (pss_cons (ps_set (i := 2) sc.nd rfl (.inl rfl) (pe_lst pa_nil))
      (pss_cons (ps_for PassesOwn.never rfl (pi_tup (pv 0)) (pg_name (i := 3) sc.nd rfl (.inl rfl))
        (pss_cons (ps_if (PW.pt (pw_or (pt_not (pt_val (pe_is "tuple" T (pv 3) (b_tuple T)))) (pw_or1 (pt_cmpR op_ne (pe_b1 cr_ln (b_len T) (pv 3)) pe_int (nomark _))))) pss_never pss_nil)
        (pss_cons (ps_if (PW.pt (pw_or (pt_not (pt_val (pe_is "str" T (pe_ti (pv 3)) (b_str T)))) (pw_or (pt_cmpR op_notIn_seq (pe_ti (pv 3)) (pv 1) rfl)
            (pw_or1 (pt_cmpR op_in_seq (pe_ti (pv 3)) (pv 2) rfl))))) pss_never pss_nil)
        (pss_cons (ps_if (pt_not (pt_val (pe_c (ok_is_terms T) hr (pa_cons (pe_ti (pv 3)) (pa_cons (pe_op op_cat (pv 1) (pe_lst (pa_cons pe_str (pa_cons pe_str pa_nil)))) pa_nil))))) pss_never pss_nil)
        (pss_one (ps_expr (pe_bm PySem.F.plainAttrs_list PySem.F.slot_list_append PySem.F.type_list_append mt_append (pv 2) (pa_cons (pe_ti (pv 3)) pa_nil))))))))
      (pss_one (ps_ret pe_bl)))), ?_⟩
    refine ⟨_, rfl, rd_tt ha ⟨true, rfl, iteF ?_⟩⟩
    refine ⟨by show 0 ≤ sizeLine; decide, fun p hp => ?_⟩
    refine ⟨_, rfl, a, rfl, ⟨_, SqT.of (same_new _ hp _ _ ha)⟩, for_tup (K := K) (a := a) (xs := as.map V.ref) (fun i σ H2 => ∃ v, σ = [some (.ref a), some (.ref l), some (.ref p), v] ∧ Same H H2 ∧ H2 p = some (.lst ((cs.take i).map fun t => V.str t.1)))
      ⟨none, rfl, same_new _ hp, upd_same⟩ (fun i σ H2 _ ⟨v, _, s2, _⟩ => SqT.of (s2 _ _ ha)) ?_ ?_⟩
    · rintro i y σ H2 hi ⟨v, rfl, s2, hl2⟩
      obtain ⟨b, rfl, hb⟩ := refs_at hi
      obtain ⟨t, ht, d, tm, td⟩ := paired_at pr hb
      have mt : t ∈ cs := List.mem_of_getElem? ht
      have tb : H2 b = some (.tup [.str t.1, .ref d]) := s2 _ _ tm
      have td2 : TermsAt H2 d t.2 := td.tk (Same.tk s2)
      have hl3 : H2 l = some (.lst (regs.map V.str)) := s2 _ _ hl
      have hk : H2 p = some (.lst (((cs.take i).map (·.1)).map V.str)) := by rw [List.map_map]; exact hl2
      refine ⟨_, rfl, rd_tt tb ⟨true, rfl, iteF ⟨_, rfl, rd_lenT tb ⟨rfl, _, rfl, iteF ?_⟩⟩⟩⟩
      refine ⟨_, rfl, rd_it tb rfl ?_⟩
      refine rd_ss ⟨true, rfl, iteF ⟨_, rfl, rd_it tb rfl ⟨_, rfl, rd_ni (SqL.of hl3) (ok.reg t mt) ⟨_, rfl, iteF ⟨_, rfl, rd_it tb rfl ⟨_, rfl, rd_inF (SqL.of hk) (nodup_at ok.nd ht) ⟨_, rfl, iteF ?_⟩⟩⟩⟩⟩⟩⟩
      refine ⟨_, rfl, rd_it tb rfl ⟨_, rfl, by show 2 ≤ sizeLine; decide, fun q1 hq1 => ?_⟩⟩
      refine rd_cat (same_new _ hq1 _ _ hl3) upd_same (by rw [List.length_map]; show regs.length + 2 ≤ 1000; omega) fun q2 hq2 => ?_
      have s3 : Same H2 (upd (upd H2 q1 (.lst [.str "amount", .str "one"])) q2 (.lst (regs.map V.str ++ [.str "amount", .str "one"]))) := Same.new (same_new _ hq1) _ hq2
      refine ⟨d, q2, t.2, regs ++ [amtS, oneS], rfl, td2.tk (Same.tk s3), by rw [upd_same, List.map_append]; rfl, ok.ok t mt, fun H3 s4 => ?_⟩
      have s5 : Same H2 H3 := s3.trans s4
      refine ⟨true, rfl, iteF ?_⟩
      refine ⟨_, rfl, .inl ⟨rfl, _, SqL.of (s5 _ _ hl2)⟩, _, rfl, rd_it (s5 _ _ tb) rfl ?_⟩
      refine ⟨p, _, _, rfl, rfl, s5 _ _ hl2, ?_, ?_⟩
      · rw [List.length_map, List.length_take]
        exact small1000 (by have := ok.few; omega)
      · refine ⟨_, rfl, Same.put (s2.trans s5) _ hp, ?_⟩
        rw [upd_same, take_snoc ht, List.map_append]
        rfl
    · rintro σ H2 ⟨v, rfl, s2, _⟩
      exact k H2 s2
/-- a program under way: the three lists are set -/
structure Pre (K : PySem.W.Frag) (H : Hp) (p : Addr) (sp : TwM.Spec Str) : Prop where
  ex : ∃ (dx : Addr) (fs : List (Str × V)) (am ar as_ : Addr), H p = some (.ins (He.ga K "Program") dx fs) ∧ lk fs "own_modes" = some (.ref am) ∧ lk fs "own_registers" = some (.ref ar) ∧ lk fs "own_signs" = some (.ref as_) ∧
    H am = some (.lst (sp.modes.map V.str)) ∧ H ar = some (.lst (sp.registers.map V.str)) ∧ H as_ = some (.lst (sp.signs.map V.str)) ∧ lk fs "is_rule" = none
  few : sp.registers.length ≤ 4
def spRule (K : PySem.W.Frag) : Sp := fun vs H Q _ => ∃ p a sp r, vs = [.ref p, .ref a] ∧ Pre K H p sp ∧ RuleAt H a r ∧ RuleOk sp r ∧ ∀ H', Same H H' → Q (.bl true) H'
theorem ok_is_rule (T : Txt K mg) : Met P w K mg base 4 "Program" "is_rule" (spRule K) := by
  have sc : FnScope ["self", "value", "name", "names"] ["self", "value"] (defScope s_Program_is_rule) := ⟨rfl, rfl, rfl, by decide +kernel, rfl, by decide +kernel, by decide +kernel⟩
  refine ⟨fn_by (fd_Program_is_rule T) sc (fun _ _ _ _ _ _ us hl => match us, hl with | [_, _], _ => rfl) ?_ fun cdv A outer s H vs Q E hr h => ?_, c_Program T, m_Program_is_rule T⟩
  · rintro vs H Q E ⟨a, l, ts, ss, rfl, _⟩; rfl
  · obtain ⟨p, a, sp, r, rfl, ⟨⟨dx, fs, am, ar, as_, hp, lm, lr, ls, hm, hrg, hs, _⟩, few⟩, ⟨b, ha, hch⟩, ok, k⟩ := h
    refine ⟨_, pss_cons (ps_if (PW.pt (pw_or (pt_not (pt_val (pe_is "tuple" T (pv 1) (b_tuple T)))) (pw_or1 (pt_cmpR op_ne (pe_b1 cr_ln (b_len T) (pv 1)) pe_int (nomark _))))) pss_never pss_nil)
      (pss_cons (ps_for PassesOwn.never rfl (pi_list (pe_lst (pa_cons (pe_tup (pa_cons (pe_ti (pv 1)) (pa_cons (pe_f (pv 0)) pa_nil))) (pa_cons (pe_tup (pa_cons (pe_ti (pv 1)) (pa_cons (pe_f (pv 0)) pa_nil)))
          (pa_cons (pe_tup (pa_cons (pe_ti (pv 1)) (pa_cons (pe_f (pv 0)) pa_nil))) pa_nil))))) (pg_tup rfl (pgs_cons (pg_name (i := 2) sc.nd rfl (.inl rfl)) (pgs_cons (pg_name (i := 3) sc.nd rfl (.inl rfl)) pgs_nil)))
        (pss_one (ps_if (PW.pt (pw_or (pt_not (pt_val (pe_is "str" T (pv 2) (b_str T)))) (pw_or1 (pt_cmpR op_notIn_seq (pv 2) (pv 3) rfl)))) pss_never pss_nil)))
      (pss_one (ps_ret (pe_c (ok_is_changes T) hr (pa_cons (pe_ti (pv 1)) (pa_cons (pe_f (pv 0)) pa_nil)))))), ?_⟩
    refine ⟨_, rfl, rd_tt ha ⟨true, rfl, iteF ⟨_, rfl, rd_lenT ha ⟨rfl, _, rfl, iteF ?_⟩⟩⟩⟩
    refine ⟨_, rfl, rd_it ha rfl ⟨_, rfl, rd_f hp (c_Program T) (n_Program_own_modes T) lm ⟨by show 2 ≤ sizeLine; decide, fun p1 h1 => ?_⟩⟩⟩
    have s1 : Same H _ := same_new (.tup [V.str r.mode, V.ref am]) h1
    refine ⟨_, rfl, rd_it (s1 _ _ ha) rfl ⟨_, rfl, rd_f (s1 _ _ hp) (c_Program T) (n_Program_own_signs T) ls ⟨by show 2 ≤ sizeLine; decide, fun p2 h2 => ?_⟩⟩⟩
    have s2 : Same H _ := Same.new s1 (.tup [V.str r.sign, V.ref as_]) h2
    refine ⟨_, rfl, rd_it (s2 _ _ ha) rfl ⟨_, rfl, rd_f (s2 _ _ hp) (c_Program T) (n_Program_own_modes T) lm ⟨by show 2 ≤ sizeLine; decide, fun p3 h3 => ?_⟩⟩⟩
    have s3 : Same H _ := Same.new s2 (.tup [V.str r.goal, V.ref am]) h3
    refine ⟨by show 3 ≤ sizeLine; decide, fun l hl => ?_⟩
    have t3 : ∀ {H2 : Hp}, Same (upd (upd (upd H p1 (.tup [V.str r.mode, V.ref am])) p2 (.tup [V.str r.sign, V.ref as_])) p3 (.tup [V.str r.goal, V.ref am])) H2 →
        H2 p1 = some (.tup [V.str r.mode, V.ref am]) ∧ H2 p2 = some (.tup [V.str r.sign, V.ref as_]) ∧ H2 p3 = some (.tup [V.str r.goal, V.ref am]) := fun {H2} z =>
      ⟨z _ _ (same_new _ h3 _ _ (same_new _ h2 _ _ upd_same)), z _ _ (same_new _ h3 _ _ upd_same), z _ _ upd_same⟩
    refine ⟨l, rfl, ⟨_, SqL.of upd_same⟩, for_list (K := K) (a := l) (xs := [.ref p1, .ref p2, .ref p3]) (fun i σ H2 => ∃ v v', σ = [some (.ref p), some (.ref a), v, v'] ∧
        H2 = upd (upd (upd (upd H p1 (.tup [V.str r.mode, V.ref am])) p2 (.tup [V.str r.sign, V.ref as_])) p3 (.tup [V.str r.goal, V.ref am])) l (.lst [.ref p1, .ref p2, .ref p3]))
      ⟨none, none, rfl, rfl⟩ (fun i σ H2 _ ⟨v, _, _, e⟩ => by rw [e]; exact SqL.of upd_same) ?_ ?_⟩
    · rintro i y σ H2 hi ⟨v, v', rfl, rfl⟩
      have s4 := Same.new s3 (.lst [.ref p1, .ref p2, .ref p3]) hl
      obtain ⟨q1, q2, q3⟩ := t3 (same_new (.lst [.ref p1, .ref p2, .ref p3]) hl)
      have key : ∃ (t : Addr) (nm : Str) (ad : Addr) (ss : List Str), y = .ref t ∧ (upd (upd (upd (upd H p1 (.tup [V.str r.mode, V.ref am])) p2 (.tup [V.str r.sign, V.ref as_])) p3 (.tup [V.str r.goal, V.ref am])) l (.lst [.ref p1, .ref p2, .ref p3])) t = some (.tup [.str nm, .ref ad]) ∧
          H ad = some (.lst (ss.map V.str)) ∧ nm ∈ ss := by
        match i, hi with
        | 0, hi => exact ⟨p1, _, _, _, (Option.some.inj hi).symm, q1, hm, ok.mode⟩
        | 1, hi => exact ⟨p2, _, _, _, (Option.some.inj hi).symm, q2, hs, ok.sign⟩
        | 2, hi => exact ⟨p3, _, _, _, (Option.some.inj hi).symm, q3, hm, ok.goal⟩
        | _ + 3, hi => simp at hi
      obtain ⟨t, nm, ad, ss, rfl, e1, e2, e3⟩ := key
      refine ⟨t, [.str nm, .ref ad], rfl, SqT.of e1, rfl, _, _, rfl, _, _, rfl, rfl, ?_⟩
      exact ⟨_, rfl, rd_ss ⟨true, rfl, iteF ⟨_, rfl, _, rfl, rd_ni (SqL.of (s4 _ _ e2)) e3 ⟨_, rfl, iteF ⟨_, _, rfl, rfl⟩⟩⟩⟩⟩
    · rintro σ H2 ⟨v, v', rfl, rfl⟩
      have s4 := Same.new s3 (.lst [.ref p1, .ref p2, .ref p3]) hl
      refine ⟨_, rfl, rd_it (s4 _ _ ha) rfl ⟨_, rfl, rd_f (s4 _ _ hp) (c_Program T) (n_Program_own_registers T) lr ?_⟩⟩
      exact ⟨b, ar, r.changes, sp.registers, rfl, hch.tk (Same.tk s4), s4 _ _ hrg, few, ok.ch, fun H' s5 => k H' (s4.trans s5)⟩
end
end Tw
end

section
set_option Elab.async false
set_option linter.all false
set_option maxRecDepth 100000
set_option maxHeartbeats 4000000
/-! Names, programs as they stand, states, events. -/
namespace Tw
open PySem PySem.Spec PyProof.Rows L2
/-! ### a program as it stands -/
def progFs (am ar as_ al ad : Addr) : List (Str × V) := [("own_modes", .ref am), ("own_registers", .ref ar), ("own_signs", .ref as_), ("own_rules", .ref al), ("by_pair", .ref ad)]
abbrev progKeys : List Str := ["own_modes", "own_registers", "own_signs", "own_rules", "by_pair"]
theorem lookup_no {fs : List (Str × V)} {m : Str} (h : (fs.map (·.1)).contains m = false) : fs.lookup m = none := by
  induction fs with
  | nil => rfl
  | cons f r ih =>
    rw [List.map_cons, List.contains_cons, Bool.or_eq_false_iff] at h
    rw [List.lookup_cons, h.1]
    exact ih h.2
theorem prog_no {am ar as_ al ad : Addr} {m : Str} (h : progKeys.contains m = false) : (progFs am ar as_ al ad).lookup m = none := lookup_no h
section
variable {am ar as_ al ad : Addr}
theorem prog_modes : (progFs am ar as_ al ad).lookup ("own_modes" : Str) = some (.ref am) := by kernel_rfl
theorem prog_registers : (progFs am ar as_ al ad).lookup ("own_registers" : Str) = some (.ref ar) := by kernel_rfl
theorem prog_signs : (progFs am ar as_ al ad).lookup ("own_signs" : Str) = some (.ref as_) := by kernel_rfl
theorem prog_rules : (progFs am ar as_ al ad).lookup ("own_rules" : Str) = some (.ref al) := by kernel_rfl
theorem prog_pair : (progFs am ar as_ al ad).lookup ("by_pair" : Str) = some (.ref ad) := by kernel_rfl
end
/-- the dict of the rules -/
def pairsOf (rs : List (TwM.Rule Str)) (as : List Addr) : List (List Key × V) := List.zipWith (fun r a => ([Sum.inr r.mode, Sum.inr r.sign], V.ref a)) rs as
structure SpecOk (sp : TwM.Spec Str) : Prop where
  modes : sp.modes.Nodup ∧ 1 ≤ sp.modes.length ∧ sp.modes.length ≤ 3 ∧ ∀ x ∈ sp.modes, NameOk x
  regs : sp.registers.Nodup ∧ sp.registers.length ≤ 2 ∧ ∀ x ∈ sp.registers, NameOk x
  signs : sp.signs.Nodup ∧ 1 ≤ sp.signs.length ∧ sp.signs.length ≤ 2 ∧ ∀ x ∈ sp.signs, NameOk x
  wide : sp.modes.length * (sp.registers.length + 1) ≤ 3
  rules : ∀ r ∈ sp.rules, RuleOk sp r
  pairs : (sp.rules.map fun r => (r.mode, r.sign)).Nodup
  few : sp.rules.length ≤ 100
structure ProgAt (K : PySem.W.Frag) (H : Hp) (p : Addr) (sp : TwM.Spec Str) : Prop where
  ex : ∃ (dx am ar as_ al ad : Addr) (as : List Addr), H p = some (.ins (He.ga K "Program") dx (progFs am ar as_ al ad)) ∧ H am = some (.lst (sp.modes.map V.str)) ∧ H ar = some (.lst (sp.registers.map V.str)) ∧
    H as_ = some (.lst (sp.signs.map V.str)) ∧ H ad = some (.dT (pairsOf sp.rules as)) ∧ Paired (RuleAt H) as sp.rules
  ok : SpecOk sp
theorem ProgAt.same {K : PySem.W.Frag} {H H' : Hp} {p : Addr} {sp : TwM.Spec Str} (h : ProgAt K H p sp) (k : Same H H') : ProgAt K H' p sp := by
  obtain ⟨⟨dx, am, ar, as_, al, ad, as, h1, h2, h3, h4, h5, h6⟩, ok⟩ := h
  exact ⟨⟨dx, am, ar, as_, al, ad, as, k _ _ h1, k _ _ h2, k _ _ h3, k _ _ h4, k _ _ h5, Paired.imp (fun _ _ => RuleAt.tk (Same.tk k)) h6⟩, ok⟩
theorem ProgAt.kp {K : PySem.W.Frag} {H H' : Hp} {p : Addr} {sp : TwM.Spec Str} (h : ProgAt K H p sp) (k : Kp H H') : ProgAt K H' p sp := by
  obtain ⟨⟨dx, am, ar, as_, al, ad, as, h1, h2, h3, h4, h5, h6⟩, ok⟩ := h
  exact ⟨⟨dx, am, ar, as_, al, ad, as, k _ _ h1 rfl, k _ _ h2 (bagO_strs _), k _ _ h3 (bagO_strs _), k _ _ h4 (bagO_strs _), k _ _ h5 rfl, Paired.imp (fun _ _ => RuleAt.tk k.tk) h6⟩, ok⟩
/-- events as they stand -/
def EventAt (H : Hp) (a : Addr) (e : TwM.Event Str) : Prop := H a = some (.tup [.str e.1, .int e.2])
def EventsAt (H : Hp) (a : Addr) (es : List (TwM.Event Str)) : Prop := ∃ as : List Addr, H a = some (.lst (as.map V.ref)) ∧ Paired (EventAt H) as es
theorem EventsAt.same {H H' : Hp} {a : Addr} {es : List (TwM.Event Str)} (h : EventsAt H a es) (k : Same H H') : EventsAt H' a es := let ⟨as, h1, h2⟩ := h; ⟨as, k _ _ h1, Paired.imp (fun _ _ z => k _ _ z) h2⟩
theorem EventsAt.kp {H H' : Hp} {a : Addr} {es : List (TwM.Event Str)} (h : EventsAt H a es) (k : Kp H H') : EventsAt H' a es := let ⟨as, h1, h2⟩ := h; ⟨as, k _ _ h1 (bagO_refs _), Paired.imp (fun _ _ z => k _ _ z rfl) h2⟩
structure EventOk (sg : List Str) (e : TwM.Event Str) : Prop where
  sign : e.1 ∈ sg
  lo : -1000000000000 ≤ e.2
  hi : e.2 ≤ 1000000000000
section
variable {P : Program} {w : World} {K : PySem.W.Frag} {mg : Str → Option Value} {base : Heap}
theorem rd_all {H : Hp} {Q : VK} {a : Addr} {n : Nat} (h : H a = some (.lst ((List.replicate n true).map V.bl))) (q : Q (.bl true) H) : rAll K [.ref a] H Q :=
  ⟨a, _, rfl, SqL.of h, by rw [show (List.replicate n true).all id = true by rw [List.all_replicate]; split <;> rfl]; exact q⟩
def spName : Sp := fun vs H Q _ => ∃ x, vs = [.str x] ∧ NameOk x ∧ ∀ H', Same H H' → Q (.bl true) H'
theorem rd_res (T : Txt K mg) {H : Hp} {Q : VK} {x : Str} (h1 : x ≠ amtS) (h2 : x ≠ oneS) (q : Q (.bl true) H) : rIn K true (.str x) (.ref (He.ga K "RESERVED")) H Q := by
  have e := (Bool.and_eq_true_iff.mp (show (He.tupB K "RESERVED" [.str amtS, .str oneS] && PySem.W.fnIn K (He.ma K (He.ga K "Probe") "__call__")) = true from T.ex)).1
  refine ⟨_, [.str amtS, .str oneS], rfl, .inr (He.tupB_ok e H), rfl, rfl, ?_⟩
  have z : inV (.str x) [.str amtS, .str oneS] = false := by
    have := inV_strs (x := x) (ss := [amtS, oneS])
    rw [show [V.str amtS, V.str oneS] = [amtS, oneS].map V.str from rfl, this]
    simp [h1, h2]
  rw [z]
  exact q
theorem ok_is_name (T : Txt K mg) : Cal P w K mg base 1 "is_name" spName := by
  have sc : FnScope ["value", "sign"] ["value"] (defScope s_is_name) := ⟨rfl, rfl, rfl, by decide +kernel, rfl, by decide +kernel, by decide +kernel⟩
  refine ⟨fn_by (fd_is_name T) sc (fun _ _ _ _ _ _ us hl => match us, hl with | [_], _ => rfl) ?_ fun cdv A outer s H vs Q E hr h => ?_, g_is_name T, kp_of (fd_is_name T)⟩
  · rintro vs H Q E ⟨i, rfl, _⟩; rfl
  · obtain ⟨x, rfl, ok, k⟩ := h
    refine ⟨_, pss_one (ps_ret (pe_and (pe_is "str" T (pv 0) (b_str T)) (pe_and (pe_chain op_le op_le pe_int (pe_b1 cr_ls (b_len T) (pv 0)) pe_int) (pe_and (pe_cc op_notIn_seq (pv 0) (pe_glob (v := .ref (He.ga K "RESERVED")) rfl (g_RESERVED T) rfl) rfl)
      (pe_one (pe_b1 (cr_all rfl) (b_all T) (pe_lc (own := [("sign", 1)]) (g := gName 1) (tt := tYes) rfl sc.nd (pi_str (pv 0)) (blkOk_by (N := ["value", "sign"]) (sc := defScope s_is_name) (by decide +kernel)) (fun _ _ _ _ _ => pg_name (i := 1) sc.nd rfl (Or.inl rfl)) (fun _ _ _ _ _ => pts_nil)
        (fun _ _ _ _ _ => pe_cmpR op_in_sign (pv 1) pe_str rfl)))))))), ?_⟩
    refine ⟨_, rfl, rd_ss ⟨true, rfl, iteT ⟨_, rfl, ⟨x, rfl, Nat.le_trans ok.hi (by decide), ?_⟩⟩⟩⟩
    have h1 := ok.lo
    have h2 := ok.hi
    refine ⟨_, _, rfl, rfl, _, rfl, it_dec (by omega) ⟨_, _, rfl, rfl, _, rfl, it_dec (by omega) ⟨_, rfl, rd_res T ok.amt ok.one ⟨true, rfl, iteT ?_⟩⟩⟩⟩
    refine ⟨_, rfl, _, rfl, fun D hD => lc_it walk_str (fun i H2 => Same H H2 ∧ H2 D = some (.lst ((List.replicate i true).map V.bl))) ⟨same_new _ hD, upd_same⟩ (fun _ _ _ _ => True.intro) ?_ ?_⟩
    · rintro i v H2 H3 hi ⟨s2, hd⟩ ⟨rfl, c, hc, rfl⟩
      refine ⟨rfl, _, rfl, c, letters, rfl, rfl, ?_⟩
      have hm : c ∈ letters.cps.toList := ok.let_ c (by rw [Array.mem_toList_iff]; exact Array.mem_of_getElem? hc)
      refine ⟨_, hd, ?_, Same.put s2 _ hD, ?_⟩
      · rw [List.length_map, List.length_replicate]
        have : x.cps.size ≤ 6 := ok.hi
        exact small1000 (by omega)
      · rw [upd_same, decide_eq_true hm, List.replicate_succ', List.map_append]
        rfl
    · rintro H2 ⟨s2, hd⟩
      exact rd_all hd (k H2 s2)
end
end Tw
end

section
set_option Elab.async false
set_option linter.all false
set_option maxRecDepth 100000
set_option maxHeartbeats 4000000
/-! check_names, the lists, states, events. -/
namespace Tw
open PySem PySem.Spec PyProof.Rows L2
theorem strs_at {as : List Str} {i : Nat} {v : V} (h : (as.map V.str)[i]? = some v) : ∃ a, v = .str a ∧ as[i]? = some a := by
  rw [List.getElem?_map] at h
  obtain ⟨x, hx, rfl⟩ := Option.map_eq_some_iff.mp h
  exact ⟨x, rfl, hx⟩
theorem ints_at {as : List Int} {i : Nat} {v : V} (h : (as.map V.int)[i]? = some v) : ∃ a, v = .int a ∧ as[i]? = some a := by
  rw [List.getElem?_map] at h
  obtain ⟨x, hx, rfl⟩ := Option.map_eq_some_iff.mp h
  exact ⟨x, rfl, hx⟩
section
variable {P : Program} {w : World} {K : PySem.W.Frag} {mg : Str → Option Value} {base : Heap}
/-- list(xs) -/
def rLi (K : PySem.W.Frag) : List V → Hp → VK → Prop := fun xs H Q => ∃ p ys, xs = [.ref p] ∧ (SqL K H p ys ∨ SqT K H p ys) ∧ ∀ l, H l = none → Q (.ref l) (upd H l (.lst ys))
theorem cr_li {X : Cx} : CallR X (.type "list") (rLi X.K) := call_list_of
theorem rd_li {H : Hp} {Q : VK} {a : Addr} {xs : List V} (h : H a = some (.lst xs)) (q : ∀ l, H l = none → Q (.ref l) (upd H l (.lst xs))) : rLi K [.ref a] H Q := ⟨a, xs, rfl, .inl (SqL.of h), q⟩
theorem rd_liT {H : Hp} {Q : VK} {a : Addr} {xs : List V} (h : H a = some (.tup xs)) (q : ∀ l, H l = none → Q (.ref l) (upd H l (.lst xs))) : rLi K [.ref a] H Q := ⟨a, xs, rfl, .inr (SqT.of h), q⟩
def spChkNames : Sp := fun vs H Q _ => ∃ a xs, vs = [.ref a] ∧ H a = some (.lst xs) ∧ (∀ v ∈ xs, ∃ (m : Addr) (ss : List Str), v = .ref m ∧ H m = some (.lst (ss.map V.str)) ∧ ss.Nodup ∧ ss.length ≤ 100 ∧ ∀ x ∈ ss, NameOk x) ∧ ∀ H', Same H H' → Q .non H'
theorem ok_check_names (T : Txt K mg) : Cal P w K mg base 2 "check_names" spChkNames := by
  have sc : FnScope ["lists", "names", "name", "index"] ["lists"] (defScope s_check_names) := ⟨rfl, rfl, rfl, by decide +kernel, rfl, by decide +kernel, by decide +kernel⟩
  refine ⟨fn_by (fd_check_names T) sc (fun _ _ _ _ _ _ us hl => match us, hl with | [_], _ => rfl) ?_ fun cdv A outer s H vs Q E hr h => ?_, g_check_names T, kp_of (fd_check_names T)⟩
  · rintro vs H Q E ⟨a, xs, rfl, _⟩; rfl
  · obtain ⟨a, xs, rfl, ha, hx, k⟩ := h
    refine ⟨_, pss_cons (ps_for PassesOwn.never rfl (pi_list (pv 0)) (pg_name (i := 1) sc.nd rfl (.inl rfl))
        (pss_cons (ps_if (pt_not (pt_val (pe_isLT T (pv 1)))) pss_never pss_nil)
        (pss_one (ps_for PassesOwn.never rfl (pi_list (pv 1)) (pg_name (i := 2) sc.nd rfl (.inl rfl))
          (pss_one (ps_if (pt_not (pt_val (pe_c (ok_is_name T) hr (pa_cons (pv 2) pa_nil)))) pss_never pss_nil))))))
      (pss_one (ps_for PassesOwn.never rfl (pi_list (pv 0)) (pg_name (i := 1) sc.nd rfl (.inl rfl))
        (pss_one (ps_for PassesOwn.never rfl (pi_enum (by rfl) (b_enumerate T) (pa_cons (pv 1) pa_nil)) (pg_tup rfl (pgs_cons (pg_name (i := 3) sc.nd rfl (.inl rfl)) (pgs_cons (pg_name (i := 2) sc.nd rfl (.inl rfl)) pgs_nil)))
          (pss_one (ps_if (pt_cmpR op_in_seq (pv 2) (pe_slice sl_list (pv 1) po_none (po_some (pv 3))) rfl) pss_never pss_nil)))))), ?_⟩
    refine ⟨_, rfl, a, rfl, ⟨_, SqL.of ha⟩, for_it (walk_list (xs := xs)) (fun i σ H2 => ∃ v v' v'', σ = [some (.ref a), v, v', v''] ∧ Same H H2) ⟨_, _, _, rfl, Same.refl H⟩ (fun i σ H2 _ ⟨_, _, _, _, s2⟩ => SqL.of (s2 _ _ ha)) ?_ ?_⟩
    · rintro i y σ H2 H3 hi ⟨v, v', v'', rfl, s2⟩ ⟨rfl, hy⟩
      obtain ⟨m, ss, rfl, hm, nd, hl, ok⟩ := hx y (List.mem_of_getElem? hy)
      refine ⟨_, rfl, rd_LTl (s2 _ _ hm) fun q hq => ⟨true, rfl, iteF ?_⟩⟩
      have s3 := Same.new s2 (.tup [V.ty "list", V.ty "tuple"]) hq
      refine ⟨_, rfl, m, rfl, ⟨_, SqL.of (s3 _ _ hm)⟩, for_it (walk_list (xs := ss.map V.str)) (fun i σ H2 => ∃ v v', σ = [some (.ref a), some (.ref m), v, v'] ∧ Same H H2) ⟨_, _, rfl, s3⟩ (fun i σ H2 _ ⟨_, _, _, s4⟩ => SqL.of (s4 _ _ hm)) ?_ ?_⟩
      · rintro j z σ H4 H5 hj ⟨v, v', rfl, s4⟩ ⟨rfl, hz⟩
        rw [List.getElem?_map] at hz
        obtain ⟨x, hx2, rfl⟩ := Option.map_eq_some_iff.mp hz
        exact ⟨_, rfl, x, rfl, ok x (List.mem_of_getElem? hx2), fun H' s5 => ⟨true, rfl, iteF ⟨_, _, rfl, s4.trans s5⟩⟩⟩
      · rintro σ H4 ⟨v, v', rfl, s4⟩
        exact ⟨_, _, _, rfl, s4⟩
    · rintro σ H2 ⟨v, v', v'', rfl, s2⟩
      refine ⟨_, rfl, a, rfl, ⟨_, SqL.of (s2 _ _ ha)⟩, for_it (walk_list (xs := xs)) (fun i σ H2 => ∃ v v' v'', σ = [some (.ref a), v, v', v''] ∧ Same H H2) ⟨_, _, _, rfl, s2⟩ (fun i σ H2 _ ⟨_, _, _, _, s2⟩ => SqL.of (s2 _ _ ha)) ?_ ?_⟩
      · rintro i y σ H2 H3 hi ⟨v, v', v'', rfl, s2⟩ ⟨rfl, hy⟩
        obtain ⟨m, ss, rfl, hm, nd, hl, ok⟩ := hx y (List.mem_of_getElem? hy)
        refine ⟨_, rfl, m, _, rfl, SqL.of (s2 _ _ hm), for_it (walk_enum (xs := ss.map V.str)) (fun i σ H2 => ∃ v v', σ = [some (.ref a), some (.ref m), v, v'] ∧ Same H H2) ⟨_, _, rfl, s2⟩ (fun i σ H2 _ ⟨_, _, _, s4⟩ => SqL.of (s4 _ _ hm)) ?_ ?_⟩
        · rintro j z σ H4 H5 hj ⟨v, v', rfl, s4⟩ ⟨t, x, y, rfl, ht, rfl, e1, e2⟩
          have e1' := Option.some.inj e1
          subst e1'
          obtain ⟨x, rfl, hx2⟩ := strs_at e2
          have s5 := Same.new s4 (.tup [V.int (j : Nat), V.str x]) ht
          refine ⟨t, _, rfl, SqT.of upd_same, rfl, _, _, rfl, _, _, rfl, rfl, ?_⟩
          refine ⟨_, rfl, _, rfl, _, rfl, _, rfl, m, _, rfl, SqL.of (s5 _ _ hm), fun q hq => ?_⟩
          rw [cut_take, ← List.map_take]
          have hn : x ∉ ss.take j := by
            have nd2 : (ss.map id).Nodup := by rw [List.map_id]; exact nd
            have := nodup_at (f := id) nd2 hx2
            rwa [List.map_id] at this
          exact rd_inF (SqL.of upd_same) hn ⟨_, rfl, iteF ⟨_, _, rfl, Same.new s5 _ hq⟩⟩
        · rintro σ H4 ⟨v, v', rfl, s4⟩
          exact ⟨_, _, _, rfl, s4⟩
      · rintro σ H2 ⟨v, v', v'', rfl, s2⟩
        exact k H2 s2
/-! ### the lists of a program -/
def spLst (K : PySem.W.Frag) (f : TwM.Spec Str → List Str) : Sp := fun vs H Q _ => ∃ p sp, vs = [.ref p] ∧ ProgAt K H p sp ∧ ∀ l H', H l = none → Same H H' → H' l = some (.lst ((f sp).map V.str)) → Q (.ref l) H'
theorem ok_modes (T : Txt K mg) : Met P w K mg base 1 "Program" "modes" (spLst K (·.modes)) := by
  have sc : FnScope ["self"] ["self"] (defScope s_Program_modes) := ⟨rfl, rfl, rfl, by decide +kernel, rfl, by decide +kernel, by decide +kernel⟩
  refine ⟨fn_by (fd_Program_modes T) sc (fun _ _ _ _ _ _ us hl => match us, hl with | [_], _ => rfl) ?_ fun cdv A outer s H vs Q E hr h => ?_, c_Program T, m_Program_modes T⟩
  · rintro vs H Q E ⟨a, xs, rfl, _⟩; rfl
  · obtain ⟨p, sp, rfl, ⟨⟨dx, am, ar, as_, al, ad, as, h1, h2, h3, h4, h5, h6⟩, ok⟩, k⟩ := h
    refine ⟨_, pss_one (ps_ret (pe_t1 cr_li (b_list T) (pe_f (pv 0)))), ?_⟩
    exact ⟨_, rfl, rd_f h1 (c_Program T) (n_Program_own_modes T) prog_modes (rd_li h2 fun l hl => k l _ hl (same_new _ hl) upd_same)⟩
theorem ok_registers (T : Txt K mg) : Met P w K mg base 1 "Program" "registers" (spLst K (·.registers)) := by
  have sc : FnScope ["self"] ["self"] (defScope s_Program_registers) := ⟨rfl, rfl, rfl, by decide +kernel, rfl, by decide +kernel, by decide +kernel⟩
  refine ⟨fn_by (fd_Program_registers T) sc (fun _ _ _ _ _ _ us hl => match us, hl with | [_], _ => rfl) ?_ fun cdv A outer s H vs Q E hr h => ?_, c_Program T, m_Program_registers T⟩
  · rintro vs H Q E ⟨a, xs, rfl, _⟩; rfl
  · obtain ⟨p, sp, rfl, ⟨⟨dx, am, ar, as_, al, ad, as, h1, h2, h3, h4, h5, h6⟩, ok⟩, k⟩ := h
    refine ⟨_, pss_one (ps_ret (pe_t1 cr_li (b_list T) (pe_f (pv 0)))), ?_⟩
    exact ⟨_, rfl, rd_f h1 (c_Program T) (n_Program_own_registers T) prog_registers (rd_li h3 fun l hl => k l _ hl (same_new _ hl) upd_same)⟩
theorem ok_signs (T : Txt K mg) : Met P w K mg base 1 "Program" "signs" (spLst K (·.signs)) := by
  have sc : FnScope ["self"] ["self"] (defScope s_Program_signs) := ⟨rfl, rfl, rfl, by decide +kernel, rfl, by decide +kernel, by decide +kernel⟩
  refine ⟨fn_by (fd_Program_signs T) sc (fun _ _ _ _ _ _ us hl => match us, hl with | [_], _ => rfl) ?_ fun cdv A outer s H vs Q E hr h => ?_, c_Program T, m_Program_signs T⟩
  · rintro vs H Q E ⟨a, xs, rfl, _⟩; rfl
  · obtain ⟨p, sp, rfl, ⟨⟨dx, am, ar, as_, al, ad, as, h1, h2, h3, h4, h5, h6⟩, ok⟩, k⟩ := h
    refine ⟨_, pss_one (ps_ret (pe_t1 cr_li (b_list T) (pe_f (pv 0)))), ?_⟩
    exact ⟨_, rfl, rd_f h1 (c_Program T) (n_Program_own_signs T) prog_signs (rd_li h4 fun l hl => k l _ hl (same_new _ hl) upd_same)⟩
/-! ### states and events -/
def spIsState (K : PySem.W.Frag) : Sp := fun vs H Q _ => ∃ p a sp st, vs = [.ref p, .ref a] ∧ ProgAt K H p sp ∧ StateAt H a st ∧ TwM.StateOk sp st ∧ ∀ H', Same H H' → Q (.bl true) H'
theorem ok_is_state (T : Txt K mg) : Met P w K mg base 2 "Program" "is_state" (spIsState K) := by
  have sc : FnScope ["self", "value", "number"] ["self", "value"] (defScope s_Program_is_state) := ⟨rfl, rfl, rfl, by decide +kernel, rfl, by decide +kernel, by decide +kernel⟩
  refine ⟨fn_by (fd_Program_is_state T) sc (fun _ _ _ _ _ _ us hl => match us, hl with | [_, _], _ => rfl) ?_ fun cdv A outer s H vs Q E hr h => ?_, c_Program T, m_Program_is_state T⟩
  · rintro vs H Q E ⟨p, a, sp, st, rfl, _⟩; rfl
  · obtain ⟨p, a, sp, st, rfl, ⟨⟨dx, am, ar, as_, al, ad, as, h1, h2, h3, h4, h5, h6⟩, ok⟩, ⟨b, ha, hb⟩, so, k⟩ := h
    refine ⟨_, pss_cons (ps_if (PW.pt (pw_or (pt_not (pt_val (pe_is "tuple" T (pv 1) (b_tuple T)))) (pw_or1 (pt_cmpR op_ne (pe_b1 cr_ln (b_len T) (pv 1)) pe_int (nomark _))))) pss_never pss_nil)
      (pss_cons (ps_if (PW.pt (pw_or (pt_not (pt_val (pe_is "str" T (pe_ti (pv 1)) (b_str T)))) (pw_or1 (pt_cmpR op_notIn_seq (pe_ti (pv 1)) (pe_f (pv 0)) rfl)))) pss_never pss_nil)
      (pss_cons (ps_if (PW.pt (pw_or (pt_not (pt_val (pe_is "tuple" T (pe_ti (pv 1)) (b_tuple T)))) (pw_or1 (pt_cmpR op_ne (pe_b1 cr_ln (b_len T) (pe_ti (pv 1))) (pe_b1 cr_ln (b_len T) (pe_f (pv 0))) (nomark _))))) pss_never pss_nil)
      (pss_one (ps_ret (pe_b1 (cr_all rfl) (b_all T) (pe_lc (own := [("number", 2)]) (g := gName 2) (tt := tYes) rfl sc.nd (pi_tup (pe_ti (pv 1))) (blkOk_by (N := ["self", "value", "number"]) (sc := defScope s_Program_is_state) (by decide +kernel)) (fun _ _ _ _ _ => pg_name (i := 2) sc.nd rfl (Or.inl rfl)) (fun _ _ _ _ _ => pts_nil)
        (fun _ _ _ _ _ => pe_c (ok_is_plain T) hr (pa_cons (pv 2) pa_nil)))))))), ?_⟩
    refine ⟨_, rfl, rd_tt ha ⟨true, rfl, iteF ⟨_, rfl, rd_lenT ha ⟨rfl, _, rfl, iteF ?_⟩⟩⟩⟩
    refine ⟨_, rfl, rd_it ha rfl ?_⟩
    refine rd_ss ⟨true, rfl, iteF ⟨_, rfl, rd_it ha rfl ⟨_, rfl, rd_f h1 (c_Program T) (n_Program_own_modes T) prog_modes (rd_ni (SqL.of h2) so.mode ⟨_, rfl, iteF ?_⟩)⟩⟩⟩
    refine ⟨_, rfl, rd_it ha rfl ?_⟩
    refine rd_tt hb ⟨true, rfl, iteF ⟨_, rfl, rd_it ha rfl ?_⟩⟩
    refine rd_lenT hb ⟨_, rfl, rd_f h1 (c_Program T) (n_Program_own_registers T) prog_registers (rd_lenL h3 ⟨rfl, _, rfl, ?_⟩)⟩
    have el : V.int ((st.2.map V.int).length : Nat) = V.int ((sp.registers.map V.str).length : Nat) := by rw [List.length_map, List.length_map, so.len]
    refine it_ndecF el ?_
    refine ⟨_, rfl, rd_it ha rfl ⟨b, rfl, ⟨_, SqT.of hb⟩, fun D hD => lc_it (walk_tup (xs := st.2.map V.int)) (fun i H2 => Same H H2 ∧ H2 D = some (.lst ((List.replicate i true).map V.bl))) ⟨same_new _ hD, upd_same⟩ (fun i H2 _ ⟨s2, _⟩ => SqT.of (s2 _ _ hb)) ?_ ?_⟩⟩
    · rintro i v H2 H3 hi ⟨s2, hd⟩ ⟨rfl, hv⟩
      rw [List.getElem?_map] at hv
      obtain ⟨z, _, rfl⟩ := Option.map_eq_some_iff.mp hv
      refine ⟨rfl, _, rfl, z, rfl, ?_⟩
      refine ⟨_, hd, ?_, Same.put s2 _ hD, ?_⟩
      · rw [List.length_map, List.length_replicate]
        rw [List.length_map, so.len] at hi
        have := ok.regs.2.1
        exact small1000 (by omega)
      · rw [upd_same, List.replicate_succ', List.map_append]
        rfl
    · rintro H2 ⟨s2, hd⟩
      exact rd_all hd (k H2 s2)
def spIsEvent (K : PySem.W.Frag) : Sp := fun vs H Q _ => ∃ p a sp e, vs = [.ref p, .ref a] ∧ ProgAt K H p sp ∧ EventAt H a e ∧ EventOk sp.signs e ∧ Q (.bl true) H
theorem ok_is_event (T : Txt K mg) : Met P w K mg base 2 "Program" "is_event" (spIsEvent K) := by
  have sc : FnScope ["self", "value"] ["self", "value"] (defScope s_Program_is_event) := ⟨rfl, rfl, rfl, by decide +kernel, rfl, by decide +kernel, by decide +kernel⟩
  obtain ⟨t0, ham⟩ := i_MOST_AMOUNT T
  refine ⟨fn_by (fd_Program_is_event T) sc (fun _ _ _ _ _ _ us hl => match us, hl with | [_, _], _ => rfl) ?_ fun cdv A outer s H vs Q E hr h => ?_, c_Program T, m_Program_is_event T⟩
  · rintro vs H Q E ⟨p, a, sp, st, rfl, _⟩; rfl
  · obtain ⟨p, a, sp, e, rfl, ⟨⟨dx, am, ar, as_, al, ad, as, h1, h2, h3, h4, h5, h6⟩, ok⟩, ha, eo, k⟩ := h
    refine ⟨_, pss_cons (ps_if (PW.pt (pw_or (pt_not (pt_val (pe_is "tuple" T (pv 1) (b_tuple T)))) (pw_or1 (pt_cmpR op_ne (pe_b1 cr_ln (b_len T) (pv 1)) pe_int (nomark _))))) pss_never pss_nil)
      (pss_cons (ps_if (PW.pt (pw_or (pt_not (pt_val (pe_is "str" T (pe_ti (pv 1)) (b_str T)))) (pw_or1 (pt_cmpR op_notIn_seq (pe_ti (pv 1)) (pe_f (pv 0)) rfl)))) pss_never pss_nil)
      (pss_one (ps_ret (pe_c (ok_is_integer T) hr (pa_cons (pe_ti (pv 1)) (pa_cons (pe_op op_sub pe_int (pe_glob (v := .int 1000000000000) rfl ham ⟨_, rfl⟩)) (pa_cons (pe_glob (v := .int 1000000000000) rfl ham ⟨_, rfl⟩) pa_nil))))))), ?_⟩
    refine ⟨_, rfl, rd_tt ha ⟨true, rfl, iteF ⟨_, rfl, rd_lenT ha ⟨rfl, _, rfl, iteF ?_⟩⟩⟩⟩
    refine ⟨_, rfl, rd_it ha rfl ?_⟩
    refine rd_ss ⟨true, rfl, iteF ⟨_, rfl, rd_it ha rfl ⟨_, rfl, rd_f h1 (c_Program T) (n_Program_own_signs T) prog_signs (rd_ni (SqL.of h4) eo.sign ⟨_, rfl, iteF ?_⟩)⟩⟩⟩
    have l1 := eo.lo
    exact ⟨_, rfl, rd_it ha rfl ⟨_, _, rfl, rfl, _, _, _, rfl, by omega, eo.hi, k⟩⟩
def spChkEvents (K : PySem.W.Frag) : Sp := fun vs H Q _ => ∃ p a sp es, vs = [.ref p, .ref a] ∧ ProgAt K H p sp ∧ EventsAt H a es ∧ (∀ e ∈ es, EventOk sp.signs e) ∧ ∀ H', Same H H' → Q .non H'
theorem ok_check_events (T : Txt K mg) : Met P w K mg base 3 "Program" "check_events" (spChkEvents K) := by
  have sc : FnScope ["self", "events", "index", "event"] ["self", "events"] (defScope s_Program_check_events) := ⟨rfl, rfl, rfl, by decide +kernel, rfl, by decide +kernel, by decide +kernel⟩
  refine ⟨fn_by (fd_Program_check_events T) sc (fun _ _ _ _ _ _ us hl => match us, hl with | [_, _], _ => rfl) ?_ fun cdv A outer s H vs Q E hr h => ?_, c_Program T, m_Program_check_events T⟩
  · rintro vs H Q E ⟨p, a, sp, st, rfl, _⟩; rfl
  · obtain ⟨p, a, sp, es, rfl, hp, ⟨as, ha, pr⟩, ok, k⟩ := h
    refine ⟨_, pss_cons (ps_if (pt_not (pt_val (pe_isLT T (pv 1)))) pss_never pss_nil)
      (pss_one (ps_for PassesOwn.never rfl (pi_enum (by rfl) (b_enumerate T) (pa_cons (pv 1) pa_nil)) (pg_tup rfl (pgs_cons (pg_name (i := 2) sc.nd rfl (.inl rfl)) (pgs_cons (pg_name (i := 3) sc.nd rfl (.inl rfl)) pgs_nil)))
          (pss_one (ps_if (pt_not (pt_val (pe_m (ok_is_event T) hr (pv 0) (pa_cons (pv 3) pa_nil)))) pss_never pss_nil)))), ?_⟩
    refine ⟨_, rfl, rd_LTl ha fun q hq => ⟨true, rfl, iteF ?_⟩⟩
    have s1 := same_new (.tup [V.ty "list", V.ty "tuple"]) hq
    refine ⟨_, rfl, a, _, rfl, SqL.of (s1 _ _ ha), for_it (walk_enum (xs := as.map V.ref)) (fun i σ H2 => ∃ v v', σ = [some (.ref p), some (.ref a), v, v'] ∧ Same H H2) ⟨_, _, rfl, s1⟩ (fun i σ H2 _ ⟨_, _, _, s4⟩ => SqL.of (s4 _ _ ha)) ?_ ?_⟩
    · rintro j z σ H4 H5 hj ⟨v, v', rfl, s4⟩ ⟨t, x, y, rfl, ht, rfl, e1, e2⟩
      have e1' := Option.some.inj e1
      subst e1'
      obtain ⟨b, rfl, hb⟩ := refs_at e2
      obtain ⟨e, he, eat⟩ := paired_at pr hb
      have s5 := Same.new s4 (.tup [V.int (j : Nat), V.ref b]) ht
      have hp5 := hp.same s5
      obtain ⟨⟨dx, am, ar, as_, al, ad, _, h1, _⟩, _⟩ := id hp5
      refine ⟨t, _, rfl, SqT.of upd_same, rfl, _, _, rfl, _, _, rfl, rfl, ?_⟩
      exact ⟨_, rfl, p, dx, _, rfl, h1, prog_no (by decide +kernel), _, rfl, p, b, sp, e, rfl, hp5, s5 _ _ eat, ok e (List.mem_of_getElem? he), true, rfl, iteF ⟨_, _, rfl, s5⟩⟩
    · rintro σ H4 ⟨v, v', rfl, s4⟩
      exact k H4 s4
end
end Tw
end

section
set_option Elab.async false
set_option linter.all false
set_option maxRecDepth 100000
set_option maxHeartbeats 4000000
/-! zip of a list and a tuple, walked. -/
namespace Tw
open PySem PySem.Spec PyProof.Rows L2
/-- the list at a and the tuple at b, their items in new pairs -/
def ItzM (K : PySem.W.Frag) (a b : Addr) : It :=
  ⟨fun i H => ∃ (xs ys : List V), SqL K H a xs ∧ SqT K H b ys ∧ i < xs.length ∧ i < ys.length,
    fun i H v H' => ∃ T x y, v = .ref T ∧ H T = none ∧ H' = upd H T (.tup [x, y]) ∧ (∀ xs, SqL K H a xs → xs[i]? = some x) ∧ ∀ ys, SqT K H b ys → ys[i]? = some y,
    fun i H => ∃ xs ys : List V, SqL K H a xs ∧ SqT K H b ys ∧ i ≤ xs.length ∧ i ≤ ys.length ∧ (i = xs.length ∨ i = ys.length)⟩
theorem sep_of {z TI TO i1 i2 a b : Addr} (D : ZipApart z TI TO i1 i2 a b) : ZipSep2 z TI TO i1 i2 [i1, a] [i2, b] where
  TIz := D.TIz
  TOz := D.TOz
  TITO := D.TITO
  TIi1 := D.TIi1
  mem1 := by simp
  zf1 := by simp [Ne.symm D.i1z, Ne.symm D.l1z]
  Tf1 := by simp [D.TOi1, Ne.symm D.l1TO]
  TIi2 := D.TIi2
  mem2 := by simp
  zf2 := by simp [Ne.symm D.i2z, Ne.symm D.l2z]
  Tf2 := by simp [D.TOi2, Ne.symm D.l2TO]
  sep1_2 := by simp [D.i12, Ne.symm D.l2i1]
  sep2_1 := by simp [Ne.symm D.i12, Ne.symm D.l1i2]
theorem turn_zipM {P : Program} {w : World} {K : PySem.W.Frag} {elts : List Expr} {kk : Nat} {tpos : Pos} {a b z TI TO i1 i2 : Addr} (D : ZipApart z TI TO i1 i2 a b) :
    Turn P w K (.Tuple elts kk tpos) (ItzM K a b) [z, TI, TO, i1, i2] z (fun i h => IsZip h z TI TO .none ∧ IsPair h TI (.ref i1) (.ref i2) ∧ (∃ x y, IsPair h TO x y) ∧ h.IsListIter i1 a i ∧ h.IsTupleIter i2 b i) where
  mem := by simp
  obj := fun i h st c hc => by
    obtain ⟨hz, hTI, ⟨x, y, hTO⟩, ⟨o1, e1, _, d1⟩, ⟨o2, e2, _, d2⟩⟩ := st
    simp only [List.mem_cons, List.not_mem_nil, or_false] at hc
    rcases hc with q | q | q | q | q
    · rw [q]; exact ⟨_, hz, fun v q => nomatch q⟩
    · rw [q]; exact ⟨_, hTI, fun v q => nomatch q⟩
    · rw [q]; exact ⟨_, hTO, fun v q => nomatch q⟩
    · exact ⟨o1, q ▸ e1, fun v q => by rw [d1] at q; cases q⟩
    · exact ⟨o2, q ▸ e2, fun v q => by rw [d2] at q; cases q⟩
  keep := fun i h h' ⟨hz, hTI, ⟨x, y, hTO⟩, h1, h2⟩ k =>
    ⟨k z (by simp) _ hz, k TI (by simp) _ hTI, ⟨x, y, k TO (by simp) _ hTO⟩, h1.at fun o q => k i1 (by simp) o q, h2.at fun o q => k i2 (by simp) o q⟩
  item := by
    intro X hP hw hK hc i pins s σ H E I hf ⟨hz, hTI, ⟨x0, y0, hTO⟩, h1, h2⟩ ⟨xs, ys, hqx, hqy, hx, hy⟩
    subst hP hw hK
    obtain ⟨its, rv, p, _⟩ := I.list hqx
    obtain ⟨its2, rv2, p2, _⟩ := I.tuple hqy
    have hzl : z < s.heap.objs.size := Heap.lt_size hz
    have l1 := rv.length
    have l2 := rv2.length
    refine wpAny_pyNext_zipD2_item (sep_of D) (Draws.list (A := X.A.in1) (I.ok.hd hc) i1 a D.l1i1 its.toArray) (Draws.tuple (A := X.A.in1) (I.ok.hd hc) i2 b D.l2i2 its2.toArray) hz hTI hTO ⟨h1, p.isList⟩ ⟨h2, p2⟩ (by simp; omega) (by simp; omega)
      fun u u2 h' tk hu hu2 z' TO' st1 st2 hT hsz hk => ?_
    obtain ⟨h1', _⟩ := st1
    obtain ⟨h2', _⟩ := st2
    have hu' : its[i]? = some u := by simpa using hu
    have hu2' : its2[i]? = some u2 := by simpa using hu2
    obtain ⟨v1, e1⟩ : ∃ v, xs[i]? = some v := ⟨xs[i], List.getElem?_eq_getElem hx⟩
    obtain ⟨v2, e2⟩ : ∃ v, ys[i]? = some v := ⟨ys[i], List.getElem?_eq_getElem hy⟩
    obtain ⟨w1, f1, ru⟩ := rv.get e1
    obtain ⟨w2, f2, ru2⟩ := rv2.get e2
    rw [hu'] at f1
    rw [hu2'] at f2
    cases f1
    cases f2
    refine ⟨_, rfl, wpAny_letOwnedTupleGo_zip (s := { s with heap := h', toks := tk }) z' fun h'' z'' sb => ?_⟩
    have hT2 : h''.get? s.heap.objs.size = some { cls := .type "tuple", data := .seq #[u, u2] } := (sb.2 _ (Nat.ne_of_gt hzl)).trans hT
    have new : ObjOk X.prog X.w (upd H s.heap.objs.size (.tup [v1, v2])) h'' s.heap.objs.size (.tup [v1, v2]) :=
      ⟨by show 2 ≤ sizeLine; decide, [u, u2], .cons ru (.cons ru2 .nil), ⟨_, hT2, rfl, _, rfl⟩⟩
    have I1 : Inv X pins σ (upd H s.heap.objs.size (.tup [v1, v2])) { s with heap := h'', toks := tk } :=
      I.turnedNew (t' := tk) (ch := [z, TI, TO, i1, i2]) (fun c o hb q => (sb.2 c (fun q' => hb (by simp [q']))).trans (hk c o (fun q' => hb (by simp [q'])) (fun q' => hb (by simp [q'])) (fun q' => hb (by simp [q'])) (fun q' => hb (by simp [q'])) q)) hf (Nat.le_refl _) new
    refine ⟨.ref s.heap.objs.size, _, I1, rfl, ⟨_, v1, v2, rfl, I.hok.fresh (Nat.le_refl _), rfl, fun l hl => by rw [I.list_inj hl hqx]; exact e1, fun l hl => by rw [I.tuple_inj hl hqy]; exact e2⟩, ⟨z'', ?_, ⟨u, u2, ?_⟩, ?_, ?_⟩, fun c hcm => ?_⟩
    · exact (sb.2 _ D.TIz).trans (hk _ _ D.TIz D.TITO D.TIi1 D.TIi2 hTI)
    · exact (sb.2 _ D.TOz).trans TO'
    · exact h1'.at fun o q => (sb.2 _ D.i1z).trans q
    · exact h2'.at fun o q => (sb.2 _ D.i2z).trans q
    · have hlt : c < s.heap.objs.size := by
        simp only [List.mem_cons, List.not_mem_nil, or_false] at hcm
        rcases hcm with q | q | q | q | q
        · exact q ▸ hzl
        · exact q ▸ Heap.lt_size hTI
        · exact q ▸ Heap.lt_size hTO
        · obtain ⟨_, e1, _⟩ := h1; exact q ▸ Heap.lt_size e1
        · obtain ⟨_, e1, _⟩ := h2; exact q ▸ Heap.lt_size e1
      rw [upd_ne (Nat.ne_of_lt hlt)]
      exact (hf c hcm).1
  done := by
    intro X hP hw hK hc i pins s σ H E I hf ⟨hz, hTI, ⟨x0, y0, hTO⟩, h1, h2⟩ ⟨xs, ys, hqx, hqy, hx, hy, hend⟩
    subst hP hw hK
    obtain ⟨its, rv, p, _⟩ := I.list hqx
    obtain ⟨its2, rv2, p2, _⟩ := I.tuple hqy
    have l1 := rv.length
    have l2 := rv2.length
    refine wpAny_pyNext_zipD2_end (sep_of D) (Draws.list (A := X.A.in1) (I.ok.hd hc) i1 a D.l1i1 its.toArray) (Draws.tuple (A := X.A.in1) (I.ok.hd hc) i2 b D.l2i2 its2.toArray) hz hTI hTO ⟨h1, p.isList⟩ ⟨h2, p2⟩ (by simp; omega) (by simp; omega) (by simp; omega)
      fun h' tk hk => ⟨rfl, I.turnedL (t' := tk) (ch := [z, TI, TO, i1, i2]) (fun c o hb q => hk c o (fun q' => hb (by simp [q'])) (fun q' => hb (by simp [q'])) (fun q' => hb (by simp [q'])) (fun q' => hb (by simp [q'])) q) hf⟩
  self := fun A i s Q E st h => wpAny_pyIter_zip st.1 h
def rZM (K : PySem.W.Frag) (R : It → Hp → Prop) (x y : V) (H : Hp) : Prop := ∃ a b xs ys, x = .ref a ∧ y = .ref b ∧ SqL K H a xs ∧ SqT K H b ys ∧ R (ItzM K a b) H
def iZipM (K : PySem.W.Frag) (ta : TA) : TI := fun σ H R => ta σ H fun vs H1 => ∃ a b xs ys, vs = [.ref a, .ref b] ∧ SqL K H1 a xs ∧ SqT K H1 b ys ∧ R (ItzM K a b) H1
theorem pi_zipM {X : Cx} {e e2 : Expr} {ta : TA} {p pos tpos : Pos} {elts : List Expr} {kk : Nat} (hm : X.mg "zip" = none) (ha : PA X [e, e2] ta) (hg : Gl X "zip" := by rfl)
    (hs : starEach [e, e2] X.env = (false, eval e X.env) :: starEach [e2] X.env := by rfl) (hpl : (backTo pos (starEach [e2] X.env)).any (·.1) = false := by rfl) :
    PI X (.Tuple elts kk tpos) (.Call (.Name "zip" p) [e, e2] [] pos) (iZipM X.K ta) := by
  refine ⟨fun pins s σ H R I h => Call_ (ld_blt I hg hm PyProof.Rows.boot_zip (PyProof.Rows.callWith_type1 (thn (ha.run pos pins s σ H _ I h) fun us s1 ⟨vs, H1, I1, r1, q1⟩ => ?_) hs hpl))⟩
  obtain ⟨a, b, xs, ys, rfl, hqx, hqy, q⟩ := q1
  obtain ⟨u1, u2, rfl, r, r'⟩ := vals2 r1
  cases r
  cases r'
  obtain ⟨its, rv, p1, _⟩ := I1.list hqx
  obtain ⟨its2, rv2, p2, _⟩ := I1.tuple hqy
  obtain ⟨o2, ho2, _⟩ := id p2
  refine zip_begins2 (begins_list a its.toArray) (begins_tuple b its2.toArray) p1.isList p2 fun h' hz hTI hTO h1 h2 hsz hk => wpAny_pyIter_zip hz ?_
  have I2 : Inv X pins σ H1 { s1 with heap := h' } := I1.kept (t' := s1.toks) hk
  refine ⟨s1.heap.objs.size + 4, [s1.heap.objs.size + 4, s1.heap.objs.size + 2, s1.heap.objs.size + 3, s1.heap.objs.size, s1.heap.objs.size + 1], _, _, H1, rfl, I2, turn_zipM (PySem.W.ktu_apart s1.heap.objs.size a b p1.lt (Heap.lt_size ho2)), ⟨hz, hTI, ⟨_, _, hTO⟩, ⟨_, h1, rfl, rfl⟩, ⟨_, h2, rfl, rfl⟩⟩, fun c hcm => ?_, q⟩
  have hle : s1.heap.objs.size ≤ c := by
    simp only [List.mem_cons, List.not_mem_nil, or_false] at hcm
    rcases hcm with z | z | z | z | z <;> rw [z]
    · exact Nat.le_add_right _ _
    · exact Nat.le_add_right _ _
    · exact Nat.le_add_right _ _
    · exact Nat.le_refl _
    · exact Nat.le_add_right _ _
  exact I1.fpOk hle (I1.hok.fresh hle)
theorem walk_zipM {K : PySem.W.Frag} {a b : Addr} {xs ys : List V} {n : Nat} (h1 : xs.length = n) (h2 : ys.length = n) : Walk (ItzM K a b) n (fun H => SqL K H a xs ∧ SqT K H b ys) (YPair (fun i => xs[i]?) (fun i => ys[i]?)) := by
  refine ⟨fun i _ hi q => ⟨xs, ys, q.1, q.2, by omega, by omega⟩, fun _ q => ⟨xs, ys, q.1, q.2, by omega, by omega, .inl (by omega)⟩, fun i H v H' _ q y => ?_⟩
  obtain ⟨T, x, z, e1, e2, e3, e4, e5⟩ := y
  exact ⟨T, x, z, e1, e2, e3, e4 xs q.1, e5 ys q.2⟩
end Tw
end

section
set_option Elab.async false
set_option linter.all false
set_option maxRecDepth 100000
set_option maxHeartbeats 4000000
/-! Dicts of texts to ints; sums of terms. -/
namespace Tw
open PySem PySem.Spec PyProof.Rows L2
theorem room_u {k : Nat} {A : Around} (hr : Room k A) : A.units + 1 < cLine := by have := hr.units; omega
theorem getS {H : Hp} {a : Addr} {kvs : List (Key × V)} {x : Str} {v : V} (e : H a = some (.dK kvs)) (h : valV kvs (.inr x) = some v) : DGet H a (.str x) (some v) := by
  have g := DGet.k (k := .inr x) e
  rw [h] at g
  exact g
theorem putS {H : Hp} {a : Addr} {kvs : List (Key × V)} {x : Str} {v : V} (e : H a = some (.dK kvs)) (hl : kvs.length ≤ 1000) : DPut H a (.str x) v (upd H a (.dK (putK kvs (.inr x) v))) :=
  DPut.k (k := .inr x) e (small1000 hl)
theorem sr_ne {x y : Str} (h : x ≠ y) : ¬ (Sum.inr x : Key) = Sum.inr y := fun e => h (Sum.inr.inj e)
theorem valS_put {kvs : List (Key × V)} {x y : Str} {v : V} : valV (putK kvs (.inr x) v) (.inr y) = if y = x then some v else valV kvs (.inr y) := by
  rw [valV_put]
  by_cases e : y = x
  · rw [if_pos e, if_pos (by rw [e])]
  · rw [if_neg e, if_neg (sr_ne e)]
/-- texts to ints -/
def MapOn (kvs : List (Key × V)) (xs : List Str) (f : Str → Int) : Prop := ∀ x ∈ xs, valV kvs (.inr x) = some (.int (f x))
theorem MapOn.put {kvs : List (Key × V)} {xs : List Str} {f : Str → Int} (h : MapOn kvs xs f) (x : Str) (v : Int) : MapOn (putK kvs (.inr x) (.int v)) xs (TwM.setF f x v) := fun y hy => by
  rw [valS_put]
  unfold TwM.setF
  split
  · rfl
  · exact h y hy
theorem MapOn.snoc {kvs : List (Key × V)} {xs : List Str} {f : Str → Int} (h : MapOn kvs xs f) {x : Str} {v : Int} (e : f x = v) : MapOn (putK kvs (.inr x) (.int v)) (xs ++ [x]) f := fun y hy => by
  rw [valS_put]
  split
  · rename_i q; rw [q, e]
  · rcases List.mem_append.mp hy with q | q
    · exact h y q
    · exact absurd (List.mem_singleton.mp q) ‹_›
/-- the terms' sum -/
abbrev prodT (i j e : Nat) : TE := tOp (rI CMulW fun i j => .int (i * j)) (tVar j) (tDGet (tVar e) (tVar i))
abbrev twoT (K : PySem.W.Frag) (i j : Nat) : TG := gTup K 2 (gCons (gName i) (gCons (gName j) gNil))
def SumT (K : PySem.W.Frag) (i j e : Nat) (te : TE) : TE := t1 (rSum K) (tLc (iTup K te) (twoT K i j) tYes (prodT i j e) [i, j])
theorem sum_terms {K : PySem.W.Frag} {σ : L2.St} {H : Hp} {Q : VK} {a d : Addr} {kvs : List (Key × V)} {ts : Terms} {kn : Str → Int} {i j e : Nat}
    (ha : TermsAt H a ts) (hn : ts.length ≤ 1000) (hd : H d = some (.dK kvs)) (hk : ∀ t ∈ ts, valV kvs (.inr t.1) = some (.int (kn t.1)) ∧ CMulW t.2 (kn t.1))
    (hw : ∀ x y, wipe (((wipe σ [i, j]).set i (some x)).set j (some y)) [i, j] = wipe σ [i, j])
    (hi : ∀ x y, (((wipe σ [i, j]).set i (some x)).set j (some y))[i]? = some (some x)) (hj : ∀ x y, (((wipe σ [i, j]).set i (some x)).set j (some y))[j]? = some (some y)) (he : ∀ x y, (((wipe σ [i, j]).set i (some x)).set j (some y))[e]? = some (some (.ref d)))
    (q : ∀ H', Same H H' → Q (.int (TwM.sumT kn ts)) H') : SumT K i j e (tC (.ref a)) σ H Q := by
  obtain ⟨as, ha, pr⟩ := ha
  refine ⟨a, rfl, ⟨_, SqT.of ha⟩, fun D hD => lc_it (walk_tup (xs := as.map V.ref)) (fun n H2 => Same H H2 ∧ H2 D = some (.lst (((ts.take n).map fun t => t.2 * kn t.1).map V.int)))
    ⟨same_new _ hD, upd_same⟩ (fun n H2 _ ⟨s2, _⟩ => SqT.of (s2 _ _ ha)) ?_ ?_⟩
  · rintro n v H2 H3 hi2 ⟨s2, hl2⟩ ⟨rfl, hv⟩
    obtain ⟨b, rfl, hb⟩ := refs_at hv
    obtain ⟨t, ht, tm⟩ := paired_at pr hb
    have mt : t ∈ ts := List.mem_of_getElem? ht
    obtain ⟨k1, k2⟩ := hk t mt
    refine ⟨b, _, rfl, SqT.of (s2 _ _ tm), rfl, _, _, rfl, _, _, rfl, rfl, hw _ _, _, hj _ _, _, he _ _, _, hi _ _, d, _, rfl, getS (s2 _ _ hd) k1, _, _, rfl, rfl, k2, ?_⟩
    refine ⟨_, hl2, ?_, Same.put s2 _ hD, ?_⟩
    · rw [List.length_map, List.length_map, List.length_take]
      exact small1000 (by omega)
    · rw [upd_same, take_snoc ht, List.map_append, List.map_append]
      rfl
  · rintro H2 ⟨s2, hl2⟩
    refine ⟨D, _, rfl, SqL.of hl2, ?_⟩
    have e1 : ts.take (as.map V.ref).length = ts := List.take_of_length_le (by rw [List.length_map, pr.length]; exact Nat.le_refl _)
    rw [e1]
    exact q H2 s2
theorem mul_ok {k : Nat} {x y : Int} (hx : x.natAbs ≤ 1000) (hy : y.natAbs < 2 ^ k) (h0 : 0 < k) (hk : k ≤ 900000) : CMulW x y :=
  wide_mul (a := 10) (b := k) (by omega) hy (by decide) h0 (by omega)
/-- tuple(xs) -/
def rTu (K : PySem.W.Frag) : List V → Hp → VK → Prop := fun xs H Q => ∃ p ys, xs = [.ref p] ∧ ((SqL K H p ys ∧ ∀ l, H l = none → Q (.ref l) (upd H l (.tup ys))) ∨ (SqT K H p ys ∧ Q (.ref p) H))
theorem cr_tu {X : Cx} : CallR X (.type "tuple") (rTu X.K) := call_tuple_of
theorem rd_tu {K : PySem.W.Frag} {H : Hp} {Q : VK} {a : Addr} {xs : List V} (h : H a = some (.lst xs)) (q : ∀ l, H l = none → Q (.ref l) (upd H l (.tup xs))) : rTu K [.ref a] H Q := ⟨a, xs, rfl, .inl ⟨SqL.of h, q⟩⟩
/-- a dict comprehension over it -/
theorem dc_it {J : It} {n : Nat} {G : Hp → Prop} {Y : Nat → Hp → V → Hp → Prop} (w : Walk J n G Y) {g : TG} {tt : TT} {tk tv : TE} {vs : List Nat} {σ : L2.St} {H1 : Hp} {D : Addr} {Qd : Hp → Prop} (Pv : Nat → Hp → Prop) (h0 : Pv 0 (upd H1 D (.dK []))) (hG : ∀ i H, i ≤ n → Pv i H → G H)
    (hs : ∀ i x H H', i < n → Pv i H → Y i H x H' → g x (wipe σ vs) H' fun σ2 H2 => wipe σ2 vs = wipe σ vs ∧ tt σ2 H2 fun b H3 =>
      if b = true then tk σ2 H3 fun y H4 => tv σ2 H4 fun z H5 => ∃ kvs k, y = kV k ∧ H5 D = some (.dK kvs) ∧ kvs.length < sizeLine ∧ Pv (i + 1) (upd H5 D (.dK (putK kvs k z))) else Pv (i + 1) H3) (hd : ∀ H, Pv n H → Qd H) :
    ∃ W : Nat → Nat → Hp → Prop, (∃ m, W 0 m (upd H1 D (.dK []))) ∧ ∀ i m H, W i m H →
      (J.stop i H ∧ Qd H) ∨ (J.go i H ∧ ∃ Nx : Hp → Prop, (∀ H', Nx H' → ∃ m', m' < m ∧ W (i + 1) m' H') ∧ ∀ x H', J.yld i H x H' → g x (wipe σ vs) H' fun σ2 H2 => wipe σ2 vs = wipe σ vs ∧ tt σ2 H2 fun b H3 =>
        if b = true then tk σ2 H3 fun y H4 => tv σ2 H4 fun z H5 => ∃ kvs k, y = kV k ∧ H5 D = some (.dK kvs) ∧ kvs.length < sizeLine ∧ Nx (upd H5 D (.dK (putK kvs k z))) else Nx H3) := by
  refine ⟨fun i m H => m = n - i ∧ i ≤ n ∧ Pv i H, ⟨n, by simp, Nat.zero_le _, h0⟩, ?_⟩
  rintro i m H ⟨rfl, hi, p⟩
  have q := hG i H hi p
  by_cases hlt : i < n
  · refine .inr ⟨w.goes i H hlt q, Pv (i + 1), fun H' p' => ⟨n - (i + 1), by omega, rfl, hlt, p'⟩, fun x H' y => hs i x H H' hlt p (w.yields i H x H' hlt q y)⟩
  · have e : i = n := by omega
    subst e
    exact .inl ⟨w.stops H q, hd H p⟩
theorem take_all {α : Type} {xs : List α} : xs.take xs.length = xs := List.take_length
end Tw
end

section
set_option Elab.async false
set_option linter.all false
set_option maxRecDepth 100000
set_option maxHeartbeats 4000000
/-! moved, run. -/
namespace Tw
open PySem PySem.Spec PyProof.Rows L2
theorem specBd {sp : TwM.Spec Str} (ok : SpecOk sp) : TwM.SpecBd sp := ⟨fun r hr c hc => by
  have t := (ok.rules r hr).ch.ok c hc
  exact ⟨t.few, fun x hx => by have := t.fac x hx; omega⟩⟩
theorem specLin {sp : TwM.Spec Str} (ok : SpecOk sp) : TwM.SpecLin sp := ⟨ok.modes.1, fun r hr => (ok.rules r hr).goal⟩
theorem StateAt.same {H H' : Hp} {a : Addr} {st : TwM.State Str} (h : StateAt H a st) (k : Same H H') : StateAt H' a st := h.tk (Same.tk k)
/-- the rule for a mode and a sign, in the dict -/
theorem pair_at {F : Addr → TwM.Rule Str → Prop} {m s : Str} : ∀ {as : List Addr} {rs : List (TwM.Rule Str)}, Paired F as rs →
    (rs.find? (fun r => decide (r.mode = m ∧ r.sign = s)) = none ∧ valV (pairsOf rs as) [.inr m, .inr s] = none) ∨
    ∃ a r, rs.find? (fun r => decide (r.mode = m ∧ r.sign = s)) = some r ∧ valV (pairsOf rs as) [.inr m, .inr s] = some (.ref a) ∧ F a r
  | _, _, .nil => .inl ⟨rfl, rfl⟩
  | a :: as, r :: rs, .cons h t => by
    show (_ ∧ valV (([Sum.inr r.mode, Sum.inr r.sign], V.ref a) :: pairsOf rs as) _ = _) ∨ ∃ a' r', _ ∧ valV (([Sum.inr r.mode, Sum.inr r.sign], V.ref a) :: pairsOf rs as) _ = _ ∧ _
    by_cases e : r.mode = m ∧ r.sign = s
    · refine .inr ⟨a, r, ?_, ?_, h⟩
      · rw [List.find?_cons, decide_eq_true e]
      · rw [valV_pos (by show [Sum.inr r.mode, Sum.inr r.sign] = _; rw [e.1, e.2])]
    · have ne : ¬ ([Sum.inr r.mode, Sum.inr r.sign] : List Key) = [.inr m, .inr s] := fun q => by
        injection q with q1 q2
        injection q2 with q2 _
        exact e ⟨Sum.inr.inj q1, Sum.inr.inj q2⟩
      rw [List.find?_cons, decide_eq_false e, valV_neg ne]
      exact pair_at t
/-- known, without late -/
theorem known_reg {regs : List Str} {vals : List Int} {a : Int} {x : Str} (h1 : x ≠ oneS) (h2 : x ≠ amtS) : TwM.known amtS oneS regs vals a x = TwM.look x regs vals := by
  unfold TwM.known
  rw [if_neg h1, if_neg h2]
def kn0 (a : Int) : List (Key × V) := mergeK [] [(.inr amtS, .int a), (.inr oneS, .int 1)]
theorem kn0_map {regs : List Str} {vals : List Int} {a : Int} : MapOn (kn0 a) [amtS, oneS] (TwM.known amtS oneS regs vals a) := by
  intro x hx
  have e : kn0 a = putK (putK [] (.inr amtS) (.int a)) (.inr oneS) (.int 1) := rfl
  rw [e, valS_put, valS_put]
  unfold TwM.known
  split
  · rfl
  · split
    · rfl
    · rcases List.mem_cons.mp hx with q | q
      · contradiction
      · exact absurd (List.mem_singleton.mp q) ‹_›
theorem pairs2 {k1 k2 : V} {t1 t2 : TE} {σ : L2.St} {H : Hp} {Q : List (V × V) → Hp → Prop} (h : t1 σ H fun y H1 => t2 σ H1 fun z H2 => Q [(k1, y), (k2, z)] H2) : tPairs [(tC k1, t1), (tC k2, t2)] σ H Q := h
theorem kn0_len {a : Int} : (kn0 a).length ≤ 2 := length_mergeK [(.inr amtS, .int a), (.inr oneS, .int 1)] []
section
variable {P : Program} {w : World} {K : PySem.W.Frag} {mg : Str → Option Value} {base : Heap}
def spMoved (K : PySem.W.Frag) : Sp := fun vs H Q _ => ∃ p a b sp st ev k, vs = [.ref p, .ref a, .ref b] ∧ ProgAt K H p sp ∧ StateAt H a st ∧ TwM.StateOk sp st ∧ EventAt H b ev ∧ 41 ≤ k ∧ k ≤ 9000 ∧ TwM.Bd k st.2 ∧ ev.2.natAbs ≤ 1000000000000 ∧
  ∀ c H', Same H H' → StateAt H' c (TwM.moved amtS oneS sp st ev) → Q (.ref c) H'
theorem ok_moved (T : Txt K mg) : Met P w K mg base 1 "Program" "moved" (spMoved K) := by
  have sc : FnScope ["self", "state", "event", "rule", "known", "target", "number", "values", "terms", "source", "factor"] ["self", "state", "event"] (defScope s_Program_moved) := ⟨rfl, rfl, rfl, by decide +kernel, rfl, by decide +kernel, by decide +kernel⟩
  refine ⟨fn_by (fd_Program_moved T) sc (fun _ _ _ _ _ _ us hl => match us, hl with | [_, _, _], _ => rfl) ?_ fun cdv A outer s H vs Q E hr h => ?_, c_Program T, m_Program_moved T⟩
  · rintro vs H Q E ⟨p, a, b, sp, st, ev, k, rfl, _⟩; rfl
  · obtain ⟨p, a, b, sp, st, ev, kb, rfl, hp, hst, so, hev, kb1, kb2, hbd, hamt, k⟩ := h
    have hu := room_u hr
    have hpx := hp
    obtain ⟨⟨dx, am, ar, as_, al, ad, as, h1, h2, h3, h4, h5, h6⟩, ok⟩ := hp
    have hsx := hst
    obtain ⟨b2, ha, hb2⟩ := hst
    refine ⟨_, pss_cons (ps_set (i := 3) sc.nd rfl (.inl rfl) (pe_dget2 hu (pe_f (pv 0)) (pe_tup (pa_cons (pe_ti (pv 1)) (pa_cons (pe_ti (pv 2)) pa_nil))) pe_non ⟨rfl, rfl, rfl, rfl⟩))
      (pss_cons (ps_if (pt_cmpR op_isN (pv 3) pe_non (nomark _)) (pss_one (ps_ret (pv 1))) pss_nil)
      (pss_cons (ps_set (i := 4) sc.nd rfl (Or.inr rfl) (pe_disp (pps_cons pe_str (pe_ti (pv 2)) (pps_cons pe_str pe_int pps_nil)) rfl rfl (by simp) (by decide)))
      (pss_cons (ps_for PassesOwn.never rfl (pi_zipM (b_zip T) (pa_cons (pe_f (pv 0)) (pa_cons (pe_ti (pv 1)) pa_nil))) (pg_tup rfl (pgs_cons (pg_name (i := 5) sc.nd rfl (.inl rfl)) (pgs_cons (pg_name (i := 6) sc.nd rfl (.inl rfl)) pgs_nil)))
        (pss_one (ps_dput hu (pv 4) (pv 5) (pv 6) rfl)))
      (pss_cons (ps_set (i := 7) sc.nd rfl (Or.inr rfl) (pe_dc (own := [("target", 5)]) (g := gName 5) (tt := tYes) rfl sc.nd (pi_list (pe_f (pv 0))) (blkOk_by (N := ["self", "state", "event", "rule", "known", "target", "number", "values", "terms", "source", "factor"]) (sc := defScope s_Program_moved) (by decide +kernel))
        (fun _ _ _ _ _ => pg_name (i := 5) sc.nd rfl (Or.inl rfl)) (fun _ _ _ _ _ => pts_nil) (fun _ _ _ _ _ => pv 5) (fun _ _ _ _ _ => pe_dget hu (pv 4) (pv 5) (fun _ _ => rfl))))
      (pss_cons (ps_for PassesOwn.never rfl (pi_tup (pe_ti (pv 3))) (pg_tup rfl (pgs_cons (pg_name (i := 5) sc.nd rfl (.inl rfl)) (pgs_cons (pg_name (i := 8) sc.nd rfl (.inl rfl)) pgs_nil)))
        (pss_one (ps_dput hu (pv 7) (pv 5) (pe_b1 (cr_sum rfl) (b_sum T) (pe_lc (own := [("source", 9), ("factor", 10)]) (g := twoT K 9 10) (tt := tYes) rfl sc.nd (pi_tup (pv 8)) (blkOk_by (N := ["self", "state", "event", "rule", "known", "target", "number", "values", "terms", "source", "factor"]) (sc := defScope s_Program_moved) (by decide +kernel))
          (fun _ _ _ _ _ => pg_tup rfl (pgs_cons (pg_name (i := 9) sc.nd rfl (.inl rfl)) (pgs_cons (pg_name (i := 10) sc.nd rfl (.inl rfl)) pgs_nil))) (fun _ _ _ _ _ => pts_nil) (fun _ _ _ _ _ => pe_op op_mulW (pv 10) (pe_dget hu (pv 4) (pv 9) (fun _ _ => rfl))))) rfl)))
      (pss_one (ps_ret (pe_tup (pa_cons (pe_ti (pv 3)) (pa_cons (pe_t1 cr_tu (b_tuple T) (pe_lc (own := [("target", 5)]) (g := gName 5) (tt := tYes) rfl sc.nd (pi_list (pe_f (pv 0))) (blkOk_by (N := ["self", "state", "event", "rule", "known", "target", "number", "values", "terms", "source", "factor"]) (sc := defScope s_Program_moved) (by decide +kernel))
        (fun _ _ _ _ _ => pg_name (i := 5) sc.nd rfl (Or.inl rfl)) (fun _ _ _ _ _ => pts_nil) (fun _ _ _ _ _ => pe_dget hu (pv 7) (pv 5) (fun _ _ => rfl)))) pa_nil)))))))))), ?_⟩
    refine ⟨_, rfl, rd_f h1 (c_Program T) (n_Program_by_pair T) prog_pair ⟨ad, rfl, .inr ⟨_, .inl h5⟩, ?_⟩⟩
    refine ⟨_, rfl, rd_it ha rfl ⟨_, rfl, rd_it hev rfl ⟨by show 2 ≤ sizeLine; decide, fun t ht => ?_⟩⟩⟩
    have s1 := same_new (.tup [V.str st.1, V.str ev.1]) ht
    refine ⟨_, DGet.t (k := [.inr st.1, .inr ev.1]) (s1 _ _ h5) upd_same, ?_⟩
    rcases pair_at (m := st.1) (s := ev.1) h6 with ⟨e1, e2⟩ | ⟨ra, r, e1, e2, e3⟩
    · rw [e2]
      have em : TwM.moved amtS oneS sp st ev = st := by
        unfold TwM.moved TwM.ruleAt
        rw [e1]
      exact ⟨_, rfl, rfl, _, rfl, iteT ⟨_, rfl, k a _ s1 (by rw [em]; exact hsx.same s1)⟩⟩
    · rw [e2]
      have em : TwM.moved amtS oneS sp st ev = (r.goal, sp.registers.map (TwM.late amtS oneS sp.registers st.2 ev.2 r.changes)) := by
        unfold TwM.moved TwM.ruleAt
        rw [e1]
      refine ⟨_, rfl, rfl, _, rfl, iteF ?_⟩
      have rok := ok.rules r (List.mem_of_find?_eq_some e1)
      have hkn : ∀ x, (TwM.known amtS oneS sp.registers st.2 ev.2 x).natAbs < 2 ^ kb := TwM.known_lt (by omega) sp.registers hbd (by
        have h2 : 2 ^ 41 ≤ 2 ^ kb := Nat.pow_le_pow_right (by decide) kb1
        omega)
      intro kd hkd
      have s2 := Same.new s1 (.dK []) hkd
      refine pairs2 ⟨_, rfl, rd_it (s2 _ _ hev) rfl ?_⟩
      refine ⟨upd_same, [(.inr amtS, .int ev.2), (.inr oneS, .int 1)], rfl, by simp, ?_⟩
      have hn : ∀ {H' : Hp}, Same (upd H t (.tup [V.str st.1, V.str ev.1])) H' → Same H H' := fun z => s1.trans z
      -- the loop of the numbers
      have s3 : Same (upd H t (.tup [V.str st.1, V.str ev.1])) (upd (upd (upd H t (.tup [V.str st.1, V.str ev.1])) kd (.dK [])) kd (.dK (kn0 ev.2))) := Same.put (same_new _ hkd) _ hkd
      refine ⟨_, rfl, rd_f ((hn s3) _ _ h1) (c_Program T) (n_Program_own_registers T) prog_registers ⟨_, rfl, rd_it ((hn s3) _ _ ha) rfl ⟨ar, b2, _, _, rfl, SqL.of ((hn s3) _ _ h3), SqT.of ((hn s3) _ _ hb2),
        for_it (walk_zipM (n := sp.registers.length) (xs := sp.registers.map V.str) (ys := st.2.map V.int) (by rw [List.length_map]) (by rw [List.length_map, so.len])) (fun i σ H2 => ∃ v5 v6 kvs, σ = [some (.ref p), some (.ref a), some (.ref b), some (.ref ra), some (.ref kd), v5, v6, none, none, none, none] ∧
          Same (upd H t (.tup [V.str st.1, V.str ev.1])) H2 ∧ H2 kd = some (.dK kvs) ∧ kvs.length ≤ 2 + i ∧ MapOn kvs ([amtS, oneS] ++ sp.registers.take i) (TwM.known amtS oneS sp.registers st.2 ev.2))
          ⟨_, _, _, rfl, s3, upd_same, kn0_len, kn0_map⟩ (fun i σ H2 _ ⟨_, _, _, _, s2, _⟩ => ⟨SqL.of ((hn s2) _ _ h3), SqT.of ((hn s2) _ _ hb2)⟩) ?_ ?_⟩⟩⟩
      · rintro i y σ H2 H3 hi ⟨v5, v6, kvs, rfl, sa, hk, hl, hm⟩ ⟨t2, x, y, rfl, ht2, rfl, e4, e5⟩
        obtain ⟨x, rfl, hx⟩ := strs_at e4
        obtain ⟨v, rfl, hv⟩ := ints_at e5
        have sb := Same.new sa (.tup [V.str x, V.int v]) ht2
        have nx := ok.regs.2.2 x (List.mem_of_getElem? hx)
        refine ⟨t2, _, rfl, SqT.of upd_same, rfl, _, _, rfl, _, _, rfl, rfl, ?_⟩
        refine ⟨_, rfl, _, rfl, _, rfl, kd, _, rfl, putS (same_new _ ht2 _ _ hk) (by have := ok.regs.2.1; omega), _, _, _, rfl, Same.put sb _ hkd, upd_same, ?_, ?_⟩
        · have := length_putK kvs (.inr x) (.int v); omega
        · rw [take_snoc hx, ← List.append_assoc]
          exact hm.snoc (by rw [known_reg nx.one nx.amt, TwM.look_at ok.regs.1 hx hv])
      rintro σ H2 ⟨v5, v6, kvs, rfl, sa, hk, hl, hm⟩
      rw [List.take_length] at hm
      -- values
      refine ⟨_, rfl, rd_f ((hn sa) _ _ h1) (c_Program T) (n_Program_own_registers T) prog_registers ⟨ar, rfl, ⟨_, SqL.of ((hn sa) _ _ h3)⟩, fun vd hvd => ?_⟩⟩
      have hl2 := ok.regs.2.1
      refine dc_it (walk_list (xs := sp.registers.map V.str)) (fun i H3 => ∃ lvs, Same H2 H3 ∧ H3 vd = some (.dK lvs) ∧ lvs.length ≤ i ∧ MapOn lvs (sp.registers.take i) fun x => TwM.look x sp.registers st.2)
        ⟨_, same_new _ hvd, upd_same, Nat.le_refl _, fun x hx => by simp at hx⟩ (fun i H3 _ ⟨_, s4, _⟩ => SqL.of (s4 _ _ ((hn sa) _ _ h3))) ?_ ?_
      · rintro i v H3 H4 hi ⟨lvs, s4, h8, l8, m8⟩ ⟨rfl, hv⟩
        obtain ⟨x, rfl, hx⟩ := strs_at hv
        have mx : x ∈ sp.registers := List.mem_of_getElem? hx
        have nx := ok.regs.2.2 x mx
        have hq := hm x (List.mem_append_right _ mx)
        rw [known_reg nx.one nx.amt] at hq
        refine ⟨rfl, _, rfl, _, rfl, _, rfl, kd, _, rfl, getS (s4 _ _ hk) hq, lvs, .inr x, rfl, h8, small1000 (by rw [List.length_map] at hi; omega), _, Same.put s4 _ hvd, upd_same, ?_, ?_⟩
        · have := length_putK lvs (.inr x) (.int (TwM.look x sp.registers st.2)); omega
        · rw [take_snoc hx]
          exact m8.snoc rfl
      rintro H3 ⟨lvs, s4, h8, l8, m8⟩
      rw [List.length_map, List.take_length] at m8
      rw [List.length_map] at l8
      -- the changes
      obtain ⟨cb, hra, cas, hcb, cpr⟩ := e3
      have s5 := hn (sa.trans s4)
      refine ⟨_, rfl, rd_it (s5 _ _ hra) rfl ⟨cb, rfl, ⟨_, SqT.of (s5 _ _ hcb)⟩, for_it (walk_tup (xs := cas.map V.ref)) (fun i σ H4 => ∃ v5 v8 lvs, σ = [some (.ref p), some (.ref a), some (.ref b), some (.ref ra), some (.ref kd), v5, v6, some (.ref vd), v8, none, none] ∧
        Same H2 H4 ∧ H4 vd = some (.dK lvs) ∧ lvs.length ≤ 2 + i ∧ MapOn lvs sp.registers (TwM.late amtS oneS sp.registers st.2 ev.2 (r.changes.take i)))
        ⟨_, _, _, rfl, s4, h8, by omega, m8⟩ (fun i σ H4 _ ⟨_, _, _, _, s6, _⟩ => SqT.of ((hn (sa.trans s6)) _ _ hcb)) ?_ ?_⟩⟩
      · rintro i y σ H4 H5 hi ⟨v5, v8, lvs, rfl, s6, h9, l9, m9⟩ ⟨rfl, hy⟩
        obtain ⟨c, rfl, hc⟩ := refs_at hy
        obtain ⟨ch, hch, d, td, tt⟩ := paired_at cpr hc
        have mch : ch ∈ r.changes := List.mem_of_getElem? hch
        have tok := rok.ch.ok ch mch
        have few := rok.ch.few
        have lc : cas.length = r.changes.length := cpr.length
        rw [List.length_map] at hi
        have s7 := hn (sa.trans s6)
        refine ⟨c, _, rfl, SqT.of (s7 _ _ td), rfl, _, _, rfl, _, _, rfl, rfl, _, rfl, ?_⟩
        refine sum_terms (i := 9) (j := 10) (e := 4) (kn := TwM.known amtS oneS sp.registers st.2 ev.2) (tt.tk (Same.tk s7)) (by have := tok.few; omega) (s6 _ _ hk) (fun t ht => ⟨hm t.1 ?_, mul_ok (by have := tok.fac t ht; omega) (hkn t.1) (by omega) (by omega)⟩)
          (fun _ _ => rfl) (fun _ _ => rfl) (fun _ _ => rfl) (fun _ _ => rfl) fun H6 s8 => ?_
        · have := tok.src t ht
          simp only [List.mem_append, List.mem_cons, List.not_mem_nil, or_false] at this ⊢
          rcases this with q | q | q
          · exact .inr q
          · exact .inl (.inl q)
          · exact .inl (.inr q)
        · refine ⟨_, rfl, _, rfl, vd, _, rfl, putS (s8 _ _ h9) (by omega), _, _, _, rfl, Same.put (s6.trans s8) _ hvd, upd_same, ?_, ?_⟩
          · have := length_putK lvs (.inr ch.1) (.int (TwM.sumT (TwM.known amtS oneS sp.registers st.2 ev.2) ch.2)); omega
          · rw [take_snoc hch]
            unfold TwM.late
            rw [List.foldl_append]
            exact m9.put _ _
      rintro σ H4 ⟨v5, v8, lvs, rfl, s6, h9, l9, m9⟩
      have lc : cas.length = r.changes.length := cpr.length
      rw [List.length_map, lc, List.take_length] at m9
      -- the answer
      have s7 := hn (sa.trans s6)
      refine ⟨_, rfl, rd_it (s7 _ _ hra) rfl ⟨_, rfl, rd_f (s7 _ _ h1) (c_Program T) (n_Program_own_registers T) prog_registers ⟨ar, rfl, ⟨_, SqL.of (s7 _ _ h3)⟩, fun D hD => ?_⟩⟩⟩
      refine lc_it (walk_list (xs := sp.registers.map V.str)) (fun i H5 => Same H4 H5 ∧ H5 D = some (.lst (((sp.registers.take i).map (TwM.late amtS oneS sp.registers st.2 ev.2 r.changes)).map V.int)))
        ⟨same_new _ hD, upd_same⟩ (fun i H5 _ ⟨s8, _⟩ => SqL.of (s8 _ _ (s7 _ _ h3))) ?_ ?_
      · rintro i v H5 H6 hi ⟨s8, hd⟩ ⟨rfl, hv⟩
        obtain ⟨x, rfl, hx⟩ := strs_at hv
        have mx : x ∈ sp.registers := List.mem_of_getElem? hx
        refine ⟨rfl, _, rfl, _, rfl, vd, _, rfl, getS (s8 _ _ h9) (m9 x mx), _, hd, ?_, Same.put s8 _ hD, ?_⟩
        · rw [List.length_map, List.length_map, List.length_take]
          exact small1000 (by omega)
        · rw [upd_same, take_snoc hx, List.map_append, List.map_append]
          rfl
      · rintro H5 ⟨s8, hd⟩
        rw [List.length_map, List.take_length] at hd
        refine rd_tu hd fun l hl => ⟨by show 2 ≤ sizeLine; decide, fun z hz => ?_⟩
        have s9 := Same.new (s7.trans s8) (.tup ((sp.registers.map (TwM.late amtS oneS sp.registers st.2 ev.2 r.changes)).map V.int)) hl
        refine k z _ (Same.new s9 _ hz) ?_
        rw [em]
        exact ⟨l, upd_same, same_new _ hz _ _ upd_same⟩
end
end Tw
end

section
set_option Elab.async false
set_option linter.all false
set_option maxRecDepth 100000
set_option maxHeartbeats 4000000
/-! run; probes. -/
namespace Tw
open PySem PySem.Spec PyProof.Rows L2
section
variable {P : Program} {w : World} {K : PySem.W.Frag} {mg : Str → Option Value} {base : Heap}
def spRun (K : PySem.W.Frag) : Sp := fun vs H Q _ => ∃ p a l sp st es, vs = [.ref p, .ref a, .ref l] ∧ ProgAt K H p sp ∧ StateAt H a st ∧ TwM.StateOk sp st ∧ TwM.Bd 60 st.2 ∧ EventsAt H l es ∧ es.length ≤ 10 ∧ (∀ e ∈ es, EventOk sp.signs e) ∧
  ∀ c H', Same H H' → StateAt H' c (TwM.run amtS oneS sp st es) → Q (.ref c) H'
theorem ok_run (T : Txt K mg) : Met P w K mg base 4 "Program" "run" (spRun K) := by
  have sc : FnScope ["self", "state", "events", "event"] ["self", "state", "events"] (defScope s_Program_run) := ⟨rfl, rfl, rfl, by decide +kernel, rfl, by decide +kernel, by decide +kernel⟩
  refine ⟨fn_by (fd_Program_run T) sc (fun _ _ _ _ _ _ us hl => match us, hl with | [_, _, _], _ => rfl) ?_ fun cdv A outer s H vs Q E hr h => ?_, c_Program T, m_Program_run T⟩
  · rintro vs H Q E ⟨p, a, b, sp, st, ev, rfl, _⟩; rfl
  · obtain ⟨p, a, l, sp, st, es, rfl, hp, hst, so, hbd, hes, hn, hev, k⟩ := h
    refine ⟨_, pss_cons (ps_if (pt_not (pt_val (pe_m ((ok_is_state T).up (by decide)) hr (pv 0) (pa_cons (pv 1) pa_nil)))) pss_never pss_nil)
      (pss_cons (ps_expr (pe_m (ok_check_events T) hr (pv 0) (pa_cons (pv 2) pa_nil)))
      (pss_cons (ps_for PassesOwn.never rfl (pi_list (pv 2)) (pg_name (i := 3) sc.nd rfl (.inl rfl))
        (pss_one (ps_set (i := 1) sc.nd rfl (.inl rfl) (pe_m ((ok_moved T).up (by decide)) hr (pv 0) (pa_cons (pv 1) (pa_cons (pv 3) pa_nil))))))
      (pss_one (ps_ret (pv 1))))), ?_⟩
    obtain ⟨⟨dx, am, ar, as_, al, ad, _, h1, _⟩, ok⟩ := id hp
    refine ⟨_, rfl, p, dx, _, rfl, h1, prog_no (by decide +kernel), _, rfl, p, a, sp, st, rfl, hp, hst, so, fun H1 s1 => ⟨true, rfl, iteF ?_⟩⟩
    refine ⟨_, rfl, p, dx, _, rfl, s1 _ _ h1, prog_no (by decide +kernel), _, rfl, p, l, sp, es, rfl, hp.same s1, hes.same s1, hev, fun H2 s2 => ?_⟩
    have s12 := s1.trans s2
    obtain ⟨as, hl, pr⟩ := hes
    have ll : as.length = es.length := pr.length
    refine ⟨_, rfl, l, rfl, ⟨_, SqL.of (s12 _ _ hl)⟩, for_it (walk_list (xs := as.map V.ref)) (fun i σ H3 => ∃ c v, σ = [some (.ref p), some (.ref c), some (.ref l), v] ∧ Same H H3 ∧ StateAt H3 c (TwM.run amtS oneS sp st (es.take i)))
      ⟨a, none, rfl, s12, hst.same s12⟩ (fun i σ H3 _ ⟨_, _, _, s3, _⟩ => SqL.of (s3 _ _ hl)) ?_ ?_⟩
    · rintro i y σ H3 H4 hi ⟨c, v, rfl, s3, hc⟩ ⟨rfl, hy⟩
      obtain ⟨b, rfl, hb⟩ := refs_at hy
      obtain ⟨e, he, eat⟩ := paired_at pr hb
      rw [List.length_map] at hi
      have me := hev e (List.mem_of_getElem? he)
      have all : ∀ e ∈ es, e.2.natAbs ≤ 1000000000000 := fun e h => by have q := hev e h; have := q.lo; have := q.hi; omega
      refine ⟨_, rfl, p, dx, _, rfl, s3 _ _ h1, prog_no (by decide +kernel), _, rfl, _, rfl, p, c, b, sp, _, e, 60 + 12 * i, rfl, hp.same s3, hc, TwM.run_ok (specLin ok) _ _ so, s3 _ _ eat, by omega, by omega,
        TwM.run_lt (specBd ok) (by decide) hbd es all i (by omega), by have := me.lo; have := me.hi; omega, fun c2 H5 s5 h5 => ⟨c2, _, rfl, s3.trans s5, ?_⟩⟩
      rw [TwM.run_take sp st es he]
      exact h5
    · rintro σ H3 ⟨c, v, rfl, s3, hc⟩
      rw [List.length_map, ll, List.take_length] at hc
      exact ⟨_, rfl, k c H3 s3 hc⟩
end
end Tw
end

section
set_option Elab.async false
set_option linter.all false
set_option maxRecDepth 100000
set_option maxHeartbeats 4000000
/-! Program.__init__. -/
namespace Tw
open PySem PySem.Spec PyProof.Rows L2
/-- o.f as a target -/
def gFld (K : PySem.W.Frag) (to : TE) (f : Str) : TG := fun v σ H Q => to σ H fun x H1 => ∃ a C dx fs, x = .ref a ∧ H1 a = some (.ins C dx fs) ∧ Cls K C ∧ NoAttr K C f ∧ fs.length < 1000 ∧ Q σ (upd H1 a (.ins C dx (putF f v fs)))
theorem pg_fld {X : Cx} {o : Expr} {to : TE} {f : Str} {pos : Pos} (ho : PE X o to) : PG X (.Attribute o f pos) (gFld X.K to f) := by
  refine ⟨fun pins s σ H v u Q I r h => ?_⟩
  rw [assign_Attribute]
  refine wpAny_bind (wpAny_holding (thn (ho.run pins s σ H _ I h) fun ov s1 ⟨x, H1, I1, r1, a, C, dx, fs, ex, ea, c, n, l, q⟩ => ?_))
  subst ex
  obtain rfl : ov = Value.ref a := r1
  refine wpAny_bind (wpAny_standAt (wpAny_bind (wpAny_holding (setattr_ok I1 ea c n l r fun s2 I2 => wpAny_release ⟨σ, _, I2, q⟩))))
/-- the reading of such a store -/
theorem rd_gf {K : PySem.W.Frag} {f : Str} {v : V} {σ : L2.St} {H : Hp} {Q : L2.St → Hp → Prop} {i : Nat} {a C dx : Addr} {fs : List (Str × V)} (hσ : σ[i]? = some (some (.ref a))) (h : H a = some (.ins C dx fs)) (c : Cls K C) (n : NoAttr K C f) (hl : fs.length < 1000)
    (q : Q σ (upd H a (.ins C dx (putF f v fs)))) : gFld K (tVar i) f v σ H Q := ⟨_, hσ, a, C, dx, fs, rfl, h, c, n, hl, q⟩
section
variable {P : Program} {w : World} {K : PySem.W.Frag} {mg : Str → Option Value} {base : Heap} {k : Nat} {sp : Sp}
/-- a def with defaults, every parameter given -/
theorem fn_byD {nm qual : Str} {st : Stmt} {f : Addr} {N ps : List Str} {dvs : List V} (F : ∃ fd, FunD K nm qual (defArgs st) (defBody st) (defScope st) dvs [] f fd) (S : FnScope N ps (defScope st)) (hd : dvs ≠ [])
    (hb : ∀ (T : Addr) (kV doc pm : Value) (an : Option Addr) (cdv ct : Value) (us its : List Value), us.length = ps.length → its.length = dvs.length →
      ∃ k, bindArgs (PySem.W.fnOf nm qual (defArgs st) (defBody st) (defScope st) (.ref T) kV doc pm an cdv ct) ⟨us, []⟩ = seqItems? (.ref T) >>= k ∧ k (some its.toArray) = pure (ps.zip (us ++ its.drop dvs.length)))
    (len : ∀ vs H Q E, sp vs H Q E → vs.length = ps.length) (body : BodyOk P w K mg base N qual st f k sp) : FnR P w K mg base CX0 (k + 1) f sp := by
  obtain ⟨fd, F⟩ := F
  have G : FnOk P w K mg base CX0 (k + 1) f fd ps sp := F.ok S len fun cdv A outer s H vs Q E hr h => by
    obtain ⟨t, a, b⟩ := body cdv A outer s H vs Q E hr h
    exact ⟨t, PSs.nox a, b⟩
  obtain ⟨ds, hv, b⟩ := F.binds1 ps.length dvs.length hd (by omega) hb
  rw [List.drop_length] at hv
  cases hv
  exact (G.raw b .nil).imp fun vs H Q E h => by rw [List.append_nil]; exact h
end
theorem at_ne {H : Hp} {a x : Addr} {o o' : HO} (h : H a = some o) (hx : H x = some o') (n : o ≠ o') : a ≠ x := fun e => by
  subst e
  rw [h] at hx
  exact n (Option.some.inj hx)
theorem lst_ne {H : Hp} {a x : Addr} {xs : List V} {C dx : Addr} {fs : List (Str × V)} (h : H a = some (.lst xs)) (hx : H x = some (.ins C dx fs)) : a ≠ x := fun e => by rw [e, hx] at h; cases h
def fs3 (c1 c2 c3 : Addr) : List (Str × V) := [("own_modes", .ref c1), ("own_registers", .ref c2), ("own_signs", .ref c3)]
theorem put3 (c1 c2 c3 : Addr) : putF "own_signs" (.ref c3) (putF "own_registers" (.ref c2) (putF "own_modes" (.ref c1) [])) = fs3 c1 c2 c3 := by kernel_rfl
theorem put5 (c1 c2 c3 l7 d7 : Addr) : putF "by_pair" (.ref d7) (putF "own_rules" (.ref l7) (fs3 c1 c2 c3)) = progFs c1 c2 c3 l7 d7 := by kernel_rfl
/-- the heap without x -/
def hide (x : Addr) (H : Hp) : Hp := fun a => if a = x then none else H a
theorem hide_none {x : Addr} {H : Hp} : hide x H x = none := if_pos rfl
theorem hide_same {x : Addr} {H : Hp} : Same (hide x H) H := fun a o h => by
  unfold hide at h
  split at h
  · cases h
  · exact h
theorem hide_at {x a : Addr} {H : Hp} {o : HO} (h : H a = some o) (n : a ≠ x) : hide x H a = some o := by
  unfold hide
  rw [if_neg n]
  exact h
theorem Same.hide {x : Addr} {H0 H : Hp} (s : Same H0 H) (h : H0 x = none) : Same H0 (hide x H) := fun a o e => hide_at (s a o e) (ne_of_none e h)
/-- the pairs of the first rules -/
theorem pairs_new {F : Addr → TwM.Rule Str → Prop} {as : List Addr} {rs : List (TwM.Rule Str)} (pr : Paired F as rs) (nd : (rs.map fun r => (r.mode, r.sign)).Nodup) {i : Nat} {r : TwM.Rule Str} (hr : rs[i]? = some r) :
    valV (pairsOf (rs.take i) (as.take i)) [.inr r.mode, .inr r.sign] = none := by
  have pt : ∀ {as : List Addr} {rs : List (TwM.Rule Str)} (n : Nat), Paired F as rs → Paired F (as.take n) (rs.take n) := by
    intro as rs n p
    induction p generalizing n with
    | nil => rw [List.take_nil, List.take_nil]; exact .nil
    | cons h t ih => cases n with
      | zero => exact .nil
      | succ n => exact .cons h (ih n)
  rcases pair_at (m := r.mode) (s := r.sign) (pt i pr) with ⟨_, e⟩ | ⟨a, r', e1, _, _⟩
  · exact e
  · have h1 := List.mem_of_find?_eq_some e1
    have h2 := List.find?_some e1
    have h3 := of_decide_eq_true h2
    exact absurd (List.mem_map.mpr ⟨r', h1, by rw [h3.1, h3.2]⟩) (nodup_at (f := fun r : TwM.Rule Str => (r.mode, r.sign)) nd hr)
theorem pairs_snoc {as : List Addr} {rs : List (TwM.Rule Str)} (hl : as.length = rs.length) {i : Nat} {a : Addr} {r : TwM.Rule Str} (ha : as[i]? = some a) (hr : rs[i]? = some r) :
    pairsOf (rs.take (i + 1)) (as.take (i + 1)) = pairsOf (rs.take i) (as.take i) ++ [([.inr r.mode, .inr r.sign], .ref a)] := by
  unfold pairsOf
  rw [take_snoc ha, take_snoc hr, List.zipWith_append (by rw [List.length_take, List.length_take, hl])]
  rfl
theorem pairs_len {as : List Addr} {rs : List (TwM.Rule Str)} (i : Nat) : (pairsOf (rs.take i) (as.take i)).length ≤ i := by
  unfold pairsOf
  rw [List.length_zipWith, List.length_take]
  omega
section
variable {P : Program} {w : World} {K : PySem.W.Frag} {mg : Str → Option Value} {base : Heap}
def spProgInit (K : PySem.W.Frag) : Sp := fun vs H Q _ => ∃ (x dx am ar as_ al : Addr) (H0 : Hp) (as : List Addr) (sp : TwM.Spec Str), vs = [.ref x, .ref am, .ref ar, .ref as_, .ref al] ∧ H0 x = none ∧ Same H0 H ∧ H x = some (.ins (He.ga K "Program") dx []) ∧
  H0 am = some (.lst (sp.modes.map V.str)) ∧ H0 ar = some (.lst (sp.registers.map V.str)) ∧ H0 as_ = some (.lst (sp.signs.map V.str)) ∧ H0 al = some (.lst (as.map V.ref)) ∧ Paired (RuleAt H0) as sp.rules ∧ SpecOk sp ∧
  ∀ H', Same H0 H' → ProgAt K H' x sp → Q .non H'
theorem ok_Program_init (T : Txt K mg) : Mak P w K mg base 5 "Program" (spProgInit K) := by
  have sc : FnScope ["self", "modes", "registers", "signs", "rules", "names", "least", "most", "index", "rule"] ["self", "modes", "registers", "signs", "rules"] (defScope s_Program_init) := ⟨rfl, rfl, rfl, by decide +kernel, rfl, by decide +kernel, by decide +kernel⟩
  refine ⟨fn_byD (fd_Program_init T) sc (by simp) (fun T kV doc pm an cdv ct us its hl hd => match us, its, hl, hd with | [_, _, _, _, _], [_], _, _ => ⟨_, rfl, rfl⟩) ?_ fun cdv A outer s H vs Q E hr h => ?_, g_Program T, k_Program T⟩
  · rintro vs H Q E ⟨x, dx, am, ar, as_, al, H0, as, sp, rfl, _⟩; rfl
  · obtain ⟨x, dx, am, ar, as_, al, H0, as, sp, rfl, hx0, s0, hx, hm, hrg, hsg, hal, pr, ok, k⟩ := h
    have hu := room_u hr
    refine ⟨_, pss_cons (ps_expr (pe_c ((ok_check_names T).up (by decide)) hr (pa_cons (pe_lst (pa_cons (pv 1) (pa_cons (pv 2) (pa_cons (pv 3) pa_nil)))) pa_nil)))
      (pss_cons (ps_for PassesOwn.never rfl (pi_list (pe_lst (pa_cons (pe_tup (pa_cons (pv 1) (pa_cons pe_int (pa_cons pe_int pa_nil)))) (pa_cons (pe_tup (pa_cons (pv 2) (pa_cons pe_int (pa_cons pe_int pa_nil))))
          (pa_cons (pe_tup (pa_cons (pv 3) (pa_cons pe_int (pa_cons pe_int pa_nil)))) pa_nil))))) (pg_tup rfl (pgs_cons (pg_name (i := 5) sc.nd rfl (.inl rfl)) (pgs_cons (pg_name (i := 6) sc.nd rfl (.inl rfl)) (pgs_cons (pg_name (i := 7) sc.nd rfl (.inl rfl)) pgs_nil))))
        (pss_one (ps_if (pt_not (pt_chain op_le op_le (pv 6) (pe_b1 cr_ln (b_len T) (pv 5)) (pv 7))) pss_never pss_nil)))
      (pss_cons (ps_if (pt_cmpR op_gt (pe_op op_mulW (pe_b1 cr_ln (b_len T) (pv 1)) (pe_op op_add (pe_b1 cr_ln (b_len T) (pv 2)) pe_int)) pe_int (nomark _)) pss_never pss_nil)
      (pss_cons (ps_asg (pe_tup (pa_cons (pe_t1 cr_li (b_list T) (pv 1)) (pa_cons (pe_t1 cr_li (b_list T) (pv 2)) (pa_cons (pe_t1 cr_li (b_list T) (pv 3)) pa_nil)))) (pg_tup rfl (pgs_cons (pg_fld (pv 0)) (pgs_cons (pg_fld (pv 0)) (pgs_cons (pg_fld (pv 0)) pgs_nil)))))
      (pss_cons (ps_if (pt_not (pt_val (pe_isLT T (pv 4)))) pss_never pss_nil)
      (pss_cons (ps_for PassesOwn.never rfl (pi_enum (by rfl) (b_enumerate T) (pa_cons (pv 4) pa_nil)) (pg_tup rfl (pgs_cons (pg_name (i := 8) sc.nd rfl (.inl rfl)) (pgs_cons (pg_name (i := 9) sc.nd rfl (.inl rfl)) pgs_nil)))
        (pss_one (ps_if (pt_not (pt_val (pe_m (ok_is_rule T) hr (pv 0) (pa_cons (pv 9) pa_nil)))) pss_never pss_nil)))
      (pss_cons (ps_asg (pe_tup (pa_cons (pe_t1 cr_li (b_list T) (pv 4)) (pa_cons pe_dnewT pa_nil))) (pg_tup rfl (pgs_cons (pg_fld (pv 0)) (pgs_cons (pg_fld (pv 0)) pgs_nil))))
      (pss_one (ps_for PassesOwn.never rfl (pi_enum (by rfl) (b_enumerate T) (pa_cons (pv 4) pa_nil)) (pg_tup rfl (pgs_cons (pg_name (i := 8) sc.nd rfl (.inl rfl)) (pgs_cons (pg_name (i := 9) sc.nd rfl (.inl rfl)) pgs_nil)))
        (pss_cons (ps_if (pt_cmp (pc_din hu (pe_tup (pa_cons (pe_ti (pv 9)) (pa_cons (pe_ti (pv 9)) pa_nil))) (pe_f (pv 0))) rfl) pss_never pss_nil)
        (pss_one (ps_dput hu (pe_f (pv 0)) (pe_tup (pa_cons (pe_ti (pv 9)) (pa_cons (pe_ti (pv 9)) pa_nil))) (pv 9) rfl))))))))))), ?_⟩
    -- the names
    have nx : ∀ {a : Addr} {o : HO}, H0 a = some o → a ≠ x := fun h e => by rw [e, hx0] at h; cases h
    have s0x : ∀ {H' : Hp}, Same H H' → Same H0 H' ∧ H' x = some (.ins (He.ga K "Program") dx []) := fun z => ⟨s0.trans z, z _ _ hx⟩
    refine ⟨_, rfl, _, rfl, _, rfl, by show 3 ≤ sizeLine; decide, fun l1 hl1 => ?_⟩
    have t1 := same_new (.lst [V.ref am, V.ref ar, V.ref as_]) hl1
    refine ⟨l1, _, rfl, upd_same, ?_, fun H1 z1 => ?_⟩
    · intro v hv
      have hs1 := s0.trans t1
      simp only [List.mem_cons, List.not_mem_nil, or_false] at hv
      rcases hv with rfl | rfl | rfl
      · exact ⟨am, sp.modes, rfl, hs1 _ _ hm, ok.modes.1, by have := ok.modes.2.2.1; omega, ok.modes.2.2.2⟩
      · exact ⟨ar, sp.registers, rfl, hs1 _ _ hrg, ok.regs.1, by have := ok.regs.2.1; omega, ok.regs.2.2⟩
      · exact ⟨as_, sp.signs, rfl, hs1 _ _ hsg, ok.signs.1, by have := ok.signs.2.2.1; omega, ok.signs.2.2.2⟩
    obtain ⟨u1, ux1⟩ := s0x (t1.trans z1)
    -- the counts
    refine ⟨_, rfl, by show 3 ≤ sizeLine; decide, fun q1 hq1 => ?_⟩
    refine ⟨_, rfl, by show 3 ≤ sizeLine; decide, fun q2 hq2 => ?_⟩
    refine ⟨_, rfl, by show 3 ≤ sizeLine; decide, fun q3 hq3 => ?_⟩
    refine ⟨by show 3 ≤ sizeLine; decide, fun l2 hl2 => ?_⟩
    have a1 := same_new (.tup [V.ref am, V.int 1, V.int 4]) hq1
    have a2 := Same.new a1 (.tup [V.ref ar, V.int 0, V.int 4]) hq2
    have a3 := Same.new a2 (.tup [V.ref as_, V.int 1, V.int 6]) hq3
    have a4 := Same.new a3 (.lst [V.ref q1, V.ref q2, V.ref q3]) hl2
    have k3 := same_new (.lst [V.ref q1, V.ref q2, V.ref q3]) hl2
    have k2 := Same.trans (same_new (.tup [V.ref as_, V.int 1, V.int 6]) hq3) k3
    have k1 := Same.trans (same_new (.tup [V.ref ar, V.int 0, V.int 4]) hq2) k2
    have b1 := k1 _ _ upd_same
    have b2 := k2 _ _ upd_same
    have b3 := k3 _ _ upd_same
    refine ⟨l2, rfl, ⟨_, SqL.of upd_same⟩, for_it (walk_list (xs := [V.ref q1, V.ref q2, V.ref q3])) (fun i σ H2 => ∃ v5 v6 v7, σ = [some (.ref x), some (.ref am), some (.ref ar), some (.ref as_), some (.ref al), v5, v6, v7, none, none] ∧
        H2 = _) ⟨none, none, none, rfl, rfl⟩ (fun i σ H2 _ ⟨_, _, _, _, e⟩ => by rw [e]; exact SqL.of upd_same) ?_ ?_⟩
    · rintro i y σ H2 H3 hi ⟨v5, v6, v7, rfl, rfl⟩ ⟨rfl, hy⟩
      have key : ∃ (t ad : Addr) (lo hi : Int) (ss : List Str), y = .ref t ∧ (upd (upd (upd (upd H1 q1 (.tup [V.ref am, V.int 1, V.int 4])) q2 (.tup [V.ref ar, V.int 0, V.int 4])) q3 (.tup [V.ref as_, V.int 1, V.int 6])) l2 (.lst [V.ref q1, V.ref q2, V.ref q3])) t = some (.tup [.ref ad, .int lo, .int hi]) ∧
          H0 ad = some (.lst (ss.map V.str)) ∧ lo ≤ (ss.length : Int) ∧ (ss.length : Int) ≤ hi := by
        match i, hy with
        | 0, hy => exact ⟨q1, am, 1, 4, sp.modes, (Option.some.inj hy).symm, b1, hm, by have := ok.modes.2.1; omega, by have := ok.modes.2.2.1; omega⟩
        | 1, hy => exact ⟨q2, ar, 0, 4, sp.registers, (Option.some.inj hy).symm, b2, hrg, by omega, by have := ok.regs.2.1; omega⟩
        | 2, hy => exact ⟨q3, as_, 1, 6, sp.signs, (Option.some.inj hy).symm, b3, hsg, by have := ok.signs.2.1; omega, by have := ok.signs.2.2.1; omega⟩
        | _ + 3, hy => simp at hy
      obtain ⟨t, ad, lo, hi', ss, rfl, e1, e2, e3, e4⟩ := key
      refine ⟨t, _, rfl, SqT.of e1, rfl, _, _, rfl, _, _, rfl, _, _, rfl, rfl, ?_⟩
      refine ⟨_, rfl, _, rfl, rd_lenL ((u1.trans a4) _ _ e2) ⟨_, _, rfl, rfl, _, rfl, ?_⟩⟩
      rw [List.length_map]
      refine it_dec e3 ⟨_, rfl, _, _, rfl, rfl, _, rfl, ?_⟩
      exact it_ndecF e4 ⟨_, _, _, rfl, rfl⟩
    rintro σ H2 ⟨v5, v6, v7, rfl, rfl⟩
    obtain ⟨u2, ux2⟩ := s0x ((t1.trans z1).trans a4)
    -- the width
    refine ⟨_, rfl, rd_lenL (u2 _ _ hm) ⟨_, rfl, rd_lenL (u2 _ _ hrg) ⟨_, _, rfl, rfl, ?_⟩⟩⟩
    rw [List.length_map, List.length_map]
    have w1 := ok.modes.2.2.1
    have w2 := ok.regs.2.1
    refine ⟨_, _, rfl, rfl, wide_mul (a := 3) (b := 3) (by omega) (by omega) (by decide) (by decide) (by decide), _, _, rfl, rfl, _, rfl, ?_⟩
    refine it_decF (by have h := ok.wide; have e : ((sp.modes.length : Int) * ((sp.registers.length : Int) + 1)) = ((sp.modes.length * (sp.registers.length + 1) : Nat) : Int) := by rw [Int.natCast_mul, Int.natCast_add]; rfl
                       rw [e]; omega) ?_
    -- the three lists
    refine ⟨_, rfl, rd_li (u2 _ _ hm) fun c1 hc1 => ?_⟩
    have d1 := Same.new u2 (.lst (sp.modes.map V.str)) hc1
    refine ⟨_, rfl, rd_li (d1 _ _ hrg) fun c2 hc2 => ?_⟩
    have d2 := Same.new d1 (.lst (sp.registers.map V.str)) hc2
    refine ⟨_, rfl, rd_li (d2 _ _ hsg) fun c3 hc3 => ⟨by show 3 ≤ sizeLine; decide, fun tq htq => ?_⟩⟩
    have g3 := same_new (.tup [V.ref c1, V.ref c2, V.ref c3]) htq
    have g2 := Same.trans (same_new (.lst (sp.signs.map V.str)) hc3) g3
    have g1 := Same.trans (same_new (.lst (sp.registers.map V.str)) hc2) g2
    have g0 := Same.trans (same_new (.lst (sp.modes.map V.str)) hc1) g1
    have f1 := g1 _ _ upd_same
    have f2 := g2 _ _ upd_same
    have f3 := g3 _ _ upd_same
    have ux3 := g0 _ _ ux2
    have fb1 := hide_at f1 (lst_ne f1 ux3)
    have fb2 := hide_at f2 (lst_ne f2 ux3)
    have fb3 := hide_at f3 (lst_ne f3 ux3)
    have B0 := Same.hide (Same.new (Same.new d2 (.lst (sp.signs.map V.str)) hc3) (.tup [V.ref c1, V.ref c2, V.ref c3]) htq) hx0
    have hidB := hide_none (x := x) (H := upd (upd (upd (upd (upd (upd (upd (upd H1 q1 (.tup [V.ref am, V.int 1, V.int 4])) q2 (.tup [V.ref ar, V.int 0, V.int 4])) q3 (.tup [V.ref as_, V.int 1, V.int 6])) l2 (.lst [V.ref q1, V.ref q2, V.ref q3])) c1 (.lst (sp.modes.map V.str))) c2 (.lst (sp.registers.map V.str))) c3 (.lst (sp.signs.map V.str))) tq (.tup [V.ref c1, V.ref c2, V.ref c3]))
    have hidS := hide_same (x := x) (H := upd (upd (upd (upd (upd (upd (upd (upd H1 q1 (.tup [V.ref am, V.int 1, V.int 4])) q2 (.tup [V.ref ar, V.int 0, V.int 4])) q3 (.tup [V.ref as_, V.int 1, V.int 6])) l2 (.lst [V.ref q1, V.ref q2, V.ref q3])) c1 (.lst (sp.modes.map V.str))) c2 (.lst (sp.registers.map V.str))) c3 (.lst (sp.signs.map V.str))) tq (.tup [V.ref c1, V.ref c2, V.ref c3]))
    refine ⟨tq, _, rfl, SqT.of upd_same, rfl, _, _, rfl, rd_gf rfl ux3 (c_Program T) (n_Program_own_modes T) (by decide) ?_⟩
    refine ⟨_, _, rfl, rd_gf rfl upd_same (c_Program T) (n_Program_own_registers T) (by show 1 < 1000; decide) ?_⟩
    refine ⟨_, _, rfl, rd_gf rfl upd_same (c_Program T) (n_Program_own_signs T) (by show 2 < 1000; decide) ⟨rfl, ?_⟩⟩
    have e3 := put3 c1 c2 c3
    have v1 := Same.put (Same.put (Same.put hidS (.ins (He.ga K "Program") dx (putF "own_modes" (.ref c1) [])) hidB) (.ins (He.ga K "Program") dx (putF "own_registers" (.ref c2) (putF "own_modes" (.ref c1) []))) hidB)
      (.ins (He.ga K "Program") dx (putF "own_signs" (.ref c3) (putF "own_registers" (.ref c2) (putF "own_modes" (.ref c1) [])))) hidB
    rw [e3] at v1 ⊢
    refine ⟨_, rfl, rd_LTl (v1 _ _ (B0 _ _ hal)) fun q hq => ⟨true, rfl, iteF ?_⟩⟩
    have v2 := Same.new v1 (.tup [V.ty "list", V.ty "tuple"]) hq
    have x2 := same_new (.tup [V.ty "list", V.ty "tuple"]) hq _ _ upd_same
    have hx3 : ∀ {m : Str}, [("own_modes" : Str), "own_registers", "own_signs"].contains m = false → (fs3 c1 c2 c3).lookup m = none := fun h => lookup_no h
    have few := ok.few
    have lal : as.length = sp.rules.length := pr.length
    generalize hB : hide x _ = B at hidB hidS B0 fb1 fb2 fb3 v1 v2
    refine ⟨_, rfl, al, _, rfl, SqL.of (v2 _ _ (B0 _ _ hal)), for_it (walk_enum (xs := as.map V.ref)) (fun i σ H2 => ∃ v8 v9, σ = [some (.ref x), some (.ref am), some (.ref ar), some (.ref as_), some (.ref al), v5, v6, v7, v8, v9] ∧ Same B H2 ∧
        H2 x = some (.ins (He.ga K "Program") dx (fs3 c1 c2 c3))) ⟨_, _, rfl, v2, x2⟩ (fun i σ H2 _ ⟨_, _, _, s4, _⟩ => SqL.of (s4 _ _ (B0 _ _ hal))) ?_ ?_⟩
    · rintro j z σ H4 H5 hj ⟨v8, v9, rfl, s4, hx4⟩ ⟨t, x', y, rfl, ht, rfl, e1, e2⟩
      have e1' := Option.some.inj e1
      subst e1'
      obtain ⟨b, rfl, hb⟩ := refs_at e2
      obtain ⟨r, hr2, rat⟩ := paired_at pr hb
      have s5 := Same.new s4 (.tup [V.int (j : Nat), V.ref b]) ht
      have hx5 := same_new (.tup [V.int (j : Nat), V.ref b]) ht _ _ hx4
      refine ⟨t, _, rfl, SqT.of upd_same, rfl, _, _, rfl, _, _, rfl, rfl, ?_⟩
      refine ⟨_, rfl, x, dx, _, rfl, hx5, hx3 (by decide +kernel), _, rfl, x, b, sp, r, rfl, ⟨⟨dx, _, c1, c2, c3, hx5, by kernel_rfl, by kernel_rfl, by kernel_rfl, s5 _ _ fb1, s5 _ _ fb2, s5 _ _ fb3, hx3 (by decide +kernel)⟩, by omega⟩, rat.tk (Same.tk (B0.trans s5)), ok.rules r (List.mem_of_getElem? hr2), fun H6 s6 => ⟨true, rfl, iteF ⟨_, _, rfl, s5.trans s6, s6 _ _ hx5⟩⟩⟩
    rintro σ H4 ⟨v8, v9, rfl, s4, hx4⟩
    refine ⟨_, rfl, rd_li (s4 _ _ (B0 _ _ hal)) fun l7 hl7 => ?_⟩
    have s5 := Same.new s4 (.lst (as.map V.ref)) hl7
    intro d7 hd7
    have s6 := Same.new s5 (.dT []) hd7
    refine ⟨by show 2 ≤ sizeLine; decide, fun t7 ht7 => ?_⟩
    have s7 := Same.new s6 (.tup [V.ref l7, V.ref d7]) ht7
    have y6 := Same.trans (same_new (.dT []) hd7) (same_new (.tup [V.ref l7, V.ref d7]) ht7)
    have hx7 := y6 _ _ (same_new (.lst (as.map V.ref)) hl7 _ _ hx4)
    have hd7' := same_new (.tup [V.ref l7, V.ref d7]) ht7 _ _ upd_same
    have d7x : d7 ≠ x := at_ne hd7' hx7 (fun z => nomatch z)
    have B7 : B d7 = none := by
      cases q : B d7 with
      | none => rfl
      | some o => have := s5 _ _ q; rw [hd7] at this; cases this
    refine ⟨t7, _, rfl, SqT.of upd_same, rfl, _, _, rfl, rd_gf rfl hx7 (c_Program T) (n_Program_own_rules T) (by show 3 < 1000; decide) ?_⟩
    refine ⟨_, _, rfl, rd_gf rfl upd_same (c_Program T) (n_Program_by_pair T) (by show 4 < 1000; decide) ⟨rfl, ?_⟩⟩
    have e5 := put5 c1 c2 c3 l7 d7
    have s8 := Same.put (Same.put s7 (.ins (He.ga K "Program") dx (putF "own_rules" (.ref l7) (fs3 c1 c2 c3))) hidB) (.ins (He.ga K "Program") dx (putF "by_pair" (.ref d7) (putF "own_rules" (.ref l7) (fs3 c1 c2 c3)))) hidB
    rw [e5] at s8 ⊢
    refine ⟨_, rfl, al, _, rfl, SqL.of (s8 _ _ (B0 _ _ hal)), for_it (walk_enum (xs := as.map V.ref)) (fun i σ H2 => ∃ v8 v9, σ = [some (.ref x), some (.ref am), some (.ref ar), some (.ref as_), some (.ref al), v5, v6, v7, v8, v9] ∧ Same B H2 ∧
        H2 x = some (.ins (He.ga K "Program") dx (progFs c1 c2 c3 l7 d7)) ∧ H2 d7 = some (.dT (pairsOf (sp.rules.take i) (as.take i)))) ⟨_, _, rfl, s8, upd_same, by rw [upd_ne d7x, upd_ne d7x]; exact hd7'⟩ (fun i σ H2 _ ⟨_, _, _, s4, _⟩ => SqL.of (s4 _ _ (B0 _ _ hal))) ?_ ?_⟩
    · rintro j z σ H9 H5 hj ⟨v8, v9, rfl, s9, hx9, hd9⟩ ⟨t, x', y, rfl, ht, rfl, e1, e2⟩
      have e1' := Option.some.inj e1
      subst e1'
      obtain ⟨b, rfl, hb⟩ := refs_at e2
      obtain ⟨r, hr2, rb, hrb, hrc⟩ := paired_at pr hb
      rw [List.length_map] at hj
      have n1 := same_new (.tup [V.int (j : Nat), V.ref b]) ht
      have s10 := s9.trans n1
      refine ⟨t, _, rfl, SqT.of upd_same, rfl, _, _, rfl, _, _, rfl, rfl, ?_⟩
      refine ⟨_, rfl, rd_it (s10 _ _ (B0 _ _ hrb)) rfl ⟨_, rfl, rd_it (s10 _ _ (B0 _ _ hrb)) rfl ⟨by show 2 ≤ sizeLine; decide, fun t2 ht2 => ?_⟩⟩⟩
      have n2 := Same.new n1 (.tup [V.str r.mode, V.str r.sign]) ht2
      have s11 := s9.trans n2
      refine ⟨_, rfl, rd_f (n2 _ _ hx9) (c_Program T) (n_Program_by_pair T) prog_pair ⟨d7, _, rfl, DGet.t (k := [.inr r.mode, .inr r.sign]) (n2 _ _ hd9) upd_same, ?_⟩⟩
      rw [pairs_new pr ok.pairs hr2]
      refine ⟨false, rfl, iteF ?_⟩
      refine ⟨_, rfl, _, rfl, rd_f (n2 _ _ hx9) (c_Program T) (n_Program_by_pair T) prog_pair ?_⟩
      refine ⟨_, rfl, rd_it (s11 _ _ (B0 _ _ hrb)) rfl ⟨_, rfl, rd_it (s11 _ _ (B0 _ _ hrb)) rfl ⟨by show 2 ≤ sizeLine; decide, fun t3 ht3 => ?_⟩⟩⟩
      have n3 := Same.new n2 (.tup [V.str r.mode, V.str r.sign]) ht3
      refine ⟨d7, _, rfl, DPut.t (k := [.inr r.mode, .inr r.sign]) (n3 _ _ hd9) upd_same (small1000 (by have := pairs_len (as := as) (rs := sp.rules) j; omega)), ?_⟩
      refine ⟨_, _, rfl, Same.put (s9.trans n3) _ B7, by rw [upd_ne (Ne.symm d7x)]; exact n3 _ _ hx9, ?_⟩
      rw [upd_same, putK_new _ (pairs_new pr ok.pairs hr2), pairs_snoc lal hb hr2]
    · rintro σ H9 ⟨v8, v9, rfl, s9, hx9, hd9⟩
      rw [List.length_map] at hd9
      rw [List.take_length, lal, List.take_length] at hd9
      refine k H9 (B0.trans s9) ⟨⟨dx, c1, c2, c3, l7, d7, as, hx9, s9 _ _ fb1, s9 _ _ fb2, s9 _ _ fb3, hd9, Paired.imp (fun _ _ => RuleAt.tk (Same.tk (B0.trans s9))) pr⟩, ok⟩
end
end Tw
end

section
set_option Elab.async false
set_option linter.all false
set_option maxRecDepth 100000
set_option maxHeartbeats 4000000
/-! Probes. -/
namespace Tw
open PySem PySem.Spec PyProof.Rows L2
abbrev Given := TwM.Given Str
structure GivenOk (g : Given) : Prop where
  spec : SpecOk g.spec
  start : TwM.StateOk g.spec g.start
  bd : TwM.Bd 60 g.start.2
  nd : (g.look.map (·.1)).Nodup
  mode : ∀ l ∈ g.look, l.1 ∈ g.spec.modes
  terms : ∀ l ∈ g.look, TermsOk (g.spec.registers ++ [oneS]) l.2
  few : g.look.length ≤ 10
theorem GivenOk.lin {g : Given} (ok : GivenOk g) : TwM.GivenLin g := ⟨specLin ok.spec, ok.start⟩
def looksOf (lk : List (Str × Terms)) (as : List Addr) : List (Key × V) := List.zipWith (fun l a => (Sum.inr l.1, V.ref a)) lk as
def probeFs (q st bm ol : Addr) : List (Str × V) := [("program", .ref q), ("start", .ref st), ("by_mode", .ref bm), ("own_look", .ref ol)]
abbrev probeKeys : List Str := ["program", "start", "by_mode", "own_look"]
theorem probe_no {q st bm ol : Addr} {m : Str} (h : probeKeys.contains m = false) : (probeFs q st bm ol).lookup m = none := lookup_no h
section
variable {q st bm ol : Addr}
theorem probe_program : (probeFs q st bm ol).lookup ("program" : Str) = some (.ref q) := by kernel_rfl
theorem probe_start : (probeFs q st bm ol).lookup ("start" : Str) = some (.ref st) := by kernel_rfl
theorem probe_mode : (probeFs q st bm ol).lookup ("by_mode" : Str) = some (.ref bm) := by kernel_rfl
end
structure ProbeAt (K : PySem.W.Frag) (H : Hp) (p : Addr) (g : Given) : Prop where
  ex : ∃ (dx q st bm ol : Addr) (as : List Addr), H p = some (.ins (He.ga K "Probe") dx (probeFs q st bm ol)) ∧ ProgAt K H q g.spec ∧ StateAt H st g.start ∧ H bm = some (.dK (looksOf g.look as)) ∧ Paired (fun a l => TermsAt H a l.2) as g.look
  ok : GivenOk g
theorem ProbeAt.same {K : PySem.W.Frag} {H H' : Hp} {p : Addr} {g : Given} (h : ProbeAt K H p g) (k : Same H H') : ProbeAt K H' p g := by
  obtain ⟨⟨dx, q, st, bm, ol, as, h1, h2, h3, h4, h5⟩, ok⟩ := h
  exact ⟨⟨dx, q, st, bm, ol, as, k _ _ h1, h2.same k, h3.same k, k _ _ h4, Paired.imp (fun _ _ => TermsAt.tk (Same.tk k)) h5⟩, ok⟩
theorem ProbeAt.kp {K : PySem.W.Frag} {H H' : Hp} {p : Addr} {g : Given} (h : ProbeAt K H p g) (k : Kp H H') : ProbeAt K H' p g := by
  obtain ⟨⟨dx, q, st, bm, ol, as, h1, h2, h3, h4, h5⟩, ok⟩ := h
  exact ⟨⟨dx, q, st, bm, ol, as, k _ _ h1 rfl, h2.kp k, h3.tk k.tk, k _ _ h4 rfl, Paired.imp (fun _ _ => TermsAt.tk k.tk) h5⟩, ok⟩
theorem look_find {F : Addr → (Str × Terms) → Prop} {m : Str} : ∀ {as : List Addr} {lk : List (Str × Terms)}, Paired F as lk →
    (lk.find? (fun l => decide (l.1 = m)) = none ∧ valV (looksOf lk as) (.inr m) = none) ∨ ∃ a l, lk.find? (fun l => decide (l.1 = m)) = some l ∧ valV (looksOf lk as) (.inr m) = some (.ref a) ∧ F a l
  | _, _, .nil => .inl ⟨rfl, rfl⟩
  | a :: as, l :: lk, .cons h t => by
    show (_ ∧ valV ((Sum.inr l.1, V.ref a) :: looksOf lk as) _ = _) ∨ ∃ a' r', _ ∧ valV ((Sum.inr l.1, V.ref a) :: looksOf lk as) _ = _ ∧ _
    by_cases e : l.1 = m
    · refine .inr ⟨a, l, ?_, ?_, h⟩
      · rw [List.find?_cons, decide_eq_true e]
      · rw [valV_pos (by show Sum.inr l.1 = _; rw [e])]
    · rw [List.find?_cons, decide_eq_false e, valV_neg (sr_ne e)]
      exact look_find t
theorem paired_take {α β : Type} {F : α → β → Prop} {as : List α} {rs : List β} (n : Nat) (p : Paired F as rs) : Paired F (as.take n) (rs.take n) := by
  induction p generalizing n with
  | nil => rw [List.take_nil, List.take_nil]; exact .nil
  | cons h t ih => cases n with
    | zero => exact .nil
    | succ n => exact .cons h (ih n)
theorem paired_snoc {α β : Type} {F : α → β → Prop} {as : List α} {bs : List β} {a : α} {b : β} (p : Paired F as bs) (h : F a b) : Paired F (as ++ [a]) (bs ++ [b]) := by
  induction p with
  | nil => exact .cons h .nil
  | cons h1 t ih => exact .cons h1 ih
theorem looks_new {F : Addr → (Str × Terms) → Prop} {as : List Addr} {lk : List (Str × Terms)} (pr : Paired F as lk) (nd : (lk.map (·.1)).Nodup) {i : Nat} {l : Str × Terms} (hl : lk[i]? = some l) : valV (looksOf (lk.take i) (as.take i)) (.inr l.1) = none := by
  rcases look_find (m := l.1) (paired_take i pr) with ⟨_, e⟩ | ⟨a, l', e1, _, _⟩
  · exact e
  · have h1 := List.mem_of_find?_eq_some e1
    have h2 := List.find?_some e1
    have h3 := of_decide_eq_true h2
    exact absurd (List.mem_map.mpr ⟨l', h1, h3⟩) (nodup_at (f := fun l : Str × Terms => l.1) nd hl)
theorem looks_snoc {as : List Addr} {lk : List (Str × Terms)} (hl : as.length = lk.length) {i : Nat} {a : Addr} {l : Str × Terms} (ha : as[i]? = some a) (hr : lk[i]? = some l) :
    looksOf (lk.take (i + 1)) (as.take (i + 1)) = looksOf (lk.take i) (as.take i) ++ [(.inr l.1, .ref a)] := by
  unfold looksOf
  rw [take_snoc ha, take_snoc hr, List.zipWith_append (by rw [List.length_take, List.length_take, hl])]
  rfl
theorem looks_len {as : List Addr} {lk : List (Str × Terms)} (i : Nat) : (looksOf (lk.take i) (as.take i)).length ≤ i := by
  unfold looksOf
  rw [List.length_zipWith, List.length_take]
  omega
def pf3 (q st bm : Addr) : List (Str × V) := [("program", .ref q), ("start", .ref st), ("by_mode", .ref bm)]
theorem putp3 (c1 c2 c3 : Addr) : putF "by_mode" (.ref c3) (putF "start" (.ref c2) (putF "program" (.ref c1) [])) = pf3 c1 c2 c3 := by kernel_rfl
theorem putp4 (c1 c2 c3 c4 : Addr) : putF "own_look" (.ref c4) (pf3 c1 c2 c3) = probeFs c1 c2 c3 c4 := by kernel_rfl
theorem pf3_mode {q st bm : Addr} : (pf3 q st bm).lookup ("by_mode" : Str) = some (.ref bm) := by kernel_rfl
section
variable {P : Program} {w : World} {K : PySem.W.Frag} {mg : Str → Option Value} {base : Heap}
def spProbeInit (K : PySem.W.Frag) : Sp := fun vs H Q _ => ∃ (x dx q st ll : Addr) (H0 : Hp) (as : List Addr) (g : Given), vs = [.ref x, .ref q, .ref st, .ref ll] ∧ H0 x = none ∧ Same H0 H ∧ H x = some (.ins (He.ga K "Probe") dx []) ∧
  ProgAt K H0 q g.spec ∧ StateAt H0 st g.start ∧ H0 ll = some (.lst (as.map V.ref)) ∧ Paired (ChangeAt H0) as g.look ∧ GivenOk g ∧ ∀ H', Same H0 H' → ProbeAt K H' x g → Q .non H'
theorem ok_Probe_init (T : Txt K mg) : Mak P w K mg base 3 "Probe" (spProbeInit K) := by
  have sc : FnScope ["self", "program", "start", "look", "sources", "index", "pair"] ["self", "program", "start", "look"] (defScope s_Probe_init) := ⟨rfl, rfl, rfl, by decide +kernel, rfl, by decide +kernel, by decide +kernel⟩
  refine ⟨fn_by (fd_Probe_init T) sc (fun _ _ _ _ _ _ us hl => match us, hl with | [_, _, _, _], _ => rfl) ?_ fun cdv A outer s H vs Q E hr h => ?_, g_Probe T, k_Probe T⟩
  · rintro vs H Q E ⟨x, dx, q, st, ll, H0, as, g, rfl, _⟩; rfl
  · obtain ⟨x, dx, q, st, ll, H0, as, g, rfl, hx0, s0, hx, hp, hst, hll, pr, ok, k⟩ := h
    have hu := room_u hr
    refine ⟨_, pss_cons (ps_if (pt_not (pt_val (pe_m (ok_is_state T) hr (pv 1) (pa_cons (pv 2) pa_nil)))) pss_never pss_nil)
      (pss_cons (ps_if (pt_not (pt_val (pe_isLT T (pv 3)))) pss_never pss_nil)
      (pss_cons (ps_asg (pe_tup (pa_cons (pv 1) (pa_cons (pv 2) (pa_cons pe_dnewK pa_nil)))) (pg_tup rfl (pgs_cons (pg_fld (pv 0)) (pgs_cons (pg_fld (pv 0)) (pgs_cons (pg_fld (pv 0)) pgs_nil)))))
      (pss_cons (ps_set (i := 4) sc.nd rfl (.inl rfl) (pe_op op_cat (pe_m0 ((ok_registers T).up (by decide)) hr (pv 1)) (pe_lst (pa_cons pe_str pa_nil))))
      (pss_cons (ps_for PassesOwn.never rfl (pi_enum (by rfl) (b_enumerate T) (pa_cons (pv 3) pa_nil)) (pg_tup rfl (pgs_cons (pg_name (i := 5) sc.nd rfl (.inl rfl)) (pgs_cons (pg_name (i := 6) sc.nd rfl (.inl rfl)) pgs_nil)))
        (pss_cons (ps_if (PW.pt (pw_or (pt_not (pt_val (pe_is "tuple" T (pv 6) (b_tuple T)))) (pw_or (pt_cmpR op_ne (pe_b1 cr_ln (b_len T) (pv 6)) pe_int (nomark _)) (pw_or1 (pt_not (pt_val (pe_is "str" T (pe_ti (pv 6)) (b_str T)))))))) pss_never pss_nil)
        (pss_cons (ps_if (PW.pt (pw_or (pt_cmpR op_notIn_seq (pe_ti (pv 6)) (pe_m0 ((ok_modes T).up (by decide)) hr (pv 1)) rfl) (pw_or (pt_cmp (pc_din hu (pe_ti (pv 6)) (pe_f (pv 0))) rfl) (pw_or1 (pt_not (pt_val (pe_c (ok_is_terms T) hr (pa_cons (pe_ti (pv 6)) (pa_cons (pv 4) pa_nil))))))))) pss_never pss_nil)
        (pss_one (ps_dput hu (pe_f (pv 0)) (pe_ti (pv 6)) (pe_ti (pv 6)) rfl)))))
      (pss_one (ps_fld (pv 0) (pe_t1 cr_li (b_list T) (pv 3)) rfl)))))), ?_⟩
    have hq := hp.same s0
    obtain ⟨⟨dq, am, ar, as_, al, ad, _, hq0, _⟩, _⟩ := id hp
    refine ⟨_, rfl, q, dq, _, rfl, s0 _ _ hq0, prog_no (by decide +kernel), _, rfl, q, st, g.spec, g.start, rfl, hq, hst.same s0, ok.start, fun H1 s1 => ⟨true, rfl, iteF ?_⟩⟩
    have s01 := s0.trans s1
    refine ⟨_, rfl, rd_LTl (s01 _ _ hll) fun p2 hp2 => ⟨true, rfl, iteF ?_⟩⟩
    have s2 := Same.new s1 (.tup [V.ty "list", V.ty "tuple"]) hp2
    refine ⟨_, rfl, _, rfl, fun d7 hd7 => ⟨by show 3 ≤ sizeLine; decide, fun tq htq => ?_⟩⟩
    have s3 := Same.new s2 (.dK []) hd7
    have s4 := Same.new s3 (.tup [V.ref q, V.ref st, V.ref d7]) htq
    have hx4 := s4 _ _ hx
    have hd4 := same_new (.tup [V.ref q, V.ref st, V.ref d7]) htq _ _ (upd_same (H := upd H1 p2 (.tup [V.ty "list", V.ty "tuple"])) (a := d7) (o := .dK []))
    have d7x : d7 ≠ x := at_ne hd4 hx4 (fun z => nomatch z)
    have B0 := Same.hide (Same.new (Same.new (s0.trans s2) (.dK []) hd7) (.tup [V.ref q, V.ref st, V.ref d7]) htq) hx0
    -- the heap without x and without the dict
    have hbase : ∃ B : Hp, B x = none ∧ B d7 = none ∧ Same H0 B ∧ Same B (upd (upd (upd H1 p2 (.tup [V.ty "list", V.ty "tuple"])) d7 (.dK [])) tq (.tup [V.ref q, V.ref st, V.ref d7])) := by
      refine ⟨H0, hx0, ?_, Same.refl H0, Same.new (Same.new (s0.trans s2) (.dK []) hd7) (.tup [V.ref q, V.ref st, V.ref d7]) htq⟩
      cases q9 : H0 d7 with
      | none => rfl
      | some o => have := (s0.trans s2) _ _ q9; rw [hd7] at this; cases this
    obtain ⟨B, bx, bd, hB, hS⟩ := hbase
    refine ⟨tq, _, rfl, SqT.of upd_same, rfl, _, _, rfl, rd_gf rfl hx4 (c_Probe T) (n_Probe_program T) (by decide) ?_⟩
    refine ⟨_, _, rfl, rd_gf rfl upd_same (c_Probe T) (n_Probe_start T) (by show 1 < 1000; decide) ?_⟩
    refine ⟨_, _, rfl, rd_gf rfl upd_same (c_Probe T) (n_Probe_by_mode T) (by show 2 < 1000; decide) ⟨rfl, ?_⟩⟩
    have v1 := Same.put (Same.put (Same.put hS (.ins (He.ga K "Probe") dx (putF "program" (.ref q) [])) bx) (.ins (He.ga K "Probe") dx (putF "start" (.ref st) (putF "program" (.ref q) []))) bx)
      (.ins (He.ga K "Probe") dx (putF "by_mode" (.ref d7) (putF "start" (.ref st) (putF "program" (.ref q) [])))) bx
    rw [putp3] at v1 ⊢
    have few := ok.few
    have lal : as.length = g.look.length := pr.length
    refine ⟨_, rfl, q, dq, _, rfl, (hB.trans v1) _ _ hq0, prog_no (by decide +kernel), q, g.spec, rfl, hp.same (hB.trans v1), fun l5 H5 hl5 s5 h5 => ?_⟩
    have hx5 := s5 _ _ (upd_same (a := x))
    have hd5 : H5 d7 = some (.dK []) := s5 _ _ (by rw [upd_ne d7x, upd_ne d7x, upd_ne d7x]; exact hd4)
    have v5 := v1.trans s5
    refine ⟨by show 1 ≤ sizeLine; decide, fun l6 hl6 => ?_⟩
    have rl := ok.spec.regs.2.1
    refine rd_cat (same_new _ hl6 _ _ h5) upd_same (by rw [List.length_map]; show g.spec.registers.length + 1 ≤ 1000; omega) fun l7 hl7 => ?_
    have n6 := same_new (.lst [V.str "one"]) hl6
    have n7 := Same.new n6 (.lst (g.spec.registers.map V.str ++ [V.str "one"])) hl7
    have v7 := v5.trans n7
    have hso : (upd (upd H5 l6 (.lst [V.str "one"])) l7 (.lst (g.spec.registers.map V.str ++ [V.str "one"]))) l7 = some (.lst ((g.spec.registers ++ [oneS]).map V.str)) := by rw [upd_same, List.map_append]; rfl
    have l7x : l7 ≠ x := at_ne upd_same (n7 _ _ hx5) (fun z => nomatch z)
    have l7d : l7 ≠ d7 := at_ne upd_same (n7 _ _ hd5) (fun z => nomatch z)
    have B7 : B l7 = none := by
      cases q9 : B l7 with
      | none => rfl
      | some o => have := (v5.trans n6) _ _ q9; rw [hl7] at this; cases this
    refine ⟨_, rfl, ll, _, rfl, SqL.of ((hB.trans v7) _ _ hll), for_it (walk_enum (xs := as.map V.ref)) (fun i σ H2 => ∃ v8 v9 ts, σ = [some (.ref x), some (.ref q), some (.ref st), some (.ref ll), some (.ref l7), v8, v9] ∧ Same B H2 ∧
        H2 x = some (.ins (He.ga K "Probe") dx (pf3 q st d7)) ∧ H2 d7 = some (.dK (looksOf (g.look.take i) (ts.take i))) ∧ H2 l7 = some (.lst ((g.spec.registers ++ [oneS]).map V.str)) ∧ ts.length = i ∧ Paired (fun a l => TermsAt B a l.2) ts (g.look.take i)) ⟨_, _, [], rfl, v7, n7 _ _ hx5, n7 _ _ hd5, hso, rfl, .nil⟩
          (fun i σ H2 _ ⟨_, _, _, _, s4, _⟩ => SqL.of ((hB.trans s4) _ _ hll)) ?_ ?_⟩
    · rintro j z σ H9 H10 hj ⟨v8, v9, ts, rfl, s9, hx9, hd9, hs9, lts, pts⟩ ⟨t, x', y, rfl, ht, rfl, e1, e2⟩
      have e1' := Option.some.inj e1
      subst e1'
      obtain ⟨b, rfl, hb⟩ := refs_at e2
      obtain ⟨l, hr2, rb, hrb, hrc⟩ := paired_at pr hb
      have ml := List.mem_of_getElem? hr2
      rw [List.length_map] at hj
      have n1 := same_new (.tup [V.int (j : Nat), V.ref b]) ht
      have s10 := hB.trans (s9.trans n1)
      have tb := s10 _ _ hrb
      refine ⟨t, _, rfl, SqT.of upd_same, rfl, _, _, rfl, _, _, rfl, rfl, ?_⟩
      refine ⟨_, rfl, rd_tt tb ⟨true, rfl, iteF ⟨_, rfl, rd_lenT tb ⟨rfl, _, rfl, iteF ⟨_, rfl, rd_it tb rfl (rd_ss ⟨true, rfl, iteF ?_⟩)⟩⟩⟩⟩⟩
      refine ⟨_, rfl, rd_it tb rfl ⟨_, rfl, q, dq, _, rfl, s10 _ _ hq0, prog_no (by decide +kernel), q, g.spec, rfl, hp.same s10, fun l11 H11 hl11 s11 h11 => ?_⟩⟩
      refine rd_ni (SqL.of h11) (ok.mode l ml) ⟨_, rfl, iteF ?_⟩
      have n11 := n1.trans s11
      have tb11 := s11 _ _ tb
      refine ⟨_, rfl, rd_it tb11 rfl ⟨_, rfl, rd_f (n11 _ _ hx9) (c_Probe T) (n_Probe_by_mode T) pf3_mode ⟨d7, _, rfl, DGet.k (k := .inr l.1) (n11 _ _ hd9), ?_⟩⟩⟩
      have ets : ts.take j = ts := List.take_of_length_le (by omega)
      have enw : valV (looksOf (g.look.take j) (ts.take j)) (.inr l.1) = none := by
        have p2 : Paired (fun _ _ => True) ((ts.take j)) (g.look.take j) := by rw [ets]; exact Paired.imp (fun _ _ _ => True.intro) pts
        rcases look_find (m := l.1) p2 with ⟨_, e⟩ | ⟨a, l', e1, _, _⟩
        · exact e
        · have h2 := List.find?_some e1
          have h3 := of_decide_eq_true h2
          exact absurd (List.mem_map.mpr ⟨l', List.mem_of_find?_eq_some e1, h3⟩) (nodup_at (f := fun l : Str × Terms => l.1) ok.nd hr2)
      rw [enw]
      refine ⟨false, rfl, iteF ?_⟩
      refine ⟨_, rfl, rd_it tb11 rfl ⟨_, rfl, rb, l7, l.2, g.spec.registers ++ [oneS], rfl, hrc.tk (Same.tk (hB.trans (s9.trans n11))), n11 _ _ hs9, ok.terms l ml, fun H12 s12 => ⟨true, rfl, iteF ?_⟩⟩⟩
      have n12 := n11.trans s12
      have tb12 := s12 _ _ tb11
      refine ⟨_, rfl, rd_it tb12 rfl ⟨_, rfl, rd_f (n12 _ _ hx9) (c_Probe T) (n_Probe_by_mode T) pf3_mode ⟨_, rfl, rd_it tb12 rfl ⟨d7, _, rfl, DPut.k (k := .inr l.1) (n12 _ _ hd9) (small1000 (by have := looks_len (as := ts) (lk := g.look) j; omega)), ?_⟩⟩⟩⟩
      have lt1 : (ts ++ [rb]).length = j + 1 := by rw [List.length_append, lts]; rfl
      refine ⟨_, _, ts ++ [rb], rfl, Same.put (s9.trans n12) _ bd, by rw [upd_ne (Ne.symm d7x)]; exact n12 _ _ hx9, ?_, by rw [upd_ne l7d]; exact n12 _ _ hs9, lt1, ?_⟩
      · rw [upd_same, putK_new _ enw]
        have e7 : (ts ++ [rb]).take (j + 1) = ts ++ [rb] := List.take_of_length_le (by omega)
        rw [e7, take_snoc hr2, ets]
        unfold looksOf
        rw [List.zipWith_append (by rw [List.length_take, lts]; have := List.getElem?_eq_some_iff.mp hr2; obtain ⟨h9, _⟩ := this; omega)]
        rfl
      · rw [take_snoc hr2]
        exact paired_snoc pts (hrc.tk (Same.tk hB))
    · rintro σ H9 ⟨v8, v9, ts, rfl, s9, hx9, hd9, hs9, lts, pts⟩
      rw [List.length_map, lal] at hd9 lts pts
      rw [List.take_length] at hd9 pts
      have ets : ts.take g.look.length = ts := List.take_of_length_le (by omega)
      rw [ets] at hd9
      refine ⟨_, rfl, rd_li ((hB.trans s9) _ _ hll) fun l8 hl8 => ?_⟩
      have n1 := same_new (.lst (as.map V.ref)) hl8
      refine ⟨_, rfl, x, _, dx, _, rfl, n1 _ _ hx9, c_Probe T, n_Probe_own_look T, by show 3 < 1000; decide, ?_⟩
      have s10 := Same.put (s9.trans n1) (.ins (He.ga K "Probe") dx (putF "own_look" (.ref l8) (pf3 q st d7))) bx
      rw [putp4] at s10 ⊢
      refine k _ (hB.trans s10) ⟨⟨dx, q, st, d7, l8, ts, upd_same, hp.same (hB.trans s10), hst.same (hB.trans s10), by rw [upd_ne d7x]; exact n1 _ _ hd9, Paired.imp (fun _ _ => TermsAt.tk (Same.tk s10)) pts⟩, ok⟩
end
end Tw
end

section
set_option Elab.async false
set_option linter.all false
set_option maxRecDepth 100000
set_option maxHeartbeats 4000000
/-! The values of probes. -/
namespace Tw
open PySem PySem.Spec PyProof.Rows L2
theorem pairs1 {k1 : V} {t1 : TE} {σ : L2.St} {H : Hp} {Q : List (V × V) → Hp → Prop} (h : t1 σ H fun y H1 => Q [(k1, y)] H1) : tPairs [(tC k1, t1)] σ H Q := h
def kn1 : List (Key × V) := mergeK [] [(.inr oneS, .int 1)]
theorem kn1_map {regs : List Str} {vals : List Int} {a : Int} : MapOn kn1 [oneS] (TwM.known amtS oneS regs vals a) := by
  intro x hx
  have e : kn1 = putK [] (.inr oneS) (.int 1) := rfl
  rw [e, valS_put]
  unfold TwM.known
  rw [if_pos (List.mem_singleton.mp hx), if_pos (List.mem_singleton.mp hx)]
theorem kn1_len : kn1.length ≤ 1 := length_mergeK [(.inr oneS, .int 1)] []
section
variable {P : Program} {w : World} {K : PySem.W.Frag} {mg : Str → Option Value} {base : Heap}
def spValueAt (K : PySem.W.Frag) : Sp := fun vs H Q _ => ∃ p a g st, vs = [.ref p, .ref a] ∧ ProbeAt K H p g ∧ StateAt H a st ∧ TwM.StateOk g.spec st ∧ TwM.Bd 200 st.2 ∧ ∀ H', Same H H' → Q (.int (TwM.value amtS oneS g.spec g.look st)) H'
theorem ok_value_at (T : Txt K mg) : Met P w K mg base 3 "Probe" "value_at" (spValueAt K) := by
  have sc : FnScope ["self", "state", "known", "target", "number", "source", "factor"] ["self", "state"] (defScope s_Probe_value_at) := ⟨rfl, rfl, rfl, by decide +kernel, rfl, by decide +kernel, by decide +kernel⟩
  refine ⟨fn_by (fd_Probe_value_at T) sc (fun _ _ _ _ _ _ us hl => match us, hl with | [_, _], _ => rfl) ?_ fun cdv A outer s H vs Q E hr h => ?_, c_Probe T, m_Probe_value_at T⟩
  · rintro vs H Q E ⟨p, a, g, st, rfl, _⟩; rfl
  · obtain ⟨p, a, g, st, rfl, hp, hst, so, hbd, k⟩ := h
    have hu := room_u hr
    obtain ⟨⟨dx, q, sa, bm, ol, las, h1, h2, h3, h4, h5⟩, ok⟩ := id hp
    obtain ⟨⟨dq, am, ar, as_, al, ad, as, hq, _⟩, _⟩ := id h2
    have hsx := hst
    obtain ⟨b2, ha, hb2⟩ := hst
    refine ⟨_, pss_cons (ps_if (pt_not (pt_val (pe_m (ok_is_state T) hr (pe_f (pv 0)) (pa_cons (pv 1) pa_nil)))) pss_never pss_nil)
      (pss_cons (ps_set (i := 2) sc.nd rfl (Or.inr rfl) (pe_disp (pps_cons pe_str pe_int pps_nil) rfl rfl (by simp) (by decide)))
      (pss_cons (ps_for PassesOwn.never rfl (pi_zipM (b_zip T) (pa_cons (pe_m0 ((ok_registers T).up (by decide)) hr (pe_f (pv 0))) (pa_cons (pe_ti (pv 1)) pa_nil))) (pg_tup rfl (pgs_cons (pg_name (i := 3) sc.nd rfl (.inl rfl)) (pgs_cons (pg_name (i := 4) sc.nd rfl (.inl rfl)) pgs_nil)))
        (pss_one (ps_dput hu (pv 2) (pv 3) (pv 4) rfl)))
      (pss_one (ps_ret (pe_b1 (cr_sum rfl) (b_sum T) (pe_lc (own := [("source", 5), ("factor", 6)]) (g := twoT K 5 6) (tt := tYes) rfl sc.nd (pi_tup (pe_dget2 hu (pe_f (pv 0)) (pe_ti (pv 1)) (pe_tup pa_nil) ⟨rfl, rfl, rfl, rfl⟩)) (blkOk_by (N := ["self", "state", "known", "target", "number", "source", "factor"]) (sc := defScope s_Probe_value_at) (by decide +kernel))
          (fun _ _ _ _ _ => pg_tup rfl (pgs_cons (pg_name (i := 5) sc.nd rfl (.inl rfl)) (pgs_cons (pg_name (i := 6) sc.nd rfl (.inl rfl)) pgs_nil))) (fun _ _ _ _ _ => pts_nil) (fun _ _ _ _ _ => pe_op op_mulW (pv 6) (pe_dget hu (pv 2) (pv 5) (fun _ _ => rfl))))))))), ?_⟩
    refine ⟨_, rfl, rd_f h1 (c_Probe T) (n_Probe_program T) probe_program ⟨q, dq, _, rfl, hq, prog_no (by decide +kernel), _, rfl, q, a, g.spec, st, rfl, h2, hsx, so, fun H1 s1 => ⟨true, rfl, iteF ?_⟩⟩⟩
    intro kd hkd
    refine pairs1 ⟨upd_same, [(.inr oneS, .int 1)], rfl, by simp, ?_⟩
    have s2 : Same H1 (upd (upd H1 kd (.dK [])) kd (.dK kn1)) := Same.put (same_new _ hkd) _ hkd
    have s12 := s1.trans s2
    refine ⟨_, rfl, rd_f (s12 _ _ h1) (c_Probe T) (n_Probe_program T) probe_program ⟨q, dq, _, rfl, s12 _ _ hq, prog_no (by decide +kernel), q, g.spec, rfl, h2.same s12, fun lr H3 _ s3 hlr => ?_⟩⟩
    have hkd3 := s3 _ _ (upd_same (H := upd H1 kd (.dK [])) (a := kd) (o := .dK kn1))
    have s23 := s2.trans s3
    have s13 := s1.trans s23
    refine ⟨_, rfl, rd_it (s13 _ _ ha) rfl ⟨lr, b2, _, _, rfl, SqL.of hlr, SqT.of (s13 _ _ hb2),
        for_it (walk_zipM (n := g.spec.registers.length) (xs := g.spec.registers.map V.str) (ys := st.2.map V.int) (by rw [List.length_map]) (by rw [List.length_map, so.len])) (fun i σ H2 => ∃ v5 v6 kvs, σ = [some (.ref p), some (.ref a), some (.ref kd), v5, v6, none, none] ∧
          Same H1 H2 ∧ H2 lr = some (.lst (g.spec.registers.map V.str)) ∧ H2 kd = some (.dK kvs) ∧ kvs.length ≤ 1 + i ∧ MapOn kvs ([oneS] ++ g.spec.registers.take i) (TwM.known amtS oneS g.spec.registers st.2 0))
          ⟨_, _, _, rfl, s23, hlr, hkd3, kn1_len, kn1_map⟩ (fun i σ H2 _ ⟨_, _, _, _, s2, h9, _⟩ => ⟨SqL.of h9, SqT.of ((s1.trans s2) _ _ hb2)⟩) ?_ ?_⟩⟩
    · rintro i y σ H2 H3 hi ⟨v5, v6, kvs, rfl, sa, hlr2, hk, hl, hm⟩ ⟨t2, x, y, rfl, ht2, rfl, e4, e5⟩
      obtain ⟨x, rfl, hx⟩ := strs_at e4
      obtain ⟨v, rfl, hv⟩ := ints_at e5
      have n1 := same_new (.tup [V.str x, V.int v]) ht2
      have sb := sa.trans n1
      have nx := ok.spec.regs.2.2 x (List.mem_of_getElem? hx)
      have rl := ok.spec.regs.2.1
      have ne : lr ≠ kd := at_ne hlr2 hk (fun z => nomatch z)
      refine ⟨t2, _, rfl, SqT.of upd_same, rfl, _, _, rfl, _, _, rfl, rfl, ?_⟩
      refine ⟨_, rfl, _, rfl, _, rfl, kd, _, rfl, putS (n1 _ _ hk) (by omega), _, _, _, rfl, Same.put sb _ hkd, by rw [upd_ne ne]; exact n1 _ _ hlr2, upd_same, ?_, ?_⟩
      · have := length_putK kvs (.inr x) (.int v); omega
      · rw [take_snoc hx, ← List.append_assoc]
        exact hm.snoc (by rw [known_reg nx.one nx.amt, TwM.look_at ok.spec.regs.1 hx hv])
    rintro σ H2 ⟨v5, v6, kvs, rfl, sa, hlr2, hk, hl, hm⟩
    rw [List.take_length] at hm
    have s9 := s1.trans sa
    refine ⟨_, rfl, rd_f (s9 _ _ h1) (c_Probe T) (n_Probe_by_mode T) probe_mode ⟨bm, rfl, .inl ⟨_, .inl (s9 _ _ h4)⟩, _, rfl, rd_it (s9 _ _ ha) rfl ⟨by show 0 ≤ sizeLine; decide, fun et het => ?_⟩⟩⟩
    have n1 := same_new (.tup []) het
    have s10 := s9.trans n1
    refine ⟨_, DGet.k (k := .inr st.1) (s10 _ _ h4), ?_⟩
    rcases look_find (m := st.1) h5 with ⟨e1, e2⟩ | ⟨ta, l, e1, e2, e3⟩
    · rw [e2]
      have ev : TwM.value amtS oneS g.spec g.look st = TwM.sumT (TwM.known amtS oneS g.spec.registers st.2 0) [] := by
        unfold TwM.value
        rw [e1]
        rfl
      refine sum_terms (i := 5) (j := 6) (e := 2) (ts := []) (kn := TwM.known amtS oneS g.spec.registers st.2 0) ⟨[], upd_same, .nil⟩ (by decide) (n1 _ _ hk) (fun t ht => nomatch ht) (fun _ _ => rfl) (fun _ _ => rfl) (fun _ _ => rfl) (fun _ _ => rfl) fun H6 s8 => ?_
      rw [← ev]
      exact k H6 (s10.trans s8)
    · rw [e2]
      have ml := List.mem_of_find?_eq_some e1
      have tok := ok.terms l ml
      have ev : TwM.value amtS oneS g.spec g.look st = TwM.sumT (TwM.known amtS oneS g.spec.registers st.2 0) l.2 := by
        unfold TwM.value
        rw [e1]
      refine sum_terms (i := 5) (j := 6) (e := 2) (kn := TwM.known amtS oneS g.spec.registers st.2 0) (e3.tk (Same.tk s10)) (by have := tok.few; omega) (n1 _ _ hk) (fun t ht => ⟨hm t.1 ?_, mul_ok (by have := tok.fac t ht; omega) (TwM.known_lt (by decide) g.spec.registers hbd (by decide) t.1) (by decide) (by decide)⟩)
        (fun _ _ => rfl) (fun _ _ => rfl) (fun _ _ => rfl) (fun _ _ => rfl) fun H6 s8 => ?_
      · have := tok.src t ht
        simp only [List.mem_append, List.mem_cons, List.not_mem_nil, or_false] at this ⊢
        rcases this with q | q
        · exact .inr q
        · exact .inl q
      · rw [← ev]
        exact k H6 (s10.trans s8)
def spValue (K : PySem.W.Frag) : Sp := fun vs H Q _ => ∃ p l g es, vs = [.ref p, .ref l] ∧ ProbeAt K H p g ∧ EventsAt H l es ∧ es.length ≤ 10 ∧ (∀ e ∈ es, EventOk g.spec.signs e) ∧ ∀ H', Same H H' → Q (.int (TwM.valueAt amtS oneS g es)) H'
theorem ok_value (T : Txt K mg) : Met P w K mg base 5 "Probe" "value" (spValue K) := by
  have sc : FnScope ["self", "events"] ["self", "events"] (defScope s_Probe_value) := ⟨rfl, rfl, rfl, by decide +kernel, rfl, by decide +kernel, by decide +kernel⟩
  refine ⟨fn_by (fd_Probe_value T) sc (fun _ _ _ _ _ _ us hl => match us, hl with | [_, _], _ => rfl) ?_ fun cdv A outer s H vs Q E hr h => ?_, c_Probe T, m_Probe_value T⟩
  · rintro vs H Q E ⟨p, l, g, es, rfl, _⟩; rfl
  · obtain ⟨p, l, g, es, rfl, hp, hes, hn, hev, k⟩ := h
    obtain ⟨⟨dx, q, sa, bm, ol, las, h1, h2, h3, h4, h5⟩, ok⟩ := id hp
    obtain ⟨⟨dq, am, ar, as_, al, ad, as, hq, _⟩, _⟩ := id h2
    refine ⟨_, pss_one (ps_ret (pe_m ((ok_value_at T).up (by decide)) hr (pv 0) (pa_cons (pe_m (ok_run T) hr (pe_f (pv 0)) (pa_cons (pe_f (pv 0)) (pa_cons (pv 1) pa_nil))) pa_nil))), ?_⟩
    refine ⟨_, rfl, p, dx, _, rfl, h1, probe_no (by decide +kernel), _, rfl, rd_f h1 (c_Probe T) (n_Probe_program T) probe_program ⟨q, dq, _, rfl, hq, prog_no (by decide +kernel), _, rfl, rd_f h1 (c_Probe T) (n_Probe_start T) probe_start ⟨_, rfl, ?_⟩⟩⟩
    refine ⟨q, sa, l, g.spec, g.start, es, rfl, h2, h3, ok.start, ok.bd, hes, hn, hev, fun c H' s1 hc => ?_⟩
    have all : ∀ e ∈ es, e.2.natAbs ≤ 1000000000000 := fun e h => by have q := hev e h; have := q.lo; have := q.hi; omega
    have hb := TwM.run_lt (amt := amtS) (one := oneS) (specBd ok.spec) (by decide) ok.bd es all es.length (Nat.le_refl _)
    rw [List.take_length] at hb
    exact ⟨p, c, g, _, rfl, hp.same s1, hc, TwM.run_ok (specLin ok.spec) _ _ ok.start, hb.mono (by omega), fun H' s2 => k H' (s1.trans s2)⟩
theorem ok_call (T : Txt K mg) : Met P w K mg base 6 "Probe" "__call__" (spValue K) := by
  have sc : FnScope ["self", "events"] ["self", "events"] (defScope s_Probe_call) := ⟨rfl, rfl, rfl, by decide +kernel, rfl, by decide +kernel, by decide +kernel⟩
  refine ⟨fn_by (fd_Probe_call T) sc (fun _ _ _ _ _ _ us hl => match us, hl with | [_, _], _ => rfl) ?_ fun cdv A outer s H vs Q E hr h => ?_, c_Probe T, m_Probe_call T⟩
  · rintro vs H Q E ⟨p, l, g, es, rfl, _⟩; rfl
  · obtain ⟨p, l, g, es, rfl, hp, r⟩ := h
    obtain ⟨⟨dx, q, sa, bm, ol, las, h1, h2, h3, h4, h5⟩, ok⟩ := id hp
    refine ⟨_, pss_one (ps_ret (pe_m (ok_value T) hr (pv 0) (pa_cons (pv 1) pa_nil))), ?_⟩
    exact ⟨_, rfl, p, dx, _, rfl, h1, probe_no (by decide +kernel), _, rfl, p, l, g, es, rfl, hp, r⟩
end
end Tw
end

section
set_option Elab.async false
set_option linter.all false
set_option maxRecDepth 100000
set_option maxHeartbeats 4000000
/-! The tables: plain_row, greatest_divisor, reduced, first_place, cleared. -/
namespace Tw
open PySem PySem.Spec PyProof.Rows L2
section
variable {P : Program} {w : World} {K : PySem.W.Frag} {mg : Str → Option Value} {base : Heap}
def spPlainRow (K : PySem.W.Frag) : Sp := fun vs H Q _ => ∃ q a sp st, vs = [.ref q, .ref a] ∧ ProgAt K H q sp ∧ StateAt H a st ∧ TwM.StateOk sp st ∧ ∀ c H', Same H H' → H' c = some (.tup ((TwM.rowM sp st).map V.int)) → Q (.ref c) H'
theorem ok_plain_row (T : Txt K mg) : Cal P w K mg base 2 "plain_row" (spPlainRow K) := by
  have sc : FnScope ["program", "state", "found", "mode"] ["program", "state"] (defScope s_plain_row) := ⟨rfl, rfl, rfl, by decide +kernel, rfl, by decide +kernel, by decide +kernel⟩
  refine ⟨fn_by (fd_plain_row T) sc (fun _ _ _ _ _ _ us hl => match us, hl with | [_, _], _ => rfl) ?_ fun cdv A outer s H vs Q E hr h => ?_, g_plain_row T, kp_of (fd_plain_row T)⟩
  · rintro vs H Q E ⟨q, a, sp, st, rfl, _⟩; rfl
  · obtain ⟨q, a, sp, st, rfl, hp, hst, so, k⟩ := h
    obtain ⟨⟨dq, am, ar, as_, al, ad, as, hq, _⟩, ok⟩ := id hp
    obtain ⟨b, ha, hb⟩ := hst
    refine ⟨_, pss_cons (ps_set (i := 2) sc.nd rfl (.inl rfl) (pe_lst pa_nil))
      (pss_cons (ps_for PassesOwn.never rfl (pi_list (pe_m0 (ok_modes T) hr (pv 0))) (pg_name (i := 3) sc.nd rfl (.inl rfl))
        (pss_one (ps_if (pt_cmpR op_eq (pv 3) (pe_ti (pv 1)) (nomark _))
          (pss_one (ps_set (i := 2) sc.nd rfl (.inl rfl) (pe_op op_cat (pe_op op_cat (pv 2) (pe_lst (pa_cons pe_int pa_nil))) (pe_t1 cr_li (b_list T) (pe_ti (pv 1))))))
          (pss_one (ps_set (i := 2) sc.nd rfl (.inl rfl) (pe_op op_cat (pv 2) (pe_op op_rep (pe_lst (pa_cons pe_int pa_nil)) (pe_op op_add pe_int (pe_b1 cr_ln (b_len T) (pe_ti (pv 1)))))))))))
      (pss_one (ps_ret (pe_t1 cr_tu (b_tuple T) (pv 2))))), ?_⟩
    have ml := ok.modes.2.2.1
    have rl := ok.regs.2.1
    have sl := so.len
    refine ⟨by show 0 ≤ sizeLine; decide, fun f0 hf0 => ?_⟩
    have s0 := same_new (.lst []) hf0
    refine ⟨_, rfl, q, dq, _, rfl, s0 _ _ hq, prog_no (by decide +kernel), q, sp, rfl, hp.same s0, fun lm H1 hlm s1 h1 => ?_⟩
    have s01 := s0.trans s1
    have bound : ∀ i, i ≤ sp.modes.length → (TwM.rowL st (sp.modes.take i)).length ≤ 20 := fun i hi => by
      rw [TwM.rowL_length, List.length_take, Nat.min_eq_left hi, sl]
      have : i * (sp.registers.length + 1) ≤ 3 * 3 := Nat.mul_le_mul (by omega) (by omega)
      omega
    refine ⟨lm, rfl, ⟨_, SqL.of h1⟩, for_it (walk_list (xs := sp.modes.map V.str)) (fun i σ H2 => ∃ f v, σ = [some (.ref q), some (.ref a), some (.ref f), v] ∧ Same H H2 ∧ H2 lm = some (.lst (sp.modes.map V.str)) ∧ H2 f = some (.lst ((TwM.rowL st (sp.modes.take i)).map V.int)))
      ⟨f0, none, rfl, s01, h1, s1 _ _ upd_same⟩ (fun i σ H2 _ ⟨_, _, _, _, h9, _⟩ => SqL.of h9) ?_ ?_⟩
    · rintro i y σ H2 H3 hi ⟨f, v, rfl, s2, hm, hf⟩ ⟨rfl, hy⟩
      obtain ⟨m, rfl, hm2⟩ := strs_at hy
      rw [List.length_map] at hi
      have bi := bound i (by omega)
      have e1 : TwM.rowL st (sp.modes.take (i + 1)) = TwM.rowL st (sp.modes.take i) ++ (if m = st.1 then 1 :: st.2 else List.replicate (1 + st.2.length) 0) := by
        unfold TwM.rowL
        rw [take_snoc hm2, List.flatMap_append, List.flatMap_singleton]
      refine ⟨_, rfl, _, rfl, rd_it (s2 _ _ ha) rfl (rd_eq rfl ⟨_, rfl, ?_⟩)⟩
      by_cases em : m = st.1
      · refine it_dec (congrArg V.str em) ?_
        refine ⟨_, rfl, by show 1 ≤ sizeLine; decide, fun l1 hl1 => ?_⟩
        have n1 := same_new (.lst [V.int 1]) hl1
        refine rd_cat (n1 _ _ hf) upd_same (by rw [List.length_map]; show _ + 1 ≤ 1000; omega) fun l2 hl2 => ?_
        have n2 := Same.new n1 (.lst ((TwM.rowL st (sp.modes.take i)).map V.int ++ [V.int 1])) hl2
        have h2 := upd_same (H := upd H3 l1 (.lst [V.int 1])) (a := l2) (o := .lst ((TwM.rowL st (sp.modes.take i)).map V.int ++ [V.int 1]))
        refine ⟨_, rfl, rd_it ((s2.trans n2) _ _ ha) rfl (rd_liT ((s2.trans n2) _ _ hb) fun l3 hl3 => ?_)⟩
        have n3 := Same.new n2 (.lst (st.2.map V.int)) hl3
        refine rd_cat (same_new _ hl3 _ _ h2) upd_same (by rw [List.length_append, List.length_map, List.length_map, sl]; show _ + 1 + _ ≤ 1000; omega) fun l4 hl4 => ?_
        have n4 := Same.new n3 (.lst (((TwM.rowL st (sp.modes.take i)).map V.int ++ [V.int 1]) ++ st.2.map V.int)) hl4
        refine ⟨_, _, rfl, s2.trans n4, n4 _ _ hm, ?_⟩
        rw [upd_same, e1, if_pos em, List.map_append, List.append_assoc]
        rfl
      · refine it_decF (fun z => em (V.str.inj z)) ?_
        refine ⟨_, rfl, by show 1 ≤ sizeLine; decide, fun l1 hl1 => ?_⟩
        have n1 := same_new (.lst [V.int 0]) hl1
        refine ⟨_, rfl, rd_it ((s2.trans n1) _ _ ha) rfl (rd_lenT ((s2.trans n1) _ _ hb) ⟨_, _, rfl, rfl, l1, _, _, rfl, rfl, upd_same, ?_, ?_, ?_, fun l2 hl2 => ?_⟩)⟩
        · omega
        · rw [List.length_map, sl]; omega
        · rw [List.length_map, sl, sizeLine_eq]
          show 1 * _ ≤ _
          omega
        · have n2 := Same.new n1 (.lst (List.replicate (1 + ((st.2.map V.int).length : Int)).toNat [V.int 0]).flatten) hl2
          have e2 : (List.replicate (1 + ((st.2.map V.int).length : Int)).toNat [V.int 0]).flatten = (List.replicate (1 + st.2.length) (0 : Int)).map V.int := by
            rw [List.length_map]
            have : (1 + (st.2.length : Int)).toNat = 1 + st.2.length := by omega
            rw [this, List.map_replicate]
            generalize 1 + st.2.length = n
            induction n with
            | zero => rfl
            | succ n ih => rw [List.replicate_succ, List.flatten_cons, ih, List.replicate_succ]; rfl
          refine rd_cat (n2 _ _ hf) upd_same (by rw [e2, List.length_map, List.length_map, List.length_replicate, sl]; omega) fun l3 hl3 => ?_
          rw [e2]
          have n3 := Same.new n2 (.lst ((TwM.rowL st (sp.modes.take i)).map V.int ++ (List.replicate (1 + st.2.length) (0 : Int)).map V.int)) hl3
          rw [e2] at n3
          refine ⟨_, _, rfl, s2.trans n3, n3 _ _ hm, ?_⟩
          rw [upd_same, e1, if_neg em, List.map_append]
    · rintro σ H2 ⟨f, v, rfl, s2, hm, hf⟩
      rw [List.length_map, List.take_length] at hf
      exact ⟨_, rfl, rd_tu hf fun l hl => k l _ (Same.new s2 _ hl) upd_same⟩
/-- abs(x) -/
def rAbs : List V → Hp → VK → Prop := fun xs H Q => ∃ i, xs = [.int i] ∧ Q (.int (if i < 0 then -i else i)) H
theorem cr_abs {X : Cx} : CallR X (.builtin "abs") rAbs := call_abs
def spGcd : Sp := fun vs H Q _ => ∃ x y : Int, vs = [.int x, .int y] ∧ Q (.int ((Int.gcd x y : Nat) : Int)) H
theorem ok_gcd (T : Txt K mg) : Cal P w K mg base 1 "greatest_divisor" spGcd := by
  have sc : FnScope ["one", "other"] ["one", "other"] (defScope s_greatest_divisor) := ⟨rfl, rfl, rfl, by decide +kernel, rfl, by decide +kernel, by decide +kernel⟩
  refine ⟨fn_by (fd_greatest_divisor T) sc (fun _ _ _ _ _ _ us hl => match us, hl with | [_, _], _ => rfl) ?_ fun cdv A outer s H vs Q E hr h => ?_, g_greatest_divisor T, kp_of (fd_greatest_divisor T)⟩
  · rintro vs H Q E ⟨x, y, rfl, _⟩; rfl
  · obtain ⟨x, y, rfl, k⟩ := h
    refine ⟨_, pss_cons (ps_while PassesOwn.never (pt_cc op_ne (pv 1) pe_int (nomark _)) (pss_one (ps_par rfl sc.nd (i := 0) (j := 1) rfl rfl (by decide) rfl rfl (pa_cons (pv 1) (pa_cons (pe_op op_modN (pv 0) (pv 1)) pa_nil)) rfl)))
      (pss_one (ps_ret (pe_b1 cr_abs (b_abs T) (pv 0)))), ?_⟩
    refine ⟨fun m σ H2 => ∃ a b : Int, σ = [some (.int a), some (.int b)] ∧ H2 = H ∧ Int.gcd a b = Int.gcd x y ∧ m = b.natAbs, ⟨_, x, y, rfl, rfl, rfl, rfl⟩, ?_⟩
    rintro m σ H2 ⟨a, b, rfl, rfl, hg, rfl⟩
    refine ⟨_, rfl, rd_ne rfl ⟨_, rfl, ?_⟩⟩
    by_cases e : b = 0
    · subst e
      refine it_ndecF rfl ⟨_, rfl, a, rfl, ?_⟩
      have e2 : (if a < 0 then -a else a) = ((Int.gcd x y : Nat) : Int) := by
        rw [← hg, Int.gcd_zero_right]
        split <;> omega
      rw [e2]
      exact k
    · refine it_ndec (fun z => e (V.int.inj z)) ⟨fun σ H3 => ∃ a' b' : Int, σ = [some (.int a'), some (.int b')] ∧ H3 = H2 ∧ Int.gcd a' b' = Int.gcd x y ∧ b'.natAbs < b.natAbs, ?_, ?_⟩
      · rintro σ' H' ⟨a', b', rfl, rfl, h1, h2⟩
        exact ⟨_, h2, a', b', rfl, rfl, h1, rfl⟩
      · exact ⟨_, rfl, _, rfl, _, rfl, _, _, rfl, rfl, e, _, _, rfl, b, a.fmod b, rfl, rfl, by rw [TwM.gcd_fmod, hg], TwM.fmod_lt e⟩
def spReduced : Sp := fun vs H Q _ => ∃ a xs b, vs = [.ref a] ∧ H a = some (.lst (xs.map V.int)) ∧ TwM.Bd b xs ∧ 0 < b ∧ b ≤ 9000 ∧ xs.length ≤ 1000 ∧ ∀ c H', H c = none → Same H H' → H' c = some (.lst ((TwM.reduced xs).map V.int)) → Q (.ref c) H'
theorem ok_reduced (T : Txt K mg) : Cal P w K mg base 2 "reduced" spReduced := by
  have sc : FnScope ["numbers", "common", "number"] ["numbers"] (defScope s_reduced) := ⟨rfl, rfl, rfl, by decide +kernel, rfl, by decide +kernel, by decide +kernel⟩
  refine ⟨fn_by (fd_reduced T) sc (fun _ _ _ _ _ _ us hl => match us, hl with | [_], _ => rfl) ?_ fun cdv A outer s H vs Q E hr h => ?_, g_reduced T, kp_of (fd_reduced T)⟩
  · rintro vs H Q E ⟨a, xs, b, rfl, _⟩; rfl
  · obtain ⟨a, xs, b, rfl, ha, hb, b0, b9, hn, k⟩ := h
    refine ⟨_, pss_cons (ps_set (i := 1) sc.nd rfl (Or.inr rfl) pe_int)
      (pss_cons (ps_for PassesOwn.never rfl (pi_list (pv 0)) (pg_name (i := 2) sc.nd rfl (.inl rfl)) (pss_one (ps_set (i := 1) sc.nd rfl (Or.inr rfl) (pe_c (ok_gcd T) hr (pa_cons (pv 1) (pa_cons (pv 2) pa_nil))))))
      (pss_one (ps_ret (pe_ifExp (pt_cmpR op_gt (pv 1) pe_int (nomark _)) (pe_lc (own := [("number", 2)]) (g := gName 2) (tt := tYes) rfl sc.nd (pi_list (pv 0)) (blkOk_by (N := ["numbers", "common", "number"]) (sc := defScope s_reduced) (by decide +kernel))
        (fun _ _ _ _ _ => pg_name (i := 2) sc.nd rfl (Or.inl rfl)) (fun _ _ _ _ _ => pts_nil) (fun _ _ _ _ _ => pe_op op_fdivW (pv 2) (pv 1))) (pe_t1 cr_li (b_list T) (pv 0)))))), ?_⟩
    refine ⟨_, rfl, a, rfl, ⟨_, SqL.of ha⟩, for_it (walk_list (xs := xs.map V.int)) (fun i σ H2 => ∃ v, σ = [some (.ref a), some (.int (TwM.gcdL (xs.take i))), v] ∧ H2 = H) ⟨_, rfl, rfl⟩ (fun i σ H2 _ ⟨_, _, e⟩ => by rw [e]; exact SqL.of ha) ?_ ?_⟩
    · rintro i y σ H2 H3 hi ⟨v, rfl, rfl⟩ ⟨rfl, hy⟩
      obtain ⟨x, rfl, hx⟩ := ints_at hy
      refine ⟨_, rfl, _, rfl, _, _, rfl, some (.int x), ?_, rfl⟩
      rw [TwM.gcdL_take hx]
      rfl
    · rintro σ H2 ⟨v, rfl, rfl⟩
      rw [List.length_map, List.take_length]
      refine ⟨_, rfl, _, _, rfl, rfl, _, rfl, ?_⟩
      by_cases h1 : 1 < TwM.gcdL xs
      · rw [decide_eq_true h1]
        refine iteT ⟨_, rfl, a, rfl, ⟨_, SqL.of ha⟩, fun D hD => lc_it (walk_list (xs := xs.map V.int)) (fun i H3 => Same H2 H3 ∧ H3 D = some (.lst (((xs.take i).map fun x => x / TwM.gcdL xs).map V.int))) ⟨same_new _ hD, upd_same⟩ (fun i H3 _ ⟨s3, _⟩ => SqL.of (s3 _ _ ha)) ?_ ?_⟩
        · rintro i v H3 H4 hi ⟨s3, hd⟩ ⟨rfl, hy⟩
          obtain ⟨x, rfl, hx⟩ := ints_at hy
          refine ⟨rfl, _, rfl, _, rfl, _, _, rfl, rfl, wide_div (by omega) (TwM.gcdL_lt hb h1) b0 b9, _, hd, ?_, Same.put s3 _ hD, ?_⟩
          · rw [List.length_map, List.length_map, List.length_take]
            exact small1000 (by omega)
          · rw [upd_same, take_snoc hx, List.map_append, List.map_append]
            rfl
        · rintro H3 ⟨s3, hd⟩
          rw [List.length_map, List.take_length] at hd
          refine k D H3 hD s3 ?_
          unfold TwM.reduced
          rw [if_pos h1]
          exact hd
      · rw [decide_eq_false h1]
        refine iteF ⟨_, rfl, rd_li ha fun l hl => k l _ hl (same_new _ hl) ?_⟩
        unfold TwM.reduced
        rw [if_neg h1]
        exact upd_same
def fpV : Option Nat → V
  | none => .non
  | some i => .int (i : Nat)
theorem atI_int {xs : List Int} {i : Nat} (h : i < xs.length) : atI (xs.map V.int) (i : Int) = some (.int (xs.getD i 0)) := by
  have e : (xs.map V.int)[i]? = some (.int (xs.getD i 0)) := by rw [List.getElem?_map, List.getElem?_eq_getElem h]; simp [List.getD, h]
  exact atI_nat e
def spFirst : Sp := fun vs H Q _ => ∃ a xs wd, vs = [.ref a, .int (wd : Nat)] ∧ H a = some (.lst (xs.map V.int)) ∧ wd ≤ xs.length ∧ xs.length ≤ 1000 ∧ Q (fpV (TwM.firstPlace xs wd)) H
theorem ok_first (T : Txt K mg) : Cal P w K mg base 1 "first_place" spFirst := by
  have sc : FnScope ["numbers", "width", "index"] ["numbers", "width"] (defScope s_first_place) := ⟨rfl, rfl, rfl, by decide +kernel, rfl, by decide +kernel, by decide +kernel⟩
  refine ⟨fn_by (fd_first_place T) sc (fun _ _ _ _ _ _ us hl => match us, hl with | [_, _], _ => rfl) ?_ fun cdv A outer s H vs Q E hr h => ?_, g_first_place T, kp_of (fd_first_place T)⟩
  · rintro vs H Q E ⟨a, xs, b, rfl, _⟩; rfl
  · obtain ⟨a, xs, wd, rfl, ha, hw, hn, k⟩ := h
    refine ⟨_, pss_cons (ps_for PassesOwn.never rfl (pi_range1 rfl (b_range T) (pa_cons (pv 1) pa_nil)) (pg_name (i := 2) sc.nd rfl (.inl rfl))
        (pss_one (ps_if (pt_cc op_ne (pe_ix ix_list (pv 0) (pv 2) (fun _ _ => rfl)) pe_int (nomark _)) (pss_one (ps_ret (pv 2))) pss_nil)))
      (pss_one (ps_ret pe_non)), ?_⟩
    refine ⟨_, rfl, _, rfl, by omega, by omega, for_it walk_range (fun i σ H2 => ∃ v, σ = [some (.ref a), some (.int (wd : Nat)), v] ∧ H2 = H ∧ ∀ j < i, xs.getD j 0 = 0) ⟨_, rfl, rfl, fun j hj => absurd hj (Nat.not_lt_zero _)⟩ (fun _ _ _ _ _ => True.intro) ?_ ?_⟩
    · rintro i y σ H2 H3 hi ⟨v, rfl, rfl, h0⟩ ⟨rfl, hy⟩
      have hi' : i < wd := by omega
      have hy2 : y = .int (i : Nat) := by
        rw [hy]
        show V.int (0 + (i : Nat)) = _
        rw [Int.zero_add]
      subst hy2
      refine ⟨_, rfl, _, rfl, ⟨a, _, _, _, rfl, rfl, SqL.of ha, atI_int (by omega), rd_ne rfl ⟨_, rfl, ?_⟩⟩⟩
      by_cases e : xs.getD i 0 = 0
      · refine it_ndecF (congrArg V.int e) ⟨_, rfl, rfl, fun j hj => ?_⟩
        by_cases q : j = i
        · rw [q]; exact e
        · exact h0 j (by omega)
      · refine it_ndec (fun z => e (V.int.inj z)) ⟨_, rfl, ?_⟩
        rw [TwM.firstPlace_at hi' h0 e] at k
        exact k
    · rintro σ H2 ⟨v, rfl, rfl, h0⟩
      have h1 : TwM.firstPlace xs wd = none := TwM.firstPlace_no fun j hj => h0 j (by omega)
      rw [h1] at k
      exact k
end
end Tw
end

section
set_option Elab.async false
set_option linter.all false
set_option maxRecDepth 100000
set_option maxHeartbeats 4000000
/-! cleared, echelon, rank. -/
namespace Tw
open PySem PySem.Spec PyProof.Rows L2
/-- int(x) of an int, of a truth -/
def rIn1 : List V → Hp → VK → Prop := fun xs H Q => (∃ i, xs = [.int i] ∧ Q (.int i) H) ∨ ∃ k, xs = [.bl k] ∧ Q (.int (if k then 1 else 0)) H
theorem cr_in {X : Cx} : CallR X (.type "int") rIn1 := call_int1
theorem at_zip {f : Int → Int → Int} {xs ys : List Int} {i : Nat} {x y : Int} (hx : xs[i]? = some x) (hy : ys[i]? = some y) : (List.zipWith f xs ys).take (i + 1) = (List.zipWith f xs ys).take i ++ [f x y] :=
  take_snoc (by rw [List.getElem?_zipWith, hx, hy])
section
variable {P : Program} {w : World} {K : PySem.W.Frag} {mg : Str → Option Value} {base : Heap}
def spCleared : Sp := fun vs H Q _ => ∃ a b xs ys p j k, vs = [.ref a, .ref b, .int (p : Nat)] ∧ H a = some (.lst (xs.map V.int)) ∧ H b = some (.lst (ys.map V.int)) ∧ xs.length = ys.length ∧ p < xs.length ∧ xs.length ≤ 1000 ∧ TwM.Bd j xs ∧ TwM.Bd k ys ∧ 0 < j ∧ 0 < k ∧ j + k + 1 ≤ 9000 ∧
  ∀ c H', H c = none → Same H H' → H' c = some (.lst ((TwM.cleared xs ys p).map V.int)) → Q (.ref c) H'
theorem ok_cleared (T : Txt K mg) : Cal P w K mg base 3 "cleared" spCleared := by
  have sc : FnScope ["numbers", "other", "at", "one", "two", "number", "more"] ["numbers", "other", "at"] (defScope s_cleared) := ⟨rfl, rfl, rfl, by decide +kernel, rfl, by decide +kernel, by decide +kernel⟩
  refine ⟨fn_by (fd_cleared T) sc (fun _ _ _ _ _ _ us hl => match us, hl with | [_, _, _], _ => rfl) ?_ fun cdv A outer s H vs Q E hr h => ?_, g_cleared T, kp_of (fd_cleared T)⟩
  · rintro vs H Q E ⟨a, b, xs, ys, p, j, k, rfl, _⟩; rfl
  · obtain ⟨a, b, xs, ys, p, j, k, rfl, ha, hb, hxy, hp, hn, bx, by_, j0, k0, jk, q⟩ := h
    refine ⟨_, pss_cons (ps_asg (pe_tup (pa_cons (pe_ix ix_list (pv 1) (pv 2) (fun _ _ => rfl)) (pa_cons (pe_ix ix_list (pv 0) (pv 2) (fun _ _ => rfl)) pa_nil))) (pg_tup rfl (pgs_cons (pg_name (i := 3) sc.nd rfl (Or.inr rfl)) (pgs_cons (pg_name (i := 4) sc.nd rfl (Or.inr rfl)) pgs_nil))))
      (pss_one (ps_ret (pe_c (ok_reduced T) hr (pa_cons (pe_lc (own := [("number", 5), ("more", 6)]) (g := twoT K 5 6) (tt := tYes) rfl sc.nd (pi_zip rfl (b_zip T) (pa_cons (pv 0) (pa_cons (pv 1) pa_nil))) (blkOk_by (N := ["numbers", "other", "at", "one", "two", "number", "more"]) (sc := defScope s_cleared) (by decide +kernel))
        (fun _ _ _ _ _ => pg_tup rfl (pgs_cons (pg_name (i := 5) sc.nd rfl (.inl rfl)) (pgs_cons (pg_name (i := 6) sc.nd rfl (.inl rfl)) pgs_nil))) (fun _ _ _ _ _ => pts_nil)
          (fun _ _ _ _ _ => pe_op op_sub (pe_op op_mulW (pv 3) (pv 5)) (pe_op op_mulW (pv 4) (pv 6)))) pa_nil)))), ?_⟩
    refine ⟨_, rfl, _, rfl, b, _, _, _, rfl, rfl, SqL.of hb, atI_int (by omega), _, rfl, _, rfl, a, _, _, _, rfl, rfl, SqL.of ha, atI_int (by omega), by show 2 ≤ sizeLine; decide, fun t ht => ?_⟩
    have s1 := same_new (.tup [V.int (ys.getD p 0), V.int (xs.getD p 0)]) ht
    refine ⟨t, _, rfl, SqT.of upd_same, rfl, _, _, rfl, _, _, rfl, rfl, ?_⟩
    have hg1 := TwM.getD_bd by_ p
    have hg2 := TwM.getD_bd bx p
    have lz : (List.zipWith (fun x y => ys.getD p 0 * x - xs.getD p 0 * y) xs ys).length = xs.length := by rw [List.length_zipWith, hxy, Nat.min_self]
    refine ⟨_, rfl, _, rfl, a, b, _, _, rfl, SqL.of (s1 _ _ ha), SqL.of (s1 _ _ hb), fun D hD => lc_it (walk_zip (xs := xs.map V.int) (ys := ys.map V.int) (n := xs.length) (by rw [List.length_map, List.length_map, hxy, Nat.min_self])) (fun i H3 => Same H H3 ∧ H3 D = some (.lst (((List.zipWith (fun x y => ys.getD p 0 * x - xs.getD p 0 * y) xs ys).take i).map V.int)))
      ⟨Same.new s1 _ hD, upd_same⟩ (fun i H3 _ ⟨s3, _⟩ => ⟨SqL.of (s3 _ _ ha), SqL.of (s3 _ _ hb)⟩) ?_ ?_⟩
    · rintro i v H3 H4 hi ⟨s3, hd⟩ ⟨t2, x, y, rfl, ht2, rfl, e4, e5⟩
      obtain ⟨x, rfl, hx⟩ := ints_at e4
      obtain ⟨y, rfl, hy⟩ := ints_at e5
      have n1 := same_new (.tup [V.int x, V.int y]) ht2
      have hDH : H D = none := by
        cases q9 : H D with
        | none => rfl
        | some o => have := s1 _ _ q9; rw [hD] at this; cases this
      refine ⟨t2, _, rfl, SqT.of upd_same, rfl, _, _, rfl, _, _, rfl, rfl, rfl, ?_⟩
      refine ⟨_, rfl, _, rfl, _, _, rfl, rfl, wide_mul (a := k) (b := j) hg1 (bx x (List.mem_of_getElem? hx)) k0 j0 (by omega), ?_⟩
      refine ⟨_, rfl, _, rfl, _, _, rfl, rfl, wide_mul (a := j) (b := k) hg2 (by_ y (List.mem_of_getElem? hy)) j0 k0 (by omega), ?_⟩
      refine ⟨_, _, rfl, rfl, _, n1 _ _ hd, ?_, Same.put (s3.trans n1) _ hDH, ?_⟩
      · rw [List.length_map, List.length_take]
        exact small1000 (by omega)
      · rw [upd_same, at_zip hx hy, List.map_append]
        rfl
    · rintro H3 ⟨s3, hd⟩
      have e1 : (List.zipWith (fun x y => ys.getD p 0 * x - xs.getD p 0 * y) xs ys).take xs.length = List.zipWith (fun x y => ys.getD p 0 * x - xs.getD p 0 * y) xs ys := List.take_of_length_le (by omega)
      rw [e1] at hd
      refine ⟨D, _, j + k + 1, rfl, hd, TwM.mix_bd bx by_ p, by omega, jk, by omega, fun c H4 hc s4 h4 => q c H4 ?_ (s3.trans s4) h4⟩
      cases q9 : H c with
      | none => rfl
      | some o => have := s3 _ _ q9; rw [hc] at this; cases this
def RowAt (H : Hp) (a : Addr) (r : List Int) : Prop := H a = some (.tup (r.map V.int))
def StepAt (H : Hp) (a : Addr) (st : Nat × List Int) : Prop := ∃ b, H a = some (.tup [.int (st.1 : Nat), .ref b]) ∧ H b = some (.lst (st.2.map V.int))
theorem StepAt.same {H H' : Hp} {a : Addr} {st : Nat × List Int} (k : Same H H') (h : StepAt H a st) : StepAt H' a st := let ⟨b, h1, h2⟩ := h; ⟨b, k _ _ h1, k _ _ h2⟩
def spEchelon : Sp := fun vs H Q _ => ∃ l as rows wd, vs = [.ref l] ∧ H l = some (.lst (as.map V.ref)) ∧ Paired (RowAt H) as rows ∧ (∀ r ∈ rows, r.length = wd) ∧ wd ≤ 100 ∧ rows.length ≤ 7 ∧ (∀ r ∈ rows, TwM.Bd 133 r) ∧
  ∀ (t sl rl : Addr) (sas : List Addr) H', Same H H' → H' t = some (.tup [.ref sl, .ref rl]) → H' sl = some (.lst (sas.map V.ref)) → sas.length = TwM.rankM rows → Q (.ref t) H'
theorem ok_echelon (T : Txt K mg) : Cal P w K mg base 4 "echelon" spEchelon := by
  have sc : FnScope ["rows", "many", "steps", "rest", "index", "row", "numbers", "pivot", "step", "k"] ["rows"] (defScope s_echelon) := ⟨rfl, rfl, rfl, by decide +kernel, rfl, by decide +kernel, by decide +kernel⟩
  refine ⟨fn_by (fd_echelon T) sc (fun _ _ _ _ _ _ us hl => match us, hl with | [_], _ => rfl) ?_ fun cdv A outer s H vs Q E hr h => ?_, g_echelon T, kp_of (fd_echelon T)⟩
  · rintro vs H Q E ⟨l, as, rows, wd, rfl, _⟩; rfl
  · obtain ⟨l, as, rows, wd, rfl, hl, pr, hw, wd1, few, hb, q⟩ := h
    refine ⟨_, pss_cons (ps_par3 rfl sc.nd (i := 1) (j := 2) (l := 3) rfl rfl rfl (by decide) (by decide) (by decide) rfl rfl rfl (pa_cons (pe_b1 cr_ln (b_len T) (pv 0)) (pa_cons (pe_lst pa_nil) (pa_cons (pe_lst pa_nil) pa_nil))) rfl)
      (pss_cons (ps_for PassesOwn.never rfl (pi_enum (by rfl) (b_enumerate T) (pa_cons (pv 0) pa_nil)) (pg_tup rfl (pgs_cons (pg_name (i := 4) sc.nd rfl (Or.inr rfl)) (pgs_cons (pg_name (i := 5) sc.nd rfl (.inl rfl)) pgs_nil)))
        (pss_cons (ps_set (i := 6) sc.nd rfl (.inl rfl) (pe_op op_cat (pe_t1 cr_li (b_list T) (pv 5)) (pe_lc (own := [("k", 9)]) (g := gName 9) (tt := tYes) rfl sc.nd (pi_range1 rfl (b_range T) (pa_cons (pv 1) pa_nil)) (blkOk_by (N := ["rows", "many", "steps", "rest", "index", "row", "numbers", "pivot", "step", "k"]) (sc := defScope s_echelon) (by decide +kernel))
            (fun _ _ _ _ _ => pg_name (i := 9) sc.nd rfl (Or.inl rfl)) (fun _ _ _ _ _ => pts_nil) (fun _ _ _ _ _ => pe_t1 cr_in (b_int T) (pe_cmpR op_eq (pv 9) (pv 4) (nomark _))))))
        (pss_cons (ps_for PassesOwn.never rfl (pi_list (pv 2)) (pg_tup rfl (pgs_cons (pg_name (i := 7) sc.nd rfl (.inl rfl)) (pgs_cons (pg_name (i := 8) sc.nd rfl (.inl rfl)) pgs_nil)))
          (pss_one (ps_if (pt_cc op_ne (pe_ix ix_list (pv 6) (pv 7) (fun _ _ => rfl)) pe_int (nomark _)) (pss_one (ps_set (i := 6) sc.nd rfl (.inl rfl) (pe_c (ok_cleared T) hr (pa_cons (pv 6) (pa_cons (pv 8) (pa_cons (pv 7) pa_nil)))))) pss_nil)))
        (pss_cons (ps_set (i := 7) sc.nd rfl (.inl rfl) (pe_c ((ok_first T).up (by decide)) hr (pa_cons (pv 6) (pa_cons (pe_b1 cr_ln (b_len T) (pv 5)) pa_nil))))
        (pss_one (ps_if (pt_cmpR op_isN (pv 7) pe_non (nomark _))
          (pss_one (ps_expr (pe_bm PySem.F.plainAttrs_list PySem.F.slot_list_append PySem.F.type_list_append mt_append (pv 3) (pa_cons (pe_slice sl_list (pv 6) (po_some (pe_b1 cr_ln (b_len T) (pv 5))) po_none) pa_nil))))
          (pss_one (ps_expr (pe_bm PySem.F.plainAttrs_list PySem.F.slot_list_append PySem.F.type_list_append mt_append (pv 2) (pa_cons (pe_tup (pa_cons (pv 7) (pa_cons (pe_c ((ok_reduced T).up (by decide)) hr (pa_cons (pv 6) pa_nil)) pa_nil))) pa_nil))))))))))
      (pss_one (ps_ret (pe_tup (pa_cons (pv 2) (pa_cons (pv 3) pa_nil)))))), ?_⟩
    have lrs : as.length = rows.length := pr.length
    refine ⟨_, rfl, rd_lenL hl ⟨by show 0 ≤ sizeLine; decide, fun sl hsl => ⟨by show 0 ≤ sizeLine; decide, fun rl hrl => ⟨_, _, _, rfl, ?_⟩⟩⟩⟩
    rw [List.length_map, lrs]
    have n1 := same_new (.lst []) hsl
    have n2 := Same.new n1 (.lst []) hrl
    have hsl2 := same_new (.lst []) hrl _ _ (upd_same (H := H) (a := sl) (o := .lst []))
    have slrl : sl ≠ rl := fun e => by rw [← e, upd_same] at hrl; cases hrl
    have rlH : H rl = none := by
      cases q9 : H rl with
      | none => rfl
      | some o => have := n1 _ _ q9; rw [hrl] at this; cases this
    refine ⟨_, rfl, l, _, rfl, SqL.of (n2 _ _ hl), for_it (walk_enum (xs := as.map V.ref)) (fun i σ H2 => ∃ v4 v5 v6 v7 v8 sas ras B, σ = [some (.ref l), some (.int (rows.length : Nat)), some (.ref sl), some (.ref rl), v4, v5, v6, v7, v8, none] ∧ Same H B ∧ Same B H2 ∧ B sl = none ∧ B rl = none ∧
        H2 sl = some (.lst (sas.map V.ref)) ∧ H2 rl = some (.lst (ras.map V.ref)) ∧ ras.length ≤ i ∧ Paired (StepAt B) sas (TwM.stepsAt rows.length rows i)) ⟨_, _, _, _, _, [], [], H, rfl, Same.refl H, n2, hsl, rlH, hsl2, upd_same, Nat.le_refl _, .nil⟩
        (fun i σ H2 _ ⟨_, _, _, _, _, _, _, B, _, s1, s2, _⟩ => SqL.of ((s1.trans s2) _ _ hl)) ?_ ?_⟩
    · rintro i z σ H2 H3 hi ⟨v4, v5, v6, v7, v8, sas, ras, B, rfl, sHB, sB, Bs, Br, h2s, h2r, lra, ps⟩ ⟨t, x', y, rfl, ht, rfl, e1, e2⟩
      have e1' := Option.some.inj e1
      subst e1'
      obtain ⟨ra, rfl, hra⟩ := refs_at e2
      obtain ⟨row, hrow, rat⟩ := paired_at pr hra
      have mrow := List.mem_of_getElem? hrow
      rw [List.length_map, lrs] at hi
      have lw := hw row mrow
      -- plain facts
      have E := TwM.stepsAt_ech (many := rows.length) hw i
      have SB := TwM.stepsAt_bd (w := wd) (many := rows.length) (b := 133) (by decide) hb i (by omega)
      have SL := TwM.stepsAt_len (many := rows.length) (rows := rows) i (by omega)
      have lss : sas.length = (TwM.stepsAt rows.length rows i).length := ps.length
      have szle : ∀ j, j ≤ 6 → TwM.szB 133 j ≤ 8575 := fun j hj => Nat.le_trans (TwM.szB_mono hj) (by decide)
      have szpos : ∀ j, 0 < TwM.szB 133 j := fun j => Nat.lt_of_lt_of_le (by decide : 0 < TwM.szB 133 0) (TwM.szB_mono (Nat.zero_le j))
      have m1 := same_new (.tup [V.int (i : Nat), V.ref ra]) ht
      have sB1 := sB.trans m1
      refine ⟨t, _, rfl, SqT.of upd_same, rfl, _, _, rfl, _, _, rfl, rfl, ?_⟩
      -- numbers
      refine ⟨_, rfl, rd_liT ((sHB.trans sB1) _ _ rat) fun l1 hl1 => ?_⟩
      have m2 := Same.new m1 (.lst (row.map V.int)) hl1
      refine ⟨_, rfl, _, rfl, by omega, by omega, fun D hD => lc_it walk_range (fun j H4 => Same (upd (upd H2 t (.tup [V.int (i : Nat), V.ref ra])) l1 (.lst (row.map V.int))) H4 ∧ H4 D = some (.lst (((TwM.unit rows.length i).take j).map V.int)))
        ⟨same_new _ hD, by rw [upd_same, List.take_zero]; rfl⟩ (fun _ _ _ _ => True.intro) ?_ ?_⟩
      · rintro j v H4 H5 hj ⟨s4, hd⟩ ⟨rfl, hv⟩
        have hv2 : v = .int (j : Nat) := by
          rw [hv]
          show V.int (0 + (j : Nat)) = _
          rw [Int.zero_add]
        subst hv2
        have ej : (TwM.unit rows.length i)[j]? = some (if j = i then 1 else 0) := by
          unfold TwM.unit
          rw [List.getElem?_map, List.getElem?_range (by omega)]
          rfl
        refine ⟨rfl, _, rfl, _, rfl, rd_eq rfl (.inr ⟨_, rfl, _, hd, ?_, Same.put s4 _ hD, ?_⟩)⟩
        · rw [List.length_map, List.length_take]
          exact small1000 (by omega)
        · rw [upd_same, take_snoc ej, List.map_append]
          have ed : decide ((V.int (j : Nat)) = V.int (i : Nat)) = decide (j = i) := decide_eq_decide.mpr ⟨fun z => by have := V.int.inj z; omega, fun z => by rw [z]⟩
          rw [ed]
          by_cases q : j = i
          · rw [if_pos q, decide_eq_true q]; rfl
          · rw [if_neg q, decide_eq_false q]; rfl
      rintro H4 ⟨s4, hd⟩
      have eu : (TwM.unit rows.length i).take ((rows.length : Int)).toNat = TwM.unit rows.length i := List.take_of_length_le (by rw [TwM.unit_length]; omega)
      rw [eu] at hd
      refine rd_cat (s4 _ _ upd_same) hd (by rw [List.length_map, List.length_map, TwM.unit_length, lw]; omega) fun l2 hl2 => ?_
      have m5 := Same.new (m2.trans s4) (.lst (row.map V.int ++ (TwM.unit rows.length i).map V.int)) hl2
      -- the clearing
      refine ⟨_, rfl, sl, rfl, ⟨_, SqL.of (m5 _ _ h2s)⟩, for_it (walk_list (xs := sas.map V.ref)) (fun j σ H5 => ∃ v7 v8 nl, σ = [some (.ref l), some (.int (rows.length : Nat)), some (.ref sl), some (.ref rl), some (.int (i : Nat)), some (.ref ra), some (.ref nl), v7, v8, none] ∧
          Same H2 H5 ∧ H5 nl = some (.lst ((TwM.clearAll (row ++ TwM.unit rows.length i) ((TwM.stepsAt rows.length rows i).take j)).map V.int))) ⟨_, _, l2, rfl, m5, by rw [upd_same, List.take_zero]; show _ = some (HO.lst ((row ++ TwM.unit rows.length i).map V.int)); rw [List.map_append]⟩
          (fun j σ H5 _ ⟨_, _, _, _, s5, _⟩ => SqL.of (s5 _ _ h2s)) ?_ ?_⟩
      · rintro j y σ H5 H6 hj ⟨v7, v8, nl, rfl, s5, hnl⟩ ⟨rfl, hy⟩
        obtain ⟨sa, rfl, hsa⟩ := refs_at hy
        obtain ⟨st, hst, sb, sat, sbt⟩ := paired_at ps hsa
        have mst := List.mem_of_getElem? hst
        rw [List.length_map, lss] at hj
        have lnl := TwM.clear_len (idx := i) (j := j) E lw
        have lst_ := E.len st mst
        have pst := (E.piv st mst).1
        have sB5 := sB.trans s5
        refine ⟨sa, _, rfl, SqT.of (sB5 _ _ sat), rfl, _, _, rfl, _, _, rfl, rfl, ?_⟩
        refine ⟨_, rfl, _, rfl, nl, _, _, _, rfl, rfl, SqL.of hnl, atI_int (by omega), rd_ne rfl ⟨_, rfl, ?_⟩⟩
        by_cases e : (TwM.clearAll (row ++ TwM.unit rows.length i) ((TwM.stepsAt rows.length rows i).take j)).getD st.1 0 = 0
        · refine it_ndecF (congrArg V.int e) ⟨_, _, nl, rfl, s5, ?_⟩
          rw [TwM.clearAll_take hst, if_neg (fun z => z e)]
          exact hnl
        · refine it_ndec (fun z => e (V.int.inj z)) ⟨_, rfl, _, rfl, _, rfl, nl, sb, _, _, st.1, TwM.szB 133 j, TwM.szB 133 j, rfl, hnl, sB5 _ _ sbt, by omega, by omega, by omega, TwM.clear_bd (by decide) SB (hb row mrow) (by omega), SB j st hst, szpos j, szpos j, ?_, fun c H7 hc s7 h7 => ?_⟩
          · rw [TwM.szB_succ]
            have := szle (j + 1) (by omega)
            omega
          · refine ⟨_, _, c, rfl, s5.trans s7, ?_⟩
            rw [TwM.clearAll_take hst, if_pos e]
            exact h7
      rintro σ H5 ⟨v7, v8, nl, rfl, s5, hnl⟩
      rw [List.length_map, lss, List.take_length] at hnl
      have lnl := TwM.clear_len (idx := i) (j := (TwM.stepsAt rows.length rows i).length) E lw
      rw [List.take_length] at lnl
      have nbd := TwM.clear_bd (idx := i) (many := rows.length) (by decide) SB (hb row mrow) (Nat.le_refl _)
      rw [List.take_length] at nbd
      have sB5 := sB.trans s5
      have es := TwM.stepsAt_succ (many := rows.length) hrow
      -- the pivot
      refine ⟨_, rfl, _, rfl, rd_lenT ((sHB.trans sB5) _ _ rat) ⟨nl, _, (row.map V.int).length, rfl, hnl, by rw [List.length_map]; omega, by omega, ?_⟩⟩
      rw [List.length_map]
      cases ef : TwM.firstPlace (TwM.clearAll (row ++ TwM.unit rows.length i) (TwM.stepsAt rows.length rows i)) row.length with
      | none =>
        have es2 : TwM.stepsAt rows.length rows (i + 1) = TwM.stepsAt rows.length rows i := by
          rw [es]; unfold TwM.stepOf; dsimp only; rw [ef]
        refine ⟨_, rfl, rfl, _, rfl, iteT ?_⟩
        refine ⟨_, rfl, .inl ⟨rfl, _, SqL.of (s5 _ _ h2r)⟩, _, rfl, _, rfl, rd_lenT ((sHB.trans sB5) _ _ rat) ⟨_, rfl, nl, _, rfl, SqL.of hnl, fun l3 hl3 => ?_⟩⟩
        have m6 := same_new (.lst (cutV ((TwM.clearAll (row ++ TwM.unit rows.length i) (TwM.stepsAt rows.length rows i)).map V.int) (some ((row.map V.int).length : Nat)) none)) hl3
        refine ⟨rl, _, _, rfl, rfl, m6 _ _ (s5 _ _ h2r), by rw [List.length_map]; exact small1000 (by omega), ?_⟩
        refine ⟨_, _, _, _, _, sas, ras ++ [l3], B, rfl, sHB, Same.put (sB5.trans m6) _ Br, Bs, Br, by rw [upd_ne slrl]; exact m6 _ _ (s5 _ _ h2s), by rw [upd_same, List.map_append]; rfl, by rw [List.length_append]; show _ + 1 ≤ _; omega, ?_⟩
        rw [es2]
        exact ps
      | some p =>
        have es2 : TwM.stepsAt rows.length rows (i + 1) = TwM.stepsAt rows.length rows i ++ [(p, TwM.reduced (TwM.clearAll (row ++ TwM.unit rows.length i) (TwM.stepsAt rows.length rows i)))] := by
          rw [es]; unfold TwM.stepOf; dsimp only; rw [ef]
        refine ⟨_, rfl, rfl, _, rfl, iteF ?_⟩
        refine ⟨_, rfl, .inl ⟨rfl, _, SqL.of (s5 _ _ h2s)⟩, _, rfl, _, rfl, nl, _, _, rfl, hnl, nbd, szpos _, by have := szle (TwM.stepsAt rows.length rows i).length (by omega); omega, by omega, fun c H6 hc s6 h6 => ⟨by show 2 ≤ sizeLine; decide, fun t3 ht3 => ?_⟩⟩
        have m6 := Same.new s6 (.tup [V.int (p : Nat), V.ref c]) ht3
        have s56 := s5.trans m6
        have h2s6 := s56 _ _ h2s
        have h2r6 := s56 _ _ h2r
        have hc6 := same_new (.tup [V.int (p : Nat), V.ref c]) ht3 _ _ h6
        have csl : c ≠ sl := fun e => by rw [e] at hc; rw [s5 _ _ h2s] at hc; cases hc
        have crl : c ≠ rl := fun e => by rw [e] at hc; rw [s5 _ _ h2r] at hc; cases hc
        have ht3' := upd_same (H := H6) (a := t3) (o := .tup [V.int (p : Nat), V.ref c])
        have tsl : t3 ≠ sl := at_ne ht3' h2s6 (fun z => nomatch z)
        have trl : t3 ≠ rl := at_ne ht3' h2r6 (fun z => nomatch z)
        refine ⟨sl, _, _, rfl, rfl, h2s6, by rw [List.length_map]; exact small1000 (by omega), ?_⟩
        -- the base grows
        have hgr : ∃ B2 : Hp, Same B B2 ∧ Same B2 (upd H6 t3 (.tup [V.int (p : Nat), V.ref c])) ∧ B2 sl = none ∧ B2 rl = none ∧ B2 t3 = some (.tup [V.int (p : Nat), V.ref c]) ∧ B2 c = some (.lst ((TwM.reduced (TwM.clearAll (row ++ TwM.unit rows.length i) (TwM.stepsAt rows.length rows i))).map V.int)) := by
          refine ⟨hide sl (hide rl (upd H6 t3 (.tup [V.int (p : Nat), V.ref c]))), Same.hide (Same.hide (sB.trans s56) Br) Bs, Same.trans hide_same hide_same, hide_none, ?_, ?_, ?_⟩
          · unfold hide; split
            · rfl
            · exact if_pos rfl
          · exact hide_at (hide_at ht3' trl) tsl
          · exact hide_at (hide_at hc6 crl) csl
        obtain ⟨B2, g1, g2, g3, g4, g5, g6⟩ := hgr
        refine ⟨_, _, _, _, _, sas ++ [t3], ras, B2, rfl, sHB.trans g1, Same.put g2 _ g3, g3, g4, by rw [upd_same, List.map_append]; rfl, by rw [upd_ne (Ne.symm slrl)]; exact h2r6, by omega, ?_⟩
        rw [es2]
        exact paired_snoc (Paired.imp (fun _ _ => StepAt.same g1) ps) ⟨c, g5, g6⟩
    · rintro σ H2 ⟨v4, v5, v6, v7, v8, sas, ras, B, rfl, sHB, sB, Bs, Br, h2s, h2r, lra, ps⟩
      rw [List.length_map, lrs] at ps
      refine ⟨_, rfl, _, rfl, by show 2 ≤ sizeLine; decide, fun t ht => q t sl rl sas _ (Same.new (sHB.trans sB) _ ht) upd_same (same_new _ ht _ _ h2s) ?_⟩
      rw [ps.length]
      unfold TwM.rankM TwM.stepsM TwM.stepsAt
      rw [List.take_length]
def spRank : Sp := fun vs H Q _ => ∃ l as rows wd, vs = [.ref l] ∧ H l = some (.lst (as.map V.ref)) ∧ Paired (RowAt H) as rows ∧ (∀ r ∈ rows, r.length = wd) ∧ wd ≤ 100 ∧ rows.length ≤ 7 ∧ (∀ r ∈ rows, TwM.Bd 133 r) ∧
  ∀ H', Same H H' → Q (.int (TwM.rankM rows : Nat)) H'
theorem ok_rank (T : Txt K mg) : Cal P w K mg base 5 "rank" spRank := by
  have sc : FnScope ["rows", "row"] ["rows"] (defScope s_rank) := ⟨rfl, rfl, rfl, by decide +kernel, rfl, by decide +kernel, by decide +kernel⟩
  refine ⟨fn_by (fd_rank T) sc (fun _ _ _ _ _ _ us hl => match us, hl with | [_], _ => rfl) ?_ fun cdv A outer s H vs Q E hr h => ?_, g_rank T, kp_of (fd_rank T)⟩
  · rintro vs H Q E ⟨l, as, rows, wd, rfl, _⟩; rfl
  · obtain ⟨l, as, rows, wd, rfl, hl, pr, hw, wd1, few, hb, q⟩ := h
    have lrs : as.length = rows.length := pr.length
    refine ⟨_, pss_one (ps_ret (pe_b1 cr_ln (b_len T) (pe_ti (pe_c (ok_echelon T) hr (pa_cons (pe_lc (own := [("row", 1)]) (g := gName 1) (tt := tYes) rfl sc.nd (pi_list (pv 0)) (blkOk_by (N := ["rows", "row"]) (sc := defScope s_rank) (by decide +kernel))
        (fun _ _ _ _ _ => pg_name (i := 1) sc.nd rfl (Or.inl rfl)) (fun _ _ _ _ _ => pts_nil) (fun _ _ _ _ _ => pe_t1 (n := "tuple") (r := rTu K) cr_tu (b_tuple T) (pv 1))) pa_nil))))), ?_⟩
    refine ⟨_, rfl, l, rfl, ⟨_, SqL.of hl⟩, fun D hD => lc_it (walk_list (xs := as.map V.ref)) (fun j H4 => Same H H4 ∧ H4 D = some (.lst ((as.take j).map V.ref))) ⟨same_new _ hD, upd_same⟩ (fun _ H4 _ ⟨s4, _⟩ => SqL.of (s4 _ _ hl)) ?_ ?_⟩
    · rintro j v H4 H5 hj ⟨s4, hd⟩ ⟨rfl, hv⟩
      obtain ⟨a, rfl, ha⟩ := refs_at hv
      obtain ⟨r, hr2, rat⟩ := paired_at pr ha
      refine ⟨rfl, _, rfl, a, _, rfl, .inr ⟨SqT.of (s4 _ _ rat), _, hd, ?_, Same.put s4 _ hD, ?_⟩⟩
      · rw [List.length_map, List.length_take]
        exact small1000 (by omega)
      · rw [upd_same, take_snoc ha, List.map_append]
        rfl
    · rintro H4 ⟨s4, hd⟩
      rw [List.length_map, List.take_length] at hd
      refine ⟨D, as, rows, wd, rfl, hd, Paired.imp (fun _ _ z => s4 _ _ z) pr, hw, wd1, few, hb, fun t sl rl sas H' s5 ht hs hn => ?_⟩
      refine rd_it ht rfl (rd_lenL hs ?_)
      rw [List.length_map, hn]
      exact q H' (s4.trans s5)
end
end Tw
end

section
set_option Elab.async false
set_option linter.all false
set_option maxRecDepth 100000
set_option maxHeartbeats 4000000
/-! A def that closes over its class; super().__init__(..) as its first statement. -/
namespace Tw
open PySem PySem.Spec PySem.W PyProof.Rows L2 NdefX ClX
/-- what the program must be for super() -/
structure PrOk (P : Program) : Prop where
  file : ((P.main.file : Str) == ("/claim/cut.py" : Str)) = true
  top : (P.main.scope.names.lookup ("super" : Str)).isSome = false
/-- such a def -/
structure SupD (K : PySem.W.Frag) (name qual : Str) (st : Stmt) (f D f2 cc c : Addr) : Prop where
  lk : ∃ (oc : Value) (od : Option Addr) (sl : Array (Option Value)) (kV doc pm : Value) (an : Option Addr) (ct : Value), K.lookup f = some ⟨oc, od, .func (fnX name qual (defArgs st) (defBody st) (defScope st) [("__class__", cc)] .none kV doc pm an (.ref c) ct), sl⟩
  cd : codeIn K (.ref c) qual = true
  file : ∃ (ccl : Value) (cdd : Option Addr) (vs : Array Value) (ccs : Array (Option Value)) (tf : Tok), K.lookup c = some ⟨ccl, cdd, .fields vs, ccs⟩ ∧ vs[2]? = some (.str "/claim/cut.py" tf)
  cell : ∃ (cl : Value) (cld : Option Addr) (csl : Array (Option Value)), K.lookup cc = some ⟨cl, cld, .cell (some (.ref D)), csl⟩
  cls : ∃ cd, clsIn K D = some cd
  sub : mroIn K D (.ref D) = some true
  sup : ks_superIn K D D "__init__" = some (some (.ref f2))
  ty : typeIn K (.ref f2) = some (.type "function")
  tp : nsIn K cStatics "thirdparty.any" = some none
  fi : fnIn K f2 = true
theorem ba' {a b : Bool} (h : (a && b) = true) : a = true ∧ b = true := Bool.and_eq_true_iff.mp h
theorem supD_of {K : PySem.W.Frag} {name qual : Str} {st : Stmt} {f D f2 : Addr} (h : supB K f D f2 = true) (e : xW K f = some (name, qual, defArgs st, .stmts (defBody st), defScope st, mainGlobals, builtinsNs)) : ∃ cc c, SupD K name qual st f D f2 cc c := by
  unfold supB at h
  obtain ⟨h, h7⟩ := ba' h
  obtain ⟨h, h6⟩ := ba' h
  obtain ⟨h, h5⟩ := ba' h
  obtain ⟨h, h4⟩ := ba' h
  obtain ⟨h, h3⟩ := ba' h
  obtain ⟨h, h2⟩ := ba' h
  unfold xW at e
  cases q : K.lookup f with
  | none => rw [q] at e; cases e
  | some o =>
    obtain ⟨oc, od, dt, sl⟩ := o
    rw [q] at e h
    cases dt with
    | func fd =>
      obtain ⟨n1, n2, n3, n4, n5, n6, n7, n8, n9, n10, n11, n12, n13, n14, n15⟩ := fd
      have e2 : (some (n1, n2, n3, n4, n5, n6, n15) : XW) = _ := e
      simp only [Option.some.injEq, Prod.mk.injEq] at e2
      obtain ⟨e1, e2, e3, e4, e5, e6, e7⟩ := e2
      subst e1 e2 e3 e4 e5 e6 e7
      dsimp only at h
      obtain ⟨h, hc⟩ := ba' h
      obtain ⟨hcl, hd⟩ := ba' h
      cases n8 with
      | none =>
        cases n13 with
        | ref c =>
          obtain ⟨hc1, hc2⟩ := ba' hc
          cases n7 with
          | nil => cases hcl
          | cons x r =>
            cases r with
            | cons _ _ => cases hcl
            | nil =>
              obtain ⟨x, cc⟩ := x
              obtain ⟨hx, hcc⟩ := ba' hcl
              have hx := eq_of_beq hx
              subst hx
              refine ⟨cc, c, ⟨oc, od, sl, n9, n10, n11, n12, n14, q⟩, hc1, ?_, ?_, Option.isSome_iff_exists.mp h2, ?_, ?_, ?_, ?_, h7⟩
              · cases qc : K.lookup c with
                | none => rw [qc] at hc2; cases hc2
                | some o =>
                  obtain ⟨o1, o2, o3, o4⟩ := o
                  rw [qc] at hc2
                  cases o3 with
                  | fields vs =>
                    dsimp only at hc2
                    cases qv : (vs[2]? : Option Value) with
                    | none => rw [qv] at hc2; cases hc2
                    | some v =>
                      rw [qv] at hc2
                      cases v with
                      | str z t =>
                        have hz := eq_of_beq (show (z == ("/claim/cut.py" : Str)) = true from hc2)
                        subst hz
                        exact ⟨o1, o2, vs, o4, t, rfl, qv⟩
                      | _ => cases hc2
                  | _ => cases hc2
              · cases qc : K.lookup cc with
                | none => rw [qc] at hcc; cases hcc
                | some o =>
                  obtain ⟨o1, o2, o3, o4⟩ := o
                  rw [qc] at hcc
                  cases o3 with
                  | cell v =>
                    cases v with
                    | none => cases hcc
                    | some v =>
                      cases v with
                      | ref d =>
                        have hz := eq_of_beq (show (d == D) = true from hcc)
                        subst hz
                        exact ⟨o1, o2, o4, rfl⟩
                      | _ => cases hcc
                  | _ => cases hcc
              · cases qm : mroIn K D (.ref D) with
                | none => rw [qm] at h3; cases h3
                | some b =>
                  rw [qm] at h3
                  cases b with
                  | true => rfl
                  | false => cases h3
              · cases qm : ks_superIn K D D "__init__" with
                | none => rw [qm] at h4; cases h4
                | some b =>
                  rw [qm] at h4
                  cases b with
                  | none => cases h4
                  | some v =>
                    cases v with
                    | ref g => rw [eq_of_beq (show (g == f2) = true from h4)]
                    | _ => cases h4
              · cases qm : typeIn K (.ref f2) with
                | none => rw [qm] at h5; cases h5
                | some v =>
                  rw [qm] at h5
                  cases v with
                  | type t => rw [eq_of_beq (show (t == "function") = true from h5)]
                  | _ => cases h5
              · cases qm : nsIn K cStatics "thirdparty.any" with
                | none => rw [qm] at h6; cases h6
                | some v =>
                  rw [qm] at h6
                  cases v with
                  | none => rfl
                  | some _ => cases h6
        | _ => cases hc
      | _ => cases hd
    | _ => cases e
section
variable {CX : CXT} {P : Program} {w : World} {K : PySem.W.Frag} {mg : Str → Option Value} {base : Heap} {N ps : List Str} {name qual : Str} {st : Stmt} {f D f2 cc c : Addr} {k : Nat} {sp : Sp}
abbrev nfOf (name qual : Str) (st : Stmt) (cc c : Addr) : NF := ⟨name, qual, defArgs st, defBody st, defScope st, [("__class__", cc)], c⟩
/-- such a def by its body, its activation known -/
theorem fnx_of (S : SupD K name qual st f D f2 cc c) (Sc : NScope N ps ["__class__"] (defScope st))
    (hb : ∀ (kV doc pm : Value) (an : Option Addr) (ct : Value) (us : List Value), us.length = ps.length → bindArgs (fnX name qual (defArgs st) (defBody st) (defScope st) [("__class__", cc)] .none kV doc pm an (.ref c) ct) ⟨us, []⟩ = pure (ps.zip us))
    (len : ∀ vs H Q E, sp vs H Q E → vs.length = ps.length)
    (hbody : ∀ (A : Around) (outer : List Env) (s : Shared) (H : Hp) (vs : List V) (Q : VK) (E : XK), Room k (ncx CX P w K mg base N (nfOf name qual st cc c) f A outer s H E).A → sp vs H Q E → ∀ s', Inv (ncx CX P w K mg base N (nfOf name qual st cc c) f A outer s H E) [] (startF N vs [none]) H s' →
      _root_.PySem.wpAt (model P w) (ncx CX P w K mg base N (nfOf name qual st cc c) f A outer s H E).A (.func (defBody st) (ncx CX P w K mg base N (nfOf name qual st cc c) f A outer s H E).env) (execs (defBody st) (ncx CX P w K mg base N (nfOf name qual st cc c) f A outer s H E).env)
        (SP (ncx CX P w K mg base N (nfOf name qual st cc c) f A outer s H E) [] { nx := fun _ H' => Q .non H', rt := Q }) (ncx CX P w K mg base N (nfOf name qual st cc c) f A outer s H E).xe s') : FnR P w K mg base CX (k + 1) f sp := by
  intro A outer s H us vs Q E hr e0 r hsp
  have KX : K.In s.heap := e0.mod.kin.keeps fun b o e => (e0.bs b o e).1
  have KB : ∀ b o, K.lookup b = some o → H b = none := fun b o e => (e0.bs b o (e0.mod.kin _ _ e)).2
  have hl := len _ _ _ _ hsp
  have lim : s.heap.NoLimit := e0.mod.nolimit.keeps fun b o e => (e0.bs b o e).1
  obtain ⟨oc, od, sl, kV, doc, pm, an, ct, lk⟩ := S.lk
  obtain ⟨c1, c2, c3, hcell⟩ := S.cell
  have C : CellsAt [(("__class__" : Str), cc)] ["__class__"] [none] s.heap H := by
    have lo : ∀ {y : Str} {c' : Addr}, ([(("__class__" : Str), cc)] : List (Str × Addr)).lookup y = some c' → y = "__class__" ∧ c' = cc := by
      intro y c' e
      rw [List.lookup_cons] at e
      cases q : (y == ("__class__" : Str)) with
      | true => rw [q] at e; exact ⟨eq_of_beq q, (Option.some.inj e).symm⟩
      | false => rw [q] at e; cases e
    refine ⟨rfl, fun y c' e => ?_, fun x y c' e1 e2 => (lo e1).1.trans (lo e2).1.symm, fun i y e => ?_⟩
    · obtain ⟨_, rfl⟩ := lo e
      exact ⟨KB _ _ hcell, _, _, KX _ _ hcell, rfl⟩
    · match i, e with
      | 0, e =>
        have ey := Option.some.inj e
        subst ey
        exact ⟨cc, by rw [List.lookup_cons, beq_self_eq_true], fun v z => by cases z⟩
      | _ + 1, e => simp at e
  refine codeAny_call_function hr.depth (KX _ _ lk) rfl Sc.co Sc.gen rfl (codeRec_of KX S.cd) ?_
  rw [hb kV doc pm an ct us (by rw [← r.length]; exact hl)]
  refine wpAny_pure (wpAny_newFunctionEnv Sc.nocell (fun ⟨n, _⟩ hy => Sc.par n (List.of_mem_zip hy).1) (fun h₁ hns hsb => ⟨lim.fresh _ hsb, ?_⟩) Sc.kind)
  show codeAny _ _ (.func (defBody st) (envF (nfOf name qual st cc c) f s.heap.objs.size)) _ _
  refine ks_codeAny_funcAt ?_
  have kp : ∀ b o, s.heap.get? b = some o → h₁.get? b = some o := fun b o e => hsb.extBut b o (Nat.ne_of_lt (Heap.lt_size e)) (Heap.get?_push_of_some _ e)
  have I : Inv (ncx CX P w K mg base N (nfOf name qual st cc c) f A outer s H E) [] (startF N vs [none]) H { s with heap := h₁, toks := s.toks + (ps.zip us).length } := inv_startN (F := nfOf name qual st cc c) Sc hr.hd e0 hl r C hns kp
  refine ks_wpAt_mono (hbody A outer s H vs Q E (hr.deeper _) hsp _ I) (fun fl s' hs => ?_) fun e s' hs => hs
  have fin : ∀ {σ' : L2.St} {H' : Hp} {v : V} {u : Value}, Inv (ncx CX P w K mg base N (nfOf name qual st cc c) f A outer s H E) [] σ' H' s' → L2.RelV v u → Q v H' → CE outer P w H s Q u s' :=
    fun {σ' H' v u} J rv q => ⟨v, H', J.os, J.bare, J.base, J.hok, rv, q⟩
  cases fl with
  | ret u =>
    obtain ⟨v, σ', H', J, rv, q⟩ := hs
    exact fin J rv q
  | next =>
    obtain ⟨σ', H', J, q⟩ := hs
    exact fin (v := V.non) (u := Value.none) J rfl q
  | brk =>
    obtain ⟨_, _, _, q⟩ := hs
    exact False.elim q
  | cont =>
    obtain ⟨_, _, _, q⟩ := hs
    exact False.elim q
end
/-- the first statement, then the rest -/
theorem at_super {X : Cx} {pins : List (Addr × Obj)} {s : Shared} {σ : L2.St} {H : Hp} {D' : Ends} {name qual : Str} {st : Stmt} {f D f2 cc c : Addr} {k : Nat} {sp : Sp} {p0 p1 apos pos p2 : Pos} {e : Expr} {es : List Expr} {rest : List Stmt} {t : TA} {u : TS} {body : List Stmt} {ar : Arg}
    {x dx : Addr} {fs : List (Str × V)} {pl : Sem Bool} (I : Inv X pins σ H s) (PO : PrOk X.prog) (S : SupD X.K name qual st f D f2 cc c) (hfu : X.env.func = some f) (hco : X.env.code = .ref c) (hcells : X.env.cells.lookup ("__class__" : Str) = some cc)
    (hks : X.env.scope.names.lookup ("super" : Str) = some .globalImplicit) (hkc : X.env.scope.names.lookup ("__class__" : Str) = some .free) (hka : X.env.scope.names.lookup ar.arg = some .local) (hp : ((defArgs st).posonlyargs ++ (defArgs st).args).head? = some ar)
    (hN : X.N[0]? = some ar.arg) (hσ : σ[0]? = some (some (.ref x))) (hx : H x = some (.ins D dx fs)) (hsuper : X.mg "super" = none) (F : FnR X.prog X.w X.K X.mg X.base CX0 k f2 sp) (hr : Room k X.A) (ha : PA X (e :: es) t)
    (hst : starEach (e :: es) X.env = (false, eval e X.env) :: starEach es X.env) (hpl : (backTo pos (starEach es X.env)).any (·.1) = false)
    (he : eval (.Call (.Attribute (.Call (.Name "super" p0) [] [] p1) "__init__" apos) (e :: es) [] pos) X.env = (do
      let ov ← attributeBase (.Call (.Name "super" p0) [] [] p1) "__init__" X.env (eval (.Call (.Name "super" p0) [] [] p1) X.env)
      standAt apos.atName
      let (f, first) ← holding [ov] (getMethod ov "__init__" pl)
      callWith pos f first (backTo pos (starEach (e :: es) X.env)) []))
    (hi : interactive X.env = false) (hrest : PSs X rest u) (h : t σ H fun vs H1 => sp (.ref x :: vs) H1 (fun _ H2 => u D' σ H2) E0) :
    _root_.PySem.wpAt (model X.prog X.w) X.A (.func body X.env) (execs (.Expr (.Call (.Attribute (.Call (.Name "super" p0) [] [] p1) "__init__" apos) (e :: es) [] pos) p2 :: rest) X.env) (SP X pins D') X.xe s := by
  have KX : X.K.In s.heap := I.kIn
  obtain ⟨oc, od, sl, kV, doc, pm, an, ct, lk⟩ := S.lk
  obtain ⟨c1, c2, c3, hcell⟩ := S.cell
  obtain ⟨d1, d2, vs, d4, tf, hcode, hvs⟩ := S.file
  obtain ⟨cdD, hcls⟩ := S.cls
  obtain ⟨oD, hD1, hD2⟩ : ∃ oD, X.K.lookup D = some oD ∧ oD.data = .cls cdD := by
    unfold clsIn at hcls
    split at hcls
    · rename_i c d cd' sl ho
      cases hcls
      exact ⟨_, ho, rfl⟩
    · cases hcls
  obtain ⟨mA, O, _, _, _, _⟩ := ins_get I.hok hx
  obtain ⟨od2, J, _⟩ := O.look
  obtain ⟨m, hn, hl⟩ := I.loc
  obtain ⟨us, rus, lus⟩ := hl 0 ar.arg (.ref x) hN hσ (.inl hka)
  obtain rfl : us = Value.ref x := rus
  have hm : m ar.arg = some (.ref x) := by
    rcases lus with ⟨_, hm⟩ | ⟨hk, _⟩
    · exact hm
    · have hk : X.env.scope.names.lookup ar.arg = some .cell ∨ X.env.scope.names.lookup ar.arg = some .free := hk
      rw [hka] at hk
      rcases hk with z | z <;> cases z
  refine ks_wpAt_execs_cons (ks_wpAt_Expr_any (hi := hi) (ks_wpAt_MethodCall (pl := pl) (ks_wpAt_super_base (env := X.env) hks hkc (by decide) hfu (KX _ _ lk) rfl hp hco (KX _ _ hcode) rfl hvs PO.file PO.top ?_) he))
  obtain ⟨mb, b1, b2⟩ := I.mod.blt
  refine ks_loadName_global I.ok.kind hks (Calls.loadGlobal_builtin (by rw [I.ok.glob]; exact I.mod.glob.keeps I.bk) hsuper (by rw [I.ok.blt]; exact b1.keeps I.bk) ((b2 "super" (by decide)).trans (show bootBuiltins "super" = some (.type "super") by decide +kernel)) ⟨rfl, ?_⟩)
  refine wpAny_loadName_free I.ok.kind hkc hcells ⟨_, KX _ _ hcell, rfl⟩ ?_
  refine wpAny_loadName_local I.ok.kind hka hn hm ?_
  refine ks_wpAny_isType_cls (KX _ _ hD1) hD2 ⟨rfl, ?_⟩
  obtain ⟨hh, g, d, tk, os⟩ := s
  refine ks_wpAny_call_super (KX _ _ hD1) hD2 J.at_ J.cls (fun c e => ?_) (looks_mroIn KX S.sub) (fun h' ee kk => ?_)
  · have := J.no
    unfold notCls at this
    rw [e] at this
    exact Bool.noConfusion this
  have I1 : Inv X pins σ H ⟨h', g, d, tk, os⟩ := I.kept (t' := tk) kk
  have KX1 : X.K.In h' := I1.kIn
  obtain ⟨of, hof, hofc⟩ : ∃ of, X.K.lookup f2 = some of ∧ of.cls = .type "function" := by
    have ht' : (X.K.lookup f2).map (·.cls) = some (.type "function") := S.ty
    cases z : X.K.lookup f2 with
    | none => rw [z] at ht'; cases ht'
    | some of => rw [z] at ht'; exact ⟨of, rfl, Option.some.inj ht'⟩
  have hsup : alongIn X.K "__init__" ((cdD.mro.dropWhile (· != .ref D)).drop 1) = some (some (.ref f2)) := by
    have := S.sup
    unfold ks_superIn at this
    rw [hcls] at this
    exact this
  refine ks_wpAny_getMethod_super ee (looks_opaque KX1 S.tp) (l₀ := cdD.mro) (fun A Q E s k q => wpAny_bind ((looks_clsIn KX1 hcls) A _ E s k (wpAny_pure q))) rfl KX1 hsup (KX1 _ _ hof) hofc (ks_ne KX J hcls) (by decide) ?_
  have I2 := met_new (g := f2) (C := x) I1
  refine callwith_cm (g := f2) (C := x) I2 (base_none I1 (Nat.le_refl _)) S.fi (thn (ha.run pos _ _ σ H _ I2 h) fun us s3 ⟨vs, H2, I3, rv, q2⟩ => ⟨⟨pin_at I3, I3.kIn⟩, ?_⟩) hst hpl
  refine wpAny_mono (run_cm (C := x) F hr pass0 I3 rv q2) (fun v s4 ⟨v2, H4, I4, _, q4⟩ => ?_) fun _ _ z => z
  exact wpAt_of_wpAny (hrest.run _ _ σ H4 D' I4 q4)
end Tw
end

section
set_option Elab.async false
set_option linter.all false
set_option maxRecDepth 100000
set_option maxHeartbeats 4000000
/-! Emptiness, sorted signs. -/
namespace Tw
open PySem PySem.Spec PyProof.Rows L2
/-- xs != [], xs != () -/
def rNeE (K : PySem.W.Frag) : R2 := fun x y H Q => ∃ a b xs, x = .ref a ∧ y = .ref b ∧ ((SqL K H a xs ∧ SqL K H b []) ∨ (SqT K H a xs ∧ SqT K H b [])) ∧ Q (.bl (!xs.isEmpty)) H
/-- xs == [] -/
def rEqE (K : PySem.W.Frag) : R2 := fun x y H Q => ∃ a b xs, x = .ref a ∧ y = .ref b ∧ SqL K H a xs ∧ SqL K H b [] ∧ Q (.bl xs.isEmpty) H
theorem vals_nil {us : List Value} (r : Vals [] us) : us = [] := by cases r; rfl
section
variable {X : Cx}
theorem op_neE (hu : X.A.units < cLine) : OpR X (compareOp .NotEq) (rNeE X.K) := by
  intro pins s σ H x y v u Q I rx ry h
  obtain ⟨a, b, xs, rfl, rfl, h, q⟩ := h
  obtain rfl : v = Value.ref a := rx
  obtain rfl : u = Value.ref b := ry
  rcases h with ⟨ha, hb⟩ | ⟨ha, hb⟩
  · obtain ⟨its, rv, p, _⟩ := I.list ha
    obtain ⟨its2, rv2, p2, _⟩ := I.list hb
    obtain rfl := vals_nil rv2
    have l1 := rv.length
    cases xs with
    | nil =>
      obtain rfl := vals_nil rv
      exact SeqAt.RcNeAt.lists (e := fun _ => true) p.isList p2.isList rfl hu (fun j h1 => absurd h1 (by simp)) X.prog X.w X.xe _ ⟨.bl _, H, I, rfl, q⟩
    | cons x r =>
      refine SeqAt.RcNeAt.lists_lengths p.isList p2.isList ?_ hu X.prog X.w X.xe _ ⟨.bl true, H, I, rfl, q⟩
      rw [List.length_cons] at l1
      simp [← l1]
  · obtain ⟨its, rv, p, _⟩ := I.tuple ha
    obtain ⟨its2, rv2, p2, _⟩ := I.tuple hb
    obtain rfl := vals_nil rv2
    have l1 := rv.length
    refine SeqAt.RcNeAt.tuples (e := fun _ => true) p p2 hu (fun j h1 h2 => absurd h2 (by simp)) X.prog X.w X.xe _ ⟨.bl (!xs.isEmpty), H, I, ?_, q⟩
    show _ = _
    cases xs with
    | nil =>
      obtain rfl := vals_nil rv
      rfl
    | cons x r =>
      rw [List.length_cons] at l1
      simp [← l1]
theorem op_eqE (hu : X.A.units < cLine) : OpR X (compareOp .Eq) (rEqE X.K) := by
  intro pins s σ H x y v u Q I rx ry h
  obtain ⟨a, b, xs, rfl, rfl, ha, hb, q⟩ := h
  obtain rfl : v = Value.ref a := rx
  obtain rfl : u = Value.ref b := ry
  obtain ⟨its, rv, p, _⟩ := I.list ha
  obtain ⟨its2, rv2, p2, _⟩ := I.list hb
  obtain rfl := vals_nil rv2
  have l1 := rv.length
  cases xs with
  | nil =>
    obtain rfl := vals_nil rv
    exact SeqAt.RcAt.lists (e := fun _ => true) p.isList p2.isList rfl hu (fun j h1 => absurd h1 (by simp)) X.prog X.w X.xe _ ⟨.bl _, H, I, rfl, q⟩
  | cons x r =>
    refine SeqAt.RcAt.lists_lengths p.isList p2.isList ?_ hu X.prog X.w X.xe _ ⟨.bl false, H, I, rfl, q⟩
    rw [List.length_cons] at l1
    simp [← l1]
end
/-! ### sorted lists of few texts -/
theorem lt_anti : ∀ (a b : List Nat), ltCps a b = false → ltCps b a = false → a = b
  | [], [], _, _ => rfl
  | [], _ :: _, h, _ => by cases h
  | _ :: _, [], _, h => by cases h
  | x :: a, y :: b, h1, h2 => by
    unfold ltCps at h1 h2
    rw [Bool.or_eq_false_iff] at h1 h2
    have e : x = y := by
      have q1 := of_decide_eq_false h1.1
      have q2 := of_decide_eq_false h2.1
      omega
    subst e
    have r1 : ltCps a b = false := by simpa using h1.2
    have r2 : ltCps b a = false := by simpa using h2.2
    rw [lt_anti a b r1 r2]
theorem str_ext {a b : Str} (h : a.cps.toList = b.cps.toList) : a = b := by
  obtain ⟨x⟩ := a
  obtain ⟨y⟩ := b
  have e : x = y := Array.toList_inj.mp h
  rw [e]
theorem perm2 {α : Type} {a b : α} {ys : List α} (h : ys.Perm [a, b]) : ys = [a, b] ∨ ys = [b, a] := by
  have hl := h.length_eq
  match ys, hl with
  | [c, d], _ =>
    have hc : c ∈ [a, b] := h.subset List.mem_cons_self
    simp only [List.mem_cons, List.not_mem_nil, or_false] at hc
    rcases hc with rfl | rfl
    · have := List.singleton_perm_singleton.mp ((List.perm_cons c).mp h)
      rw [this]; exact .inl rfl
    · have h2 : [c, d].Perm [c, a] := h.trans (List.Perm.swap c a [])
      have := List.singleton_perm_singleton.mp ((List.perm_cons c).mp h2)
      rw [this]; exact .inr rfl
theorem sorted_same {xs ys zs : List Str} (hl : xs.length ≤ 2) (h1 : ys.Perm xs) (h2 : zs.Perm xs) (s1 : sortedS ys = true) (s2 : sortedS zs = true) : ys = zs := by
  match xs, hl with
  | [], _ => rw [h1.eq_nil, h2.eq_nil]
  | [a], _ => rw [List.perm_singleton.mp h1, List.perm_singleton.mp h2]
  | [a, b], _ =>
    have anti : sortedS [a, b] = true → sortedS [b, a] = true → a = b := fun q1 q2 => by
      have r1 : ltCps b.cps.toList a.cps.toList = false := by
        have q1 : (!ltCps b.cps.toList a.cps.toList && true) = true := q1
        simpa using q1
      have r2 : ltCps a.cps.toList b.cps.toList = false := by
        have q2 : (!ltCps a.cps.toList b.cps.toList && true) = true := q2
        simpa using q2
      exact str_ext (lt_anti _ _ r2 r1)
    rcases perm2 h1 with rfl | rfl <;> rcases perm2 h2 with rfl | rfl
    · rfl
    · rw [anti s1 s2]
    · rw [anti s2 s1]
    · rfl
theorem dp_strs {K : PySem.W.Frag} {H : Hp} : ∀ ys : List Str, DpAll K H (ys.map V.str) (ys.map PyData.str)
  | [] => .nil
  | y :: ys => .cons (.str y) (dp_strs ys)
theorem eqv_strs : ∀ ys : List Str, PyData.eqvAll (ys.map PyData.str) (ys.map PyData.str) = true
  | [] => rfl
  | y :: ys => by
    show (PyData.eqv (.str y) (.str y) && PyData.eqvAll (ys.map PyData.str) (ys.map PyData.str)) = true
    rw [eqv_strs ys, Bool.and_true]
    show (y == y) = true
    exact beq_self_eq_true y
theorem strOk_name {s : Str} (h : NameOk s) : PySem.PyData.strOk s = true := by
  have all : ∀ c ∈ letters.cps.toList, c < 0x110000 := by decide +kernel
  show (s.cps.all fun c => decide (c < 0x110000)) = true
  rw [Array.all_eq_true']
  intro c hc
  exact decide_eq_true (all c (h.let_ c (Array.mem_toList_iff.mpr hc)))
theorem lay_strs : ∀ ys : List Str, (∀ y ∈ ys, PySem.PyData.strOk y = true) → PyData.canLayAll0 (ys.map PyData.str) = true
  | [], _ => rfl
  | y :: ys, h => by
    show (PyData.canLay0 (.str y) && PyData.canLayAll0 (ys.map PyData.str)) = true
    rw [lay_strs ys fun z hz => h z (List.mem_cons_of_mem _ hz), Bool.and_true]
    exact h y List.mem_cons_self
theorem depth_strs : ∀ ys : List Str, PyData.depthAll (ys.map PyData.str) ≤ 1
  | [] => by simp [PyData.depthAll]
  | y :: ys => by
    have h1 := depth_strs ys
    simp only [List.map_cons, PyData.depthAll, PyData.depth]
    omega
theorem shaped_strs {ys : List Str} (h : ∀ y ∈ ys, PySem.PyData.strOk y = true) : SeqAt.shaped (.list (ys.map PyData.str)) = true := by
  have h1 := depth_strs ys
  have h2 : PyData.depth (.list (ys.map PyData.str)) ≤ 64 := by
    simp only [PyData.depth]
    omega
  show (PyData.canLay0 (.list (ys.map PyData.str)) && decide (PyData.depth (.list (ys.map PyData.str)) ≤ 64)) = true
  rw [Bool.and_eq_true]
  exact ⟨by simp only [PyData.canLay0]; exact lay_strs ys h, decide_eq_true h2⟩
end Tw
end

section
set_option Elab.async false
set_option linter.all false
set_option maxRecDepth 100000
set_option maxHeartbeats 4000000
/-! Signs, copies, pair rows, papers. -/
namespace Tw
open PySem PySem.Spec PyProof.Rows L2 NdefX
section
variable {P : Program} {w : World} {K : PySem.W.Frag} {mg : Str → Option Value} {base : Heap}
def spSigns (K : PySem.W.Frag) : Sp := fun vs H Q _ => ∃ a b g1 g2, vs = [.ref a, .ref b] ∧ ProbeAt K H a g1 ∧ ProbeAt K H b g2 ∧ g1.spec.signs.Perm g2.spec.signs ∧ ∀ H', Same H H' → Q (.bl true) H'
theorem ok_signs_equal (T : Txt K mg) : Cal P w K mg base 2 "are_signs_equal" (spSigns K) := by
  have sc : FnScope ["one", "other"] ["one", "other"] (defScope s_are_signs_equal) := ⟨rfl, rfl, rfl, by decide +kernel, rfl, by decide +kernel, by decide +kernel⟩
  refine ⟨fn_by (fd_are_signs_equal T) sc (fun _ _ _ _ _ _ us hl => match us, hl with | [_, _], _ => rfl) ?_ fun cdv A outer s H vs Q E hr h => ?_, g_are_signs_equal T, kp_of (fd_are_signs_equal T)⟩
  · rintro vs H Q E ⟨a, b, g1, g2, rfl, _⟩; rfl
  · obtain ⟨a, b, g1, g2, rfl, hp1, hp2, pm, k⟩ := h
    refine ⟨_, pss_one (ps_ret (pe_cmpR (op_eqD hr.units) (pe_b1 cr_sortedS (b_sorted T) (pe_m0 (ok_signs T) hr (pe_f (pv 0)))) (pe_b1 cr_sortedS (b_sorted T) (pe_m0 (ok_signs T) hr (pe_f (pv 1)))) (nomark _))), ?_⟩
    obtain ⟨⟨d1, q1, sa1, bm1, ol1, las1, h1, h2, _⟩, ok1⟩ := id hp1
    obtain ⟨⟨d2, q2, sa2, bm2, ol2, las2, i1, i2, _⟩, ok2⟩ := id hp2
    obtain ⟨⟨dq1, _, _, _, _, _, _, hq1, _⟩, _⟩ := id h2
    obtain ⟨⟨dq2, _, _, _, _, _, _, hq2, _⟩, _⟩ := id i2
    have l1 := ok1.spec.signs.2.2.1
    have l2 := ok2.spec.signs.2.2.1
    refine ⟨_, rfl, rd_f h1 (c_Probe T) (n_Probe_program T) probe_program ⟨q1, dq1, _, rfl, hq1, prog_no (by decide +kernel), q1, g1.spec, rfl, h2, fun la H1 _ s1 hla => ⟨la, g1.spec.signs, rfl, SqL.of hla, by omega, fun ys p1 pm1 st1 hp1 => ?_⟩⟩⟩
    have s2 := Same.new s1 (.lst (ys.map V.str)) hp1
    refine ⟨_, rfl, rd_f (s2 _ _ i1) (c_Probe T) (n_Probe_program T) probe_program ⟨q2, dq2, _, rfl, s2 _ _ hq2, prog_no (by decide +kernel), q2, g2.spec, rfl, i2.same s2, fun lb H2 _ s3 hlb => ⟨lb, g2.spec.signs, rfl, SqL.of hlb, by omega, fun zs p2 pm2 st2 hp2 => ?_⟩⟩⟩
    have e : ys = zs := sorted_same l1 pm1 (pm2.trans pm.symm) st1 st2
    subst e
    have n2 := same_new (.lst (ys.map V.str)) hp2
    have hy : ∀ y ∈ ys, PySem.PyData.strOk y = true := fun y hy => strOk_name (ok1.spec.signs.2.2.2 y (pm1.subset hy))
    refine ⟨.list (ys.map PyData.str), .list (ys.map PyData.str), .lst (SqL.of (n2 _ _ (s3 _ _ upd_same))) (dp_strs ys), .lst (SqL.of upd_same) (dp_strs ys), shaped_strs hy, shaped_strs hy, ?_⟩
    have ee : PyData.eqv (.list (ys.map PyData.str)) (.list (ys.map PyData.str)) = true := eqv_strs ys
    rw [ee]
    exact k _ ((s2.trans s3).trans n2)
def spCopied : Sp := fun vs H Q _ => ∃ a xs, vs = [.ref a] ∧ H a = some (.lst xs) ∧ ∀ l H', H l = none → Same H H' → H' l = some (.lst xs) → Q (.ref l) H'
theorem ok_copied (T : Txt K mg) : Cal P w K mg base 1 "copied" spCopied := by
  have sc : FnScope ["value"] ["value"] (defScope s_copied) := ⟨rfl, rfl, rfl, by decide +kernel, rfl, by decide +kernel, by decide +kernel⟩
  refine ⟨fn_by (fd_copied T) sc (fun _ _ _ _ _ _ us hl => match us, hl with | [_], _ => rfl) ?_ fun cdv A outer s H vs Q E hr h => ?_, g_copied T, kp_of (fd_copied T)⟩
  · rintro vs H Q E ⟨a, xs, rfl, _⟩; rfl
  · obtain ⟨a, xs, rfl, ha, k⟩ := h
    refine ⟨_, pss_one (ps_ret (pe_ifExp (pt_val (pe_isLT T (pv 0))) (pe_t1 cr_li (b_list T) (pv 0)) (pv 0))), ?_⟩
    refine ⟨_, rfl, rd_LTl ha fun q hq => ⟨true, rfl, iteT ?_⟩⟩
    have s1 := same_new (.tup [V.ty "list", V.ty "tuple"]) hq
    refine ⟨_, rfl, rd_li (s1 _ _ ha) fun l hl => k l _ ?_ (Same.new s1 _ hl) upd_same⟩
    cases q9 : H l with
    | none => rfl
    | some o => have := s1 _ _ q9; rw [hl] at this; cases this
def spPairRow (K : PySem.W.Frag) : Sp := fun vs H Q _ => ∃ a b l g1 g2 es, vs = [.ref a, .ref b, .ref l] ∧ ProbeAt K H a g1 ∧ ProbeAt K H b g2 ∧ EventsAt H l es ∧ es.length ≤ 10 ∧ (∀ e ∈ es, EventOk g1.spec.signs e ∧ EventOk g2.spec.signs e) ∧
  ∀ c H', Same H H' → RowAt H' c (TwM.pairRow amtS oneS g1 g2 es) → Q (.ref c) H'
theorem row_ne {g : Given} (ok : GivenOk g) (es : List (TwM.Event Str)) : (TwM.rowM g.spec (TwM.stateAt amtS oneS g es)).map V.int ≠ [] := fun z => by
  have h := TwM.rowM_length (GivenOk.lin ok |>.at (amt := amtS) (one := oneS) es)
  have h2 := congrArg List.length z
  rw [List.length_map, h] at h2
  unfold TwM.width at h2
  have h3 := ok.spec.modes.2.1
  have h4 : 1 * 1 ≤ g.spec.modes.length * (g.spec.registers.length + 1) := Nat.mul_le_mul h3 (by omega)
  rw [h2] at h4
  exact absurd h4 (by decide)
theorem row_len {g : Given} (ok : GivenOk g) (es : List (TwM.Event Str)) : (TwM.rowM g.spec (TwM.stateAt amtS oneS g es)).length ≤ 3 := by
  rw [TwM.rowM_length (GivenOk.lin ok |>.at (amt := amtS) (one := oneS) es)]
  exact ok.spec.wide
theorem ok_pair_row (T : Txt K mg) : Cal P w K mg base 5 "pair_row" (spPairRow K) := by
  have sc : FnScope ["one", "other", "events", "found", "probe"] ["one", "other", "events"] (defScope s_pair_row) := ⟨rfl, rfl, rfl, by decide +kernel, rfl, by decide +kernel, by decide +kernel⟩
  refine ⟨fn_by (fd_pair_row T) sc (fun _ _ _ _ _ _ us hl => match us, hl with | [_, _, _], _ => rfl) ?_ fun cdv A outer s H vs Q E hr h => ?_, g_pair_row T, kp_of (fd_pair_row T)⟩
  · rintro vs H Q E ⟨a, b, l, g1, g2, es, rfl, _⟩; rfl
  · obtain ⟨a, b, l, g1, g2, es, rfl, hp1, hp2, hes, hn, hev, k⟩ := h
    refine ⟨_, pss_cons (ps_set (i := 3) sc.nd rfl (.inl rfl) (pe_tup pa_nil))
      (pss_cons (ps_for PassesOwn.never rfl (pi_tup (pe_tup (pa_cons (pv 0) (pa_cons (pv 1) pa_nil)))) (pg_name (i := 4) sc.nd rfl (.inl rfl))
        (pss_one (ps_set (i := 3) sc.nd rfl (.inl rfl) (pe_op op_catA (pv 3) (pe_c ((ok_plain_row T).up (by decide)) hr (pa_cons (pe_f (pv 4)) (pa_cons (pe_m (ok_run T) hr (pe_f (pv 4)) (pa_cons (pe_f (pv 4)) (pa_cons (pv 2) pa_nil))) pa_nil)))))))
      (pss_one (ps_ret (pv 3)))), ?_⟩
    refine ⟨by show 0 ≤ sizeLine; decide, fun f0 hf0 => ?_⟩
    have s0 := same_new (.tup []) hf0
    refine ⟨_, rfl, _, rfl, by show 2 ≤ sizeLine; decide, fun t ht => ?_⟩
    have s1 := Same.new s0 (.tup [V.ref a, V.ref b]) ht
    -- one probe's row
    have step : ∀ {p : Addr} {g : Given} {fd : Addr} {xs : List Int} {H2 : Hp} {Q' : VK}, ProbeAt K H p g → (∀ e ∈ es, EventOk g.spec.signs e) → Same H H2 → H2 fd = some (.tup (xs.map V.int)) → xs.length ≤ 3 →
        (∀ c H3, Same H2 H3 → H3 c = some (.tup ((xs ++ TwM.rowM g.spec (TwM.stateAt amtS oneS g es)).map V.int)) → Q' (.ref c) H3) →
        (tOp (rCatA K) (tVar 3) (tCl (spPlainRow K) (tCons (tFd K "program" (tVar 4)) (tCons (tMt (He.ga K "Program") "run" (spRun K) (tFd K "program" (tVar 4)) (tCons (tFd K "start" (tVar 4)) (tCons (tVar 2) tNil))) tNil))))
          [some (.ref a), some (.ref b), some (.ref l), some (.ref fd), some (.ref p)] H2 Q' := by
      intro p g fd xs H2 Q' hp he s2 hfd hxs q
      obtain ⟨⟨d1, q1, sa1, bm1, ol1, las1, h1, h2, h3, _⟩, ok1⟩ := id hp
      obtain ⟨⟨dq1, _, _, _, _, _, _, hq1, _⟩, _⟩ := id h2
      refine ⟨_, rfl, _, rfl, rd_f (s2 _ _ h1) (c_Probe T) (n_Probe_program T) probe_program ⟨_, rfl, rd_f (s2 _ _ h1) (c_Probe T) (n_Probe_program T) probe_program ⟨q1, dq1, _, rfl, s2 _ _ hq1, prog_no (by decide +kernel), _, rfl, rd_f (s2 _ _ h1) (c_Probe T) (n_Probe_start T) probe_start ⟨_, rfl, ?_⟩⟩⟩⟩
      refine ⟨q1, sa1, l, g.spec, g.start, es, rfl, h2.same s2, h3.same s2, ok1.start, ok1.bd, hes.same s2, hn, he, fun c H3 s3 hc => ?_⟩
      refine ⟨q1, c, g.spec, TwM.stateAt amtS oneS g es, rfl, h2.same (s2.trans s3), hc, TwM.run_ok (specLin ok1.spec) _ _ ok1.start, fun c2 H4 s4 hc2 => ?_⟩
      have rl := row_len ok1 es
      refine ⟨fd, c2, xs.map V.int, _, rfl, rfl, SqT.of (s4 _ _ (s3 _ _ hfd)), SqT.of hc2, by rw [List.length_map, List.length_map, sizeLine_eq]; omega, fun z => ?_, fun _ z => absurd z (row_ne ok1 es), fun _ _ p2 hp2 => ?_⟩
      · have z2 : xs = [] := by simpa using z
        subst z2
        exact q c2 H4 (s3.trans s4) (by rw [List.nil_append]; exact hc2)
      · exact q p2 _ (Same.new (s3.trans s4) _ hp2) (by rw [upd_same, List.map_append])
    refine ⟨t, rfl, ⟨_, SqT.of upd_same⟩, for_it (walk_tup (xs := [V.ref a, V.ref b])) (fun i σ H2 => ∃ fd v, σ = [some (.ref a), some (.ref b), some (.ref l), some (.ref fd), v] ∧ Same H H2 ∧ H2 t = some (.tup [V.ref a, V.ref b]) ∧
        ∃ xs : List Int, H2 fd = some (.tup (xs.map V.int)) ∧ xs = (match i with | 0 => [] | 1 => TwM.rowM g1.spec (TwM.stateAt amtS oneS g1 es) | _ => TwM.pairRow amtS oneS g1 g2 es)) ⟨_, _, rfl, s1, upd_same, [], same_new _ ht _ _ upd_same, rfl⟩
        (fun i σ H2 _ ⟨_, _, _, _, z, _⟩ => SqT.of z) ?_ ?_⟩
    · rintro i y σ H2 H3 hi ⟨fd, v, rfl, s2, h2, xs, hfd, ex⟩ ⟨rfl, hy⟩
      match i, hy, ex with
      | 0, hy, ex =>
        obtain rfl := (Option.some.inj hy).symm
        subst ex
        exact step hp1 (fun e he => (hev e he).1) s2 hfd (by simp) fun c H4 s4 hc => ⟨c, _, rfl, s2.trans s4, s4 _ _ h2, _, hc, rfl⟩
      | 1, hy, ex =>
        obtain rfl := (Option.some.inj hy).symm
        subst ex
        exact step hp2 (fun e he => (hev e he).2) s2 hfd (row_len hp1.ok es) fun c H4 s4 hc => ⟨c, _, rfl, s2.trans s4, s4 _ _ h2, _, hc, rfl⟩
      | _ + 2, hy, ex => simp at hy
    · rintro σ H2 ⟨fd, v, rfl, s2, h2, xs, hfd, ex⟩
      have ex : xs = TwM.pairRow amtS oneS g1 g2 es := ex
      subst ex
      exact ⟨_, rfl, k fd H2 s2 hfd⟩
/-! ### the papers -/
def cmpFs (a b : Addr) : List (Str × V) := [("one", .ref a), ("other", .ref b)]
theorem putc (a b : Addr) : putF "other" (.ref b) (putF "one" (.ref a) []) = cmpFs a b := by kernel_rfl
def spCmpInit (D : Addr) : Sp := fun vs H Q _ => ∃ (x dx a b : Addr) (H0 : Hp), vs = [.ref x, .ref a, .ref b] ∧ H0 x = none ∧ Same H0 H ∧ H x = some (.ins D dx []) ∧ ∀ H', Same H0 H' → H' x = some (.ins D dx (cmpFs a b)) → Q .non H'
theorem ok_cmp_init (T : Txt K mg) {D : Addr} (c : Cls K D) (n1 : NoAttr K D "one") (n2 : NoAttr K D "other") : FnR P w K mg base CX0 1 (He.ma K (He.ga K "Comparison") "__init__") (spCmpInit D) := by
  have sc : FnScope ["self", "one", "other"] ["self", "one", "other"] (defScope s_Comparison_init) := ⟨rfl, rfl, rfl, by decide +kernel, rfl, by decide +kernel, by decide +kernel⟩
  refine fn_by (fd_Comparison_init T) sc (fun _ _ _ _ _ _ us hl => match us, hl with | [_, _, _], _ => rfl) ?_ fun cdv A outer s H vs Q E hr h => ?_
  · rintro vs H Q E ⟨x, dx, a, b, H0, rfl, _⟩; rfl
  · obtain ⟨x, dx, a, b, H0, rfl, hx0, s0, hx, k⟩ := h
    refine ⟨_, pss_one (ps_asg (pe_tup (pa_cons (pv 1) (pa_cons (pv 2) pa_nil))) (pg_tup rfl (pgs_cons (pg_fld (pv 0)) (pgs_cons (pg_fld (pv 0)) pgs_nil)))), ?_⟩
    refine ⟨_, rfl, _, rfl, by show 2 ≤ sizeLine; decide, fun t ht => ?_⟩
    have s1 := Same.new s0 (.tup [V.ref a, V.ref b]) ht
    refine ⟨t, _, rfl, SqT.of upd_same, rfl, _, _, rfl, rd_gf rfl (same_new _ ht _ _ hx) c n1 (by decide) ?_⟩
    refine ⟨_, _, rfl, rd_gf rfl upd_same c n2 (by show 1 < 1000; decide) ⟨rfl, ?_⟩⟩
    have s2 := Same.put (Same.put s1 (.ins D dx (putF "one" (.ref a) [])) hx0) (.ins D dx (putF "other" (.ref b) (putF "one" (.ref a) []))) hx0
    rw [putc] at s2 ⊢
    exact k _ s2 upd_same
end
end Tw
end

section
set_option Elab.async false
set_option linter.all false
set_option maxRecDepth 100000
set_option maxHeartbeats 4000000
/-! The papers Alike, Apart. -/
namespace Tw
open PySem PySem.Spec PyProof.Rows L2 NdefX
section
variable {P : Program} {w : World} {K : PySem.W.Frag} {mg : Str → Option Value} {base : Heap}
theorem sup_Apart (T : Txt K mg) : ∃ cc c, SupD K "__init__" "Apart.__init__" s_Apart_init (He.ma K (He.ga K "Apart") "__init__") (He.ga K "Apart") (He.ma K (He.ga K "Comparison") "__init__") cc c := by
  have h1 := (Bool.and_eq_true_iff.mp (show (_ && _) = true from congrArg Prod.fst T.sp)).2
  have h2 : [xW K (He.ma K (He.ga K "Alike") "__init__"), xW K (He.ma K (He.ga K "Apart") "__init__")] = _ := congrArg Prod.snd T.sp
  exact supD_of h1 (List.cons.inj (List.cons.inj h2).2).1
theorem sup_Alike (T : Txt K mg) : ∃ cc c, SupD K "__init__" "Alike.__init__" s_Alike_init (He.ma K (He.ga K "Alike") "__init__") (He.ga K "Alike") (He.ma K (He.ga K "Comparison") "__init__") cc c := by
  have h1 := (Bool.and_eq_true_iff.mp (show (_ && _) = true from congrArg Prod.fst T.sp)).1
  have h2 : [xW K (He.ma K (He.ga K "Alike") "__init__"), xW K (He.ma K (He.ga K "Apart") "__init__")] = _ := congrArg Prod.snd T.sp
  exact supD_of h1 (List.cons.inj h2).1
/-! what the papers hold -/
def ApartAt (K : PySem.W.Frag) (H : Hp) (p : Addr) (es : List (TwM.Event Str)) : Prop := ∃ (dx : Addr) (fs : List (Str × V)) (l : Addr), H p = some (.ins (He.ga K "Apart") dx fs) ∧ lk fs "told" = none ∧ lk fs "events" = none ∧ lk fs "own_events" = some (.ref l) ∧ EventsAt H l es
def AlikeAt (K : PySem.W.Frag) (H : Hp) (p : Addr) : Prop := ∃ (dx : Addr) (fs : List (Str × V)), H p = some (.ins (He.ga K "Alike") dx fs) ∧ lk fs "told" = none
theorem ApartAt.kp {K : PySem.W.Frag} {H H' : Hp} {p : Addr} {es : List (TwM.Event Str)} (h : ApartAt K H p es) (k : Kp H H') : ApartAt K H' p es := let ⟨dx, fs, l, h1, h2, h3, h4, h5⟩ := h; ⟨dx, fs, l, k _ _ h1 rfl, h2, h3, h4, h5.kp k⟩
theorem AlikeAt.kp {K : PySem.W.Frag} {H H' : Hp} {p : Addr} (h : AlikeAt K H p) (k : Kp H H') : AlikeAt K H' p := let ⟨dx, fs, h1, h2⟩ := h; ⟨dx, fs, k _ _ h1 rfl, h2⟩
def apFs (a b l : Addr) : List (Str × V) := [("one", .ref a), ("other", .ref b), ("own_events", .ref l)]
theorem putap (a b l : Addr) : putF "own_events" (.ref l) (cmpFs a b) = apFs a b l := by kernel_rfl
theorem apFs_told (a b l : Addr) : (apFs a b l).lookup ("told" : Str) = none := by kernel_rfl
theorem apFs_events (a b l : Addr) : (apFs a b l).lookup ("events" : Str) = none := by kernel_rfl
theorem apFs_own (a b l : Addr) : (apFs a b l).lookup ("own_events" : Str) = some (.ref l) := by kernel_rfl
def alFs (a b : Addr) (v : V) : List (Str × V) := [("one", .ref a), ("other", .ref b), ("own_logs", v)]
theorem putal (a b : Addr) (v : V) : putF "own_logs" v (cmpFs a b) = alFs a b v := by kernel_rfl
theorem alFs_told (a b : Addr) (v : V) : (alFs a b v).lookup ("told" : Str) = none := by kernel_rfl
def spApartInit (K : PySem.W.Frag) : Sp := fun vs H Q _ => ∃ (x dx a b l : Addr) (H0 : Hp) (es : List (TwM.Event Str)), vs = [.ref x, .ref a, .ref b, .ref l] ∧ H0 x = none ∧ Same H0 H ∧ H x = some (.ins (He.ga K "Apart") dx []) ∧ EventsAt H0 l es ∧
  ∀ H', Same H0 H' → ApartAt K H' x es → Q .non H'
theorem ok_Apart_init (T : Txt K mg) (PO : PrOk P) : Mak P w K mg base 2 "Apart" (spApartInit K) := by
  obtain ⟨cc, c, S⟩ := sup_Apart T
  have sc : NScope ["self", "one", "other", "events", "__class__"] ["self", "one", "other", "events"] ["__class__"] (defScope s_Apart_init) := nscope_by (by decide +kernel)
  refine ⟨fnx_of S sc (fun _ _ _ _ _ us hl => match us, hl with | [_, _, _, _], _ => rfl) ?_ fun A outer s H vs Q E hr h s' I => ?_, g_Apart T, k_Apart T⟩
  · rintro vs H Q E ⟨x, dx, a, b, l, H0, es, rfl, _⟩; rfl
  · obtain ⟨x, dx, a, b, l, H0, es, rfl, hx0, s0, hx, hes, k⟩ := h
    refine at_super I PO S rfl rfl rfl rfl rfl rfl rfl rfl rfl hx (b_super T) (ok_cmp_init T (c_Apart T) (n_Apart_one T) (n_Apart_other T)) hr (pa_cons (pv 1) (pa_cons (pv 2) pa_nil)) rfl rfl rfl rfl
      (pss_one (ps_fld (pv 0) (pe_c (ok_copied T) hr (pa_cons (pv 3) pa_nil)) rfl)) ?_
    refine ⟨_, rfl, _, rfl, x, dx, a, b, H0, rfl, hx0, s0, hx, fun H1 s1 hx1 => ?_⟩
    obtain ⟨as, hl, pr⟩ := hes
    refine ⟨_, rfl, l, _, rfl, s1 _ _ hl, fun l2 H2 _ s2 h2 => ?_⟩
    refine ⟨_, rfl, x, _, dx, _, rfl, s2 _ _ hx1, c_Apart T, n_Apart_own_events T, by show 2 < 1000; decide, ?_⟩
    have s3 := Same.put (s1.trans s2) (.ins (He.ga K "Apart") dx (putF "own_events" (.ref l2) (cmpFs a b))) hx0
    rw [putap] at s3 ⊢
    have ne : l2 ≠ x := at_ne h2 (s2 _ _ hx1) (fun z => nomatch z)
    exact k _ s3 ⟨dx, _, l2, upd_same, apFs_told _ _ _, apFs_events _ _ _, apFs_own _ _ _, as, by rw [upd_ne ne]; exact h2, Paired.imp (fun _ _ z => s3 _ _ z) pr⟩
def spAlikeInit (K : PySem.W.Frag) : Sp := fun vs H Q _ => ∃ (x dx a b l : Addr) (H0 : Hp) (ls : List Addr), vs = [.ref x, .ref a, .ref b, .ref l] ∧ H0 x = none ∧ Same H0 H ∧ H x = some (.ins (He.ga K "Alike") dx []) ∧ H0 l = some (.lst (ls.map V.ref)) ∧ ls.length ≤ 100 ∧ (∀ a ∈ ls, ∃ xs, H0 a = some (.lst xs)) ∧
  ∀ H', Same H0 H' → AlikeAt K H' x → Q .non H'
theorem ok_Alike_init (T : Txt K mg) (PO : PrOk P) : Mak P w K mg base 2 "Alike" (spAlikeInit K) := by
  obtain ⟨cc, c, S⟩ := sup_Alike T
  have sc : NScope ["self", "one", "other", "logs", "__class__", "log"] ["self", "one", "other", "logs"] ["__class__"] (defScope s_Alike_init) := nscope_by (by decide +kernel)
  refine ⟨fnx_of S sc (fun _ _ _ _ _ us hl => match us, hl with | [_, _, _, _], _ => rfl) ?_ fun A outer s H vs Q E hr h s' I => ?_, g_Alike T, k_Alike T⟩
  · rintro vs H Q E ⟨x, dx, a, b, l, H0, ls, rfl, _⟩; rfl
  · obtain ⟨x, dx, a, b, l, H0, ls, rfl, hx0, s0, hx, hl, hn, hls, k⟩ := h
    refine at_super I PO S rfl rfl rfl rfl rfl rfl rfl rfl rfl hx (b_super T) (ok_cmp_init T (c_Alike T) (n_Alike_one T) (n_Alike_other T)) hr (pa_cons (pv 1) (pa_cons (pv 2) pa_nil)) rfl rfl rfl rfl
      (pss_one (ps_fld (pv 0) (pe_ifExp (pt_val (pe_isLT T (pv 3))) (pe_lc (own := [("log", 5)]) (g := gName 5) (tt := tYes) rfl sc.nd (pi_list (pv 3)) (blkOk_by (N := ["self", "one", "other", "logs", "__class__", "log"]) (sc := defScope s_Alike_init) (by decide +kernel))
        (fun _ _ _ _ _ => pg_name (i := 5) sc.nd rfl (Or.inl rfl)) (fun _ _ _ _ _ => pts_nil) (fun _ _ _ _ _ => pe_c (ok_copied T) hr (pa_cons (pv 5) pa_nil))) (pv 3)) rfl)) ?_
    refine ⟨_, rfl, _, rfl, x, dx, a, b, H0, rfl, hx0, s0, hx, fun H1 s1 hx1 => ?_⟩
    refine ⟨_, rfl, rd_LTl (s1 _ _ hl) fun q hq => ⟨true, rfl, iteT ?_⟩⟩
    have n1 := same_new (.tup [V.ty "list", V.ty "tuple"]) hq
    have s2 := s1.trans n1
    refine ⟨_, rfl, l, rfl, ⟨_, SqL.of (s2 _ _ hl)⟩, fun D hD => lc_it (walk_list (xs := ls.map V.ref)) (fun i H3 => Same (upd H1 q (.tup [V.ty "list", V.ty "tuple"])) H3 ∧ ∃ as : List Addr, H3 D = some (.lst (as.map V.ref)) ∧ as.length = i) ⟨same_new _ hD, [], upd_same, rfl⟩ (fun i H3 _ ⟨s3, _⟩ => SqL.of (s3 _ _ (s2 _ _ hl))) ?_ ?_⟩
    · rintro i v H3 H4 hi ⟨s3, as, hd, la⟩ ⟨rfl, hv⟩
      obtain ⟨y, rfl, hy⟩ := refs_at hv
      obtain ⟨xs, hxs⟩ := hls y (List.mem_of_getElem? hy)
      rw [List.length_map] at hi
      refine ⟨rfl, _, rfl, y, xs, rfl, s3 _ _ (s2 _ _ hxs), fun l2 H5 _ s5 h5 => ⟨_, s5 _ _ hd, by rw [List.length_map]; exact small1000 (by omega), Same.put (s3.trans s5) _ hD, as ++ [l2], by rw [upd_same, List.map_append]; rfl, by rw [List.length_append, la]; rfl⟩⟩
    · rintro H3 ⟨s3, as, hd, la⟩
      refine ⟨_, rfl, x, _, dx, _, rfl, s3 _ _ (n1 _ _ hx1), c_Alike T, n_Alike_own_logs T, by show 2 < 1000; decide, ?_⟩
      have s4 := Same.put (s2.trans s3) (.ins (He.ga K "Alike") dx (putF "own_logs" (.ref D) (cmpFs a b))) hx0
      rw [putal] at s4 ⊢
      exact k _ s4 ⟨dx, _, upd_same, alFs_told _ _ _⟩
def spToldAp (K : PySem.W.Frag) : Sp := fun vs H Q _ => ∃ p es, vs = [.ref p] ∧ ApartAt K H p es ∧ Q (.str "apart") H
theorem ok_told_Ap (T : Txt K mg) : Met P w K mg base 1 "Apart" "told" (spToldAp K) := by
  have sc : FnScope ["self"] ["self"] (defScope s_Apart_told) := ⟨rfl, rfl, rfl, by decide +kernel, rfl, by decide +kernel, by decide +kernel⟩
  refine ⟨fn_by (fd_Apart_told T) sc (fun _ _ _ _ _ _ us hl => match us, hl with | [_], _ => rfl) ?_ fun cdv A outer s H vs Q E hr h => ?_, c_Apart T, m_Apart_told T⟩
  · rintro vs H Q E ⟨p, es, rfl, _⟩; rfl
  · obtain ⟨p, es, rfl, _, k⟩ := h
    exact ⟨_, pss_one (ps_ret pe_str), k⟩
def spToldAl (K : PySem.W.Frag) : Sp := fun vs H Q _ => ∃ p, vs = [.ref p] ∧ AlikeAt K H p ∧ Q (.str "alike") H
theorem ok_told_Al (T : Txt K mg) : Met P w K mg base 1 "Alike" "told" (spToldAl K) := by
  have sc : FnScope ["self"] ["self"] (defScope s_Alike_told) := ⟨rfl, rfl, rfl, by decide +kernel, rfl, by decide +kernel, by decide +kernel⟩
  refine ⟨fn_by (fd_Alike_told T) sc (fun _ _ _ _ _ _ us hl => match us, hl with | [_], _ => rfl) ?_ fun cdv A outer s H vs Q E hr h => ?_, c_Alike T, m_Alike_told T⟩
  · rintro vs H Q E ⟨p, rfl, _⟩; rfl
  · obtain ⟨p, rfl, _, k⟩ := h
    exact ⟨_, pss_one (ps_ret pe_str), k⟩
def spEventsAp (K : PySem.W.Frag) : Sp := fun vs H Q _ => ∃ p es, vs = [.ref p] ∧ ApartAt K H p es ∧ ∀ l H', Same H H' → EventsAt H' l es → Q (.ref l) H'
theorem ok_events_Ap (T : Txt K mg) : Met P w K mg base 2 "Apart" "events" (spEventsAp K) := by
  have sc : FnScope ["self"] ["self"] (defScope s_Apart_events) := ⟨rfl, rfl, rfl, by decide +kernel, rfl, by decide +kernel, by decide +kernel⟩
  refine ⟨fn_by (fd_Apart_events T) sc (fun _ _ _ _ _ _ us hl => match us, hl with | [_], _ => rfl) ?_ fun cdv A outer s H vs Q E hr h => ?_, c_Apart T, m_Apart_events T⟩
  · rintro vs H Q E ⟨p, es, rfl, _⟩; rfl
  · obtain ⟨p, es, rfl, ⟨dx, fs, l, h1, h2, h3, h4, as, h5, pr⟩, k⟩ := h
    refine ⟨_, pss_one (ps_ret (pe_c (ok_copied T) hr (pa_cons (pe_f (pv 0)) pa_nil))), ?_⟩
    exact ⟨_, rfl, rd_f h1 (c_Apart T) (n_Apart_own_events T) h4 ⟨l, _, rfl, h5, fun l2 H2 _ s2 hl2 => k l2 H2 s2 ⟨as, hl2, Paired.imp (fun _ _ z => s2 _ _ z) pr⟩⟩⟩
end
end Tw
end

section
set_option Elab.async false
set_option linter.all false
set_option maxRecDepth 100000
set_option maxHeartbeats 4000000
/-! compare. -/
namespace Tw
open PySem PySem.Spec PyProof.Rows L2
/-- the heap without some -/
def hides (xs : List Addr) (H : Hp) : Hp := fun a => if a ∈ xs then none else H a
theorem hides_none {xs : List Addr} {H : Hp} {x : Addr} (h : x ∈ xs) : hides xs H x = none := if_pos h
theorem hides_same {xs : List Addr} {H : Hp} : Same (hides xs H) H := fun a o h => by
  unfold hides at h
  split at h
  · cases h
  · exact h
theorem hides_at {xs : List Addr} {a : Addr} {H : Hp} {o : HO} (h : H a = some o) (n : a ∉ xs) : hides xs H a = some o := by
  unfold hides
  rw [if_neg n]
  exact h
theorem Same.hides {xs : List Addr} {B H : Hp} (s : Same B H) (h : ∀ x ∈ xs, B x = none) : Same B (hides xs H) := fun a o e => hides_at (s a o e) fun z => by rw [h a z] at e; cases e
theorem fresh_ne {H : Hp} {a x : Addr} {o : HO} (h : H a = none) (hx : H x = some o) : a ≠ x := fun e => by rw [e, hx] at h; cases h
theorem Same.fresh {H H' : Hp} {a : Addr} (s : Same H H') (h : H' a = none) : H a = none := by
  cases q : H a with
  | none => rfl
  | some o => have := s _ _ q; rw [h] at this; cases this
/-- a level of a comprehension with two -/
theorem it2 {J : It} {n : Nat} {G : Hp → Prop} {Y : Nat → Hp → V → Hp → Prop} (w : Walk J n G Y) {g : TG} {tt : TT} {vs : List Nat} {σ : L2.St} {H1 : Hp} {Qd : Hp → Prop} {F : (Hp → Prop) → L2.St → Hp → Prop} (Pv : Nat → Hp → Prop) (h0 : Pv 0 H1) (hG : ∀ i H, i ≤ n → Pv i H → G H)
    (hs : ∀ i x H H', i < n → Pv i H → Y i H x H' → g x (wipe σ vs) H' fun σ2 H2 => wipe σ2 vs = wipe σ vs ∧ tt σ2 H2 fun b H3 => if b = true then F (Pv (i + 1)) σ2 H3 else Pv (i + 1) H3) (hd : ∀ H, Pv n H → Qd H) :
    ∃ W : Nat → Nat → Hp → Prop, (∃ m, W 0 m H1) ∧ ∀ i m H, W i m H →
      (J.stop i H ∧ Qd H) ∨ (J.go i H ∧ ∃ Nx : Hp → Prop, (∀ H', Nx H' → ∃ m', m' < m ∧ W (i + 1) m' H') ∧ ∀ x H', J.yld i H x H' → g x (wipe σ vs) H' fun σ2 H2 => wipe σ2 vs = wipe σ vs ∧ tt σ2 H2 fun b H3 => if b = true then F Nx σ2 H3 else Nx H3) := by
  refine ⟨fun i m H => m = n - i ∧ i ≤ n ∧ Pv i H, ⟨n, by simp, Nat.zero_le _, h0⟩, ?_⟩
  rintro i m H ⟨rfl, hi, p⟩
  have q := hG i H hi p
  by_cases hlt : i < n
  · refine .inr ⟨w.goes i H hlt q, Pv (i + 1), fun H' p' => ⟨n - (i + 1), by omega, rfl, hlt, p'⟩, fun x H' y => hs i x H H' hlt p (w.yields i H x H' hlt q y)⟩
  · have e : i = n := by omega
    subst e
    exact .inl ⟨w.stops H q, hd H p⟩
abbrev Evs := List (TwM.Event Str)
def LogsAt (B : Hp) (a : Addr) (ls : List Evs) : Prop := ∃ was : List Addr, B a = some (.lst (was.map V.ref)) ∧ Paired (EventsAt B) was ls
theorem LogsAt.same {B B' : Hp} {a : Addr} {ls : List Evs} (h : LogsAt B a ls) (k : Same B B') : LogsAt B' a ls := let ⟨was, h1, h2⟩ := h; ⟨was, k _ _ h1, Paired.imp (fun _ _ z => z.same k) h2⟩
/-- the search's heap -/
structure CmpS (g1 g2 : Given) (H B H2 : Hp) (r g : Addr) (lgs : List Evs) : Prop where
  hB : Same H B
  s : Same B H2
  Br : B r = none
  Bg : B g = none
  rg : r ≠ g
  rows : ∃ ras : List Addr, H2 r = some (.lst (ras.map V.ref)) ∧ Paired (RowAt B) ras (lgs.map (TwM.pairRow amtS oneS g1 g2))
  logs : ∃ gas : List Addr, H2 g = some (.lst (gas.map V.ref)) ∧ Paired (EventsAt B) gas lgs
theorem CmpS.grow {g1 g2 : Given} {H B H2 H3 : Hp} {r g : Addr} {lgs : List Evs} (c : CmpS g1 g2 H B H2 r g lgs) (s : Same H2 H3) : ∃ B', Same B B' ∧ CmpS g1 g2 H B' H3 r g lgs ∧ ∀ x o, H3 x = some o → x ≠ r → x ≠ g → B' x = some o := by
  have k : Same B (hides [r, g] H3) := Same.hides (c.s.trans s) fun x hx => by
    simp only [List.mem_cons, List.not_mem_nil, or_false] at hx
    rcases hx with rfl | rfl
    · exact c.Br
    · exact c.Bg
  obtain ⟨ras, h1, h2⟩ := c.rows
  obtain ⟨gas, h3, h4⟩ := c.logs
  refine ⟨hides [r, g] H3, k, ⟨c.hB.trans k, hides_same, hides_none (by simp), hides_none (by simp), c.rg, ⟨ras, s _ _ h1, Paired.imp (fun _ _ z => k _ _ z) h2⟩, ⟨gas, s _ _ h3, Paired.imp (fun _ _ z => z.same k) h4⟩⟩, fun x o h n1 n2 => hides_at h ?_⟩
  simp [n1, n2]
theorem paired_app {α β : Type} {F : α → β → Prop} {as cs : List α} {bs ds : List β} (p : Paired F as bs) (q : Paired F cs ds) : Paired F (as ++ cs) (bs ++ ds) := by
  induction p with
  | nil => exact q
  | cons h1 t ih => exact .cons h1 ih
def kidsOf (sg : List Str) (l : Evs) : List Evs := sg.flatMap fun s => [l ++ [(s, 0)], l ++ [(s, 1)]]
theorem kids_iff {sg : List Str} {l : Evs} (x : Evs) : x ∈ kidsOf sg l ↔ ∃ s ∈ sg, ∃ a : Int, (a = 0 ∨ a = 1) ∧ x = l ++ [(s, a)] := by
  unfold kidsOf
  rw [List.mem_flatMap]
  constructor
  · rintro ⟨s, hs, hx⟩
    simp only [List.mem_cons, List.not_mem_nil, or_false] at hx
    rcases hx with rfl | rfl
    · exact ⟨s, hs, 0, .inl rfl, rfl⟩
    · exact ⟨s, hs, 1, .inr rfl, rfl⟩
  · rintro ⟨s, hs, a, ha, rfl⟩
    refine ⟨s, hs, ?_⟩
    rcases ha with rfl | rfl <;> simp
theorem kids_len {sg : List Str} {l : Evs} : (kidsOf sg l).length = 2 * sg.length := by
  unfold kidsOf
  induction sg with
  | nil => rfl
  | cons s r ih =>
    rw [List.flatMap_cons, List.length_append, ih, List.length_cons]
    show 2 + 2 * r.length = 2 * (r.length + 1)
    omega
theorem w2_le {g1 g2 : Given} (ok1 : GivenOk g1) (ok2 : GivenOk g2) : TwM.W2 g1 g2 ≤ 6 := by
  have h1 := ok1.spec.wide
  have h2 := ok2.spec.wide
  unfold TwM.W2 TwM.width
  omega
section
variable {P : Program} {w : World} {K : PySem.W.Frag} {mg : Str → Option Value} {base : Heap}
def spCompare (K : PySem.W.Frag) : Sp := fun vs H Q _ => ∃ a b g1 g2, vs = [.ref a, .ref b] ∧ ProbeAt K H a g1 ∧ ProbeAt K H b g2 ∧ g1.spec.signs.Perm g2.spec.signs ∧
  (∀ p H', Same H H' → AlikeAt K H' p → (∀ l : Evs, (∀ e ∈ l, e.1 ∈ g1.spec.signs) → TwM.gap amtS oneS g1 g2 l = 0) → Q (.ref p) H') ∧
  (∀ p H' (es : Evs), Same H H' → ApartAt K H' p es → (∀ l : Evs, (∀ e ∈ l, e.1 ∈ g1.spec.signs) → l.length < es.length → TwM.gap amtS oneS g1 g2 l = 0) → es.length ≤ 7 → Q (.ref p) H')
theorem ok_compare (T : Txt K mg) (PO : PrOk P) : Cal P w K mg base 6 "compare" (spCompare K) := by
  have sc : FnScope ["one", "other", "rows", "logs", "waiting", "later", "log", "row", "sign", "amount"] ["one", "other"] (defScope s_compare) := ⟨rfl, rfl, rfl, by decide +kernel, rfl, by decide +kernel, by decide +kernel⟩
  refine ⟨fn_by (fd_compare T) sc (fun _ _ _ _ _ _ us hl => match us, hl with | [_, _], _ => rfl) ?_ fun cdv A outer s H vs Q E hr h => ?_, g_compare T, kp_of (fd_compare T)⟩
  · rintro vs H Q E ⟨a, b, g1, g2, rfl, _⟩; rfl
  · obtain ⟨a, b, g1, g2, rfl, hp1, hp2, pm, kAl, kAp⟩ := h
    refine ⟨_, pss_cons (ps_if (pt_not (pt_val (pe_c ((ok_signs_equal T).up (by decide)) hr (pa_cons (pv 0) (pa_cons (pv 1) pa_nil))))) pss_never pss_nil)
      (pss_cons (ps_par3 rfl sc.nd (i := 2) (j := 3) (l := 4) rfl rfl rfl (by decide) (by decide) (by decide) rfl rfl rfl (pa_cons (pe_lst pa_nil) (pa_cons (pe_lst pa_nil) (pa_cons (pe_lst (pa_cons (pe_lst pa_nil) pa_nil)) pa_nil))) rfl)
      (pss_cons (ps_while PassesOwn.never (pt_cmpR (op_neE hr.units0) (pv 4) (pe_lst pa_nil) (nomark _))
        (pss_cons (ps_set (i := 5) sc.nd rfl (.inl rfl) (pe_lst pa_nil))
        (pss_cons (ps_for PassesOwn.never rfl (pi_list (pv 4)) (pg_name (i := 6) sc.nd rfl (Or.inr rfl))
          (pss_cons (ps_if (pt_cmpR op_ne (pe_m (ok_value T) hr (pv 0) (pa_cons (pv 6) pa_nil)) (pe_m (ok_value T) hr (pv 1) (pa_cons (pv 6) pa_nil)) (nomark _))
              (pss_one (ps_ret (pe_k ((ok_Apart_init T PO).up (by decide : 2 ≤ 4)) hr (pa_cons (pv 0) (pa_cons (pv 1) (pa_cons (pv 6) pa_nil)))))) pss_nil)
          (pss_cons (ps_set (i := 7) sc.nd rfl (.inl rfl) (pe_c (ok_pair_row T) hr (pa_cons (pv 0) (pa_cons (pv 1) (pa_cons (pv 6) pa_nil)))))
          (pss_one (ps_if (pt_cmpR op_gt (pe_c (ok_rank T) hr (pa_cons (pe_op op_cat (pv 2) (pe_lst (pa_cons (pv 7) pa_nil))) pa_nil)) (pe_b1 cr_ln (b_len T) (pv 2)) (nomark _))
            (pss_cons (ps_expr (pe_bm PySem.F.plainAttrs_list PySem.F.slot_list_append PySem.F.type_list_append mt_append (pv 2) (pa_cons (pv 7) pa_nil)))
            (pss_cons (ps_expr (pe_bm PySem.F.plainAttrs_list PySem.F.slot_list_append PySem.F.type_list_append mt_append (pv 3) (pa_cons (pv 6) pa_nil)))
            (pss_one (ps_set (i := 5) sc.nd rfl (.inl rfl) (pe_op op_cat (pv 5) (pe_lc2 (own := [("sign", 8), ("amount", 9)]) (vs1 := [9]) (g := gName 8) (g1 := gName 9) (wi1 := iTup K (tTup (tCons (tC (.int 0)) (tCons (tC (.int 1)) tNil)))) (tt := tYes) (tt1 := tYes) rfl sc.nd (pi_list (pe_m0 ((ok_signs T).up (by decide)) hr (pe_f (pv 0)))) (blkOk_by (N := ["one", "other", "rows", "logs", "waiting", "later", "log", "row", "sign", "amount"]) (sc := defScope s_compare) (by decide +kernel)) (by simp)
              (fun _ _ _ _ _ => pg_name (i := 8) sc.nd rfl (Or.inl rfl)) (fun _ _ _ _ _ => pts_nil) (fun _ _ _ _ _ => pi_tup (pe_tup (pa_cons pe_int (pa_cons pe_int pa_nil)))) (fun _ _ _ _ _ => pg_name (i := 9) sc.nd rfl (Or.inl rfl)) (fun _ _ _ _ _ => pts_nil)
              (fun _ _ _ _ _ => pe_op op_cat (pv 6) (pe_lst (pa_cons (pe_tup (pa_cons (pv 8) (pa_cons (pv 9) pa_nil))) pa_nil)))))))))
            pss_nil)))))
        (pss_one (ps_set (i := 4) sc.nd rfl (.inl rfl) (pv 5))))))
      (pss_one (ps_ret (pe_k ((ok_Alike_init T PO).up (by decide : 2 ≤ 4)) hr (pa_cons (pv 0) (pa_cons (pv 1) (pa_cons (pv 3) pa_nil)))))))), ?_⟩
    obtain ⟨⟨dx1, q1, sa1, bm1, ol1, las1, pa1, pq1, _⟩, ok1⟩ := id hp1
    obtain ⟨⟨dx2, q2, sa2, bm2, ol2, las2, pa2, pq2, _⟩, ok2⟩ := id hp2
    obtain ⟨⟨dq1, _, _, _, _, _, _, hq1, _⟩, _⟩ := id pq1
    have G1 := ok1.lin
    have G2 := ok2.lin
    have hW := w2_le ok1 ok2
    refine ⟨_, rfl, _, rfl, a, b, g1, g2, rfl, hp1, hp2, pm, fun H1 s1 => ⟨true, rfl, iteF ?_⟩⟩
    -- the three lists
    refine ⟨by show 0 ≤ sizeLine; decide, fun r hr0 => ⟨by show 0 ≤ sizeLine; decide, fun g hg0 => ⟨by show 0 ≤ sizeLine; decide, fun e0 he0 => ⟨by show 1 ≤ sizeLine; decide, fun w0 hw0 => ⟨_, _, _, rfl, ?_⟩⟩⟩⟩⟩
    have m1 := same_new (.lst []) hr0
    have m2 := Same.new m1 (.lst []) hg0
    have m3 := Same.new m2 (.lst []) he0
    have m4 := Same.new m3 (.lst [V.ref e0]) hw0
    have k4 := same_new (.lst [V.ref e0]) hw0
    have k3 := Same.trans (same_new (.lst []) he0) k4
    have k2 := Same.trans (same_new (.lst []) hg0) k3
    have vr := k2 _ _ upd_same
    have vg := k3 _ _ upd_same
    have ve := k4 _ _ upd_same
    have vw := upd_same (H := upd (upd (upd H1 r (.lst [])) g (.lst [])) e0 (.lst [])) (a := w0) (o := .lst [V.ref e0])
    have rg : r ≠ g := Ne.symm (fresh_ne hg0 upd_same)
    have C0 : CmpS g1 g2 H (hides [r, g] (upd (upd (upd (upd H1 r (.lst [])) g (.lst [])) e0 (.lst [])) w0 (.lst [V.ref e0]))) (upd (upd (upd (upd H1 r (.lst [])) g (.lst [])) e0 (.lst [])) w0 (.lst [V.ref e0])) r g [] :=
      ⟨Same.hides (s1.trans m4) (fun x hx => by
        simp only [List.mem_cons, List.not_mem_nil, or_false] at hx
        rcases hx with rfl | rfl
        · exact Same.fresh s1 hr0
        · exact Same.fresh (s1.trans m1) hg0), hides_same, hides_none (by simp), hides_none (by simp), rg, ⟨[], vr, .nil⟩, ⟨[], vg, .nil⟩⟩
    have e0r : e0 ≠ r := fresh_ne he0 (same_new _ hg0 _ _ upd_same)
    have e0g : e0 ≠ g := fresh_ne he0 upd_same
    have w0r : w0 ≠ r := fresh_ne hw0 (same_new _ he0 _ _ (same_new _ hg0 _ _ upd_same))
    have w0g : w0 ≠ g := fresh_ne hw0 (same_new _ he0 _ _ upd_same)
    have L0 : LogsAt (hides [r, g] (upd (upd (upd (upd H1 r (.lst [])) g (.lst [])) e0 (.lst [])) w0 (.lst [V.ref e0]))) w0 [[]] :=
      ⟨[e0], hides_at vw (by simp [w0r, w0g]), .cons ⟨[], hides_at ve (by simp [e0r, e0g]), .nil⟩ .nil⟩
    -- what a log is good for
    have evOk : ∀ {l : Evs}, (∀ e ∈ l, e.1 ∈ g1.spec.signs ∧ (e.2 = 0 ∨ e.2 = 1)) → ∀ e ∈ l, EventOk g1.spec.signs e ∧ EventOk g2.spec.signs e := fun h e he => by
      obtain ⟨h1, h2⟩ := h e he
      have q1 : (-1000000000000 : Int) ≤ e.2 := by rcases h2 with z | z <;> omega
      have q2 : e.2 ≤ 1000000000000 := by rcases h2 with z | z <;> omega
      exact ⟨⟨h1, q1, q2⟩, ⟨pm.subset h1, q1, q2⟩⟩
    refine ⟨fun m σ H2 => ∃ n lgs wait B wt v5 v6 v7, σ = [some (.ref a), some (.ref b), some (.ref r), some (.ref g), some (.ref wt), v5, v6, v7, none, none] ∧ CmpS g1 g2 H B H2 r g lgs ∧ LogsAt B wt wait ∧ wait.length ≤ 4 * lgs.length + 1 ∧ TwM.Bfs amtS oneS g1 g2 g1.spec.signs n lgs wait ∧ m = 8 - n,
      ⟨_, 0, [], [[]], _, w0, _, _, _, rfl, C0, L0, by simp, TwM.Bfs.start _, rfl⟩, ?_⟩
    rintro m σ H2 ⟨n, lgs0, wait, B, wt, v5, v6, v7, rfl, C, LW, lw, BF, rfl⟩
    have few0 := (BF.inn).few G1 G2
    obtain ⟨was, hwt, wpr⟩ := LW
    have lwas : was.length = wait.length := wpr.length
    refine ⟨_, rfl, by show 0 ≤ sizeLine; decide, fun x0 hx0 => ?_⟩
    have y0 := same_new (.lst []) hx0
    refine ⟨wt, x0, was.map V.ref, rfl, rfl, .inl ⟨SqL.of (y0 _ _ (C.s _ _ hwt)), SqL.of upd_same⟩, _, rfl, ?_⟩
    by_cases hwe : wait = []
    · -- alike
      subst hwe
      cases wpr
      refine iteF ?_
      obtain ⟨gas, hga, gpr⟩ := C.logs
      refine ⟨_, rfl, _, rfl, _, rfl, fun x dx hx hdx hne => ?_⟩
      have z2 := Same.new (same_new (.own x) hdx) (.ins (He.ga K "Alike") dx []) (show upd _ dx (.own x) x = none by rw [upd_ne (Ne.symm hne)]; exact hx)
      refine ⟨x, dx, a, b, g, _, gas, rfl, hx, z2, upd_same, y0 _ _ hga, ?_, ?_, fun H3 s3 al => ⟨rfl, ?_⟩⟩
      · have := gpr.length; omega
      · intro y hy
        obtain ⟨i, hi⟩ := List.mem_iff_getElem?.mp hy
        obtain ⟨l, hl, as, h1, _⟩ := paired_at gpr hi
        exact ⟨_, y0 _ _ (C.s _ _ h1)⟩
      · exact kAl x H3 (C.hB.trans ((C.s.trans y0).trans s3)) al fun l hl => BF.alike G1 G2 l hl
    · have wne : was ≠ [] := fun z => by rw [z] at lwas; exact hwe (List.length_eq_zero_iff.mp lwas.symm)
      have hn6 : n ≤ 6 := Nat.le_trans (BF.few hwe) (Nat.le_trans few0 hW)
      have hemp : (!(was.map V.ref).isEmpty) = true := by
        cases was with
        | nil => exact absurd rfl wne
        | cons _ _ => rfl
      rw [hemp]
      refine iteT ⟨fun σ H3 => ∃ n' lgs wait B wt v5 v6 v7, σ = [some (.ref a), some (.ref b), some (.ref r), some (.ref g), some (.ref wt), v5, v6, v7, none, none] ∧ CmpS g1 g2 H B H3 r g lgs ∧ LogsAt B wt wait ∧ wait.length ≤ 4 * lgs.length + 1 ∧ TwM.Bfs amtS oneS g1 g2 g1.spec.signs n' lgs wait ∧ n' = n + 1, ?_, ?_⟩
      · rintro σ' H' ⟨n', lgs, wait, B, wt, v5, v6, v7, e1, e2, e3, e4, e5, rfl⟩
        exact ⟨8 - (n + 1), by omega, n + 1, lgs, wait, B, wt, v5, v6, v7, e1, e2, e3, e4, e5, rfl⟩
      obtain ⟨B1, sBB1, C1, at1⟩ := C.grow y0
      refine ⟨by show 0 ≤ sizeLine; decide, fun lt0 hlt0 => ?_⟩
      have y1 := same_new (.lst []) hlt0
      obtain ⟨ras0, hr1, _⟩ := C1.rows
      obtain ⟨gas0, hg1, _⟩ := C1.logs
      obtain ⟨B2, sB12, C2, at2⟩ := C1.grow y1
      have ltr : lt0 ≠ r := fresh_ne hlt0 hr1
      have ltg : lt0 ≠ g := fresh_ne hlt0 hg1
      have hB2 : Same B B2 := sBB1.trans sB12
      refine ⟨_, rfl, wt, rfl, ⟨_, SqL.of ((C2.s) _ _ (hB2 _ _ hwt))⟩, for_it (walk_list (xs := was.map V.ref)) (fun i σ H3 => ∃ lgs lat B' lt v6 v7, σ = [some (.ref a), some (.ref b), some (.ref r), some (.ref g), some (.ref wt), some (.ref lt), v6, v7, none, none] ∧ CmpS g1 g2 H B' H3 r g lgs ∧ Same B B' ∧ LogsAt B' lt lat ∧
          lat.length ≤ 4 * lgs.length ∧ TwM.Inn amtS oneS g1 g2 g1.spec.signs lgs0 (wait.take i) lgs lat) ⟨lgs0, [], B2, lt0, _, _, rfl, C2, hB2, ⟨[], at2 _ _ upd_same ltr ltg, .nil⟩, by simp, by rw [List.take_zero]; exact BF.inn⟩
          (fun i σ H3 _ ⟨_, _, B', _, _, _, _, C3, sB3, _⟩ => SqL.of (C3.s _ _ (sB3 _ _ hwt))) ?_ ?_⟩
      · rintro i y σ H3 H4 hi ⟨lgs, lat, B', lt, v6, v7, rfl, C3, sB3, ⟨las, hlt, lpr⟩, llat, IN⟩ ⟨rfl, hy⟩
        obtain ⟨lo, rfl, hlo⟩ := refs_at hy
        obtain ⟨l, hl, elo⟩ := paired_at wpr hlo
        have ml := List.mem_of_getElem? hl
        have lenl := BF.len l ml
        have good := BF.good l (.inr ml)
        have ev := evOk good
        have fewI := IN.few G1 G2
        have sH3 := C3.hB.trans C3.s
        have eB : EventsAt B' lo l := elo.same sB3
        obtain ⟨dxa, hpa⟩ : ∃ dx, H4 a = some (.ins (He.ga K "Probe") dx (probeFs q1 sa1 bm1 ol1)) := ⟨dx1, sH3 _ _ pa1⟩
        refine ⟨_, rfl, a, _, _, rfl, sH3 _ _ pa1, probe_no (by decide +kernel), _, rfl, a, lo, g1, l, rfl, hp1.same sH3, eB.same C3.s, by omega, fun e he => (ev e he).1, fun H5 s5 => ?_⟩
        have sH5 := sH3.trans s5
        refine ⟨_, rfl, b, _, _, rfl, sH5 _ _ pa2, probe_no (by decide +kernel), _, rfl, b, lo, g2, l, rfl, hp2.same sH5, eB.same (C3.s.trans s5), by omega, fun e he => (ev e he).2, fun H6 s6 => ?_⟩
        have sH6 := sH5.trans s6
        have s36 := s5.trans s6
        refine rd_ne rfl ⟨_, rfl, ?_⟩
        by_cases hv : TwM.valueAt amtS oneS g1 l = TwM.valueAt amtS oneS g2 l
        case neg =>
          refine it_ndec (fun z => hv (V.int.inj z)) ?_
          refine ⟨_, rfl, _, rfl, _, rfl, fun x dx hx hdx hne => ?_⟩
          have z2 := Same.new (same_new (.own x) hdx) (.ins (He.ga K "Apart") dx []) (show upd _ dx (.own x) x = none by rw [upd_ne (Ne.symm hne)]; exact hx)
          refine ⟨x, dx, a, b, lo, _, l, rfl, hx, z2, upd_same, eB.same (C3.s.trans s36), fun H7 s7 ap => ⟨rfl, ?_⟩⟩
          exact kAp x H7 l (sH6.trans s7) ap (fun l2 hl2 hn2 => BF.apart G1 G2 l2 hl2 (by omega)) (by omega)
        case pos =>
        have hgap : TwM.gap amtS oneS g1 g2 l = 0 := by unfold TwM.gap; omega
        refine it_ndecF (congrArg V.int hv) ?_
        refine ⟨_, rfl, _, rfl, _, rfl, a, b, lo, g1, g2, l, rfl, hp1.same sH6, hp2.same sH6, eB.same (C3.s.trans s36), by omega, ev, fun rw_ H7 s7 hrow => ?_⟩
        have s37 := s36.trans s7
        obtain ⟨ras, h3r, rpr⟩ := C3.rows
        obtain ⟨gas, h3g, gpr⟩ := C3.logs
        have lra : ras.length = lgs.length := by rw [rpr.length, List.length_map]
        -- the rank
        refine ⟨_, rfl, _, rfl, by show 1 ≤ sizeLine; decide, fun l1 hl1 => ?_⟩
        have n1 := same_new (.lst [V.ref rw_]) hl1
        refine rd_cat (n1 _ _ (s37 _ _ h3r)) upd_same (by rw [List.length_map]; show _ + 1 ≤ 1000; omega) fun l2 hl2 => ?_
        have n2 := Same.new n1 (.lst (ras.map V.ref ++ [V.ref rw_])) hl2
        have hrw2 := n2 _ _ hrow
        have bds : ∀ l' : Evs, (l' ∈ lgs ∨ l' ∈ wait) → l'.length ≤ 6 → (∀ e ∈ l', e.1 ∈ g1.spec.signs ∧ (e.2 = 0 ∨ e.2 = 1)) → TwM.Bd 133 (TwM.pairRow amtS oneS g1 g2 l') := fun l' _ h6 hg =>
          (TwM.pairRow_bd (specBd ok1.spec) (specBd ok2.spec) ok1.bd ok2.bd h6 fun e he => (hg e he).2).mono (by decide)
        have hall : ∀ l' ∈ lgs, l'.length ≤ 6 ∧ ∀ e ∈ l', e.1 ∈ g1.spec.signs ∧ (e.2 = 0 ∨ e.2 = 1) := fun l' hl' => by
          obtain ⟨ns, e, h1, _⟩ := IN.new
          rw [e] at hl'
          rcases List.mem_append.mp hl' with z | z
          · exact ⟨Nat.le_trans (BF.old l' z) hn6, BF.good l' (.inl z)⟩
          · have mw := List.mem_of_mem_take (h1 l' z)
            exact ⟨by rw [BF.len l' mw]; exact hn6, BF.good l' (.inr mw)⟩
        refine ⟨l2, ras ++ [rw_], lgs.map (TwM.pairRow amtS oneS g1 g2) ++ [TwM.pairRow amtS oneS g1 g2 l], TwM.W2 g1 g2, rfl, by rw [upd_same, List.map_append]; rfl,
          paired_snoc (Paired.imp (fun _ _ z => n2 _ _ (s37 _ _ (C3.s _ _ z))) rpr) hrw2, ?_, by omega, ?_, ?_, fun H8 s8 => ?_⟩
        · intro r0 hr0
          rcases List.mem_append.mp hr0 with z | z
          · exact TwM.row_lens G1 G2 lgs r0 z
          · rw [List.mem_singleton.mp z]; exact TwM.pairRow_length G1 G2 l
        · rw [List.length_append, List.length_map]; show _ + 1 ≤ 7; omega
        · intro r0 hr0
          rcases List.mem_append.mp hr0 with z | z
          · obtain ⟨l', hl', rfl⟩ := List.mem_map.mp z
            exact bds l' (.inl hl') (hall l' hl').1 (hall l' hl').2
          · rw [List.mem_singleton.mp z]
            exact bds l (.inr ml) (by omega) good
        have s28 := n2.trans s8
        have s38 := s37.trans s28
        refine ⟨_, rfl, rd_lenL (s38 _ _ h3r) ⟨_, _, rfl, rfl, _, rfl, ?_⟩⟩
        rw [List.length_map, lra]
        have etk := take_snoc hl
        by_cases hk : lgs.length < TwM.rankM (lgs.map (TwM.pairRow amtS oneS g1 g2) ++ [TwM.pairRow amtS oneS g1 g2 l])
        case neg =>
          refine it_decF (by omega) ?_
          obtain ⟨B4, sB4, C4, _⟩ := C3.grow s38
          refine ⟨lgs, lat, B4, lt, _, _, rfl, C4, sB3.trans sB4, ⟨las, sB4 _ _ hlt, Paired.imp (fun _ _ z => z.same sB4) lpr⟩, llat, ?_⟩
          rw [etk]
          exact IN.skip G1 G2 hk
        case pos =>
        refine it_dec (by omega) ?_
        have h8r := s38 _ _ h3r
        have h8g := s38 _ _ h3g
        have rw_r : rw_ ≠ r := at_ne hrow (s37 _ _ h3r) (fun z => nomatch z)
        have rw_g : rw_ ≠ g := at_ne hrow (s37 _ _ h3g) (fun z => nomatch z)
        obtain ⟨B4, sB4, C4, at4⟩ := C3.grow s38
        have hrow4 := at4 _ _ (s28 _ _ hrow) rw_r rw_g
        -- rows.append, logs.append
        refine ⟨_, rfl, .inl ⟨rfl, _, SqL.of h8r⟩, _, rfl, r, _, _, rfl, rfl, h8r, by rw [List.length_map]; exact small1000 (by omega), ?_⟩
        have h9g : (upd H8 r (.lst (ras.map V.ref ++ [V.ref rw_]))) g = some (.lst (gas.map V.ref)) := by rw [upd_ne (Ne.symm rg)]; exact h8g
        have lga : gas.length = lgs.length := gpr.length
        refine ⟨_, rfl, .inl ⟨rfl, _, SqL.of h9g⟩, _, rfl, g, _, _, rfl, rfl, h9g, by rw [List.length_map]; exact small1000 (by omega), ?_⟩
        have C5 : CmpS g1 g2 H B4 (upd (upd H8 r (.lst (ras.map V.ref ++ [V.ref rw_]))) g (.lst (gas.map V.ref ++ [V.ref lo]))) r g (lgs ++ [l]) := by
          refine ⟨C4.hB, Same.put (Same.put C4.s _ C4.Br) _ C4.Bg, C4.Br, C4.Bg, rg, ⟨ras ++ [rw_], by rw [upd_ne rg, upd_same, List.map_append]; rfl, ?_⟩, ⟨gas ++ [lo], by rw [upd_same, List.map_append]; rfl, ?_⟩⟩
          · rw [List.map_append]
            exact paired_snoc (Paired.imp (fun _ _ z => sB4 _ _ z) rpr) hrow4
          · exact paired_snoc (Paired.imp (fun _ _ z => z.same sB4) gpr) (eB.same sB4)
        generalize hH9 : upd (upd H8 r (.lst (ras.map V.ref ++ [V.ref rw_]))) g (.lst (gas.map V.ref ++ [V.ref lo])) = H9 at C5
        -- the later ones
        have sH9 := C5.hB.trans C5.s
        refine ⟨_, rfl, _, rfl, rd_f (sH9 _ _ pa1) (c_Probe T) (n_Probe_program T) probe_program ⟨q1, dq1, _, rfl, sH9 _ _ hq1, prog_no (by decide +kernel), q1, g1.spec, rfl, pq1.same sH9, fun ls H10 _ s10 hls => ⟨ls, rfl, ⟨_, SqL.of hls⟩, fun D hD => ?_⟩⟩⟩
        have lsg := ok1.spec.signs.2.2.1
        obtain ⟨ras5, h5r, _⟩ := C5.rows
        obtain ⟨gas5, h5g, _⟩ := C5.logs
        have h10r := s10 _ _ h5r
        have h10g := s10 _ _ h5g
        have Dr : D ≠ r := fresh_ne hD h10r
        have Dg : D ≠ g := fresh_ne hD h10g
        have eL : EventsAt B4 lo l := eB.same sB4
        obtain ⟨eas, hea, epr⟩ := eL
        have leas : eas.length = l.length := epr.length
        have BD : B4 D = none := Same.fresh (C5.s.trans s10) hD
        refine it2 (walk_list (xs := g1.spec.signs.map V.str)) (fun i H11 => ∃ Bc kas, Same B4 Bc ∧ Same Bc H11 ∧ Same H10 H11 ∧ Bc r = none ∧ Bc g = none ∧ Bc D = none ∧ H11 D = some (.lst (kas.map V.ref)) ∧ Paired (EventsAt Bc) kas (kidsOf (g1.spec.signs.take i) l))
          ⟨B4, [], Same.refl _, (C5.s.trans s10).trans (same_new _ hD), same_new _ hD, C5.Br, C5.Bg, BD, upd_same, by rw [List.take_zero]; exact .nil⟩ (fun i H11 _ ⟨_, _, _, _, s11, _⟩ => SqL.of (s11 _ _ hls)) ?_ ?_
        · rintro i v H11 H12 hi2 ⟨Bc, kas, c1, c2, c3, c4, c5, c6, c7, c8⟩ ⟨rfl, hv2⟩
          obtain ⟨sg, rfl, hsg⟩ := strs_at hv2
          rw [List.length_map] at hi2
          refine ⟨rfl, by show 2 ≤ sizeLine; decide, fun tp htp => ⟨tp, rfl, ⟨_, SqT.of upd_same⟩, ?_⟩⟩
          have ek : kidsOf (g1.spec.signs.take (i + 1)) l = kidsOf (g1.spec.signs.take i) l ++ [l ++ [(sg, 0)], l ++ [(sg, 1)]] := by
            unfold kidsOf
            rw [take_snoc hsg, List.flatMap_append, List.flatMap_singleton]
          have lk1 : kas.length = 2 * i := by rw [c8.length, kids_len, List.length_take]; omega
          have t0 := same_new (.tup [V.int 0, V.int 1]) htp
          refine it2 (walk_tup (xs := [V.int 0, V.int 1])) (fun j H13 => ∃ Bd kbs, Same B4 Bd ∧ Same Bd H13 ∧ Same H10 H13 ∧ Bd r = none ∧ Bd g = none ∧ Bd D = none ∧ H13 tp = some (.tup [V.int 0, V.int 1]) ∧ H13 D = some (.lst (kbs.map V.ref)) ∧ Paired (EventsAt Bd) kbs (kidsOf (g1.spec.signs.take i) l ++ ([l ++ [(sg, 0)], l ++ [(sg, 1)]] : List Evs).take j))
            ⟨Bc, kas, c1, c2.trans t0, c3.trans t0, c4, c5, c6, upd_same, t0 _ _ c7, by rw [List.take_zero, List.append_nil]; exact c8⟩ (fun j H13 _ ⟨_, _, _, _, _, _, _, _, z, _⟩ => SqT.of z) ?_ ?_
          · rintro j v H13 H14 hj ⟨Bd, kbs, d1, d2, d3, d4, d5, d6, d7, d8, d9⟩ ⟨rfl, hv3⟩
            have key : ∃ am : Int, v = .int am ∧ ([l ++ [(sg, 0)], l ++ [(sg, 1)]] : List Evs)[j]? = some (l ++ [(sg, am)]) := by
              match j, hv3 with
              | 0, hv3 => exact ⟨0, (Option.some.inj hv3).symm, rfl⟩
              | 1, hv3 => exact ⟨1, (Option.some.inj hv3).symm, rfl⟩
              | _ + 2, hv3 => simp at hv3
            obtain ⟨am, rfl, hj2⟩ := key
            refine ⟨rfl, _, rfl, _, rfl, _, rfl, by show 2 ≤ sizeLine; decide, fun te hte => ⟨by show 1 ≤ sizeLine; decide, fun le hle => ?_⟩⟩
            have u1 := same_new (.tup [V.str sg, V.int am]) hte
            have u2 := Same.new u1 (.lst [V.ref te]) hle
            have hlo3 := (d1.trans d2) _ _ hea
            refine rd_cat (u2 _ _ hlo3) upd_same (by rw [List.length_map]; show _ + 1 ≤ 1000; omega) fun ln hln => ?_
            have u3 := Same.new u2 (.lst (eas.map V.ref ++ [V.ref te])) hln
            have hte3 := Same.trans (same_new (.lst [V.ref te]) hle) (same_new (.lst (eas.map V.ref ++ [V.ref te])) hln) _ _ (upd_same (H := H14) (a := te) (o := .tup [V.str sg, V.int am]))
            have hln3 := upd_same (H := upd (upd H14 te (.tup [V.str sg, V.int am])) le (.lst [V.ref te])) (a := ln) (o := .lst (eas.map V.ref ++ [V.ref te]))
            have r3 := (d3.trans u2) _ _ h10r
            have g3 := (d3.trans u2) _ _ h10g
            have D3 := u2 _ _ d8
            have lnr : ln ≠ r := fresh_ne hln r3
            have lng : ln ≠ g := fresh_ne hln g3
            have lnD : ln ≠ D := fresh_ne hln D3
            have ter : te ≠ r := fresh_ne hte (d3 _ _ h10r)
            have teg : te ≠ g := fresh_ne hte (d3 _ _ h10g)
            have teD : te ≠ D := fresh_ne hte d8
            have lkb : kbs.length ≤ 2 * i + 2 := by
              rw [d9.length, List.length_append, kids_len, List.length_take, List.length_take]
              show _ + min j 2 ≤ _
              omega
            have bb : Same Bd (hides [r, g, D] (upd (upd (upd H14 te (.tup [V.str sg, V.int am])) le (.lst [V.ref te])) ln (.lst (eas.map V.ref ++ [V.ref te])))) := Same.hides (d2.trans u3) fun x hx => by
              simp only [List.mem_cons, List.not_mem_nil, or_false] at hx
              rcases hx with rfl | rfl | rfl
              · exact d4
              · exact d5
              · exact d6
            refine ⟨_, u3 _ _ d8, by rw [List.length_map]; exact small1000 (by omega), hides [r, g, D] _, kbs ++ [ln], d1.trans bb, Same.put hides_same _ (hides_none (by simp)), Same.put (d3.trans u3) _ hD, hides_none (by simp), hides_none (by simp), hides_none (by simp), ?_, by rw [upd_same, List.map_append]; rfl, ?_⟩
            · rw [upd_ne (at_ne (u3 _ _ d7) (u3 _ _ d8) (fun z => nomatch z))]
              exact u3 _ _ d7
            · rw [take_snoc hj2, ← List.append_assoc]
              refine paired_snoc (Paired.imp (fun _ _ z => z.same bb) d9) ⟨eas ++ [te], ?_, ?_⟩
              · rw [List.map_append]
                exact hides_at hln3 (by simp [lnr, lng, lnD])
              · exact paired_snoc (Paired.imp (fun _ _ z => bb _ _ (d1 _ _ z)) epr) (hides_at hte3 (by simp [ter, teg, teD]))
          · rintro H13 ⟨Bd, kbs, d1, d2, d3, d4, d5, d6, d7, d8, d9⟩
            refine ⟨Bd, kbs, d1, d2, d3, d4, d5, d6, d8, ?_⟩
            rw [ek]
            exact d9
        · rintro H11 ⟨Bc, kas, c1, c2, c3, c4, c5, c6, c7, c8⟩
          rw [List.length_map, List.take_length] at c8
          have lk1 : kas.length = 2 * g1.spec.signs.length := by rw [c8.length, kids_len]
          have hlt11 := (c1.trans c2) _ _ (sB4 _ _ hlt)
          have llas : las.length = lat.length := lpr.length
          refine rd_cat hlt11 c7 (by rw [List.length_map, List.length_map]; omega) fun ln hln => ?_
          have u1 := same_new (.lst (las.map V.ref ++ kas.map V.ref)) hln
          have h11r := c3 _ _ h10r
          have h11g := c3 _ _ h10g
          have lnr : ln ≠ r := fresh_ne hln h11r
          have lng : ln ≠ g := fresh_ne hln h11g
          have hln2 := upd_same (H := H11) (a := ln) (o := .lst (las.map V.ref ++ kas.map V.ref))
          have bb : Same Bc (hides [r, g] (upd H11 ln (.lst (las.map V.ref ++ kas.map V.ref)))) := Same.hides (c2.trans u1) fun x hx => by
            simp only [List.mem_cons, List.not_mem_nil, or_false] at hx
            rcases hx with rfl | rfl
            · exact c4
            · exact c5
          obtain ⟨rasN, hrN, rprN⟩ := C5.rows
          obtain ⟨gasN, hgN, gprN⟩ := C5.logs
          have b4 := c1.trans bb
          refine ⟨lgs ++ [l], lat ++ kidsOf g1.spec.signs l, hides [r, g] _, ln, _, _, rfl, ⟨C5.hB.trans b4, hides_same, hides_none (by simp), hides_none (by simp), rg, ⟨rasN, u1 _ _ (c3 _ _ (s10 _ _ hrN)), Paired.imp (fun _ _ z => b4 _ _ z) rprN⟩, ⟨gasN, u1 _ _ (c3 _ _ (s10 _ _ hgN)), Paired.imp (fun _ _ z => z.same b4) gprN⟩⟩,
            (sB3.trans sB4).trans b4, ⟨las ++ kas, by rw [List.map_append]; exact hides_at hln2 (by simp [lnr, lng]), ?_⟩, ?_, ?_⟩
          · exact paired_app (Paired.imp (fun _ _ z => z.same (sB4.trans b4)) lpr) (Paired.imp (fun _ _ z => z.same bb) c8)
          · rw [List.length_append, kids_len, List.length_append]
            show _ ≤ 4 * (_ + 1)
            omega
          · rw [etk]
            exact IN.keep G1 G2 hgap hk kids_iff
      · rintro σ H3 ⟨lgs, lat, B', lt, v6, v7, rfl, C3, sB3, LL, llat, IN⟩
        rw [List.length_map, lwas, List.take_length] at IN
        exact ⟨_, rfl, n + 1, lgs, lat, B', lt, _, _, _, rfl, C3, LL, by omega, IN.next G1 G2 BF hwe, rfl⟩
end
end Tw
end

section
set_option Elab.async false
set_option linter.all false
set_option maxRecDepth 100000
set_option maxHeartbeats 4000000
/-! The bag of draws. -/
namespace Tw
open PySem PySem.Spec PyProof.Rows L2
def BagAt (H : Hp) (b ca : Addr) : Prop := ∃ (cs : List Int) (i1 : Nat) (i2 i3 i4 : Int), H b = some (.lst [.ref ca, .int (i1 : Nat), .int i2, .int i3, .int i4]) ∧ H ca = some (.lst (cs.map V.int))
theorem BagAt.same {H H' : Hp} {b ca : Addr} (h : BagAt H b ca) (k : Same H H') : BagAt H' b ca := let ⟨cs, i1, i2, i3, i4, h1, h2⟩ := h; ⟨cs, i1, i2, i3, i4, k _ _ h1, k _ _ h2⟩
theorem BagAt.new {H : Hp} {b ca D : Addr} (o : HO) (h : BagAt H b ca) (n : H D = none) : BagAt (upd H D o) b ca := h.same (same_new o n)
theorem BagAt.put {H : Hp} {b ca D : Addr} (o : HO) (h : BagAt H b ca) (n1 : b ≠ D) (n2 : ca ≠ D) : BagAt (upd H D o) b ca := let ⟨cs, i1, i2, i3, i4, h1, h2⟩ := h; ⟨cs, i1, i2, i3, i4, by rw [upd_ne n1]; exact h1, by rw [upd_ne n2]; exact h2⟩
theorem BagAt.ne {H : Hp} {b ca D : Addr} (h : BagAt H b ca) (n : H D = none) : b ≠ D ∧ ca ≠ D := let ⟨_, _, _, _, _, h1, h2⟩ := h; ⟨Ne.symm (fresh_ne n h1), Ne.symm (fresh_ne n h2)⟩
/-- the bag is written -/
theorem kp_bag {H : Hp} {b ca : Addr} {i1 i2 i3 i4 : Int} (o : HO) (h : H b = some (.lst [.ref ca, .int i1, .int i2, .int i3, .int i4])) : Kp H (upd H b o) := fun a u e q => by
  by_cases z : a = b
  · subst z
    rw [h] at e
    cases e
    cases q
  · rw [upd_ne z]; exact e
theorem set5 {a b c d e x : V} : ([a, b, c, d, e].set 4 x = [a, b, c, d, x]) ∧ ([a, b, c, d, e].set 3 x = [a, b, c, x, e]) ∧ ([a, b, c, d, e].set 2 x = [a, b, x, d, e]) ∧ ([a, b, c, d, e].set 1 x = [a, x, c, d, e]) := ⟨rfl, rfl, rfl, rfl⟩
section
variable {P : Program} {w : World} {K : PySem.W.Frag} {mg : Str → Option Value} {base : Heap}
theorem rd_il {H : Hp} {Q : VK} {a : Addr} {xs : List V} {i : Int} {v : V} (h : H a = some (.lst xs)) (e : atI xs i = some v) (q : Q v H) : rIxL K (.ref a) (.int i) H Q := ⟨a, xs, i, v, rfl, rfl, SqL.of h, e, q⟩
def spBag (K : PySem.W.Frag) : Sp := fun vs H Q _ => ∃ (l : Addr) (ns : List Int), vs = [.ref l] ∧ SqL K H l (ns.map V.int) ∧ ∀ b ca H', Same H H' → BagAt H' b ca → Q (.ref b) H'
theorem SqL.same {H H' : Hp} {a : Addr} {xs : List V} (h : SqL K H a xs) (k : Same H H') : SqL K H' a xs := by
  rcases h with h | h
  · rcases h with h | ⟨o, h⟩
    · exact .inl (.inl (k _ _ h))
    · exact .inl (.inr ⟨o, k _ _ h⟩)
  · exact .inr h
theorem ok_law_bag (T : Txt K mg) : Cal P w K mg base 1 "_law_bag" (spBag K) := by
  have sc : FnScope ["_law_script", "_law_cells", "_law_mixed_here", "_law_cell"] ["_law_script"] (defScope s_law_bag) := ⟨rfl, rfl, rfl, by decide +kernel, rfl, by decide +kernel, by decide +kernel⟩
  refine ⟨fn_by (fd_law_bag T) sc (fun _ _ _ _ _ _ us hl => match us, hl with | [_], _ => rfl) ?_ fun cdv A outer s H vs Q E hr h => ?_, g_law_bag T, kp_of (fd_law_bag T)⟩
  · rintro vs H Q E ⟨l, ns, rfl, _⟩; rfl
  · obtain ⟨l, ns, rfl, hl, k⟩ := h
    refine ⟨_, pss_cons (ps_setLc (i := 1) (own := [("_law_cell", 3)]) (g := gName 3) (tt := tYes) rfl sc.nd rfl rfl rfl (pi_list (pe_slice sl_list (pv 0) po_none (po_some pe_int))) (blkOk_by (N := ["_law_script", "_law_cells", "_law_mixed_here", "_law_cell"]) (sc := defScope s_law_bag) (by decide +kernel))
        (fun _ _ _ _ _ => pg_name (i := 3) sc.nd rfl (Or.inl rfl)) (fun _ _ _ _ _ => pts_nil) (fun _ _ _ _ _ => pe_t1 (n := "int") (r := rIn1) cr_in (b_int T) (pv 3)))
      (pss_cons (ps_set (i := 2) sc.nd rfl (.inl rfl) (pe_op op_add pe_int (pe_op op_mul pe_int (pe_b1 cr_ln (b_len T) (pv 1)))))
      (pss_cons (ps_for PassesOwn.never rfl (pi_list (pv 1)) (pg_name (i := 3) sc.nd rfl (.inl rfl)) (pss_one (ps_set (i := 2) sc.nd rfl (.inl rfl) (pe_op op_mod (pe_t1 cr_in (b_int T) (pe_op op_add (pe_op op_mul (pv 2) pe_int) (pv 3))) pe_int))))
      (pss_one (ps_ret (pe_lst (pa_cons (pv 1) (pa_cons pe_int (pa_cons pe_int (pa_cons (pv 2) (pa_cons pe_int pa_nil)))))))))), ?_⟩
    refine ⟨_, rfl, _, rfl, l, _, rfl, hl, fun q hq => ⟨q, rfl, ⟨_, SqL.of upd_same⟩, fun D hD => ?_⟩⟩
    have ec : cutV (ns.map V.int) none (some 63) = (ns.take 63).map V.int := by rw [List.map_take]; exact cut_take 63
    rw [ec] at hD ⊢
    have s0 := same_new (.lst ((ns.take 63).map V.int)) hq
    have hq0 := upd_same (H := H) (a := q) (o := .lst ((ns.take 63).map V.int))
    refine lc_it (walk_list (xs := (ns.take 63).map V.int)) (fun i H2 => Same (upd H q (.lst ((ns.take 63).map V.int))) H2 ∧ H2 D = some (.lst (((ns.take 63).take i).map V.int))) ⟨same_new _ hD, upd_same⟩ (fun i H2 _ ⟨s2, _⟩ => SqL.of (s2 _ _ hq0)) ?_ ?_
    · rintro i v H2 H3 hi ⟨s2, hd⟩ ⟨rfl, hv⟩
      obtain ⟨x, rfl, hx⟩ := ints_at hv
      refine ⟨rfl, _, rfl, .inl ⟨x, rfl, _, hd, ?_, Same.put s2 _ hD, ?_⟩⟩
      · rw [List.length_map, List.length_take, List.length_take]
        exact small1000 (by omega)
      · rw [upd_same, take_snoc hx, List.map_append]
        rfl
    rintro H2 ⟨s2, hd⟩
    rw [List.length_map, List.take_length] at hd
    refine ⟨_, rfl, rd_lenL hd ⟨_, _, rfl, rfl, .inl ⟨by decide, by decide⟩, _, _, rfl, rfl, ?_⟩⟩
    refine ⟨_, rfl, D, rfl, ⟨_, SqL.of hd⟩, for_it (walk_list (xs := (ns.take 63).map V.int)) (fun i σ H3 => ∃ m v, σ = [some (.ref l), some (.ref D), some (.int m), v] ∧ H3 = H2) ⟨_, none, rfl, rfl⟩ (fun i σ H3 _ ⟨_, _, _, e⟩ => by rw [e]; exact SqL.of hd) ?_ ?_⟩
    · rintro i v σ H3 H4 hi ⟨m, u, rfl, rfl⟩ ⟨rfl, hv⟩
      obtain ⟨x, rfl, hx⟩ := ints_at hv
      exact ⟨_, rfl, _, _, rfl, rfl, .inr ⟨by decide, by decide⟩, _, rfl, _, _, rfl, rfl, .inl ⟨_, rfl, _, _, rfl, rfl, (by show (0 : Int) < _; decide), _, _, rfl, rfl⟩⟩
    · rintro σ H3 ⟨m, u, rfl, rfl⟩
      refine ⟨_, rfl, _, rfl, by show 5 ≤ sizeLine; decide, fun b hb => k b D _ ((s0.trans s2).trans (same_new _ hb)) ⟨ns.take 63, 0, 0, m, 0, upd_same, same_new _ hb _ _ hd⟩⟩
def spTake : Sp := fun vs H Q _ => ∃ (b ca : Addr) (many : Int), vs = [.ref b, .int many] ∧ BagAt H b ca ∧ 0 < many ∧ many ≤ 1000000000 ∧ ∀ (d : Int) H', 0 ≤ d → d < many → Kp H H' → BagAt H' b ca → Q (.int d) H'
theorem ok_law_take (T : Txt K mg) : Cal P w K mg base 1 "_law_take" spTake := by
  have sc : FnScope ["_law_bag_here", "_law_many", "_law_cell", "_law_digit", "_law_old"] ["_law_bag_here", "_law_many"] (defScope s_law_take) := ⟨rfl, rfl, rfl, by decide +kernel, rfl, by decide +kernel, by decide +kernel⟩
  refine ⟨fn_by (fd_law_take T) sc (fun _ _ _ _ _ _ us hl => match us, hl with | [_, _], _ => rfl) ?_ fun cdv A outer s H vs Q E hr h => ?_, g_law_take T, kp_of (fd_law_take T)⟩
  · rintro vs H Q E ⟨b, ca, m, rfl, _⟩; rfl
  · obtain ⟨b, ca, many, rfl, ⟨cs, i1, i2, i3, i4, hb, hca⟩, m0, m9, k⟩ := h
    -- what the bag is written to
    have kb : ∀ {H1 : Hp} {j1 j2 j3 j4 : Int} (l1 : Nat) (l2 l3 l4 : Int), Kp H H1 → H1 b = some (.lst [.ref ca, .int j1, .int j2, .int j3, .int j4]) → H1 ca = some (.lst (cs.map V.int)) →
        Kp H (upd H1 b (.lst [.ref ca, .int (l1 : Nat), .int l2, .int l3, .int l4])) ∧ (upd H1 b (.lst [.ref ca, .int (l1 : Nat), .int l2, .int l3, .int l4])) b = some (.lst [.ref ca, .int (l1 : Nat), .int l2, .int l3, .int l4]) ∧
        (upd H1 b (.lst [.ref ca, .int (l1 : Nat), .int l2, .int l3, .int l4])) ca = some (.lst (cs.map V.int)) := fun {H1 j1 j2 j3 j4} l1 l2 l3 l4 k1 h1 h2 =>
      ⟨k1.trans (kp_bag _ h1), upd_same, by
        have n : ca ≠ b := fun e => by
          rw [e, h1] at h2
          have h3 := congrArg (fun o => match o with | some (HO.lst xs) => xs | _ => []) h2
          have h4 : [V.ref ca, .int j1, .int j2, .int j3, .int j4] = cs.map V.int := h3
          cases cs with
          | nil => cases h4
          | cons c r => cases h4
        rw [upd_ne n]; exact h2⟩
    obtain ⟨t2, p2, r2⟩ : ∃ t2, PSs (bX P w K mg base ["_law_bag_here", "_law_many", "_law_cell", "_law_digit", "_law_old"] "_law_take" s_law_take (He.ga K "_law_take") cdv A outer s H E) ((defBody s_law_take).drop 2) t2 ∧
        ∀ (c2 c3 c4 : Option V) (j1 : Nat) (j2 j3 j4 : Int) (H1 : Hp), Kp H H1 → H1 b = some (.lst [.ref ca, .int (j1 : Nat), .int j2, .int j3, .int j4]) → H1 ca = some (.lst (cs.map V.int)) →
          t2 { nx := fun _ H' => Q .non H', rt := Q } [some (.ref b), some (.int many), c2, c3, c4] H1 := by
      refine ⟨_, pss_cons (ps_if (pt_cmpR op_gt (pe_li (pv 0)) pe_int (nomark _))
        (pss_cons (ps_set (i := 3) sc.nd rfl (.inl rfl) (pe_op op_mod (pe_t1 cr_in (b_int T) (pe_li (pv 0))) (pv 1)))
        (pss_cons (ps_asg (pe_op op_fdiv (pe_li (pv 0)) (pv 1)) (pg_sub (pv 0) pe_int set_list))
        (pss_one (ps_ret (pv 3))))) pss_nil)
        (pss_cons (ps_set (i := 4) sc.nd rfl (.inl rfl) (pe_op op_mod (pe_t1 cr_in (b_int T) (pe_op op_add (pe_li (pv 0)) (pe_op op_mul (pe_li (pv 0)) pe_int))) pe_int))
        (pss_cons (ps_asg (pe_op op_mod (pe_t1 cr_in (b_int T) (pe_op op_add (pe_op op_add (pe_op op_mul (pv 4) (pv 4)) (pe_op op_mul (pv 4) pe_int)) pe_int)) pe_int) (pg_sub (pv 0) pe_int set_list))
        (pss_one (ps_ret (pe_op op_mod (pe_t1 cr_in (b_int T) (pe_op op_add (pe_op op_fdiv (pe_li (pv 0)) pe_int) (pe_op op_mul (pe_op op_mod (pe_t1 cr_in (b_int T) (pe_li (pv 0))) pe_int) pe_int))) (pv 1)))))), fun c2 c3 c4 j1 j2 j3 j4 H1 k1 hb1 hc1 => ?_⟩
      refine ⟨_, rfl, rd_il hb1 rfl ⟨_, _, rfl, rfl, _, rfl, ?_⟩⟩
      by_cases hg : 1 < j2
      · refine it_dec hg ?_
        refine ⟨_, rfl, rd_il hb1 rfl (.inl ⟨_, rfl, _, rfl, _, _, rfl, rfl, m0, ?_⟩)⟩
        refine ⟨_, rfl, rd_il hb1 rfl ⟨_, rfl, _, _, rfl, rfl, ⟨m0, by omega⟩, _, rfl, b, _, 2, 2, rfl, rfl, hb1, rfl, ?_⟩⟩
        obtain ⟨g1, g2, g3⟩ := kb j1 (j2 / many) j3 j4 k1 hb1 hc1
        exact ⟨_, rfl, k _ _ (Int.emod_nonneg _ (by omega)) (Int.emod_lt_of_pos _ m0) g1 ⟨cs, _, _, _, _, g2, g3⟩⟩
      · refine it_decF hg ?_
        refine ⟨_, rfl, rd_il hb1 rfl ⟨_, rfl, rd_il hb1 rfl ⟨_, _, rfl, rfl, .inr ⟨by decide, by decide⟩, _, _, rfl, rfl, .inl ⟨_, rfl, _, _, rfl, rfl, (by show (0 : Int) < _; decide), ?_⟩⟩⟩⟩
        have hold0 : 0 ≤ (j3 + j4 * 9601) % 2147483563 := Int.emod_nonneg _ (by decide)
        have hold1 : (j3 + j4 * 9601) % 2147483563 < 2147483563 := Int.emod_lt_of_pos _ (by decide)
        refine ⟨_, rfl, _, rfl, _, _, rfl, rfl, .inl ⟨by omega, by omega⟩, _, rfl, _, _, rfl, rfl, .inl ⟨by omega, by omega⟩, _, _, rfl, rfl, _, _, rfl, rfl, .inl ⟨_, rfl, _, _, rfl, rfl, (by show (0 : Int) < _; decide), _, rfl, b, _, 3, 3, rfl, rfl, hb1, rfl, ?_⟩⟩
        obtain ⟨g1, g2, g3⟩ := kb j1 j2 ((((j3 + j4 * 9601) % 2147483563) * ((j3 + j4 * 9601) % 2147483563) + ((j3 + j4 * 9601) % 2147483563) * 33811 + 90247) % 2147483563) j4 k1 hb1 hc1
        refine ⟨_, rfl, rd_il g2 rfl ⟨_, _, rfl, rfl, ⟨by decide, by decide⟩, _, rfl, rd_il g2 rfl (.inl ⟨_, rfl, _, _, rfl, rfl, (by show (0 : Int) < _; decide), _, _, rfl, rfl, .inr ⟨by decide, by decide⟩, _, _, rfl, rfl, .inl ⟨_, rfl, _, rfl, _, _, rfl, rfl, m0, ?_⟩⟩)⟩⟩
        exact k _ _ (Int.emod_nonneg _ (by omega)) (Int.emod_lt_of_pos _ m0) g1 ⟨cs, _, _, _, _, g2, g3⟩
    refine ⟨_, pss_cons (ps_asg (pe_op op_add (pe_li (pv 0)) pe_int) (pg_sub (pv 0) pe_int set_list))
      (pss_cons (ps_if (PW.pt (pw_and (pt_cmpR op_lt (pe_li (pv 0)) pe_int (nomark _)) (pw_and1 (pt_cmpR op_lt (pe_li (pv 0)) (pe_b1 cr_ln (b_len T) (pe_li (pv 0))) (nomark _)))))
        (pss_cons (ps_set (i := 2) sc.nd rfl (.inl rfl) (pe_ix ix_list (pe_li (pv 0)) (pe_li (pv 0)) (fun _ _ => rfl)))
        (pss_cons (ps_asg (pe_op op_add (pe_li (pv 0)) pe_int) (pg_sub (pv 0) pe_int set_list))
        (pss_cons (ps_asg (pe_op op_mod (pe_t1 cr_in (b_int T) (pe_op op_add (pe_op op_add (pe_op op_mul (pe_li (pv 0)) pe_int) (pe_op op_mul (pe_op op_mod (pe_t1 cr_in (b_int T) (pv 2)) pe_int) pe_int)) (pe_li (pv 0)))) pe_int) (pg_sub (pv 0) pe_int set_list))
        (pss_one (ps_asg (pe_ifExp (pt_cmpR op_ge (pv 2) (pe_op op_pow pe_int pe_int) (nomark _)) (pv 2) pe_int) (pg_sub (pv 0) pe_int set_list)))))) pss_nil) p2), ?_⟩
    refine ⟨_, rfl, rd_il hb rfl ⟨_, _, rfl, rfl, _, rfl, b, _, 4, 4, rfl, rfl, hb, rfl, ?_⟩⟩
    obtain ⟨g1, g2, g3⟩ := kb i1 i2 i3 (i4 + 1) (Kp.refl H) hb hca
    refine ⟨_, rfl, rd_il g2 rfl ⟨_, _, rfl, rfl, _, rfl, ?_⟩⟩
    by_cases h2 : i2 < 2
    case neg => exact it_decF h2 (iteF (r2 _ _ _ _ _ _ _ _ g1 g2 g3))
    case pos =>
    refine it_dec h2 ⟨_, rfl, rd_il g2 rfl ⟨_, rfl, rd_il g2 rfl (rd_lenL g3 ⟨_, _, rfl, rfl, _, rfl, ?_⟩)⟩⟩
    rw [List.length_map]
    by_cases h1 : (i1 : Int) < (cs.length : Nat)
    case neg => exact it_decF h1 (r2 _ _ _ _ _ _ _ _ g1 g2 g3)
    case pos =>
    refine it_dec h1 ?_
    have h1' : i1 < cs.length := by omega
    refine ⟨_, rfl, rd_il g2 rfl ⟨_, rfl, rd_il g2 rfl ⟨ca, _, _, _, rfl, rfl, SqL.of g3, atI_int h1', ?_⟩⟩⟩
    refine ⟨_, rfl, rd_il g2 rfl ⟨_, _, rfl, rfl, _, rfl, b, _, 1, 1, rfl, rfl, g2, rfl, ?_⟩⟩
    obtain ⟨a1, a2, a3⟩ := kb (i1 + 1) i2 i3 (i4 + 1) g1 g2 g3
    refine ⟨_, rfl, rd_il a2 rfl ⟨_, _, rfl, rfl, .inr ⟨by decide, by decide⟩, _, rfl, .inl ⟨_, rfl, _, _, rfl, rfl, (by show (0 : Int) < _; decide), _, _, rfl, rfl, .inr ⟨by decide, by decide⟩, _, _, rfl, rfl, ?_⟩⟩⟩
    refine ⟨_, rfl, rd_il a2 rfl ⟨_, _, rfl, rfl, .inl ⟨_, rfl, _, _, rfl, rfl, (by show (0 : Int) < _; decide), _, rfl, b, _, 3, 3, rfl, rfl, a2, rfl, ?_⟩⟩⟩
    obtain ⟨b1, b2, b3⟩ := kb (i1 + 1) i2 ((i3 * 40009 + cs.getD i1 0 % 2147483549 * 59 + ((i1 + 1 : Nat) : Int)) % 2147483563) (i4 + 1) a1 a2 a3
    refine ⟨_, rfl, _, _, rfl, rfl, ⟨by decide, by decide, by decide⟩, _, _, rfl, rfl, _, rfl, ?_⟩
    by_cases hc : (10 : Int) ^ (18 : Int).toNat ≤ cs.getD i1 0
    · refine it_dec hc ⟨_, rfl, _, rfl, b, _, 2, 2, rfl, rfl, b2, rfl, ?_⟩
      obtain ⟨c1, c2, c3⟩ := kb (i1 + 1) (cs.getD i1 0) ((i3 * 40009 + cs.getD i1 0 % 2147483549 * 59 + ((i1 + 1 : Nat) : Int)) % 2147483563) (i4 + 1) b1 b2 b3
      exact r2 _ _ _ _ _ _ _ _ c1 c2 c3
    · refine it_decF hc ⟨_, rfl, b, _, 2, 2, rfl, rfl, b2, rfl, ?_⟩
      obtain ⟨c1, c2, c3⟩ := kb (i1 + 1) 0 ((i3 * 40009 + cs.getD i1 0 % 2147483549 * 59 + ((i1 + 1 : Nat) : Int)) % 2147483563) (i4 + 1) b1 b2 b3
      exact r2 _ _ _ _ _ _ _ _ c1 c2 c3
end
end Tw
end

section
set_option Elab.async false
set_option linter.all false
set_option maxRecDepth 100000
set_option maxHeartbeats 4000000
/-! Drawn things: of, mixed, factor, amount. -/
namespace Tw
open PySem PySem.Spec PyProof.Rows L2
def rIns : V → List V → Hp → VK → Prop := fun x vs H Q => ∃ (l : Addr) (xs : List V) (i : Int) (y : V), x = .ref l ∧ vs = [.int i, y] ∧ H l = some (.lst xs) ∧ xs.length < sizeLine ∧ 0 ≤ i ∧ i < 2 ^ 63 ∧
    Q .non (upd H l (.lst (xs.take i.toNat ++ [y] ++ xs.drop i.toNat)))
theorem mt_ins {X : Cx} : MtR X "list.insert" rIns := mt_insert
theorem ins_perm {α : Type} (xs : List α) (d : Nat) (y : α) : (xs.take d ++ [y] ++ xs.drop d).Perm (xs ++ [y]) := by
  have h1 : (xs.take d ++ [y] ++ xs.drop d).Perm (y :: (xs.take d ++ xs.drop d)) := by
    rw [List.append_assoc]
    exact List.perm_middle
  rw [List.take_append_drop] at h1
  exact h1.trans (List.perm_append_comm (l₁ := [y]) (l₂ := xs))
/-- a list of one kind is no bag -/
structure NoBag (xs : List V) : Prop where
  no : ∀ ys : List V, (∀ y ∈ ys, y ∈ xs) → bagO (.lst ys) = false
theorem noBag_strs (ss : List Str) : NoBag (ss.map V.str) := ⟨fun ys h => by
  match ys, h with
  | [], _ => rfl
  | y :: r, h =>
    obtain ⟨s, _, rfl⟩ := List.mem_map.mp (h y List.mem_cons_self)
    rfl⟩
theorem noBag_refs (ss : List Addr) : NoBag (ss.map V.ref) := ⟨fun ys h => by
  match ys, h with
  | [], _ => rfl
  | [y], h =>
    obtain ⟨s, _, rfl⟩ := List.mem_map.mp (h y List.mem_cons_self)
    rfl
  | y :: z :: r, h =>
    obtain ⟨s, _, rfl⟩ := List.mem_map.mp (h z (by simp))
    cases y <;> rfl⟩
section
variable {P : Program} {w : World} {K : PySem.W.Frag} {mg : Str → Option Value} {base : Heap}
def spOf : Sp := fun vs H Q _ => ∃ (b ca : Addr), BagAt H b ca ∧ ((∃ (t : Addr) (xs : List V), vs = [.ref b, .ref t] ∧ H t = some (.lst xs) ∧ bagO (.lst xs) = false ∧ 0 < xs.length ∧ xs.length ≤ 1000 ∧ ∀ v H', v ∈ xs → Kp H H' → BagAt H' b ca → Q v H') ∨
  (∃ z : Str, vs = [.ref b, .str z] ∧ 0 < z.length ∧ z.length ≤ 1000 ∧ ∀ c H', c ∈ z.cps.toList → Kp H H' → BagAt H' b ca → Q (.str ⟨#[c]⟩) H'))
theorem ok_law_of (T : Txt K mg) : Cal P w K mg base 2 "_law_of" spOf := by
  have sc : FnScope ["_law_bag_here", "_law_things"] ["_law_bag_here", "_law_things"] (defScope s_law_of) := ⟨rfl, rfl, rfl, by decide +kernel, rfl, by decide +kernel, by decide +kernel⟩
  refine ⟨fn_by (fd_law_of T) sc (fun _ _ _ _ _ _ us hl => match us, hl with | [_, _], _ => rfl) ?_ fun cdv A outer s H vs Q E hr h => ?_, g_law_of T, kp_of (fd_law_of T)⟩
  · rintro vs H Q E ⟨b, ca, _, ⟨t, xs, rfl, _⟩ | ⟨z, rfl, _⟩⟩ <;> rfl
  · refine ⟨_, pss_one (ps_ret (pe_either (pe_ix ix_list (pv 1) (pe_c (ok_law_take T) hr (pa_cons (pv 0) (pa_cons (pe_b1 cr_ln (b_len T) (pv 1)) pa_nil))) (fun _ _ => rfl))
        (pe_ix ix_str (pv 1) (pe_c (ok_law_take T) hr (pa_cons (pv 0) (pa_cons (pe_b1 cr_ls (b_len T) (pv 1)) pa_nil))) (fun _ _ => rfl)))), ?_⟩
    obtain ⟨b, ca, hbag, h⟩ := h
    rcases h with ⟨t, xs, rfl, ht, nb, l0, l1, k⟩ | ⟨z, rfl, l0, l1, k⟩
    · refine .inl ⟨_, rfl, _, rfl, _, rfl, rd_lenL ht ⟨b, ca, _, rfl, hbag, by omega, by omega, fun d H' d0 d1 kp bag => ?_⟩⟩
      obtain ⟨n, rfl⟩ := Int.eq_ofNat_of_zero_le d0
      have hn : n < xs.length := by omega
      exact ⟨t, xs, _, xs[n], rfl, rfl, SqL.of (kp _ _ ht nb), atI_nat (List.getElem?_eq_getElem hn), k _ H' (List.getElem_mem hn) kp bag⟩
    · refine .inr ⟨_, rfl, _, rfl, _, rfl, z, rfl, Nat.le_trans l1 (by decide), b, ca, _, rfl, hbag, by omega, by omega, fun d H' d0 d1 kp bag => ?_⟩
      obtain ⟨n, rfl⟩ := Int.eq_ofNat_of_zero_le d0
      have hn : n < z.cps.toList.length := by
        have : z.length = z.cps.toList.length := by rw [Array.length_toList]; rfl
        omega
      exact ⟨z, _, z.cps.toList[n], rfl, rfl, Nat.le_trans l1 (by decide), atI_nat (List.getElem?_eq_getElem hn), k _ H' (List.getElem_mem hn) kp bag⟩
def spMixed : Sp := fun vs H Q _ => ∃ (b ca t : Addr) (xs : List V), vs = [.ref b, .ref t] ∧ BagAt H b ca ∧ H t = some (.lst xs) ∧ NoBag xs ∧ xs.length ≤ 200 ∧ ∀ l ys H', H l = none → Kp H H' → BagAt H' b ca → ys.Perm xs → H' l = some (.lst ys) → Q (.ref l) H'
theorem ok_law_mixed (T : Txt K mg) : Cal P w K mg base 2 "_law_mixed" spMixed := by
  have sc : FnScope ["_law_bag_here", "_law_things", "_law_found", "_law_thing"] ["_law_bag_here", "_law_things"] (defScope s_law_mixed) := ⟨rfl, rfl, rfl, by decide +kernel, rfl, by decide +kernel, by decide +kernel⟩
  refine ⟨fn_by (fd_law_mixed T) sc (fun _ _ _ _ _ _ us hl => match us, hl with | [_, _], _ => rfl) ?_ fun cdv A outer s H vs Q E hr h => ?_, g_law_mixed T, kp_of (fd_law_mixed T)⟩
  · rintro vs H Q E ⟨b, ca, t, xs, rfl, _⟩; rfl
  · obtain ⟨b, ca, t, xs, rfl, hbag, ht, nb, lx, k⟩ := h
    refine ⟨_, pss_cons (ps_set (i := 2) sc.nd rfl (.inl rfl) (pe_lst pa_nil))
      (pss_cons (ps_for PassesOwn.never rfl (pi_list (pv 1)) (pg_name (i := 3) sc.nd rfl (.inl rfl))
        (pss_one (ps_expr (pe_bm PySem.F.plainAttrs_list PySem.F.slot_list_insert PySem.F.type_list_insert mt_ins (pv 2) (pa_cons (pe_c (ok_law_take T) hr (pa_cons (pv 0) (pa_cons (pe_op op_add (pe_b1 cr_ln (b_len T) (pv 2)) pe_int) pa_nil))) (pa_cons (pv 3) pa_nil))))))
      (pss_one (ps_ret (pv 2)))), ?_⟩
    refine ⟨by show 0 ≤ sizeLine; decide, fun D hD => ?_⟩
    have s0 := same_new (.lst []) hD
    obtain ⟨nb1, nb2⟩ := hbag.ne hD
    have nbx : bagO (.lst xs) = false := nb.no xs fun _ h => h
    refine ⟨_, rfl, t, rfl, ⟨_, SqL.of (s0 _ _ ht)⟩, for_it (walk_list (xs := xs)) (fun i σ H2 => ∃ v ys, σ = [some (.ref b), some (.ref t), some (.ref D), v] ∧ Kp H H2 ∧ BagAt H2 b ca ∧ H2 D = some (.lst ys) ∧ ys.Perm (xs.take i)) ⟨_, [], rfl, Same.kp s0, hbag.same s0, upd_same, by rw [List.take_zero]⟩
      (fun i σ H2 _ ⟨_, _, _, kp, _⟩ => SqL.of (kp _ _ ht nbx)) ?_ ?_⟩
    · rintro i y σ H2 H3 hi ⟨v, ys, rfl, kp, bag, hd, pm⟩ ⟨rfl, hy⟩
      have lys : ys.length ≤ 200 := by rw [pm.length_eq, List.length_take]; omega
      refine ⟨_, rfl, .inl ⟨rfl, _, SqL.of hd⟩, _, rfl, _, rfl, rd_lenL hd ⟨_, _, rfl, rfl, b, ca, _, rfl, bag, by omega, by omega, fun d H4 d0 d1 kp4 bag4 => ?_⟩⟩
      have hd4 := kp4 _ _ hd (nb.no ys fun y hy => List.mem_of_mem_take (pm.subset hy))
      refine ⟨_, rfl, D, ys, d, y, rfl, rfl, hd4, small1000 (by omega), d0, by omega, ?_⟩
      refine ⟨_, _, rfl, Kp.put (kp.trans kp4) _ hD, bag4.put _ nb1 nb2, upd_same, ?_⟩
      rw [take_snoc hy]
      exact (ins_perm ys d.toNat y).trans (pm.append_right _)
    · rintro σ H2 ⟨v, ys, rfl, kp, bag, hd, pm⟩
      rw [List.take_length] at pm
      exact ⟨_, rfl, k D ys H2 hD kp bag pm hd⟩
/-- ints of a list of drawn numbers -/
def spInt (lo hi : Int) : Sp := fun vs H Q _ => ∃ b ca, vs = [.ref b] ∧ BagAt H b ca ∧ ∀ (d : Int) H', lo ≤ d → d ≤ hi → Kp H H' → BagAt H' b ca → Q (.int d) H'
theorem ok_law_factor (T : Txt K mg) : Cal P w K mg base 3 "_law_factor" (spInt (-1000) 1000) := by
  have sc : FnScope ["_law_bag_here"] ["_law_bag_here"] (defScope s_law_factor) := ⟨rfl, rfl, rfl, by decide +kernel, rfl, by decide +kernel, by decide +kernel⟩
  refine ⟨fn_by (fd_law_factor T) sc (fun _ _ _ _ _ _ us hl => match us, hl with | [_], _ => rfl) ?_ fun cdv A outer s H vs Q E hr h => ?_, g_law_factor T, kp_of (fd_law_factor T)⟩
  · rintro vs H Q E ⟨b, ca, rfl, _⟩; rfl
  · obtain ⟨b, ca, rfl, hbag, k⟩ := h
    refine ⟨_, pss_one (ps_ret (pe_c (ok_law_of T) hr (pa_cons (pv 0) (pa_cons (pe_lst (pa_cons pe_int (pa_cons pe_int (pa_cons pe_int (pa_cons pe_int (pa_cons (pe_un un_neg pe_int) (pa_cons pe_int (pa_cons (pe_un un_neg pe_int) (pa_cons (pe_op op_sub (pe_c ((ok_law_take T).up (by decide)) hr (pa_cons (pv 0) (pa_cons pe_int pa_nil))) pe_int) pa_nil))))))))) pa_nil)))), ?_⟩
    refine ⟨_, rfl, _, rfl, _, rfl, _, rfl, b, ca, _, rfl, hbag, by decide, by decide, fun d H' d0 d1 kp bag => ⟨_, _, rfl, rfl, by show 8 ≤ sizeLine; decide, fun l hl => ?_⟩⟩
    refine ⟨b, ca, bag.new _ hl, .inl ⟨l, _, rfl, upd_same, rfl, by show 0 < 8; decide, by show 8 ≤ 1000; decide, fun v H2 hv kp2 bag2 => ?_⟩⟩
    have kp3 := (Kp.new kp (.lst [V.int 0, V.int 1, V.int 1, V.int 1, V.int (-1), V.int 2, V.int (-3), V.int (d - 1000)]) hl).trans kp2
    have hv2 : v ∈ [V.int 0, V.int 1, V.int 1, V.int 1, V.int (-1), V.int 2, V.int (-3), V.int (d - 1000)] := hv
    simp only [List.mem_cons, List.not_mem_nil, or_false] at hv2
    rcases hv2 with rfl | rfl | rfl | rfl | rfl | rfl | rfl | rfl <;> exact k _ H2 (by omega) (by omega) kp3 bag2
theorem ok_law_amount (T : Txt K mg) : Cal P w K mg base 3 "_law_amount" (spInt (-1000000000000) 1000000000000) := by
  have sc : FnScope ["_law_bag_here"] ["_law_bag_here"] (defScope s_law_amount) := ⟨rfl, rfl, rfl, by decide +kernel, rfl, by decide +kernel, by decide +kernel⟩
  refine ⟨fn_by (fd_law_amount T) sc (fun _ _ _ _ _ _ us hl => match us, hl with | [_], _ => rfl) ?_ fun cdv A outer s H vs Q E hr h => ?_, g_law_amount T, kp_of (fd_law_amount T)⟩
  · rintro vs H Q E ⟨b, ca, rfl, _⟩; rfl
  · obtain ⟨b, ca, rfl, hbag, k⟩ := h
    refine ⟨_, pss_one (ps_ret (pe_c (ok_law_of T) hr (pa_cons (pv 0) (pa_cons (pe_lst (pa_cons pe_int (pa_cons pe_int (pa_cons (pe_un un_neg pe_int) (pa_cons pe_int (pa_cons (pe_op op_sub (pe_c ((ok_law_take T).up (by decide)) hr (pa_cons (pv 0) (pa_cons pe_int pa_nil))) pe_int)
      (pa_cons (pe_op op_sub (pe_c ((ok_law_take T).up (by decide)) hr (pa_cons (pv 0) (pa_cons (pe_op op_pow pe_int pe_int) pa_nil))) (pe_op op_pow pe_int pe_int)) (pa_cons (pe_op op_pow pe_int pe_int) (pa_cons (pe_op op_sub pe_int (pe_op op_pow pe_int pe_int)) pa_nil))))))))) pa_nil)))), ?_⟩
    refine ⟨_, rfl, _, rfl, _, rfl, b, ca, _, rfl, hbag, by decide, by decide, fun d H' d0 d1 kp bag => ⟨_, _, rfl, rfl, ?_⟩⟩
    refine ⟨_, rfl, _, _, rfl, rfl, ⟨by decide, by decide, by decide⟩, b, ca, _, rfl, bag, by decide, by decide, fun d2 H2 e0 e1 kp2 bag2 => ⟨_, _, rfl, rfl, ⟨by decide, by decide, by decide⟩, _, _, rfl, rfl, ?_⟩⟩
    refine ⟨_, _, rfl, rfl, ⟨by decide, by decide, by decide⟩, _, _, rfl, rfl, ⟨by decide, by decide, by decide⟩, _, _, rfl, rfl, by show 8 ≤ sizeLine; decide, fun l hl => ?_⟩
    refine ⟨b, ca, bag2.new _ hl, .inl ⟨l, _, rfl, upd_same, rfl, by show 0 < 8; decide, by show 8 ≤ 1000; decide, fun v H3 hv kp3 bag3 => ?_⟩⟩
    have e9 : (10 : Int) ^ (9 : Int).toNat = 1000000000 := by decide
    have e8 : (10 : Int) ^ (8 : Int).toNat = 100000000 := by decide
    have e12 : (10 : Int) ^ (12 : Int).toNat = 1000000000000 := by decide
    have kp4 := (Kp.new (kp.trans kp2) (.lst [V.int 0, V.int 1, V.int (-1), V.int 2, V.int (d - 10), V.int (d2 - (10 : Int) ^ (8 : Int).toNat), V.int ((10 : Int) ^ (12 : Int).toNat), V.int (0 - (10 : Int) ^ (12 : Int).toNat)]) hl).trans kp3
    have hv2 : v ∈ [V.int 0, V.int 1, V.int (-1), V.int 2, V.int (d - 10), V.int (d2 - (10 : Int) ^ (8 : Int).toNat), V.int ((10 : Int) ^ (12 : Int).toNat), V.int (0 - (10 : Int) ^ (12 : Int).toNat)] := hv
    simp only [List.mem_cons, List.not_mem_nil, or_false] at hv2
    have e1' : d2 < 1000000000 := by rw [← e9]; exact e1
    rcases hv2 with rfl | rfl | rfl | rfl | rfl | rfl | rfl | rfl <;> exact k _ H3 (by omega) (by omega) kp4 bag3
end
end Tw
end

section
set_option Elab.async false
set_option linter.all false
set_option maxRecDepth 100000
set_option maxHeartbeats 4000000
/-! list(zip(a, b)): the zip's pair is held by the list at the next turn. -/
namespace PySem
open PySem.W PySem.Calls PyProof.Rows PySem.Spec
section
variable {prog : Program} {w : World} {A : Around} {E : Value → Shared → Prop} {s : Shared} {z TI TO T i1 i2 : Addr} {f : Bool} {oT : Obj} {fp1 fp2 : List Addr} {n1 n2 i : Nat} {P1 P2 : Nat → Value → Prop} {St1 St2 : Nat → Heap → Prop} {a1 a2 : Value}
theorem zipH_next_item {Q : Value → Shared → Prop} (S : ZipSep2 z TI TO i1 i2 fp1 fp2) (D1 : Draws prog w A i1 fp1 n1 P1 St1) (D2 : Draws prog w A i2 fp2 n2 P2 St2)
    (hz : IsZipHeld s.heap z TI TO T f) (hT : s.heap.get? T = some oT) (hTI : IsTupOf2 s.heap TI (.ref i1) (.ref i2)) (st1 : St1 i s.heap) (st2 : St2 i s.heap) (hlt1 : i < n1) (hlt2 : i < n2)
    (hQ : ∀ x1 x2 h' tk, P1 i x1 → P2 i x2 → IsZipHeld h' z TI TO T true → St1 (i + 1) h' → St2 (i + 1) h' → IsTupOf2 h' s.heap.objs.size x1 x2 → h'.objs.size = s.heap.objs.size + 1 →
      (∀ c o, c ≠ z → c ≠ i1 → c ≠ i2 → s.heap.get? c = some o → h'.get? c = some o) → Q (.ref s.heap.objs.size) { s with heap := h', toks := tk }) :
    wpAny (model prog w) A (Builtin.«zip.__next__» ⟨[.ref z], []⟩) (fun fin s' => ∃ v, fin = .done (.ret v) ∧ Q v s') E s := by
  obtain ⟨hp, g, d, tk0, os⟩ := s
  show wpAny _ _ (field (.ref z) 2 >>= _) _ _ _
  refine wpAny_bind (wpAny_field hz rfl (x := .bool false) rfl ?_)
  show wpAny _ _ (field (.ref z) 3 >>= _) _ _ _
  refine wpAny_bind (wpAny_field hz rfl (x := .ref TI) rfl ?_)
  refine wpAny_bind (wpAny_seqItems hTI rfl ?_)
  show wpAny _ _ (Builtin.SmallTypes.ownedTupleIsFree (.ref z) >>= _) _ _ _
  refine wpAny_bind (wpAny_tupleHeld_zip hz hT fun h₁ hz₁ hs₁ => ?_)
  simp only [Bool.false_eq_true, if_false]
  refine wpAny_bind ?_
  rw [← Array.forIn_toList]
  simp only [List.forIn_cons, List.forIn_nil]
  refine wpAny_bind (wpAny_bind (wpAny_holding ?_))
  show wpAny _ _ (Builtin.SmallTypes.nextOf (.ref i1) >>= _) _ _ ⟨h₁, g, d, tk0, os⟩
  refine wpAny_bind (D1.item i _ _ _ hlt1 (D1.over st1 hs₁ S.zf1) fun x1 p1 tk1 hx1 sn1 hp1 => wpAny_pure ?_)
  replace hp1 : Heap.SameBut i1 h₁ p1 := hp1
  refine wpAny_pure ?_
  refine wpAny_bind (wpAny_bind (wpAny_holding ?_))
  show wpAny _ _ (Builtin.SmallTypes.nextOf (.ref i2) >>= _) _ _ ⟨p1, g, d, tk1, os⟩
  refine wpAny_bind (D2.item i _ _ _ hlt2 (D2.over (D2.over st2 hs₁ S.zf2) hp1 S.sep1_2) fun x2 p2 tk2 hx2 sn2 hp2 => wpAny_pure ?_)
  replace hp2 : Heap.SameBut i2 p1 p2 := hp2
  refine wpAny_pure (wpAny_pure ?_)
  show wpAny _ _ (newTuple [x1, x2] >>= _) _ _ ⟨p2, g, d, tk2, os⟩
  refine wpAny_bind (wpAny_newTuple ?_)
  have hsz : p2.objs.size = hp.objs.size := by rw [hp2.1, hp1.1, hs₁.1]
  have hz₃ : IsZipHeld p2 z TI TO T true := hp2.extBut _ _ S.zi2 (hp1.extBut _ _ S.zi1 hz₁)
  have hk : ∀ c o, c ≠ z → c ≠ i1 → c ≠ i2 → hp.get? c = some o → p2.get? c = some o := fun c o c1 c2 c3 e => hp2.extBut _ _ c3 (hp1.extBut _ _ c2 (hs₁.extBut _ _ c1 e))
  have hj1 : St1 (i + 1) p2 := D1.over sn1 hp2 S.sep2_1
  refine wpAny_pure ⟨_, rfl, ?_⟩
  show Q (.ref p2.objs.size) ⟨p2.push { cls := .type "tuple", data := .seq #[x1, x2] }, g, d, tk2, os⟩
  have hpp : IsTupOf2 (p2.push { cls := .type "tuple", data := .seq #[x1, x2] }) p2.objs.size x1 x2 := Heap.get?_push_size _ rfl
  have hz4 : (p2.push { cls := .type "tuple", data := .seq #[x1, x2] }).objs.size = p2.objs.size + 1 := Heap.size_push ..
  rw [hsz] at hpp hz4 ⊢
  exact hQ x1 x2 _ tk2 hx1 hx2 (Heap.get?_push_of_some _ hz₃) (D1.frame _ _ _ hj1 fun b _ o e => Heap.get?_push_of_some _ e) (D2.frame _ _ _ sn2 fun b _ o e => Heap.get?_push_of_some _ e) hpp hz4 fun c o c1 c2 c3 e => Heap.get?_push_of_some _ (hk c o c1 c2 c3 e)
theorem zipH_next_end {Q : Fin → Shared → Prop} (S : ZipSep2 z TI TO i1 i2 fp1 fp2) (D1 : Draws prog w A i1 fp1 n1 P1 St1) (D2 : Draws prog w A i2 fp2 n2 P2 St2)
    (hz : IsZipHeld s.heap z TI TO T f) (hT : s.heap.get? T = some oT) (hTI : IsTupOf2 s.heap TI (.ref i1) (.ref i2)) (st1 : St1 i s.heap) (st2 : St2 i s.heap) (hle1 : i ≤ n1) (hle2 : i ≤ n2) (hend : i = n1 ∨ i = n2)
    (hE : ∀ h' tk e, (∀ c o, c ≠ z → c ≠ i1 → c ≠ i2 → s.heap.get? c = some o → h'.get? c = some o) → (∃ o, h'.get? e = some o ∧ o.cls = .type "StopIteration") → E (.ref e) { s with heap := h', toks := tk }) :
    wpAny (model prog w) A (Builtin.«zip.__next__» ⟨[.ref z], []⟩) Q E s := by
  obtain ⟨hp, g, d, tk0, os⟩ := s
  show wpAny _ _ (field (.ref z) 2 >>= _) _ _ _
  refine wpAny_bind (wpAny_field hz rfl (x := .bool false) rfl ?_)
  show wpAny _ _ (field (.ref z) 3 >>= _) _ _ _
  refine wpAny_bind (wpAny_field hz rfl (x := .ref TI) rfl ?_)
  refine wpAny_bind (wpAny_seqItems hTI rfl ?_)
  show wpAny _ _ (Builtin.SmallTypes.ownedTupleIsFree (.ref z) >>= _) _ _ _
  refine wpAny_bind (wpAny_tupleHeld_zip hz hT fun h₁ hz₁ hs₁ => ?_)
  simp only [Bool.false_eq_true, if_false]
  refine wpAny_bind ?_
  rw [← Array.forIn_toList]
  simp only [List.forIn_cons, List.forIn_nil]
  refine wpAny_bind (wpAny_bind (wpAny_holding ?_))
  show wpAny _ _ (Builtin.SmallTypes.nextOf (.ref i1) >>= _) _ _ ⟨h₁, g, d, tk0, os⟩
  by_cases hlt1 : i < n1
  · refine wpAny_bind (D1.item i _ _ _ hlt1 (D1.over st1 hs₁ S.zf1) fun x1 p1 tk1 hx1 sn1 hp1 => wpAny_pure ?_)
    replace hp1 : Heap.SameBut i1 h₁ p1 := hp1
    have hi2 : i = n2 := by omega
    refine wpAny_pure ?_
    refine wpAny_bind (wpAny_bind (wpAny_holding ?_))
    show wpAny _ _ (Builtin.SmallTypes.nextOf (.ref i2) >>= _) _ _ ⟨p1, g, d, tk1, os⟩
    refine wpAny_bind (D2.done ⟨p1, g, d, tk1, os⟩ _ _ (by rw [← hi2]; exact D2.over (D2.over st2 hs₁ S.zf2) hp1 S.sep1_2) fun q e hq he => ?_)
    replace hq : Heap.ExtBut i2 p1 q := hq
    exact hE q tk1 e (fun c o c1 c2 c3 x => hq _ _ c3 (hp1.extBut _ _ c2 (hs₁.extBut _ _ c1 x))) he
  · have hi1 : i = n1 := by omega
    refine wpAny_bind (D1.done ⟨h₁, g, d, tk0, os⟩ _ _ (by rw [← hi1]; exact D1.over st1 hs₁ S.zf1) fun q e hq he => ?_)
    replace hq : Heap.ExtBut i1 h₁ q := hq
    exact hE q tk0 e (fun c o c1 c2 c3 x => hq _ _ c2 (hs₁.extBut _ _ c1 x)) he
/-- the zip at a turn of list(..): fresh, or its pair held -/
def ZlSt (z TI TO i1 i2 : Addr) (St1 St2 : Nat → Heap → Prop) (S : Addr) (i : Nat) (h : Heap) : Prop :=
  IsTupOf2 h TI (.ref i1) (.ref i2) ∧ St1 i h ∧ St2 i h ∧ ((IsZip h z TI TO .none ∧ ∃ a b, IsTupOf2 h TO a b) ∨ ∃ T f oT, IsZipHeld h z TI TO T f ∧ h.get? T = some oT ∧ T ≠ z ∧ T ≠ i1 ∧ T ≠ i2 ∧ T ≠ S)
theorem zl_item {S : Addr} {Q : Option Value → Shared → Prop} (Sp : ZipSep2 z TI TO i1 i2 fp1 fp2) (D1 : Draws prog w A.in1 i1 fp1 n1 P1 St1) (D2 : Draws prog w A.in1 i2 fp2 n2 P2 St2) (st : ZlSt z TI TO i1 i2 St1 St2 S i s.heap) (hS : S < s.heap.objs.size) (hlt1 : i < n1) (hlt2 : i < n2)
    (hQ : ∀ x1 x2 h' tk, P1 i x1 → P2 i x2 → ZlSt z TI TO i1 i2 St1 St2 S (i + 1) h' → IsTupOf2 h' s.heap.objs.size x1 x2 → h'.objs.size = s.heap.objs.size + 1 →
      (∀ c o, c ≠ z → c ≠ TO → c ≠ i1 → c ≠ i2 → s.heap.get? c = some o → h'.get? c = some o) → Q (some (.ref s.heap.objs.size)) { s with heap := h', toks := tk }) : wpAny (model prog w) A (pyNext (.ref z)) Q E s := by
  obtain ⟨hTI, st1, st2, hz⟩ := st
  obtain ⟨o1, e1⟩ := D1.live _ _ st1
  obtain ⟨o2, e2⟩ := D2.live _ _ st2
  have n1' : s.heap.objs.size ≠ i1 := Nat.ne_of_gt (Heap.lt_size e1)
  have n2' : s.heap.objs.size ≠ i2 := Nat.ne_of_gt (Heap.lt_size e2)
  rcases hz with ⟨hz, a, b, hTO⟩ | ⟨T, f, oT, hz, hT, r1, r2, r3, r4⟩
  · refine wpAny_pyNext_zipD2_item Sp D1 D2 hz hTI hTO st1 st2 hlt1 hlt2 fun x1 x2 h' tk y1 y2 b1 b2 c1 c2 b5 b6 hk => ?_
    exact hQ x1 x2 h' tk y1 y2 ⟨hk _ _ Sp.TIz Sp.TITO Sp.TIi1 Sp.TIi2 hTI, c1, c2, .inr ⟨s.heap.objs.size, false, _, b1, b5, Nat.ne_of_gt (Heap.lt_size hz), n1', n2', Nat.ne_of_gt hS⟩⟩ b5 b6 hk
  · have hTy : s.TypeIs (.ref z) "zip" := ⟨_, hz, rfl⟩
    unfold pyNext
    refine wpAny_bind (wpAny_attempt (wpAny_callSpecial?_slot (name := Str.ofString "__next__") hTy F.slot_zip_next
      (wpAny_call_entry F.slot_zip_next hTy F.entry_zip_next
        (zipH_next_item Sp D1 D2 hz hT hTI st1 st2 hlt1 hlt2 fun x1 x2 h' tk y1 y2 b1 c1 c2 b5 b6 hk => wpAny_pure ?_) (F.args_zip_next_1 _))))
    exact hQ x1 x2 h' tk y1 y2 ⟨hk _ _ Sp.TIz Sp.TIi1 Sp.TIi2 hTI, c1, c2, .inr ⟨T, true, oT, b1, hk _ _ r1 r2 r3 hT, r1, r2, r3, r4⟩⟩ b5 b6 fun c o cz _ q1 q2 e => hk c o cz q1 q2 e
theorem zl_done {S : Addr} {Q : Option Value → Shared → Prop} (Sp : ZipSep2 z TI TO i1 i2 fp1 fp2) (D1 : Draws prog w A.in1 i1 fp1 n1 P1 St1) (D2 : Draws prog w A.in1 i2 fp2 n2 P2 St2) (st : ZlSt z TI TO i1 i2 St1 St2 S i s.heap) (hle1 : i ≤ n1) (hle2 : i ≤ n2) (hend : i = n1 ∨ i = n2)
    (hQ : ∀ h' tk, (∀ c o, c ≠ z → c ≠ TO → c ≠ i1 → c ≠ i2 → s.heap.get? c = some o → h'.get? c = some o) → Q none { s with heap := h', toks := tk }) : wpAny (model prog w) A (pyNext (.ref z)) Q E s := by
  obtain ⟨hTI, st1, st2, hz⟩ := st
  rcases hz with ⟨hz, a, b, hTO⟩ | ⟨T, f, oT, hz, hT, r1, r2, r3, r4⟩
  · exact wpAny_pyNext_zipD2_end Sp D1 D2 hz hTI hTO st1 st2 hle1 hle2 hend hQ
  · have hTy : s.TypeIs (.ref z) "zip" := ⟨_, hz, rfl⟩
    unfold pyNext
    refine wpAny_bind (wpAny_attempt (wpAny_callSpecial?_slot (name := Str.ofString "__next__") hTy F.slot_zip_next
      (wpAny_call_entry F.slot_zip_next hTy F.entry_zip_next (zipH_next_end Sp D1 D2 hz hT hTI st1 st2 hle1 hle2 hend fun h' tk e hk he => ?_) (F.args_zip_next_1 _))))
    obtain ⟨o, ho, hc⟩ := he
    refine wpAny_bind (wpAny_isInstance (T := "StopIteration") (b := true) ⟨o, ho, hc⟩ isSubtype_stop ?_)
    exact wpAny_pure (hQ _ _ fun c o cz _ q1 q2 e => hk c o cz q1 q2 e)
/-- the pairs made -/
structure ZlG (P1 P2 : Nat → Value → Prop) (lo : Addr) (h : Heap) (as : List Addr) : Prop where
  rise : as.Pairwise (· < ·)
  above : ∀ a ∈ as, lo < a
  pairs : ∀ (j : Nat) (a : Addr), as[j]? = some a → ∃ x y, P1 j x ∧ P2 j y ∧ h.get? a = some { cls := .type "tuple", data := .seq #[x, y] }
theorem ZlG.there {lo : Addr} {h : Heap} {as : List Addr} (g : ZlG P1 P2 lo h as) {a : Addr} (ha : a ∈ as) : a < h.objs.size := by
  obtain ⟨j, hj⟩ := List.mem_iff_getElem?.mp ha
  obtain ⟨_, _, _, _, e⟩ := g.pairs j a hj
  exact Heap.lt_size e
theorem zl_loop {S m : Nat} {R : Result → Shared → Prop} {res : Value} {h₁ : Heap} (Sp : ZipSep2 z TI TO i1 i2 fp1 fp2) (D1 : Draws prog w A.in1.in1 i1 fp1 n1 P1 St1) (D2 : Draws prog w A.in1.in1 i2 fp2 n2 P2 St2)
    (cells : ∀ c, c = z ∨ c = TI ∨ c = TO ∨ c = i1 ∨ c = i2 ∨ c ∈ fp1 ∨ c ∈ fp2 → c < S) (hm : m = min n1 n2) (hz : m ≤ 1000)
    (hR : ∀ h' tk acc c as, (∀ b o, b ≠ S → b ≠ z → b ≠ TO → b ≠ i1 → b ≠ i2 → h₁.get? b = some o → h'.get? b = some o) → h'.get? S = some { cls := .type "list", dict := none, data := .seq acc c, slots := #[] } → as.length = m → ZlG P1 P2 S h' as →
      acc.toList = as.map Value.ref → R (.ok (.ret res)) { s with heap := h', toks := tk }) :
    ∀ (k i : Nat) (h : Heap) (tk c : Nat) (acc : Array Value) (as : List Addr), m - i = k → i ≤ m → ZlSt z TI TO i1 i2 St1 St2 S i h → (∀ b o, b ≠ S → b ≠ z → b ≠ TO → b ≠ i1 → b ≠ i2 → h₁.get? b = some o → h.get? b = some o) →
      h.get? S = some { cls := .type "list", dict := none, data := .seq acc c, slots := #[] } → acc.toList = as.map Value.ref → as.length = i → ZlG P1 P2 S h as →
      codeAny (model prog w) A (.builtin "list.extend.loop" ⟨[.ref S, .ref z, res], []⟩) R { s with heap := h, toks := tk } := by
  have lz : z < S := cells z (.inl rfl)
  have lTO : TO < S := cells TO (.inr (.inr (.inl rfl)))
  have lTI : TI < S := cells TI (.inr (.inl rfl))
  have l1 : i1 < S := cells i1 (.inr (.inr (.inr (.inl rfl))))
  have l2 : i2 < S := cells i2 (.inr (.inr (.inr (.inr (.inl rfl)))))
  intro k
  induction k with
  | zero =>
    intro i h tk c acc as hk hi hst hkeep hS hacc hal hG
    have hin : i = m := by omega
    refine codeAny_builtin PySem.F.entry_extend_loop ?_
    rw [Around.under_plainId PySem.F.plain_extend_loop _]
    show wpAny _ A.in1 (pyNext (.ref z) >>= _) _ _ _
    refine wpAny_bind (zl_done (s := { s with heap := h, toks := tk }) (A := A.in1) Sp D1 D2 hst (by omega) (by omega) (by omega) fun h' tk' he => ?_)
    refine wpAny_pure (hR h' tk' acc c as (fun b o h0 h1 h2 h3 h4 e => he b o h1 h2 h3 h4 (hkeep b o h0 h1 h2 h3 h4 e)) (he S _ (Nat.ne_of_gt lz) (Nat.ne_of_gt lTO) (Nat.ne_of_gt l1) (Nat.ne_of_gt l2) hS) (by omega) ⟨hG.rise, hG.above, fun j a hj => ?_⟩ hacc)
    obtain ⟨x, y, p1, p2, e3⟩ := hG.pairs j a hj
    have ha := hG.above a (List.mem_of_getElem? hj)
    exact ⟨x, y, p1, p2, he a _ (Nat.ne_of_gt (Nat.lt_trans lz ha)) (Nat.ne_of_gt (Nat.lt_trans lTO ha)) (Nat.ne_of_gt (Nat.lt_trans l1 ha)) (Nat.ne_of_gt (Nat.lt_trans l2 ha)) e3⟩
  | succ k ih =>
    intro i h tk c acc as hk hi hst hkeep hS hacc hal hG
    have hlt : i < m := by omega
    have hsz : acc.size = i := by rw [← Array.length_toList, hacc, List.length_map, hal]
    refine codeAny_builtin PySem.F.entry_extend_loop ?_
    rw [Around.under_plainId PySem.F.plain_extend_loop _]
    show wpAny _ A.in1 (pyNext (.ref z) >>= _) _ _ _
    refine wpAny_bind (zl_item (s := { s with heap := h, toks := tk }) (A := A.in1) (S := S) Sp D1 D2 hst (Heap.lt_size hS) (by omega) (by omega) fun x1 x2 h' tk' y1 y2 hst' ht hzz hkp => ?_)
    dsimp only at ht hzz hkp ⊢
    have hS' := hkp S _ (Nat.ne_of_gt lz) (Nat.ne_of_gt lTO) (Nat.ne_of_gt l1) (Nat.ne_of_gt l2) hS
    have up : ∀ b o, b ≠ S → h'.get? b = some o → (h'.update S (Obj.mapSeq (·.push (Value.ref h.objs.size)))).get? b = some o := fun b o hb e => (Heap.get?_update_other _ _ (Ne.symm hb)).trans e
    have hSl : S < h.objs.size := Heap.lt_size hS
    have hst2 : ZlSt z TI TO i1 i2 St1 St2 S (i + 1) (h'.update S (Obj.mapSeq (·.push (Value.ref h.objs.size)))) := by
      obtain ⟨q1, q2, q3, q4⟩ := hst'
      refine ⟨up _ _ (Nat.ne_of_lt lTI) q1, D1.frame _ _ _ q2 fun b hb o e => up b o (Nat.ne_of_lt (cells b (.inr (.inr (.inr (.inr (.inr (.inl hb)))))))) e, D2.frame _ _ _ q3 fun b hb o e => up b o (Nat.ne_of_lt (cells b (.inr (.inr (.inr (.inr (.inr (.inr hb)))))))) e, ?_⟩
      rcases q4 with ⟨hz, a, b, hTO⟩ | ⟨T, f, oT, hz, hT, r1, r2, r3, r4⟩
      · exact .inl ⟨up _ _ (Nat.ne_of_lt lz) hz, a, b, up _ _ (Nat.ne_of_lt lTO) hTO⟩
      · exact .inr ⟨T, f, oT, up _ _ (Nat.ne_of_lt lz) hz, up _ _ r4 hT, r1, r2, r3, r4⟩
    show wpAny _ A.in1 (updateSeq S (·.push (Value.ref h.objs.size)) >>= _) _ _ _
    refine wpAny_bind ?_
    refine wpAny_updateSeq hS' rfl (wpAny_pure ⟨plainId_quiet PySem.F.plain_extend_loop _, ih (i + 1) _ tk' _ (acc.push (Value.ref h.objs.size)) (as ++ [h.objs.size]) (by omega) hlt hst2
      (fun b o h0 h1 h2 h3 h4 e => up b o h0 (hkp b o h1 h2 h3 h4 (hkeep b o h0 h1 h2 h3 h4 e))) (Heap.get?_update_self _ hS' rfl) (by rw [Array.toList_push, hacc, List.map_append]; rfl) (by rw [List.length_append, hal]; rfl) ⟨?_, ?_, ?_⟩⟩) (by rw [hsz, sizeLine_eq]; omega) (by show (acc.push (Value.ref h.objs.size)).size ≤ sizeLine + 1; rw [Array.size_push, hsz, sizeLine_eq]; omega)
    · refine List.pairwise_append.mpr ⟨hG.rise, List.pairwise_singleton _ _, fun a ha b hb => ?_⟩
      rw [List.mem_singleton.mp hb]
      exact hG.there ha
    · intro a ha
      rcases List.mem_append.mp ha with ha | ha
      · exact hG.above a ha
      · rw [List.mem_singleton.mp ha]; exact hSl
    · intro j b hj
      rcases Nat.lt_trichotomy j as.length with h1 | h1 | h1
      · rw [List.getElem?_append_left h1] at hj
        obtain ⟨x, y, p1, p2, e3⟩ := hG.pairs j b hj
        have hb := hG.above b (List.mem_of_getElem? hj)
        exact ⟨x, y, p1, p2, up b _ (Nat.ne_of_gt hb) (hkp b _ (Nat.ne_of_gt (Nat.lt_trans lz hb)) (Nat.ne_of_gt (Nat.lt_trans lTO hb)) (Nat.ne_of_gt (Nat.lt_trans l1 hb)) (Nat.ne_of_gt (Nat.lt_trans l2 hb)) e3)⟩
      · subst h1
        have hb : h.objs.size = b := by simpa using hj
        subst hb
        subst hal
        exact ⟨x1, x2, y1, y2, up _ _ (Nat.ne_of_gt hSl) ht⟩
      · have hnone : (as ++ [h.objs.size])[j]? = none := List.getElem?_eq_none (by rw [List.length_append, List.length_singleton]; omega)
        rw [hnone] at hj; cases hj
end
end PySem
end

section
set_option Elab.async false
set_option linter.all false
set_option maxRecDepth 100000
set_option maxHeartbeats 4000000
namespace PySem
open PySem.W PySem.Calls PyProof.Rows PySem.Spec
theorem zip_no_len : typeLookup (.type "zip") "__len__" = pure none := am_miss_of_fast (by decide +kernel)
theorem zip_no_hint : typeLookup (.type "zip") "__length_hint__" = pure none := am_miss_of_fast (by decide +kernel)
section
variable {prog : Program} {w : World} {A : Around} {E : Value → Shared → Prop} {s : Shared}
theorem zl_hint {r : Addr} (hT : s.TypeIs (.ref r) "zip") {Q : Bool → Shared → Prop} (h : Q true s) : wpAny (model prog w) A (Builtin.List.listLengthHint (.ref r)) Q E s := by
  unfold Builtin.List.listLengthHint
  refine wpAny_bind (wpAny_specialOf hT zip_no_len ?_)
  refine wpAny_bind (wpAny_specialOf hT zip_no_hint ?_)
  exact wpAny_pure h
end
section
variable {prog : Program} {w : World} {A : Around} {E : Value → Shared → Prop} {s : Shared} {z TI TO i1 i2 : Addr} {fp1 fp2 : List Addr} {n1 n2 m : Nat} {P1 P2 : Nat → Value → Prop} {St1 St2 : Nat → Heap → Prop}
theorem ZlSt.over {A' : Around} {S i : Nat} {h h' : Heap} (D1 : Draws prog w A' i1 fp1 n1 P1 St1) (D2 : Draws prog w A' i2 fp2 n2 P2 St2) (cells : ∀ c, c = z ∨ c = TI ∨ c = TO ∨ c = i1 ∨ c = i2 ∨ c ∈ fp1 ∨ c ∈ fp2 → c < S) (st : ZlSt z TI TO i1 i2 St1 St2 S i h) (up : ∀ b o, b ≠ S → h.get? b = some o → h'.get? b = some o) : ZlSt z TI TO i1 i2 St1 St2 S i h' := by
  obtain ⟨q1, q2, q3, q4⟩ := st
  refine ⟨up _ _ (Nat.ne_of_lt (cells TI (.inr (.inl rfl)))) q1, D1.frame _ _ _ q2 fun b hb o e => up b o (Nat.ne_of_lt (cells b (.inr (.inr (.inr (.inr (.inr (.inl hb)))))))) e, D2.frame _ _ _ q3 fun b hb o e => up b o (Nat.ne_of_lt (cells b (.inr (.inr (.inr (.inr (.inr (.inr hb)))))))) e, ?_⟩
  rcases q4 with ⟨hz, a, b, hTO⟩ | ⟨T, f, oT, hz, hT, r1, r2, r3, r4⟩
  · exact .inl ⟨up _ _ (Nat.ne_of_lt (cells z (.inl rfl))) hz, a, b, up _ _ (Nat.ne_of_lt (cells TO (.inr (.inr (.inl rfl))))) hTO⟩
  · exact .inr ⟨T, f, oT, up _ _ (Nat.ne_of_lt (cells z (.inl rfl))) hz, up _ _ r4 hT, r1, r2, r3, r4⟩
theorem zl_extend {S c₀ : Nat} {R : Result → Shared → Prop} {res : Value} (Sp : ZipSep2 z TI TO i1 i2 fp1 fp2) (D1 : Draws prog w A.in1.in1 i1 fp1 n1 P1 St1) (D2 : Draws prog w A.in1.in1 i2 fp2 n2 P2 St2)
    (cells : ∀ c, c = z ∨ c = TI ∨ c = TO ∨ c = i1 ∨ c = i2 ∨ c ∈ fp1 ∨ c ∈ fp2 → c < S) (hm : m = min n1 n2) (hz : m ≤ 1000) (hzz : IsZip s.heap z TI TO .none) (st : ZlSt z TI TO i1 i2 St1 St2 S 0 s.heap) (hS : s.heap.get? S = some { cls := .type "list", data := .seq #[] c₀ })
    (hR : ∀ h' tk acc c as, (∀ b o, b ≠ S → b ≠ z → b ≠ TO → b ≠ i1 → b ≠ i2 → s.heap.get? b = some o → h'.get? b = some o) → h'.get? S = some { cls := .type "list", dict := none, data := .seq acc c, slots := #[] } → as.length = m → ZlG P1 P2 S h' as →
      acc.toList = as.map Value.ref → R (.ok (.ret res)) { s with heap := h', toks := tk }) :
    wpAny (model prog w) A.in1 (Builtin.List.listExtendWith (.ref S) (.ref z) res)
      (fun fin s' => match fin with | .done f => R (.ok f) s' | .again c' => c'.quiet = true ∧ codeAny (model prog w) A c' R s') (fun e s' => R (.error e) s') s := by
  have hSz : S ≠ z := Nat.ne_of_gt (cells z (.inl rfl))
  have key : ∀ (h : Heap) (c₁ tk : Nat), (∀ b o, b ≠ S → s.heap.get? b = some o → h.get? b = some o) → h.get? S = some { cls := .type "list", data := .seq #[] c₁ } →
      codeAny (model prog w) A (.builtin "list.extend.loop" ⟨[.ref S, .ref z, res], []⟩) R { s with heap := h, toks := tk } := fun h c₁ tk hk hS₁ =>
    zl_loop (s := s) (h₁ := s.heap) Sp D1 D2 cells hm hz hR m 0 h tk c₁ #[] [] (Nat.sub_zero _) (Nat.zero_le _) (ZlSt.over D1 D2 cells st hk) (fun b o h0 _ _ _ _ e => hk b o h0 e) hS₁ rfl rfl
      ⟨List.Pairwise.nil, (fun _ ha => nomatch ha), (fun j a hj => by simp at hj)⟩
  have hT : s.TypeIs (.ref z) "zip" := ⟨_, hzz, rfl⟩
  unfold Builtin.List.listExtendWith
  refine wpAny_bind (wpAny_typeOf (T := "zip") hT ?_)
  have h1 : Builtin.List.listSameRef (.ref S) (.ref z) = false := by simp [Builtin.List.listSameRef, hSz]
  have h2 : (Value.type "zip" == Value.type "list") = false := by decide
  have h3 : (Value.type "zip" == Value.type "tuple") = false := by decide
  simp only [h1, h2, h3, Bool.or_false, Bool.false_eq_true, if_false]
  refine wpAny_bind (wpAny_pyIter_zip hzz ?_)
  refine wpAny_bind (wpAny_holding (zl_hint hT ?_))
  refine wpAny_ite_split (fun _ => ?_) (fun _ => wpAny_pure ⟨plainId_quiet PySem.F.plain_extend_loop _, key _ c₀ _ (fun b o _ e => e) hS⟩)
  refine wpAny_bind (wpAny_rule ?_)
  refine wpAny_bind ?_
  show wpAny _ _ (updateSeq S (·.push .none) >>= fun _ => updateSeq S (·.pop)) _ _ _
  refine wpAny_bind (wpAny_updateSeq hS rfl ?_)
  have hS₂ := Heap.get?_update_self (Obj.mapSeq (·.push Value.none)) hS rfl
  refine wpAny_updateSeq (hz := by seq_fits) hS₂ rfl ?_
  have hS₃ := Heap.get?_update_self (Obj.mapSeq (·.pop)) hS₂ rfl
  refine wpAny_pure ⟨plainId_quiet PySem.F.plain_extend_loop _, key _ _ _ (fun b o hb e => ?_) hS₃⟩
  exact (Heap.get?_update_other _ _ (Ne.symm hb)).trans ((Heap.get?_update_other _ _ (Ne.symm hb)).trans e)
theorem zl_init {S : Nat} {R : Result → Shared → Prop} (Sp : ZipSep2 z TI TO i1 i2 fp1 fp2) (D1 : Draws prog w A.in1.in1 i1 fp1 n1 P1 St1) (D2 : Draws prog w A.in1.in1 i2 fp2 n2 P2 St2)
    (cells : ∀ c, c = z ∨ c = TI ∨ c = TO ∨ c = i1 ∨ c = i2 ∨ c ∈ fp1 ∨ c ∈ fp2 → c < S) (hm : m = min n1 n2) (hz : m ≤ 1000) (hzz : IsZip s.heap z TI TO .none) (st : ZlSt z TI TO i1 i2 St1 St2 S 0 s.heap) (hS : s.heap.get? S = some { cls := .type "list", data := .seq #[] })
    (hR : ∀ h' tk acc c as, (∀ b o, b ≠ S → b ≠ z → b ≠ TO → b ≠ i1 → b ≠ i2 → s.heap.get? b = some o → h'.get? b = some o) → h'.get? S = some { cls := .type "list", dict := none, data := .seq acc c, slots := #[] } → as.length = m → ZlG P1 P2 S h' as →
      acc.toList = as.map Value.ref → R (.ok (.ret .none)) { s with heap := h', toks := tk }) :
    wpAny (model prog w) A.in1 (Builtin.«list.__init__» ⟨[.ref S, .ref z], []⟩)
      (fun fin s' => match fin with | .done f => R (.ok f) s' | .again c' => c'.quiet = true ∧ codeAny (model prog w) A c' R s') (fun e s' => R (.error e) s') s := by
  show wpAny _ _ (do let old ← Builtin.List.listItems (.ref S); Builtin.List.listUpdate (.ref S) (fun _ => #[]); letGo old.toList.reverse; Builtin.List.listExtendWith (.ref S) (.ref z) .none) _ _ s
  refine wpAny_bind ?_
  unfold Builtin.List.listItems
  refine wpAny_bind (wpAny_seqItems hS rfl (wpAny_pure ?_))
  show wpAny _ _ (updateSeq S (fun _ => #[]) >>= fun _ => letGo (#[] : Array Value).toList.reverse >>= fun _ => Builtin.List.listExtendWith (.ref S) (.ref z) .none) _ _ s
  refine wpAny_bind (wpAny_updateSeq hS rfl ?_)
  have hS₂ := Heap.get?_update_self (Obj.mapSeq (fun _ => (#[] : Array Value))) hS rfl
  have oth : ∀ b o, b ≠ S → s.heap.get? b = some o → (s.heap.update S (Obj.mapSeq (fun _ => (#[] : Array Value)))).get? b = some o :=
    fun b o hb e => (Heap.get?_update_other _ _ (Ne.symm hb)).trans e
  refine wpAny_bind (wpAny_letGo ?_)
  refine zl_extend Sp D1 D2 cells hm hz (oth _ _ (Nat.ne_of_lt (cells z (.inl rfl))) hzz) (ZlSt.over D1 D2 cells st oth) hS₂ fun h' tk acc c as hk hS' hl hG hacc => ?_
  exact hR h' tk acc c as (fun b o h0 h1 h2 h3 h4 e => hk b o h0 h1 h2 h3 h4 (oth b o h0 e)) hS' hl hG hacc
theorem zl_call {Q : Value → Shared → Prop} (Sp : ZipSep2 z TI TO i1 i2 fp1 fp2) (D1 : Draws prog w A.in1.in1.in1 i1 fp1 n1 P1 St1) (D2 : Draws prog w A.in1.in1.in1 i2 fp2 n2 P2 St2)
    (cells : ∀ c, c = z ∨ c = TI ∨ c = TO ∨ c = i1 ∨ c = i2 ∨ c ∈ fp1 ∨ c ∈ fp2 → c < s.heap.objs.size) (hm : m = min n1 n2) (hz : m ≤ 1000) (hzz : IsZip s.heap z TI TO .none) (st : ZlSt z TI TO i1 i2 St1 St2 s.heap.objs.size 0 s.heap)
    (hQ : ∀ h' tk acc c as, (∀ b o, b ≠ z → b ≠ TO → b ≠ i1 → b ≠ i2 → s.heap.get? b = some o → h'.get? b = some o) → h'.get? s.heap.objs.size = some { cls := .type "list", dict := none, data := .seq acc c, slots := #[] } → as.length = m → ZlG P1 P2 s.heap.objs.size h' as →
      acc.toList = as.map Value.ref → Q (.ref s.heap.objs.size) { s with heap := h', toks := tk }) :
    wpAny (model prog w) A (call (.type "list") [.ref z]) Q E s := by
  refine callType_codes (Q₁ := fun obj s₁ => obj = .ref s.heap.objs.size ∧ s₁ = { s with heap := s.heap.push { cls := .type "list", data := .seq #[] } }) PySem.F.called_list (PySem.F.typeCall_list_1 _) PySem.F.entry_list_init
    (code_list_new _ ⟨rfl, rfl⟩) fun obj s₁ h₁ => ?_
  obtain ⟨rfl, rfl⟩ := h₁
  have hS : (s.heap.push { cls := .type "list", data := .seq #[] }).get? s.heap.objs.size = some { cls := .type "list", data := .seq #[] } := Heap.get?_push_size _ rfl
  refine ⟨⟨_, hS, rfl⟩, PySem.F.args_list_init_2 _ _, zl_init (A := A.in1) Sp D1 D2 cells hm hz (Heap.get?_push_of_some _ hzz) (ZlSt.over D1 D2 cells st fun b o _ e => Heap.get?_push_of_some _ e) hS fun h' tk acc c as hk hS' hl hG hacc => ?_⟩
  exact ⟨rfl, hQ h' tk acc c as (fun b o h1 h2 h3 h4 e => hk b o (Nat.ne_of_lt (Heap.lt_size e)) h1 h2 h3 h4 (Heap.get?_push_of_some _ e)) hS' hl hG hacc⟩
end
end PySem
namespace Tw
open PySem PySem.Spec PyProof.Rows L2
def putP : Hp → List Addr → List (V × V) → Hp
  | H, a :: as, p :: ps => upd (putP H as ps) a (.tup [p.1, p.2])
  | H, _, _ => H
theorem putP_off {b : Addr} : ∀ (as : List Addr) (ps : List (V × V)) (H : Hp), b ∉ as → putP H as ps b = H b
  | [], ps, H, _ => by cases ps <;> rfl
  | a :: as, [], H, _ => rfl
  | a :: as, p :: ps, H, h => by
    show upd (putP H as ps) a _ b = H b
    rw [upd_ne (fun e => h (by rw [e]; exact List.mem_cons_self)), putP_off as ps H fun z => h (List.mem_cons_of_mem _ z)]
theorem putP_at : ∀ (as : List Addr) (ps : List (V × V)) (H : Hp), as.length = ps.length → as.Nodup → Paired (fun (t : Addr) (p : V × V) => putP H as ps t = some (.tup [p.1, p.2])) as ps
  | [], [], H, _, _ => .nil
  | [], _ :: _, H, h, _ => by simp at h
  | _ :: _, [], H, h, _ => by simp at h
  | a :: as, p :: ps, H, h, nd => by
    obtain ⟨n1, n2⟩ := List.nodup_cons.mp nd
    refine .cons upd_same ?_
    have ih := putP_at as ps H (by simpa using h) n2
    have key : ∀ {xs : List Addr} {ys : List (V × V)}, Paired (fun (t : Addr) (p : V × V) => putP H as ps t = some (.tup [p.1, p.2])) xs ys → (∀ x ∈ xs, x ∈ as) → Paired (fun (t : Addr) (q : V × V) => upd (putP H as ps) a (.tup [p.1, p.2]) t = some (.tup [q.1, q.2])) xs ys := by
      intro xs ys q
      induction q with
      | nil => intro _; exact .nil
      | @cons x y xs ys e t ih2 =>
        intro hin
        refine .cons ?_ (ih2 fun z hz => hin z (List.mem_cons_of_mem _ hz))
        rw [upd_ne (fun z : x = a => n1 (by rw [← z]; exact hin x List.mem_cons_self))]
        exact e
    exact key ih fun x hx => hx
/-- the pairs and their list, laid -/
theorem pairs_laid {X : Cx} {pins : List (Addr × Obj)} {σ : L2.St} {H : Hp} {s : Shared} {h' : Heap} {tk lo : Nat} {xs ys : List V} {its its2 : List Value} {acc : Array Value} {c : Nat} {as : List Addr} (I : Inv X pins σ H s) (rv : Vals xs its) (rv2 : Vals ys its2)
    (hk : ∀ b o, s.heap.get? b = some o → h'.get? b = some o) (hlo : s.heap.objs.size ≤ lo) (hS : h'.get? lo = some { cls := .type "list", dict := none, data := .seq acc c, slots := #[] }) (hl : as.length = min xs.length ys.length) (hz : min xs.length ys.length ≤ 1000)
    (hG : ZlG (fun i x => its[i]? = some x) (fun i x => its2[i]? = some x) lo h' as) (hacc : acc.toList = as.map Value.ref) :
    ∃ H' : Hp, Same H H' ∧ H lo = none ∧ H' lo = some (.lst (as.map V.ref)) ∧ Paired (fun (t : Addr) (q : V × V) => H' t = some (.tup [q.1, q.2])) as (xs.zip ys) ∧ Inv X pins σ H' { s with heap := h', toks := tk } := by
  have hSn : lo ∉ as := fun z => Nat.lt_irrefl _ (hG.above _ z)
  have nd : as.Nodup := List.Pairwise.imp (fun {a b} (h : a < b) => Nat.ne_of_lt h) hG.rise
  have new : ∀ t ∈ as, H t = none := fun t ht => I.hok.fresh (Nat.le_of_lt (Nat.lt_of_le_of_lt hlo (hG.above t ht)))
  have newS : H lo = none := I.hok.fresh hlo
  have lz : as.length = (xs.zip ys).length := by rw [List.length_zip]; exact hl
  have atP := putP_at as (xs.zip ys) (upd H lo (.lst (as.map V.ref))) lz nd
  have off : ∀ b, b ∉ as → b ≠ lo → putP (upd H lo (.lst (as.map V.ref))) as (xs.zip ys) b = H b := fun b h1 h2 => by rw [putP_off as _ _ h1, upd_ne h2]
  have low : ∀ b o, s.heap.get? b = some o → b ∉ as ∧ b ≠ lo := fun b o e => ⟨fun z => absurd (Heap.lt_size e) (Nat.not_lt.mpr (Nat.le_of_lt (Nat.lt_of_le_of_lt hlo (hG.above b z)))), fun z => absurd (Heap.lt_size e) (Nat.not_lt.mpr (z ▸ hlo))⟩
  have kp : ∀ b u, H b = some u → (putP (upd H lo (.lst (as.map V.ref))) as (xs.zip ys)) b = some u := fun b u e => by
    rw [off b (fun z => by rw [new b z] at e; cases e) (fun z => by rw [z, newS] at e; cases e)]
    exact e
  have eS : putP (upd H lo (.lst (as.map V.ref))) as (xs.zip ys) lo = some (.lst (as.map V.ref)) := by rw [putP_off as _ _ hSn, upd_same]
  refine ⟨putP (upd H lo (.lst (as.map V.ref))) as (xs.zip ys), kp, newS, eS, atP, ?_⟩
  refine I.call' (ch := []) rfl ⟨fun b o q _ _ _ => hk b o q, fun b o q _ _ _ => ⟨o.slots, hk b o q⟩, fun b o q n _ => ?_, fun b o q _ => ⟨o, hk b o q⟩, fun b xs q => kp b _ q, fun b o u q => kp b _ q, fun b ps q => ⟨#[], by rw [kp b _ q]; simp⟩⟩ (fun b u q => ?_) I.bare fun b z => by simp at z
  · obtain ⟨z1, z2⟩ := low b o q
    rw [off b z1 z2]
    exact n
  · by_cases hb : b ∈ as
    · obtain ⟨j, pk, e1, e2, e3⟩ := LiI.paired_ix atP hb
      rw [e3] at q
      cases q
      obtain ⟨x, y, f1, f2, f3⟩ := hG.pairs j b e1
      have e2' := List.getElem?_zip_eq_some.mp (show (xs.zip ys)[j]? = some (pk.1, pk.2) from e2)
      obtain ⟨w1, g1, r1⟩ := rv.get e2'.1
      obtain ⟨w2, g2, r2⟩ := rv2.get e2'.2
      rw [f1] at g1
      rw [f2] at g2
      cases g1
      cases g2
      exact ⟨by show 2 ≤ sizeLine; decide, [x, y], .cons r1 (.cons r2 .nil), ⟨_, f3, rfl, _, rfl⟩⟩
    · by_cases hb2 : b = lo
      · rw [hb2] at q ⊢
        rw [eS] at q
        cases q
        refine ⟨by rw [List.length_map, sizeLine_eq]; omega, acc.toList, c, by rw [hacc]; exact LiI.vals_refs as, ?_⟩
        rw [Array.toArray_toList]
        exact hS
      · rw [off b hb hb2] at q
        exact (I.hok b u q).stay (fun d v _ y => hk d v y) (fun d y => kp d _ y) fun d xs y => kp d _ y
/-- list(zip(a, b)), b a list or a tuple -/
def rLZ (K : PySem.W.Frag) : List V → Hp → VK → Prop := fun vs H Q => ∃ (a b : Addr) (xs ys : List V), vs = [.ref a, .ref b] ∧ SqL K H a xs ∧ (SqL K H b ys ∨ SqT K H b ys) ∧ min xs.length ys.length ≤ 1000 ∧
  ∀ (H' : Hp) (p : Addr) (ts : List Addr), Same H H' → H p = none → H' p = some (.lst (ts.map V.ref)) → Paired (fun (t : Addr) (q : V × V) => H' t = some (.tup [q.1, q.2])) ts (xs.zip ys) → Q (.ref p) H'
def tLZ (K : PySem.W.Frag) (ta : TA) : TE := fun σ H Q => ta σ H fun vs H1 => rLZ K vs H1 Q
theorem lz_core {X : Cx} {pins : List (Addr × Obj)} {σ : L2.St} {H : Hp} {s : Shared} {a b : Addr} {xs ys : List V} {its its2 : List Value} {Q : VK} {o2 : Obj} {H2 : Heap → Prop} {St2 : Nat → Heap → Prop} (hc : X.A.handled = none) (I : Inv X pins σ H s) (rv : Vals xs its) (rv2 : Vals ys its2)
    (p : PlainL s.heap a its.toArray) (hb : b < s.heap.objs.size) (B2 : Begins (.ref b) o2 H2) (h2 : H2 s.heap) (D2 : ∀ A' : Around, A'.handled = none → Draws X.prog X.w A' (s.heap.objs.size + 1) [s.heap.objs.size + 1, b] its2.length (fun i x => its2[i]? = some x) St2)
    (st0 : ∀ h', h'.get? (s.heap.objs.size + 1) = some o2 → (∀ c o, s.heap.get? c = some o → h'.get? c = some o) → St2 0 h') (hz : min xs.length ys.length ≤ 1000)
    (q : ∀ (H' : Hp) (p : Addr) (ts : List Addr), Same H H' → H p = none → H' p = some (.lst (ts.map V.ref)) → Paired (fun (t : Addr) (q : V × V) => H' t = some (.tup [q.1, q.2])) ts (xs.zip ys) → Q (.ref p) H') :
    wpAny (model X.prog X.w) X.A (call (.type "zip") [.ref a, .ref b]) (fun v s' => wpAny (model X.prog X.w) X.A (call (.type "list") [v]) (EP X pins σ Q) X.xe s') X.xe s := by
  refine zip_begins2 (begins_list a its.toArray) B2 p.isList h2 fun h' hz' hTI hTO h1 h2' hsz hk => ?_
  have l1 := rv.length
  have l2 := rv2.length
  have Dz := PySem.W.ktu_apart s.heap.objs.size a b p.lt hb
  have D1 : ∀ A' : Around, A'.handled = none → Draws X.prog X.w A' s.heap.objs.size [s.heap.objs.size, a] its.length (fun i x => its[i]? = some x) (fun i h => h.IsListIter s.heap.objs.size a i ∧ h.IsList a its.toArray) := fun A' hA => by
    have d := Draws.list (prog := X.prog) (w := X.w) (A := A') hA s.heap.objs.size a Dz.l1i1 its.toArray
    simpa using d
  refine zl_call (s := { s with heap := h' }) (A := X.A) (sep_of Dz) (D1 _ hc) (D2 _ hc) (m := min its.length its2.length) (fun c hcm => ?_) rfl (by omega) hz' ⟨hTI, ⟨⟨_, h1, rfl, rfl⟩, p.isList.at fun o e => hk a o e⟩, st0 h' h2' hk, .inl ⟨hz', _, _, hTO⟩⟩ fun h'' tk acc c as hk2 hS hl hG hacc => ?_
  · show c < h'.objs.size
    rw [hsz]
    have la : a < s.heap.objs.size + 5 := Nat.lt_of_lt_of_le p.lt (Nat.le_add_right _ _)
    have lb : b < s.heap.objs.size + 5 := Nat.lt_of_lt_of_le hb (Nat.le_add_right _ _)
    have k5 : ∀ n : Nat, n < 5 → s.heap.objs.size + n < s.heap.objs.size + 5 := fun n h => Nat.add_lt_add_left h _
    simp only [List.mem_cons, List.not_mem_nil, or_false] at hcm
    rcases hcm with h | h | h | h | h | (h | h) | (h | h) <;> rw [h] <;> first | exact la | exact lb | exact k5 0 (by decide) | exact k5 1 (by decide) | exact k5 2 (by decide) | exact k5 3 (by decide) | exact k5 4 (by decide)
  · have hkk : ∀ b o, s.heap.get? b = some o → h''.get? b = some o := fun b o e => by
      have lt := Heap.lt_size e
      have nn : ∀ n : Nat, b ≠ s.heap.objs.size + n := fun n => Nat.ne_of_lt (Nat.lt_of_lt_of_le lt (Nat.le_add_right _ _))
      exact hk2 b o (nn 4) (nn 3) (nn 0) (nn 1) (hk b o e)
    obtain ⟨H', k1, k2, k3, k4, J⟩ := pairs_laid (tk := tk) (lo := h'.objs.size) I rv rv2 hkk (by rw [hsz]; omega) hS (by rw [hl, l1, l2]) hz hG hacc
    exact ⟨.ref _, H', J, rfl, q H' _ as k1 k2 k3 k4⟩
theorem pe_lz {X : Cx} {e e2 : Expr} {ta : TA} {p p2 pos pos2 : Pos} (hc : X.calm = true) (hm : X.mg "zip" = none) (hml : X.mg "list" = none) (ha : PA X [e, e2] ta) (hg : Gl X "zip" := by rfl) (hgl : Gl X "list" := by rfl)
    (hs : starEach [e, e2] X.env = (false, eval e X.env) :: starEach [e2] X.env := by rfl) (hpl : (backTo pos2 (starEach [e2] X.env)).any (·.1) = false := by rfl)
    (hs2 : starEach [.Call (.Name "zip" p2) [e, e2] [] pos2] X.env = (false, eval (.Call (.Name "zip" p2) [e, e2] [] pos2) X.env) :: starEach [] X.env := by rfl) :
    PE X (.Call (.Name "list" p) [.Call (.Name "zip" p2) [e, e2] [] pos2] [] pos) (tLZ X.K ta) := by
  refine ⟨fun pins s σ H Q I hq => ?_⟩
  refine wpAny_Call_Name_kw (ld_blt I hgl hml (show bootBuiltins "list" = some (.type "list") by decide +kernel) ?_)
  refine PyProof.Rows.callWith_type1 ?_ hs2 rfl
  rw [hs2]
  show wpAny _ _ (spliced ((false, eval (.Call (.Name "zip" p2) [e, e2] [] pos2) X.env) :: backTo pos (starEach [] X.env))) _ _ s
  refine Calls.spliced_cons ?_
  refine Call_ (ld_blt I hg hm PyProof.Rows.boot_zip (PyProof.Rows.callWith_type1 (thn (ha.run pos2 pins s σ H _ I hq) fun us s1 ⟨vs, H1, I1, r1, q1⟩ => ?_) hs hpl))
  obtain ⟨a, b, xs, ys, rfl, hqx, hqy, hz, q⟩ := q1
  obtain ⟨u1, u2, rfl, r, r'⟩ := vals2 r1
  cases r
  cases r'
  obtain ⟨its, rv, p1, _⟩ := I1.list hqx
  have key : ∀ {t : Sem Value} {s : Shared}, wpAny (model X.prog X.w) X.A t (fun v s' => wpAny (model X.prog X.w) X.A (call (.type "list") [v]) (EP X pins σ Q) X.xe s') X.xe s →
      wpAny (model X.prog X.w) X.A t (fun v s' => wpAny (model X.prog X.w) X.A (spliced (backTo pos (starEach [] X.env))) (fun vs s'' => wpAny (model X.prog X.w) X.A (call (.type "list") (v :: vs)) (EP X pins σ Q) X.xe s'') X.xe s') X.xe s := fun h => wpAny_mono h (fun v s' h' => Calls.spliced_nil h') fun _ _ z => z
  rcases hqy with hqy | hqy
  · obtain ⟨its2, rv2, p2, _⟩ := I1.list hqy
    exact key (lz_core (I.ok.hd hc) I1 rv rv2 p1 p2.lt (begins_list b its2.toArray) p2.isList (St2 := fun i h => h.IsListIter (s1.heap.objs.size + 1) b i ∧ h.IsList b its2.toArray) (fun A' hA => by
      have d := Draws.list (prog := X.prog) (w := X.w) (A := A') hA (s1.heap.objs.size + 1) b (PySem.W.ktu_apart s1.heap.objs.size a b p1.lt p2.lt).l2i2 its2.toArray
      simpa using d) (fun h' e k => ⟨⟨_, e, rfl, rfl⟩, p2.isList.at fun o e => k b o e⟩) hz q)
  · obtain ⟨its2, rv2, p2, _⟩ := I1.tuple hqy
    obtain ⟨o2, ho2, _⟩ := id p2
    exact key (lz_core (I.ok.hd hc) I1 rv rv2 p1 (Heap.lt_size ho2) (begins_tuple b its2.toArray) p2 (St2 := fun i h => h.IsTupleIter (s1.heap.objs.size + 1) b i ∧ h.IsTuple b its2.toArray) (fun A' hA => by
      have d := Draws.tuple (prog := X.prog) (w := X.w) (A := A') hA (s1.heap.objs.size + 1) b (PySem.W.ktu_apart s1.heap.objs.size a b p1.lt (Heap.lt_size ho2)).l2i2 its2.toArray
      simpa using d) (fun h' e k => ⟨⟨_, e, rfl, rfl⟩, let ⟨o, h1, h2⟩ := p2; ⟨o, k b o h1, h2⟩⟩) hz q)
end Tw
end

section
set_option Elab.async false
set_option linter.all false
set_option maxRecDepth 100000
set_option maxHeartbeats 4000000
/-! Drawn names. -/
namespace Tw
open PySem PySem.Spec PyProof.Rows L2
open TL (tl)
abbrev let25 : Str := "abcdefghijklmnpqrstuvwxyz"
theorem let25_nd : (tl let25).Nodup := by decide +kernel
theorem let25_len : (tl let25).length = 25 := by decide +kernel
theorem let25_sub : ∀ c ∈ tl let25, c ∈ letters.cps.toList := by decide +kernel
theorem let25_no : (111 : Nat) ∉ tl let25 := by decide +kernel
theorem joinL_nil : ∀ ls : List (List Nat), TL.joinL [] ls = ls.flatten
  | [] => rfl
  | [p] => by show p = [p].flatten; simp
  | p :: q :: r => by
    show p ++ ([] ++ TL.joinL [] (q :: r)) = (p :: q :: r).flatten
    rw [joinL_nil (q :: r), List.nil_append]
    simp
theorem join_chars (cs : List Nat) : tl (Txt.join "" (cs.map fun c => (⟨#[c]⟩ : Str))) = cs := by
  rw [TL.join_eq, TL.tl_join, List.map_map]
  have e : tl ("" : Str) = [] := by kernel_rfl
  rw [e, joinL_nil]
  induction cs with
  | nil => rfl
  | cons c r ih =>
    rw [List.map_cons, List.flatten_cons, ih]
    rfl
def nmAt (S : List Nat) (a c : Nat) : Str := ⟨(S.take a ++ [c] ++ S.drop a).toArray⟩
theorem nmAt_inj {S : List Nat} {a c c' : Nat} (h : nmAt S a c = nmAt S a c') : c = c' := by
  have h1 : (S.take a ++ [c] ++ S.drop a) = (S.take a ++ [c'] ++ S.drop a) := by
    have := congrArg (fun z : Str => z.cps.toList) h
    simpa [nmAt] using this
  rw [List.append_assoc, List.append_assoc] at h1
  have h2 := List.append_cancel_left h1
  exact (List.cons.inj h2).1
theorem nmAt_tl (S : List Nat) (a c : Nat) : tl (nmAt S a c) = S.take a ++ [c] ++ S.drop a := by simp [nmAt, tl]
theorem nmAt_len (S : List Nat) (a c : Nat) : (nmAt S a c).length = S.length + 1 := by
  rw [TL.len_tl, nmAt_tl, List.length_append, List.length_append, List.length_take, List.length_drop]
  simp; omega
theorem nmAt_ok {S : List Nat} {a c : Nat} (hS : S.length ≤ 4) (h : ∀ x ∈ S, x ∈ tl let25) (hc : c ∈ tl let25) : NameOk (nmAt S a c) := by
  have all : ∀ x ∈ tl (nmAt S a c), x ∈ tl let25 := fun x hx => by
    rw [nmAt_tl] at hx
    rcases List.mem_append.mp hx with hx | hx
    · rcases List.mem_append.mp hx with hx | hx
      · exact h x (List.mem_of_mem_take hx)
      · rw [List.mem_singleton.mp hx]; exact hc
    · exact h x (List.mem_of_mem_drop hx)
  refine ⟨by rw [nmAt_len]; omega, by rw [nmAt_len]; omega, fun e => ?_, fun e => ?_, fun x hx => let25_sub x (all x hx)⟩
  · exact let25_no (all 111 (by rw [e]; decide +kernel))
  · exact let25_no (all 111 (by rw [e]; decide +kernel))
theorem nodup_inj {α : Type} {l : List α} (nd : l.Nodup) {i j : Nat} (hi : i < l.length) (hj : j < l.length) (h : l[i] = l[j]) : i = j := by
  have p := List.pairwise_iff_getElem.mp nd
  rcases Nat.lt_trichotomy i j with q | q | q
  · exact absurd h (p i j hi hj q)
  · exact q
  · exact absurd h.symm (p j i hj hi q)
/-- the letter of a name -/
def lt25 (f st : Int) (k : Nat) : Nat := (tl let25).getD ((f + (k : Int) * st) % 25).toNat 0
theorem lt25_mem (f st : Int) (k : Nat) : lt25 f st k ∈ tl let25 := by
  have h0 : 0 ≤ (f + (k : Int) * st) % 25 := Int.emod_nonneg _ (by decide)
  have h1 : (f + (k : Int) * st) % 25 < 25 := Int.emod_lt_of_pos _ (by decide)
  unfold lt25
  have hl := let25_len
  have : ((f + (k : Int) * st) % 25).toNat < (tl let25).length := by omega
  rw [List.getD_eq_getElem?_getD, List.getElem?_eq_getElem this]
  exact List.getElem_mem this
theorem lt25_inj {f st : Int} (hs : st ∈ ([1, 2, 3, 4, 6, 7, 8, 9, 11, 12] : List Int)) {k k' : Nat} (hk : k < 12) (hk' : k' < 12) (h : lt25 f st k = lt25 f st k') : k = k' := by
  have i0 : ∀ j : Nat, 0 ≤ (f + (j : Int) * st) % 25 := fun j => Int.emod_nonneg _ (by decide)
  have i1 : ∀ j : Nat, (f + (j : Int) * st) % 25 < 25 := fun j => Int.emod_lt_of_pos _ (by decide)
  have hl := let25_len
  have q1 : ((f + (k : Int) * st) % 25).toNat < (tl let25).length := by have := i0 k; have := i1 k; omega
  have q2 : ((f + (k' : Int) * st) % 25).toNat < (tl let25).length := by have := i0 k'; have := i1 k'; omega
  unfold lt25 at h
  rw [List.getD_eq_getElem?_getD, List.getD_eq_getElem?_getD, List.getElem?_eq_getElem q1, List.getElem?_eq_getElem q2] at h
  have e := nodup_inj let25_nd q1 q2 (show (tl let25)[((f + (k : Int) * st) % 25).toNat] = (tl let25)[((f + (k' : Int) * st) % 25).toNat] from h)
  have a0 := i0 k
  have b0 := i0 k'
  have e2 : (f + (k : Int) * st) % 25 = (f + (k' : Int) * st) % 25 := by omega
  simp only [List.mem_cons, List.not_mem_nil, or_false] at hs
  rcases hs with rfl | rfl | rfl | rfl | rfl | rfl | rfl | rfl | rfl | rfl <;> omega
theorem cutS_pre (z : Str) (a : Nat) : tl (cutS z none (some (a : Int))) = (tl z).take a := by
  unfold cutS
  rw [HT.sIx_none, HT.sIx_nat, List.drop_zero, Nat.sub_zero]
  show ((tl z).take (min a z.length)).toArray.toList = _
  rw [TL.len_tl]
  by_cases h : a ≤ (tl z).length
  · rw [Nat.min_eq_left h]
  · rw [Nat.min_eq_right (by omega), List.take_length, List.take_of_length_le (by omega)]
theorem cutS_post (z : Str) (a : Nat) : tl (cutS z (some (a : Int)) none) = (tl z).drop a := by
  unfold cutS
  rw [HT.sIx_none, HT.sIx_nat]
  show (((tl z).drop (min a z.length)).take (z.length - min a z.length)).toArray.toList = _
  rw [TL.len_tl]
  by_cases h : a ≤ (tl z).length
  · rw [Nat.min_eq_left h, List.take_of_length_le (by rw [List.length_drop]; omega)]
  · rw [Nat.min_eq_right (by omega), List.drop_length, List.drop_of_length_le (by omega : (tl z).length ≤ a), List.take_nil]
section
variable {P : Program} {w : World} {K : PySem.W.Frag} {mg : Str → Option Value} {base : Heap}
def spNames : Sp := fun vs H Q _ => ∃ b ca, vs = [.ref b, .int 12] ∧ BagAt H b ca ∧ ∀ (l : Addr) (ss : List Str) H', Kp H H' → BagAt H' b ca → H' l = some (.lst (ss.map V.str)) → ss.length = 12 → ss.Nodup → (∀ x ∈ ss, NameOk x) → Q (.ref l) H'
abbrev nNames : List Str := ["_law_bag_here", "_law_many", "_law_letters", "_law_stem", "_law_at", "_law_first", "_law_step", "_law_k"]
theorem ok_law_names (T : Txt K mg) : Cal P w K mg base 3 "_law_names" spNames := by
  have sc : FnScope nNames ["_law_bag_here", "_law_many"] (defScope s_law_names) := ⟨rfl, rfl, rfl, by decide +kernel, rfl, by decide +kernel, by decide +kernel⟩
  refine ⟨fn_by (fd_law_names T) sc (fun _ _ _ _ _ _ us hl => match us, hl with | [_, _], _ => rfl) ?_ fun cdv A outer s H vs Q E hr h => ?_, g_law_names T, kp_of (fd_law_names T)⟩
  · rintro vs H Q E ⟨b, ca, rfl, _⟩; rfl
  · obtain ⟨b, ca, rfl, hbag, k⟩ := h
    refine ⟨_, pss_cons (ps_set (i := 2) sc.nd rfl (Or.inr rfl) pe_str)
      (pss_cons (ps_set (i := 3) sc.nd rfl (Or.inr rfl) (pe_bm PySem.F.plainAttrs_str PySem.F.slot_str_join PySem.F.type_str_join mt_join pe_str (pa_cons (pe_lc (own := [("_law_k", 7)]) (g := gName 7) (tt := tYes) rfl sc.nd (pi_range1 rfl (b_range T) (pa_cons (pe_c ((ok_law_take T).up (by decide)) hr (pa_cons (pv 0) (pa_cons pe_int pa_nil))) pa_nil)) (blkOk_by (N := nNames) (sc := defScope s_law_names) (by decide +kernel))
          (fun _ _ _ _ _ => pg_name (i := 7) sc.nd rfl (Or.inl rfl)) (fun _ _ _ _ _ => pts_nil) (fun _ _ _ _ _ => pe_c (ok_law_of T) hr (pa_cons (pv 0) (pa_cons (pv 2) pa_nil)))) pa_nil)))
      (pss_cons (ps_asg (pe_tup (pa_cons (pe_c ((ok_law_take T).up (by decide)) hr (pa_cons (pv 0) (pa_cons (pe_op op_add (pe_b1 cr_ls (b_len T) (pv 3)) pe_int) pa_nil))) (pa_cons (pe_c ((ok_law_take T).up (by decide)) hr (pa_cons (pv 0) (pa_cons pe_int pa_nil))) pa_nil))) (pg_tup rfl (pgs_cons (pg_name (i := 4) sc.nd rfl (Or.inr rfl)) (pgs_cons (pg_name (i := 5) sc.nd rfl (Or.inr rfl)) pgs_nil))))
      (pss_cons (ps_set (i := 6) sc.nd rfl (Or.inr rfl) (pe_c (ok_law_of T) hr (pa_cons (pv 0) (pa_cons (pe_lst (pa_cons pe_int (pa_cons pe_int (pa_cons pe_int (pa_cons pe_int (pa_cons pe_int (pa_cons pe_int (pa_cons pe_int (pa_cons pe_int (pa_cons pe_int (pa_cons pe_int pa_nil))))))))))) pa_nil))))
      (pss_one (ps_ret (pe_lc (own := [("_law_k", 7)]) (g := gName 7) (tt := tYes) rfl sc.nd (pi_range1 rfl (b_range T) (pa_cons (pv 1) pa_nil)) (blkOk_by (N := nNames) (sc := defScope s_law_names) (by decide +kernel))
          (fun _ _ _ _ _ => pg_name (i := 7) sc.nd rfl (Or.inl rfl)) (fun _ _ _ _ _ => pts_nil)
          (fun _ _ _ _ _ => pe_op op_add_str (pe_op op_add_str (pe_slice sl_str (pv 3) po_none (po_some (pv 4))) (pe_ix ix_str (pv 2) (pe_op op_mod (pe_t1 (n := "int") (r := rIn1) cr_in (b_int T) (pe_op op_add (pv 5) (pe_op op_mul (pv 7) (pv 6)))) pe_int) (fun _ _ => rfl))) (pe_slice sl_str (pv 3) (po_some (pv 4)) po_none)))))))), ?_⟩
    refine ⟨rfl, _, rfl, b, ca, 5, rfl, hbag, by decide, by decide, fun d H1 d0 d1 kp1 bag1 => ⟨d, rfl, by omega, by omega, fun D hD => ?_⟩⟩
    have hDH : H D = none → True := fun _ => True.intro
    refine lc_it walk_range (fun i H2 => Kp H1 H2 ∧ BagAt H2 b ca ∧ ∃ cs : List Nat, cs.length = i ∧ (∀ c ∈ cs, c ∈ tl let25) ∧ H2 D = some (.lst ((cs.map fun c => (⟨#[c]⟩ : Str)).map V.str))) ⟨kp_new _ hD, bag1.new _ hD, [], rfl, (fun _ h => nomatch h), upd_same⟩ (fun _ _ _ _ => True.intro) ?_ ?_
    · rintro i v H2 H3 hi ⟨kp2, bag2, cs, lc, hc, hd⟩ ⟨rfl, hv⟩
      obtain ⟨nb1, nb2⟩ := bag1.ne hD
      refine ⟨rfl, _, rfl, _, rfl, b, ca, bag2, .inr ⟨let25, rfl, by rw [TL.len_tl, let25_len]; decide, by rw [TL.len_tl, let25_len]; decide, fun c H4 hcm kp4 bag4 => ?_⟩⟩
      refine ⟨_, kp4 _ _ hd (bagO_strs _), by rw [List.length_map, List.length_map]; exact small1000 (by omega), Kp.put (kp2.trans kp4) _ hD, bag4.put _ nb1 nb2, cs ++ [c], by rw [List.length_append, lc]; rfl, fun x hx => ?_, by rw [upd_same, List.map_append, List.map_append]; rfl⟩
      rcases List.mem_append.mp hx with q | q
      · exact hc x q
      · rw [List.mem_singleton.mp q]; exact hcm
    rintro H2 ⟨kp2, bag2, cs, lc, hc, hd⟩
    have lcs : cs.length ≤ 4 := by omega
    have tj := join_chars cs
    refine ⟨_, D, cs.map (fun c => (⟨#[c]⟩ : Str)), rfl, rfl, .inl (SqL.of hd), ?_, ?_⟩
    · have h1 : ∀ cs : List Nat, ((cs.map fun c => (⟨#[c]⟩ : Str)).map (·.length)).sum = cs.length := fun cs => by
        induction cs with
        | nil => rfl
        | cons c r ih => rw [List.map_cons, List.map_cons, List.sum_cons, ih, List.length_cons]; show 1 + _ = _; omega
      have h0 : ("" : Str).length = 0 := by kernel_rfl
      rw [h1, h0]
      omega
    have htl : tl (Txt.join "" (cs.map fun c => (⟨#[c]⟩ : Str))) = cs := tj
    have hln : (Txt.join "" (cs.map fun c => (⟨#[c]⟩ : Str))).length = cs.length := by rw [TL.len_tl, htl]
    generalize Txt.join "" (cs.map fun c => (⟨#[c]⟩ : Str)) = stem at htl hln
    have kp02 := kp1.trans kp2
    refine ⟨_, rfl, _, rfl, stem, rfl, by rw [hln]; exact Nat.le_trans lcs (by decide), _, _, rfl, rfl, b, ca, _, rfl, bag2, by omega, by omega, fun at_ H3 a0 a1 kp3 bag3 => ?_⟩
    refine ⟨_, rfl, b, ca, 25, rfl, bag3, by decide, by decide, fun fi H4 f0 f1 kp4 bag4 => ⟨by show 2 ≤ sizeLine; decide, fun t ht => ?_⟩⟩
    refine ⟨t, _, rfl, SqT.of upd_same, rfl, _, _, rfl, _, _, rfl, rfl, ?_⟩
    have bag5 := bag4.new (.tup [V.int at_, V.int fi]) ht
    have kp5 := Kp.new ((kp02.trans kp3).trans kp4) (.tup [V.int at_, V.int fi]) ht
    refine ⟨_, rfl, by show 10 ≤ sizeLine; decide, fun l6 hl6 => ⟨b, ca, bag5.new _ hl6, .inl ⟨l6, _, rfl, upd_same, rfl, by show 0 < 10; decide, by show 10 ≤ 1000; decide, fun v H6 hv kp6 bag6 => ?_⟩⟩⟩
    have kp06 := (Kp.new kp5 (.lst [V.int 1, V.int 2, V.int 3, V.int 4, V.int 6, V.int 7, V.int 8, V.int 9, V.int 11, V.int 12]) hl6).trans kp6
    obtain ⟨stp, rfl, hst⟩ : ∃ stp : Int, v = .int stp ∧ stp ∈ ([1, 2, 3, 4, 6, 7, 8, 9, 11, 12] : List Int) := by
      have hv2 : v ∈ ([1, 2, 3, 4, 6, 7, 8, 9, 11, 12] : List Int).map V.int := hv
      obtain ⟨x, hx, rfl⟩ := List.mem_map.mp hv2
      exact ⟨x, rfl, hx⟩
    obtain ⟨an, rfl⟩ := Int.eq_ofNat_of_zero_le a0
    refine ⟨_, rfl, 12, rfl, by decide, by decide, fun D2 hD2 => ?_⟩
    obtain ⟨nb1, nb2⟩ := bag6.ne hD2
    have hs4 : (tl stem).length ≤ 4 := by rw [htl]; exact lcs
    have stl : stem.length ≤ 4 := by omega
    refine lc_it walk_range (fun i H7 => Same H6 H7 ∧ H7 D2 = some (.lst (((List.range i).map fun k => nmAt (tl stem) an (lt25 fi stp k)).map V.str))) ⟨same_new _ hD2, upd_same⟩ (fun _ _ _ _ => True.intro) ?_ ?_
    · rintro i v H7 H8 hi ⟨s7, hd7⟩ ⟨rfl, hv⟩
      have hv2 : v = .int (i : Nat) := by
        rw [hv]
        show V.int (0 + (i : Nat)) = _
        rw [Int.zero_add]
      subst hv2
      have hi2 : i < 12 := hi
      refine ⟨rfl, _, rfl, _, rfl, _, rfl, stem, rfl, Nat.le_trans stl (by decide), _, rfl, _, rfl, _, rfl, _, rfl, _, _, rfl, rfl, .inl ⟨by omega, by omega⟩, _, _, rfl, rfl, .inl ⟨_, rfl, _, _, rfl, rfl, (by show (0 : Int) < _; decide), ?_⟩⟩
      have m0 : 0 ≤ (fi + (i : Int) * stp) % 25 := Int.emod_nonneg _ (by decide)
      have m1 : (fi + (i : Int) * stp) % 25 < 25 := Int.emod_lt_of_pos _ (by decide)
      have hl := let25_len
      refine ⟨let25, _, lt25 fi stp i, rfl, rfl, by rw [TL.len_tl, hl]; decide, ?_, ?_⟩
      · obtain ⟨n, hn⟩ := Int.eq_ofNat_of_zero_le m0
        rw [hn]
        have hlt : n < (tl let25).length := by omega
        refine atI_nat ?_
        unfold lt25
        rw [hn, Int.toNat_natCast, List.getD_eq_getElem?_getD, List.getElem?_eq_getElem hlt]
        rfl
      have c1 := cutS_pre stem an
      have c2 := cutS_post stem an
      have lc1 : (cutS stem none (some (an : Int))).length ≤ 4 := Nat.le_trans (cutS_length stem _ _) stl
      have lc2 : (cutS stem (some (an : Int)) none).length ≤ 4 := Nat.le_trans (cutS_length stem _ _) stl
      have l1' : (⟨#[lt25 fi stp i]⟩ : Str).length = 1 := rfl
      refine ⟨_, _, rfl, rfl, by rw [l1', sizeLine_eq]; omega, _, rfl, _, rfl, _, rfl, stem, rfl, Nat.le_trans stl (by decide), _, _, rfl, rfl, ?_, ?_⟩
      · rw [TL.len_tl, TL.tl_append, List.length_append, ← TL.len_tl, ← TL.len_tl, l1', sizeLine_eq]; omega
      · refine ⟨_, hd7, by rw [List.length_map, List.length_map, List.length_range]; exact small1000 (by omega), Same.put s7 _ hD2, ?_⟩
        have en : (cutS stem none (some (an : Int)) ++ (⟨#[lt25 fi stp i]⟩ : Str)) ++ cutS stem (some (an : Int)) none = nmAt (tl stem) an (lt25 fi stp i) := by
          refine TL.ext_tl ?_
          rw [TL.tl_append, TL.tl_append, c1, c2, nmAt_tl]
        rw [upd_same, en, List.range_succ, List.map_append, List.map_append]
        rfl
    · rintro H7 ⟨s7, hd7⟩
      have hd8 : H7 D2 = some (.lst (((List.range 12).map fun k => nmAt (tl stem) an (lt25 fi stp k)).map V.str)) := hd7
      refine k D2 _ H7 (kp06.trans (Same.kp s7)) (bag6.same s7) hd8 (by rw [List.length_map, List.length_range]) ?_ ?_
      · refine List.pairwise_map.mpr (List.Pairwise.imp_of_mem (fun {x y} hx hy hne e => ?_) List.nodup_range)
        rw [List.mem_range] at hx hy
        exact hne (lt25_inj hst hx hy (nmAt_inj e))
      · intro x hx
        obtain ⟨k, _, rfl⟩ := List.mem_map.mp hx
        exact nmAt_ok hs4 (fun x hx => by rw [htl] at hx; exact hc x hx) (lt25_mem _ _ _)
end
end Tw
end

section
set_option Elab.async false
set_option linter.all false
set_option maxRecDepth 100000
set_option maxHeartbeats 4000000
/-! Drawn terms, changes. -/
namespace Tw
open PySem PySem.Spec PyProof.Rows L2
theorem perm_strs {ys : List V} {ss : List Str} (h : ys.Perm (ss.map V.str)) : ∃ zs : List Str, zs.Perm ss ∧ ys = zs.map V.str := by
  let g : V → Option Str := fun v => match v with
    | .str s => some s
    | _ => none
  have e : ∀ ss : List Str, (ss.map V.str).filterMap g = ss := fun ss => by
    induction ss with
    | nil => rfl
    | cons s r ih => rw [List.map_cons, List.filterMap_cons]; show s :: (r.map V.str).filterMap g = _; rw [ih]
  have all : ∀ y ∈ ys, ∃ s, y = V.str s := fun y hy => by
    obtain ⟨s, _, rfl⟩ := List.mem_map.mp (h.subset hy)
    exact ⟨s, rfl⟩
  have back : ∀ ys : List V, (∀ y ∈ ys, ∃ s, y = V.str s) → ys = (ys.filterMap g).map V.str := fun ys => by
    induction ys with
    | nil => intro _; rfl
    | cons y r ih =>
      intro hy
      obtain ⟨s, rfl⟩ := hy y List.mem_cons_self
      rw [List.filterMap_cons]
      show _ = V.str s :: (r.filterMap g).map V.str
      rw [← ih fun z hz => hy z (List.mem_cons_of_mem _ hz)]
  refine ⟨ys.filterMap g, ?_, back ys all⟩
  have := h.filterMap g
  rwa [e] at this
theorem perm_refs {ys : List V} {ss : List Addr} (h : ys.Perm (ss.map V.ref)) : ∃ zs : List Addr, zs.Perm ss ∧ ys = zs.map V.ref := by
  let g : V → Option Addr := fun v => match v with
    | .ref s => some s
    | _ => none
  have e : ∀ ss : List Addr, (ss.map V.ref).filterMap g = ss := fun ss => by
    induction ss with
    | nil => rfl
    | cons s r ih => rw [List.map_cons, List.filterMap_cons]; show s :: (r.map V.ref).filterMap g = _; rw [ih]
  have all : ∀ y ∈ ys, ∃ s, y = V.ref s := fun y hy => by
    obtain ⟨s, _, rfl⟩ := List.mem_map.mp (h.subset hy)
    exact ⟨s, rfl⟩
  have back : ∀ ys : List V, (∀ y ∈ ys, ∃ s, y = V.ref s) → ys = (ys.filterMap g).map V.ref := fun ys => by
    induction ys with
    | nil => intro _; rfl
    | cons y r ih =>
      intro hy
      obtain ⟨s, rfl⟩ := hy y List.mem_cons_self
      rw [List.filterMap_cons]
      show _ = V.ref s :: (r.filterMap g).map V.ref
      rw [← ih fun z hz => hy z (List.mem_cons_of_mem _ hz)]
  refine ⟨ys.filterMap g, ?_, back ys all⟩
  have := h.filterMap g
  rwa [e] at this
theorem tk_put {H : Hp} {D : Addr} {xs : List V} (o : HO) (h : H D = some (.lst xs)) : Tk H (upd H D o) := fun a ys e => by rw [upd_ne (at_ne e h (fun z => nomatch z))]; exact e
theorem Tk.trans {H H1 H2 : Hp} (a : Tk H H1) (b : Tk H1 H2) : Tk H H2 := fun c xs h => b c xs (a c xs h)
theorem atI_strs {ss : List Str} {i : Nat} (h : i < ss.length) : atI (ss.map V.str) (i : Int) = some (.str ss[i]) := atI_nat (by rw [List.getElem?_map, List.getElem?_eq_getElem h]; rfl)
section
variable {P : Program} {w : World} {K : PySem.W.Frag} {mg : Str → Option Value} {base : Heap}
def spLTerms : Sp := fun vs H Q _ => ∃ (b ca l : Addr) (ss : List Str), vs = [.ref b, .ref l] ∧ BagAt H b ca ∧ H l = some (.lst (ss.map V.str)) ∧ ss.Nodup ∧ ss.length ≤ 20 ∧ ∀ (t : Addr) (ts : Terms) H', Kp H H' → BagAt H' b ca → TermsAt H' t ts → TermsOk ss ts → Q (.ref t) H'
theorem ok_law_terms (T : Txt K mg) : Cal P w K mg base 4 "_law_terms" spLTerms := by
  have sc : FnScope ["_law_bag_here", "_law_sources", "_law_some", "_law_source"] ["_law_bag_here", "_law_sources"] (defScope s_law_terms) := ⟨rfl, rfl, rfl, by decide +kernel, rfl, by decide +kernel, by decide +kernel⟩
  refine ⟨fn_by (fd_law_terms T) sc (fun _ _ _ _ _ _ us hl => match us, hl with | [_, _], _ => rfl) ?_ fun cdv A outer s H vs Q E hr h => ?_, g_law_terms T, kp_of (fd_law_terms T)⟩
  · rintro vs H Q E ⟨b, ca, l, ss, rfl, _⟩; rfl
  · obtain ⟨b, ca, l, ss, rfl, hbag, hl, nd, l20, k⟩ := h
    refine ⟨_, pss_cons (ps_set (i := 2) sc.nd rfl (.inl rfl) (pe_slice sl_list (pe_c ((ok_law_mixed T).up (by decide)) hr (pa_cons (pv 0) (pa_cons (pv 1) pa_nil))) po_none (po_some (pe_c ((ok_law_of T).up (by decide)) hr (pa_cons (pv 0) (pa_cons (pe_lst (pa_cons pe_int (pa_cons pe_int (pa_cons pe_int (pa_cons pe_int (pa_cons pe_int pa_nil)))))) pa_nil))))))
      (pss_one (ps_ret (pe_t1 cr_tu (b_tuple T) (pe_lc (own := [("_law_source", 3)]) (g := gName 3) (tt := tYes) rfl sc.nd (pi_list (pv 2)) (blkOk_by (N := ["_law_bag_here", "_law_sources", "_law_some", "_law_source"]) (sc := defScope s_law_terms) (by decide +kernel))
          (fun _ _ _ _ _ => pg_name (i := 3) sc.nd rfl (Or.inl rfl)) (fun _ _ _ _ _ => pts_nil) (fun _ _ _ _ _ => pe_tup (pa_cons (pv 3) (pa_cons (pe_c (ok_law_factor T) hr (pa_cons (pv 0) pa_nil)) pa_nil))))))), ?_⟩
    refine ⟨_, rfl, _, rfl, b, ca, l, _, rfl, hbag, hl, noBag_strs ss, by rw [List.length_map]; omega, fun l1 ys H1 _ kp1 bag1 pm1 h1 => ?_⟩
    obtain ⟨zs, pz, rfl⟩ := perm_strs pm1
    refine ⟨_, rfl, by show 5 ≤ sizeLine; decide, fun l2 hl2 => ⟨b, ca, bag1.new _ hl2, .inl ⟨l2, _, rfl, upd_same, rfl, by show 0 < 5; decide, by show 5 ≤ 1000; decide, fun v H2 hv kp2 bag2 => ?_⟩⟩⟩
    obtain ⟨n, rfl, hn⟩ : ∃ n : Nat, v = .int (n : Nat) ∧ n ≤ 3 := by
      have hv2 : v ∈ ([0, 1, 1, 2, 3] : List Nat).map fun n : Nat => V.int (n : Nat) := hv
      obtain ⟨n, hn, rfl⟩ := List.mem_map.mp hv2
      refine ⟨n, rfl, ?_⟩
      simp only [List.mem_cons, List.not_mem_nil, or_false] at hn
      omega
    have kp12 := (Kp.trans kp1 (kp_new (.lst [V.int 0, V.int 1, V.int 1, V.int 2, V.int 3]) hl2)).trans kp2
    have h1' := (Kp.trans (kp_new (.lst [V.int 0, V.int 1, V.int 1, V.int 2, V.int 3]) hl2) kp2) _ _ h1 (bagO_strs _)
    refine ⟨_, rfl, l1, _, rfl, SqL.of h1', fun q hq => ?_⟩
    rw [cut_take, ← List.map_take]
    have lz : (zs.take n).length ≤ 3 := by rw [List.length_take]; omega
    have ndz : (zs.take n).Nodup := (pz.nodup_iff.mpr nd).sublist (List.take_sublist n zs)
    have srz : ∀ x ∈ zs.take n, x ∈ ss := fun x hx => pz.subset (List.mem_of_mem_take hx)
    generalize zs.take n = us at lz ndz srz
    have bag3 := bag2.new (.lst (us.map V.str)) hq
    have hq' := upd_same (H := H2) (a := q) (o := .lst (us.map V.str))
    have kp3 := Kp.new kp12 (.lst (us.map V.str)) hq
    refine ⟨_, rfl, q, rfl, ⟨_, SqL.of hq'⟩, fun D hD => ?_⟩
    obtain ⟨nb1, nb2⟩ := bag3.ne hD
    refine lc_it (walk_list (xs := us.map V.str)) (fun i H4 => Kp (upd H2 q (.lst (us.map V.str))) H4 ∧ BagAt H4 b ca ∧ ∃ (tas : List Addr) (ts : Terms), H4 D = some (.lst (tas.map V.ref)) ∧ Paired (TermAt H4) tas ts ∧ ts.map (·.1) = us.take i ∧ ∀ t ∈ ts, -1000 ≤ t.2 ∧ t.2 ≤ 1000)
      ⟨kp_new _ hD, bag3.new _ hD, [], [], upd_same, .nil, by simp, (fun _ h => nomatch h)⟩ (fun i H4 _ ⟨kp4, _⟩ => SqL.of (kp4 _ _ hq' (bagO_strs _))) ?_ ?_
    · rintro i v H4 H5 hi ⟨kp4, bag4, tas, ts, hd, pr, e1, fac⟩ ⟨rfl, hv⟩
      obtain ⟨x, rfl, hx⟩ := strs_at hv
      rw [List.length_map] at hi
      have lts : ts.length = min i us.length := by have := congrArg List.length e1; rw [List.length_map, List.length_take] at this; exact this
      refine ⟨rfl, _, rfl, _, rfl, b, ca, rfl, bag4, fun fc H6 f0 f1 kp6 bag6 => ⟨by show 2 ≤ sizeLine; decide, fun t ht => ?_⟩⟩
      have kp46 := Kp.new kp6 (.tup [V.str x, V.int fc]) ht
      have hd6 := kp46 _ _ hd (bagO_refs _)
      refine ⟨_, hd6, by rw [List.length_map, pr.length]; exact small1000 (by omega), Kp.put (kp4.trans kp46) _ hD, (bag6.new _ ht).put _ nb1 nb2, tas ++ [t], ts ++ [(x, fc)], by rw [upd_same, List.map_append]; rfl, ?_, ?_, ?_⟩
      · have tk := kp46.tk.trans (tk_put (.lst (tas.map V.ref ++ [V.ref t])) hd6)
        exact paired_snoc (Paired.imp (fun _ _ z => TermAt.tk tk z) pr) ((tk_put _ hd6) _ _ upd_same)
      · rw [List.map_append, e1, take_snoc hx]
        rfl
      · intro t' ht'
        rcases List.mem_append.mp ht' with z | z
        · exact fac t' z
        · rw [List.mem_singleton.mp z]; exact ⟨f0, f1⟩
    · rintro H4 ⟨kp4, bag4, tas, ts, hd, pr, e1, fac⟩
      rw [List.length_map, List.take_length] at e1
      refine rd_tu hd fun t ht => ?_
      have n1 := same_new (.tup (tas.map V.ref)) ht
      have lts : ts.length ≤ 3 := by have := congrArg List.length e1; rw [List.length_map] at this; omega
      refine k t ts _ ((kp3.trans kp4).trans (Same.kp n1)) (bag4.same n1) ⟨tas, upd_same, Paired.imp (fun _ _ z => n1 _ _ z) pr⟩ ⟨by rw [e1]; exact ndz, fun t' ht' => srz _ (by rw [← e1]; exact List.mem_map.mpr ⟨t', ht', rfl⟩), fac, by omega⟩
def specK (am ar as_ al : Addr) : List (Key × V) := [(.inr "modes", .ref am), (.inr "registers", .ref ar), (.inr "signs", .ref as_), (.inr "rules", .ref al)]
theorem sk_modes (am ar as_ al : Addr) : valV (specK am ar as_ al) (.inr "modes") = some (.ref am) := by kernel_rfl
theorem sk_registers (am ar as_ al : Addr) : valV (specK am ar as_ al) (.inr "registers") = some (.ref ar) := by kernel_rfl
theorem sk_signs (am ar as_ al : Addr) : valV (specK am ar as_ al) (.inr "signs") = some (.ref as_) := by kernel_rfl
theorem sk_rules (am ar as_ al : Addr) : valV (specK am ar as_ al) (.inr "rules") = some (.ref al) := by kernel_rfl
/-- terms, changes with so few names -/
theorem termsOk_one {ss : List Str} {x : Str} (h : x ∈ ss) {f : Int} (f0 : -1000 ≤ f) (f1 : f ≤ 1000) : TermsOk ss [(x, f)] := ⟨by simp, by simpa using h, fun t ht => by rw [List.mem_singleton.mp ht]; exact ⟨f0, f1⟩, by simp⟩
def spLChanges : Sp := fun vs H Q _ => ∃ (b ca d am ar as_ al : Addr) (regs : List Str), vs = [.ref b, .ref d] ∧ BagAt H b ca ∧ H d = some (.dK (specK am ar as_ al)) ∧ H ar = some (.lst (regs.map V.str)) ∧ regs.Nodup ∧ regs.length ≤ 2 ∧ (∀ x ∈ regs, NameOk x) ∧
  ∀ (c : Addr) (cs : List (Str × Terms)) H', Kp H H' → BagAt H' b ca → ChangesAt H' c cs → ChangesOk regs cs → Q (.ref c) H'
theorem ok_law_changes (T : Txt K mg) : Cal P w K mg base 5 "_law_changes" spLChanges := by
  have sc : FnScope ["_law_bag_here", "_law_spec_here", "_law_names_here", "_law_kind", "_law_some", "_law_name"] ["_law_bag_here", "_law_spec_here"] (defScope s_law_changes) := ⟨rfl, rfl, rfl, by decide +kernel, rfl, by decide +kernel, by decide +kernel⟩
  refine ⟨fn_by (fd_law_changes T) sc (fun _ _ _ _ _ _ us hl => match us, hl with | [_, _], _ => rfl) ?_ fun cdv A outer s H vs Q E hr h => ?_, g_law_changes T, kp_of (fd_law_changes T)⟩
  · rintro vs H Q E ⟨b, ca, d, am, ar, as_, al, regs, rfl, _⟩; rfl
  · obtain ⟨b, ca, d, am, ar, as_, al, regs, rfl, hbag, hd, har, nd, l2, nok, k⟩ := h
    have hu := room_u hr
    obtain ⟨t5, p5, r5⟩ : ∃ t5, PSs (bX P w K mg base ["_law_bag_here", "_law_spec_here", "_law_names_here", "_law_kind", "_law_some", "_law_name"] "_law_changes" s_law_changes (He.ga K "_law_changes") cdv A outer s H E) ((defBody s_law_changes).drop 5) t5 ∧
        ∀ (l1 : Addr) (kd : Int) (zs : List Str) (H3 : Hp), H3 l1 = some (.lst (zs.map V.str)) → Kp H H3 → BagAt H3 b ca → zs.Nodup → (∀ x ∈ zs, x ∈ regs) → 0 < zs.length → zs.length ≤ 2 → t5 { nx := fun _ H' => Q .non H', rt := Q } [some (.ref b), some (.ref d), some (.ref l1), some (.int kd), none, none] H3 := by
      refine ⟨_, pss_cons (ps_if (pt_cc op_eq (pv 3) pe_int (nomark _)) (pss_one (ps_ret (pe_tup (pa_cons (pe_tup (pa_cons (pe_li (pv 2)) (pa_cons (pe_tup (pa_cons (pe_tup (pa_cons (pe_li (pv 2)) (pa_cons pe_int pa_nil))) (pa_cons (pe_tup (pa_cons pe_str (pa_cons pe_int pa_nil))) pa_nil))) pa_nil))) pa_nil)))) pss_nil)
        (pss_cons (ps_set (i := 4) sc.nd rfl (.inl rfl) (pe_slice sl_list (pv 2) po_none (po_some (pe_op op_add pe_int (pe_c ((ok_law_take T).up (by decide)) hr (pa_cons (pv 0) (pa_cons (pe_b1 cr_ln (b_len T) (pv 2)) pa_nil)))))))
        (pss_one (ps_ret (pe_t1 cr_tu (b_tuple T) (pe_lc (own := [("_law_name", 5)]) (g := gName 5) (tt := tYes) rfl sc.nd (pi_list (pv 4)) (blkOk_by (N := ["_law_bag_here", "_law_spec_here", "_law_names_here", "_law_kind", "_law_some", "_law_name"]) (sc := defScope s_law_changes) (by decide +kernel))
          (fun _ _ _ _ _ => pg_name (i := 5) sc.nd rfl (Or.inl rfl)) (fun _ _ _ _ _ => pts_nil) (fun _ _ _ _ _ => pe_tup (pa_cons (pv 5) (pa_cons (pe_c (ok_law_terms T) hr (pa_cons (pv 0) (pa_cons (pe_op op_cat (pe_dget hu (pv 1) pe_str (fun _ _ => rfl)) (pe_lst (pa_cons pe_str (pa_cons pe_str pa_nil)))) pa_nil))) pa_nil)))))))), fun l1 kd zs H3 h3 kp3 bag3 ndz zin l0 lz2 => ?_⟩
      have z0in := zin _ (List.getElem_mem l0)
      refine ⟨_, rfl, rd_eq rfl ⟨_, rfl, ?_⟩⟩
      by_cases hk3 : kd = 3
      · refine it_dec (congrArg V.int hk3) ⟨_, rfl, rd_il h3 (atI_strs l0) ⟨_, rfl, rd_il h3 (atI_strs l0) ⟨by show 2 ≤ sizeLine; decide, fun p1 hp1 => ⟨by show 2 ≤ sizeLine; decide, fun p2 hp2 => ⟨by show 2 ≤ sizeLine; decide, fun p3 hp3 => ⟨by show 2 ≤ sizeLine; decide, fun p4 hp4 => ⟨by show 1 ≤ sizeLine; decide, fun p5 hp5 => ?_⟩⟩⟩⟩⟩⟩⟩
        have a1 := same_new (.tup [V.str zs[0], V.int 1]) hp1
        have a2 := same_new (.tup [V.str "amount", V.int 1]) hp2
        have a3 := same_new (.tup [V.ref p1, V.ref p2]) hp3
        have a4 := same_new (.tup [V.str zs[0], V.ref p3]) hp4
        have a5 := same_new (.tup [V.ref p4]) hp5
        have s35 := a3.trans (a4.trans a5)
        have s4 := a1.trans (a2.trans s35)
        have z0a : zs[0] ≠ amtS := (nok _ z0in).amt
        refine k p5 [(zs[0], [(zs[0], 1), (amtS, 1)])] _ (kp3.trans (Same.kp s4)) (bag3.same s4) ⟨[p4], upd_same, .cons ⟨p3, a5 _ _ upd_same, [p1, p2], (a4.trans a5) _ _ upd_same, .cons ((a2.trans s35) _ _ upd_same) (.cons (s35 _ _ upd_same) .nil)⟩ .nil⟩ ⟨by simp, by simpa using z0in, fun c hc => ?_, by simp⟩
        rw [List.mem_singleton.mp hc]
        refine ⟨by simpa using z0a, fun t ht => ?_, fun t ht => ?_, by simp⟩
        · simp only [List.mem_cons, List.not_mem_nil, or_false] at ht
          rcases ht with rfl | rfl
          · exact List.mem_append_left _ z0in
          · simp
        · simp only [List.mem_cons, List.not_mem_nil, or_false] at ht
          rcases ht with rfl | rfl <;> exact ⟨by show (-1000 : Int) ≤ 1; decide, by show (1 : Int) ≤ 1000; decide⟩
      refine it_decF (fun z => hk3 (V.int.inj z)) ?_
      refine ⟨_, rfl, _, rfl, _, rfl, rd_lenL h3 ⟨b, ca, _, rfl, bag3, by rw [List.length_map]; omega, by rw [List.length_map]; omega, fun dd H4 d0 d1 kp4 bag4 => ⟨_, _, rfl, rfl, _, rfl, ?_⟩⟩⟩
      have h4 := kp4 _ _ h3 (bagO_strs _)
      obtain ⟨dn, rfl⟩ := Int.eq_ofNat_of_zero_le d0
      have e1 : (1 : Int) + (dn : Int) = ((1 + dn : Nat) : Int) := by omega
      refine ⟨l1, _, rfl, SqL.of h4, fun q hq => ?_⟩
      have ec : cutV (zs.map V.str) none (some ((1 : Int) + (dn : Int))) = (zs.take (1 + dn)).map V.str := by rw [e1, cut_take, List.map_take]
      rw [ec]
      have lu : (zs.take (1 + dn)).length ≤ 2 := by rw [List.length_take]; omega
      have ndu : (zs.take (1 + dn)).Nodup := ndz.sublist (List.take_sublist _ zs)
      have inu : ∀ x ∈ zs.take (1 + dn), x ∈ regs := fun x hx => zin x (List.mem_of_mem_take hx)
      generalize zs.take (1 + dn) = us at lu ndu inu
      have kp5 := Kp.new (kp3.trans kp4) (.lst (us.map V.str)) hq
      have bag5 := bag4.new (.lst (us.map V.str)) hq
      have hq' := upd_same (H := H4) (a := q) (o := .lst (us.map V.str))
      refine ⟨_, rfl, q, rfl, ⟨_, SqL.of hq'⟩, fun D hD => ?_⟩
      obtain ⟨nb1, nb2⟩ := bag5.ne hD
      refine lc_it (walk_list (xs := us.map V.str)) (fun i H6 => Kp (upd H4 q (.lst (us.map V.str))) H6 ∧ BagAt H6 b ca ∧ ∃ (cas : List Addr) (cs : List (Str × Terms)), H6 D = some (.lst (cas.map V.ref)) ∧ Paired (ChangeAt H6) cas cs ∧ cs.map (·.1) = us.take i ∧ ∀ c ∈ cs, TermsOk (regs ++ [amtS, oneS]) c.2)
        ⟨kp_new _ hD, bag5.new _ hD, [], [], upd_same, .nil, by simp, (fun _ h => nomatch h)⟩ (fun i H6 _ ⟨kp6, _⟩ => SqL.of (kp6 _ _ hq' (bagO_strs _))) ?_ ?_
      · rintro i v H6 H7 hi ⟨kp6, bag6, cas, cs, hdd, pr, e1, tok⟩ ⟨rfl, hv⟩
        obtain ⟨x, rfl, hx⟩ := strs_at hv
        rw [List.length_map] at hi
        have lts : cs.length = min i us.length := by have := congrArg List.length e1; rw [List.length_map, List.length_take] at this; exact this
        have kp06 := kp5.trans kp6
        have hd6 := kp06 _ _ hd rfl
        have har6 := kp06 _ _ har (bagO_strs _)
        refine ⟨rfl, _, rfl, _, rfl, _, rfl, d, _, rfl, getS hd6 (sk_registers _ _ _ _), by show 2 ≤ sizeLine; decide, fun m1 hm1 => ?_⟩
        have b1 := same_new (.lst [V.str "amount", V.str "one"]) hm1
        refine rd_cat (b1 _ _ har6) upd_same (by rw [List.length_map]; show regs.length + 2 ≤ 1000; omega) fun m2 hm2 => ?_
        have b2 := Same.new b1 (.lst (regs.map V.str ++ [V.str "amount", V.str "one"])) hm2
        refine ⟨b, ca, m2, regs ++ [amtS, oneS], rfl, bag6.same b2, by rw [upd_same, List.map_append]; rfl, ?_, by rw [List.length_append]; show regs.length + 2 ≤ 20; omega, fun t ts H8 kp8 bag8 tat tok8 => ⟨by show 2 ≤ sizeLine; decide, fun tp htp => ?_⟩⟩
        · refine List.nodup_append.mpr ⟨nd, by decide +kernel, fun x hx y hy e => ?_⟩
          subst e
          simp only [List.mem_cons, List.not_mem_nil, or_false] at hy
          rcases hy with rfl | rfl
          · exact (nok _ hx).amt rfl
          · exact (nok _ hx).one rfl
        have kp68 := (Same.kp b2).trans kp8
        have kp69 := Kp.new kp68 (.tup [V.str x, V.ref t]) htp
        have hd9 := kp69 _ _ hdd (bagO_refs _)
        refine ⟨_, hd9, by rw [List.length_map, pr.length]; exact small1000 (by omega), Kp.put (kp6.trans kp69) _ hD, (bag8.new _ htp).put _ nb1 nb2, cas ++ [tp], cs ++ [(x, ts)], by rw [upd_same, List.map_append]; rfl, ?_, ?_, ?_⟩
        · have tk := kp69.tk.trans (tk_put (.lst (cas.map V.ref ++ [V.ref tp])) hd9)
          refine paired_snoc (Paired.imp (fun _ _ z => ChangeAt.tk tk z) pr) ⟨t, (tk_put _ hd9) _ _ upd_same, ?_⟩
          exact tat.tk ((Same.tk (same_new _ htp)).trans (tk_put _ hd9))
        · rw [List.map_append, e1, take_snoc hx]
          rfl
        · intro c hc
          rcases List.mem_append.mp hc with z | z
          · exact tok c z
          · rw [List.mem_singleton.mp z]; exact tok8
      · rintro H6 ⟨kp6, bag6, cas, cs, hdd, pr, e1, tok⟩
        rw [List.length_map, List.take_length] at e1
        refine rd_tu hdd fun t ht => ?_
        have n1 := same_new (.tup (cas.map V.ref)) ht
        have lts : cs.length ≤ 2 := by have := congrArg List.length e1; rw [List.length_map] at this; omega
        exact k t cs _ ((kp5.trans kp6).trans (Same.kp n1)) (bag6.same n1) ⟨cas, upd_same, Paired.imp (fun _ _ => ChangeAt.tk (Same.tk n1)) pr⟩ ⟨by rw [e1]; exact ndu, fun c hc => inu _ (by rw [← e1]; exact List.mem_map.mpr ⟨c, hc, rfl⟩), tok, by omega⟩
    refine ⟨_, pss_cons (ps_set (i := 2) sc.nd rfl (.inl rfl) (pe_c ((ok_law_mixed T).up (by decide)) hr (pa_cons (pv 0) (pa_cons (pe_dget hu (pv 1) pe_str (fun _ _ => rfl)) pa_nil))))
      (pss_cons (ps_set (i := 3) sc.nd rfl (.inl rfl) (pe_c ((ok_law_take T).up (by decide)) hr (pa_cons (pv 0) (pa_cons pe_int pa_nil))))
      (pss_cons (ps_if (PW.pt (pw_or (pt_cmpR (op_eqE hr.units0) (pv 2) (pe_lst pa_nil) (nomark _)) (pw_or1 (pt_cc op_eq (pv 3) pe_int (nomark _))))) (pss_one (ps_ret (pe_tup pa_nil))) pss_nil)
      (pss_cons (ps_if (pt_cc op_eq (pv 3) pe_int (nomark _)) (pss_one (ps_ret (pe_tup (pa_cons (pe_tup (pa_cons (pe_li (pv 2)) (pa_cons (pe_tup pa_nil) pa_nil))) pa_nil)))) pss_nil)
      (pss_cons (ps_if (PW.pt (pw_and (pt_cc op_eq (pv 3) pe_int (nomark _)) (pw_and1 (pt_cmpR op_gt (pe_b1 cr_ln (b_len T) (pv 2)) pe_int (nomark _)))))
        (pss_one (ps_ret (pe_tup (pa_cons (pe_tup (pa_cons (pe_li (pv 2)) (pa_cons (pe_tup (pa_cons (pe_tup (pa_cons (pe_li (pv 2)) (pa_cons pe_int pa_nil))) pa_nil)) pa_nil)))
          (pa_cons (pe_tup (pa_cons (pe_li (pv 2)) (pa_cons (pe_tup (pa_cons (pe_tup (pa_cons (pe_li (pv 2)) (pa_cons (pe_c ((ok_law_of T).up (by decide)) hr (pa_cons (pv 0) (pa_cons (pe_lst (pa_cons pe_int (pa_cons pe_int (pa_cons (pe_un un_neg pe_int) pa_nil)))) pa_nil))) pa_nil))) pa_nil)) pa_nil))) pa_nil))))) pss_nil)
      p5)))), ?_⟩
    refine ⟨_, rfl, _, rfl, d, _, rfl, getS hd (sk_registers _ _ _ _), b, ca, ar, _, rfl, hbag, har, noBag_strs regs, by rw [List.length_map]; omega, fun l1 ys H1 _ kp1 bag1 pm1 h1 => ?_⟩
    obtain ⟨zs, pz, rfl⟩ := perm_strs pm1
    have lz : zs.length = regs.length := pz.length_eq
    have zin : ∀ x ∈ zs, x ∈ regs := fun x hx => pz.subset hx
    have ndz : zs.Nodup := pz.nodup_iff.mpr nd
    refine ⟨_, rfl, b, ca, 6, rfl, bag1, by decide, by decide, fun kd H2 k0 k1 kp2 bag2 => ?_⟩
    have h2 := kp2 _ _ h1 (bagO_strs _)
    have kp12 := kp1.trans kp2
    refine ⟨_, rfl, by show 0 ≤ sizeLine; decide, fun e0 he0 => ?_⟩
    have s0 := same_new (.lst []) he0
    have h2' := s0 _ _ h2
    have kp3 := kp12.trans (Same.kp s0)
    have bag3 := bag2.same s0
    -- an answer without names
    have ans0 : ∀ {H3 : Hp}, Same (upd H2 e0 (.lst [])) H3 → ∀ p, H3 p = none → Q (.ref p) (upd H3 p (.tup [])) := fun {H3} s3 p hp => by
      have s4 := Same.new s3 (.tup []) hp
      exact k p [] _ (kp3.trans (Same.kp s4)) (bag3.same s4) ⟨[], upd_same, .nil⟩ ⟨by simp, (fun _ h => nomatch h), (fun _ h => nomatch h), by simp⟩
    refine ⟨l1, e0, _, rfl, rfl, SqL.of h2', SqL.of upd_same, _, rfl, ?_⟩
    by_cases hz : zs = []
    · subst hz
      exact iteT ⟨by show 0 ≤ sizeLine; decide, ans0 (Same.refl _)⟩
    have hne : (zs.map V.str).isEmpty = false := by
      cases zs with
      | nil => exact absurd rfl hz
      | cons _ _ => rfl
    rw [hne]
    have l0 : 0 < zs.length := List.length_pos_iff.mpr hz
    have z0in := zin _ (List.getElem_mem l0)
    refine iteF ⟨_, rfl, rd_eq rfl ⟨_, rfl, ?_⟩⟩
    by_cases hk0 : kd = 0
    · exact it_dec (congrArg V.int hk0) ⟨by show 0 ≤ sizeLine; decide, ans0 (Same.refl _)⟩
    refine it_decF (fun z => hk0 (V.int.inj z)) ⟨_, rfl, rd_eq rfl ⟨_, rfl, ?_⟩⟩
    by_cases hk1 : kd = 1
    · refine it_dec (congrArg V.int hk1) ⟨_, rfl, rd_il h2' (atI_strs l0) ⟨by show 0 ≤ sizeLine; decide, fun p1 hp1 => ⟨by show 2 ≤ sizeLine; decide, fun p2 hp2 => ⟨by show 1 ≤ sizeLine; decide, fun p3 hp3 => ?_⟩⟩⟩⟩
      have a1 := same_new (.tup []) hp1
      have a2 := same_new (.tup [V.str zs[0], V.ref p1]) hp2
      have a3 := same_new (.tup [V.ref p2]) hp3
      have s4 := (a1.trans a2).trans a3
      refine k p3 [(zs[0], [])] _ (kp3.trans (Same.kp s4)) (bag3.same s4) ⟨[p2], upd_same, .cons ⟨p1, a3 _ _ upd_same, [], a3 _ _ (a2 _ _ upd_same), .nil⟩ .nil⟩ ⟨by simp, by simpa using z0in, fun c hc => ?_, by simp⟩
      rw [List.mem_singleton.mp hc]
      exact ⟨by simp, (fun _ h => nomatch h), (fun _ h => nomatch h), by simp⟩
    refine it_decF (fun z => hk1 (V.int.inj z)) ⟨_, rfl, rd_eq rfl ⟨_, rfl, ?_⟩⟩
    have r5' := fun (kd : Int) => r5 l1 kd zs _ h2' kp3 bag3 ndz zin l0 (by omega)
    by_cases hk2 : kd = 2
    case neg => exact it_decF (fun z => hk2 (V.int.inj z)) (iteF (r5' kd))
    case pos =>
    refine it_dec (congrArg V.int hk2) ⟨_, rfl, rd_lenL h2' ⟨_, _, rfl, rfl, _, rfl, ?_⟩⟩
    rw [List.length_map]
    by_cases hl : 1 < zs.length
    case neg => exact it_decF (by omega) (r5' kd)
    case pos =>
    have z1in := zin _ (List.getElem_mem hl)
    refine it_dec (by omega) ⟨_, rfl, rd_il h2' (atI_strs l0) ⟨_, rfl, rd_il h2' (atI_strs hl) ⟨by show 2 ≤ sizeLine; decide, fun p1 hp1 => ⟨by show 1 ≤ sizeLine; decide, fun p2 hp2 => ⟨by show 2 ≤ sizeLine; decide, fun p3 hp3 => ?_⟩⟩⟩⟩⟩
    have a1 := same_new (.tup [V.str zs[1], V.int 1]) hp1
    have a2 := same_new (.tup [V.ref p1]) hp2
    have a3 := same_new (.tup [V.str zs[0], V.ref p2]) hp3
    have a13 := a1.trans (a2.trans a3)
    refine ⟨_, rfl, rd_il (a13 _ _ h2') (atI_strs hl) ⟨_, rfl, rd_il (a13 _ _ h2') (atI_strs l0) ⟨_, rfl, _, rfl, by show 3 ≤ sizeLine; decide, fun l4 hl4 => ?_⟩⟩⟩
    refine ⟨b, ca, (bag3.same a13).new _ hl4, .inl ⟨l4, _, rfl, upd_same, rfl, by show 0 < 3; decide, by show 3 ≤ 1000; decide, fun v H4 hv kp4 bag4 => ?_⟩⟩
    obtain ⟨f, rfl, f0, f1⟩ : ∃ f : Int, v = .int f ∧ -1000 ≤ f ∧ f ≤ 1000 := by
      have hv2 : v ∈ ([1, 1, -1] : List Int).map V.int := hv
      obtain ⟨x, hx, rfl⟩ := List.mem_map.mp hv2
      simp only [List.mem_cons, List.not_mem_nil, or_false] at hx
      exact ⟨x, rfl, by omega, by omega⟩
    have kq := Kp.trans (kp_new (.lst [V.int 1, V.int 1, V.int (-1)]) hl4) kp4
    refine ⟨by show 2 ≤ sizeLine; decide, fun p4 hp4 => ⟨by show 1 ≤ sizeLine; decide, fun p5 hp5 => ⟨by show 2 ≤ sizeLine; decide, fun p6 hp6 => ⟨by show 2 ≤ sizeLine; decide, fun p7 hp7 => ?_⟩⟩⟩⟩
    have c1 := same_new (.tup [V.str zs[0], V.int f]) hp4
    have c2 := same_new (.tup [V.ref p4]) hp5
    have c3 := same_new (.tup [V.str zs[1], V.ref p5]) hp6
    have c4 := same_new (.tup [V.ref p3, V.ref p6]) hp7
    have c34 := c3.trans c4
    have c24 := c2.trans c34
    have c14 := c1.trans c24
    have kall := kq.trans (Same.kp c14)
    have ne01 : zs[0] ≠ zs[1] := fun e => by
      have := nodup_inj ndz l0 hl e
      omega
    refine k p7 [(zs[0], [(zs[1], 1)]), (zs[1], [(zs[0], f)])] _ ((kp3.trans (Same.kp a13)).trans kall) (bag4.same c14) ⟨[p3, p6], upd_same, .cons ⟨p2, kall _ _ upd_same rfl, [p1], kall _ _ (a3 _ _ upd_same) rfl, .cons (kall _ _ ((a2.trans a3) _ _ upd_same) rfl) .nil⟩
      (.cons ⟨p5, c4 _ _ upd_same, [p4], c34 _ _ upd_same, .cons (c24 _ _ upd_same) .nil⟩ .nil)⟩ ⟨by simpa using ne01, fun c hc => ?_, fun c hc => ?_, by simp⟩
    · simp only [List.mem_cons, List.not_mem_nil, or_false] at hc
      rcases hc with rfl | rfl
      · exact z0in
      · exact z1in
    · simp only [List.mem_cons, List.not_mem_nil, or_false] at hc
      rcases hc with rfl | rfl
      · exact termsOk_one (List.mem_append_left _ z1in) (by decide) (by decide)
      · exact termsOk_one (List.mem_append_left _ z0in) f0 f1
end
end Tw
end

section
set_option Elab.async false
set_option linter.all false
set_option maxRecDepth 100000
set_option maxHeartbeats 4000000
/-! Drawn programs. -/
namespace Tw
open PySem PySem.Spec PyProof.Rows L2
/-- nothing but a bag may stand there -/
def Fr (H : Hp) (p : Addr) : Prop := ∀ o, H p = some o → bagO o = true
theorem Fr.of {H H1 : Hp} {p : Addr} (k : Kp H H1) (h : H1 p = none) : Fr H p := fun o e => by
  cases q : bagO o with
  | true => rfl
  | false => have := k _ _ e q; rw [h] at this; cases this
theorem Fr.back {H H1 : Hp} {p : Addr} (k : Kp H H1) (f : Fr H1 p) : Fr H p := fun o e => by
  cases q : bagO o with
  | true => rfl
  | false => have := f o (k _ _ e q); rw [q] at this; exact this
theorem Kp.putF {H H1 : Hp} {p : Addr} (a : Kp H H1) (o : HO) (h : Fr H p) : Kp H (upd H1 p o) := fun b u e q => by
  by_cases z : b = p
  · subst z
    rw [h u e] at q
    cases q
  · rw [upd_ne z]; exact a b u e q
theorem kp_hide {H H6 : Hp} {al : Addr} (k : Kp H H6) (f : Fr H al) : Kp H (hide al H6) := fun a o e q => by
  by_cases z : a = al
  · subst z
    rw [f o e] at q
    cases q
  · exact hide_at (k _ _ e q) z
structure SpecAt (H : Hp) (d : Addr) (sp : TwM.Spec Str) : Prop where
  ex : ∃ (am ar as_ al : Addr) (ra : List Addr), H d = some (.dK (specK am ar as_ al)) ∧ H am = some (.lst (sp.modes.map V.str)) ∧ H ar = some (.lst (sp.registers.map V.str)) ∧ H as_ = some (.lst (sp.signs.map V.str)) ∧ H al = some (.lst (ra.map V.ref)) ∧ Paired (RuleAt H) ra sp.rules
  ok : SpecOk sp
theorem SpecAt.kp {H H' : Hp} {d : Addr} {sp : TwM.Spec Str} (h : SpecAt H d sp) (k : Kp H H') : SpecAt H' d sp := by
  obtain ⟨⟨am, ar, as_, al, ra, h1, h2, h3, h4, h5, h6⟩, ok⟩ := h
  exact ⟨⟨am, ar, as_, al, ra, k _ _ h1 rfl, k _ _ h2 (bagO_strs _), k _ _ h3 (bagO_strs _), k _ _ h4 (bagO_strs _), k _ _ h5 (bagO_refs _), Paired.imp (fun _ _ => RuleAt.tk k.tk) h6⟩, ok⟩
theorem paired_perm {α β : Type} {F : α → β → Prop} {zs as : List α} (h : zs.Perm as) : ∀ {bs : List β}, Paired F as bs → ∃ cs : List β, cs.Perm bs ∧ Paired F zs cs := by
  induction h with
  | nil => intro bs p; cases p; exact ⟨[], List.Perm.refl _, .nil⟩
  | cons x _ ih =>
    intro bs p
    cases p with
    | cons q t =>
      obtain ⟨cs, c1, c2⟩ := ih t
      exact ⟨_, c1.cons _, .cons q c2⟩
  | swap x y l =>
    intro bs p
    cases p with
    | cons q t =>
      cases t with
      | cons q2 t2 => exact ⟨_, List.Perm.swap _ _ _, .cons q2 (.cons q t2)⟩
  | trans _ _ ih1 ih2 =>
    intro bs p
    obtain ⟨cs, c1, c2⟩ := ih2 p
    obtain ⟨ds, d1, d2⟩ := ih1 c2
    exact ⟨ds, d1.trans c1, d2⟩
/-- the cut of a list by a number -/
theorem rd_cut {K : PySem.W.Frag} {H : Hp} {Q : VK} {a : Addr} {xs : List V} {i : Int} {n : Nat} (h : H a = some (.lst xs)) (e : i = (n : Int)) (q : ∀ p, H p = none → Q (.ref p) (upd H p (.lst (xs.take n)))) : rSlL K (.ref a) none (some i) H Q :=
  ⟨a, xs, rfl, SqL.of h, fun p hp => by rw [e, cut_take]; exact q p hp⟩
theorem sk_len1 (am ar : Addr) : (mergeK [] [(.inr "modes", .ref am), (.inr "registers", .ref ar)]).length ≤ 1000 := Nat.le_trans (length_mergeK _ []) (by show 0 + 2 ≤ 1000; decide)
theorem sk_len2 (am ar : Addr) (x : V) : (putK (mergeK [] [(.inr "modes", .ref am), (.inr "registers", .ref ar)]) (.inr "signs") x).length ≤ 1000 := by
  have h1 : (mergeK [] [(.inr "modes", .ref am), (.inr "registers", .ref ar)]).length ≤ 0 + 2 := length_mergeK [(.inr "modes", .ref am), (.inr "registers", .ref ar)] []
  have h2 := length_putK (mergeK [] [(.inr "modes", .ref am), (.inr "registers", .ref ar)]) (.inr "signs") x
  omega
theorem sk_len (am ar as_ al : Addr) : (specK am ar as_ al).length ≤ 1000 := by show 4 ≤ 1000; decide
theorem sk_two (am ar : Addr) (x y : V) : putK (putK (mergeK [] [(.inr "modes", .ref am), (.inr "registers", .ref ar)]) (.inr "signs") x) (.inr "rules") y = [(.inr "modes", .ref am), (.inr "registers", .ref ar), (.inr "signs", x), (.inr "rules", y)] := by kernel_rfl
theorem sk_put (am ar as_ al al' : Addr) : putK (specK am ar as_ al) (.inr "rules") (.ref al') = specK am ar as_ al' := by kernel_rfl
theorem sk_puts (am ar as_ al as' : Addr) : putK (specK am ar as_ al) (.inr "signs") (.ref as') = specK am ar as' al := by kernel_rfl
section
variable {P : Program} {w : World} {K : PySem.W.Frag} {mg : Str → Option Value} {base : Heap}
abbrev nSpec : List Str := ["_law_bag_here", "_law_most_width", "_law_most_signs", "_law_size", "_law_many", "_law_names_here", "_law_spec_here", "_law_mode", "_law_sign", "_law_changes_here"]
def spLSpec : Sp := fun vs H Q _ => ∃ b ca, vs = [.ref b, .int 3, .int 2] ∧ BagAt H b ca ∧ ∀ d sp H', Kp H H' → BagAt H' b ca → SpecAt H' d sp → Fr H d → Q (.ref d) H'
theorem ok_law_spec (T : Txt K mg) : Cal P w K mg base 6 "_law_spec" spLSpec := by
  have sc : FnScope nSpec ["_law_bag_here", "_law_most_width", "_law_most_signs"] (defScope s_law_spec) := ⟨rfl, rfl, rfl, by decide +kernel, rfl, by decide +kernel, by decide +kernel⟩
  refine ⟨fn_by (fd_law_spec T) sc (fun _ _ _ _ _ _ us hl => match us, hl with | [_, _, _], _ => rfl) ?_ fun cdv A outer s H vs Q E hr h => ?_, g_law_spec T, kp_of (fd_law_spec T)⟩
  · rintro vs H Q E ⟨b, ca, rfl, _⟩; rfl
  · obtain ⟨b, ca, rfl, hbag, k⟩ := h
    have hu := room_u hr
    refine ⟨_, pss_cons (ps_set (i := 3) sc.nd rfl (.inl rfl) (pe_op op_add pe_int (pe_c ((ok_law_take T).up (by decide)) hr (pa_cons (pv 0) (pa_cons (pe_b2 (call_min2 rfl) (b_min T) pe_int (pv 1)) pa_nil)))))
      (pss_cons (ps_set (i := 4) sc.nd rfl (.inl rfl) (pe_op op_add pe_int (pe_c ((ok_law_take T).up (by decide)) hr (pa_cons (pv 0) (pa_cons (pe_b2 (call_min2 rfl) (b_min T) pe_int (pe_op op_fdiv (pv 1) (pv 3))) pa_nil)))))
      (pss_cons (ps_set (i := 5) sc.nd rfl (.inl rfl) (pe_c ((ok_law_names T).up (by decide)) hr (pa_cons (pv 0) (pa_cons pe_int pa_nil))))
      (pss_cons (ps_set (i := 6) sc.nd rfl (.inl rfl) (pe_disp (pps_cons pe_str (pe_slice sl_list (pv 5) po_none (po_some (pv 4))) (pps_cons pe_str (pe_slice sl_list (pe_c ((ok_law_mixed T).up (by decide)) hr (pa_cons (pv 0) (pa_cons (pv 5) pa_nil))) po_none (po_some (pe_op op_sub (pv 3) pe_int))) pps_nil)) rfl rfl (by simp) (by decide)))
      (pss_cons (ps_dput hu (pv 6) pe_str (pe_slice sl_list (pe_c ((ok_law_mixed T).up (by decide)) hr (pa_cons (pv 0) (pa_cons (pv 5) pa_nil))) po_none (po_some (pe_op op_add pe_int (pe_c ((ok_law_take T).up (by decide)) hr (pa_cons (pv 0) (pa_cons (pv 2) pa_nil)))))) rfl)
      (pss_cons (ps_dput hu (pv 6) pe_str (pe_lst pa_nil) rfl)
      (pss_cons (ps_for PassesOwn.never rfl (pi_list (pe_dget hu (pv 6) pe_str (fun _ _ => rfl))) (pg_name (i := 7) sc.nd rfl (.inl rfl))
        (pss_one (ps_for PassesOwn.never rfl (pi_list (pe_dget hu (pv 6) pe_str (fun _ _ => rfl))) (pg_name (i := 8) sc.nd rfl (.inl rfl))
          (pss_one (ps_if (pt_cc op_gt (pe_c ((ok_law_take T).up (by decide)) hr (pa_cons (pv 0) (pa_cons pe_int pa_nil))) pe_int (nomark _))
            (pss_cons (ps_set (i := 9) sc.nd rfl (.inl rfl) (pe_c (ok_law_changes T) hr (pa_cons (pv 0) (pa_cons (pv 6) pa_nil))))
            (pss_one (ps_expr (pe_bm PySem.F.plainAttrs_list PySem.F.slot_list_append PySem.F.type_list_append mt_append (pe_dget hu (pv 6) pe_str (fun _ _ => rfl)) (pa_cons (pe_tup (pa_cons (pv 7) (pa_cons (pv 8) (pa_cons (pe_c ((ok_law_of T).up (by decide)) hr (pa_cons (pv 0) (pa_cons (pe_dget hu (pv 6) pe_str (fun _ _ => rfl)) pa_nil))) (pa_cons (pv 9) pa_nil))))) pa_nil))))) pss_nil)))))
      (pss_cons (ps_dput hu (pv 6) pe_str (pe_c ((ok_law_mixed T).up (by decide)) hr (pa_cons (pv 0) (pa_cons (pe_dget hu (pv 6) pe_str (fun _ _ => rfl)) pa_nil))) rfl)
      (pss_one (ps_ret (pv 6)))))))))), ?_⟩
    have e53 : (if (3 : Int) < 5 then (3 : Int) else 5) = 3 := by decide
    refine ⟨_, rfl, _, rfl, 5, 3, rfl, b, ca, _, rfl, hbag, by decide, by decide, fun d1 H1 d10 d11 kp1 bag1 => ⟨_, _, rfl, rfl, ?_⟩⟩
    rw [e53] at d11
    obtain ⟨n1, rfl⟩ := Int.eq_ofNat_of_zero_le d10
    have hn1 : n1 < 3 := by omega
    obtain ⟨qn, eq_, q1, q2, q3⟩ : ∃ qn : Nat, (3 : Int) / (1 + (n1 : Int)) = (qn : Nat) ∧ 1 ≤ qn ∧ qn ≤ 3 ∧ qn * (1 + n1) ≤ 3 := by
      match n1, hn1 with
      | 0, _ => exact ⟨3, by decide, by decide, by decide, by decide⟩
      | 1, _ => exact ⟨1, by decide, by decide, by decide, by decide⟩
      | 2, _ => exact ⟨1, by decide, by decide, by decide, by decide⟩
    refine ⟨_, rfl, _, rfl, _, rfl, _, _, rfl, rfl, ⟨by omega, by omega⟩, 4, _, rfl, ?_⟩
    have e4 : (if (3 : Int) / (1 + (n1 : Int)) < 4 then (3 : Int) / (1 + (n1 : Int)) else 4) = (qn : Nat) := by rw [eq_, if_pos (by omega)]
    rw [e4]
    refine ⟨b, ca, _, rfl, bag1, by omega, by omega, fun d2 H2 d20 d21 kp2 bag2 => ⟨_, _, rfl, rfl, ?_⟩⟩
    obtain ⟨n2, rfl⟩ := Int.eq_ofNat_of_zero_le d20
    have hn2 : n2 < qn := by omega
    have hwide : (1 + n2) * (1 + n1) ≤ 3 := Nat.le_trans (Nat.mul_le_mul_right _ (by omega)) q3
    refine ⟨_, rfl, b, ca, rfl, bag2, fun ln ss H3 kp3 bag3 hln l12 nds noks => ?_⟩
    have kp03 := (kp1.trans kp2).trans kp3
    -- the dict
    intro dd hdd
    have frd : Fr H dd := Fr.of kp03 hdd
    have s4 := same_new (.dK []) hdd
    refine pairs2 ⟨_, rfl, _, rfl, _, rfl, rd_cut (n := 1 + n2) (s4 _ _ hln) (by omega) fun am ham => ?_⟩
    rw [← List.map_take]
    have s5 := Same.new s4 (.lst ((ss.take (1 + n2)).map V.str)) ham
    refine ⟨_, rfl, _, rfl, b, ca, ln, _, rfl, bag3.same s5, s5 _ _ hln, noBag_strs ss, by rw [List.length_map]; omega, fun l5 ys5 H5 _ kp5 bag5 pm5 h5 => ?_⟩
    obtain ⟨zs5, pz5, rfl⟩ := perm_strs pm5
    refine ⟨_, rfl, _, _, rfl, rfl, _, rfl, rd_cut (n := n1) h5 (by omega) fun ar har => ?_⟩
    rw [← List.map_take]
    have t6 := same_new (.lst ((zs5.take n1).map V.str)) har
    have kp36 := ((Same.kp s5).trans kp5).trans (Same.kp t6)
    have hdd6 := (kp5.trans (Same.kp t6)) _ _ ((same_new (.lst ((ss.take (1 + n2)).map V.str)) ham) _ _ (upd_same (H := H3) (a := dd) (o := .dK []))) rfl
    have ham6 := (kp5.trans (Same.kp t6)) _ _ (upd_same (H := upd H3 dd (.dK [])) (a := am) (o := .lst ((ss.take (1 + n2)).map V.str))) (bagO_strs _)
    have har6 := upd_same (H := H5) (a := ar) (o := .lst ((zs5.take n1).map V.str))
    refine ⟨hdd6, [(.inr "modes", .ref am), (.inr "registers", .ref ar)], rfl, by simp, ?_⟩
    have bag6 := bag5.same t6
    generalize upd H5 ar (.lst ((zs5.take n1).map V.str)) = H6 at kp36 hdd6 ham6 har6 bag6
    have ddam : am ≠ dd := at_ne ham6 hdd6 (fun z => nomatch z)
    have ddar : ar ≠ dd := at_ne har6 hdd6 (fun z => nomatch z)
    have kp06 := Kp.putF (kp03.trans kp36) (.dK (mergeK [] [(.inr "modes", .ref am), (.inr "registers", .ref ar)])) frd
    have bag7 : BagAt (upd H6 dd (.dK (mergeK [] [(.inr "modes", .ref am), (.inr "registers", .ref ar)]))) b ca := by
      obtain ⟨cs, i1, i2, i3, i4, g1, g2⟩ := id bag6
      exact bag6.put _ (at_ne g1 hdd6 (fun z => nomatch z)) (at_ne g2 hdd6 (fun z => nomatch z))
    have hln7 : (upd H6 dd (.dK (mergeK [] [(.inr "modes", .ref am), (.inr "registers", .ref ar)]))) ln = some (.lst (ss.map V.str)) := by
      have h := kp36 _ _ hln (bagO_strs _)
      rw [upd_ne (at_ne h hdd6 (fun z => nomatch z))]; exact h
    have hd7 := upd_same (H := H6) (a := dd) (o := .dK (mergeK [] [(.inr "modes", .ref am), (.inr "registers", .ref ar)]))
    have ham7 : (upd H6 dd (.dK (mergeK [] [(.inr "modes", .ref am), (.inr "registers", .ref ar)]))) am = some (.lst ((ss.take (1 + n2)).map V.str)) := by rw [upd_ne ddam]; exact ham6
    have har7 : (upd H6 dd (.dK (mergeK [] [(.inr "modes", .ref am), (.inr "registers", .ref ar)]))) ar = some (.lst ((zs5.take n1).map V.str)) := by rw [upd_ne ddar]; exact har6
    generalize upd H6 dd (.dK (mergeK [] [(.inr "modes", .ref am), (.inr "registers", .ref ar)])) = H7 at kp06 bag7 hln7 hd7 ham7 har7
    -- the signs
    refine ⟨_, rfl, _, rfl, b, ca, ln, _, rfl, bag7, hln7, noBag_strs ss, by rw [List.length_map]; omega, fun l8 ys8 H8 _ kp8 bag8 pm8 h8 => ?_⟩
    obtain ⟨zs8, pz8, rfl⟩ := perm_strs pm8
    refine ⟨_, rfl, _, rfl, b, ca, 2, rfl, bag8, by decide, by decide, fun d9 H9 d90 d91 kp9 bag9 => ⟨_, _, rfl, rfl, _, rfl, ?_⟩⟩
    obtain ⟨n3, rfl⟩ := Int.eq_ofNat_of_zero_le d90
    refine rd_cut (n := 1 + n3) (kp9 _ _ h8 (bagO_strs _)) (by omega) fun as_ has => ?_
    rw [← List.map_take]
    have t10 := same_new (.lst ((zs8.take (1 + n3)).map V.str)) has
    have kp710 := (kp8.trans kp9).trans (Same.kp t10)
    have hd10 := kp710 _ _ hd7 rfl
    refine ⟨_, rfl, dd, _, rfl, putS hd10 (sk_len1 _ _), ?_⟩
    -- the rules, none yet
    have has10 := upd_same (H := H9) (a := as_) (o := .lst ((zs8.take (1 + n3)).map V.str))
    have ham10 := kp710 _ _ ham7 (bagO_strs _)
    have har10 := kp710 _ _ har7 (bagO_strs _)
    have bag10 := bag9.same t10
    generalize upd H9 as_ (.lst ((zs8.take (1 + n3)).map V.str)) = H10 at kp710 hd10 has10 ham10 har10 bag10
    have kp011 := Kp.putF (kp06.trans kp710) (.dK (putK (mergeK [] [(.inr "modes", .ref am), (.inr "registers", .ref ar)]) (.inr "signs") (.ref as_))) frd
    refine ⟨by show 0 ≤ sizeLine; decide, fun al hal => ?_⟩
    have fral : Fr H al := Fr.of kp011 hal
    have t12 := same_new (.lst []) hal
    have hd11 := upd_same (H := H10) (a := dd) (o := .dK (putK (mergeK [] [(.inr "modes", .ref am), (.inr "registers", .ref ar)]) (.inr "signs") (.ref as_)))
    have hd12 := t12 _ _ hd11
    refine ⟨_, rfl, dd, _, rfl, putS hd12 (sk_len2 _ _ _), ?_⟩
    rw [show putK (putK (mergeK [] [(.inr "modes", .ref am), (.inr "registers", .ref ar)]) (.inr "signs") (.ref as_)) (.inr "rules") (.ref al) = specK am ar as_ al from sk_two _ _ _ _]
    have dal : al ≠ dd := fresh_ne hal hd11
    have noteq : ∀ {a : Addr} {xs : List V}, H10 a = some (.lst xs) → a ≠ dd ∧ a ≠ al := fun {a xs} h => by
      have n := at_ne h hd10 (fun z => nomatch z)
      refine ⟨n, fun e => ?_⟩
      have : (upd H10 dd (.dK (putK (mergeK [] [(.inr "modes", .ref am), (.inr "registers", .ref ar)]) (.inr "signs") (.ref as_)))) a = some (.lst xs) := by rw [upd_ne n]; exact h
      exact fresh_ne hal this e.symm
    have at13 : ∀ {a : Addr} {xs : List V}, H10 a = some (.lst xs) → (upd (upd (upd H10 dd (.dK (putK (mergeK [] [(.inr "modes", .ref am), (.inr "registers", .ref ar)]) (.inr "signs") (.ref as_)))) al (.lst [])) dd (.dK (specK am ar as_ al))) a = some (.lst xs) := fun h => by
      obtain ⟨g1, g2⟩ := noteq h
      rw [upd_ne g1, upd_ne g2, upd_ne g1]; exact h
    have kp013 := Kp.putF (kp011.trans (Same.kp t12)) (.dK (specK am ar as_ al)) frd
    have hd13 := upd_same (H := upd (upd H10 dd (.dK (putK (mergeK [] [(.inr "modes", .ref am), (.inr "registers", .ref ar)]) (.inr "signs") (.ref as_)))) al (.lst [])) (a := dd) (o := .dK (specK am ar as_ al))
    have ham13 := at13 ham10
    have har13 := at13 har10
    have has13 := at13 has10
    have hal13 : (upd (upd (upd H10 dd (.dK (putK (mergeK [] [(.inr "modes", .ref am), (.inr "registers", .ref ar)]) (.inr "signs") (.ref as_)))) al (.lst [])) dd (.dK (specK am ar as_ al))) al = some (.lst []) := by rw [upd_ne dal, upd_same]
    obtain ⟨nb1, nb2⟩ : b ≠ al ∧ ca ≠ al := by
      obtain ⟨cs, i1, i2, i3, i4, g1, g2⟩ := id bag10
      exact ⟨(noteq g1).2, (noteq g2).2⟩
    have bag13 : BagAt (upd (upd (upd H10 dd (.dK (putK (mergeK [] [(.inr "modes", .ref am), (.inr "registers", .ref ar)]) (.inr "signs") (.ref as_)))) al (.lst [])) dd (.dK (specK am ar as_ al))) b ca := by
      obtain ⟨cs, i1, i2, i3, i4, g1, g2⟩ := id bag10
      exact ⟨cs, i1, i2, i3, i4, at13 g1, at13 g2⟩
    have ama : am ≠ al := (noteq ham10).2
    have ara : ar ≠ al := (noteq har10).2
    have asa : as_ ≠ al := (noteq has10).2
    generalize (upd (upd (upd H10 dd (.dK (putK (mergeK [] [(.inr "modes", .ref am), (.inr "registers", .ref ar)]) (.inr "signs") (.ref as_)))) al (.lst [])) dd (.dK (specK am ar as_ al))) = H13 at kp013 hd13 ham13 har13 has13 hal13 bag13
    -- the base of the rules
    have kpG := kp_hide kp013 fral
    have Gal := hide_none (x := al) (H := H13)
    have Gd := hide_at hd13 (Ne.symm dal)
    have Gam := hide_at ham13 ama
    have Gar := hide_at har13 ara
    have Gas := hide_at has13 asa
    have kG13 := Same.kp (hide_same (x := al) (H := H13))
    generalize hide al H13 = G at kpG Gal Gd Gam Gar Gas kG13
    have lm : (ss.take (1 + n2)).length = 1 + n2 := by rw [List.length_take]; omega
    have lr : (zs5.take n1).length = n1 := by rw [List.length_take, pz5.length_eq]; omega
    have lsg : (zs8.take (1 + n3)).length = 1 + n3 := by rw [List.length_take, pz8.length_eq]; omega
    have mnd : (ss.take (1 + n2)).Nodup := nds.sublist (List.take_sublist _ ss)
    have rnd : (zs5.take n1).Nodup := (pz5.nodup_iff.mpr nds).sublist (List.take_sublist _ zs5)
    have snd : (zs8.take (1 + n3)).Nodup := (pz8.nodup_iff.mpr nds).sublist (List.take_sublist _ zs8)
    have mok : ∀ x ∈ ss.take (1 + n2), NameOk x := fun x hx => noks x (List.mem_of_mem_take hx)
    have rok : ∀ x ∈ zs5.take n1, NameOk x := fun x hx => noks x (pz5.subset (List.mem_of_mem_take hx))
    have sok : ∀ x ∈ zs8.take (1 + n3), NameOk x := fun x hx => noks x (pz8.subset (List.mem_of_mem_take hx))
    generalize ss.take (1 + n2) = ms at Gam lm mnd mok
    generalize zs5.take n1 = rg at Gar lr rnd rok
    generalize zs8.take (1 + n3) = sg at Gas lsg snd sok
    have ms0 : 0 < ms.length := by omega
    refine ⟨_, rfl, dd, _, rfl, getS hd13 (sk_modes _ _ _ _), am, rfl, ⟨_, SqL.of (kG13 _ _ Gam (bagO_strs _))⟩, for_it (walk_list (xs := ms.map V.str)) (fun i σ H2 => ∃ v7 v8 v9, σ = [some (.ref b), some (.int 3), some (.int 2), some (.int (1 + (n1 : Int))), some (.int (1 + (n2 : Int))), some (.ref ln), some (.ref dd), v7, v8, v9] ∧ Kp G H2 ∧ BagAt H2 b ca ∧
        ∃ (ra : List Addr) (rs : List (TwM.Rule Str)), H2 al = some (.lst (ra.map V.ref)) ∧ Paired (RuleAt H2) ra rs ∧ (∀ r ∈ rs, RuleOk ⟨ms, rg, sg, []⟩ r) ∧ (rs.map fun r => (r.mode, r.sign)).Nodup ∧ rs.length ≤ 2 * i ∧ ∀ r ∈ rs, r.mode ∈ ms.take i)
        ⟨_, _, _, rfl, kG13, bag13, [], [], hal13, .nil, (fun _ h => nomatch h), by simp, by simp, (fun _ h => nomatch h)⟩ (fun i σ H2 _ ⟨_, _, _, _, kp, _⟩ => SqL.of (kp _ _ Gam (bagO_strs _))) ?_ ?_⟩
    · rintro i y σ H2 H2' hi ⟨v7, v8, v9, rfl, kp, bag, ra, rs, hra, rat, rk, nd, len, inm⟩ ⟨rfl, hy⟩
      obtain ⟨m, rfl, hm⟩ := strs_at hy
      have mm := List.mem_of_getElem? hm
      refine ⟨_, rfl, dd, _, rfl, getS (kp _ _ Gd rfl) (sk_signs _ _ _ _), as_, rfl, ⟨_, SqL.of (kp _ _ Gas (bagO_strs _))⟩, for_it (walk_list (xs := sg.map V.str)) (fun j σ H3 => ∃ v8 v9, σ = [some (.ref b), some (.int 3), some (.int 2), some (.int (1 + (n1 : Int))), some (.int (1 + (n2 : Int))), some (.ref ln), some (.ref dd), some (.str m), v8, v9] ∧ Kp G H3 ∧ BagAt H3 b ca ∧
        ∃ (ra : List Addr) (rs : List (TwM.Rule Str)), H3 al = some (.lst (ra.map V.ref)) ∧ Paired (RuleAt H3) ra rs ∧ (∀ r ∈ rs, RuleOk ⟨ms, rg, sg, []⟩ r) ∧ (rs.map fun r => (r.mode, r.sign)).Nodup ∧ rs.length ≤ 2 * i + j ∧ ∀ r ∈ rs, r.mode ∈ ms.take i ∨ (r.mode = m ∧ r.sign ∈ sg.take j))
        ⟨_, _, rfl, kp, bag, ra, rs, hra, rat, rk, nd, len, fun r hr => .inl (inm r hr)⟩ (fun j σ H3 _ ⟨_, _, _, kp, _⟩ => SqL.of (kp _ _ Gas (bagO_strs _))) ?_ ?_⟩
      · rintro j y σ H3 H3' hj ⟨v8, v9, rfl, kp, bag, ra, rs, hra, rat, rk, nd, len, inm⟩ ⟨rfl, hy⟩
        obtain ⟨sn, rfl, hsn⟩ := strs_at hy
        have msn := List.mem_of_getElem? hsn
        rw [List.length_map] at hi hj
        refine ⟨_, rfl, b, ca, 5, rfl, bag, by decide, by decide, fun tk_ H4 t0 t1 kp4 bag4 => ⟨_, _, rfl, rfl, _, rfl, ?_⟩⟩
        have kpG4 := kp.trans kp4
        have hra4 := kp4 _ _ hra (bagO_refs _)
        by_cases ht : 0 < tk_
        case neg =>
          exact it_decF ht ⟨_, _, rfl, kpG4, bag4, ra, rs, hra4, Paired.imp (fun _ _ => RuleAt.tk kp4.tk) rat, rk, nd, by omega, fun r hr => (inm r hr).imp id fun z => ⟨z.1, by rw [take_snoc hsn]; exact List.mem_append_left _ z.2⟩⟩
        case pos =>
        refine it_dec ht ⟨_, rfl, _, rfl, b, ca, dd, am, ar, as_, al, rg, rfl, bag4, kpG4 _ _ Gd rfl, kpG4 _ _ Gar (bagO_strs _), rnd, by omega, rok, fun c cs H5 kp5 bag5 hcs hok => ?_⟩
        have kpG5 := kpG4.trans kp5
        have hra5 := kp5 _ _ hra4 (bagO_refs _)
        refine ⟨_, rfl, dd, _, rfl, getS (kpG5 _ _ Gd rfl) (sk_rules _ _ _ _), .inl ⟨rfl, _, SqL.of hra5⟩, _, rfl, _, rfl, _, rfl, _, rfl, dd, _, rfl, getS (kpG5 _ _ Gd rfl) (sk_modes _ _ _ _), ?_⟩
        refine ⟨b, ca, bag5, .inl ⟨am, _, rfl, kpG5 _ _ Gam (bagO_strs _), bagO_strs _, by rw [List.length_map]; exact ms0, by rw [List.length_map]; omega, fun v H6 hv kp6 bag6 => ?_⟩⟩
        obtain ⟨gl, hgl, rfl⟩ := List.mem_map.mp hv
        refine ⟨_, rfl, by show 4 ≤ sizeLine; decide, fun rt hrt => ?_⟩
        have n7 := same_new (.tup [V.str m, V.str sn, V.str gl, V.ref c]) hrt
        have kp57 := kp6.trans (Same.kp n7)
        have kpG7 := kpG5.trans kp57
        have hra7 := kp57 _ _ hra5 (bagO_refs _)
        refine ⟨al, _, _, rfl, rfl, hra7, by rw [List.length_map, rat.length]; exact small1000 (by omega), ?_⟩
        have tkp := tk_put (.lst (ra.map V.ref ++ [V.ref rt])) hra7
        have tk37 := (kp4.trans (kp5.trans kp57)).tk.trans tkp
        refine ⟨_, _, rfl, Kp.put kpG7 _ Gal, (bag6.same n7).put _ nb1 nb2, ra ++ [rt], rs ++ [⟨m, sn, gl, cs⟩], by rw [upd_same, List.map_append]; rfl, ?_, ?_, ?_, ?_, ?_⟩
        · exact paired_snoc (Paired.imp (fun _ _ => RuleAt.tk tk37) rat) ⟨c, tkp _ _ upd_same, hcs.tk (kp57.tk.trans tkp)⟩
        · intro r hr
          rcases List.mem_append.mp hr with z | z
          · exact rk r z
          · rw [List.mem_singleton.mp z]
            exact ⟨mm, msn, hgl, hok⟩
        · rw [List.map_append]
          refine List.nodup_append.mpr ⟨nd, by simp, fun x hx y hy e => ?_⟩
          obtain ⟨r, hr, rfl⟩ := List.mem_map.mp hx
          have hy2 : y = (m, sn) := by simpa using hy
          rw [hy2] at e
          have e1 : r.mode = m := congrArg Prod.fst e
          have e2 : r.sign = sn := congrArg Prod.snd e
          have h1 : m ∉ ms.take i := by
            have := nodup_at (f := id) (xs := ms) (by rw [List.map_id]; exact mnd) hm
            rwa [List.map_id] at this
          have h2 : sn ∉ sg.take j := by
            have := nodup_at (f := id) (xs := sg) (by rw [List.map_id]; exact snd) hsn
            rwa [List.map_id] at this
          rcases inm r hr with z | z
          · exact h1 (e1 ▸ z)
          · exact h2 (e2 ▸ z.2)
        · rw [List.length_append]; show rs.length + 1 ≤ _; omega
        · intro r hr
          rcases List.mem_append.mp hr with z | z
          · exact (inm r z).imp id fun z => ⟨z.1, by rw [take_snoc hsn]; exact List.mem_append_left _ z.2⟩
          · rw [List.mem_singleton.mp z]
            exact .inr ⟨rfl, by rw [take_snoc hsn]; simp⟩
      · rintro σ H3 ⟨v8, v9, rfl, kp, bag, ra, rs, hra, rat, rk, nd, len, inm⟩
        rw [List.length_map] at len
        refine ⟨_, _, _, rfl, kp, bag, ra, rs, hra, rat, rk, nd, by omega, fun r hr => ?_⟩
        rw [take_snoc hm]
        rcases inm r hr with z | z
        · exact List.mem_append_left _ z
        · rw [z.1]; simp
    · rintro σ H2 ⟨v7, v8, v9, rfl, kp, bag, ra, rs, hra, rat, rk, nd, len, inm⟩
      rw [List.length_map] at len
      -- mixed
      refine ⟨_, rfl, _, rfl, dd, _, rfl, getS (kp _ _ Gd rfl) (sk_rules _ _ _ _), b, ca, al, _, rfl, bag, hra, noBag_refs ra, by rw [List.length_map, rat.length]; omega, fun l3 ys3 H3 _ kp3' bag3' pm3 h3 => ?_⟩
      obtain ⟨zs3, pz3, rfl⟩ := perm_refs pm3
      obtain ⟨rs3, pr3, prd⟩ := paired_perm pz3 (Paired.imp (fun _ _ => RuleAt.tk kp3'.tk) rat)
      have kpG3 := kp.trans kp3'
      have hd3 := kpG3 _ _ Gd rfl
      refine ⟨_, rfl, dd, _, rfl, putS hd3 (sk_len _ _ _ _), ?_⟩
      rw [sk_put]
      have at4 : ∀ {a : Addr} {xs : List V}, H3 a = some (.lst xs) → (upd H3 dd (.dK (specK am ar as_ l3))) a = some (.lst xs) := fun h => by rw [upd_ne (at_ne h hd3 (fun z => nomatch z))]; exact h
      have tk4 : Tk H3 (upd H3 dd (.dK (specK am ar as_ l3))) := fun a xs e => by rw [upd_ne (at_ne e hd3 (fun z => nomatch z))]; exact e
      refine ⟨_, rfl, k dd ⟨ms, rg, sg, rs3⟩ _ (Kp.putF (kpG.trans kpG3) _ frd) ?_ ⟨⟨am, ar, as_, l3, zs3, upd_same, at4 (kpG3 _ _ Gam (bagO_strs _)), at4 (kpG3 _ _ Gar (bagO_strs _)), at4 (kpG3 _ _ Gas (bagO_strs _)), at4 h3, Paired.imp (fun _ _ => RuleAt.tk tk4) prd⟩, ?_⟩ frd⟩
      · obtain ⟨cs, i1, i2, i3, i4, g1, g2⟩ := id bag3'
        exact ⟨cs, i1, i2, i3, i4, at4 g1, at4 g2⟩
      · refine ⟨⟨mnd, ms0, by show ms.length ≤ 3; omega, mok⟩, ⟨rnd, by show rg.length ≤ 2; omega, rok⟩, ⟨snd, by show 1 ≤ sg.length; omega, by show sg.length ≤ 2; omega, sok⟩, ?_, fun r hr => ?_, ?_, by show rs3.length ≤ 100; rw [pr3.length_eq]; omega⟩
        · show ms.length * (rg.length + 1) ≤ 3
          rw [lm, lr, Nat.add_comm n1 1]
          exact hwide
        · have := rk r (pr3.subset hr)
          exact ⟨this.mode, this.sign, this.goal, this.ch⟩
        · exact (pr3.map _).nodup_iff.mpr nd
end
end Tw
end

section
set_option Elab.async false
set_option linter.all false
set_option maxRecDepth 100000
set_option maxHeartbeats 4000000
/-! Programs made, events, states, looks, probes made. -/
namespace Tw
open PySem PySem.Spec PyProof.Rows L2
def LookAt (H : Hp) (a : Addr) (lk : List (Str × Terms)) : Prop := ∃ as : List Addr, H a = some (.lst (as.map V.ref)) ∧ Paired (ChangeAt H) as lk
theorem LookAt.kp {H H' : Hp} {a : Addr} {lk : List (Str × Terms)} (h : LookAt H a lk) (k : Kp H H') : LookAt H' a lk := let ⟨as, h1, h2⟩ := h; ⟨as, k _ _ h1 (bagO_refs _), Paired.imp (fun _ _ => ChangeAt.tk k.tk) h2⟩
structure GivenAt (H : Hp) (a : Addr) (g : Given) : Prop where
  ex : ∃ d st lk : Addr, H a = some (.tup [.ref d, .ref st, .ref lk]) ∧ SpecAt H d g.spec ∧ StateAt H st g.start ∧ LookAt H lk g.look
  ok : GivenOk g
theorem StateAt.kp {H H' : Hp} {a : Addr} {st : TwM.State Str} (h : StateAt H a st) (k : Kp H H') : StateAt H' a st := h.tk k.tk
theorem GivenAt.kp {H H' : Hp} {a : Addr} {g : Given} (h : GivenAt H a g) (k : Kp H H') : GivenAt H' a g := by
  obtain ⟨⟨d, st, lk, h1, h2, h3, h4⟩, ok⟩ := h
  exact ⟨⟨d, st, lk, k _ _ h1 rfl, h2.kp k, h3.kp k, h4.kp k⟩, ok⟩
structure LookOk (sp : TwM.Spec Str) (lk : List (Str × Terms)) : Prop where
  nd : (lk.map (·.1)).Nodup
  mode : ∀ l ∈ lk, l.1 ∈ sp.modes
  terms : ∀ l ∈ lk, TermsOk (sp.registers ++ [oneS]) l.2
  few : lk.length ≤ 10
theorem one_nd {sp : TwM.Spec Str} (ok : SpecOk sp) : (sp.registers ++ [oneS]).Nodup := List.nodup_append.mpr ⟨ok.regs.1, by simp, fun x hx y hy e => by
  rw [List.mem_singleton.mp hy] at e
  exact (ok.regs.2.2 x hx).one e⟩
section
variable {P : Program} {w : World} {K : PySem.W.Frag} {mg : Str → Option Value} {base : Heap}
def spLProg (K : PySem.W.Frag) : Sp := fun vs H Q _ => ∃ d sp, vs = [.ref d] ∧ SpecAt H d sp ∧ ∀ p H', Same H H' → ProgAt K H' p sp → Q (.ref p) H'
theorem ok_law_program (T : Txt K mg) : Cal P w K mg base 7 "_law_program" (spLProg K) := by
  have sc : FnScope ["_law_spec_here"] ["_law_spec_here"] (defScope s_law_program) := ⟨rfl, rfl, rfl, by decide +kernel, rfl, by decide +kernel, by decide +kernel⟩
  refine ⟨fn_by (fd_law_program T) sc (fun _ _ _ _ _ _ us hl => match us, hl with | [_], _ => rfl) ?_ fun cdv A outer s H vs Q E hr h => ?_, g_law_program T, kp_of (fd_law_program T)⟩
  · rintro vs H Q E ⟨d, sp, rfl, _⟩; rfl
  · obtain ⟨d, sp, rfl, ⟨⟨am, ar, as_, al, ra, h1, h2, h3, h4, h5, h6⟩, ok⟩, k⟩ := h
    have hu := room_u hr
    refine ⟨_, pss_one (ps_ret (pe_k (ok_Program_init T) hr (pa_cons (pe_t1 cr_li (b_list T) (pe_dget hu (pv 0) pe_str (fun _ _ => rfl))) (pa_cons (pe_t1 cr_li (b_list T) (pe_dget hu (pv 0) pe_str (fun _ _ => rfl))) (pa_cons (pe_t1 cr_li (b_list T) (pe_dget hu (pv 0) pe_str (fun _ _ => rfl))) (pa_cons (pe_t1 cr_li (b_list T) (pe_dget hu (pv 0) pe_str (fun _ _ => rfl))) pa_nil)))))), ?_⟩
    refine ⟨_, rfl, d, _, rfl, getS h1 (sk_modes _ _ _ _), rd_li h2 fun l1 hl1 => ?_⟩
    have s1 := same_new (.lst (sp.modes.map V.str)) hl1
    refine ⟨_, rfl, d, _, rfl, getS (s1 _ _ h1) (sk_registers _ _ _ _), rd_li (s1 _ _ h3) fun l2 hl2 => ?_⟩
    have s2 := Same.new s1 (.lst (sp.registers.map V.str)) hl2
    refine ⟨_, rfl, d, _, rfl, getS (s2 _ _ h1) (sk_signs _ _ _ _), rd_li (s2 _ _ h4) fun l3 hl3 => ?_⟩
    have s3 := Same.new s2 (.lst (sp.signs.map V.str)) hl3
    refine ⟨_, rfl, d, _, rfl, getS (s3 _ _ h1) (sk_rules _ _ _ _), rd_li (s3 _ _ h5) fun l4 hl4 => ?_⟩
    have u4 := same_new (.lst (ra.map V.ref)) hl4
    have u3 := (same_new (.lst (sp.signs.map V.str)) hl3).trans u4
    have u2 := (same_new (.lst (sp.registers.map V.str)) hl2).trans u3
    have s4 := s3.trans u4
    intro x dx hx hdx hne
    have z2 := Same.new (same_new (.own x) hdx) (.ins (He.ga K "Program") dx []) (show upd _ dx (.own x) x = none by rw [upd_ne (Ne.symm hne)]; exact hx)
    exact ⟨x, dx, l1, l2, l3, l4, _, ra, sp, rfl, hx, z2, upd_same, u2 _ _ upd_same, u3 _ _ upd_same, u4 _ _ upd_same, upd_same, Paired.imp (fun _ _ => RuleAt.tk (Same.tk s4)) h6, ok, fun H' s5 pa => ⟨rfl, k x H' (s4.trans s5) pa⟩⟩
def spLEvent : Sp := fun vs H Q _ => ∃ b ca d sp, vs = [.ref b, .ref d] ∧ BagAt H b ca ∧ SpecAt H d sp ∧ ∀ (a : Addr) (e : TwM.Event Str) H', Kp H H' → BagAt H' b ca → EventAt H' a e → EventOk sp.signs e → Q (.ref a) H'
theorem ok_law_event (T : Txt K mg) : Cal P w K mg base 4 "_law_event" spLEvent := by
  have sc : FnScope ["_law_bag_here", "_law_spec_here"] ["_law_bag_here", "_law_spec_here"] (defScope s_law_event) := ⟨rfl, rfl, rfl, by decide +kernel, rfl, by decide +kernel, by decide +kernel⟩
  refine ⟨fn_by (fd_law_event T) sc (fun _ _ _ _ _ _ us hl => match us, hl with | [_, _], _ => rfl) ?_ fun cdv A outer s H vs Q E hr h => ?_, g_law_event T, kp_of (fd_law_event T)⟩
  · rintro vs H Q E ⟨b, ca, d, sp, rfl, _⟩; rfl
  · obtain ⟨b, ca, d, sp, rfl, hbag, ⟨⟨am, ar, as_, al, ra, h1, h2, h3, h4, h5, h6⟩, ok⟩, k⟩ := h
    have hu := room_u hr
    refine ⟨_, pss_one (ps_ret (pe_tup (pa_cons (pe_c ((ok_law_of T).up (by decide)) hr (pa_cons (pv 0) (pa_cons (pe_dget hu (pv 1) pe_str (fun _ _ => rfl)) pa_nil))) (pa_cons (pe_c (ok_law_amount T) hr (pa_cons (pv 0) pa_nil)) pa_nil)))), ?_⟩
    refine ⟨_, rfl, _, rfl, d, _, rfl, getS h1 (sk_signs _ _ _ _), b, ca, hbag, .inl ⟨as_, _, rfl, h4, bagO_strs _, by rw [List.length_map]; exact ok.signs.2.1, by rw [List.length_map]; have := ok.signs.2.2.1; omega, fun v H1 hv kp1 bag1 => ?_⟩⟩
    obtain ⟨sn, hsn, rfl⟩ := List.mem_map.mp hv
    refine ⟨_, rfl, b, ca, rfl, bag1, fun am2 H2 a0 a1 kp2 bag2 => ⟨by show 2 ≤ sizeLine; decide, fun t ht => ?_⟩⟩
    exact k t (sn, am2) _ (Kp.new (kp1.trans kp2) _ ht) (bag2.new _ ht) upd_same ⟨hsn, a0, a1⟩
def spLEvents : Sp := fun vs H Q _ => ∃ b ca d sp, ∃ n : Nat, vs = [.ref b, .ref d, .int (n : Nat)] ∧ BagAt H b ca ∧ SpecAt H d sp ∧ n ≤ 10 ∧ ∀ (a : Addr) (es : Evs) H', Kp H H' → BagAt H' b ca → EventsAt H' a es → es.length = n → (∀ e ∈ es, EventOk sp.signs e) → Q (.ref a) H'
theorem ok_law_events (T : Txt K mg) : Cal P w K mg base 5 "_law_events" spLEvents := by
  have sc : FnScope ["_law_bag_here", "_law_spec_here", "_law_many", "_law_k"] ["_law_bag_here", "_law_spec_here", "_law_many"] (defScope s_law_events) := ⟨rfl, rfl, rfl, by decide +kernel, rfl, by decide +kernel, by decide +kernel⟩
  refine ⟨fn_by (fd_law_events T) sc (fun _ _ _ _ _ _ us hl => match us, hl with | [_, _, _], _ => rfl) ?_ fun cdv A outer s H vs Q E hr h => ?_, g_law_events T, kp_of (fd_law_events T)⟩
  · rintro vs H Q E ⟨b, ca, d, sp, n, rfl, _⟩; rfl
  · obtain ⟨b, ca, d, sp, n, rfl, hbag, hsp, hn, k⟩ := h
    refine ⟨_, pss_one (ps_ret (pe_lc (own := [("_law_k", 3)]) (g := gName 3) (tt := tYes) rfl sc.nd (pi_range1 rfl (b_range T) (pa_cons (pv 2) pa_nil)) (blkOk_by (N := ["_law_bag_here", "_law_spec_here", "_law_many", "_law_k"]) (sc := defScope s_law_events) (by decide +kernel))
          (fun _ _ _ _ _ => pg_name (i := 3) sc.nd rfl (Or.inl rfl)) (fun _ _ _ _ _ => pts_nil) (fun _ _ _ _ _ => pe_c (ok_law_event T) hr (pa_cons (pv 0) (pa_cons (pv 1) pa_nil))))), ?_⟩
    refine ⟨_, rfl, (n : Int), rfl, by omega, by omega, fun D hD => ?_⟩
    obtain ⟨nb1, nb2⟩ := hbag.ne hD
    refine lc_it walk_range (fun i H2 => Kp H H2 ∧ BagAt H2 b ca ∧ ∃ (as : List Addr) (es : Evs), H2 D = some (.lst (as.map V.ref)) ∧ Paired (EventAt H2) as es ∧ es.length = i ∧ ∀ e ∈ es, EventOk sp.signs e) ⟨kp_new _ hD, hbag.new _ hD, [], [], upd_same, .nil, rfl, (fun _ h => nomatch h)⟩ (fun _ _ _ _ => True.intro) ?_ ?_
    · rintro i v H2 H3 hi ⟨kp2, bag2, as, es, hd, pr, len, ok⟩ ⟨rfl, hv⟩
      have hi2 : i < n := by have h : i < ((n : Int)).toNat := hi; omega
      refine ⟨rfl, _, rfl, _, rfl, b, ca, d, sp, rfl, bag2, hsp.kp kp2, fun a e H4 kp4 bag4 eat eok => ?_⟩
      have hd4 := kp4 _ _ hd (bagO_refs _)
      refine ⟨_, hd4, by rw [List.length_map, pr.length]; exact small1000 (by omega), Kp.put (kp2.trans kp4) _ hD, bag4.put _ nb1 nb2, as ++ [a], es ++ [e], by rw [upd_same, List.map_append]; rfl, ?_, by rw [List.length_append, len]; rfl, fun x hx => ?_⟩
      · exact paired_snoc (Paired.imp (fun _ _ z => (tk_put _ hd4) _ _ (kp4 _ _ z rfl)) pr) ((tk_put _ hd4) _ _ eat)
      · rcases List.mem_append.mp hx with z | z
        · exact ok x z
        · rw [List.mem_singleton.mp z]; exact eok
    · rintro H2 ⟨kp2, bag2, as, es, hd, pr, len, ok⟩
      exact k D es H2 kp2 bag2 ⟨as, hd, pr⟩ (by rw [len]; omega) ok
def spLState : Sp := fun vs H Q _ => ∃ b ca d sp, vs = [.ref b, .ref d] ∧ BagAt H b ca ∧ SpecAt H d sp ∧ ∀ (a : Addr) (st : TwM.State Str) H', Kp H H' → BagAt H' b ca → StateAt H' a st → TwM.StateOk sp st → (∀ x ∈ st.2, x.natAbs ≤ 1000000000000000007) → Q (.ref a) H'
theorem ok_law_state (T : Txt K mg) : Cal P w K mg base 3 "_law_state" spLState := by
  have sc : FnScope ["_law_bag_here", "_law_spec_here", "_law_values", "_law_name"] ["_law_bag_here", "_law_spec_here"] (defScope s_law_state) := ⟨rfl, rfl, rfl, by decide +kernel, rfl, by decide +kernel, by decide +kernel⟩
  refine ⟨fn_by (fd_law_state T) sc (fun _ _ _ _ _ _ us hl => match us, hl with | [_, _], _ => rfl) ?_ fun cdv A outer s H vs Q E hr h => ?_, g_law_state T, kp_of (fd_law_state T)⟩
  · rintro vs H Q E ⟨b, ca, d, sp, rfl, _⟩; rfl
  · obtain ⟨b, ca, d, sp, rfl, hbag, ⟨⟨am, ar, as_, al, ra, h1, h2, h3, h4, h5, h6⟩, ok⟩, k⟩ := h
    have hu := room_u hr
    refine ⟨_, pss_cons (ps_setLc (i := 2) (own := [("_law_name", 3)]) (g := gName 3) (tt := tYes) rfl sc.nd rfl rfl rfl (pi_list (pe_dget hu (pv 1) pe_str (fun _ _ => rfl))) (blkOk_by (N := ["_law_bag_here", "_law_spec_here", "_law_values", "_law_name"]) (sc := defScope s_law_state) (by decide +kernel))
          (fun _ _ _ _ _ => pg_name (i := 3) sc.nd rfl (Or.inl rfl)) (fun _ _ _ _ _ => pts_nil) (fun _ _ _ _ _ => pe_c (ok_law_of T) hr (pa_cons (pv 0) (pa_cons (pe_lst (pa_cons pe_int (pa_cons pe_int (pa_cons (pe_un un_neg pe_int) (pa_cons (pe_op op_sub (pe_c ((ok_law_take T).up (by decide)) hr (pa_cons (pv 0) (pa_cons pe_int pa_nil))) pe_int) (pa_cons (pe_op op_add (pe_op op_pow pe_int pe_int) pe_int) pa_nil)))))) pa_nil))))
      (pss_one (ps_ret (pe_tup (pa_cons (pe_c (ok_law_of T) hr (pa_cons (pv 0) (pa_cons (pe_dget hu (pv 1) pe_str (fun _ _ => rfl)) pa_nil))) (pa_cons (pe_t1 cr_tu (b_tuple T) (pv 2)) pa_nil))))), ?_⟩
    refine ⟨_, rfl, d, _, rfl, getS h1 (sk_registers _ _ _ _), ar, rfl, ⟨_, SqL.of h3⟩, fun D hD => ?_⟩
    obtain ⟨nb1, nb2⟩ := hbag.ne hD
    refine lc_it (walk_list (xs := sp.registers.map V.str)) (fun i H2 => Kp H H2 ∧ BagAt H2 b ca ∧ ∃ xs : List Int, H2 D = some (.lst (xs.map V.int)) ∧ xs.length = i ∧ ∀ x ∈ xs, x.natAbs ≤ 1000000000000000007) ⟨kp_new _ hD, hbag.new _ hD, [], upd_same, rfl, (fun _ h => nomatch h)⟩ (fun i H2 _ ⟨kp, _⟩ => SqL.of (kp _ _ h3 (bagO_strs _))) ?_ ?_
    · rintro i v H2 H3 hi ⟨kp2, bag2, xs, hd, len, bd⟩ ⟨rfl, hv⟩
      rw [List.length_map] at hi
      have lreg := ok.regs.2.1
      refine ⟨rfl, _, rfl, _, rfl, _, rfl, b, ca, 19, rfl, bag2, by decide, by decide, fun dd H4 d0 d1 kp4 bag4 => ⟨_, _, rfl, rfl, _, _, rfl, rfl, ⟨by decide, by decide, by decide⟩, _, _, rfl, rfl, by show 5 ≤ sizeLine; decide, fun l hl => ?_⟩⟩
      refine ⟨b, ca, bag4.new _ hl, .inl ⟨l, _, rfl, upd_same, rfl, by show 0 < 5; decide, by show 5 ≤ 1000; decide, fun v H5 hv kp5 bag5 => ?_⟩⟩
      have e18 : (10 : Int) ^ (18 : Int).toNat + 7 = 1000000000000000007 := by decide
      have hv2 : v ∈ ([0, 1, -1, dd - 9, (10 : Int) ^ (18 : Int).toNat + 7] : List Int).map V.int := hv
      obtain ⟨x, hx, rfl⟩ := List.mem_map.mp hv2
      have kp45 := (Kp.trans kp4 (kp_new (.lst (([0, 1, -1, dd - 9, (10 : Int) ^ (18 : Int).toNat + 7] : List Int).map V.int)) hl)).trans kp5
      have hd5 := kp45 _ _ hd (bagO_ints _)
      refine ⟨_, hd5, by rw [List.length_map]; exact small1000 (by omega), Kp.put (kp2.trans kp45) _ hD, bag5.put _ nb1 nb2, xs ++ [x], by rw [upd_same, List.map_append]; rfl, by rw [List.length_append, len]; rfl, fun y hy => ?_⟩
      rcases List.mem_append.mp hy with z | z
      · exact bd y z
      · rw [List.mem_singleton.mp z]
        rw [e18] at hx
        simp only [List.mem_cons, List.not_mem_nil, or_false] at hx
        omega
    · rintro H2 ⟨kp2, bag2, xs, hd, len, bd⟩
      rw [List.length_map] at len
      refine ⟨_, rfl, _, rfl, d, _, rfl, getS (kp2 _ _ h1 rfl) (sk_modes _ _ _ _), b, ca, bag2, .inl ⟨am, _, rfl, kp2 _ _ h2 (bagO_strs _), bagO_strs _, by rw [List.length_map]; exact ok.modes.2.1, by rw [List.length_map]; have := ok.modes.2.2.1; omega, fun v H3 hv kp3 bag3 => ?_⟩⟩
      obtain ⟨m, hm, rfl⟩ := List.mem_map.mp hv
      refine ⟨_, rfl, rd_tu (kp3 _ _ hd (bagO_ints _)) fun t1 ht1 => ⟨by show 2 ≤ sizeLine; decide, fun t2 ht2 => ?_⟩⟩
      have n1 := same_new (.tup (xs.map V.int)) ht1
      have n2 := same_new (.tup [V.str m, V.ref t1]) ht2
      exact k t2 (m, xs) _ ((kp2.trans kp3).trans (Same.kp (n1.trans n2))) (bag3.same (n1.trans n2)) ⟨t1, upd_same, n2 _ _ upd_same⟩ ⟨hm, len⟩ bd
def spLLook : Sp := fun vs H Q _ => ∃ b ca d sp, vs = [.ref b, .ref d] ∧ BagAt H b ca ∧ SpecAt H d sp ∧ ∀ (a : Addr) lk H', Kp H H' → BagAt H' b ca → LookAt H' a lk → LookOk sp lk → Q (.ref a) H'
theorem ok_law_look (T : Txt K mg) : Cal P w K mg base 5 "_law_look" spLLook := by
  have sc : FnScope ["_law_bag_here", "_law_spec_here", "_law_modes", "_law_mode"] ["_law_bag_here", "_law_spec_here"] (defScope s_law_look) := ⟨rfl, rfl, rfl, by decide +kernel, rfl, by decide +kernel, by decide +kernel⟩
  refine ⟨fn_by (fd_law_look T) sc (fun _ _ _ _ _ _ us hl => match us, hl with | [_, _], _ => rfl) ?_ fun cdv A outer s H vs Q E hr h => ?_, g_law_look T, kp_of (fd_law_look T)⟩
  · rintro vs H Q E ⟨b, ca, d, sp, rfl, _⟩; rfl
  · obtain ⟨b, ca, d, sp, rfl, hbag, ⟨⟨am, ar, as_, al, ra, h1, h2, h3, h4, h5, h6⟩, ok⟩, k⟩ := h
    have hu := room_u hr
    refine ⟨_, pss_cons (ps_set (i := 2) sc.nd rfl (.inl rfl) (pe_slice sl_list (pe_c ((ok_law_mixed T).up (by decide)) hr (pa_cons (pv 0) (pa_cons (pe_dget hu (pv 1) pe_str (fun _ _ => rfl)) pa_nil))) po_none (po_some (pe_c ((ok_law_take T).up (by decide)) hr (pa_cons (pv 0) (pa_cons (pe_op op_add (pe_b1 cr_ln (b_len T) (pe_dget hu (pv 1) pe_str (fun _ _ => rfl))) pe_int) pa_nil))))))
      (pss_one (ps_ret (pe_lc (own := [("_law_mode", 3)]) (g := gName 3) (tt := tYes) rfl sc.nd (pi_list (pv 2)) (blkOk_by (N := ["_law_bag_here", "_law_spec_here", "_law_modes", "_law_mode"]) (sc := defScope s_law_look) (by decide +kernel))
          (fun _ _ _ _ _ => pg_name (i := 3) sc.nd rfl (Or.inl rfl)) (fun _ _ _ _ _ => pts_nil) (fun _ _ _ _ _ => pe_tup (pa_cons (pv 3) (pa_cons (pe_c (ok_law_terms T) hr (pa_cons (pv 0) (pa_cons (pe_op op_cat (pe_dget hu (pv 1) pe_str (fun _ _ => rfl)) (pe_lst (pa_cons pe_str pa_nil))) pa_nil))) pa_nil)))))), ?_⟩
    have lmo := ok.modes.2.2.1
    refine ⟨_, rfl, _, rfl, d, _, rfl, getS h1 (sk_modes _ _ _ _), b, ca, am, _, rfl, hbag, h2, noBag_strs _, by rw [List.length_map]; omega, fun l1 ys H1 _ kp1 bag1 pm1 hl1 => ?_⟩
    obtain ⟨zs, pz, rfl⟩ := perm_strs pm1
    refine ⟨_, rfl, _, rfl, d, _, rfl, getS (kp1 _ _ h1 rfl) (sk_modes _ _ _ _), rd_lenL (kp1 _ _ h2 (bagO_strs _)) ⟨_, _, rfl, rfl, b, ca, _, rfl, bag1, by omega, by rw [List.length_map]; omega, fun dd H2 d0 d1 kp2 bag2 => ?_⟩⟩
    obtain ⟨n, rfl⟩ := Int.eq_ofNat_of_zero_le d0
    refine ⟨_, rfl, rd_cut (n := n) (kp2 _ _ hl1 (bagO_strs _)) rfl fun q hq => ?_⟩
    rw [← List.map_take]
    have lu : (zs.take n).length ≤ 3 := by rw [List.length_take, pz.length_eq]; omega
    have ndu : (zs.take n).Nodup := (pz.nodup_iff.mpr ok.modes.1).sublist (List.take_sublist _ zs)
    have inu : ∀ x ∈ zs.take n, x ∈ sp.modes := fun x hx => pz.subset (List.mem_of_mem_take hx)
    generalize zs.take n = us at lu ndu inu
    have t3 := same_new (.lst (us.map V.str)) hq
    have hq3 := upd_same (H := H2) (a := q) (o := .lst (us.map V.str))
    have kp3 := (kp1.trans kp2).trans (Same.kp t3)
    have bag3 := bag2.same t3
    refine ⟨_, rfl, q, rfl, ⟨_, SqL.of hq3⟩, fun D hD => ?_⟩
    obtain ⟨nb1, nb2⟩ := bag3.ne hD
    refine lc_it (walk_list (xs := us.map V.str)) (fun i H6 => Kp (upd H2 q (.lst (us.map V.str))) H6 ∧ BagAt H6 b ca ∧ ∃ (cas : List Addr) (cs : List (Str × Terms)), H6 D = some (.lst (cas.map V.ref)) ∧ Paired (ChangeAt H6) cas cs ∧ cs.map (·.1) = us.take i ∧ ∀ c ∈ cs, TermsOk (sp.registers ++ [oneS]) c.2)
        ⟨kp_new _ hD, bag3.new _ hD, [], [], upd_same, .nil, by simp, (fun _ h => nomatch h)⟩ (fun i H6 _ ⟨kp6, _⟩ => SqL.of (kp6 _ _ hq3 (bagO_strs _))) ?_ ?_
    · rintro i v H6 H7 hi ⟨kp6, bag6, cas, cs, hdd, pr, e1, tok⟩ ⟨rfl, hv⟩
      obtain ⟨x, rfl, hx⟩ := strs_at hv
      rw [List.length_map] at hi
      have lts : cs.length = min i us.length := by have := congrArg List.length e1; rw [List.length_map, List.length_take] at this; exact this
      have kp06 := kp3.trans kp6
      have lr := ok.regs.2.1
      refine ⟨rfl, _, rfl, _, rfl, _, rfl, d, _, rfl, getS (kp06 _ _ h1 rfl) (sk_registers _ _ _ _), by show 1 ≤ sizeLine; decide, fun m1 hm1 => ?_⟩
      have b1 := same_new (.lst [V.str "one"]) hm1
      have h36 := kp06 _ _ h3 (bagO_strs _)
      refine rd_cat (b1 _ _ h36) upd_same (by rw [List.length_map]; show sp.registers.length + 1 ≤ 1000; omega) fun m2 hm2 => ?_
      have b2 := Same.new b1 (.lst (sp.registers.map V.str ++ [V.str "one"])) hm2
      refine ⟨b, ca, m2, sp.registers ++ [oneS], rfl, bag6.same b2, by rw [upd_same, List.map_append]; rfl, one_nd ok, by rw [List.length_append]; show sp.registers.length + 1 ≤ 20; omega, fun t ts H8 kp8 bag8 tat tok8 => ⟨by show 2 ≤ sizeLine; decide, fun tp htp => ?_⟩⟩
      have kp68 := (Same.kp b2).trans kp8
      have kp69 := Kp.new kp68 (.tup [V.str x, V.ref t]) htp
      have hd9 := kp69 _ _ hdd (bagO_refs _)
      refine ⟨_, hd9, by rw [List.length_map, pr.length]; exact small1000 (by omega), Kp.put (kp6.trans kp69) _ hD, (bag8.new _ htp).put _ nb1 nb2, cas ++ [tp], cs ++ [(x, ts)], by rw [upd_same, List.map_append]; rfl, ?_, ?_, ?_⟩
      · have tk := kp69.tk.trans (tk_put (.lst (cas.map V.ref ++ [V.ref tp])) hd9)
        refine paired_snoc (Paired.imp (fun _ _ z => ChangeAt.tk tk z) pr) ⟨t, (tk_put _ hd9) _ _ upd_same, ?_⟩
        exact tat.tk ((Same.tk (same_new _ htp)).trans (tk_put _ hd9))
      · rw [List.map_append, e1, take_snoc hx]
        rfl
      · intro c hc
        rcases List.mem_append.mp hc with z | z
        · exact tok c z
        · rw [List.mem_singleton.mp z]; exact tok8
    · rintro H6 ⟨kp6, bag6, cas, cs, hdd, pr, e1, tok⟩
      rw [List.length_map, List.take_length] at e1
      have lts : cs.length ≤ 3 := by have := congrArg List.length e1; rw [List.length_map] at this; omega
      exact k D cs H6 (kp3.trans kp6) bag6 ⟨cas, hdd, pr⟩ ⟨by rw [e1]; exact ndu, fun c hc => inu _ (by rw [← e1]; exact List.mem_map.mpr ⟨c, hc, rfl⟩), tok, by omega⟩
def spLProbe (K : PySem.W.Frag) : Sp := fun vs H Q _ => ∃ a g, vs = [.ref a] ∧ GivenAt H a g ∧ ∀ p H', Same H H' → ProbeAt K H' p g → Q (.ref p) H'
theorem ok_law_probe (T : Txt K mg) : Cal P w K mg base 8 "_law_probe" (spLProbe K) := by
  have sc : FnScope ["_law_given"] ["_law_given"] (defScope s_law_probe) := ⟨rfl, rfl, rfl, by decide +kernel, rfl, by decide +kernel, by decide +kernel⟩
  refine ⟨fn_by (fd_law_probe T) sc (fun _ _ _ _ _ _ us hl => match us, hl with | [_], _ => rfl) ?_ fun cdv A outer s H vs Q E hr h => ?_, g_law_probe T, kp_of (fd_law_probe T)⟩
  · rintro vs H Q E ⟨a, g, rfl, _⟩; rfl
  · obtain ⟨a, g, rfl, ⟨⟨d, st, lk, h1, h2, h3, as, h4, h5⟩, ok⟩, k⟩ := h
    refine ⟨_, pss_one (ps_ret (pe_k ((ok_Probe_init T).up (by decide : 3 ≤ 6)) hr (pa_cons (pe_c (ok_law_program T) hr (pa_cons (pe_ti (pv 0)) pa_nil)) (pa_cons (pe_ti (pv 0)) (pa_cons (pe_t1 cr_li (b_list T) (pe_ti (pv 0))) pa_nil))))), ?_⟩
    refine ⟨_, rfl, rd_it h1 rfl ⟨d, g.spec, rfl, h2, fun p H1 s1 pa => ⟨_, rfl, rd_it (s1 _ _ h1) rfl ⟨_, rfl, rd_it (s1 _ _ h1) rfl (rd_li (s1 _ _ h4) fun l hl => ?_)⟩⟩⟩⟩
    have n1 := same_new (.lst (as.map V.ref)) hl
    have s2 := s1.trans n1
    intro x dx hx hdx hne
    have z2 := Same.new (same_new (.own x) hdx) (.ins (He.ga K "Probe") dx []) (show upd _ dx (.own x) x = none by rw [upd_ne (Ne.symm hne)]; exact hx)
    exact ⟨x, dx, p, st, l, _, as, g, rfl, hx, z2, upd_same, pa.same n1, h3.same s2, upd_same, Paired.imp (fun _ _ => ChangeAt.tk (Same.tk s2)) h5, ok, fun H' s5 pa => ⟨rfl, k x H' (s2.trans s5) pa⟩⟩
end
end Tw
end

section
set_option Elab.async false
set_option linter.all false
set_option maxRecDepth 100000
set_option maxHeartbeats 4000000
/-! The law's own run: after, run, value, gap. -/
namespace Tw
open PySem PySem.Spec PyProof.Rows L2
def zipK (xs : List Str) (ys : List V) : List (Key × V) := (xs.map Sum.inr).zip ys
theorem zipK_kv : ∀ (xs : List Str) (ys : List V), (xs.map V.str).zip ys = (zipK xs ys).map fun kv => (kV kv.1, kv.2)
  | [], _ => rfl
  | _ :: _, [] => rfl
  | x :: xs, y :: ys => congrArg (List.cons (V.str x, y)) (zipK_kv xs ys)
theorem paired_map {α β γ : Type} {F : α → γ → Prop} {f : β → γ} : ∀ {as : List α} {bs : List β}, Paired F as (bs.map f) → Paired (fun a b => F a (f b)) as bs
  | _, [], h => by cases h; exact .nil
  | _, b :: bs, h => by
    cases h with
    | cons h t => exact .cons h (paired_map t)
def rDP (K : PySem.W.Frag) : List V → Hp → VK → Prop := fun xs H Q => ∃ (a : Addr) (ps : List Addr) (kvs : List (Key × V)), xs = [.ref a] ∧ SqL K H a (ps.map V.ref) ∧ Paired (fun p kv => SqT K H p [kV kv.1, kv.2]) ps kvs ∧ ∀ p, H p = none → Q (.ref p) (upd H p (.dK (mergeK [] kvs)))
theorem cr_dp {X : Cx} (hc : X.calm = true) : CallR X (.type "dict") (rDP X.K) := call_dictP hc
theorem rd_dz {K : PySem.W.Frag} {H : Hp} {Q : VK} {a b : Addr} {xs : List Str} {ys : List V} (ha : H a = some (.lst (xs.map V.str))) (hb : H b = some (.lst ys) ∨ H b = some (.tup ys)) (hl : xs.length ≤ 1000)
    (q : ∀ p H', H p = none → Same H H' → H' p = some (.dK (mergeK [] (zipK xs ys))) → Q (.ref p) H') : rLZ K [.ref a, .ref b] H fun v H1 => rDP K [v] H1 Q := by
  refine ⟨a, b, _, ys, rfl, SqL.of ha, hb.imp SqL.of SqT.of, by rw [List.length_map]; omega, fun H1 l ts s hl h1 pr => ?_⟩
  rw [zipK_kv] at pr
  exact ⟨l, ts, zipK xs ys, rfl, SqL.of h1, Paired.imp (fun _ _ z => SqT.of z) (paired_map (F := fun (t : Addr) (q : V × V) => H1 t = some (.tup [q.1, q.2])) pr), fun p hp => q p _ (Same.fresh s hp) (Same.new s _ hp) upd_same⟩
theorem mergeK_cons (d : List (Key × V)) (k : Key) (v : V) (r : List (Key × V)) : mergeK d ((k, v) :: r) = mergeK (putK d k v) r := rfl
theorem zipK_off {x : Str} : ∀ (xs : List Str) (ys : List V) (d : List (Key × V)), x ∉ xs → valV (mergeK d (zipK xs ys)) (.inr x) = valV d (.inr x)
  | [], _, _, _ => rfl
  | _ :: _, [], _, _ => rfl
  | z :: xs, y :: ys, d, h => by
    show valV (mergeK (putK d (.inr z) y) (zipK xs ys)) (.inr x) = _
    rw [zipK_off xs ys _ (fun m => h (List.mem_cons_of_mem _ m)), valS_put, if_neg (fun e => h (by rw [e]; exact List.mem_cons_self))]
theorem zipK_at {x : Str} {y : V} : ∀ (xs : List Str) (ys : List V) (d : List (Key × V)) (i : Nat), xs.Nodup → xs[i]? = some x → ys[i]? = some y → valV (mergeK d (zipK xs ys)) (.inr x) = some y
  | [], _, _, _, _, h, _ => by simp at h
  | _ :: _, [], _, _, _, _, h => by simp at h
  | z :: xs, w :: ys, d, 0, nd, h1, h2 => by
    obtain rfl : z = x := by simpa using h1
    obtain rfl : w = y := by simpa using h2
    show valV (mergeK (putK d (.inr z) w) (zipK xs ys)) (.inr z) = _
    rw [zipK_off xs ys _ (List.nodup_cons.mp nd).1, valS_put, if_pos rfl]
  | z :: xs, w :: ys, d, i + 1, nd, h1, h2 => zipK_at xs ys (putK d (.inr z) w) i (List.nodup_cons.mp nd).2 h1 h2
theorem zipK_len {xs : List Str} {ys : List V} : (mergeK [] (zipK xs ys)).length ≤ xs.length := by
  have h := length_mergeK (zipK xs ys) []
  have h2 : (zipK xs ys).length ≤ xs.length := by unfold zipK; rw [List.length_zip, List.length_map]; exact Nat.min_le_left _ _
  rw [List.length_nil] at h
  omega
theorem zipK_map {regs : List Str} {vals : List Int} (nd : regs.Nodup) (l : vals.length = regs.length) : MapOn (mergeK [] (zipK regs (vals.map V.int))) regs fun x => TwM.look x regs vals := fun x hx => by
  obtain ⟨i, hi, rfl⟩ := List.getElem_of_mem hx
  have h1 := List.getElem?_eq_getElem hi
  have h2 := List.getElem?_eq_getElem (l := vals) (i := i) (by omega)
  show valV _ _ = some (V.int (TwM.look regs[i] regs vals))
  rw [TwM.look_at nd h1 h2]
  exact zipK_at regs _ [] i nd h1 (by rw [List.getElem?_map, h2]; rfl)
theorem kn2_map {regs : List Str} {vals : List Int} {a : Int} {kvs : List (Key × V)} (h : MapOn kvs regs fun x => TwM.look x regs vals) : MapOn (putK (putK kvs (.inr amtS) (.int a)) (.inr oneS) (.int 1)) ([amtS, oneS] ++ regs) (TwM.known amtS oneS regs vals a) := fun y hy => by
  rw [valS_put, valS_put]
  unfold TwM.known
  split
  · rfl
  · split
    · rfl
    · rcases List.mem_append.mp hy with q | q
      · simp only [List.mem_cons, List.not_mem_nil, or_false] at q
        rcases q with q | q <;> contradiction
      · exact h y q
theorem find_hit {α : Type} {p : α → Bool} {xs : List α} {i : Nat} {x : α} (h : xs[i]? = some x) (n : (xs.take i).find? p = none) (hp : p x = true) : xs.find? p = some x := by
  conv => lhs; rw [← List.take_append_drop (i + 1) xs]
  rw [List.find?_append, take_snoc h, List.find?_append, n]
  simp [hp]
theorem find_miss {α : Type} {p : α → Bool} {xs : List α} {i : Nat} {x : α} (h : xs[i]? = some x) (n : (xs.take i).find? p = none) (hp : p x = false) : (xs.take (i + 1)).find? p = none := by
  rw [take_snoc h, List.find?_append, n]
  simp [hp]
section
variable {P : Program} {w : World} {K : PySem.W.Frag} {mg : Str → Option Value} {base : Heap}
def spLAfter : Sp := fun vs H Q _ => ∃ d a b sp st ev k, vs = [.ref d, .ref a, .ref b] ∧ SpecAt H d sp ∧ StateAt H a st ∧ TwM.StateOk sp st ∧ EventAt H b ev ∧ 41 ≤ k ∧ k ≤ 9000 ∧ TwM.Bd k st.2 ∧ ev.2.natAbs ≤ 1000000000000 ∧
  ∀ c H', Same H H' → StateAt H' c (TwM.moved amtS oneS sp st ev) → Q (.ref c) H'
abbrev nAfter : List Str := ["_law_spec_here", "_law_state_here", "_law_event_here", "_law_mode", "_law_sign", "_law_goal", "_law_changes_here", "_law_known", "_law_late", "_law_name", "_law_terms_here", "_law_source", "_law_factor_here"]
theorem ok_law_after (T : Txt K mg) : Cal P w K mg base 1 "_law_after" spLAfter := by
  have sc : FnScope nAfter ["_law_spec_here", "_law_state_here", "_law_event_here"] (defScope s_law_after) := ⟨rfl, rfl, rfl, by decide +kernel, rfl, by decide +kernel, by decide +kernel⟩
  refine ⟨fn_by (fd_law_after T) sc (fun _ _ _ _ _ _ us hl => match us, hl with | [_, _, _], _ => rfl) ?_ fun cdv A outer s H vs Q E hr h => ?_, g_law_after T, kp_of (fd_law_after T)⟩
  · rintro vs H Q E ⟨d, a, b, sp, st, ev, k, rfl, _⟩; rfl
  · obtain ⟨d, a, b, sp, st, ev, kb, rfl, ⟨⟨am, ar, as_, al, ra, h1, h2, h3, h4, h5, h6⟩, ok⟩, hst, so, hev, kb1, kb2, hbd, hamt, k⟩ := h
    have hu := room_u hr
    have hsx := hst
    obtain ⟨b2, ha, hb2⟩ := hst
    refine ⟨_, pss_cons (ps_for PassesOwn.never rfl (pi_list (pe_dget hu (pv 0) pe_str (fun _ _ => rfl))) (pg_tup rfl (pgs_cons (pg_name (i := 3) sc.nd rfl (.inl rfl)) (pgs_cons (pg_name (i := 4) sc.nd rfl (.inl rfl)) (pgs_cons (pg_name (i := 5) sc.nd rfl (.inl rfl)) (pgs_cons (pg_name (i := 6) sc.nd rfl (.inl rfl)) pgs_nil)))))
      (pss_one (ps_if (PW.pt (pw_and (pt_cmpR op_eq (pv 3) (pe_ti (pv 1)) (nomark _)) (pw_and1 (pt_cmpR op_eq (pv 4) (pe_ti (pv 2)) (nomark _)))))
        (pss_cons (ps_set (i := 7) sc.nd rfl (Or.inr rfl) (pe_t1 (cr_dp rfl) (b_dict T) (pe_lz rfl (b_zip T) (b_list T) (pa_cons (pe_dget hu (pv 0) pe_str (fun _ _ => rfl)) (pa_cons (pe_ti (pv 1)) pa_nil)))))
        (pss_cons (ps_asg (pe_tup (pa_cons (pe_ti (pv 2)) (pa_cons pe_int pa_nil))) (pg_tup rfl (pgs_cons (pg_sub (pv 7) pe_str (set_dict hu)) (pgs_cons (pg_sub (pv 7) pe_str (set_dict hu)) pgs_nil))))
        (pss_cons (ps_set (i := 8) sc.nd rfl (Or.inr rfl) (pe_t1 (cr_dp rfl) (b_dict T) (pe_lz rfl (b_zip T) (b_list T) (pa_cons (pe_dget hu (pv 0) pe_str (fun _ _ => rfl)) (pa_cons (pe_ti (pv 1)) pa_nil)))))
        (pss_cons (ps_for PassesOwn.never rfl (pi_tup (pv 6)) (pg_tup rfl (pgs_cons (pg_name (i := 9) sc.nd rfl (.inl rfl)) (pgs_cons (pg_name (i := 10) sc.nd rfl (.inl rfl)) pgs_nil)))
          (pss_one (ps_dput hu (pv 8) (pv 9) (pe_b1 (cr_sum rfl) (b_sum T) (pe_lc (own := [("_law_source", 11), ("_law_factor_here", 12)]) (g := twoT K 11 12) (tt := tYes) rfl sc.nd (pi_tup (pv 10)) (blkOk_by (N := nAfter) (sc := defScope s_law_after) (by decide +kernel))
            (fun _ _ _ _ _ => pg_tup rfl (pgs_cons (pg_name (i := 11) sc.nd rfl (.inl rfl)) (pgs_cons (pg_name (i := 12) sc.nd rfl (.inl rfl)) pgs_nil))) (fun _ _ _ _ _ => pts_nil) (fun _ _ _ _ _ => pe_op op_mulW (pv 12) (pe_dget hu (pv 7) (pv 11) (fun _ _ => rfl))))) rfl)))
        (pss_one (ps_ret (pe_tup (pa_cons (pv 5) (pa_cons (pe_t1 cr_tu (b_tuple T) (pe_lc (own := [("_law_name", 9)]) (g := gName 9) (tt := tYes) rfl sc.nd (pi_list (pe_dget hu (pv 0) pe_str (fun _ _ => rfl))) (blkOk_by (N := nAfter) (sc := defScope s_law_after) (by decide +kernel))
          (fun _ _ _ _ _ => pg_name (i := 9) sc.nd rfl (Or.inl rfl)) (fun _ _ _ _ _ => pts_nil) (fun _ _ _ _ _ => pe_dget hu (pv 8) (pv 9) (fun _ _ => rfl)))) pa_nil)))))))))
        pss_nil)))
      (pss_one (ps_ret (pv 1))), ?_⟩
    have hl2 := ok.regs.2.1
    refine ⟨_, rfl, d, _, rfl, getS h1 (sk_rules _ _ _ _), al, rfl, ⟨_, SqL.of h5⟩, for_it (walk_list (xs := ra.map V.ref)) (fun i σ H2 => ∃ v3 v4 v5 v6, σ = [some (.ref d), some (.ref a), some (.ref b), v3, v4, v5, v6, none, none, none, none, none, none] ∧ H2 = H ∧
        (sp.rules.take i).find? (fun r => decide (r.mode = st.1 ∧ r.sign = ev.1)) = none) ⟨_, _, _, _, rfl, rfl, rfl⟩ (fun i σ H2 _ ⟨_, _, _, _, _, e, _⟩ => by rw [e]; exact SqL.of h5) ?_ ?_⟩
    · rintro i y σ H2 H3 hi ⟨v3, v4, v5, v6, rfl, rfl, hn⟩ ⟨rfl, hy⟩
      obtain ⟨c, rfl, hc⟩ := refs_at hy
      obtain ⟨r, hr2, cb, hra, cas, hcb, cpr⟩ := paired_at h6 hc
      have rok := ok.rules r (List.mem_of_getElem? hr2)
      refine ⟨c, _, rfl, SqT.of hra, rfl, _, _, rfl, _, _, rfl, _, _, rfl, _, _, rfl, rfl, ?_⟩
      refine ⟨_, rfl, _, rfl, rd_it ha rfl (rd_eq rfl ⟨_, rfl, ?_⟩)⟩
      by_cases em1 : r.mode = st.1
      case neg => exact it_decF (fun z => em1 (V.str.inj z)) (iteF ⟨_, _, _, _, rfl, rfl, find_miss hr2 hn (decide_eq_false fun z => em1 z.1)⟩)
      refine it_dec (congrArg V.str em1) ⟨_, rfl, _, rfl, rd_it hev rfl (rd_eq rfl ⟨_, rfl, ?_⟩)⟩
      by_cases em2 : r.sign = ev.1
      case neg => exact it_decF (fun z => em2 (V.str.inj z)) ⟨_, _, _, _, rfl, rfl, find_miss hr2 hn (decide_eq_false fun z => em2 z.2)⟩
      refine it_dec (congrArg V.str em2) ?_
      have e1 := find_hit (p := fun r => decide (r.mode = st.1 ∧ r.sign = ev.1)) hr2 hn (decide_eq_true ⟨em1, em2⟩)
      have em : TwM.moved amtS oneS sp st ev = (r.goal, sp.registers.map (TwM.late amtS oneS sp.registers st.2 ev.2 r.changes)) := by
        unfold TwM.moved TwM.ruleAt
        rw [e1]
      have hkn : ∀ x, (TwM.known amtS oneS sp.registers st.2 ev.2 x).natAbs < 2 ^ kb := TwM.known_lt (by omega) sp.registers hbd (by
        have h2 : 2 ^ 41 ≤ 2 ^ kb := Nat.pow_le_pow_right (by decide) kb1
        omega)
      refine ⟨_, rfl, d, _, rfl, getS h1 (sk_registers _ _ _ _), _, rfl, rd_it ha rfl (rd_dz h3 (.inr hb2) (by omega) fun kd H1 hkd s1 hk => ?_)⟩
      have zl := zipK_len (xs := sp.registers) (ys := st.2.map V.int)
      have zm := zipK_map ok.regs.1 so.len
      have zl0 := zl
      have zm0 := zm
      generalize mergeK [] (zipK sp.registers (st.2.map V.int)) = kv0 at hk zl zm
      refine ⟨_, rfl, rd_it (s1 _ _ hev) rfl ⟨by show 2 ≤ sizeLine; decide, fun t ht => ?_⟩⟩
      have l1 := length_putK kv0 (.inr amtS) (.int ev.2)
      have l2 := length_putK (putK kv0 (.inr amtS) (.int ev.2)) (.inr oneS) (.int 1)
      refine ⟨t, _, rfl, SqT.of upd_same, rfl, _, _, rfl, _, rfl, kd, _, rfl, putS (same_new _ ht _ _ hk) (by omega), _, _, rfl, _, rfl, kd, _, rfl, putS upd_same (show (putK kv0 (.inr amtS) (.int ev.2)).length ≤ 1000 by omega), rfl, ?_⟩
      have s3 := Same.put (Same.put (Same.new s1 (.tup [V.int ev.2, V.int 1]) ht) (.dK (putK kv0 (.inr amtS) (.int ev.2))) hkd) (.dK (putK (putK kv0 (.inr amtS) (.int ev.2)) (.inr oneS) (.int 1))) hkd
      have hm := kn2_map (a := ev.2) zm
      have hk3 := upd_same (H := upd (upd H1 t (.tup [V.int ev.2, V.int 1])) kd (.dK (putK kv0 (.inr amtS) (.int ev.2)))) (a := kd) (o := .dK (putK (putK kv0 (.inr amtS) (.int ev.2)) (.inr oneS) (.int 1)))
      generalize putK (putK kv0 (.inr amtS) (.int ev.2)) (.inr oneS) (.int 1) = kv2 at l2 s3 hm hk3 ⊢
      generalize upd (upd (upd H1 t (.tup [V.int ev.2, V.int 1])) kd (.dK (putK kv0 (.inr amtS) (.int ev.2)))) kd (.dK kv2) = H4 at s3 hk3 ⊢
      refine ⟨_, rfl, d, _, rfl, getS (s3 _ _ h1) (sk_registers _ _ _ _), _, rfl, rd_it (s3 _ _ ha) rfl (rd_dz (s3 _ _ h3) (.inr (s3 _ _ hb2)) (by omega) fun vd H5 hvd s4 h8 => ?_)⟩
      generalize mergeK [] (zipK sp.registers (st.2.map V.int)) = lv0 at h8 zl0 zm0
      have s5 := s3.trans s4
      refine ⟨_, rfl, cb, rfl, ⟨_, SqT.of (s5 _ _ hcb)⟩, for_it (walk_tup (xs := cas.map V.ref)) (fun i σ H6 => ∃ v9 v10 lvs, σ = [some (.ref d), some (.ref a), some (.ref b), some (.str r.mode), some (.str r.sign), some (.str r.goal), some (.ref cb), some (.ref kd), some (.ref vd), v9, v10, none, none] ∧
        Same H4 H6 ∧ H6 vd = some (.dK lvs) ∧ lvs.length ≤ 2 + i ∧ MapOn lvs sp.registers (TwM.late amtS oneS sp.registers st.2 ev.2 (r.changes.take i)))
        ⟨_, _, _, rfl, s4, h8, by omega, zm0⟩ (fun i σ H6 _ ⟨_, _, _, _, s6, _⟩ => SqT.of ((s3.trans s6) _ _ hcb)) ?_ ?_⟩
      · rintro j y2 σ H6 H7 hj ⟨v9, v10, lvs, rfl, s6, h9, l9, m9⟩ ⟨rfl, hy2⟩
        obtain ⟨c2, rfl, hc2⟩ := refs_at hy2
        obtain ⟨ch, hch, td, tda, tt⟩ := paired_at cpr hc2
        have mch : ch ∈ r.changes := List.mem_of_getElem? hch
        have tok := rok.ch.ok ch mch
        have few := rok.ch.few
        have lc : cas.length = r.changes.length := cpr.length
        rw [List.length_map] at hj
        have s7 := s3.trans s6
        refine ⟨c2, _, rfl, SqT.of (s7 _ _ tda), rfl, _, _, rfl, _, _, rfl, rfl, _, rfl, ?_⟩
        refine sum_terms (i := 11) (j := 12) (e := 7) (kn := TwM.known amtS oneS sp.registers st.2 ev.2) (tt.tk (Same.tk s7)) (by have := tok.few; omega) (s6 _ _ hk3) (fun t ht => ⟨hm t.1 ?_, mul_ok (by have := tok.fac t ht; omega) (hkn t.1) (by omega) (by omega)⟩)
          (fun _ _ => rfl) (fun _ _ => rfl) (fun _ _ => rfl) (fun _ _ => rfl) fun H8 s8 => ?_
        · have := tok.src t ht
          simp only [List.mem_append, List.mem_cons, List.not_mem_nil, or_false] at this ⊢
          rcases this with q | q | q
          · exact .inr q
          · exact .inl (.inl q)
          · exact .inl (.inr q)
        · refine ⟨_, rfl, _, rfl, vd, _, rfl, putS (s8 _ _ h9) (by omega), _, _, _, rfl, Same.put (s6.trans s8) _ hvd, upd_same, ?_, ?_⟩
          · have := length_putK lvs (.inr ch.1) (.int (TwM.sumT (TwM.known amtS oneS sp.registers st.2 ev.2) ch.2)); omega
          · rw [take_snoc hch]
            unfold TwM.late
            rw [List.foldl_append]
            exact m9.put _ _
      rintro σ H6 ⟨v9, v10, lvs, rfl, s6, h9, l9, m9⟩
      have lc : cas.length = r.changes.length := cpr.length
      rw [List.length_map, lc, List.take_length] at m9
      have s7 := s3.trans s6
      refine ⟨_, rfl, _, rfl, d, _, rfl, getS (s7 _ _ h1) (sk_registers _ _ _ _), ar, rfl, ⟨_, SqL.of (s7 _ _ h3)⟩, fun D hD => ?_⟩
      refine lc_it (walk_list (xs := sp.registers.map V.str)) (fun i H7 => Same H6 H7 ∧ H7 D = some (.lst (((sp.registers.take i).map (TwM.late amtS oneS sp.registers st.2 ev.2 r.changes)).map V.int)))
        ⟨same_new _ hD, upd_same⟩ (fun i H7 _ ⟨s8, _⟩ => SqL.of (s8 _ _ (s7 _ _ h3))) ?_ ?_
      · rintro j v H7 H8 hj ⟨s8, hd⟩ ⟨rfl, hv⟩
        obtain ⟨x, rfl, hx⟩ := strs_at hv
        have mx : x ∈ sp.registers := List.mem_of_getElem? hx
        refine ⟨rfl, _, rfl, _, rfl, vd, _, rfl, getS (s8 _ _ h9) (m9 x mx), _, hd, ?_, Same.put s8 _ hD, ?_⟩
        · rw [List.length_map, List.length_map, List.length_take]
          exact small1000 (by omega)
        · rw [upd_same, take_snoc hx, List.map_append, List.map_append]
          rfl
      · rintro H7 ⟨s8, hd⟩
        rw [List.length_map, List.take_length] at hd
        refine rd_tu hd fun l hl => ⟨by show 2 ≤ sizeLine; decide, fun z hz => ?_⟩
        have s9 := Same.new (s7.trans s8) (.tup ((sp.registers.map (TwM.late amtS oneS sp.registers st.2 ev.2 r.changes)).map V.int)) hl
        refine k z _ (Same.new s9 _ hz) ?_
        rw [em]
        exact ⟨l, upd_same, same_new _ hz _ _ upd_same⟩
    · rintro σ H2 ⟨v3, v4, v5, v6, rfl, rfl, hn⟩
      have lr := h6.length
      rw [List.length_map, lr, List.take_length] at hn
      have em : TwM.moved amtS oneS sp st ev = st := by
        unfold TwM.moved TwM.ruleAt
        rw [hn]
      exact ⟨_, rfl, k a _ (Same.refl _) (by rw [em]; exact hsx)⟩
end
end Tw
end

section
set_option Elab.async false
set_option linter.all false
set_option maxRecDepth 100000
set_option maxHeartbeats 4000000
/-! The law's own run, value, gap. -/
namespace Tw
open PySem PySem.Spec PyProof.Rows L2
theorem kn3_map {regs : List Str} {vals : List Int} {kvs : List (Key × V)} (h : MapOn kvs regs fun x => TwM.look x regs vals) (nx : ∀ x ∈ regs, x ≠ amtS) : MapOn (putK kvs (.inr oneS) (.int 1)) ([oneS] ++ regs) (TwM.known amtS oneS regs vals 0) := fun y hy => by
  rw [valS_put]
  unfold TwM.known
  split
  · rfl
  · rcases List.mem_append.mp hy with q | q
    · exact absurd (List.mem_singleton.mp q) ‹_›
    · rw [if_neg (nx y q)]
      exact h y q
section
variable {P : Program} {w : World} {K : PySem.W.Frag} {mg : Str → Option Value} {base : Heap}
def spLRun : Sp := fun vs H Q _ => ∃ d a l sp st es, vs = [.ref d, .ref a, .ref l] ∧ SpecAt H d sp ∧ StateAt H a st ∧ TwM.StateOk sp st ∧ TwM.Bd 60 st.2 ∧ EventsAt H l es ∧ es.length ≤ 10 ∧ (∀ e ∈ es, e.2.natAbs ≤ 1000000000000) ∧
  ∀ c H', Same H H' → StateAt H' c (TwM.run amtS oneS sp st es) → Q (.ref c) H'
theorem ok_law_run (T : Txt K mg) : Cal P w K mg base 2 "_law_run" spLRun := by
  have sc : FnScope ["_law_spec_here", "_law_state_here", "_law_events_here", "_law_event_here"] ["_law_spec_here", "_law_state_here", "_law_events_here"] (defScope s_law_run) := ⟨rfl, rfl, rfl, by decide +kernel, rfl, by decide +kernel, by decide +kernel⟩
  refine ⟨fn_by (fd_law_run T) sc (fun _ _ _ _ _ _ us hl => match us, hl with | [_, _, _], _ => rfl) ?_ fun cdv A outer s H vs Q E hr h => ?_, g_law_run T, kp_of (fd_law_run T)⟩
  · rintro vs H Q E ⟨d, a, l, sp, st, es, rfl, _⟩; rfl
  · obtain ⟨d, a, l, sp, st, es, rfl, hsp, hst, so, hbd, hes, hn, all, k⟩ := h
    refine ⟨_, pss_cons (ps_for PassesOwn.never rfl (pi_list (pv 2)) (pg_name (i := 3) sc.nd rfl (.inl rfl))
        (pss_one (ps_set (i := 1) sc.nd rfl (.inl rfl) (pe_c (ok_law_after T) hr (pa_cons (pv 0) (pa_cons (pv 1) (pa_cons (pv 3) pa_nil)))))))
      (pss_one (ps_ret (pv 1))), ?_⟩
    have ok := hsp.ok
    obtain ⟨as, hl, pr⟩ := hes
    have ll : as.length = es.length := pr.length
    refine ⟨_, rfl, l, rfl, ⟨_, SqL.of hl⟩, for_it (walk_list (xs := as.map V.ref)) (fun i σ H3 => ∃ c v, σ = [some (.ref d), some (.ref c), some (.ref l), v] ∧ Same H H3 ∧ StateAt H3 c (TwM.run amtS oneS sp st (es.take i)))
      ⟨a, none, rfl, Same.refl _, hst⟩ (fun i σ H3 _ ⟨_, _, _, s3, _⟩ => SqL.of (s3 _ _ hl)) ?_ ?_⟩
    · rintro i y σ H3 H4 hi ⟨c, v, rfl, s3, hc⟩ ⟨rfl, hy⟩
      obtain ⟨b, rfl, hb⟩ := refs_at hy
      obtain ⟨e, he, eat⟩ := paired_at pr hb
      rw [List.length_map] at hi
      refine ⟨_, rfl, _, rfl, _, rfl, d, c, b, sp, _, e, 60 + 12 * i, rfl, hsp.kp (Same.kp s3), hc, TwM.run_ok (specLin ok) _ _ so, s3 _ _ eat, by omega, by omega,
        TwM.run_lt (specBd ok) (by decide) hbd es all i (by omega), all e (List.mem_of_getElem? he), fun c2 H5 s5 h5 => ⟨c2, _, rfl, s3.trans s5, ?_⟩⟩
      rw [TwM.run_take sp st es he]
      exact h5
    · rintro σ H3 ⟨c, v, rfl, s3, hc⟩
      rw [List.length_map, ll, List.take_length] at hc
      exact ⟨_, rfl, k c H3 s3 hc⟩
def spLValue : Sp := fun vs H Q _ => ∃ d l a sp lk st, vs = [.ref d, .ref l, .ref a] ∧ SpecAt H d sp ∧ LookAt H l lk ∧ LookOk sp lk ∧ StateAt H a st ∧ TwM.StateOk sp st ∧ TwM.Bd 200 st.2 ∧ ∀ H', Same H H' → Q (.int (TwM.value amtS oneS sp lk st)) H'
abbrev nValue : List Str := ["_law_spec_here", "_law_seen", "_law_state_here", "_law_known", "_law_found", "_law_mode", "_law_terms_here", "_law_source", "_law_factor_here"]
theorem ok_law_value (T : Txt K mg) : Cal P w K mg base 1 "_law_value" spLValue := by
  have sc : FnScope nValue ["_law_spec_here", "_law_seen", "_law_state_here"] (defScope s_law_value) := ⟨rfl, rfl, rfl, by decide +kernel, rfl, by decide +kernel, by decide +kernel⟩
  refine ⟨fn_by (fd_law_value T) sc (fun _ _ _ _ _ _ us hl => match us, hl with | [_, _, _], _ => rfl) ?_ fun cdv A outer s H vs Q E hr h => ?_, g_law_value T, kp_of (fd_law_value T)⟩
  · rintro vs H Q E ⟨d, l, a, sp, lk, st, rfl, _⟩; rfl
  · obtain ⟨d, l, a, sp, lk, st, rfl, ⟨⟨am, ar, as_, al, ra, h1, h2, h3, h4, h5, h6⟩, ok⟩, ⟨las, hl, hlp⟩, lok, ⟨b2, ha, hb2⟩, so, hbd, k⟩ := h
    have hu := room_u hr
    refine ⟨_, pss_cons (ps_asg (pe_tup (pa_cons (pe_t1 (cr_dp rfl) (b_dict T) (pe_lz rfl (b_zip T) (b_list T) (pa_cons (pe_dget hu (pv 0) pe_str (fun _ _ => rfl)) (pa_cons (pe_ti (pv 2)) pa_nil)))) (pa_cons pe_int pa_nil))) (pg_tup rfl (pgs_cons (pg_name (i := 3) sc.nd rfl (.inr rfl)) (pgs_cons (pg_name (i := 4) sc.nd rfl (.inl rfl)) pgs_nil))))
      (pss_cons (ps_dput hu (pv 3) pe_str pe_int rfl)
      (pss_cons (ps_for PassesOwn.never rfl (pi_list (pv 1)) (pg_tup rfl (pgs_cons (pg_name (i := 5) sc.nd rfl (.inl rfl)) (pgs_cons (pg_name (i := 6) sc.nd rfl (.inl rfl)) pgs_nil)))
        (pss_one (ps_if (pt_cmpR op_eq (pv 5) (pe_ti (pv 2)) (nomark _))
          (pss_one (ps_set (i := 4) sc.nd rfl (.inl rfl) (pe_b1 (cr_sum rfl) (b_sum T) (pe_lc (own := [("_law_source", 7), ("_law_factor_here", 8)]) (g := twoT K 7 8) (tt := tYes) rfl sc.nd (pi_tup (pv 6)) (blkOk_by (N := nValue) (sc := defScope s_law_value) (by decide +kernel))
            (fun _ _ _ _ _ => pg_tup rfl (pgs_cons (pg_name (i := 7) sc.nd rfl (.inl rfl)) (pgs_cons (pg_name (i := 8) sc.nd rfl (.inl rfl)) pgs_nil))) (fun _ _ _ _ _ => pts_nil) (fun _ _ _ _ _ => pe_op op_mulW (pv 8) (pe_dget hu (pv 3) (pv 7) (fun _ _ => rfl)))))))
          pss_nil)))
      (pss_one (ps_ret (pv 4))))), ?_⟩
    have hl2 := ok.regs.2.1
    have zl := zipK_len (xs := sp.registers) (ys := st.2.map V.int)
    have zm := zipK_map ok.regs.1 so.len
    refine ⟨_, rfl, d, _, rfl, getS h1 (sk_registers _ _ _ _), _, rfl, rd_it ha rfl (rd_dz h3 (.inr hb2) (by omega) fun kd H1 hkd s1 hk => ?_)⟩
    generalize mergeK [] (zipK sp.registers (st.2.map V.int)) = kv0 at hk zl zm
    refine ⟨by show 2 ≤ sizeLine; decide, fun t ht => ⟨t, _, rfl, SqT.of upd_same, rfl, _, _, rfl, _, _, rfl, rfl, ?_⟩⟩
    refine ⟨_, rfl, kd, _, rfl, putS (same_new _ ht _ _ hk) (by omega), ?_⟩
    have s2 := Same.put (Same.new s1 (.tup [V.ref kd, V.int 0]) ht) (.dK (putK kv0 (.inr oneS) (.int 1))) hkd
    have hk2 := upd_same (H := upd H1 t (.tup [V.ref kd, V.int 0])) (a := kd) (o := .dK (putK kv0 (.inr oneS) (.int 1)))
    have hm := kn3_map zm fun x hx => (ok.regs.2.2 x hx).amt
    refine ⟨_, rfl, l, rfl, ⟨_, SqL.of (s2 _ _ hl)⟩, for_it (walk_list (xs := las.map V.ref)) (fun i σ H3 => ∃ v5 v6, σ = [some (.ref d), some (.ref l), some (.ref a), some (.ref kd), some (.int (TwM.value amtS oneS sp (lk.take i) st)), v5, v6, none, none] ∧ Same (upd (upd H1 t (.tup [V.ref kd, V.int 0])) kd (.dK (putK kv0 (.inr oneS) (.int 1)))) H3)
      ⟨_, _, rfl, Same.refl _⟩ (fun i σ H3 _ ⟨_, _, _, s3⟩ => SqL.of ((s2.trans s3) _ _ hl)) ?_ ?_⟩
    · rintro i y σ H3 H4 hi ⟨v5, v6, rfl, s3⟩ ⟨rfl, hy⟩
      obtain ⟨c, rfl, hc⟩ := refs_at hy
      obtain ⟨ch, hch, td, tda, tt⟩ := paired_at hlp hc
      have s4 := s2.trans s3
      refine ⟨c, _, rfl, SqT.of (s4 _ _ tda), rfl, _, _, rfl, _, _, rfl, rfl, ?_⟩
      refine ⟨_, rfl, _, rfl, rd_it (s4 _ _ ha) rfl (rd_eq rfl ⟨_, rfl, ?_⟩)⟩
      have mch := List.mem_of_getElem? hch
      have tok := lok.terms ch mch
      by_cases em : ch.1 = st.1
      · have e1 : (lk.take i).find? (fun p => decide (p.1 = st.1)) = none := by
          refine List.find?_eq_none.mpr fun p hp z => ?_
          have := nodup_at lok.nd hch
          exact this (List.mem_map.mpr ⟨p, hp, by rw [em]; exact of_decide_eq_true z⟩)
        have e2 : TwM.value amtS oneS sp (lk.take (i + 1)) st = TwM.sumT (TwM.known amtS oneS sp.registers st.2 0) ch.2 := by
          unfold TwM.value
          rw [take_snoc hch, List.find?_append, e1]
          simp [em]
        refine it_dec (congrArg V.str em) ⟨_, rfl, ?_⟩
        refine sum_terms (i := 7) (j := 8) (e := 3) (kn := TwM.known amtS oneS sp.registers st.2 0) (tt.tk (Same.tk s4)) (by have := tok.few; omega) (s3 _ _ hk2) (fun t ht => ⟨hm t.1 ?_, mul_ok (by have := tok.fac t ht; omega) (TwM.known_lt (by decide) sp.registers hbd (by decide) t.1) (by decide) (by decide)⟩)
          (fun _ _ => rfl) (fun _ _ => rfl) (fun _ _ => rfl) (fun _ _ => rfl) fun H8 s8 => ?_
        · have := tok.src t ht
          simp only [List.mem_append, List.mem_cons, List.not_mem_nil, or_false] at this ⊢
          rcases this with q | q
          · exact .inr q
          · exact .inl q
        · exact ⟨_, _, by rw [e2]; rfl, s3.trans s8⟩
      · refine it_decF (fun z => em (V.str.inj z)) ⟨some (.str ch.1), some (.ref td), ?_, s3⟩
        have e2 : TwM.value amtS oneS sp (lk.take (i + 1)) st = TwM.value amtS oneS sp (lk.take i) st := by
          unfold TwM.value
          rw [take_snoc hch, List.find?_append]
          simp [em]
        rw [e2]
        rfl
    · rintro σ H3 ⟨v5, v6, rfl, s3⟩
      have lr : las.length = lk.length := hlp.length
      rw [List.length_map, lr, List.take_length]
      exact ⟨_, rfl, k H3 (s2.trans s3)⟩
def spLGap : Sp := fun vs H Q _ => ∃ a b t c1 c2 g1 g2 s1 s2, vs = [.ref a, .ref b, .ref t] ∧ GivenAt H a g1 ∧ GivenAt H b g2 ∧ H t = some (.tup [.ref c1, .ref c2]) ∧ StateAt H c1 s1 ∧ StateAt H c2 s2 ∧ TwM.StateOk g1.spec s1 ∧ TwM.StateOk g2.spec s2 ∧ TwM.Bd 200 s1.2 ∧ TwM.Bd 200 s2.2 ∧
  ∀ H', Same H H' → Q (.int (TwM.value amtS oneS g1.spec g1.look s1 - TwM.value amtS oneS g2.spec g2.look s2)) H'
theorem ok_law_gap (T : Txt K mg) : Cal P w K mg base 2 "_law_gap" spLGap := by
  have sc : FnScope ["_law_one", "_law_two", "_law_states"] ["_law_one", "_law_two", "_law_states"] (defScope s_law_gap) := ⟨rfl, rfl, rfl, by decide +kernel, rfl, by decide +kernel, by decide +kernel⟩
  refine ⟨fn_by (fd_law_gap T) sc (fun _ _ _ _ _ _ us hl => match us, hl with | [_, _, _], _ => rfl) ?_ fun cdv A outer s H vs Q E hr h => ?_, g_law_gap T, kp_of (fd_law_gap T)⟩
  · rintro vs H Q E ⟨a, b, t, c1, c2, g1, g2, s1, s2, rfl, _⟩; rfl
  · obtain ⟨a, b, t, c1, c2, g1, g2, s1, s2, rfl, ⟨⟨d1, st1, lk1, p1, p2, p3, p4⟩, ok1⟩, ⟨⟨d2, st2, lk2, q1, q2, q3, q4⟩, ok2⟩, ht, hs1, hs2, so1, so2, bd1, bd2, k⟩ := h
    refine ⟨_, pss_one (ps_ret (pe_op op_sub (pe_c (ok_law_value T) hr (pa_cons (pe_ti (pv 0)) (pa_cons (pe_ti (pv 0)) (pa_cons (pe_ti (pv 2)) pa_nil)))) (pe_c (ok_law_value T) hr (pa_cons (pe_ti (pv 1)) (pa_cons (pe_ti (pv 1)) (pa_cons (pe_ti (pv 2)) pa_nil)))))), ?_⟩
    refine ⟨_, rfl, rd_it p1 rfl ⟨_, rfl, rd_it p1 rfl ⟨_, rfl, rd_it ht rfl ⟨d1, lk1, c1, g1.spec, g1.look, s1, rfl, p2, p4, ⟨ok1.nd, ok1.mode, ok1.terms, ok1.few⟩, hs1, so1, bd1, fun H1 k1 => ?_⟩⟩⟩⟩
    refine ⟨_, rfl, rd_it (k1 _ _ q1) rfl ⟨_, rfl, rd_it (k1 _ _ q1) rfl ⟨_, rfl, rd_it (k1 _ _ ht) rfl ⟨d2, lk2, c2, g2.spec, g2.look, s2, rfl, q2.kp (Same.kp k1), q4.kp (Same.kp k1), ⟨ok2.nd, ok2.mode, ok2.terms, ok2.few⟩, hs2.same k1, so2, bd2, fun H2 k2 => ?_⟩⟩⟩⟩
    exact ⟨_, _, rfl, rfl, k H2 (k1.trans k2)⟩
end
end Tw
end

section
set_option Elab.async false
set_option linter.all false
set_option maxRecDepth 100000
set_option maxHeartbeats 4000000
/-! Names mapped by dicts; a program renamed. -/
namespace Tw
open PySem PySem.Spec PyProof.Rows L2
/-- texts to texts -/
def MapS (kvs : List (Key × V)) (xs : List Str) (f : Str → Str) : Prop := ∀ x ∈ xs, valV kvs (.inr x) = some (.str (f x))
structure Ren (xs : List Str) (f : Str → Str) : Prop where
  name : ∀ x ∈ xs, NameOk (f x)
  inj : ∀ x ∈ xs, ∀ y ∈ xs, f x = f y → x = y
theorem ren_ex {xs ns : List Str} (nx : xs.Nodup) (nn : ns.Nodup) (l : xs.length ≤ ns.length) (ok : ∀ x ∈ ns, NameOk x) : ∃ f : Str → Str, MapS (mergeK [] (zipK xs (ns.map V.str))) xs f ∧ Ren xs f := by
  refine ⟨fun x => (ns[xs.idxOf x]?).getD x, fun x hx => ?_, fun x hx => ?_, fun x hx y hy e => ?_⟩
  · have hi := List.idxOf_lt_length_of_mem hx
    have h2 := List.getElem?_eq_getElem (l := ns) (i := xs.idxOf x) (by omega)
    show valV _ _ = some (.str ((ns[xs.idxOf x]?).getD x))
    rw [h2]
    exact zipK_at xs _ [] _ nx (by rw [List.getElem?_eq_getElem hi, List.getElem_idxOf hi]) (by rw [List.getElem?_map, h2]; rfl)
  · have hi := List.idxOf_lt_length_of_mem hx
    show NameOk ((ns[xs.idxOf x]?).getD x)
    rw [List.getElem?_eq_getElem (l := ns) (i := xs.idxOf x) (by omega)]
    exact ok _ (List.getElem_mem _)
  · have hi := List.idxOf_lt_length_of_mem hx
    have hj := List.idxOf_lt_length_of_mem hy
    have e2 : (ns[xs.idxOf x]?).getD x = (ns[xs.idxOf y]?).getD y := e
    rw [List.getElem?_eq_getElem (l := ns) (i := xs.idxOf x) (by omega), List.getElem?_eq_getElem (l := ns) (i := xs.idxOf y) (by omega)] at e2
    have e3 := nodup_inj nn _ _ e2
    have e4 : xs[xs.idxOf x]'hi = xs[xs.idxOf y]'hj := by congr 1
    rw [List.getElem_idxOf hi, List.getElem_idxOf hj] at e4
    exact e4
theorem Ren.nodup {xs : List Str} {f : Str → Str} (r : Ren xs f) : ∀ {ys : List Str}, ys.Nodup → (∀ y ∈ ys, y ∈ xs) → (ys.map f).Nodup := fun {ys} nd h => by
  refine List.pairwise_map.mpr (List.Pairwise.imp_of_mem (fun {a b} ha hb n e => n (r.inj a (h a ha) b (h b hb) e)) nd)
/-- keys of a merge -/
theorem putK_new {d : List (Key × V)} {k : Key} {v : V} (h : k ∉ d.map (·.1)) : putK d k v = d ++ [(k, v)] := by
  unfold putK
  rw [if_neg]
  intro z
  obtain ⟨p, hp, e⟩ := List.any_eq_true.mp z
  exact h (List.mem_map.mpr ⟨p, hp, of_decide_eq_true e⟩)
theorem mergeK_app : ∀ (kvs d : List (Key × V)), ((d ++ kvs).map (·.1)).Nodup → mergeK d kvs = d ++ kvs
  | [], d, _ => (List.append_nil d).symm
  | (k, v) :: r, d, h => by
    rw [mergeK_cons, putK_new]
    · rw [mergeK_app r (d ++ [(k, v)]) (by rw [List.append_assoc]; exact h), List.append_assoc]
      rfl
    · intro z
      rw [List.map_append] at h
      exact (List.nodup_append.mp h).2.2 k z k List.mem_cons_self rfl
theorem zipK_keys : ∀ (xs : List Str) (ys : List V), ((zipK xs ys).map (·.1)).Sublist (xs.map Sum.inr)
  | [], _ => List.Sublist.refl _
  | x :: xs, [] => by
    have : zipK (x :: xs) [] = [] := rfl
    rw [this]
    exact List.nil_sublist _
  | x :: xs, y :: ys => (zipK_keys xs ys).cons_cons (Sum.inr x)
theorem zipK_nd {xs : List Str} {ys : List V} (h : xs.Nodup) : ((zipK xs ys).map (·.1)).Nodup :=
  (List.pairwise_map.mpr (List.Pairwise.imp (fun {a b} n e => n (Sum.inr.inj e)) h) : (xs.map (Sum.inr : Str → Key)).Nodup).sublist (zipK_keys xs ys)
theorem zipK_merge {xs : List Str} {ys : List V} (h : xs.Nodup) : mergeK [] (zipK xs ys) = zipK xs ys := mergeK_app _ [] (by simpa using zipK_nd h)
/-- sources -/
def srcF (f : Str → Str) (x : Str) : Str := if x = oneS then oneS else if x = amtS then amtS else f x
theorem src_map {kvs : List (Key × V)} {xs : List Str} {f : Str → Str} (h : MapS kvs xs f) : MapS (putK (putK kvs (.inr amtS) (.str amtS)) (.inr oneS) (.str oneS)) (xs ++ [amtS, oneS]) (srcF f) := fun y hy => by
  rw [valS_put, valS_put]
  unfold srcF
  split
  · rfl
  · split
    · rfl
    · rcases List.mem_append.mp hy with q | q
      · exact h y q
      · simp only [List.mem_cons, List.not_mem_nil, or_false] at q
        rcases q with q | q <;> contradiction
def renT (f : Str → Str) (ts : Terms) : Terms := ts.map fun t => (srcF f t.1, t.2)
def renC (f : Str → Str) (cs : List (Str × Terms)) : List (Str × Terms) := cs.map fun c => (f c.1, renT f c.2)
def renR (m f : Str → Str) (r : TwM.Rule Str) : TwM.Rule Str := ⟨m r.mode, r.sign, m r.goal, renC f r.changes⟩
def renL (m f : Str → Str) (l : List (Str × Terms)) : List (Str × Terms) := l.map fun c => (m c.1, renT f c.2)
theorem srcF_inj {xs : List Str} {f : Str → Str} (r : Ren xs f) : ∀ x ∈ xs ++ [amtS, oneS], ∀ y ∈ xs ++ [amtS, oneS], srcF f x = srcF f y → x = y := by
  have d : amtS ≠ oneS := by decide +kernel
  have key : ∀ x ∈ xs ++ [amtS, oneS], (x = oneS ∧ srcF f x = oneS) ∨ (x ≠ oneS ∧ x = amtS ∧ srcF f x = amtS) ∨ (x ∈ xs ∧ srcF f x = f x ∧ f x ≠ oneS ∧ f x ≠ amtS) := fun x hx => by
    unfold srcF
    split
    · exact .inl ⟨‹_›, rfl⟩
    · split
      · exact .inr (.inl ⟨‹_›, ‹_›, rfl⟩)
      · rcases List.mem_append.mp hx with q | q
        · exact .inr (.inr ⟨q, rfl, (r.name x q).one, (r.name x q).amt⟩)
        · simp only [List.mem_cons, List.not_mem_nil, or_false] at q
          rcases q with q | q <;> contradiction
  intro x hx y hy e
  rcases key x hx with ⟨a1, a2⟩ | ⟨a0, a1, a2⟩ | ⟨a1, a2, a3, a4⟩ <;> rcases key y hy with ⟨b1, b2⟩ | ⟨b0, b1, b2⟩ | ⟨b1, b2, b3, b4⟩
  · rw [a1, b1]
  · rw [a2, b2] at e; exact absurd e.symm d
  · rw [a2, b2] at e; exact absurd e.symm b3
  · rw [a2, b2] at e; exact absurd e d
  · rw [a1, b1]
  · rw [a2, b2] at e; exact absurd e.symm b4
  · rw [a2, b2] at e; exact absurd e a3
  · rw [a2, b2] at e; exact absurd e a4
  · rw [a2, b2] at e; exact r.inj x a1 y b1 e
theorem renT_ok {xs ss ss' : List Str} {f : Str → Str} {ts : Terms} (r : Ren xs f) (h : TermsOk ss ts) (sub : ∀ x ∈ ss, x ∈ xs ++ [amtS, oneS]) (im : ∀ x ∈ ss, srcF f x ∈ ss') : TermsOk ss' (renT f ts) := by
  refine ⟨?_, fun t ht => ?_, fun t ht => ?_, by unfold renT; rw [List.length_map]; exact h.few⟩
  · unfold renT
    rw [List.map_map]
    have e : ((fun t : Str × Int => t.1) ∘ fun t : Str × Int => (srcF f t.1, t.2)) = srcF f ∘ fun t : Str × Int => t.1 := rfl
    rw [e, ← List.map_map]
    refine List.pairwise_map.mpr (List.Pairwise.imp_of_mem (fun {a b} ha hb n e => n ?_) h.nd)
    obtain ⟨t1, h1, rfl⟩ := List.mem_map.mp ha
    obtain ⟨t2, h2, rfl⟩ := List.mem_map.mp hb
    exact srcF_inj r _ (sub _ (h.src _ h1)) _ (sub _ (h.src _ h2)) e
  · obtain ⟨t1, h1, rfl⟩ := List.mem_map.mp ht
    exact im _ (h.src _ h1)
  · obtain ⟨t1, h1, rfl⟩ := List.mem_map.mp ht
    have := h.fac t1 h1
    exact this
theorem srcF_reg {f : Str → Str} {x : Str} (h : NameOk x) : srcF f x = f x := by
  unfold srcF
  rw [if_neg h.one, if_neg h.amt]
theorem srcF_one {f : Str → Str} : srcF f oneS = oneS := if_pos rfl
theorem srcF_amt {f : Str → Str} : srcF f amtS = amtS := by
  unfold srcF
  rw [if_neg (by decide +kernel), if_pos rfl]
theorem src_im {sp : TwM.Spec Str} (ok : SpecOk sp) {f : Str → Str} {rs : List Str} (pr : rs.Perm sp.registers) : (∀ x ∈ sp.registers ++ [amtS, oneS], srcF f x ∈ rs.map f ++ [amtS, oneS]) ∧ ∀ x ∈ sp.registers ++ [oneS], srcF f x ∈ rs.map f ++ [oneS] := by
  have reg : ∀ x ∈ sp.registers, srcF f x ∈ rs.map f := fun x hx => by
    rw [srcF_reg (ok.regs.2.2 x hx)]
    exact List.mem_map.mpr ⟨x, pr.symm.subset hx, rfl⟩
  constructor
  · intro x hx
    rcases List.mem_append.mp hx with q | q
    · exact List.mem_append_left _ (reg x q)
    · simp only [List.mem_cons, List.not_mem_nil, or_false] at q
      rcases q with rfl | rfl
      · rw [srcF_amt]; simp
      · rw [srcF_one]; simp
  · intro x hx
    rcases List.mem_append.mp hx with q | q
    · exact List.mem_append_left _ (reg x q)
    · rw [List.mem_singleton.mp q, srcF_one]; simp
theorem ren_ok {sp : TwM.Spec Str} (ok : SpecOk sp) {m f : Str → Str} (rm : Ren sp.modes m) (rf : Ren sp.registers f) {ms rs sg : List Str} {ru : List (TwM.Rule Str)} (pm : ms.Perm sp.modes) (pr : rs.Perm sp.registers) (ps : sg.Perm sp.signs) (pu : ru.Perm sp.rules) :
    SpecOk ⟨ms.map m, rs.map f, sg, ru.map (renR m f)⟩ := by
  have lm := pm.length_eq
  have lr := pr.length_eq
  have ls := ps.length_eq
  have lu := pu.length_eq
  refine ⟨⟨rm.nodup (pm.nodup_iff.mpr ok.modes.1) fun y hy => pm.subset hy, ?_, ?_, fun x hx => ?_⟩, ⟨rf.nodup (pr.nodup_iff.mpr ok.regs.1) fun y hy => pr.subset hy, ?_, fun x hx => ?_⟩, ⟨ps.nodup_iff.mpr ok.signs.1, by rw [ls]; exact ok.signs.2.1, by rw [ls]; exact ok.signs.2.2.1, fun x hx => ok.signs.2.2.2 x (ps.subset hx)⟩, ?_, fun r hr => ?_, ?_, ?_⟩
  · rw [List.length_map, lm]; exact ok.modes.2.1
  · rw [List.length_map, lm]; exact ok.modes.2.2.1
  · obtain ⟨y, hy, rfl⟩ := List.mem_map.mp hx
    exact rm.name y (pm.subset hy)
  · rw [List.length_map, lr]; exact ok.regs.2.1
  · obtain ⟨y, hy, rfl⟩ := List.mem_map.mp hx
    exact rf.name y (pr.subset hy)
  · show (ms.map m).length * ((rs.map f).length + 1) ≤ 3
    rw [List.length_map, List.length_map, lm, lr]; exact ok.wide
  · obtain ⟨q, hq, rfl⟩ := List.mem_map.mp hr
    have rk := ok.rules q (pu.subset hq)
    refine ⟨List.mem_map.mpr ⟨_, pm.symm.subset rk.mode, rfl⟩, ps.symm.subset rk.sign, List.mem_map.mpr ⟨_, pm.symm.subset rk.goal, rfl⟩, ?_, fun c hc => ?_, fun c hc => ?_, ?_⟩
    · show ((renC f q.changes).map (·.1)).Nodup
      have e : (renC f q.changes).map (·.1) = (q.changes.map (·.1)).map f := by unfold renC; rw [List.map_map, List.map_map]; rfl
      rw [e]
      exact rf.nodup rk.ch.nd fun y hy => by
        obtain ⟨c, hc, rfl⟩ := List.mem_map.mp hy
        exact rk.ch.reg c hc
    · obtain ⟨d, hd, rfl⟩ := List.mem_map.mp hc
      exact List.mem_map.mpr ⟨_, pr.symm.subset (rk.ch.reg d hd), rfl⟩
    · obtain ⟨d, hd, rfl⟩ := List.mem_map.mp hc
      exact renT_ok rf (rk.ch.ok d hd) (fun x hx => hx) (src_im ok pr).1
    · show (renC f q.changes).length ≤ 4
      unfold renC
      rw [List.length_map]; exact rk.ch.few
  · show ((ru.map (renR m f)).map fun r => (r.mode, r.sign)).Nodup
    rw [List.map_map]
    have nd : (ru.map fun r => (r.mode, r.sign)).Nodup := (pu.map _).nodup_iff.mpr ok.pairs
    refine List.pairwise_map.mpr (List.Pairwise.imp_of_mem (fun {a b} ha hb n e => n ?_) (List.pairwise_map.mp nd))
    have e1 : m a.mode = m b.mode := congrArg Prod.fst e
    have e2 : a.sign = b.sign := congrArg Prod.snd e
    exact Prod.ext (rm.inj _ (ok.rules a (pu.subset ha)).mode _ (ok.rules b (pu.subset hb)).mode e1) e2
  · rw [List.length_map, lu]; exact ok.few
theorem look_ok {g : Given} (ok : GivenOk g) {m f : Str → Str} (rm : Ren g.spec.modes m) (rf : Ren g.spec.registers f) {ms rs sg : List Str} {ru : List (TwM.Rule Str)} (pm : ms.Perm g.spec.modes) (pr : rs.Perm g.spec.registers) (ps : sg.Perm g.spec.signs) (pu : ru.Perm g.spec.rules) :
    GivenOk ⟨⟨ms.map m, rs.map f, sg, ru.map (renR m f)⟩, (m g.start.1, rs.map fun x => TwM.look x g.spec.registers g.start.2), renL m f g.look⟩ := by
  have e : (renL m f g.look).map (·.1) = (g.look.map (·.1)).map m := by unfold renL; rw [List.map_map, List.map_map]; rfl
  refine ⟨ren_ok ok.spec rm rf pm pr ps pu, ⟨List.mem_map.mpr ⟨_, pm.symm.subset ok.start.mode, rfl⟩, ?_⟩, fun y hy => ?_, ?_, fun l hl => ?_, fun l hl => ?_, ?_⟩
  · show (rs.map _).length = (rs.map f).length
    rw [List.length_map, List.length_map]
  · obtain ⟨x, hx, rfl⟩ := List.mem_map.mp hy
    obtain ⟨i, hi, rfl⟩ := List.getElem_of_mem (pr.subset hx)
    have h2 := List.getElem?_eq_getElem (l := g.start.2) (i := i) (by rw [ok.start.len]; exact hi)
    rw [TwM.look_at ok.spec.regs.1 (List.getElem?_eq_getElem hi) h2]
    exact ok.bd _ (List.getElem_mem _)
  · show ((renL m f g.look).map (·.1)).Nodup
    rw [e]
    exact rm.nodup ok.nd fun y hy => by
      obtain ⟨c, hc, rfl⟩ := List.mem_map.mp hy
      exact ok.mode c hc
  · obtain ⟨d, hd, rfl⟩ := List.mem_map.mp hl
    exact List.mem_map.mpr ⟨_, pm.symm.subset (ok.mode d hd), rfl⟩
  · obtain ⟨d, hd, rfl⟩ := List.mem_map.mp hl
    refine renT_ok rf (ok.terms d hd) (fun x hx => ?_) (src_im ok.spec pr).2
    rcases List.mem_append.mp hx with q | q
    · exact List.mem_append_left _ q
    · rw [List.mem_singleton.mp q]; simp
  · show (renL m f g.look).length ≤ 10
    unfold renL
    rw [List.length_map]; exact ok.few
end Tw
end

section
set_option Elab.async false
set_option linter.all false
set_option maxRecDepth 100000
set_option maxHeartbeats 4000000
/-! Terms renamed, walked. -/
namespace Tw
open PySem PySem.Spec PyProof.Rows L2
abbrev pairT (i j e : Nat) : TE := tTup (tCons (tDGet (tVar e) (tVar i)) (tCons (tVar j) tNil))
def RenT (K : PySem.W.Frag) (i j e : Nat) (te : TE) : TE := t1 (rTu K) (tLc (iTup K te) (twoT K i j) tYes (pairT i j e) [i, j])
theorem ren_terms {K : PySem.W.Frag} {σ : L2.St} {H : Hp} {Q : VK} {a d : Addr} {kvs : List (Key × V)} {ts : Terms} {f : Str → Str} {i j e : Nat}
    (ha : TermsAt H a ts) (hn : ts.length ≤ 900) (hd : H d = some (.dK kvs)) (hk : ∀ t ∈ ts, valV kvs (.inr t.1) = some (.str (srcF f t.1)))
    (hw : ∀ x y, wipe (((wipe σ [i, j]).set i (some x)).set j (some y)) [i, j] = wipe σ [i, j])
    (hi : ∀ x y, (((wipe σ [i, j]).set i (some x)).set j (some y))[i]? = some (some x)) (hj : ∀ x y, (((wipe σ [i, j]).set i (some x)).set j (some y))[j]? = some (some y)) (he : ∀ x y, (((wipe σ [i, j]).set i (some x)).set j (some y))[e]? = some (some (.ref d)))
    (q : ∀ a' H', Same H H' → TermsAt H' a' (renT f ts) → Q (.ref a') H') : RenT K i j e (tC (.ref a)) σ H Q := by
  obtain ⟨as, ha, pr⟩ := ha
  refine ⟨a, rfl, ⟨_, SqT.of ha⟩, fun D hD => lc_it (walk_tup (xs := as.map V.ref)) (fun n H2 => Same H H2 ∧ ∃ bs : List Addr, H2 D = some (.lst (bs.map V.ref)) ∧ Paired (TermAt H2) bs (renT f (ts.take n)))
    ⟨same_new _ hD, [], upd_same, .nil⟩ (fun n H2 _ ⟨s2, _⟩ => SqT.of (s2 _ _ ha)) ?_ ?_⟩
  · rintro n v H2 H3 hi2 ⟨s2, bs, hl2, bpr⟩ ⟨rfl, hv⟩
    obtain ⟨b, rfl, hb⟩ := refs_at hv
    obtain ⟨t, ht, tm⟩ := paired_at pr hb
    have mt : t ∈ ts := List.mem_of_getElem? ht
    refine ⟨b, _, rfl, SqT.of (s2 _ _ tm), rfl, _, _, rfl, _, _, rfl, rfl, hw _ _, _, he _ _, _, hi _ _, d, _, rfl, getS (s2 _ _ hd) (hk t mt), _, hj _ _, by show 2 ≤ sizeLine; decide, fun p hp => ?_⟩
    have n1 := same_new (.tup [V.str (srcF f t.1), V.int t.2]) hp
    have hl3 := n1 _ _ hl2
    have lb : bs.length ≤ 900 := by
      have := bpr.length
      unfold renT at this
      rw [List.length_map, List.length_take] at this
      omega
    refine ⟨_, hl3, by rw [List.length_map]; exact small1000 (by omega), Same.put (s2.trans n1) _ hD, bs ++ [p], by rw [upd_same, List.map_append]; rfl, ?_⟩
    have e2 : renT f (ts.take (n + 1)) = renT f (ts.take n) ++ [(srcF f t.1, t.2)] := by unfold renT; rw [take_snoc ht, List.map_append]; rfl
    rw [e2]
    exact paired_snoc (Paired.imp (fun _ _ z => (tk_put _ hl3) _ _ (n1 _ _ z)) bpr) ((tk_put _ hl3) _ _ upd_same)
  · rintro H2 ⟨s2, bs, hl2, bpr⟩
    have lr : as.length = ts.length := pr.length
    rw [List.length_map, lr, List.take_length] at bpr
    refine rd_tu hl2 fun l hl => ?_
    have n1 := same_new (.tup (bs.map V.ref)) hl
    exact q l _ (s2.trans n1) ⟨bs, upd_same, Paired.imp (fun _ _ z => n1 _ _ z) bpr⟩
end Tw
end

section
set_option Elab.async false
set_option linter.all false
set_option maxRecDepth 100000
set_option maxHeartbeats 4000000
/-! A program renamed. -/
namespace Tw
open PySem PySem.Spec PyProof.Rows L2
section
variable {P : Program} {w : World} {K : PySem.W.Frag} {mg : Str → Option Value} {base : Heap}
abbrev nRen : List Str := ["_law_bag_here", "_law_given", "_law_spec_here", "_law_start", "_law_seen", "_law_names_here", "_law_modes", "_law_registers", "_law_order", "_law_sources", "_law_late", "_law_mode", "_law_name", "_law_sign", "_law_goal", "_law_changes_here", "_law_some", "_law_terms_here", "_law_source", "_law_factor_here", "_law_values", "_law_look_z"]
def spLRenamed : Sp := fun vs H Q _ => ∃ b ca a g, vs = [.ref b, .ref a] ∧ BagAt H b ca ∧ GivenAt H a g ∧ ∀ a' g' H', Kp H H' → BagAt H' b ca → GivenAt H' a' g' → g'.spec.signs.Perm g.spec.signs → Q (.ref a') H'
theorem ok_law_renamed (T : Txt K mg) : Cal P w K mg base 4 "_law_renamed" spLRenamed := by
  have sc : FnScope nRen ["_law_bag_here", "_law_given"] (defScope s_law_renamed) := ⟨rfl, rfl, rfl, by decide +kernel, rfl, by decide +kernel, by decide +kernel⟩
  refine ⟨fn_by (fd_law_renamed T) sc (fun _ _ _ _ _ _ us hl => match us, hl with | [_, _], _ => rfl) ?_ fun cdv A outer s H vs Q E hr h => ?_, g_law_renamed T, kp_of (fd_law_renamed T)⟩
  · rintro vs H Q E ⟨b, ca, a, g, rfl, _⟩; rfl
  · obtain ⟨b, ca, a, g, rfl, hbag, ⟨⟨d, st, lk, hg, ⟨⟨am, ar, as_, al, ra, h1, h2, h3, h4, h5, h6⟩, ok⟩, ⟨b2, hst, hb2⟩, ⟨las, hlk, hlp⟩⟩, gok⟩, k⟩ := h
    have hu := room_u hr
    refine ⟨_, pss_cons (ps_asg (pv 1) (pg_tup rfl (pgs_cons (pg_name (i := 2) sc.nd rfl (.inl rfl)) (pgs_cons (pg_name (i := 3) sc.nd rfl (.inl rfl)) (pgs_cons (pg_name (i := 4) sc.nd rfl (.inl rfl)) pgs_nil)))))
      (pss_cons (ps_set (i := 5) sc.nd rfl (.inl rfl) (pe_c (ok_law_names T) hr (pa_cons (pv 0) (pa_cons pe_int pa_nil))))
      (pss_cons (ps_asg (pe_tup (pa_cons (pe_t1 (cr_dp rfl) (b_dict T) (pe_lz rfl (b_zip T) (b_list T) (pa_cons (pe_dget hu (pv 2) pe_str (fun _ _ => rfl)) (pa_cons (pv 5) pa_nil))))
          (pa_cons (pe_t1 (cr_dp rfl) (b_dict T) (pe_lz rfl (b_zip T) (b_list T) (pa_cons (pe_dget hu (pv 2) pe_str (fun _ _ => rfl)) (pa_cons (pe_slice sl_list (pv 5) (po_some pe_int) po_none) pa_nil)))) pa_nil)))
        (pg_tup rfl (pgs_cons (pg_name (i := 6) sc.nd rfl (.inr rfl)) (pgs_cons (pg_name (i := 7) sc.nd rfl (.inr rfl)) pgs_nil))))
      (pss_cons (ps_set (i := 8) sc.nd rfl (.inl rfl) (pe_c ((ok_law_mixed T).up (by decide)) hr (pa_cons (pv 0) (pa_cons (pe_dget hu (pv 2) pe_str (fun _ _ => rfl)) pa_nil))))
      (pss_cons (ps_set (i := 9) sc.nd rfl (.inr rfl) (pe_t1 (cr_dp rfl) (b_dict T) (LiI.pe_listItems rfl (pv 7) rfl (b_list T) (by decide +kernel))))
      (pss_cons (ps_asg (pe_tup (pa_cons pe_str (pa_cons pe_str pa_nil))) (pg_tup rfl (pgs_cons (pg_sub (pv 9) pe_str (set_dict hu)) (pgs_cons (pg_sub (pv 9) pe_str (set_dict hu)) pgs_nil))))
      (pss_cons (ps_set (i := 10) sc.nd rfl (.inl rfl) (pe_disp (pps_cons pe_str (pe_lc (own := [("_law_mode", 11)]) (g := gName 11) (tt := tYes) rfl sc.nd (pi_list (pe_c ((ok_law_mixed T).up (by decide)) hr (pa_cons (pv 0) (pa_cons (pe_dget hu (pv 2) pe_str (fun _ _ => rfl)) pa_nil)))) (blkOk_by (N := nRen) (sc := defScope s_law_renamed) (by decide +kernel))
            (fun _ _ _ _ _ => pg_name (i := 11) sc.nd rfl (Or.inl rfl)) (fun _ _ _ _ _ => pts_nil) (fun _ _ _ _ _ => pe_dget hu (pv 6) (pv 11) (fun _ _ => rfl)))
          (pps_cons pe_str (pe_lc (own := [("_law_name", 12)]) (g := gName 12) (tt := tYes) rfl sc.nd (pi_list (pv 8)) (blkOk_by (N := nRen) (sc := defScope s_law_renamed) (by decide +kernel))
            (fun _ _ _ _ _ => pg_name (i := 12) sc.nd rfl (Or.inl rfl)) (fun _ _ _ _ _ => pts_nil) (fun _ _ _ _ _ => pe_dget hu (pv 7) (pv 12) (fun _ _ => rfl))) pps_nil)) rfl rfl (by simp) (by decide)))
      (pss_cons (ps_asg (pe_tup (pa_cons (pe_c ((ok_law_mixed T).up (by decide)) hr (pa_cons (pv 0) (pa_cons (pe_dget hu (pv 2) pe_str (fun _ _ => rfl)) pa_nil))) (pa_cons (pe_lst pa_nil) pa_nil))) (pg_tup rfl (pgs_cons (pg_sub (pv 10) pe_str (set_dict hu)) (pgs_cons (pg_sub (pv 10) pe_str (set_dict hu)) pgs_nil))))
      (pss_cons (ps_for PassesOwn.never rfl (pi_list (pe_c ((ok_law_mixed T).up (by decide)) hr (pa_cons (pv 0) (pa_cons (pe_dget hu (pv 2) pe_str (fun _ _ => rfl)) pa_nil)))) (pg_tup rfl (pgs_cons (pg_name (i := 11) sc.nd rfl (.inl rfl)) (pgs_cons (pg_name (i := 13) sc.nd rfl (.inl rfl)) (pgs_cons (pg_name (i := 14) sc.nd rfl (.inl rfl)) (pgs_cons (pg_name (i := 15) sc.nd rfl (.inl rfl)) pgs_nil)))))
        (pss_cons (ps_set (i := 16) sc.nd rfl (.inl rfl) (pe_lst pa_nil))
        (pss_cons (ps_for PassesOwn.never rfl (pi_tup (pv 15)) (pg_tup rfl (pgs_cons (pg_name (i := 12) sc.nd rfl (.inl rfl)) (pgs_cons (pg_name (i := 17) sc.nd rfl (.inl rfl)) pgs_nil)))
          (pss_one (ps_expr (pe_bm PySem.F.plainAttrs_list PySem.F.slot_list_append PySem.F.type_list_append mt_append (pv 16) (pa_cons (pe_tup (pa_cons (pe_dget hu (pv 7) (pv 12) (fun _ _ => rfl)) (pa_cons (pe_t1 cr_tu (b_tuple T) (pe_lc (own := [("_law_source", 18), ("_law_factor_here", 19)]) (g := twoT K 18 19) (tt := tYes) rfl sc.nd (pi_tup (pv 17)) (blkOk_by (N := nRen) (sc := defScope s_law_renamed) (by decide +kernel))
            (fun _ _ _ _ _ => pg_tup rfl (pgs_cons (pg_name (i := 18) sc.nd rfl (.inl rfl)) (pgs_cons (pg_name (i := 19) sc.nd rfl (.inl rfl)) pgs_nil))) (fun _ _ _ _ _ => pts_nil) (fun _ _ _ _ _ => pe_tup (pa_cons (pe_dget hu (pv 9) (pv 18) (fun _ _ => rfl)) (pa_cons (pv 19) pa_nil))))) pa_nil))) pa_nil)))))
        (pss_one (ps_expr (pe_bm PySem.F.plainAttrs_list PySem.F.slot_list_append PySem.F.type_list_append mt_append (pe_dget hu (pv 10) pe_str (fun _ _ => rfl)) (pa_cons (pe_tup (pa_cons (pe_dget hu (pv 6) (pv 11) (fun _ _ => rfl)) (pa_cons (pv 13) (pa_cons (pe_dget hu (pv 6) (pv 14) (fun _ _ => rfl)) (pa_cons (pe_t1 cr_tu (b_tuple T) (pv 16)) pa_nil))))) pa_nil)))))))
      (pss_cons (ps_set (i := 20) sc.nd rfl (.inr rfl) (pe_t1 (cr_dp rfl) (b_dict T) (pe_lz rfl (b_zip T) (b_list T) (pa_cons (pe_dget hu (pv 2) pe_str (fun _ _ => rfl)) (pa_cons (pe_ti (pv 3)) pa_nil)))))
      (pss_cons (ps_set (i := 21) sc.nd rfl (.inl rfl) (pe_lst pa_nil))
      (pss_cons (ps_for PassesOwn.never rfl (pi_list (pv 4)) (pg_tup rfl (pgs_cons (pg_name (i := 11) sc.nd rfl (.inl rfl)) (pgs_cons (pg_name (i := 17) sc.nd rfl (.inl rfl)) pgs_nil)))
          (pss_one (ps_expr (pe_bm PySem.F.plainAttrs_list PySem.F.slot_list_append PySem.F.type_list_append mt_append (pv 21) (pa_cons (pe_tup (pa_cons (pe_dget hu (pv 6) (pv 11) (fun _ _ => rfl)) (pa_cons (pe_t1 cr_tu (b_tuple T) (pe_lc (own := [("_law_source", 18), ("_law_factor_here", 19)]) (g := twoT K 18 19) (tt := tYes) rfl sc.nd (pi_tup (pv 17)) (blkOk_by (N := nRen) (sc := defScope s_law_renamed) (by decide +kernel))
            (fun _ _ _ _ _ => pg_tup rfl (pgs_cons (pg_name (i := 18) sc.nd rfl (.inl rfl)) (pgs_cons (pg_name (i := 19) sc.nd rfl (.inl rfl)) pgs_nil))) (fun _ _ _ _ _ => pts_nil) (fun _ _ _ _ _ => pe_tup (pa_cons (pe_dget hu (pv 9) (pv 18) (fun _ _ => rfl)) (pa_cons (pv 19) pa_nil))))) pa_nil))) pa_nil)))))
      (pss_one (ps_ret (pe_tup (pa_cons (pv 10) (pa_cons (pe_tup (pa_cons (pe_dget hu (pv 6) (pe_ti (pv 3)) (fun _ _ => rfl)) (pa_cons (pe_t1 cr_tu (b_tuple T) (pe_lc (own := [("_law_name", 12)]) (g := gName 12) (tt := tYes) rfl sc.nd (pi_list (pv 8)) (blkOk_by (N := nRen) (sc := defScope s_law_renamed) (by decide +kernel))
            (fun _ _ _ _ _ => pg_name (i := 12) sc.nd rfl (Or.inl rfl)) (fun _ _ _ _ _ => pts_nil) (fun _ _ _ _ _ => pe_dget hu (pv 20) (pv 12) (fun _ _ => rfl)))) pa_nil))) (pa_cons (pv 21) pa_nil))))))))))))))))), ?_⟩
    refine ⟨_, rfl, a, _, rfl, SqT.of hg, rfl, _, _, rfl, _, _, rfl, _, _, rfl, rfl, ?_⟩
    refine ⟨_, rfl, b, ca, rfl, hbag, fun ln ss H1 kp1 bag1 hln l12 nds noks => ?_⟩
    have lmo := ok.modes.2.2.1
    have lre := ok.regs.2.1
    -- the two dicts
    refine ⟨_, rfl, d, _, rfl, getS (kp1 _ _ h1 rfl) (sk_modes _ _ _ _), _, rfl, rd_dz (kp1 _ _ h2 (bagO_strs _)) (.inl hln) (by omega) fun md H2 hmd s2 hm2 => ?_⟩
    obtain ⟨fm, mm, rm⟩ := ren_ex ok.modes.1 nds (by omega) noks
    refine ⟨_, rfl, d, _, rfl, getS (s2 _ _ (kp1 _ _ h1 rfl)) (sk_registers _ _ _ _), _, rfl, _, rfl, ln, _, rfl, SqL.of (s2 _ _ hln), fun dn hdn => ?_⟩
    have e6 : cutV (ss.map V.str) (some 6) none = (ss.drop 6).map V.str := by rw [show (6 : Int) = ((6 : Nat) : Int) from rfl, cut_drop, List.map_drop]
    rw [e6]
    have s3 := Same.new s2 (.lst ((ss.drop 6).map V.str)) hdn
    refine rd_dz (s3 _ _ (kp1 _ _ h3 (bagO_strs _))) (.inl upd_same) (by omega) fun rd H4 hrd s4 hr4 => ?_
    obtain ⟨fr, mr, rr⟩ := ren_ex (ns := ss.drop 6) ok.regs.1 (nds.sublist (List.drop_sublist _ _)) (by rw [List.length_drop]; omega) fun x hx => noks x (List.mem_of_mem_drop hx)
    refine ⟨by show 2 ≤ sizeLine; decide, fun t ht => ⟨t, _, rfl, SqT.of upd_same, rfl, _, _, rfl, _, _, rfl, rfl, ?_⟩⟩
    have n5 := same_new (.tup [V.ref md, V.ref rd]) ht
    have s14 := (s3.trans s4).trans n5
    have hm5 := n5 _ _ (s4 _ _ ((same_new (.lst ((ss.drop 6).map V.str)) hdn) _ _ hm2))
    have hr5 := n5 _ _ hr4
    have kp5 := kp1.trans (Same.kp s14)
    have bag5 := bag1.same s14
    refine ⟨_, rfl, _, rfl, d, _, rfl, getS (kp5 _ _ h1 rfl) (sk_registers _ _ _ _), b, ca, ar, _, rfl, bag5, kp5 _ _ h3 (bagO_strs _), noBag_strs _, by rw [List.length_map]; omega, fun ol ys6 H6 _ kp6 bag6 pm6 hol => ?_⟩
    obtain ⟨rs, prs, rfl⟩ := perm_strs pm6
    have kp06 := kp5.trans kp6
    have hm6 := kp6 _ _ hm5 rfl
    have hr6 := kp6 _ _ hr5 rfl
    have zlR := zipK_len (xs := g.spec.registers) (ys := (ss.drop 6).map V.str)
    have emR : mergeK [] (mergeK [] (zipK g.spec.registers ((ss.drop 6).map V.str))) = mergeK [] (zipK g.spec.registers ((ss.drop 6).map V.str)) := by rw [zipK_merge ok.regs.1, zipK_merge ok.regs.1]
    generalize mergeK [] (zipK g.spec.registers ((ss.drop 6).map V.str)) = kvR at hr6 mr emR zlR
    generalize mergeK [] (zipK g.spec.modes (ss.map V.str)) = kvM at hm6 mm
    -- the sources
    refine ⟨_, rfl, rd, kvR, rfl, hr6, fun H7 p7 ts7 s7 hp7 _ _ hl7 pr7 => ⟨p7, ts7, kvR, rfl, SqL.of hl7, Paired.imp (fun _ _ z => SqT.of z) pr7, fun sd hsd => ?_⟩⟩
    rw [emR]
    have s7 : Same H6 H7 := s7
    have hsd6 := Same.fresh s7 hsd
    refine ⟨by show 2 ≤ sizeLine; decide, fun t2 ht2 => ?_⟩
    have l1 := length_putK kvR (.inr amtS) (.str amtS)
    refine ⟨t2, _, rfl, SqT.of upd_same, rfl, _, _, rfl, _, rfl, sd, _, rfl, putS (same_new _ ht2 _ _ upd_same) (by omega), _, _, rfl, _, rfl, sd, _, rfl, putS upd_same (show (putK kvR (.inr amtS) (.str amtS)).length ≤ 1000 by omega), rfl, ?_⟩
    have s8 := Same.put (Same.put (Same.new (Same.new s7 (.dK kvR) hsd) (.tup [V.str "amount", V.str "one"]) ht2) (.dK (putK kvR (.inr amtS) (.str amtS))) hsd6) (.dK (putK (putK kvR (.inr amtS) (.str amtS)) (.inr oneS) (.str oneS))) hsd6
    have hs8 := upd_same (H := upd (upd (upd H7 sd (.dK kvR)) t2 (.tup [V.str "amount", V.str "one"])) sd (.dK (putK kvR (.inr amtS) (.str amtS)))) (a := sd) (o := .dK (putK (putK kvR (.inr amtS) (.str amtS)) (.inr oneS) (.str oneS)))
    have ms8 := src_map mr
    generalize putK (putK kvR (.inr amtS) (.str amtS)) (.inr oneS) (.str oneS) = kvS at s8 hs8 ms8 ⊢
    generalize upd (upd (upd (upd H7 sd (.dK kvR)) t2 (.tup [V.str "amount", V.str "one"])) sd (.dK (putK kvR (.inr amtS) (.str amtS)))) sd (.dK kvS) = H8 at s8 hs8 ⊢
    have kp8 := kp06.trans (Same.kp s8)
    have bag8 := bag6.same s8
    have hm8 := s8 _ _ hm6
    have hr8 := s8 _ _ hr6
    have hol8 := s8 _ _ hol
    -- the dict of the new program
    intro dd hdd
    have n9 := same_new (.dK []) hdd
    obtain ⟨nb1, nb2⟩ := bag8.ne hdd
    refine pairs2 ⟨_, rfl, _, rfl, d, _, rfl, getS (n9 _ _ (kp8 _ _ h1 rfl)) (sk_modes _ _ _ _), b, ca, am, _, rfl, bag8.same n9, n9 _ _ (kp8 _ _ h2 (bagO_strs _)), noBag_strs _, by rw [List.length_map]; omega, fun ml ys H10 _ kp10 bag10 pm10 hml => ⟨ml, rfl, ⟨_, SqL.of hml⟩, fun D hD => ?_⟩⟩
    obtain ⟨ms, pms, rfl⟩ := perm_strs pm10
    have hdd10 := kp10 _ _ (upd_same (H := H8) (a := dd) (o := .dK [])) rfl
    have Ddd := fresh_ne hD hdd10
    refine lc_it (walk_list (xs := ms.map V.str)) (fun i H11 => Same H10 H11 ∧ H11 D = some (.lst (((ms.take i).map fm).map V.str))) ⟨same_new _ hD, upd_same⟩ (fun i H11 _ ⟨z, _⟩ => SqL.of (z _ _ hml)) ?_ ?_
    · rintro i v H11 H12 hi ⟨z, hd⟩ ⟨rfl, hv⟩
      obtain ⟨x, rfl, hx⟩ := strs_at hv
      have mx : x ∈ g.spec.modes := pms.subset (List.mem_of_getElem? hx)
      have lms := pms.length_eq
      refine ⟨rfl, _, rfl, _, rfl, md, _, rfl, getS (z _ _ (kp10 _ _ (n9 _ _ hm8) rfl)) (mm x mx), _, hd, ?_, Same.put z _ hD, ?_⟩
      · rw [List.length_map, List.length_map, List.length_take]; exact small1000 (by omega)
      · rw [upd_same, take_snoc hx, List.map_append, List.map_append]; rfl
    rintro H11 ⟨s11, hd11⟩
    rw [List.length_map, List.take_length] at hd11
    have kp9_11 := kp10.trans (Same.kp s11)
    have hdd11 := s11 _ _ hdd10
    have hol11 := kp9_11 _ _ (n9 _ _ hol8) (bagO_strs _)
    refine ⟨_, rfl, ol, rfl, ⟨_, SqL.of hol11⟩, fun D2 hD2 => ?_⟩
    have D2dd := fresh_ne hD2 hdd11
    refine lc_it (walk_list (xs := rs.map V.str)) (fun i H12 => Same H11 H12 ∧ H12 D2 = some (.lst (((rs.take i).map fr).map V.str))) ⟨same_new _ hD2, upd_same⟩ (fun i H12 _ ⟨z, _⟩ => SqL.of (z _ _ hol11)) ?_ ?_
    · rintro i v H12 H12' hi ⟨z, hd⟩ ⟨rfl, hv⟩
      obtain ⟨x, rfl, hx⟩ := strs_at hv
      have mx : x ∈ g.spec.registers := prs.subset (List.mem_of_getElem? hx)
      have lrs := prs.length_eq
      refine ⟨rfl, _, rfl, _, rfl, rd, _, rfl, getS (z _ _ (kp9_11 _ _ (n9 _ _ hr8) rfl)) (mr x mx), _, hd, ?_, Same.put z _ hD2, ?_⟩
      · rw [List.length_map, List.length_map, List.length_take]; exact small1000 (by omega)
      · rw [upd_same, take_snoc hx, List.map_append, List.map_append]; rfl
    rintro H12 ⟨s12, hd12⟩
    rw [List.length_map, List.take_length] at hd12
    refine ⟨s12 _ _ hdd11, [(.inr "modes", .ref D), (.inr "registers", .ref D2)], rfl, by simp, ?_⟩
    have kp8_12 := (Same.kp n9).trans (kp9_11.trans (Same.kp s12))
    have bag12 := bag10.same (s11.trans s12)
    have kp8_13 := Kp.put kp8_12 (.dK (mergeK [] [(.inr "modes", .ref D), (.inr "registers", .ref D2)])) hdd
    have bag13 := bag12.put (.dK (mergeK [] [(.inr "modes", .ref D), (.inr "registers", .ref D2)])) nb1 nb2
    have hdd13 := upd_same (H := H12) (a := dd) (o := .dK (mergeK [] [(.inr "modes", .ref D), (.inr "registers", .ref D2)]))
    have hD13 : (upd H12 dd (.dK (mergeK [] [(.inr "modes", .ref D), (.inr "registers", .ref D2)]))) D = some (.lst ((ms.map fm).map V.str)) := by rw [upd_ne Ddd]; exact s12 _ _ hd11
    have hD213 : (upd H12 dd (.dK (mergeK [] [(.inr "modes", .ref D), (.inr "registers", .ref D2)]))) D2 = some (.lst ((rs.map fr).map V.str)) := by rw [upd_ne D2dd]; exact hd12
    generalize upd H12 dd (.dK (mergeK [] [(.inr "modes", .ref D), (.inr "registers", .ref D2)])) = H13 at kp8_13 bag13 hdd13 hD13 hD213 ⊢
    -- signs, rules
    have lsi := ok.signs.2.2.1
    have kp13 := kp8.trans kp8_13
    refine ⟨_, rfl, _, rfl, d, _, rfl, getS (kp13 _ _ h1 rfl) (sk_signs _ _ _ _), b, ca, as_, _, rfl, bag13, kp13 _ _ h4 (bagO_strs _), noBag_strs _, by rw [List.length_map]; omega, fun sl ys H14 _ kp14 bag14 pm14 hsl => ?_⟩
    obtain ⟨sg, psg, rfl⟩ := perm_strs pm14
    refine ⟨by show 0 ≤ sizeLine; decide, fun rl hrl => ⟨by show 2 ≤ sizeLine; decide, fun t3 ht3 => ?_⟩⟩
    have n15 := Same.new (same_new (.lst []) hrl) (.tup [V.ref sl, V.ref rl]) ht3
    have hrl15 := same_new (.tup [V.ref sl, V.ref rl]) ht3 _ _ (upd_same (H := H14) (a := rl) (o := .lst []))
    have hdd14 := kp14 _ _ hdd13 rfl
    have hdd15 := n15 _ _ hdd14
    refine ⟨t3, _, rfl, SqT.of upd_same, rfl, _, _, rfl, _, rfl, dd, _, rfl, putS hdd15 (sk_len1 _ _), _, _, rfl, _, rfl, dd, _, rfl, putS upd_same (sk_len2 _ _ _), rfl, ?_⟩
    rw [show putK (putK (mergeK [] [(.inr "modes", .ref D), (.inr "registers", .ref D2)]) (.inr "signs") (.ref sl)) (.inr "rules") (.ref rl) = specK D D2 sl rl from sk_two _ _ _ _]
    obtain ⟨nr1, nr2⟩ := bag14.ne hrl
    have rldd : rl ≠ dd := fresh_ne hrl hdd14
    have fr8 : Fr H8 rl := Fr.of (kp8_13.trans kp14) hrl
    have kp8_16 := Kp.put (Kp.put ((kp8_13.trans kp14).trans (Same.kp n15)) (.dK (putK (mergeK [] [(.inr "modes", .ref D), (.inr "registers", .ref D2)]) (.inr "signs") (.ref sl))) hdd) (.dK (specK D D2 sl rl)) hdd
    have bag16 := ((bag14.same n15).put (.dK (putK (mergeK [] [(.inr "modes", .ref D), (.inr "registers", .ref D2)]) (.inr "signs") (.ref sl))) nb1 nb2).put (.dK (specK D D2 sl rl)) nb1 nb2
    have at16 : ∀ {x : Addr} {xs : List V}, H14 x = some (.lst xs) → (upd (upd (upd (upd H14 rl (.lst [])) t3 (.tup [V.ref sl, V.ref rl])) dd (.dK (putK (mergeK [] [(.inr "modes", .ref D), (.inr "registers", .ref D2)]) (.inr "signs") (.ref sl)))) dd (.dK (specK D D2 sl rl))) x = some (.lst xs) ∧ x ≠ rl := fun {x xs} h => by
      have n := at_ne h hdd14 (fun z => nomatch z)
      exact ⟨by rw [upd_ne n, upd_ne n]; exact n15 _ _ h, Ne.symm (fresh_ne hrl h)⟩
    obtain ⟨hD16, Drl⟩ := at16 (kp14 _ _ hD13 (bagO_strs _))
    obtain ⟨hD216, D2rl⟩ := at16 (kp14 _ _ hD213 (bagO_strs _))
    obtain ⟨hsl16, slrl⟩ := at16 hsl
    have hrl16 : (upd (upd (upd (upd H14 rl (.lst [])) t3 (.tup [V.ref sl, V.ref rl])) dd (.dK (putK (mergeK [] [(.inr "modes", .ref D), (.inr "registers", .ref D2)]) (.inr "signs") (.ref sl)))) dd (.dK (specK D D2 sl rl))) rl = some (.lst []) := by rw [upd_ne rldd, upd_ne rldd]; exact hrl15
    have hdd16 := upd_same (H := upd (upd (upd H14 rl (.lst [])) t3 (.tup [V.ref sl, V.ref rl])) dd (.dK (putK (mergeK [] [(.inr "modes", .ref D), (.inr "registers", .ref D2)]) (.inr "signs") (.ref sl)))) (a := dd) (o := .dK (specK D D2 sl rl))
    generalize upd (upd (upd (upd H14 rl (.lst [])) t3 (.tup [V.ref sl, V.ref rl])) dd (.dK (putK (mergeK [] [(.inr "modes", .ref D), (.inr "registers", .ref D2)]) (.inr "signs") (.ref sl)))) dd (.dK (specK D D2 sl rl)) = H16 at kp8_16 bag16 hD16 hD216 hsl16 hrl16 hdd16 ⊢
    have kp16 := kp8.trans kp8_16
    have lra : ra.length = g.spec.rules.length := h6.length
    have lfew := ok.few
    refine ⟨_, rfl, _, rfl, d, _, rfl, getS (kp16 _ _ h1 rfl) (sk_rules _ _ _ _), b, ca, al, _, rfl, bag16, kp16 _ _ h5 (bagO_refs _), noBag_refs _, by rw [List.length_map]; omega, fun ul ys H17 hul0 kp17 bag17 pm17 hul => ⟨ul, rfl, ⟨_, SqL.of hul⟩, ?_⟩⟩
    obtain ⟨zs, pzs, rfl⟩ := perm_refs pm17
    obtain ⟨ru, pru, rpr⟩ := paired_perm pzs h6
    have ulrl := fresh_ne hul0 hrl16
    have hrl17 := kp17 _ _ hrl16 rfl
    have kpG8 := kp_hide (kp8_16.trans kp17) fr8
    have Grl := hide_none (x := rl) (H := H17)
    have Gul := hide_at hul ulrl
    have Gdd := hide_at (kp17 _ _ hdd16 rfl) (Ne.symm rldd)
    have GD := hide_at (kp17 _ _ hD16 (bagO_strs _)) Drl
    have GD2 := hide_at (kp17 _ _ hD216 (bagO_strs _)) D2rl
    have Gsl := hide_at (kp17 _ _ hsl16 (bagO_strs _)) slrl
    have bagG : BagAt (hide rl H17) b ca := by
      obtain ⟨cs, i1, i2, i3, i4, g1, g2⟩ := id bag17
      exact ⟨cs, i1, i2, i3, i4, hide_at g1 nr1, hide_at g2 nr2⟩
    have sG17 := hide_same (x := rl) (H := H17)
    generalize hide rl H17 = G at kpG8 Grl Gul Gdd GD GD2 Gsl bagG sG17
    have kpG := kp8.trans kpG8
    have Gm := kpG8 _ _ hm8 rfl
    have Gr := kpG8 _ _ hr8 rfl
    have Gs := kpG8 _ _ hs8 rfl
    have Gol := kpG8 _ _ hol8 (bagO_strs _)
    refine for_it (walk_list (xs := zs.map V.ref)) (fun i σ H2 => ∃ v11 v12 v13 v14 v15 v16 v17, σ = [some (.ref b), some (.ref a), some (.ref d), some (.ref st), some (.ref lk), some (.ref ln), some (.ref md), some (.ref rd), some (.ref ol), some (.ref sd), some (.ref dd), v11, v12, v13, v14, v15, v16, v17, none, none, none, none] ∧ Same G H2 ∧
        ∃ rn : List Addr, H2 rl = some (.lst (rn.map V.ref)) ∧ Paired (RuleAt H2) rn ((ru.take i).map (renR fm fr)))
      ⟨_, _, _, _, _, _, _, rfl, sG17, [], hrl17, .nil⟩ (fun i σ H2 _ ⟨_, _, _, _, _, _, _, _, z, _⟩ => SqL.of (z _ _ Gul)) ?_ ?_
    · rintro i y σ H2 H2' hi ⟨v11, v12, v13, v14, v15, v16, v17, rfl, z2, rn, hrn, rnp⟩ ⟨rfl, hy⟩
      obtain ⟨c, rfl, hc⟩ := refs_at hy
      obtain ⟨r, hr2, rat⟩ := paired_at rpr hc
      have rk := ok.rules r (pru.subset (List.mem_of_getElem? hr2))
      have lru := pru.length_eq
      have lzs : zs.length = ru.length := rpr.length
      rw [List.length_map] at hi
      have kpH2 := kpG.trans (Same.kp z2)
      obtain ⟨cb, hra, cas, hcb, cpr⟩ := rat.tk kpH2.tk
      refine ⟨c, _, rfl, SqT.of hra, rfl, _, _, rfl, _, _, rfl, _, _, rfl, _, _, rfl, rfl, ?_⟩
      refine ⟨by show 0 ≤ sizeLine; decide, fun sm hsm => ?_⟩
      refine ⟨_, rfl, cb, rfl, ⟨_, SqT.of (same_new (.lst []) hsm _ _ hcb)⟩, for_it (walk_tup (xs := cas.map V.ref)) (fun j σ H4 => ∃ v12 v17, σ = [some (.ref b), some (.ref a), some (.ref d), some (.ref st), some (.ref lk), some (.ref ln), some (.ref md), some (.ref rd), some (.ref ol), some (.ref sd), some (.ref dd), some (.str r.mode), v12, some (.str r.sign), some (.str r.goal), some (.ref cb), some (.ref sm), v17, none, none, none, none] ∧ Same H2' H4 ∧
          ∃ cn : List Addr, H4 sm = some (.lst (cn.map V.ref)) ∧ Paired (ChangeAt H4) cn (renC fr (r.changes.take j)))
        ⟨_, _, rfl, same_new _ hsm, [], upd_same, .nil⟩ (fun j σ H4 _ ⟨_, _, _, z, _⟩ => SqT.of (z _ _ hcb)) ?_ ?_⟩
      · rintro j y2 σ H4 H4' hj ⟨v12, v17, rfl, z4, cn, hcn, cnp⟩ ⟨rfl, hy2⟩
        obtain ⟨c2, rfl, hc2⟩ := refs_at hy2
        obtain ⟨ch, hch, td, tda, tt⟩ := paired_at cpr hc2
        have mch : ch ∈ r.changes := List.mem_of_getElem? hch
        have tok := rk.ch.ok ch mch
        have few := rk.ch.few
        have z24 := z2.trans z4
        refine ⟨c2, _, rfl, SqT.of (z4 _ _ tda), rfl, _, _, rfl, _, _, rfl, rfl, ?_⟩
        refine ⟨_, rfl, .inl ⟨rfl, _, SqL.of hcn⟩, _, rfl, _, rfl, rd, _, rfl, getS (z24 _ _ Gr) (mr _ (rk.ch.reg ch mch)), _, rfl, ?_⟩
        refine ren_terms (i := 18) (j := 19) (e := 9) (f := fr) (tt.tk (Same.tk z4)) (by have := tok.few; omega) (z24 _ _ Gs) (fun t ht => ms8 t.1 (tok.src t ht)) (fun _ _ => rfl) (fun _ _ => rfl) (fun _ _ => rfl) (fun _ _ => rfl) fun ta H5 z5 hta => ?_
        refine ⟨by show 2 ≤ sizeLine; decide, fun tp htp => ?_⟩
        have n6 := same_new (.tup [V.str (fr ch.1), V.ref ta]) htp
        have hcn6 := n6 _ _ (z5 _ _ hcn)
        have lcn := cnp.length
        unfold renC at lcn
        rw [List.length_map, List.length_take] at lcn
        have tkp := tk_put (.lst (cn.map V.ref ++ [V.ref tp])) hcn6
        refine ⟨sm, _, _, rfl, rfl, hcn6, by rw [List.length_map]; exact small1000 (by omega), some (.str ch.1), some (.ref td), rfl, Same.put ((z4.trans z5).trans n6) _ hsm, cn ++ [tp], by rw [upd_same, List.map_append]; rfl, ?_⟩
        have e2 : renC fr (r.changes.take (j + 1)) = renC fr (r.changes.take j) ++ [(fr ch.1, renT fr ch.2)] := by unfold renC; rw [take_snoc hch, List.map_append]; rfl
        rw [e2]
        exact paired_snoc (Paired.imp (fun _ _ => ChangeAt.tk ((Same.tk (z5.trans n6)).trans tkp)) cnp) ⟨ta, tkp _ _ upd_same, hta.tk ((Same.tk n6).trans tkp)⟩
      rintro σ H4 ⟨v12, v17, rfl, z4, cn, hcn, cnp⟩
      have lcas : cas.length = r.changes.length := cpr.length
      rw [List.length_map, lcas, List.take_length] at cnp
      have z24 := z2.trans z4
      refine ⟨_, rfl, dd, _, rfl, getS (z24 _ _ Gdd) (sk_rules _ _ _ _), .inl ⟨rfl, _, SqL.of (z4 _ _ hrn)⟩, _, rfl, _, rfl, md, _, rfl, getS (z24 _ _ Gm) (mm _ rk.mode), _, rfl, _, rfl, _, rfl, md, _, rfl, getS (z24 _ _ Gm) (mm _ rk.goal), _, rfl, rd_tu hcn fun tc htc => ⟨by show 4 ≤ sizeLine; decide, fun rt hrt => ?_⟩⟩
      have n5 := same_new (.tup (cn.map V.ref)) htc
      have n6 := same_new (.tup [V.str (fm r.mode), V.str r.sign, V.str (fm r.goal), V.ref tc]) hrt
      have n56 := n5.trans n6
      have hrn6 := n56 _ _ (z4 _ _ hrn)
      have tkp := tk_put (.lst (rn.map V.ref ++ [V.ref rt])) hrn6
      have lrn := rnp.length
      rw [List.length_map, List.length_take] at lrn
      refine ⟨rl, _, _, rfl, rfl, hrn6, by rw [List.length_map]; exact small1000 (by omega), some (.str r.mode), v12, some (.str r.sign), some (.str r.goal), some (.ref cb), some (.ref sm), v17, rfl, Same.put (z24.trans n56) _ Grl, rn ++ [rt], by rw [upd_same, List.map_append]; rfl, ?_⟩
      rw [take_snoc hr2, List.map_append]
      exact paired_snoc (Paired.imp (fun _ _ => RuleAt.tk ((Same.tk (z4.trans n56)).trans tkp)) rnp) ⟨tc, tkp _ _ upd_same, cn, tkp _ _ (n6 _ _ upd_same), Paired.imp (fun _ _ => ChangeAt.tk ((Same.tk n56).trans tkp)) cnp⟩
    rintro σ H2 ⟨v11, v12, v13, v14, v15, v16, v17, rfl, z2, rn, hrn, rnp⟩
    have lzs : zs.length = ru.length := rpr.length
    rw [List.length_map, lzs, List.take_length] at rnp
    -- the values
    have kpH2 := kpG.trans (Same.kp z2)
    refine ⟨_, rfl, d, _, rfl, getS (kpH2 _ _ h1 rfl) (sk_registers _ _ _ _), _, rfl, rd_it (kpH2 _ _ hst rfl) rfl (rd_dz (kpH2 _ _ h3 (bagO_strs _)) (.inr (kpH2 _ _ hb2 rfl)) (by omega) fun vd H3 hvd s3 hk3 => ?_)⟩
    have zmV := zipK_map ok.regs.1 gok.start.len
    generalize mergeK [] (zipK g.spec.registers (g.start.2.map V.int)) = kvV at hk3 zmV
    refine ⟨by show 0 ≤ sizeLine; decide, fun lz hlz => ?_⟩
    have z3 := z2.trans s3
    have hlz2 := Same.fresh s3 hlz
    have kpH3 := kpG.trans (Same.kp z3)
    have lla : las.length = g.look.length := hlp.length
    have lfl := gok.few
    refine ⟨_, rfl, lk, rfl, ⟨_, SqL.of (same_new (.lst []) hlz _ _ (kpH3 _ _ hlk (bagO_refs _)))⟩, for_it (walk_list (xs := las.map V.ref)) (fun i σ H4 => ∃ v11 v17, σ = [some (.ref b), some (.ref a), some (.ref d), some (.ref st), some (.ref lk), some (.ref ln), some (.ref md), some (.ref rd), some (.ref ol), some (.ref sd), some (.ref dd), v11, v12, v13, v14, v15, v16, v17, none, none, some (.ref vd), some (.ref lz)] ∧ Same H3 H4 ∧
        ∃ ln2 : List Addr, H4 lz = some (.lst (ln2.map V.ref)) ∧ Paired (ChangeAt H4) ln2 (renL fm fr (g.look.take i)))
      ⟨_, _, rfl, same_new _ hlz, [], upd_same, .nil⟩ (fun i σ H4 _ ⟨_, _, _, z, _⟩ => SqL.of (z _ _ (kpH3 _ _ hlk (bagO_refs _)))) ?_ ?_⟩
    · rintro i y σ H4 H4' hi ⟨v11, v17, rfl, z4, cn, hcn, cnp⟩ ⟨rfl, hy⟩
      obtain ⟨c2, rfl, hc2⟩ := refs_at hy
      obtain ⟨ch, hch, cat⟩ := paired_at hlp hc2
      have z34 := z3.trans z4
      obtain ⟨td, tda, tt⟩ := cat.tk (kpG.trans (Same.kp z34)).tk
      have mch : ch ∈ g.look := List.mem_of_getElem? hch
      have tok := gok.terms ch mch
      refine ⟨c2, _, rfl, SqT.of tda, rfl, _, _, rfl, _, _, rfl, rfl, ?_⟩
      refine ⟨_, rfl, .inl ⟨rfl, _, SqL.of hcn⟩, _, rfl, _, rfl, md, _, rfl, getS (z34 _ _ Gm) (mm _ (gok.mode ch mch)), _, rfl, ?_⟩
      refine ren_terms (i := 18) (j := 19) (e := 9) (f := fr) tt (by have := tok.few; omega) (z34 _ _ Gs) (fun t ht => ms8 t.1 ?_) (fun _ _ => rfl) (fun _ _ => rfl) (fun _ _ => rfl) (fun _ _ => rfl) fun ta H5 z5 hta => ?_
      · rcases List.mem_append.mp (tok.src t ht) with q | q
        · exact List.mem_append_left _ q
        · rw [List.mem_singleton.mp q]; simp
      refine ⟨by show 2 ≤ sizeLine; decide, fun tp htp => ?_⟩
      have n6 := same_new (.tup [V.str (fm ch.1), V.ref ta]) htp
      have hcn6 := n6 _ _ (z5 _ _ hcn)
      have lcn := cnp.length
      unfold renL at lcn
      rw [List.length_map, List.length_take] at lcn
      have tkp := tk_put (.lst (cn.map V.ref ++ [V.ref tp])) hcn6
      refine ⟨lz, _, _, rfl, rfl, hcn6, by rw [List.length_map]; exact small1000 (by omega), some (.str ch.1), some (.ref td), rfl, Same.put ((z4.trans z5).trans n6) _ hlz, cn ++ [tp], by rw [upd_same, List.map_append]; rfl, ?_⟩
      have e2 : renL fm fr (g.look.take (i + 1)) = renL fm fr (g.look.take i) ++ [(fm ch.1, renT fr ch.2)] := by unfold renL; rw [take_snoc hch, List.map_append]; rfl
      rw [e2]
      exact paired_snoc (Paired.imp (fun _ _ => ChangeAt.tk ((Same.tk (z5.trans n6)).trans tkp)) cnp) ⟨ta, tkp _ _ upd_same, hta.tk ((Same.tk n6).trans tkp)⟩
    rintro σ H4 ⟨v11b, v17b, rfl, z4, cn, hcn, cnp⟩
    rw [List.length_map, lla, List.take_length] at cnp
    have z34 := z3.trans z4
    have kpH4 := kpG.trans (Same.kp z34)
    refine ⟨_, rfl, _, rfl, _, rfl, rd_it (kpH4 _ _ hst rfl) rfl ⟨md, _, rfl, getS (z34 _ _ Gm) (mm _ gok.start.mode), ?_⟩⟩
    refine ⟨_, rfl, ol, rfl, ⟨_, SqL.of (z34 _ _ Gol)⟩, fun D3 hD3 => lc_it (walk_list (xs := rs.map V.str)) (fun i H5 => Same H4 H5 ∧ H5 D3 = some (.lst (((rs.take i).map fun x => TwM.look x g.spec.registers g.start.2).map V.int))) ⟨same_new _ hD3, upd_same⟩ (fun i H5 _ ⟨z, _⟩ => SqL.of (z _ _ (z34 _ _ Gol))) ?_ ?_⟩
    · rintro i v H5 H5' hi ⟨z, hd⟩ ⟨rfl, hv⟩
      obtain ⟨x, rfl, hx⟩ := strs_at hv
      have mx : x ∈ g.spec.registers := prs.subset (List.mem_of_getElem? hx)
      have lrs := prs.length_eq
      refine ⟨rfl, _, rfl, _, rfl, vd, _, rfl, getS (z _ _ (z4 _ _ hk3)) (zmV x mx), _, hd, ?_, Same.put z _ hD3, ?_⟩
      · rw [List.length_map, List.length_map, List.length_take]; exact small1000 (by omega)
      · rw [upd_same, take_snoc hx, List.map_append, List.map_append]; rfl
    rintro H5 ⟨z5, hd5⟩
    rw [List.length_map, List.take_length] at hd5
    refine rd_tu hd5 fun t5 ht5 => ⟨by show 2 ≤ sizeLine; decide, fun t6 ht6 => ⟨_, rfl, by show 3 ≤ sizeLine; decide, fun t7 ht7 => ?_⟩⟩
    have n5' := same_new (.tup ((rs.map fun x => TwM.look x g.spec.registers g.start.2).map V.int)) ht5
    have n6 := same_new (.tup [V.str (fm g.start.1), V.ref t5]) ht6
    have n7 := same_new (.tup [V.ref dd, V.ref t6, V.ref lz]) ht7
    have n67 := n6.trans n7
    have z57 := z5.trans (n5'.trans n67)
    have zall := z34.trans z57
    have z27 := (s3.trans z4).trans z57
    exact k t7 ⟨⟨ms.map fm, rs.map fr, sg, ru.map (renR fm fr)⟩, (fm g.start.1, rs.map fun x => TwM.look x g.spec.registers g.start.2), renL fm fr g.look⟩ _ (kpG.trans (Same.kp zall)) (bagG.same zall)
      ⟨⟨dd, t6, lz, upd_same, ⟨⟨D, D2, sl, rl, rn, zall _ _ Gdd, zall _ _ GD, zall _ _ GD2, zall _ _ Gsl, z27 _ _ hrn, Paired.imp (fun _ _ => RuleAt.tk (Same.tk z27)) rnp⟩, ren_ok ok rm rr pms prs psg pru⟩, ⟨t5, n7 _ _ upd_same, n67 _ _ upd_same⟩, ⟨cn, z57 _ _ hcn, Paired.imp (fun _ _ => ChangeAt.tk (Same.tk z57)) cnp⟩⟩, look_ok gok rm rr pms prs psg pru⟩ psg
end
end Tw
end

section
set_option Elab.async false
set_option linter.all false
set_option maxRecDepth 100000
set_option maxHeartbeats 4000000
/-! A program changed. -/
namespace Tw
open PySem PySem.Spec PyProof.Rows L2
theorem rd_catA {K : PySem.W.Frag} {H : Hp} {Q : VK} {a b : Addr} {xs ys : List V} (ha : H a = some (.tup xs)) (hb : H b = some (.tup ys)) (hl : xs.length + ys.length ≤ 1000) (q : ∀ p H', Same H H' → H' p = some (.tup (xs ++ ys)) → Q (.ref p) H') : rCatA K (.ref a) (.ref b) H Q :=
  ⟨a, b, xs, ys, rfl, rfl, SqT.of ha, SqT.of hb, Nat.le_trans hl (by decide), fun e => q b H (Same.refl _) (by rw [e]; exact hb), fun _ e => q a H (Same.refl _) (by rw [e, List.append_nil]; exact ha), fun _ _ p hp => q p _ (same_new _ hp) upd_same⟩
theorem rd_take {K : PySem.W.Frag} {H : Hp} {Q : VK} {a : Addr} {xs : List V} {n : Nat} (ha : H a = some (.tup xs)) (hn : n < xs.length) (q : ∀ p, H p = none → Q (.ref p) (upd H p (.tup (xs.take n)))) : rSlT K (.ref a) none (some (n : Int)) H Q :=
  ⟨a, xs, rfl, SqT.of ha, fun ⟨_, z⟩ => by rw [HT.sIx_nat] at z; omega, fun p hp => by rw [cut_take]; exact q p hp⟩
theorem rd_drop {K : PySem.W.Frag} {H : Hp} {Q : VK} {a : Addr} {xs : List V} {n : Nat} (ha : H a = some (.tup xs)) (hn : n < xs.length) (q : ∀ p, H p = none → Q (.ref p) (upd H p (.tup (xs.drop (n + 1))))) : rSlT K (.ref a) (some ((n : Int) + 1)) none H Q :=
  ⟨a, xs, rfl, SqT.of ha, fun ⟨z, _⟩ => by rw [show ((n : Int) + 1) = ((n + 1 : Nat) : Int) from rfl, HT.sIx_nat] at z; omega, fun p hp => by rw [show ((n : Int) + 1) = ((n + 1 : Nat) : Int) from rfl, cut_drop]; exact q p hp⟩
theorem rd_takeL {K : PySem.W.Frag} {H : Hp} {Q : VK} {a : Addr} {xs : List V} {n : Nat} (ha : H a = some (.lst xs)) (q : ∀ p, H p = none → Q (.ref p) (upd H p (.lst (xs.take n)))) : rSlL K (.ref a) none (some (n : Int)) H Q :=
  ⟨a, xs, rfl, SqL.of ha, fun p hp => by rw [cut_take]; exact q p hp⟩
theorem rd_dropL {K : PySem.W.Frag} {H : Hp} {Q : VK} {a : Addr} {xs : List V} {n : Nat} (ha : H a = some (.lst xs)) (q : ∀ p, H p = none → Q (.ref p) (upd H p (.lst (xs.drop (n + 1))))) : rSlL K (.ref a) (some ((n : Int) + 1)) none H Q :=
  ⟨a, xs, rfl, SqL.of ha, fun p hp => by rw [show ((n : Int) + 1) = ((n + 1 : Nat) : Int) from rfl, cut_drop]; exact q p hp⟩
def negT (ts : Terms) : Terms := ts.map fun t => (t.1, 0 - t.2)
theorem negT_ok {ss : List Str} {ts : Terms} (h : TermsOk ss ts) : TermsOk ss (negT ts) := by
  have e : (negT ts).map (·.1) = ts.map (·.1) := by unfold negT; rw [List.map_map]; rfl
  refine ⟨by rw [e]; exact h.nd, fun t ht => ?_, fun t ht => ?_, by unfold negT; rw [List.length_map]; exact h.few⟩
  · obtain ⟨u, hu, rfl⟩ := List.mem_map.mp ht
    exact h.src u hu
  · obtain ⟨u, hu, rfl⟩ := List.mem_map.mp ht
    have := h.fac u hu
    show (-1000 : Int) ≤ 0 - u.2 ∧ 0 - u.2 ≤ 1000
    omega
theorem split_at {α : Type} {xs : List α} {n : Nat} {x : α} (h : xs[n]? = some x) : xs = xs.take n ++ [x] ++ xs.drop (n + 1) := by
  rw [← take_snoc h, List.take_append_drop]
theorem paired_drop {α β : Type} {F : α → β → Prop} : ∀ {as : List α} {bs : List β} (n : Nat), Paired F as bs → Paired F (as.drop n) (bs.drop n)
  | _, _, 0, h => h
  | _, _, _ + 1, .nil => .nil
  | _, _, n + 1, .cons _ t => paired_drop n t
section
variable {P : Program} {w : World} {K : PySem.W.Frag} {mg : Str → Option Value} {base : Heap}
abbrev nChg : List Str := ["_law_bag_here", "_law_given", "_law_spec_here", "_law_start", "_law_seen", "_law_kind", "_law_at", "_law_late", "_law_source", "_law_factor_here"]
def spLChanged : Sp := fun vs H Q _ => ∃ b ca a g, vs = [.ref b, .ref a] ∧ BagAt H b ca ∧ GivenAt H a g ∧ (∀ x ∈ g.start.2, x.natAbs ≤ 1000000000000000007) ∧ ∀ a' g' H', Kp H H' → BagAt H' b ca → GivenAt H' a' g' → g'.spec.signs = g.spec.signs → Q (.ref a') H'
theorem ok_law_changed (T : Txt K mg) : Cal P w K mg base 2 "_law_changed" spLChanged := by
  have sc : FnScope nChg ["_law_bag_here", "_law_given"] (defScope s_law_changed) := ⟨rfl, rfl, rfl, by decide +kernel, rfl, by decide +kernel, by decide +kernel⟩
  refine ⟨fn_by (fd_law_changed T) sc (fun _ _ _ _ _ _ us hl => match us, hl with | [_, _], _ => rfl) ?_ fun cdv A outer s H vs Q E hr h => ?_, g_law_changed T, kp_of (fd_law_changed T)⟩
  · rintro vs H Q E ⟨b, ca, a, g, rfl, _⟩; rfl
  · obtain ⟨b, ca, a, g, rfl, hbag, ⟨⟨d, st, lk, hg, ⟨⟨am, ar, as_, al, ra, h1, h2, h3, h4, h5, h6⟩, ok⟩, ⟨b2, hst, hb2⟩, ⟨las, hlk, hlp⟩⟩, gok⟩, hbd, k⟩ := h
    have hu := room_u hr
    have lfl := gok.few
    have lla : las.length = g.look.length := hlp.length
    have lfr := ok.few
    have lra : ra.length = g.spec.rules.length := h6.length
    have lre := ok.regs.2.1
    have lst2 := gok.start.len
    have bd60 : ∀ x : Int, x.natAbs ≤ 1000000000000000008 → x.natAbs < 2 ^ 60 := fun x h => by
      have p60 : (2 : Nat) ^ 60 = 1152921504606846976 := by decide
      rw [p60]; omega
    obtain ⟨t5, p5, r5⟩ : ∃ t5, PSs (bX P w K mg base nChg "_law_changed" s_law_changed (He.ga K "_law_changed") cdv A outer s H E) ((defBody s_law_changed).drop 4) t5 ∧ ∀ (kd : Int) (H2 : Hp), Kp H H2 → BagAt H2 b ca → t5 { nx := fun _ H' => Q .non H', rt := Q } [some (.ref b), some (.ref a), some (.ref d), some (.ref st), some (.ref lk), some (.int kd), none, none, none, none] H2 := by
      refine ⟨_, pss_cons (ps_set (i := 7) sc.nd rfl (.inl rfl) (pe_t1 (cr_dp rfl) (b_dict T) (LiI.pe_listItems rfl (pv 2) rfl (b_list T) (by decide +kernel))))
        (pss_cons (ps_if (pt_cmpR (op_neE hr.units0) (pe_dget hu (pv 2) pe_str (fun _ _ => rfl)) (pe_lst pa_nil) (nomark _))
        (pss_cons (ps_set (i := 6) sc.nd rfl (.inl rfl) (pe_c (ok_law_take T) hr (pa_cons (pv 0) (pa_cons (pe_b1 cr_ln (b_len T) (pe_dget hu (pv 2) pe_str (fun _ _ => rfl))) pa_nil))))
        (pss_one (ps_dput hu (pv 7) pe_str (pe_op op_cat (pe_slice sl_list (pe_dget hu (pv 2) pe_str (fun _ _ => rfl)) po_none (po_some (pv 6))) (pe_slice sl_list (pe_dget hu (pv 2) pe_str (fun _ _ => rfl)) (po_some (pe_op op_add (pv 6) pe_int)) po_none)) rfl))) pss_nil)
        (pss_one (ps_ret (pe_tup (pa_cons (pv 7) (pa_cons (pv 3) (pa_cons (pv 4) pa_nil))))))), fun kd H2 kp2 bag2 => ?_⟩
      refine ⟨_, rfl, d, _, rfl, kp2 _ _ h1 rfl, fun H3 p3 ts3 s3 hp3 _ _ hl3 pr3 => ⟨p3, ts3, _, rfl, SqL.of hl3, Paired.imp (fun _ _ z => SqT.of z) pr3, fun dn hdn => ?_⟩⟩
      rw [show mergeK [] (specK am ar as_ al) = specK am ar as_ al by kernel_rfl]
      have s3 : Same H2 H3 := s3
      have s4 := Same.new s3 (.dK (specK am ar as_ al)) hdn
      have kp4 := kp2.trans (Same.kp s4)
      have bag4 := bag2.same s4
      have hdn4 := upd_same (H := H3) (a := dn) (o := .dK (specK am ar as_ al))
      have hdn2 := Same.fresh s3 hdn
      have frd : Fr H dn := Fr.of kp2 hdn2
      generalize upd H3 dn (.dK (specK am ar as_ al)) = H4 at s4 kp4 bag4 hdn4 ⊢
      refine ⟨_, rfl, d, _, rfl, getS (kp4 _ _ h1 rfl) (sk_rules _ _ _ _), by show 0 ≤ sizeLine; decide, fun e0 he0 => ?_⟩
      have n5 := same_new (.lst []) he0
      have kp5 := kp4.trans (Same.kp n5)
      have bag5 := bag4.same n5
      have hdn5 := n5 _ _ hdn4
      refine ⟨al, e0, _, rfl, rfl, .inl ⟨SqL.of (kp5 _ _ h5 (bagO_refs _)), SqL.of upd_same⟩, _, rfl, ?_⟩
      generalize upd H4 e0 (.lst []) = H5 at n5 kp5 bag5 hdn5 ⊢
      by_cases hz : ra = []
      · subst hz
        refine iteF ⟨_, rfl, _, rfl, _, rfl, by show 3 ≤ sizeLine; decide, fun t ht => ?_⟩
        have n6 := same_new (.tup [V.ref dn, V.ref st, V.ref lk]) ht
        have kp6 := kp5.trans (Same.kp n6)
        exact k t g _ kp6 (bag5.same n6) ⟨⟨dn, st, lk, upd_same, ⟨⟨am, ar, as_, al, [], n6 _ _ hdn5, kp6 _ _ h2 (bagO_strs _), kp6 _ _ h3 (bagO_strs _), kp6 _ _ h4 (bagO_strs _), kp6 _ _ h5 (bagO_refs _), Paired.imp (fun _ _ => RuleAt.tk kp6.tk) h6⟩, ok⟩, ⟨b2, kp6 _ _ hst rfl, kp6 _ _ hb2 rfl⟩, ⟨las, kp6 _ _ hlk (bagO_refs _), Paired.imp (fun _ _ => ChangeAt.tk kp6.tk) hlp⟩⟩, gok⟩ rfl
      · have l0 : 0 < ra.length := List.length_pos_iff.mpr hz
        have hemp : (ra.map V.ref).isEmpty = false := by
          cases ra with
          | nil => exact absurd rfl hz
          | cons _ _ => rfl
        rw [hemp]
        refine iteT ⟨_, rfl, _, rfl, d, _, rfl, getS (kp5 _ _ h1 rfl) (sk_rules _ _ _ _), rd_lenL (kp5 _ _ h5 (bagO_refs _)) ⟨b, ca, _, rfl, bag5, by rw [List.length_map]; omega, by rw [List.length_map]; omega, fun dd H6 d0 d1 kp6 bag6 => ?_⟩⟩
        obtain ⟨n, rfl⟩ := Int.eq_ofNat_of_zero_le d0
        have kp06 := kp5.trans kp6
        have A5 := kp06 _ _ h5 (bagO_refs _)
        have A1 := kp06 _ _ h1 rfl
        have hdn6 := kp6 _ _ hdn5 rfl
        refine ⟨_, rfl, d, _, rfl, getS A1 (sk_rules _ _ _ _), _, rfl, _, rfl, rd_takeL A5 fun q1 hq1 => ?_⟩
        have n7 := same_new (.lst ((ra.map V.ref).take n)) hq1
        refine ⟨_, rfl, d, _, rfl, getS (n7 _ _ A1) (sk_rules _ _ _ _), _, rfl, _, _, rfl, rfl, _, rfl, al, _, rfl, SqL.of (n7 _ _ A5), fun q2 hq2 => ?_⟩
        have ec : cutV (ra.map V.ref) (some ((n : Int) + 1)) none = (ra.map V.ref).drop (n + 1) := by rw [show ((n : Int) + 1) = ((n + 1 : Nat) : Int) from rfl, cut_drop]
        rw [ec]
        have n8 := same_new (.lst ((ra.map V.ref).drop (n + 1))) hq2
        refine rd_cat (n8 _ _ upd_same) upd_same (by rw [List.length_take, List.length_drop, List.length_map]; omega) fun q3 hq3 => ?_
        rw [← List.map_take, ← List.map_drop, ← List.map_append]
        have n9 := same_new (.lst ((ra.take n ++ ra.drop (n + 1)).map V.ref)) hq3
        rw [← List.map_take] at n7 hq2
        rw [← List.map_take, ← List.map_drop] at n8 hq3
        rw [← List.map_take, ← List.map_drop] at n9
        have n79 := (n7.trans n8).trans n9
        refine ⟨_, rfl, dn, _, rfl, putS (n79 _ _ hdn6) (by show 4 ≤ 1000; decide), ?_⟩
        rw [sk_put]
        have kp9 := Kp.putF (kp06.trans (Same.kp n79)) (.dK (specK am ar as_ q3)) frd
        have bag9 : BagAt (upd (upd (upd (upd H6 q1 (.lst ((ra.take n).map V.ref))) q2 (.lst ((ra.drop (n + 1)).map V.ref))) q3 (.lst ((ra.take n ++ ra.drop (n + 1)).map V.ref))) dn (.dK (specK am ar as_ q3))) b ca := by
          obtain ⟨cs, i1, i2, i3, i4, g1, g2⟩ := id (bag6.same n79)
          exact ⟨cs, i1, i2, i3, i4, by rw [upd_ne (at_ne g1 (n79 _ _ hdn6) (fun z => nomatch z))]; exact g1, by rw [upd_ne (at_ne g2 (n79 _ _ hdn6) (fun z => nomatch z))]; exact g2⟩
        have hq9 : (upd (upd (upd (upd H6 q1 (.lst ((ra.take n).map V.ref))) q2 (.lst ((ra.drop (n + 1)).map V.ref))) q3 (.lst ((ra.take n ++ ra.drop (n + 1)).map V.ref))) dn (.dK (specK am ar as_ q3))) q3 = some (.lst ((ra.take n ++ ra.drop (n + 1)).map V.ref)) := by
          rw [upd_ne (fresh_ne hq3 ((n7.trans n8) _ _ hdn6)), upd_same]
        have hdn9 := upd_same (H := upd (upd (upd H6 q1 (.lst ((ra.take n).map V.ref))) q2 (.lst ((ra.drop (n + 1)).map V.ref))) q3 (.lst ((ra.take n ++ ra.drop (n + 1)).map V.ref))) (a := dn) (o := .dK (specK am ar as_ q3))
        generalize upd (upd (upd (upd H6 q1 (.lst ((ra.take n).map V.ref))) q2 (.lst ((ra.drop (n + 1)).map V.ref))) q3 (.lst ((ra.take n ++ ra.drop (n + 1)).map V.ref))) dn (.dK (specK am ar as_ q3)) = H9 at kp9 bag9 hq9 hdn9 ⊢
        refine ⟨_, rfl, _, rfl, _, rfl, by show 3 ≤ sizeLine; decide, fun t ht => ?_⟩
        have m9 := same_new (.tup [V.ref dn, V.ref st, V.ref lk]) ht
        have kpA := kp9.trans (Same.kp m9)
        have sub : (g.spec.rules.take n ++ g.spec.rules.drop (n + 1)).Sublist g.spec.rules := by
          conv => rhs; rw [← List.take_append_drop n g.spec.rules]
          refine List.Sublist.append (List.Sublist.refl _) ?_
          rw [← List.drop_drop]
          exact List.drop_sublist _ _
        have okn : SpecOk ⟨g.spec.modes, g.spec.registers, g.spec.signs, g.spec.rules.take n ++ g.spec.rules.drop (n + 1)⟩ :=
          ⟨ok.modes, ok.regs, ok.signs, ok.wide, fun r hr => let z := ok.rules r (sub.subset hr); ⟨z.mode, z.sign, z.goal, z.ch⟩, ok.pairs.sublist (sub.map _), Nat.le_trans sub.length_le ok.few⟩
        exact k t ⟨⟨g.spec.modes, g.spec.registers, g.spec.signs, g.spec.rules.take n ++ g.spec.rules.drop (n + 1)⟩, g.start, g.look⟩ _ kpA (bag9.same m9)
          ⟨⟨dn, st, lk, upd_same, ⟨⟨am, ar, as_, q3, _, m9 _ _ hdn9, kpA _ _ h2 (bagO_strs _), kpA _ _ h3 (bagO_strs _), kpA _ _ h4 (bagO_strs _), m9 _ _ hq9, Paired.imp (fun _ _ => RuleAt.tk kpA.tk) (paired_app (paired_take n h6) (paired_drop (n + 1) h6))⟩, okn⟩, ⟨b2, kpA _ _ hst rfl, kpA _ _ hb2 rfl⟩, ⟨las, kpA _ _ hlk (bagO_refs _), Paired.imp (fun _ _ => ChangeAt.tk kpA.tk) hlp⟩⟩,
            ⟨okn, ⟨gok.start.mode, gok.start.len⟩, gok.bd, gok.nd, gok.mode, gok.terms, gok.few⟩⟩ rfl
    obtain ⟨t4, p4, r4⟩ : ∃ t4, PSs (bX P w K mg base nChg "_law_changed" s_law_changed (He.ga K "_law_changed") cdv A outer s H E) ((defBody s_law_changed).drop 3) t4 ∧ ∀ (kd : Int) (H2 : Hp), Kp H H2 → BagAt H2 b ca → t4 { nx := fun _ H' => Q .non H', rt := Q } [some (.ref b), some (.ref a), some (.ref d), some (.ref st), some (.ref lk), some (.int kd), none, none, none, none] H2 := by
      refine ⟨_, pss_cons (ps_if (PW.pt (pw_and (pt_cc op_eq (pv 5) pe_int (nomark _)) (pw_and1 (pt_cmpR (op_neE hr.units0) (pv 4) (pe_lst pa_nil) (nomark _)))))
        (pss_cons (ps_set (i := 6) sc.nd rfl (.inl rfl) (pe_c (ok_law_take T) hr (pa_cons (pv 0) (pa_cons (pe_b1 cr_ln (b_len T) (pv 4)) pa_nil))))
        (pss_one (ps_ret (pe_tup (pa_cons (pv 2) (pa_cons (pv 3) (pa_cons (pe_op op_cat (pe_op op_cat (pe_slice sl_list (pv 4) po_none (po_some (pv 6))) (pe_lst (pa_cons (pe_tup (pa_cons (pe_ti (pe_ix ix_list (pv 4) (pv 6) (fun _ _ => rfl))) (pa_cons (pe_t1 cr_tu (b_tuple T) (pe_lc (own := [("_law_source", 8), ("_law_factor_here", 9)]) (g := twoT K 8 9) (tt := tYes) rfl sc.nd (pi_tup (pe_ti (pe_ix ix_list (pv 4) (pv 6) (fun _ _ => rfl)))) (blkOk_by (N := nChg) (sc := defScope s_law_changed) (by decide +kernel))
        (fun _ _ _ _ _ => pg_tup rfl (pgs_cons (pg_name (i := 8) sc.nd rfl (.inl rfl)) (pgs_cons (pg_name (i := 9) sc.nd rfl (.inl rfl)) pgs_nil))) (fun _ _ _ _ _ => pts_nil) (fun _ _ _ _ _ => pe_tup (pa_cons (pv 8) (pa_cons (pe_op op_sub pe_int (pv 9)) pa_nil))))) pa_nil))) pa_nil))) (pe_slice sl_list (pv 4) (po_some (pe_op op_add (pv 6) pe_int)) po_none)) pa_nil))))))) pss_nil)
        p5, fun kd H2 kp2 bag2 => ⟨_, rfl, rd_eq rfl ⟨_, rfl, ?_⟩⟩⟩
      by_cases hk : kd = 1
      case neg => exact it_decF (fun z => hk (V.int.inj z)) (iteF (r5 kd H2 kp2 bag2))
      refine it_dec (congrArg V.int hk) ⟨_, rfl, by show 0 ≤ sizeLine; decide, fun e0 he0 => ?_⟩
      have n3 := same_new (.lst []) he0
      have kp3 := kp2.trans (Same.kp n3)
      have bag3 := bag2.same n3
      refine ⟨lk, e0, _, rfl, rfl, .inl ⟨SqL.of (kp3 _ _ hlk (bagO_refs _)), SqL.of upd_same⟩, _, rfl, ?_⟩
      generalize upd H2 e0 (.lst []) = H3 at n3 kp3 bag3 ⊢
      by_cases hz : las = []
      · subst hz
        exact iteF (r5 kd H3 kp3 bag3)
      have l0 : 0 < las.length := List.length_pos_iff.mpr hz
      have hemp : (las.map V.ref).isEmpty = false := by
        cases las with
        | nil => exact absurd rfl hz
        | cons _ _ => rfl
      rw [hemp]
      refine iteT ⟨_, rfl, _, rfl, rd_lenL (kp3 _ _ hlk (bagO_refs _)) ⟨b, ca, _, rfl, bag3, by rw [List.length_map]; omega, by rw [List.length_map]; omega, fun dd H4 d0 d1 kp34 bag4 => ?_⟩⟩
      obtain ⟨n, rfl⟩ := Int.eq_ofNat_of_zero_le d0
      have kp4 := kp3.trans kp34
      have A := kp4 _ _ hlk (bagO_refs _)
      rw [List.length_map] at d1
      have hn : n < las.length := by omega
      have hn2 := List.getElem?_eq_getElem hn
      have hn3 : (las.map V.ref)[n]? = some (V.ref las[n]) := by rw [List.getElem?_map, hn2]; rfl
      obtain ⟨ch, hch, cat⟩ := paired_at hlp hn2
      have mch : ch ∈ g.look := List.mem_of_getElem? hch
      have tok := gok.terms ch mch
      obtain ⟨td, tda, tas, ttd, tpr⟩ := cat.tk kp4.tk
      refine ⟨_, rfl, _, rfl, _, rfl, _, rfl, _, rfl, rd_takeL A fun q1 hq1 => ?_⟩
      have n5 := same_new (.lst ((las.map V.ref).take n)) hq1
      refine ⟨_, rfl, _, rfl, rd_il (n5 _ _ A) (atI_nat hn3) (rd_it (n5 _ _ tda) rfl ⟨_, rfl, _, rfl, rd_il (n5 _ _ A) (atI_nat hn3) (rd_it (n5 _ _ tda) rfl ⟨td, rfl, ⟨_, SqT.of (n5 _ _ ttd)⟩, fun D hD => ?_⟩)⟩)⟩
      refine lc_it (walk_tup (xs := tas.map V.ref)) (fun i H6 => Same (upd H4 q1 (.lst ((las.map V.ref).take n))) H6 ∧ ∃ bs : List Addr, H6 D = some (.lst (bs.map V.ref)) ∧ Paired (TermAt H6) bs (negT (ch.2.take i)))
        ⟨same_new _ hD, [], upd_same, .nil⟩ (fun i H6 _ ⟨z, _⟩ => SqT.of (z _ _ (n5 _ _ ttd))) ?_ ?_
      · rintro i v H6 H7 hi ⟨z, bs, hbs, bpr⟩ ⟨rfl, hv⟩
        obtain ⟨c, rfl, hc⟩ := refs_at hv
        obtain ⟨t, ht, tm⟩ := paired_at tpr hc
        refine ⟨c, _, rfl, SqT.of (z _ _ (n5 _ _ tm)), rfl, _, _, rfl, _, _, rfl, rfl, rfl, _, rfl, _, rfl, _, _, rfl, rfl, by show 2 ≤ sizeLine; decide, fun p hp => ?_⟩
        have m1 := same_new (.tup [V.str t.1, V.int (0 - t.2)]) hp
        have hl3 := m1 _ _ hbs
        have lb : bs.length ≤ 900 := by
          have q1 := bpr.length
          have q2 := tok.few
          unfold negT at q1
          rw [List.length_map, List.length_take] at q1
          omega
        refine ⟨_, hl3, by rw [List.length_map]; exact small1000 (by omega), Same.put (z.trans m1) _ hD, bs ++ [p], by rw [upd_same, List.map_append]; rfl, ?_⟩
        have e2 : negT (ch.2.take (i + 1)) = negT (ch.2.take i) ++ [(t.1, 0 - t.2)] := by unfold negT; rw [take_snoc ht, List.map_append]; rfl
        rw [e2]
        exact paired_snoc (Paired.imp (fun _ _ z => (tk_put _ hl3) _ _ (m1 _ _ z)) bpr) ((tk_put _ hl3) _ _ upd_same)
      rintro H6 ⟨z, bs, hbs, bpr⟩
      have ltas : tas.length = ch.2.length := tpr.length
      rw [List.length_map, ltas, List.take_length] at bpr
      refine rd_tu hbs fun tn htn => ⟨by show 2 ≤ sizeLine; decide, fun tp htp => ⟨by show 1 ≤ sizeLine; decide, fun q2 hq2 => ?_⟩⟩
      have m1 := same_new (.tup (bs.map V.ref)) htn
      have m2 := same_new (.tup [V.str ch.1, V.ref tn]) htp
      have m3 := same_new (.lst [V.ref tp]) hq2
      have hq1' := (z.trans (m1.trans (m2.trans m3))) _ _ upd_same
      refine rd_cat hq1' upd_same (by rw [List.length_take, List.length_map]; show min n las.length + 1 ≤ 1000; omega) fun q3 hq3 => ?_
      have m4 := same_new (.lst ((las.map V.ref).take n ++ [V.ref tp])) hq3
      have m14 := m1.trans (m2.trans (m3.trans m4))
      have A8 := (n5.trans (z.trans m14)) _ _ A
      refine ⟨_, rfl, _, rfl, _, _, rfl, rfl, _, rfl, lk, _, rfl, SqL.of A8, fun q4 hq4 => ?_⟩
      have ec : cutV (las.map V.ref) (some ((n : Int) + 1)) none = (las.map V.ref).drop (n + 1) := by rw [show ((n : Int) + 1) = ((n + 1 : Nat) : Int) from rfl, cut_drop]
      rw [ec]
      have m5 := same_new (.lst ((las.map V.ref).drop (n + 1))) hq4
      refine rd_cat (m5 _ _ upd_same) upd_same (by rw [List.length_append, List.length_take, List.length_drop, List.length_map]; show min n las.length + 1 + (las.length - (n + 1)) ≤ 1000; omega) fun q5 hq5 => ⟨by show 3 ≤ sizeLine; decide, fun t ht => ?_⟩
      have m6 := same_new (.lst ((las.map V.ref).take n ++ [V.ref tp] ++ (las.map V.ref).drop (n + 1))) hq5
      have m7 := same_new (.tup [V.ref d, V.ref st, V.ref q5]) ht
      have m57 := m5.trans (m6.trans m7)
      have mall := (n5.trans z).trans (m14.trans m57)
      have kpA := kp4.trans (Same.kp mall)
      have m27 := m2.trans (m3.trans (m4.trans m57))
      have e9 : (las.map V.ref).take n ++ [V.ref tp] ++ (las.map V.ref).drop (n + 1) = (las.take n ++ [tp] ++ las.drop (n + 1)).map V.ref := by rw [List.map_append, List.map_append, List.map_take, List.map_drop]; rfl
      have hq5' := m7 _ _ (upd_same (a := q5) (o := .lst ((las.map V.ref).take n ++ [V.ref tp] ++ (las.map V.ref).drop (n + 1))))
      have hq6 := hq5'.trans (congrArg (fun z => some (HO.lst z)) e9)
      have esp := split_at hch
      have e10 : (g.look.take n ++ [(ch.1, negT ch.2)] ++ g.look.drop (n + 1)).map (·.1) = g.look.map (·.1) := by
        conv => rhs; rw [esp]
        simp
      have hpl := Paired.imp (fun _ _ => ChangeAt.tk kpA.tk) hlp
      have mem : ∀ l ∈ g.look.take n ++ [(ch.1, negT ch.2)] ++ g.look.drop (n + 1), l ∈ g.look ∨ l = (ch.1, negT ch.2) := fun l hl => by
        rcases List.mem_append.mp hl with q | q
        · rcases List.mem_append.mp q with q | q
          · exact .inl (List.mem_of_mem_take q)
          · exact .inr (List.mem_singleton.mp q)
        · exact .inl (List.mem_of_mem_drop q)
      exact k t ⟨g.spec, g.start, g.look.take n ++ [(ch.1, negT ch.2)] ++ g.look.drop (n + 1)⟩ _ kpA (bag4.same mall)
        ⟨⟨d, st, q5, upd_same, ⟨⟨am, ar, as_, al, ra, kpA _ _ h1 rfl, kpA _ _ h2 (bagO_strs _), kpA _ _ h3 (bagO_strs _), kpA _ _ h4 (bagO_strs _), kpA _ _ h5 (bagO_refs _), Paired.imp (fun _ _ => RuleAt.tk kpA.tk) h6⟩, ok⟩, ⟨b2, kpA _ _ hst rfl, kpA _ _ hb2 rfl⟩,
          ⟨_, hq6, paired_app (paired_app (paired_take n hpl) (.cons ⟨tn, (m3.trans (m4.trans m57)) _ _ upd_same, bs, m27 _ _ upd_same, Paired.imp (fun _ _ y => (m1.trans m27) _ _ y) bpr⟩ .nil)) (paired_drop (n + 1) hpl)⟩⟩,
          ⟨ok, gok.start, gok.bd, by rw [e10]; exact gok.nd, fun l hl => (mem l hl).elim (gok.mode l) fun e => by rw [e]; exact gok.mode ch mch, fun l hl => (mem l hl).elim (gok.terms l) fun e => by rw [e]; exact negT_ok tok, by have := congrArg List.length e10; rw [List.length_map, List.length_map] at this; rw [this]; exact gok.few⟩⟩ rfl
    refine ⟨_, pss_cons (ps_asg (pv 1) (pg_tup rfl (pgs_cons (pg_name (i := 2) sc.nd rfl (.inl rfl)) (pgs_cons (pg_name (i := 3) sc.nd rfl (.inl rfl)) (pgs_cons (pg_name (i := 4) sc.nd rfl (.inl rfl)) pgs_nil)))))
      (pss_cons (ps_set (i := 5) sc.nd rfl (.inl rfl) (pe_c (ok_law_take T) hr (pa_cons (pv 0) (pa_cons pe_int pa_nil))))
      (pss_cons (ps_if (PW.pt (pw_and (pt_cc op_eq (pv 5) pe_int (nomark _)) (pw_and1 (pt_cmpR (op_neE hr.units0) (pe_ti (pv 3)) (pe_tup pa_nil) (nomark _)))))
        (pss_cons (ps_set (i := 6) sc.nd rfl (.inl rfl) (pe_c (ok_law_take T) hr (pa_cons (pv 0) (pa_cons (pe_b1 cr_ln (b_len T) (pe_ti (pv 3))) pa_nil))))
        (pss_one (ps_ret (pe_tup (pa_cons (pv 2) (pa_cons (pe_tup (pa_cons (pe_ti (pv 3)) (pa_cons (pe_op op_catA (pe_op op_catA (pe_slice sl_tup (pe_ti (pv 3)) po_none (po_some (pv 6))) (pe_tup (pa_cons (pe_op op_add (pe_ix ix_tup (pe_ti (pv 3)) (pv 6) (fun _ _ => rfl)) pe_int) pa_nil))) (pe_slice sl_tup (pe_ti (pv 3)) (po_some (pe_op op_add (pv 6) pe_int)) po_none)) pa_nil))) (pa_cons (pv 4) pa_nil))))))) pss_nil)
        p4)), ?_⟩
    refine ⟨_, rfl, a, _, rfl, SqT.of hg, rfl, _, _, rfl, _, _, rfl, _, _, rfl, rfl, ?_⟩
    refine ⟨_, rfl, b, ca, 3, rfl, hbag, by decide, by decide, fun kd H1 k0 k1 kp1 bag1 => ⟨_, rfl, rd_eq rfl ⟨_, rfl, ?_⟩⟩⟩
    by_cases hk : kd = 0
    case neg => exact it_decF (fun z => hk (V.int.inj z)) (iteF (r4 kd H1 kp1 bag1))
    refine it_dec (congrArg V.int hk) ⟨_, rfl, rd_it (kp1 _ _ hst rfl) rfl ⟨by show 0 ≤ sizeLine; decide, fun e0 he0 => ?_⟩⟩
    have n2 := same_new (.tup []) he0
    have kp2 := kp1.trans (Same.kp n2)
    have bag2 := bag1.same n2
    refine ⟨b2, e0, _, rfl, rfl, .inr ⟨SqT.of (kp2 _ _ hb2 rfl), SqT.of upd_same⟩, _, rfl, ?_⟩
    generalize upd H1 e0 (.tup []) = H2 at n2 kp2 bag2 ⊢
    by_cases hz : g.start.2 = []
    · rw [hz]
      exact iteF (r4 kd H2 kp2 bag2)
    have l0 : 0 < g.start.2.length := List.length_pos_iff.mpr hz
    have hemp : (g.start.2.map V.int).isEmpty = false := by
      cases h : g.start.2 with
      | nil => exact absurd h hz
      | cons _ _ => rfl
    rw [hemp]
    refine iteT ⟨_, rfl, _, rfl, rd_it (kp2 _ _ hst rfl) rfl (rd_lenT (kp2 _ _ hb2 rfl) ⟨b, ca, _, rfl, bag2, by rw [List.length_map]; omega, by rw [List.length_map]; omega, fun dd H3 d0 d1 kp23 bag3 => ?_⟩)⟩
    obtain ⟨n, rfl⟩ := Int.eq_ofNat_of_zero_le d0
    have kp3 := kp2.trans kp23
    rw [List.length_map] at d1
    have hn : n < g.start.2.length := by omega
    have hnV : n < (g.start.2.map V.int).length := by rw [List.length_map]; exact hn
    have hn2 := List.getElem?_eq_getElem hn
    have hn3 : (g.start.2.map V.int)[n]? = some (V.int g.start.2[n]) := by rw [List.getElem?_map, hn2]; rfl
    have As := kp3 _ _ hst rfl
    have Ab := kp3 _ _ hb2 rfl
    refine ⟨_, rfl, _, rfl, rd_it As rfl ⟨_, rfl, rd_it As rfl ⟨_, rfl, _, rfl, rd_take Ab hnV fun q1 hq1 => ?_⟩⟩⟩
    have n4 := same_new (.tup ((g.start.2.map V.int).take n)) hq1
    refine ⟨_, rfl, rd_it (n4 _ _ As) rfl ⟨_, rfl, ⟨b2, _, _, _, rfl, rfl, SqT.of (n4 _ _ Ab), atI_nat hn3, _, _, rfl, rfl, by show 1 ≤ sizeLine; decide, fun q2 hq2 => ?_⟩⟩⟩
    have n5 := same_new (.tup [V.int (g.start.2[n] + 1)]) hq2
    refine rd_catA (n5 _ _ upd_same) upd_same (by rw [List.length_take, List.length_map]; show min n g.start.2.length + 1 ≤ 1000; omega) fun q3 H6 s6 hq3 => ?_
    have s36 := (n4.trans n5).trans s6
    refine ⟨_, rfl, rd_it (s36 _ _ As) rfl ⟨_, rfl, _, _, rfl, rfl, _, rfl, b2, _, rfl, SqT.of (s36 _ _ Ab), fun y => ?_, fun q4 hq4 => ?_⟩⟩
    · have z := y.1
      rw [show ((n : Int) + 1) = ((n + 1 : Nat) : Int) from rfl, HT.sIx_nat] at z
      omega
    have ec : cutV (g.start.2.map V.int) (some ((n : Int) + 1)) none = (g.start.2.map V.int).drop (n + 1) := by rw [show ((n : Int) + 1) = ((n + 1 : Nat) : Int) from rfl, cut_drop]
    rw [ec]
    have n7 := same_new (.tup ((g.start.2.map V.int).drop (n + 1))) hq4
    refine rd_catA (n7 _ _ hq3) upd_same (by rw [List.length_append, List.length_take, List.length_drop, List.length_map]; show min n g.start.2.length + 1 + (g.start.2.length - (n + 1)) ≤ 1000; omega) fun q5 H8 s8 hq5 => ⟨by show 2 ≤ sizeLine; decide, fun t1 ht1 => ⟨_, rfl, by show 3 ≤ sizeLine; decide, fun t ht => ?_⟩⟩
    have n9 := same_new (.tup [V.str g.start.1, V.ref q5]) ht1
    have n10 := same_new (.tup [V.ref d, V.ref t1, V.ref lk]) ht
    have sall := (s36.trans (n7.trans s8)).trans (n9.trans n10)
    have kpA := kp3.trans (Same.kp sall)
    have e9 : (g.start.2.map V.int).take n ++ [V.int (g.start.2[n] + 1)] ++ (g.start.2.map V.int).drop (n + 1) = (g.start.2.take n ++ [g.start.2[n] + 1] ++ g.start.2.drop (n + 1)).map V.int := by rw [List.map_append, List.map_append, List.map_take, List.map_drop]; rfl
    rw [e9] at hq5
    exact k t ⟨g.spec, (g.start.1, g.start.2.take n ++ [g.start.2[n] + 1] ++ g.start.2.drop (n + 1)), g.look⟩ _ kpA (bag3.same sall)
      ⟨⟨d, t1, lk, upd_same, ⟨⟨am, ar, as_, al, ra, kpA _ _ h1 rfl, kpA _ _ h2 (bagO_strs _), kpA _ _ h3 (bagO_strs _), kpA _ _ h4 (bagO_strs _), kpA _ _ h5 (bagO_refs _), Paired.imp (fun _ _ => RuleAt.tk kpA.tk) h6⟩, ok⟩, ⟨q5, n10 _ _ upd_same, (n9.trans n10) _ _ hq5⟩, ⟨las, kpA _ _ hlk (bagO_refs _), Paired.imp (fun _ _ => ChangeAt.tk kpA.tk) hlp⟩⟩,
        ⟨ok, ⟨gok.start.mode, by show (g.start.2.take n ++ [g.start.2[n] + 1] ++ g.start.2.drop (n + 1)).length = g.spec.registers.length; rw [List.length_append, List.length_append, List.length_take, List.length_drop]; show min n g.start.2.length + 1 + (g.start.2.length - (n + 1)) = g.spec.registers.length; omega⟩, fun x hx => bd60 x (by
          rcases List.mem_append.mp hx with q | q
          · rcases List.mem_append.mp q with q | q
            · have := hbd x (List.mem_of_mem_take q); omega
            · have := hbd _ (List.getElem_mem hn); rw [List.mem_singleton.mp q]; omega
          · have := hbd x (List.mem_of_mem_drop q); omega), gok.nd, gok.mode, gok.terms, gok.few⟩⟩ rfl
end
end Tw
end

section
set_option Elab.async false
set_option linter.all false
set_option maxRecDepth 100000
set_option maxHeartbeats 4000000
/-! Two programs drawn. -/
namespace Tw
open PySem PySem.Spec PyProof.Rows L2
theorem given_ok {sp : TwM.Spec Str} {st : TwM.State Str} {lk : List (Str × Terms)} (ok : SpecOk sp) (so : TwM.StateOk sp st) (bd : ∀ x ∈ st.2, x.natAbs ≤ 1000000000000000007) (lo : LookOk sp lk) : GivenOk ⟨sp, st, lk⟩ :=
  ⟨ok, so, fun x hx => by
    have p60 : (2 : Nat) ^ 60 = 1152921504606846976 := by decide
    have := bd x hx
    rw [p60]; omega, lo.nd, lo.mode, lo.terms, lo.few⟩
def oneSign (s : Str) (rs : List (TwM.Rule Str)) : List (TwM.Rule Str) := rs.map fun r => ⟨r.mode, s, r.goal, r.changes⟩
theorem oneSign_ok {sp sp2 : TwM.Spec Str} (ok : SpecOk sp) (ok2 : SpecOk sp2) {s0 sg0 : Str} (hs : s0 ∈ sp.signs) {rs : List (TwM.Rule Str)} (sub : rs.Sublist sp2.rules) (one : ∀ r ∈ rs, r.sign = sg0) : SpecOk ⟨sp2.modes, sp2.registers, sp.signs, oneSign s0 rs⟩ := by
  refine ⟨ok2.modes, ok2.regs, ok.signs, ok2.wide, fun r hr => ?_, ?_, ?_⟩
  · obtain ⟨q, hq, rfl⟩ := List.mem_map.mp hr
    have z := ok2.rules q (sub.subset hq)
    exact ⟨z.mode, hs, z.goal, z.ch⟩
  · show ((oneSign s0 rs).map fun r => (r.mode, r.sign)).Nodup
    unfold oneSign
    rw [List.map_map]
    have nd := ok2.pairs.sublist (sub.map fun r => (r.mode, r.sign))
    refine List.pairwise_map.mpr (List.Pairwise.imp_of_mem (fun {x y} hx hy n e => n ?_) (List.pairwise_map.mp nd))
    have e1 : x.mode = y.mode := congrArg Prod.fst e
    show (x.mode, x.sign) = (y.mode, y.sign)
    rw [e1, one x hx, one y hy]
  · show (oneSign s0 rs).length ≤ 100
    unfold oneSign
    rw [List.length_map]
    exact Nat.le_trans sub.length_le ok2.few
section
variable {P : Program} {w : World} {K : PySem.W.Frag} {mg : Str → Option Value} {base : Heap}
abbrev nTwo : List Str := ["_law_bag_here", "_law_spec_here", "_law_given", "_law_kind", "_law_other", "_law_late", "_law_rule"]
def spLTwo : Sp := fun vs H Q _ => ∃ b ca, vs = [.ref b] ∧ BagAt H b ca ∧ ∀ t a1 a2 g1 g2 H', Kp H H' → BagAt H' b ca → H' t = some (.tup [.ref a1, .ref a2]) → GivenAt H' a1 g1 → GivenAt H' a2 g2 → g1.spec.signs.Perm g2.spec.signs → Q (.ref t) H'
theorem ok_law_two (T : Txt K mg) : Cal P w K mg base 7 "_law_two_probes" spLTwo := by
  have sc : FnScope nTwo ["_law_bag_here"] (defScope s_law_two_probes) := ⟨rfl, rfl, rfl, by decide +kernel, rfl, by decide +kernel, by decide +kernel⟩
  refine ⟨fn_by (fd_law_two_probes T) sc (fun _ _ _ _ _ _ us hl => match us, hl with | [_], _ => rfl) ?_ fun cdv A outer s H vs Q E hr h => ?_, g_law_two_probes T, kp_of (fd_law_two_probes T)⟩
  · rintro vs H Q E ⟨b, ca, rfl, _⟩; rfl
  · obtain ⟨b, ca, rfl, hbag, k⟩ := h
    have hu := room_u hr
    obtain ⟨t5, p5, r5⟩ : ∃ t5, PSs (bX P w K mg base nTwo "_law_two_probes" s_law_two_probes (He.ga K "_law_two_probes") cdv A outer s H E) ((defBody s_law_two_probes).drop 4) t5 ∧ ∀ (d gv o : Addr) (sp : TwM.Spec Str) (g1 g2 : Given) (kd : Int) (H2 : Hp), Kp H H2 → BagAt H2 b ca → SpecAt H2 d sp → GivenAt H2 gv g1 → g1.spec.signs = sp.signs → GivenAt H2 o g2 → sp.signs.Perm g2.spec.signs →
        t5 { nx := fun _ H' => Q .non H', rt := Q } [some (.ref b), some (.ref d), some (.ref gv), some (.int kd), some (.ref o), none, none] H2 := by
      refine ⟨_, pss_cons (ps_if (pt_cc op_eq (pv 3) pe_int (nomark _))
        (pss_cons (ps_set (i := 5) sc.nd rfl (.inr rfl) (pe_c (ok_law_spec T) hr (pa_cons (pv 0) (pa_cons pe_int (pa_cons pe_int pa_nil)))))
        (pss_cons (ps_dput hu (pv 5) pe_str (pe_lc (own := [("_law_rule", 6)]) (g := gName 6) (tt := tTest (tOp rEq (tIt K 1 (tVar 6)) (tIl K 0 (tDGet (tVar 5) (tC (.str "signs")))))) rfl sc.nd (pi_list (pe_dget hu (pv 5) pe_str (fun _ _ => rfl))) (blkOk_by (N := nTwo) (sc := defScope s_law_two_probes) (by decide +kernel))
        (fun _ _ _ _ _ => pg_name (i := 6) sc.nd rfl (Or.inl rfl)) (fun _ _ _ _ _ => pts_one (pt_cmpR op_eq (pe_ti (pv 6)) (pe_li (pe_dget (by exact hu) (pv 5) pe_str (fun _ _ => rfl))) (nomark _))) (fun _ _ _ _ _ => pv 6)) rfl)
        (pss_cons (ps_dput hu (pv 5) pe_str (pe_lc (own := [("_law_rule", 6)]) (g := gName 6) (tt := tYes) (te := tTup (tCons (tIt K 0 (tVar 6)) (tCons (tIl K 0 (tDGet (tVar 1) (tC (.str "signs")))) (tCons (tIt K 2 (tVar 6)) (tCons (tIt K 3 (tVar 6)) tNil))))) rfl sc.nd (pi_list (pe_dget hu (pv 5) pe_str (fun _ _ => rfl))) (blkOk_by (N := nTwo) (sc := defScope s_law_two_probes) (by decide +kernel))
        (fun _ _ _ _ _ => pg_name (i := 6) sc.nd rfl (Or.inl rfl)) (fun _ _ _ _ _ => pts_nil) (fun _ _ _ _ _ => pe_tup (pa_cons (pe_ti (pv 6)) (pa_cons (pe_li (pe_dget (by exact hu) (pv 1) pe_str (fun _ _ => rfl))) (pa_cons (pe_ti (pv 6)) (pa_cons (pe_ti (pv 6)) pa_nil)))))) rfl)
        (pss_cons (ps_dput hu (pv 5) pe_str (pe_t1 cr_li (b_list T) (pe_dget hu (pv 1) pe_str (fun _ _ => rfl))) rfl)
        (pss_one (ps_set (i := 4) sc.nd rfl (.inl rfl) (pe_tup (pa_cons (pv 5) (pa_cons (pe_c ((ok_law_state T).up (by decide)) hr (pa_cons (pv 0) (pa_cons (pv 5) pa_nil))) (pa_cons (pe_c ((ok_law_look T).up (by decide)) hr (pa_cons (pv 0) (pa_cons (pv 5) pa_nil))) pa_nil)))))))))) pss_nil)
        (pss_one (ps_ret (pe_tup (pa_cons (pv 2) (pa_cons (pv 4) pa_nil))))), fun d gv o sp g1 g2 kd H2 kp2 bag2 hsp gat1 e1 gat2 pm => ⟨_, rfl, rd_eq rfl ⟨_, rfl, ?_⟩⟩⟩
      by_cases hk : kd = 3
      case neg =>
        refine it_decF (fun z => hk (V.int.inj z)) ⟨_, rfl, _, rfl, by show 2 ≤ sizeLine; decide, fun t ht => ?_⟩
        have n3 := same_new (.tup [V.ref gv, V.ref o]) ht
        exact k t gv o g1 g2 _ (kp2.trans (Same.kp n3)) (bag2.same n3) upd_same (gat1.kp (Same.kp n3)) (gat2.kp (Same.kp n3)) (by rw [e1]; exact pm)
      refine it_dec (congrArg V.int hk) ⟨_, rfl, b, ca, rfl, bag2, fun d2 sp2 H3 kp3 bag3 hsp2 fr2 => ?_⟩
      obtain ⟨⟨am, ar, as_, al, ra, h1, h2, h3, h4, h5, h6⟩, ok⟩ := id hsp
      obtain ⟨⟨am2, ar2, as2, al2, ra2, f1, f2, f3, f4, f5, f6⟩, ok2⟩ := hsp2
      have hsg0 : 0 < sp.signs.length := ok.signs.2.1
      have hsg2 : 0 < sp2.signs.length := ok2.signs.2.1
      have lra : ra2.length = sp2.rules.length := f6.length
      have lfew := ok2.few
      have fr : Fr H d2 := Fr.back kp2 fr2
      -- the rules of one sign
      refine ⟨_, rfl, d2, _, rfl, getS f1 (sk_rules _ _ _ _), al2, rfl, ⟨_, SqL.of f5⟩, fun D hD => ?_⟩
      refine lc_it (walk_list (xs := ra2.map V.ref)) (fun i H4 => Same H3 H4 ∧ ∃ (rn : List Addr) (rs : List (TwM.Rule Str)), H4 D = some (.lst (rn.map V.ref)) ∧ Paired (RuleAt H4) rn rs ∧ rs.Sublist (sp2.rules.take i) ∧ ∀ r ∈ rs, r.sign = sp2.signs[0])
        ⟨same_new _ hD, [], [], upd_same, .nil, List.nil_sublist _, (fun _ h => nomatch h)⟩ (fun i H4 _ ⟨z, _⟩ => SqL.of (z _ _ f5)) ?_ ?_
      · rintro i v H4 H5 hi ⟨z, rn, rs, hrn, rnp, sub, one⟩ ⟨rfl, hv⟩
        obtain ⟨c, rfl, hc⟩ := refs_at hv
        obtain ⟨r, hr2, cb, hra, hcs⟩ := paired_at f6 hc
        rw [List.length_map] at hi
        refine ⟨rfl, _, rfl, rd_it (z _ _ hra) rfl ⟨_, rfl, d2, _, rfl, getS (z _ _ f1) (sk_signs _ _ _ _), rd_il (z _ _ f4) (atI_strs hsg2) (rd_eq rfl ⟨_, rfl, ?_⟩)⟩⟩
        by_cases hs : r.sign = sp2.signs[0]
        · refine it_dec (congrArg V.str hs) ⟨_, rfl, _, hrn, ?_, Same.put z _ hD, rn ++ [c], rs ++ [r], by rw [upd_same, List.map_append]; rfl, ?_, ?_, ?_⟩
          · have q1 := rnp.length
            have q2 := sub.length_le
            rw [List.length_take] at q2
            rw [List.length_map]
            exact small1000 (by omega)
          · have tkp := tk_put (.lst (rn.map V.ref ++ [V.ref c])) hrn
            exact paired_snoc (Paired.imp (fun _ _ => RuleAt.tk tkp) rnp) (RuleAt.tk ((Same.tk z).trans tkp) ⟨cb, hra, hcs⟩)
          · rw [take_snoc hr2]
            exact List.Sublist.append sub (List.Sublist.refl _)
          · intro q hq
            rcases List.mem_append.mp hq with y | y
            · exact one q y
            · rw [List.mem_singleton.mp y]; exact hs
        · exact it_decF (fun y => hs (V.str.inj y)) ⟨z, rn, rs, hrn, rnp, by rw [take_snoc hr2]; exact sub.trans (List.sublist_append_left _ _), one⟩
      rintro H4 ⟨z4, rn, rs, hrn, rnp, sub, one⟩
      rw [List.length_map, lra, List.take_length] at sub
      have f14 := z4 _ _ f1
      refine ⟨_, rfl, d2, _, rfl, putS f14 (by show 4 ≤ 1000; decide), ?_⟩
      rw [sk_put]
      have Dd := at_ne hrn f14 (fun y => nomatch y)
      have nd2 : ∀ {x : Addr} {xs : List V} {X : HO}, H4 x = some (.lst xs) → (upd H4 d2 X) x = some (.lst xs) := fun h => by rw [upd_ne (at_ne h f14 (fun y => nomatch y))]; exact h
      have kq5 := Kp.putF (kp3.trans (Same.kp z4)) (.dK (specK am2 ar2 as2 D)) fr2
      have hd5 := upd_same (H := H4) (a := d2) (o := .dK (specK am2 ar2 as2 D))
      have hrn5 := nd2 (X := .dK (specK am2 ar2 as2 D)) hrn
      have hm5 := nd2 (X := .dK (specK am2 ar2 as2 D)) (z4 _ _ f2)
      have hr5 := nd2 (X := .dK (specK am2 ar2 as2 D)) (z4 _ _ f3)
      have hs5 := nd2 (X := .dK (specK am2 ar2 as2 D)) (z4 _ _ f4)
      have tk5 : Tk H4 (upd H4 d2 (.dK (specK am2 ar2 as2 D))) := fun x xs h => by rw [upd_ne (at_ne h f14 (fun y => nomatch y))]; exact h
      have rnp5 := Paired.imp (fun _ _ => RuleAt.tk tk5) rnp
      have bag5 : BagAt (upd H4 d2 (.dK (specK am2 ar2 as2 D))) b ca := by
        obtain ⟨cs, i1, i2, i3, i4, g1, g2⟩ := id (bag3.same z4)
        exact ⟨cs, i1, i2, i3, i4, nd2 g1, nd2 g2⟩
      generalize upd H4 d2 (.dK (specK am2 ar2 as2 D)) = H5 at kq5 hd5 hrn5 hm5 hr5 hs5 rnp5 bag5 ⊢
      have lrn := rnp.length
      have lrs := sub.length_le
      -- their sign
      refine ⟨_, rfl, d2, _, rfl, getS hd5 (sk_rules _ _ _ _), D, rfl, ⟨_, SqL.of hrn5⟩, fun D2 hD2 => ?_⟩
      refine lc_it (walk_list (xs := rn.map V.ref)) (fun i H6 => Same H5 H6 ∧ ∃ rm : List Addr, H6 D2 = some (.lst (rm.map V.ref)) ∧ Paired (RuleAt H6) rm (oneSign sp.signs[0] (rs.take i)))
        ⟨same_new _ hD2, [], upd_same, .nil⟩ (fun i H6 _ ⟨z, _⟩ => SqL.of (z _ _ hrn5)) ?_ ?_
      · rintro i v H6 H7 hi ⟨z, rm, hrm, rmp⟩ ⟨rfl, hv⟩
        obtain ⟨c, rfl, hc⟩ := refs_at hv
        obtain ⟨r, hr2, cb, hra, hcs⟩ := paired_at rnp5 hc
        have kq6 := kq5.trans (Same.kp z)
        refine ⟨rfl, _, rfl, rd_it (z _ _ hra) rfl ⟨_, rfl, d, _, rfl, getS (kq6 _ _ h1 rfl) (sk_signs _ _ _ _), rd_il (kq6 _ _ h4 (bagO_strs _)) (atI_strs hsg0) ⟨_, rfl, rd_it (z _ _ hra) rfl ⟨_, rfl, rd_it (z _ _ hra) rfl ⟨by show 4 ≤ sizeLine; decide, fun p hp => ?_⟩⟩⟩⟩⟩
        have m1 := same_new (.tup [V.str r.mode, V.str sp.signs[0], V.str r.goal, V.ref cb]) hp
        have hrm1 := m1 _ _ hrm
        have q1 := rmp.length
        unfold oneSign at q1
        rw [List.length_map, List.length_take] at q1
        have tkp := tk_put (.lst (rm.map V.ref ++ [V.ref p])) hrm1
        refine ⟨_, hrm1, by rw [List.length_map]; exact small1000 (by omega), Same.put (z.trans m1) _ hD2, rm ++ [p], by rw [upd_same, List.map_append]; rfl, ?_⟩
        have e2 : oneSign sp.signs[0] (rs.take (i + 1)) = oneSign sp.signs[0] (rs.take i) ++ [⟨r.mode, sp.signs[0], r.goal, r.changes⟩] := by unfold oneSign; rw [take_snoc hr2, List.map_append]; rfl
        rw [e2]
        exact paired_snoc (Paired.imp (fun _ _ => RuleAt.tk ((Same.tk m1).trans tkp)) rmp) ⟨cb, tkp _ _ upd_same, hcs.tk ((Same.tk (z.trans m1)).trans tkp)⟩
      rintro H6 ⟨z6, rm, hrm, rmp⟩
      rw [List.length_map, lrn, List.take_length] at rmp
      have f16 := z6 _ _ hd5
      refine ⟨_, rfl, d2, _, rfl, putS f16 (by show 4 ≤ 1000; decide), ?_⟩
      rw [sk_put]
      have nd6 : ∀ {x : Addr} {xs : List V} {X : HO}, H6 x = some (.lst xs) → (upd H6 d2 X) x = some (.lst xs) := fun h => by rw [upd_ne (at_ne h f16 (fun y => nomatch y))]; exact h
      have kq7 := Kp.putF (kq5.trans (Same.kp z6)) (.dK (specK am2 ar2 as2 D2)) fr2
      have hd7 := upd_same (H := H6) (a := d2) (o := .dK (specK am2 ar2 as2 D2))
      have hrm7 := nd6 (X := .dK (specK am2 ar2 as2 D2)) hrm
      have hm7 := nd6 (X := .dK (specK am2 ar2 as2 D2)) (z6 _ _ hm5)
      have hr7 := nd6 (X := .dK (specK am2 ar2 as2 D2)) (z6 _ _ hr5)
      have tk7 : Tk H6 (upd H6 d2 (.dK (specK am2 ar2 as2 D2))) := fun x xs h => by rw [upd_ne (at_ne h f16 (fun y => nomatch y))]; exact h
      have rmp7 := Paired.imp (fun _ _ => RuleAt.tk tk7) rmp
      have bag7 : BagAt (upd H6 d2 (.dK (specK am2 ar2 as2 D2))) b ca := by
        obtain ⟨cs, i1, i2, i3, i4, g1, g2⟩ := id (bag5.same z6)
        exact ⟨cs, i1, i2, i3, i4, nd6 g1, nd6 g2⟩
      generalize upd H6 d2 (.dK (specK am2 ar2 as2 D2)) = H7 at kq7 hd7 hrm7 hm7 hr7 rmp7 bag7 ⊢
      -- the signs
      refine ⟨_, rfl, d, _, rfl, getS (kq7 _ _ h1 rfl) (sk_signs _ _ _ _), rd_li (kq7 _ _ h4 (bagO_strs _)) fun sl hsl => ?_⟩
      have n8 := same_new (.lst (sp.signs.map V.str)) hsl
      have hd8 := n8 _ _ hd7
      refine ⟨_, rfl, d2, _, rfl, putS hd8 (by show 4 ≤ 1000; decide), ?_⟩
      rw [sk_puts]
      have nd8 : ∀ {x : Addr} {xs : List V} {X : HO}, (upd H7 sl (.lst (sp.signs.map V.str))) x = some (.lst xs) → (upd (upd H7 sl (.lst (sp.signs.map V.str))) d2 X) x = some (.lst xs) := fun h => by rw [upd_ne (at_ne h hd8 (fun y => nomatch y))]; exact h
      have kq9 := Kp.putF (kq7.trans (Same.kp n8)) (.dK (specK am2 ar2 sl D2)) fr2
      have hd9 := upd_same (H := upd H7 sl (.lst (sp.signs.map V.str))) (a := d2) (o := .dK (specK am2 ar2 sl D2))
      have hrm9 := nd8 (X := .dK (specK am2 ar2 sl D2)) (n8 _ _ hrm7)
      have hm9 := nd8 (X := .dK (specK am2 ar2 sl D2)) (n8 _ _ hm7)
      have hr9 := nd8 (X := .dK (specK am2 ar2 sl D2)) (n8 _ _ hr7)
      have hs9 := nd8 (X := .dK (specK am2 ar2 sl D2)) (upd_same (H := H7) (a := sl) (o := .lst (sp.signs.map V.str)))
      have tk9 : Tk H7 (upd (upd H7 sl (.lst (sp.signs.map V.str))) d2 (.dK (specK am2 ar2 sl D2))) := fun x xs h => by rw [upd_ne (at_ne (n8 _ _ h) hd8 (fun y => nomatch y))]; exact n8 _ _ h
      have rmp9 := Paired.imp (fun _ _ => RuleAt.tk tk9) rmp7
      have bag9 : BagAt (upd (upd H7 sl (.lst (sp.signs.map V.str))) d2 (.dK (specK am2 ar2 sl D2))) b ca := by
        obtain ⟨cs, i1, i2, i3, i4, g1, g2⟩ := id (bag7.same n8)
        exact ⟨cs, i1, i2, i3, i4, nd8 g1, nd8 g2⟩
      generalize upd (upd H7 sl (.lst (sp.signs.map V.str))) d2 (.dK (specK am2 ar2 sl D2)) = H9 at kq9 hd9 hrm9 hm9 hr9 hs9 rmp9 bag9 ⊢
      have hsp3 : SpecAt H9 d2 ⟨sp2.modes, sp2.registers, sp.signs, oneSign sp.signs[0] rs⟩ := ⟨⟨am2, ar2, sl, D2, rm, hd9, hm9, hr9, hs9, hrm9, rmp9⟩, oneSign_ok ok ok2 (List.getElem_mem hsg0) sub one⟩
      refine ⟨_, rfl, _, rfl, _, rfl, b, ca, d2, _, rfl, bag9, hsp3, fun st stv Ha kpa baga hst so bd => ⟨_, rfl, _, rfl, b, ca, d2, _, rfl, baga, hsp3.kp kpa, fun lk lkv Hb kpb bagb hlk lok => ⟨by show 3 ≤ sizeLine; decide, fun o2 ho2 => ?_⟩⟩⟩
      have n10 := same_new (.tup [V.ref d2, V.ref st, V.ref lk]) ho2
      refine ⟨_, rfl, _, rfl, by show 2 ≤ sizeLine; decide, fun t ht => ?_⟩
      have n11 := same_new (.tup [V.ref gv, V.ref o2]) ht
      have n1011 := n10.trans n11
      have kpb2 := kpb.trans (Same.kp n1011)
      have kqe := kq9.trans (kpa.trans kpb2)
      exact k t gv o2 g1 ⟨⟨sp2.modes, sp2.registers, sp.signs, oneSign sp.signs[0] rs⟩, stv, lkv⟩ _ (kp2.trans kqe) (bagb.same n1011) upd_same (gat1.kp kqe)
        ⟨⟨d2, st, lk, n11 _ _ upd_same, hsp3.kp (kpa.trans kpb2), hst.kp kpb2, hlk.kp (Same.kp n1011)⟩, given_ok hsp3.ok so bd lok⟩ (by rw [e1])
    refine ⟨_, pss_cons (ps_set (i := 1) sc.nd rfl (.inr rfl) (pe_c (ok_law_spec T) hr (pa_cons (pv 0) (pa_cons pe_int (pa_cons pe_int pa_nil)))))
      (pss_cons (ps_set (i := 2) sc.nd rfl (.inl rfl) (pe_tup (pa_cons (pv 1) (pa_cons (pe_c ((ok_law_state T).up (by decide)) hr (pa_cons (pv 0) (pa_cons (pv 1) pa_nil))) (pa_cons (pe_c ((ok_law_look T).up (by decide)) hr (pa_cons (pv 0) (pa_cons (pv 1) pa_nil))) pa_nil)))))
      (pss_cons (ps_set (i := 3) sc.nd rfl (.inl rfl) (pe_c ((ok_law_take T).up (by decide)) hr (pa_cons (pv 0) (pa_cons pe_int pa_nil))))
      (pss_cons (ps_set (i := 4) sc.nd rfl (.inl rfl) (pe_c ((ok_law_renamed T).up (by decide)) hr (pa_cons (pv 0) (pa_cons (pe_ifExp (pt_cc op_eq (pv 3) pe_int (nomark _)) (pv 2) (pe_c ((ok_law_changed T).up (by decide)) hr (pa_cons (pv 0) (pa_cons (pv 2) pa_nil)))) pa_nil))))
      p5))), ?_⟩
    refine ⟨_, rfl, b, ca, rfl, hbag, fun d sp H1 kp1 bag1 hsp _ => ?_⟩
    refine ⟨_, rfl, _, rfl, _, rfl, b, ca, d, sp, rfl, bag1, hsp, fun st stv H2 kp2 bag2 hst so bd => ?_⟩
    refine ⟨_, rfl, _, rfl, b, ca, d, sp, rfl, bag2, hsp.kp kp2, fun lk lkv H3 kp3 bag3 hlk lok => ⟨by show 3 ≤ sizeLine; decide, fun gv hgv => ?_⟩⟩
    have n4 := same_new (.tup [V.ref d, V.ref st, V.ref lk]) hgv
    have kp14 := (kp2.trans kp3).trans (Same.kp n4)
    have kp34 := kp3.trans (Same.kp n4)
    have bag4 := bag3.same n4
    have gat : GivenAt (upd H3 gv (.tup [V.ref d, V.ref st, V.ref lk])) gv ⟨sp, stv, lkv⟩ := ⟨⟨d, st, lk, upd_same, hsp.kp kp14, hst.kp kp34, hlk.kp (Same.kp n4)⟩, given_ok hsp.ok so bd lok⟩
    have kp4 := kp1.trans kp14
    have hsp4 := hsp.kp kp14
    generalize upd H3 gv (.tup [V.ref d, V.ref st, V.ref lk]) = H4 at kp4 bag4 gat hsp4 ⊢
    refine ⟨_, rfl, b, ca, 4, rfl, bag4, by decide, by decide, fun kd H5 k0 k1 kp5 bag5 => ?_⟩
    have gat5 := gat.kp kp5
    have hsp5 := hsp4.kp kp5
    have kp05 := kp4.trans kp5
    have e1 : (⟨sp, stv, lkv⟩ : Given).spec.signs = sp.signs := rfl
    refine ⟨_, rfl, _, rfl, rd_eq rfl ⟨_, rfl, ?_⟩⟩
    by_cases hk : kd = 0
    · refine it_dec (congrArg V.int hk) ⟨_, rfl, b, ca, gv, _, rfl, bag5, gat5, fun o g2 H6 kp6 bag6 gat6 pm => ?_⟩
      exact r5 d gv o sp _ g2 kd H6 (kp05.trans kp6) bag6 (hsp5.kp kp6) (gat5.kp kp6) e1 gat6 pm.symm
    · refine it_decF (fun z => hk (V.int.inj z)) ⟨_, rfl, _, rfl, b, ca, gv, _, rfl, bag5, gat5, bd, fun c2 gc H6 kp6 bag6 gatc ec => ?_⟩
      refine ⟨b, ca, c2, gc, rfl, bag6, gatc, fun o g2 H7 kp7 bag7 gat7 pm => ?_⟩
      exact r5 d gv o sp _ g2 kd H7 (kp05.trans (kp6.trans kp7)) bag7 (hsp5.kp (kp6.trans kp7)) (gat5.kp (kp6.trans kp7)) e1 gat7 (by rw [ec] at pm; exact pm.symm)
end
end Tw
end

section
set_option Elab.async false
set_option linter.all false
set_option maxRecDepth 100000
set_option maxHeartbeats 4000000
/-! The law. -/
namespace Tw
open PySem PySem.Spec PyProof.Rows L2
section
variable {P : Program} {w : World} {K : PySem.W.Frag} {mg : Str → Option Value} {base : Heap}
theorem callO_Probe (T : Txt K mg) : StX.CallO K (He.ga K "Probe") (He.ma K (He.ga K "Probe") "__call__") := ⟨(m_Probe_call T).at_, (m_Probe_call T).fn, ((Bool.and_eq_true _ _).mp T.ex).2⟩
abbrev nLaw : List Str := ["_law_script", "_law_bag_here", "_law_turn", "_law_given", "_law_other", "_law_one", "_law_two", "_law_found", "_law_most", "_law_again", "_law_events_here", "_law_gap_here"]
def spLaw (K : PySem.W.Frag) : Sp := fun vs H Q _ => ∃ (a : Addr) (xs : List Int), vs = [.ref a] ∧ SqL K H a (xs.map V.int) ∧ ∀ H', Q (.bl true) H'
theorem law_sc : FnScope nLaw ["_law_script"] (defScope s_law) := ⟨rfl, rfl, rfl, by decide +kernel, rfl, by decide +kernel, by decide +kernel⟩
theorem law_body (T : Txt K mg) (PO : PrOk P) : BodyOk P w K mg base nLaw "law" s_law (He.ga K "law") 8 (spLaw K) := by
  intro cdv A outer s H vs Q E hr h
  have sc : FnScope nLaw ["_law_script"] (defScope s_law) := law_sc
  · obtain ⟨a, xs, rfl, ha, k⟩ := h
    have hu := room_u hr
    refine ⟨_, pss_cons (ps_set (i := 1) sc.nd rfl (.inl rfl) (pe_c ((ok_law_bag T).up (by decide)) hr (pa_cons (pv 0) pa_nil)))
      (pss_cons (ps_for PassesOwn.never rfl (pi_range1 rfl (b_range T) (pa_cons pe_int pa_nil)) (pg_name (i := 2) sc.nd rfl (.inl rfl))
        (pss_cons (ps_asg (pe_c ((ok_law_two T).up (by decide)) hr (pa_cons (pv 1) pa_nil)) (pg_tup rfl (pgs_cons (pg_name (i := 3) sc.nd rfl (.inl rfl)) (pgs_cons (pg_name (i := 4) sc.nd rfl (.inl rfl)) pgs_nil))))
        (pss_cons (ps_par (i := 5) (j := 6) rfl sc.nd rfl rfl (by decide) rfl rfl (pa_cons (pe_c (ok_law_probe T) hr (pa_cons (pv 3) pa_nil)) (pa_cons (pe_c (ok_law_probe T) hr (pa_cons (pv 4) pa_nil)) pa_nil)) rfl)
        (pss_cons (ps_set (i := 7) sc.nd rfl (.inl rfl) (pe_c ((ok_compare T PO).up (by decide)) hr (pa_cons (pv 5) (pa_cons (pv 6) pa_nil))))
        (pss_cons (ps_set (i := 8) sc.nd rfl (.inl rfl) (pe_ifExp (pt_cc op_eq (pe_either (pe_m0 ((ok_told_Ap T).up (by decide)) hr (pv 7)) (pe_m0 ((ok_told_Al T).up (by decide)) hr (pv 7))) pe_str (nomark _)) (pe_b1 cr_ln (b_len T) (pe_m0 ((ok_events_Ap T).up (by decide)) hr (pv 7))) pe_int))
        (pss_one (ps_for PassesOwn.never rfl (pi_range1 rfl (b_range T) (pa_cons pe_int pa_nil)) (pg_name (i := 9) sc.nd rfl (.inl rfl))
          (pss_cons (ps_set (i := 10) sc.nd rfl (.inl rfl) (pe_ifExp (pt_cc op_gt (pv 8) pe_int (nomark _)) (pe_c ((ok_law_events T).up (by decide)) hr (pa_cons (pv 1) (pa_cons (pe_ti (pv 3)) (pa_cons (pe_c ((ok_law_take T).up (by decide)) hr (pa_cons (pv 1) (pa_cons (pe_b2 (call_min2 rfl) (b_min T) (pv 8) pe_int) pa_nil))) pa_nil)))) (pe_lst pa_nil)))
          (pss_cons (ps_set (i := 11) sc.nd rfl (.inl rfl) (pe_c ((ok_law_gap T).up (by decide)) hr (pa_cons (pv 3) (pa_cons (pv 4) (pa_cons (pe_tup (pa_cons (pe_c ((ok_law_run T).up (by decide)) hr (pa_cons (pe_ti (pv 3)) (pa_cons (pe_ti (pv 3)) (pa_cons (pv 10) pa_nil)))) (pa_cons (pe_c ((ok_law_run T).up (by decide)) hr (pa_cons (pe_ti (pv 4)) (pa_cons (pe_ti (pv 4)) (pa_cons (pv 10) pa_nil)))) pa_nil))) pa_nil)))))
          (pss_one (ps_if (PW.pt (pw_or (PW.pt (pw_and (pt_cc op_gt (pv 8) pe_int (nomark _)) (pw_and1 (pt_cc op_ne (pv 11) pe_int (nomark _))))) (pw_or1 (pt_cmpR op_ne (pe_op op_sub (StX.pe_callO (pv 5) (callO_Probe T) ((ok_call T).up (by decide : 6 ≤ 8)).run hr pass0 (pa_cons (pv 10) pa_nil)) (StX.pe_callO (pv 6) (callO_Probe T) ((ok_call T).up (by decide : 6 ≤ 8)).run hr pass0 (pa_cons (pv 10) pa_nil))) (pv 11) (nomark _)))))
            (pss_one (ps_ret pe_bl)) pss_nil)))))))))))
      (pss_one (ps_ret pe_bl))), ?_⟩
    refine ⟨_, rfl, a, xs, rfl, ha, fun b ca H1 s1 bag1 => ?_⟩
    refine ⟨(2 : Int), rfl, by decide, by decide, for_it walk_range (fun i σ H2 => ∃ v2 v3 v4 v5 v6 v7 v8 v9 v10 v11, σ = [some (.ref a), some (.ref b), v2, v3, v4, v5, v6, v7, v8, v9, v10, v11] ∧ BagAt H2 b ca) ⟨_, _, _, _, _, _, _, _, _, _, rfl, bag1⟩ (fun _ _ _ _ _ => True.intro) ?_ ?_⟩
    · rintro i y σ H2 H2' hi ⟨v2, v3, v4, v5, v6, v7, v8, v9, v10, v11, rfl, bag2⟩ ⟨rfl, hy⟩
      refine ⟨_, rfl, b, ca, rfl, bag2, fun t a1 a2 g1 g2 H3 kp3 bag3 ht gat1 gat2 pm => ⟨t, _, rfl, SqT.of ht, rfl, _, _, rfl, _, _, rfl, rfl, ?_⟩⟩
      refine ⟨_, rfl, a1, g1, rfl, gat1, fun p1 H4 s4 pa1 => ⟨_, rfl, a2, g2, rfl, gat2.kp (Same.kp s4), fun p2 H5 s5 pa2 => ⟨_, _, rfl, ?_⟩⟩⟩
      have s45 := s4.trans s5
      have pa1' := pa1.same s5
      -- the checks, from here
      refine ⟨_, rfl, _, rfl, p1, p2, g1, g2, rfl, pa1', pa2, pm, fun p Hc sc6 al gz => ?_, fun p H6 es0 sc6 ap gz le => ?_⟩
      · obtain ⟨dx, fs, al1, al2⟩ := id al
        refine .inr ⟨_, rfl, p, dx, fs, rfl, al1, al2, p, rfl, al, rd_eq rfl ⟨_, rfl, it_decF (fun z => absurd (V.str.inj z) (by decide +kernel)) ?_⟩⟩
        obtain ⟨M, hM⟩ : ∃ M : Int, M = 7 := ⟨_, rfl⟩
        have M0 : 0 ≤ M := by omega
        have M7 : M ≤ 7 := by omega
        have gzM : ∀ l : Evs, (∀ e ∈ l, e.1 ∈ g1.spec.signs) → (l.length : Int) < M → TwM.gap amtS oneS g1 g2 l = 0 := fun l hl _ => gz l hl
        have k5c : Kp H5 Hc := Same.kp sc6
        have k3c : Kp H3 Hc := (Same.kp s45).trans k5c
        have bagc := (bag3.same s45).same sc6
        refine ⟨(12 : Int), rfl, by decide, by decide, for_it walk_range (fun i σ H7 => ∃ v9 v10 v11, σ = [some (.ref a), some (.ref b), some y, some (.ref a1), some (.ref a2), some (.ref p1), some (.ref p2), some (.ref p), some (.int M), v9, v10, v11] ∧ Kp Hc H7 ∧ BagAt H7 b ca) ⟨_, _, _, by rw [hM]; rfl, Same.kp (Same.refl _), bagc⟩ (fun _ _ _ _ _ => True.intro) ?_ ?_⟩
        · rintro j z σ H7 H7x hj ⟨v9, v10, v11, rfl, kp7, bag7⟩ ⟨rfl, hz⟩
          obtain ⟨⟨d1, st1, lk1, q1, q2, q3, q4⟩, gok1⟩ := gat1.kp (k3c.trans kp7)
          obtain ⟨⟨d2, st2, lk2, w1, w2, w3, w4⟩, gok2⟩ := gat2.kp (k3c.trans kp7)
          refine ⟨_, rfl, _, _, rfl, rfl, _, rfl, ?_⟩
          by_cases hM1 : 0 < M
          · refine it_dec hM1 ⟨_, rfl, _, rfl, rd_it q1 rfl ⟨_, rfl, _, rfl, M, 7, rfl, b, ca, _, rfl, bag7, ?_, ?_, fun n H8 n0 n1 kp8 bag8 => ?_⟩⟩
            · split <;> omega
            · split <;> omega
            have n2 : n < M := by
              revert n1
              split <;> omega
            obtain ⟨nn, rfl⟩ := Int.eq_ofNat_of_zero_le n0
            refine ⟨b, ca, d1, g1.spec, nn, rfl, bag8, q2.kp kp8, by omega, fun l es H9 kp9 bag9 hes len eok => ?_⟩
            have k9 := kp8.trans kp9
            have k39 := (k3c.trans kp7).trans k9
            have k59 := (k5c.trans kp7).trans k9
            have kc9 := kp7.trans k9
            have hn : es.length ≤ 10 := by omega
            have hgz : TwM.gap amtS oneS g1 g2 es = 0 := gzM es (fun e h => (eok e h).sign) (by omega)
            have s9q1 := k9 _ _ q1 rfl
            have s9w1 := k9 _ _ w1 rfl
            have G1 := gat1.kp k39
            have G2 := gat2.kp k39
            have P1 := pa1'.kp k59
            have P2 := pa2.kp k59
            have all : ∀ e ∈ es, e.2.natAbs ≤ 1000000000000 := fun e h => by have q := eok e h; have := q.lo; have := q.hi; omega
            refine ⟨_, rfl, _, rfl, _, rfl, rd_it s9q1 rfl ⟨_, rfl, rd_it s9q1 rfl ⟨_, rfl, d1, st1, l, g1.spec, g1.start, es, rfl, q2.kp k9, q3.kp k9, gok1.start, gok1.bd, hes, hn, all, fun e1 Ha sa he1 => ?_⟩⟩⟩
            refine ⟨_, rfl, rd_it (sa _ _ s9w1) rfl ⟨_, rfl, rd_it (sa _ _ s9w1) rfl ⟨_, rfl, d2, st2, l, g2.spec, g2.start, es, rfl, (w2.kp k9).kp (Same.kp sa), (w3.kp k9).kp (Same.kp sa), gok2.start, gok2.bd, hes.same sa, hn, all, fun e2 Hb sb he2 => ?_⟩⟩⟩
            have sab := sa.trans sb
            refine ⟨by show 2 ≤ sizeLine; decide, fun t2 ht2 => ?_⟩
            have n2t := same_new (.tup [V.ref e1, V.ref e2]) ht2
            have sat := sab.trans n2t
            have b1 := TwM.run_lt (amt := amtS) (one := oneS) (specBd gok1.spec) (by decide) gok1.bd es all es.length (Nat.le_refl _)
            rw [List.take_length] at b1
            have b2 := TwM.run_lt (amt := amtS) (one := oneS) (specBd gok2.spec) (by decide) gok2.bd es all es.length (Nat.le_refl _)
            rw [List.take_length] at b2
            refine ⟨a1, a2, t2, e1, e2, g1, g2, _, _, rfl, G1.kp (Same.kp sat), G2.kp (Same.kp sat), upd_same, he1.same (sb.trans n2t), he2.same n2t, TwM.run_ok (specLin gok1.spec) _ _ gok1.start, TwM.run_ok (specLin gok2.spec) _ _ gok2.start, b1.mono (by omega), b2.mono (by omega), fun Hd sd => ?_⟩
            have sall := sat.trans sd
            have P1e := P1.same sall
            have P2e := P2.same sall
            obtain ⟨⟨x1, xq1, xs1, xb1, xo1, xl1, y1, _⟩, _⟩ := id P1e
            obtain ⟨⟨x2, xq2, xs2, xb2, xo2, xl2, y2, _⟩, _⟩ := id P2e
            have fin : ∀ He : Hp, Same Hd He → Kp Hc He ∧ BagAt He b ca := fun He se => ⟨kc9.trans (Same.kp (sall.trans se)), (bag9.same sall).same se⟩
            refine ⟨_, rfl, _, _, rfl, rfl, _, rfl, it_dec hM1 ⟨_, rfl, rd_ne rfl ⟨_, rfl, it_ndecF (congrArg V.int hgz) ?_⟩⟩⟩
            refine ⟨_, rfl, p1, rfl, _, rfl, .inr ⟨x1, _, y1⟩, p1, l, g1, es, rfl, P1e, hes.same sall, hn, eok, fun He se => ?_⟩
            refine ⟨_, rfl, p2, rfl, _, rfl, .inr ⟨x2, _, se _ _ y2⟩, p2, l, g2, es, rfl, P2e.same se, (hes.same sall).same se, hn, (fun e h => ⟨pm.subset (eok e h).sign, (eok e h).lo, (eok e h).hi⟩), fun Hf sf => ?_⟩
            obtain ⟨f1, f2⟩ := fin Hf (se.trans sf)
            exact ⟨_, _, rfl, rfl, _, rfl, rd_ne rfl ⟨_, rfl, it_ndecF rfl ⟨_, _, _, rfl, f1, f2⟩⟩⟩
          · refine it_decF hM1 ⟨by show 0 ≤ sizeLine; decide, fun l hl => ?_⟩
            have n9 := same_new (.lst []) hl
            have k9 := Same.kp n9
            have k39 := (k3c.trans kp7).trans k9
            have k59 := (k5c.trans kp7).trans k9
            have kc9 := kp7.trans k9
            have bag9 := bag7.same n9
            obtain ⟨es, hes0⟩ : ∃ es : Evs, es = [] := ⟨_, rfl⟩
            have hes : EventsAt (upd H7x l (.lst [])) l es := by rw [hes0]; exact ⟨[], upd_same, .nil⟩
            have eok : ∀ e ∈ es, EventOk g1.spec.signs e := by rw [hes0]; exact fun _ h => nomatch h
            have hn : es.length ≤ 10 := by rw [hes0]; decide
            have s9q1 := k9 _ _ q1 rfl
            have s9w1 := k9 _ _ w1 rfl
            have G1 := gat1.kp k39
            have G2 := gat2.kp k39
            have P1 := pa1'.kp k59
            have P2 := pa2.kp k59
            have all : ∀ e ∈ es, e.2.natAbs ≤ 1000000000000 := fun e h => by have q := eok e h; have := q.lo; have := q.hi; omega
            refine ⟨_, rfl, _, rfl, _, rfl, rd_it s9q1 rfl ⟨_, rfl, rd_it s9q1 rfl ⟨_, rfl, d1, st1, l, g1.spec, g1.start, es, rfl, q2.kp k9, q3.kp k9, gok1.start, gok1.bd, hes, hn, all, fun e1 Ha sa he1 => ?_⟩⟩⟩
            refine ⟨_, rfl, rd_it (sa _ _ s9w1) rfl ⟨_, rfl, rd_it (sa _ _ s9w1) rfl ⟨_, rfl, d2, st2, l, g2.spec, g2.start, es, rfl, (w2.kp k9).kp (Same.kp sa), (w3.kp k9).kp (Same.kp sa), gok2.start, gok2.bd, hes.same sa, hn, all, fun e2 Hb sb he2 => ?_⟩⟩⟩
            have sab := sa.trans sb
            refine ⟨by show 2 ≤ sizeLine; decide, fun t2 ht2 => ?_⟩
            have n2t := same_new (.tup [V.ref e1, V.ref e2]) ht2
            have sat := sab.trans n2t
            have b1 := TwM.run_lt (amt := amtS) (one := oneS) (specBd gok1.spec) (by decide) gok1.bd es all es.length (Nat.le_refl _)
            rw [List.take_length] at b1
            have b2 := TwM.run_lt (amt := amtS) (one := oneS) (specBd gok2.spec) (by decide) gok2.bd es all es.length (Nat.le_refl _)
            rw [List.take_length] at b2
            refine ⟨a1, a2, t2, e1, e2, g1, g2, _, _, rfl, G1.kp (Same.kp sat), G2.kp (Same.kp sat), upd_same, he1.same (sb.trans n2t), he2.same n2t, TwM.run_ok (specLin gok1.spec) _ _ gok1.start, TwM.run_ok (specLin gok2.spec) _ _ gok2.start, b1.mono (by omega), b2.mono (by omega), fun Hd sd => ?_⟩
            have sall := sat.trans sd
            have P1e := P1.same sall
            have P2e := P2.same sall
            obtain ⟨⟨x1, xq1, xs1, xb1, xo1, xl1, y1, _⟩, _⟩ := id P1e
            obtain ⟨⟨x2, xq2, xs2, xb2, xo2, xl2, y2, _⟩, _⟩ := id P2e
            have fin : ∀ He : Hp, Same Hd He → Kp Hc He ∧ BagAt He b ca := fun He se => ⟨kc9.trans (Same.kp (sall.trans se)), (bag9.same sall).same se⟩
            refine ⟨_, rfl, _, _, rfl, rfl, _, rfl, it_decF hM1 ?_⟩
            refine ⟨_, rfl, p1, rfl, _, rfl, .inr ⟨x1, _, y1⟩, p1, l, g1, es, rfl, P1e, hes.same sall, hn, eok, fun He se => ?_⟩
            refine ⟨_, rfl, p2, rfl, _, rfl, .inr ⟨x2, _, se _ _ y2⟩, p2, l, g2, es, rfl, P2e.same se, (hes.same sall).same se, hn, (fun e h => ⟨pm.subset (eok e h).sign, (eok e h).lo, (eok e h).hi⟩), fun Hf sf => ?_⟩
            obtain ⟨f1, f2⟩ := fin Hf (se.trans sf)
            exact ⟨_, _, rfl, rfl, _, rfl, rd_ne rfl ⟨_, rfl, it_ndecF rfl ⟨_, _, _, rfl, f1, f2⟩⟩⟩
        · rintro σ H7 ⟨v9, v10, v11, rfl, kp7, bag7⟩
          exact ⟨_, _, _, _, _, _, _, _, _, _, rfl, bag7⟩
      · obtain ⟨dx, fs, l6, ap1, ap2, ap3, ap4, ap5⟩ := id ap
        refine .inl ⟨_, rfl, p, dx, fs, rfl, ap1, ap2, p, es0, rfl, ap, rd_eq rfl ⟨_, rfl, it_dec rfl ⟨_, rfl, p, dx, fs, rfl, ap1, ap3, p, es0, rfl, ap, fun l7 Hc s7 hl7 => ?_⟩⟩⟩
        obtain ⟨eas, hea, epr⟩ := hl7
        refine rd_lenL hea ?_
        have lea := epr.length
        obtain ⟨M, hM⟩ : ∃ M : Int, ((eas.map V.ref).length : Int) = M := ⟨_, rfl⟩
        rw [hM]
        rw [List.length_map] at hM
        have M0 : 0 ≤ M := by omega
        have M7 : M ≤ 7 := by omega
        have gzM : ∀ l : Evs, (∀ e ∈ l, e.1 ∈ g1.spec.signs) → (l.length : Int) < M → TwM.gap amtS oneS g1 g2 l = 0 := fun l hl h => gz l hl (by omega)
        have k5c : Kp H5 Hc := Same.kp (sc6.trans s7)
        have k3c : Kp H3 Hc := (Same.kp s45).trans k5c
        have bagc := (bag3.same s45).same (sc6.trans s7)
        refine ⟨(12 : Int), rfl, by decide, by decide, for_it walk_range (fun i σ H7 => ∃ v9 v10 v11, σ = [some (.ref a), some (.ref b), some y, some (.ref a1), some (.ref a2), some (.ref p1), some (.ref p2), some (.ref p), some (.int M), v9, v10, v11] ∧ Kp Hc H7 ∧ BagAt H7 b ca) ⟨_, _, _, rfl, Same.kp (Same.refl _), bagc⟩ (fun _ _ _ _ _ => True.intro) ?_ ?_⟩
        · rintro j z σ H7 H7x hj ⟨v9, v10, v11, rfl, kp7, bag7⟩ ⟨rfl, hz⟩
          obtain ⟨⟨d1, st1, lk1, q1, q2, q3, q4⟩, gok1⟩ := gat1.kp (k3c.trans kp7)
          obtain ⟨⟨d2, st2, lk2, w1, w2, w3, w4⟩, gok2⟩ := gat2.kp (k3c.trans kp7)
          refine ⟨_, rfl, _, _, rfl, rfl, _, rfl, ?_⟩
          by_cases hM1 : 0 < M
          · refine it_dec hM1 ⟨_, rfl, _, rfl, rd_it q1 rfl ⟨_, rfl, _, rfl, M, 7, rfl, b, ca, _, rfl, bag7, ?_, ?_, fun n H8 n0 n1 kp8 bag8 => ?_⟩⟩
            · split <;> omega
            · split <;> omega
            have n2 : n < M := by
              revert n1
              split <;> omega
            obtain ⟨nn, rfl⟩ := Int.eq_ofNat_of_zero_le n0
            refine ⟨b, ca, d1, g1.spec, nn, rfl, bag8, q2.kp kp8, by omega, fun l es H9 kp9 bag9 hes len eok => ?_⟩
            have k9 := kp8.trans kp9
            have k39 := (k3c.trans kp7).trans k9
            have k59 := (k5c.trans kp7).trans k9
            have kc9 := kp7.trans k9
            have hn : es.length ≤ 10 := by omega
            have hgz : TwM.gap amtS oneS g1 g2 es = 0 := gzM es (fun e h => (eok e h).sign) (by omega)
            have s9q1 := k9 _ _ q1 rfl
            have s9w1 := k9 _ _ w1 rfl
            have G1 := gat1.kp k39
            have G2 := gat2.kp k39
            have P1 := pa1'.kp k59
            have P2 := pa2.kp k59
            have all : ∀ e ∈ es, e.2.natAbs ≤ 1000000000000 := fun e h => by have q := eok e h; have := q.lo; have := q.hi; omega
            refine ⟨_, rfl, _, rfl, _, rfl, rd_it s9q1 rfl ⟨_, rfl, rd_it s9q1 rfl ⟨_, rfl, d1, st1, l, g1.spec, g1.start, es, rfl, q2.kp k9, q3.kp k9, gok1.start, gok1.bd, hes, hn, all, fun e1 Ha sa he1 => ?_⟩⟩⟩
            refine ⟨_, rfl, rd_it (sa _ _ s9w1) rfl ⟨_, rfl, rd_it (sa _ _ s9w1) rfl ⟨_, rfl, d2, st2, l, g2.spec, g2.start, es, rfl, (w2.kp k9).kp (Same.kp sa), (w3.kp k9).kp (Same.kp sa), gok2.start, gok2.bd, hes.same sa, hn, all, fun e2 Hb sb he2 => ?_⟩⟩⟩
            have sab := sa.trans sb
            refine ⟨by show 2 ≤ sizeLine; decide, fun t2 ht2 => ?_⟩
            have n2t := same_new (.tup [V.ref e1, V.ref e2]) ht2
            have sat := sab.trans n2t
            have b1 := TwM.run_lt (amt := amtS) (one := oneS) (specBd gok1.spec) (by decide) gok1.bd es all es.length (Nat.le_refl _)
            rw [List.take_length] at b1
            have b2 := TwM.run_lt (amt := amtS) (one := oneS) (specBd gok2.spec) (by decide) gok2.bd es all es.length (Nat.le_refl _)
            rw [List.take_length] at b2
            refine ⟨a1, a2, t2, e1, e2, g1, g2, _, _, rfl, G1.kp (Same.kp sat), G2.kp (Same.kp sat), upd_same, he1.same (sb.trans n2t), he2.same n2t, TwM.run_ok (specLin gok1.spec) _ _ gok1.start, TwM.run_ok (specLin gok2.spec) _ _ gok2.start, b1.mono (by omega), b2.mono (by omega), fun Hd sd => ?_⟩
            have sall := sat.trans sd
            have P1e := P1.same sall
            have P2e := P2.same sall
            obtain ⟨⟨x1, xq1, xs1, xb1, xo1, xl1, y1, _⟩, _⟩ := id P1e
            obtain ⟨⟨x2, xq2, xs2, xb2, xo2, xl2, y2, _⟩, _⟩ := id P2e
            have fin : ∀ He : Hp, Same Hd He → Kp Hc He ∧ BagAt He b ca := fun He se => ⟨kc9.trans (Same.kp (sall.trans se)), (bag9.same sall).same se⟩
            refine ⟨_, rfl, _, _, rfl, rfl, _, rfl, it_dec hM1 ⟨_, rfl, rd_ne rfl ⟨_, rfl, it_ndecF (congrArg V.int hgz) ?_⟩⟩⟩
            refine ⟨_, rfl, p1, rfl, _, rfl, .inr ⟨x1, _, y1⟩, p1, l, g1, es, rfl, P1e, hes.same sall, hn, eok, fun He se => ?_⟩
            refine ⟨_, rfl, p2, rfl, _, rfl, .inr ⟨x2, _, se _ _ y2⟩, p2, l, g2, es, rfl, P2e.same se, (hes.same sall).same se, hn, (fun e h => ⟨pm.subset (eok e h).sign, (eok e h).lo, (eok e h).hi⟩), fun Hf sf => ?_⟩
            obtain ⟨f1, f2⟩ := fin Hf (se.trans sf)
            exact ⟨_, _, rfl, rfl, _, rfl, rd_ne rfl ⟨_, rfl, it_ndecF rfl ⟨_, _, _, rfl, f1, f2⟩⟩⟩
          · refine it_decF hM1 ⟨by show 0 ≤ sizeLine; decide, fun l hl => ?_⟩
            have n9 := same_new (.lst []) hl
            have k9 := Same.kp n9
            have k39 := (k3c.trans kp7).trans k9
            have k59 := (k5c.trans kp7).trans k9
            have kc9 := kp7.trans k9
            have bag9 := bag7.same n9
            obtain ⟨es, hes0⟩ : ∃ es : Evs, es = [] := ⟨_, rfl⟩
            have hes : EventsAt (upd H7x l (.lst [])) l es := by rw [hes0]; exact ⟨[], upd_same, .nil⟩
            have eok : ∀ e ∈ es, EventOk g1.spec.signs e := by rw [hes0]; exact fun _ h => nomatch h
            have hn : es.length ≤ 10 := by rw [hes0]; decide
            have s9q1 := k9 _ _ q1 rfl
            have s9w1 := k9 _ _ w1 rfl
            have G1 := gat1.kp k39
            have G2 := gat2.kp k39
            have P1 := pa1'.kp k59
            have P2 := pa2.kp k59
            have all : ∀ e ∈ es, e.2.natAbs ≤ 1000000000000 := fun e h => by have q := eok e h; have := q.lo; have := q.hi; omega
            refine ⟨_, rfl, _, rfl, _, rfl, rd_it s9q1 rfl ⟨_, rfl, rd_it s9q1 rfl ⟨_, rfl, d1, st1, l, g1.spec, g1.start, es, rfl, q2.kp k9, q3.kp k9, gok1.start, gok1.bd, hes, hn, all, fun e1 Ha sa he1 => ?_⟩⟩⟩
            refine ⟨_, rfl, rd_it (sa _ _ s9w1) rfl ⟨_, rfl, rd_it (sa _ _ s9w1) rfl ⟨_, rfl, d2, st2, l, g2.spec, g2.start, es, rfl, (w2.kp k9).kp (Same.kp sa), (w3.kp k9).kp (Same.kp sa), gok2.start, gok2.bd, hes.same sa, hn, all, fun e2 Hb sb he2 => ?_⟩⟩⟩
            have sab := sa.trans sb
            refine ⟨by show 2 ≤ sizeLine; decide, fun t2 ht2 => ?_⟩
            have n2t := same_new (.tup [V.ref e1, V.ref e2]) ht2
            have sat := sab.trans n2t
            have b1 := TwM.run_lt (amt := amtS) (one := oneS) (specBd gok1.spec) (by decide) gok1.bd es all es.length (Nat.le_refl _)
            rw [List.take_length] at b1
            have b2 := TwM.run_lt (amt := amtS) (one := oneS) (specBd gok2.spec) (by decide) gok2.bd es all es.length (Nat.le_refl _)
            rw [List.take_length] at b2
            refine ⟨a1, a2, t2, e1, e2, g1, g2, _, _, rfl, G1.kp (Same.kp sat), G2.kp (Same.kp sat), upd_same, he1.same (sb.trans n2t), he2.same n2t, TwM.run_ok (specLin gok1.spec) _ _ gok1.start, TwM.run_ok (specLin gok2.spec) _ _ gok2.start, b1.mono (by omega), b2.mono (by omega), fun Hd sd => ?_⟩
            have sall := sat.trans sd
            have P1e := P1.same sall
            have P2e := P2.same sall
            obtain ⟨⟨x1, xq1, xs1, xb1, xo1, xl1, y1, _⟩, _⟩ := id P1e
            obtain ⟨⟨x2, xq2, xs2, xb2, xo2, xl2, y2, _⟩, _⟩ := id P2e
            have fin : ∀ He : Hp, Same Hd He → Kp Hc He ∧ BagAt He b ca := fun He se => ⟨kc9.trans (Same.kp (sall.trans se)), (bag9.same sall).same se⟩
            refine ⟨_, rfl, _, _, rfl, rfl, _, rfl, it_decF hM1 ?_⟩
            refine ⟨_, rfl, p1, rfl, _, rfl, .inr ⟨x1, _, y1⟩, p1, l, g1, es, rfl, P1e, hes.same sall, hn, eok, fun He se => ?_⟩
            refine ⟨_, rfl, p2, rfl, _, rfl, .inr ⟨x2, _, se _ _ y2⟩, p2, l, g2, es, rfl, P2e.same se, (hes.same sall).same se, hn, (fun e h => ⟨pm.subset (eok e h).sign, (eok e h).lo, (eok e h).hi⟩), fun Hf sf => ?_⟩
            obtain ⟨f1, f2⟩ := fin Hf (se.trans sf)
            exact ⟨_, _, rfl, rfl, _, rfl, rd_ne rfl ⟨_, rfl, it_ndecF rfl ⟨_, _, _, rfl, f1, f2⟩⟩⟩
        · rintro σ H7 ⟨v9, v10, v11, rfl, kp7, bag7⟩
          exact ⟨_, _, _, _, _, _, _, _, _, _, rfl, bag7⟩
    · rintro σ H2 ⟨v2, v3, v4, v5, v6, v7, v8, v9, v10, v11, rfl, bag2⟩
      exact k H2
end
end Tw
end

section
set_option Elab.async false
set_option linter.all false
set_option maxRecDepth 100000
set_option maxHeartbeats 0
open PySem PySem.W PySem.Calls PyProof.Rows
theorem tw_prok : Tw.PrOk PySem.Challenge.rw_twinbegun_k54_whole_shorter_logs_part_no.prog := ⟨by kernel_rfl, by kernel_rfl⟩
theorem PySem.Challenge.cw_twinbegun_k54_whole_shorter_logs_part_no_holds : PySem.Challenge.rw_twinbegun_k54_whole_shorter_logs_part_no.Holds := by
  w_on; o_law
  refine HandSHeadRun.head_any (r := Tw.R) (q := Tw.qV) (H := Tw.hookZ) (ob := Tw.obZ) (M := 10000) (loose := Tw.looseN) (d := HandSHeadRun.topDef Tw.R.prog 69) (kwd := []) Tw.obZ_eq
    (by kernel_rfl) (fun s => by kernel_rfl) Tw.head_run (by kernel_rfl) (by kernel_rfl) (by kernel_rfl) (by rfl) (by first | assumption | decide +kernel) (by decide +kernel) ⟨rfl, rfl, rfl, rfl, rfl, by decide +kernel⟩ ?hw ?hc
  case hw => w_witness2
  case hc =>
    refine L2.walk_ofE (l := PySem.Challenge.rw_twinbegun_k54_whole_shorter_logs_part_no) (n := 63) (k := 9) (x := "_law_script") (CX := L2.CX0) rfl (by decide) (by kernel_rfl) ⟨rfl, by decide, by decide⟩ ?F (fun _ _ _ _ z => z)
    intro w mg fa h Y G hmg0
    obtain ⟨K, KX, c, ce, cz⟩ := Y
    have hmg : mg ("law" : PySem.Str) = some (.ref fa) := by
      have e : (HandSHeadRun.topDef Tw.R.prog 69).name = ("law" : PySem.Str) := by kernel_rfl
      rw [← e]
      exact hmg0
    have T := Tw.txt_of KX G c ce cz
    obtain ⟨fd, F⟩ := Tw.fd_law T
    have e := hmg.symm.trans (Tw.g_law T)
    cases e
    have b := L2.FunD.bindsA (ps := ["_law_script"]) F fun _ _ _ _ _ _ us hl => match us, hl with | [_], _ => rfl
    refine ⟨K, fd, Tw.spLaw K, KX, fun s v => b s [v] rfl, fun H a ns hl _ hS => ⟨a, ns, rfl, hS, fun _ => rfl⟩, fun base _ _ => ?_⟩
    refine F.ok Tw.law_sc (fun vs H Q E h => ?_) fun cdv A outer s H vs Q E hr h => ?_
    · obtain ⟨a, xs, rfl, _⟩ := h; rfl
    · obtain ⟨t, p, q⟩ := Tw.law_body (base := base) T tw_prok cdv A outer s H vs Q E hr h
      exact ⟨t, L2.PSs.nox p, q⟩
end
