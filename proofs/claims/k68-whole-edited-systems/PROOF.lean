import PyProof.Rows.All
import Wide.All
import OpenK.AllK
import Wide.FinOn
import KE.KStateDown
import HandS.ForMost
import HandS.Exc
import HandS.Defaults
import HandS.Head0
import HandS.Head1
import HandS.Head2
import HandS.HeadEnd
import HandS.HeadHook1
import HandS.HeadHook2
import HandS.HeadHook3
import HandS.HeadHook4
import HandS.HeadWalk
import HandS.ExcOwn
import HandS.TryOnly
import HandS.WordsExc
import HandS.IsInst
import HandS.ExcIs
import HandS.Style
import HandS.Zip
import HandS.TupAny
import HandS.Conv
import HandS.More
import HandS.Strs
import HandS.SetFor
import HandS.Deep
import HandS.ClsMeth
import HandS.Finally
import HandS.Lambda
import HandS.Walk
import HandS.ExcValue
import KE.SortData
import KE.GoesEnum
import KE.KUnpackStar
import HandS.Set
import HandS.ExcCtx
import HandS.Hot
import KE.OsSorts
import HandS.Small
import PySem.Challenge.RW_onceonly_k68_whole_edited_systems
section
set_option Elab.async false
set_option linter.all false
set_option maxRecDepth 100000
set_option maxHeartbeats 0
namespace K68
open PySem PySem.Spec PyProof.Rows L2
def top (i : Nat) : Stmt := PySem.Challenge.pw_onceonly_k68_whole_edited_systems.main.body.getD i (.Pass ⟨0, 0, 0, 0⟩)
abbrev s_check_name : Stmt := top 18
def d_check_name : He.DefD := ⟨("check_name", none), "check_name", "check_name", defArgs s_check_name, defBody s_check_name, defScope s_check_name, [], []⟩
abbrev s_check_operations : Stmt := top 19
def d_check_operations : He.DefD := ⟨("check_operations", none), "check_operations", "check_operations", defArgs s_check_operations, defBody s_check_operations, defScope s_check_operations, [], []⟩
abbrev s_is_integer : Stmt := top 26
def d_is_integer : He.DefD := ⟨("is_integer", none), "is_integer", "is_integer", defArgs s_is_integer, defBody s_is_integer, defScope s_is_integer, [], []⟩
abbrev s_are_offsets : Stmt := top 27
def d_are_offsets : He.DefD := ⟨("are_offsets", none), "are_offsets", "are_offsets", defArgs s_are_offsets, defBody s_are_offsets, defScope s_are_offsets, [], []⟩
abbrev s_is_call : Stmt := top 28
def d_is_call : He.DefD := ⟨("is_call", none), "is_call", "is_call", defArgs s_is_call, defBody s_is_call, defScope s_is_call, [], []⟩
abbrev s_check_system : Stmt := top 29
def d_check_system : He.DefD := ⟨("check_system", none), "check_system", "check_system", defArgs s_check_system, defBody s_check_system, defScope s_check_system, [], []⟩
abbrev s_reached : Stmt := top 30
def d_reached : He.DefD := ⟨("reached", none), "reached", "reached", defArgs s_reached, defBody s_reached, defScope s_reached, [], []⟩
abbrev s_calls_into : Stmt := top 31
def d_calls_into : He.DefD := ⟨("calls_into", none), "calls_into", "calls_into", defArgs s_calls_into, defBody s_calls_into, defScope s_calls_into, [], []⟩
abbrev s_message_pairs : Stmt := top 35
def d_message_pairs : He.DefD := ⟨("message_pairs", none), "message_pairs", "message_pairs", defArgs s_message_pairs, defBody s_message_pairs, defScope s_message_pairs, [], []⟩
abbrev s_widest_pair : Stmt := top 36
def d_widest_pair : He.DefD := ⟨("widest_pair", none), "widest_pair", "widest_pair", defArgs s_widest_pair, defBody s_widest_pair, defScope s_widest_pair, [], []⟩
abbrev s_find_least_windows : Stmt := top 37
def d_find_least_windows : He.DefD := ⟨("find_least_windows", none), "find_least_windows", "find_least_windows", defArgs s_find_least_windows, defBody s_find_least_windows, defScope s_find_least_windows, [], []⟩
abbrev s_least_windows : Stmt := top 38
def d_least_windows : He.DefD := ⟨("least_windows", none), "least_windows", "least_windows", defArgs s_least_windows, defBody s_least_windows, defScope s_least_windows, [], []⟩
abbrev s_renumbered : Stmt := top 41
def d_renumbered : He.DefD := ⟨("renumbered", none), "renumbered", "renumbered", defArgs s_renumbered, defBody s_renumbered, defScope s_renumbered, [], []⟩
abbrev s__law_taken : Stmt := top 44
def d__law_taken : He.DefD := ⟨("_law_taken", none), "_law_taken", "_law_taken", defArgs s__law_taken, defBody s__law_taken, defScope s__law_taken, [], []⟩
abbrev s__law_system : Stmt := top 45
def d__law_system : He.DefD := ⟨("_law_system", none), "_law_system", "_law_system", defArgs s__law_system, defBody s__law_system, defScope s__law_system, [], []⟩
abbrev s__law_raised : Stmt := top 46
def d__law_raised : He.DefD := ⟨("_law_raised", none), "_law_raised", "_law_raised", defArgs s__law_raised, defBody s__law_raised, defScope s__law_raised, [], []⟩
abbrev s__law_call : Stmt := top 47
def d__law_call : He.DefD := ⟨("_law_call", none), "_law_call", "_law_call", defArgs s__law_call, defBody s__law_call, defScope s__law_call, [], []⟩
abbrev s__law_deed : Stmt := top 48
def d__law_deed : He.DefD := ⟨("_law_deed", none), "_law_deed", "_law_deed", defArgs s__law_deed, defBody s__law_deed, defScope s__law_deed, [], []⟩
abbrev s__law_gone : Stmt := top 49
def d__law_gone : He.DefD := ⟨("_law_gone", none), "_law_gone", "_law_gone", defArgs s__law_gone, defBody s__law_gone, defScope s__law_gone, [], []⟩
abbrev s__law_does : Stmt := top 50
def d__law_does : He.DefD := ⟨("_law_does", none), "_law_does", "_law_does", defArgs s__law_does, defBody s__law_does, defScope s__law_does, [], []⟩
abbrev s__law_asked : Stmt := top 51
def d__law_asked : He.DefD := ⟨("_law_asked", none), "_law_asked", "_law_asked", defArgs s__law_asked, defBody s__law_asked, defScope s__law_asked, [], []⟩
abbrev s__law_is_again : Stmt := top 52
def d__law_is_again : He.DefD := ⟨("_law_is_again", none), "_law_is_again", "_law_is_again", defArgs s__law_is_again, defBody s__law_is_again, defScope s__law_is_again, [], []⟩
abbrev s_law : Stmt := top 53
def d_law : He.DefD := ⟨("law", none), "law", "law", defArgs s_law, defBody s_law, defScope s_law, [], []⟩
abbrev s_Recorder___init__ : Stmt := inClass (top 20) 0
def d_Recorder___init__ : He.DefD := ⟨("Recorder", some "__init__"), "__init__", "Recorder.__init__", defArgs s_Recorder___init__, defBody s_Recorder___init__, defScope s_Recorder___init__, [], []⟩
abbrev s_Recorder_enter : Stmt := inClass (top 20) 1
def d_Recorder_enter : He.DefD := ⟨("Editor", some "enter"), "enter", "Recorder.enter", defArgs s_Recorder_enter, defBody s_Recorder_enter, defScope s_Recorder_enter, [], []⟩
abbrev s_Recorder_undo : Stmt := inClass (top 20) 2
def d_Recorder_undo : He.DefD := ⟨("Editor", some "undo"), "undo", "Recorder.undo", defArgs s_Recorder_undo, defBody s_Recorder_undo, defScope s_Recorder_undo, [], []⟩
abbrev s_Recorder_redo : Stmt := inClass (top 20) 3
def d_Recorder_redo : He.DefD := ⟨("Editor", some "redo"), "redo", "Recorder.redo", defArgs s_Recorder_redo, defBody s_Recorder_redo, defScope s_Recorder_redo, [], []⟩
abbrev s_Recorder_history : Stmt := inClass (top 20) 4
def d_Recorder_history : He.DefD := ⟨("Editor", some "history"), "history", "Recorder.history", defArgs s_Recorder_history, defBody s_Recorder_history, defScope s_Recorder_history, [], []⟩
abbrev s_Recorder_save : Stmt := inClass (top 20) 5
def d_Recorder_save : He.DefD := ⟨("Editor", some "save"), "save", "Recorder.save", defArgs s_Recorder_save, defBody s_Recorder_save, defScope s_Recorder_save, [], []⟩
abbrev s_Recorder_restore : Stmt := inClass (top 20) 6
def d_Recorder_restore : He.DefD := ⟨("Editor", some "restore"), "restore", "Recorder.restore", defArgs s_Recorder_restore, defBody s_Recorder_restore, defScope s_Recorder_restore, [], []⟩
abbrev s_Recorder_checkpoints : Stmt := inClass (top 20) 7
def d_Recorder_checkpoints : He.DefD := ⟨("Editor", some "checkpoints"), "checkpoints", "Recorder.checkpoints", defArgs s_Recorder_checkpoints, defBody s_Recorder_checkpoints, defScope s_Recorder_checkpoints, [], []⟩
abbrev s_Recorder_apply_all : Stmt := inClass (top 20) 9
def d_Recorder_apply_all : He.DefD := ⟨("Editor", some "apply_all"), "apply_all", "Recorder.apply_all", defArgs s_Recorder_apply_all, defBody s_Recorder_apply_all, defScope s_Recorder_apply_all, [], []⟩
abbrev s_Editor___init__ : Stmt := inClass (top 42) 0
def d_Editor___init__ : He.DefD := ⟨("Editor", some "__init__"), "__init__", "Editor.__init__", defArgs s_Editor___init__, defBody s_Editor___init__, defScope s_Editor___init__, [], []⟩
abbrev s_Editor_sizes : Stmt := inClass (top 42) 1
def d_Editor_sizes : He.DefD := ⟨("Editor", some "sizes"), "sizes", "Editor.sizes", defArgs s_Editor_sizes, defBody s_Editor_sizes, defScope s_Editor_sizes, [], []⟩
abbrev s_Editor_call_at : Stmt := inClass (top 42) 2
def d_Editor_call_at : He.DefD := ⟨("Editor", some "call_at"), "call_at", "Editor.call_at", defArgs s_Editor_call_at, defBody s_Editor_call_at, defScope s_Editor_call_at, [], []⟩
abbrev s_Editor_add_call : Stmt := inClass (top 42) 3
def d_Editor_add_call : He.DefD := ⟨("Editor", some "add_call"), "add_call", "Editor.add_call", defArgs s_Editor_add_call, defBody s_Editor_add_call, defScope s_Editor_add_call, [], []⟩
abbrev s_Editor_remove_call : Stmt := inClass (top 42) 4
def d_Editor_remove_call : He.DefD := ⟨("Editor", some "remove_call"), "remove_call", "Editor.remove_call", defArgs s_Editor_remove_call, defBody s_Editor_remove_call, defScope s_Editor_remove_call, [], []⟩
abbrev s_Editor_replace : Stmt := inClass (top 42) 5
def d_Editor_replace : He.DefD := ⟨("Editor", some "replace"), "replace", "Editor.replace", defArgs s_Editor_replace, defBody s_Editor_replace, defScope s_Editor_replace, [], []⟩
abbrev s_Editor_set_offsets : Stmt := inClass (top 42) 6
def d_Editor_set_offsets : He.DefD := ⟨("Editor", some "set_offsets"), "set_offsets", "Editor.set_offsets", defArgs s_Editor_set_offsets, defBody s_Editor_set_offsets, defScope s_Editor_set_offsets, [], []⟩
abbrev s_Editor_set_delays : Stmt := inClass (top 42) 7
def d_Editor_set_delays : He.DefD := ⟨("Editor", some "set_delays"), "set_delays", "Editor.set_delays", defArgs s_Editor_set_delays, defBody s_Editor_set_delays, defScope s_Editor_set_delays, [], []⟩
abbrev s_Editor_add_service : Stmt := inClass (top 42) 8
def d_Editor_add_service : He.DefD := ⟨("Editor", some "add_service"), "add_service", "Editor.add_service", defArgs s_Editor_add_service, defBody s_Editor_add_service, defScope s_Editor_add_service, [], []⟩
abbrev s_Editor_remove_service : Stmt := inClass (top 42) 9
def d_Editor_remove_service : He.DefD := ⟨("Editor", some "remove_service"), "remove_service", "Editor.remove_service", defArgs s_Editor_remove_service, defBody s_Editor_remove_service, defScope s_Editor_remove_service, [], []⟩
abbrev s_Editor_execute : Stmt := inClass (top 42) 10
def d_Editor_execute : He.DefD := ⟨("Editor", some "execute"), "execute", "Editor.execute", defArgs s_Editor_execute, defBody s_Editor_execute, defScope s_Editor_execute, [], []⟩
abbrev s_Editor_current_system : Stmt := inClass (top 42) 11
def d_Editor_current_system : He.DefD := ⟨("Editor", some "current_system"), "current_system", "Editor.current_system", defArgs s_Editor_current_system, defBody s_Editor_current_system, defScope s_Editor_current_system, [], []⟩
abbrev s_Editor_window_history : Stmt := inClass (top 42) 12
def d_Editor_window_history : He.DefD := ⟨("Editor", some "window_history"), "window_history", "Editor.window_history", defArgs s_Editor_window_history, defBody s_Editor_window_history, defScope s_Editor_window_history, [], []⟩
abbrev s_DifferenceTable___init__ : Stmt := inClass (top 33) 0
def d_DifferenceTable___init__ : He.DefD := ⟨("DifferenceTable", some "__init__"), "__init__", "DifferenceTable.__init__", defArgs s_DifferenceTable___init__, defBody s_DifferenceTable___init__, defScope s_DifferenceTable___init__, [], []⟩
abbrev s_DifferenceTable_enter_later : Stmt := inClass (top 33) 1
def d_DifferenceTable_enter_later : He.DefD := ⟨("DifferenceTable", some "enter_later"), "enter_later", "DifferenceTable.enter_later", defArgs s_DifferenceTable_enter_later, defBody s_DifferenceTable_enter_later, defScope s_DifferenceTable_enter_later, [], []⟩
abbrev s_DifferenceTable_enter_earlier : Stmt := inClass (top 33) 2
def d_DifferenceTable_enter_earlier : He.DefD := ⟨("DifferenceTable", some "enter_earlier"), "enter_earlier", "DifferenceTable.enter_earlier", defArgs s_DifferenceTable_enter_earlier, defBody s_DifferenceTable_enter_earlier, defScope s_DifferenceTable_enter_earlier, [], []⟩
def fn : List He.DefD := [d_check_name, d_check_operations, d_is_integer, d_are_offsets, d_is_call, d_check_system, d_reached, d_calls_into, d_message_pairs, d_widest_pair, d_find_least_windows, d_least_windows, d_renumbered, d__law_taken, d__law_system, d__law_raised, d__law_call, d__law_deed, d__law_gone, d__law_does, d__law_asked, d__law_is_again, d_law, d_Recorder___init__, d_Recorder_enter, d_Recorder_undo, d_Recorder_redo, d_Recorder_history, d_Recorder_save, d_Recorder_restore, d_Recorder_checkpoints, d_Recorder_apply_all, d_Editor___init__, d_Editor_sizes, d_Editor_call_at, d_Editor_add_call, d_Editor_remove_call, d_Editor_replace, d_Editor_set_offsets, d_Editor_set_delays, d_Editor_add_service, d_Editor_remove_service, d_Editor_execute, d_Editor_current_system, d_Editor_window_history, d_DifferenceTable___init__, d_DifferenceTable_enter_later, d_DifferenceTable_enter_earlier]
def fa0 : List He.Fa := [.glo "check_name", .glo "check_operations", .glo "is_integer", .glo "are_offsets", .glo "is_call", .glo "check_system", .glo "reached", .glo "calls_into", .glo "message_pairs", .glo "widest_pair", .glo "find_least_windows", .glo "least_windows", .glo "renumbered", .glo "_law_taken", .glo "_law_system", .glo "_law_raised", .glo "_law_call", .glo "_law_deed", .glo "_law_gone", .glo "_law_does", .glo "_law_asked", .glo "_law_is_again", .glo "law", .glo "OnceError", .glo "InvalidSystem", .glo "UnknownService", .glo "InvalidMessage", .glo "TooLate", .glo "InvalidCall", .glo "UnknownCall"]
def fa1 : List He.Fa := [.glo "TooManyCalls", .glo "TooManyServices", .glo "ServiceInUse", .glo "InvalidOperation", .glo "InvalidName", .glo "UnknownCheckpoint", .glo "Recorder", .glo "Editor", .glo "DifferenceTable", .glo "SIZES", .free "isinstance", .free "len", .free "list", .free "tuple", .free "sorted", .free "all", .free "zip", .free "enumerate", .free "max", .free "min", .free "range", .free "set", .free "int", .free "bool", .free "dict", .free "str", .free "ValueError", .int "MAX_NAME_LENGTH" 8, .int "MAX_SERVICES" 8, .int "MAX_CALLS" 20]
def fa2 : List He.Fa := [.int "MAX_ATTEMPTS" 4, .int "MAX_TICKS" 99, .str "LETTERS" "abcdefghijklmnopqrstuvwxyz", .cls "Editor", .mkr "Editor", .cls "DifferenceTable", .mkr "DifferenceTable", .noat "Editor" "present", .noat "Editor" "done", .noat "Editor" "undone", .noat "Editor" "saved", .noat "Editor" "is_applying", .noat "DifferenceTable" "system", .noat "DifferenceTable" "services", .noat "DifferenceTable" "greatest", .noat "DifferenceTable" "steps", .meth "Editor" "enter", .meth "Editor" "undo", .meth "Editor" "redo", .meth "Editor" "history", .meth "Editor" "save", .meth "Editor" "restore", .meth "Editor" "checkpoints", .meth "Editor" "apply_all", .meth "Editor" "sizes", .meth "Editor" "call_at", .meth "Editor" "add_call", .meth "Editor" "remove_call", .meth "Editor" "replace", .meth "Editor" "set_offsets"]
def fa3 : List He.Fa := [.meth "Editor" "set_delays", .meth "Editor" "add_service", .meth "Editor" "remove_service", .meth "Editor" "execute", .meth "Editor" "current_system", .meth "Editor" "window_history", .meth "DifferenceTable" "enter_later", .meth "DifferenceTable" "enter_earlier", .exc "UnknownService", .exm "UnknownService" "OnceError" true, .exc "InvalidCall", .exm "InvalidCall" "OnceError" true, .exc "UnknownCall", .exm "UnknownCall" "OnceError" true, .exc "TooManyCalls", .exm "TooManyCalls" "OnceError" true, .exc "TooManyServices", .exm "TooManyServices" "OnceError" true, .exc "ServiceInUse", .exm "ServiceInUse" "OnceError" true]
def fa : List He.Fa := fa0 ++ fa1 ++ fa2 ++ fa3
def tf : List He.Defn := [("_law_is_again", none), ("law", none)]
def ts : List He.Tab := [(fun K => He.ga K "SIZES", ["add_call", "remove_call", "set_offsets", "set_delays", "add_service", "remove_service"])]
def szs : List (Str × He.Dv) := [("add_call", .int 1), ("remove_call", .int 1), ("set_offsets", .int 2), ("set_delays", .int 3), ("add_service", .int 0), ("remove_service", .int 1)]
def isaX : List Str := ["TooLate", "InvalidMessage", "InvalidOperation", "UnknownCall", "InvalidCall", "UnknownCheckpoint", "ServiceInUse", "UnknownService", "TooManyServices", "TooManyCalls"]
def raisedX : List Str := ["UnknownService", "InvalidCall", "UnknownCall", "TooManyCalls", "TooManyServices", "ServiceInUse"]
def excC (K : PySem.W.Frag) (x : Str) : Bool :=
  He.eqO (PySem.W.findIn K (.ref (He.ga K x)) "__getattribute__") (some (some (.builtin "BaseException.__getattribute__"))) && (He.eqO (PySem.W.findIn K (.ref (He.ga K x)) "__getattr__") (some none) &&
  (decide (PySem.W.subIn K (.ref (He.ga K x)) (.type "BaseException") = some true) && (PySem.W.hasDictIn K (He.ga K x) && (He.eqO (PySem.W.findIn K (.ref (He.ga K x)) "__class__") (some (some (.builtin "object.__class__"))) &&
  (decide (PySem.W.mroIn K (He.ga K x) (.type "object") = some true))))))
def gcls (K : PySem.W.Frag) : Bool := He.eqO (PySem.W.specialIn K (.builtin "object.__class__") "__get__") (some (some (.builtin "getset_descriptor.__get__"))) && decide (PySem.W.takesIn K (.builtin "object.__class__") = some true)
def isaB (K : PySem.W.Frag) (x y : Str) : Bool := decide (PySem.W.kitOne K (.ref (He.ga K x)) (.ref (He.ga K y)) = some (decide (x = y)))
def isaV (K : PySem.W.Frag) (x : Str) : Bool := decide (PySem.W.kitOne K (.ref (He.ga K x)) (.type "ValueError") = some true)
def szI : List (Option (Str × Int)) := [some ("add_call", 1), some ("remove_call", 1), some ("set_offsets", 2), some ("set_delays", 3), some ("add_service", 0), some ("remove_service", 1)]
def entV (q : DictEntry) : Option (Str × Int) := match q.key, q.val with
  | .str z _, .int i _ => some (z, i)
  | _, _ => none
/-- what stands in SIZES, in its order -/
def szB (K : PySem.W.Frag) : Bool := match K.lookup (He.ga K "SIZES") with
  | some o => (match o.data with
    | .dict es _ => decide (es.toList.map entV = szI)
    | _ => false)
  | none => false
/-- Recorder's __init__, read off the class -/
def recB (K : PySem.W.Frag) : Bool := PySem.W.readsIn K (He.ga K "Recorder") (.type "type") && (He.eqO (PySem.W.specialIn K (.ref (He.ga K "Recorder")) "__getattribute__") (some (some (.builtin "type.__getattribute__"))) && (match PySem.W.findCls K (.ref (He.ga K "Recorder")) (.type "type") "__init__" with
  | some (.val v) => decide (v = .ref (He.ma K (He.ga K "Recorder") "__init__"))
  | _ => false))
/-- the two makers of lambdas have tables of their own -/
def tabD (K : PySem.W.Frag) : Bool := decide ((He.cT K ("_law_is_again", none)).2 ≠ (He.cT K ("law", none)).2)
def ex (K : PySem.W.Frag) : Bool := szB K && (recB K && (gcls K && ((raisedX.all fun x => excC K x && (isaV K x && isaX.all fun y => isaB K x y)) && tabD K)))
abbrev R : PySem.W.OpenRow := PySem.W.OpenLaw.row PySem.Challenge.rw_onceonly_k68_whole_edited_systems
/-- the written part: what the top's names reach, and the statics (a class's reads look there) -/
def kZ (g : Addr → Option Obj) : PySem.W.Frag := He.frT g (cStatics :: He.asD g 5)
def obZ (g : Addr → Option Obj) : He.AlX := (He.obsT fa fn ts (kZ g), ex (kZ g) && He.tabsB g tf (kZ g))
theorem saysZ {w : World} {h : Heap} (e : obZ h.get? = He.valX fn ts w) : He.SaysX fa fn ts tf ex w h (kZ h.get?) := by
  have q1 : He.obsT fa fn ts (kZ h.get?) = He.valT fn ts w := congrArg Prod.fst e
  have q2 : (ex (kZ h.get?) && He.tabsB h.get? tf (kZ h.get?)) = true := congrArg Prod.snd e
  rw [Bool.and_eq_true] at q2
  have q3 := List.all_eq_true.mp q2.2
  have q4 : ∀ d ∈ tf, PySem.W.codeHdIn (kZ h.get?) (He.cT (kZ h.get?) d).1 (He.cT (kZ h.get?) d).2 = true ∧ ∃ o, h.get? (He.cT (kZ h.get?) d).2 = some o ∧ He.emptyTab o = true := by
    intro d hd
    have q5 := q3 d hd
    rw [Bool.and_eq_true] at q5
    refine ⟨q5.1, ?_⟩
    have q6 := q5.2
    split at q6
    · rename_i o ho
      exact ⟨o, ho, q6⟩
    · cases q6
  refine ⟨q1, q2.1, fun d hd => (q4 d hd).1, fun d hd => ?_, fun d hd => ?_⟩
  · obtain ⟨_, o, h1, h2⟩ := q4 d hd
    exact He.frT_none h1 h2
  · obtain ⟨_, o, h1, h2⟩ := q4 d hd
    rw [h1, He.emptyTab_eq h2]
def hk : PySem.W.Hook where
  α := He.AlX
  obs := fun t => obZ t.heap.get?
  val := He.valX fn ts
  says := fun w h => ∃ K : PySem.W.Frag, K.In h ∧ He.SaysX fa fn ts tf ex w h K
  of := fun _ _ q => ⟨_, He.frT_in, saysZ q⟩
  keeps := fun _ _ _ q l => by
    obtain ⟨K, q1, q2⟩ := q
    exact ⟨K, q1.keeps l, q2.t, q2.more, q2.hd, q2.out, fun d hd => l _ _ (q2.empty d hd)⟩
def ob (t : PySem.W.SharedT) : He.AlX := obZ (HandSHeadRun.getT t)
theorem ob_eq (t : PySem.W.SharedT) : ob t = hk.obs t.abs := by
  have q : HandSHeadRun.getT t = t.abs.heap.get? := funext fun a => HandSHeadRun.getT_eq t a
  show obZ (HandSHeadRun.getT t) = obZ t.abs.heap.get?
  rw [q]
def lo0 : List PySem.Str := ["_wall", "OnceError", "InvalidSystem", "UnknownService", "InvalidMessage", "TooLate", "InvalidCall", "UnknownCall", "TooManyCalls", "TooManyServices", "ServiceInUse", "InvalidOperation", "InvalidName", "UnknownCheckpoint", "LETTERS", "MAX_NAME_LENGTH", "check_name", "check_operations", "Recorder", "MAX_SERVICES", "MAX_CALLS", "MAX_ATTEMPTS", "MAX_TICKS", "is_integer", "are_offsets", "is_call", "check_system", "reached", "calls_into", "DifferenceTable"]
def lo1 : List PySem.Str := ["message_pairs", "widest_pair", "find_least_windows", "least_windows", "SIZES", "renumbered", "Editor", "_law_taken", "_law_system", "_law_raised", "_law_call", "_law_deed", "_law_gone", "_law_does", "_law_asked", "_law_is_again"]
def loose : List PySem.Str := lo0 ++ lo1
theorem runF (w : World) : HandSHeadRun.RunEq R (PySem.W.view R.prog [53]) hk ob 20000 loose (w.withFollow "special-get-raises" false) := by
  intro os
  kernel_rfl
theorem runT (w : World) : HandSHeadRun.RunEq R (PySem.W.view R.prog [53]) hk ob 20000 loose (w.withFollow "special-get-raises" true) := by
  intro os
  kernel_rfl
theorem run (w : World) : HandSHeadRun.RunEq R (PySem.W.view R.prog [53]) hk ob 20000 loose w := PySem.W.byRow2 (P := fun w => HandSHeadRun.RunEq R (PySem.W.view R.prog [53]) hk ob 20000 loose w) "special-get-raises" runF runT w
end K68
end
section
set_option Elab.async false
set_option linter.all false
set_option maxRecDepth 100000
set_option maxHeartbeats 2000000
namespace K68
open PySem PySem.Spec PyProof.Rows L2
/-! ### a target that is an attribute -/
def gFld (K : PySem.W.Frag) (to : TE) (f : Str) : TG := fun v σ H Q => to σ H fun x H1 => ∃ p C dx fs, x = .ref p ∧ H1 p = some (.ins C dx fs) ∧ Cls K C ∧ NoAttr K C f ∧ fs.length < 1000 ∧ Q σ (upd H1 p (.ins C dx (putF f v fs)))
section
variable {X : Cx} {o : Expr} {f : Str} {pos : Pos} {to : TE}
theorem pg_fld (ho : PE X o to) : PG X (.Attribute o f pos) (gFld X.K to f) := by
  refine ⟨fun pins s σ H v u Q I rv hw => ?_⟩
  rw [PySem.arm_assign_Attribute]
  refine wpAny_bind (wpAny_holding (thn (ho.run pins s σ H _ I hw) fun ov s1 ⟨x, H1, I1, rx, p, C, dx, fs, ex, hp, c, n, l, q⟩ => ?_))
  subst ex
  obtain rfl : ov = Value.ref p := rx
  refine wpAny_bind (wpAny_standAt (wpAny_bind (wpAny_holding (setattr_ok I1 hp c n l rv fun s2 I2 => ?_))))
  exact wpAny_release ⟨σ, _, I2, q⟩
end
/-! ### a, *b = a tuple with an item at least -/
section
variable {prog : Program} {w : World} {A : Around} {E : Value → Shared → Prop} {s : Shared}
theorem star_items {t : Addr} {v : Value} {vs : List Value} {Q : List Value → Shared → Prop} (hh : A.handled = none) (ht : IsTup s.heap t (v :: vs).toArray) (hz : vs.length < 1000)
    (h : ∀ D h' tk, (∀ b o, s.heap.get? b = some o → h'.get? b = some o) → s.heap.get? D = none → h'.get? D = some { cls := .type "list", data := .seq vs.toArray } → Q [v, .ref D] { s with heap := h', toks := tk }) :
    wpAny (model prog w) A (unpackItems (.ref t) 2 (some 1)) Q E s := by
  have lt : t < s.heap.objs.size := by
    obtain ⟨o, e, _⟩ := id ht
    exact Heap.lt_size e
  have ne : t ≠ s.heap.objs.size := Nat.ne_of_lt lt
  unfold unpackItems
  refine wpAny_bind ?_
  unfold notIterableAtAll
  refine wpAny_bind (wpAny_specialOf ht.typeIs PyProof.Rows.slot_tuple_iter.lookup (wpAny_pure ?_))
  show wpAny _ _ (if false = true then _ else _) _ _ _
  rw [if_neg Bool.false_ne_true]
  refine wpAny_bind (wpAny_holding (iter_tuple ht ?_))
  refine wpAny_bind (wpAny_holding (draw_tuple ne 1 0 _ _ ⟨_, Heap.get?_push_size _ rfl, rfl, rfl⟩ (ht.push _) (by simp) fun g1 hi1 sb1 => ?_))
  have ht1 : IsTup g1 t (v :: vs).toArray := (ht.push _).extBut sb1.extBut ne
  have z1 := hi1
  obtain ⟨oi, ei, _⟩ := z1
  have z2 := ht1
  obtain ⟨ot, et, _⟩ := z2
  show wpAny _ _ (if ([v] : List Value).length < 1 then _ else _) _ _ _
  rw [if_neg (show ¬ ([v] : List Value).length < 1 by simp)]
  refine wpAny_bind (wpAny_holding (PySem.W.kun_collect (s := { s with heap := g1 }) (T := "tuple_iterator") (k := 1) (.inr (.inr (.inr rfl))) (Walks.tuple (A := A.in1) hh s.heap.objs.size t ne (v :: vs).toArray) (fun j u st => st.1.typeIs) (by simp) ⟨hi1, ht1⟩ (Heap.lt_size ei) (Heap.lt_size et) (fun g2 tk k2 => ?_) (by rw [sizeLine_eq]; simp; omega)))
  show wpAny _ _ (if vs.length < 2 - 1 - 1 then _ else _) _ _ _
  rw [if_neg (show ¬ vs.length < 2 - 1 - 1 by omega)]
  show wpAny _ _ (newList (vs.take (vs.length - (2 - 1 - 1))) >>= fun d => pure ([v] ++ [d] ++ vs.drop (vs.length - (2 - 1 - 1)))) _ _ _
  rw [show vs.length - (2 - 1 - 1) = vs.length by omega, List.take_length, List.drop_length]
  have kp : ∀ b o, s.heap.get? b = some o → g2.get? b = some o := fun b o e => by
    have nb : b ≠ s.heap.objs.size := Nat.ne_of_lt (Heap.lt_size e)
    exact k2 b o nb (sb1.extBut b o nb (Heap.get?_push_of_some _ e))
  have gone : s.heap.get? g2.objs.size = none := by
    cases q : s.heap.get? g2.objs.size with
    | none => rfl
    | some o => exact absurd (Heap.lt_size (kp _ o q)) (Nat.lt_irrefl _)
  refine wpAny_bind (wpAny_newList ?_ (by rw [sizeLine_eq]; omega))
  exact wpAny_pure (h g2.objs.size _ tk (fun b o e => Heap.get?_push_of_some _ (kp b o e)) gone (Heap.get?_push_size _ rfl))
end
/-- w, *r = e: the first item, a new list of the others -/
def gStar (K : PySem.W.Frag) (t1 t2 : TG) : TG := fun v σ H Q => ∃ a x xs, v = .ref a ∧ SqT K H a (x :: xs) ∧ xs.length < 1000 ∧ ∀ D, H D = none → t1 x σ (upd H D (.lst xs)) fun σ1 H1 => t2 (.ref D) σ1 H1 Q
section
variable {X : Cx} {e1 e2 : Expr} {k : Nat} {pos p2 : Pos} {t1 t2 : TG}
theorem pg_star (hc : X.calm = true) (h1 : PG X e1 t1) (h2 : PG X e2 t2) (hs : assignEach [e1, .Starred e2 p2] X.env = [(false, assign e1 X.env), (true, assign e2 X.env)] := by rfl) : PG X (.Tuple [e1, .Starred e2 p2] k pos) (gStar X.K t1 t2) := by
  refine ⟨fun pins s σ H v u Q I rv hw => ?_⟩
  obtain ⟨a, x, xs, ev, hq, hl, hw⟩ := hw
  subst ev
  obtain rfl : u = Value.ref a := rv
  obtain ⟨its, r, ht, hz⟩ := I.tuple hq
  cases r with
  | @cons _ v1 _ vs r1 r2 =>
    rw [PySem.arm_assign_Tuple]
    refine wpAny_bind (wpAny_standAt ?_)
    unfold unpack
    rw [hs]
    show wpAny _ _ (holding [Value.ref a] (unpackItems (.ref a) 2 (some 1)) >>= fun l => assignInOrder [assign e1 X.env, assign e2 X.env] l) _ _ _
    have hl2 := r2.length
    refine wpAny_bind (wpAny_holding (star_items (I.ok.hd hc) ht (by omega) fun D h' tk kp gn hD => ?_))
    have nD : H D = none := I.hok.gone gn
    have I1 : L2.Inv X pins σ (upd H D (.lst xs)) { s with heap := h', toks := tk } := I.laidN kp gn nD ⟨by rw [sizeLine_eq]; omega, vs, _, r2, hD⟩
    refine assignInOrder_cons (thn (h1.run pins _ σ _ x v1 _ I1 r1 (hw D nD)) fun _ s2 ⟨σ2, H2, I2, q2⟩ => ?_)
    refine assignInOrder_cons (thn (h2.run pins s2 σ2 H2 (.ref D) (.ref D) _ I2 rfl q2) fun _ s3 q3 => ?_)
    exact assignInOrder_nil q3
end
end K68
end
section
set_option Elab.async false
set_option linter.all false
set_option maxRecDepth 100000
set_option maxHeartbeats 4000000
namespace K68
open PySem PySem.Spec PyProof.Rows L2
/-! ### set(xs), xs a list of ints -/
/-- the empty set as it is laid -/
abbrev emS (w : World) : Obj := { cls := .type "set", dict := none, data := .set #[] 0 (.fresh 0 0 (!w.params.followText "set-order")) }
section
variable {P : Program} {w : World} {A : Around} {E : Value → Shared → Prop} {s : Shared}
theorem set_of_list {l : Addr} {items : Array Value} (ns : List Int) {Q : Value → Shared → Prop} (hh : A.handled = none) (hl : s.heap.IsList l items) (hi : IntsAre items.toList ns) (hb : ns.length + 1 < scanBound)
    (h : ∀ (h' : Heap) (tk c : Nat), SetR w h' s.heap.objs.size (fun j => decide (j ∈ ns)) c → c ≤ ns.length → (∀ b o, s.heap.get? b = some o → h'.get? b = some o) → Q (.ref s.heap.objs.size) { s with heap := h', toks := tk }) :
    wpAny (model P w) A (call (.type "set") [.ref l]) Q E s := by
  have sz : items.size = ns.length := by have q := IntsAre.length hi; rwa [Array.length_toList] at q
  obtain ⟨c, tl, hmro⟩ := PySem.F.called_set.mro
  have f1 := PySem.F.called_set.made
  have f2 := PySem.F.called_set.sub
  refine wpAny_call (codeAny_of_tree ?_)
  show wpAny _ _ (callAny (.type "set") _) _ _ _
  refine wpAny_pure ⟨Code.quiet_builtin _ (by decide +kernel), codeAny_builtin PySem.F.entry_type_call ?_⟩
  rw [Around.under_plain (weight_type_call_type "set" [.ref l] []) rfl]
  have f3 := PySem.F.called_set.notType
  have f4 := PySem.F.called_set.canCreate
  have f5 := PySem.F.typeCall_set_1 (.ref l)
  repeat (any_goals (first | assumption | wp_step))
  refine codeAny_mono (code_set_led1 (.ref l) (E := E) (Q₁ := fun ob s1 => ob = .ref s.heap.objs.size ∧ s1 = { s with heap := s.heap.push (emS w) }) ⟨rfl, rfl⟩) fun r s1 hr => ?_
  cases r with
  | error e => exact hr
  | ok fl =>
    cases fl with
    | ret ob =>
      obtain ⟨rfl, rfl⟩ := hr
      have g0 : (s.heap.push (emS w)).get? s.heap.objs.size = some (emS w) := Heap.get?_push_size _ rfl
      have gT : Shared.TypeIs { s with heap := s.heap.push (emS w) } (.ref s.heap.objs.size) "set" := ⟨_, g0, rfl⟩
      have f6 := PySem.F.called_set.init.lookup
      have f7 := PySem.F.called_set.init.bind (.ref s.heap.objs.size)
      repeat (any_goals (first | assumption | wp_step))
      refine codeAny_mono (codeAny_call_builtin (R := wants (fun r s2 => r = .none ∧ ∃ h' tk c, s2 = { s with heap := h', toks := tk } ∧ SetR w h' s.heap.objs.size (fun j => decide (j ∈ ns)) c ∧ c ≤ ns.length ∧
          (∀ b o, s.heap.get? b = some o → h'.get? b = some o)) E) PySem.F.called_set.init.plain PySem.F.entry_set_init (check_set_init_1 gT ?_)) fun r2 s2 hr2 => ?_
      · obtain ⟨⟨lc, ld, lv, lsl⟩, hol, hc, nl, hd⟩ := hl
        simp only at hc hd
        subst hc; subst hd
        have gl : (s.heap.push (emS w)).get? l = some { cls := .type "list", dict := ld, data := .seq items nl, slots := lsl } := Heap.get?_push_of_some _ hol
        have f8 := PySem.F.sub_list_set
        have f9 := PySem.F.sub_list_frozenset
        have nd : (Value.type "list" == Value.type "dict") = false := by decide
        have isl : (s.heap.push (emS w)).IsList l items := ⟨_, gl, rfl, nl, rfl⟩
        unfold Builtin.«set.__init__» noKeywords Builtin.Frozenset.updateFrom
        generalize hPI : pyIter = PI
        wp_walk
        subst hPI
        refine wpAny_pyIter_list isl ?_
        refine wpAny_bind (wpAny_runValue ?_)
        have ltl : l < s.heap.objs.size := Heap.lt_size hol
        have hh3 : A.in1.in1.in1.handled = none := by simp [hh]
        have e1 : (s.heap.push (emS w)).objs.size = s.heap.objs.size + 1 := Heap.size_push ..
        have nI : l ≠ (s.heap.push (emS w)).objs.size := by rw [e1]; exact Nat.ne_of_lt (Nat.lt_succ_of_lt ltl)
        have nS : s.heap.objs.size ∉ [(s.heap.push (emS w)).objs.size, l] := by
          rw [e1]
          intro hm
          rcases List.mem_cons.mp hm with q | q
          · exact absurd q (Nat.ne_of_lt (Nat.lt_succ_self _))
          · exact absurd (List.mem_singleton.mp q) (Nat.ne_of_gt ltl)
        have val : ∀ (i : Nat) (v : Value), items[i]? = some v → ∃ k t, ns[i]? = some k ∧ v = .int k t := fun i v hv => by
          have li : i < ns.length := by rw [← sz]; exact (Array.getElem?_eq_some_iff.mp hv).1
          obtain ⟨t, e⟩ := IntsAre.int_at hi i v (by rw [Array.getElem?_toList]; exact hv)
          rw [List.getD_eq_getElem?_getD, List.getElem?_eq_getElem li] at e
          exact ⟨ns[i], t, List.getElem?_eq_getElem li, e⟩
        refine set_update_ints ((Walks.list hh3 _ l nI items).toS) s.heap.objs.size nS ns sz hb val (items.size - 0) 0 _ (by omega) (Nat.zero_le _) ⟨⟨_, Heap.get?_push_size _ rfl, rfl, rfl⟩, isl.push _⟩ ⟨0, Nat.le_refl 0, setR_new_at (Heap.get?_push_of_some _ g0)⟩ fun s' c' hm lc' hS' => ?_
        obtain ⟨h', g2, d2, t2, o2⟩ := s'
        obtain rfl : g2 = s.gens := hm.gens
        obtain rfl : d2 = s.drawn := hm.drawn
        obtain rfl : o2 = s.os := hm.os
        show wpAny _ _ _ _ _ _
        refine wpAny_pure ?_
        show wpAny _ _ (ret Value.none) _ _ _
        rw [sz] at lc'
        refine wpAny_pure ⟨rfl, h', t2, c', rfl, hS', lc', fun b o e => ?_⟩
        have lb := Heap.lt_size e
        refine hm.heap b o (fun hx => ?_) (Heap.get?_push_of_some _ (Heap.get?_push_of_some _ e))
        rcases List.mem_cons.mp hx with q | q
        · exact absurd q (Nat.ne_of_lt lb)
        · rw [e1] at q
          exact absurd (List.mem_singleton.mp q) (Nat.ne_of_lt (Nat.lt_succ_of_lt lb))
      · cases r2 with
        | error e => exact hr2
        | ok fl2 =>
          cases fl2 with
          | ret r =>
            obtain ⟨rfl, h', tk, c', rfl, hS', lc', kp⟩ := hr2
            repeat (any_goals (first | assumption | wp_step))
            exact h _ _ _ hS' lc' kp
          | _ => exact hr2.elim
    | _ => exact hr.elim
end
/-- set(xs): a new set of xs's ints -/
def rSetL (K : PySem.W.Frag) (w : World) : List V → Hp → VK → Prop := fun vs H Q => ∃ (a : Addr) (ns : List Int), vs = [V.ref a] ∧ SqL K H a (ns.map V.int) ∧ ns.length < 60 ∧
  ∀ (p : Addr) (c : Nat), H p = none → c ≤ ns.length → Q (.ref p) (upd H p (SetO w p (fun j => decide (j ∈ ns)) c))
section
variable {X : Cx}
theorem call_setL (hc : X.calm = true) : CallR X (.type "set") (rSetL X.K X.w) := by
  intro pins s σ H xs us Q I r h
  obtain ⟨a, ns, rfl, hq, hl, q⟩ := h
  obtain ⟨u, rfl, ru⟩ := vals1 r
  obtain rfl : u = Value.ref a := ru
  obtain ⟨its, rv, pl, hz⟩ := I.list hq
  refine set_of_list ns (I.ok.hd hc) pl.isList (by simpa using RZ.intsAre_vals rv) (by unfold scanBound; omega) fun h' tk c hS lc kp => ?_
  refine ⟨.ref _, _, I.laid (t' := tk) kp (Nat.le_refl _) (setO_new hS), rfl, q _ c (I.hok.fresh (Nat.le_refl _)) lc⟩
end
end K68
end
section
set_option Elab.async false
set_option linter.all false
set_option maxRecDepth 100000
set_option maxHeartbeats 4000000
namespace K68
open PySem PySem.Spec PyProof.Rows L2
/-! ### enumerate(t), t a tuple -/
abbrev tupIt (l : Addr) : Obj := { cls := .type "tuple_iterator", data := .fields #[.ref l, .int 0 0] }
abbrev enO (it : Addr) : Obj := { cls := .type "enumerate", data := .fields #[.none, .bool false, .ref it, rawInt 0, .none, .none] }
theorem enum_newT (l : Addr) (items : Array Value) (n : Nat) (dct : Option Addr) (sl : Array (Option Value)) :
    Meets (Builtin.«enumerate.__new__» ⟨[.type "enumerate", .ref l], []⟩) (fun _ R s => s.heap.get? l = some { cls := .type "tuple", dict := dct, data := .seq items n, slots := sl } ∧
      R (.ok (.ret (.ref (s.heap.push (tupIt l)).objs.size))) { s with heap := (s.heap.push (tupIt l)).push (enO s.heap.objs.size) }) :=
  .of_wp fun P w A R s h => by
    obtain ⟨hp, g, d, tk, os⟩ := s
    obtain ⟨hl, h⟩ := h
    have f1 := sub_enumerate
    have it : Heap.IsTuple (Shared.heap ⟨hp, g, d, tk, os⟩) l items := ⟨_, hl, rfl, n, rfl⟩
    wp_walk using AutoSeq1.wpAny_loadPart' hl
    refine wpAny_stack_any fun st => wpAny_pure ?_
    split
    · rename_i c _ _ _ _ _
      cases (c == Value.type "enumerate") <;>
      · wp_walk using AutoSeq1.wpAny_loadPart' hl, wpAny_pyIter_tuple it
        exact ⟨_, rfl, h⟩
    · wp_walk using AutoSeq1.wpAny_loadPart' hl, wpAny_pyIter_tuple it
      exact ⟨_, rfl, h⟩
section
variable {P : Program} {w : World} {A : Around} {E : Value → Shared → Prop} {s : Shared}
theorem call_enumT {l : Addr} {items : Array Value} {Q : Value → Shared → Prop} (ht : s.heap.IsTuple l items)
    (h : ∀ h', IsEnum h' (s.heap.objs.size + 1) s.heap.objs.size 0 .none → h'.IsTupleIter s.heap.objs.size l 0 → (∀ b o, s.heap.get? b = some o → h'.get? b = some o) → Q (.ref (s.heap.objs.size + 1)) { s with heap := h' }) :
    wpAny (model P w) A (call (.type "enumerate") [.ref l]) Q E s := by
  obtain ⟨⟨tc, td, tv, ts⟩, hl, hc, n, hd⟩ := ht
  simp only at hc hd
  subst hc hd
  have z : (s.heap.push (tupIt l)).objs.size = s.heap.objs.size + 1 := Heap.size_push ..
  refine callType_new F.called_enumerate (by decide) (F.typeCall_enumerate_1 _) (F.newCall_enumerate_1 _) (fun ob => F.args_object_init_2 ob _) F.entry_enumerate_new (enum_newT l items n td ts) ⟨hl, ?_⟩
  show _ ∧ _
  rw [z]
  have he : IsEnum ((s.heap.push (tupIt l)).push (enO s.heap.objs.size)) (s.heap.objs.size + 1) s.heap.objs.size 0 .none := by
    have q := Heap.get?_push_size (s.heap.push (tupIt l)) (o := enO s.heap.objs.size) rfl
    rwa [z] at q
  exact ⟨⟨_, he, rfl⟩, h _ he ⟨_, Heap.get?_push_of_some _ (Heap.get?_push_size _ rfl), rfl, rfl⟩ fun b o x => Heap.get?_push_of_some _ (Heap.get?_push_of_some _ x)⟩
end
/-- the tuple at a, each item in a new pair with its place -/
def IteT (K : PySem.W.Frag) (a : Addr) : It :=
  ⟨fun i H => ∃ (xs : List V) (x : V), SqT K H a xs ∧ xs[i]? = some x, fun i H v H' => ∃ T x, v = .ref T ∧ H T = none ∧ H' = upd H T (.tup [.int (i : Nat), x]) ∧ ∀ xs, SqT K H a xs → xs[i]? = some x,
    fun i H => ∃ xs : List V, SqT K H a xs ∧ xs.length = i⟩
theorem turn_enumT {P : Program} {w : World} {K : PySem.W.Frag} {elts : List Expr} {kk : Nat} {tpos : Pos} (a e it : Addr) (na : a ≠ it) :
    Turn P w K (.Tuple elts kk tpos) (IteT K a) [e, it] e (fun i h => (∃ old, IsEnum h e it ((i : Nat) : Int) old) ∧ h.IsTupleIter it a i ∧ e ≠ it ∧ e ≠ a) where
  mem := by simp
  obj := fun i h st b hb => by
    obtain ⟨⟨old, he⟩, ⟨o, ho, hc, hd⟩, _⟩ := st
    rcases List.mem_cons.mp hb with z | z
    · rw [z]
      exact ⟨_, he, fun v q => nomatch q⟩
    · exact ⟨o, by rw [List.mem_singleton.mp z]; exact ho, fun v q => by rw [hd] at q; cases q⟩
  keep := fun i h h' st k => by
    obtain ⟨⟨old, he⟩, ⟨o, ho, r⟩, n1, n2⟩ := st
    exact ⟨⟨old, k e List.mem_cons_self _ he⟩, ⟨o, k it (by simp) o ho, r⟩, n1, n2⟩
  item := by
    intro X hP hw hK hc i pins s σ H E I hf st hg
    subst hP hw hK
    obtain ⟨⟨old, he⟩, hit, ne, nea⟩ := st
    obtain ⟨xs, x, hq, hx⟩ := hg
    obtain ⟨its, rv, p, hz⟩ := I.tuple hq
    obtain ⟨u, hu, ru⟩ := rv.get hx
    have le : e < s.heap.objs.size := Heap.lt_size he
    have li : it < s.heap.objs.size := by obtain ⟨_, q, _⟩ := hit; exact Heap.lt_size q
    have isz : i < its.toArray.size := by
      rw [List.size_toArray]
      exact (List.getElem?_eq_some_iff.mp hu).1
    have D := Draws.tuple (prog := X.prog) (w := X.w) (A := X.A.in1) (by simpa using I.ok.hd hc) it a na its.toArray
    refine wpAny_pyNext_enum_itemD D he ⟨hit, p⟩ isz ne (by simp [ne, nea]) fun y h' tk hy ho st' hT hsz kp => ?_
    have ey : y = u := by
      have hy : its.toArray[i]? = some y := hy
      rw [List.getElem?_toArray, hu] at hy
      exact (Option.some.inj hy).symm
    subst ey
    refine ⟨_, rfl, wpAny_letOwnedTupleGo_enum (s := { s with heap := h', toks := tk + 1 }) ho fun h'' he' sb => ?_⟩
    have hT2 : h''.get? s.heap.objs.size = some { cls := .type "tuple", data := .seq #[.int i tk, y] } := (sb.2 _ (Nat.ne_of_gt le)).trans hT
    have new : ObjOk X.prog X.w (upd H s.heap.objs.size (.tup [.int (i : Nat), x])) h'' s.heap.objs.size (.tup [.int (i : Nat), x]) :=
      ⟨by show 2 ≤ sizeLine; decide, [.int i tk, y], .cons ⟨_, rfl⟩ (.cons ru .nil), ⟨_, hT2, rfl, _, rfl⟩⟩
    have I1 : L2.Inv X pins σ (upd H s.heap.objs.size (.tup [.int (i : Nat), x])) { s with heap := h'', toks := tk + 1 } :=
      I.turnedNew (ch := [e, it]) (fun b ob hb q => by
        have n1 : b ≠ e := fun z => hb (by simp [z])
        have n2 : b ≠ it := fun z => hb (by simp [z])
        exact (sb.2 b n1).trans (kp b ob n1 n2 q)) hf (Nat.le_refl _) new
    refine ⟨.ref s.heap.objs.size, _, I1, rfl, ⟨_, x, rfl, I.hok.fresh (Nat.le_refl _), rfl, fun ys hy => by rw [I.tuple_inj hy hq]; exact hx⟩, ⟨⟨y, ?_⟩, st'.1.at fun o q => (sb.2 it (Ne.symm ne)).trans q, ne, nea⟩, fun b hb => ?_⟩
    · rw [show ((i + 1 : Nat) : Int) = (i : Int) + 1 by omega]
      exact he'
    · have lb : b < s.heap.objs.size := by
        rcases List.mem_cons.mp hb with z | z
        · rw [z]; exact le
        · rw [List.mem_singleton.mp z]; exact li
      rw [upd_ne (Nat.ne_of_lt lb)]
      exact (hf b hb).1
  done := by
    intro X hP hw hK hc i pins s σ H E I hf st hg
    subst hP hw hK
    obtain ⟨⟨old, he⟩, hit, ne, nea⟩ := st
    obtain ⟨xs, hq, hx⟩ := hg
    obtain ⟨its, rv, p, hz⟩ := I.tuple hq
    obtain ⟨f0, f1, f2, f3, f4, f5⟩ := hf it (by simp)
    have hl := rv.length
    have D := Draws.tuple (prog := X.prog) (w := X.w) (A := X.A.in1) (by simpa using I.ok.hd hc) it a na its.toArray
    have en : i = its.toArray.size := by rw [List.size_toArray]; omega
    subst en
    refine wpAny_pyNext_enum_endD D he ⟨hit, p⟩ fun h' eb => ⟨rfl, I.turned (t' := s.toks) (fun b o hb q => eb b o hb q) f0 f1 f3 f4 f5⟩
  self := fun A i s Q E st h => by
    obtain ⟨⟨_, he⟩, _⟩ := st
    exact wpAny_pyIter_enum he h
def iEnumT (K : PySem.W.Frag) (ta : TA) : TI := fun σ H R => ta σ H fun vs H1 => ∃ a xs, vs = [.ref a] ∧ SqT K H1 a xs ∧ R (IteT K a) H1
theorem pi_enumT {X : Cx} {e : Expr} {ta : TA} {p pos tpos : Pos} {elts : List Expr} {kk : Nat} (hg : Gl X "enumerate") (hm : X.mg "enumerate" = none) (ha : PA X [e] ta) (hs : starEach [e] X.env = [(false, eval e X.env)] := by rfl) :
    PI X (.Tuple elts kk tpos) (.Call (.Name "enumerate" p) [e] [] pos) (iEnumT X.K ta) := by
  refine ⟨fun pins s σ H R I h => ?_⟩
  refine Call_ (ld_blt I hg hm boot_enumerate (PyProof.Rows.callWith_type1 (thn (ha.run pos pins s σ H _ I h) fun us s1 ⟨vs, H1, I1, r1, q1⟩ => ?_) hs rfl))
  obtain ⟨a, xs, ex, hq, q⟩ := q1
  subst ex
  obtain ⟨u, rfl, ru⟩ := vals1 r1
  obtain rfl : u = Value.ref a := ru
  obtain ⟨its, rv, p', hz⟩ := I1.tuple hq
  have la : a < s1.heap.objs.size := by obtain ⟨_, e, _⟩ := id p'; exact Heap.lt_size e
  refine call_enumT p' fun h' he hit kp => wpAny_pyIter_enum he ?_
  refine ⟨s1.heap.objs.size + 1, [s1.heap.objs.size + 1, s1.heap.objs.size], _, _, H1, rfl, I1.kept (t' := s1.toks) kp, turn_enumT a (s1.heap.objs.size + 1) s1.heap.objs.size (Nat.ne_of_lt la), ⟨⟨.none, he⟩, hit, Nat.succ_ne_self _, Nat.ne_of_gt (Nat.lt_succ_of_lt la)⟩, fun b hb => ?_, q⟩
  have lb : s1.heap.objs.size ≤ b := by
    rcases List.mem_cons.mp hb with z | z
    · rw [z]; exact Nat.le_succ _
    · rw [List.mem_singleton.mp z]; exact Nat.le_refl _
  exact I1.fpOk lb (I1.hok.fresh lb)
theorem walk_enumT {K : PySem.W.Frag} {a : Addr} {xs : List V} : Walk (IteT K a) xs.length (fun H => SqT K H a xs) (YPair (fun i => some (.int (i : Nat))) (fun i => xs[i]?)) := by
  refine ⟨fun i _ hi q => ⟨xs, xs[i], q, by simp [hi]⟩, fun _ q => ⟨xs, q, rfl⟩, fun i H v H' _ q y => ?_⟩
  obtain ⟨T, x, y1, y2, y3, y4⟩ := y
  exact ⟨T, _, x, y1, y2, y3, rfl, y4 xs q⟩
/-! ### zip of two tuples, to the end of the shorter -/
theorem walk_zipT {K : PySem.W.Frag} {a b : Addr} {xs ys : List V} {n : Nat} (hn : n = min xs.length ys.length) : Walk (RZ.ItzT K a b) n (fun H => SqT K H a xs ∧ SqT K H b ys) (YPair (fun i => xs[i]?) (fun i => ys[i]?)) := by
  refine ⟨fun i _ hi q => ?_, fun _ q => ⟨xs, ys, q.1, q.2, by omega⟩, fun i H v H' _ q y => ?_⟩
  · have l1 : i < xs.length := by omega
    have l2 : i < ys.length := by omega
    exact ⟨xs, ys, xs[i], ys[i], q.1, q.2, by simp [l1], by simp [l2]⟩
  · obtain ⟨T, x, z, y1, y2, y3, y4, y5⟩ := y
    exact ⟨T, x, z, y1, y2, y3, y4 xs q.1, y5 ys q.2⟩
/-! ### C.m(e, ..), m a def of the class at C -/
def tCFun (C : Addr) (sp : Sp) (E : XK) (ta : TE) (t : TA) : TE := fun σ H Q => ta σ H fun x H1 => x = .ref C ∧ t σ H1 fun vs H2 => sp vs H2 Q E
theorem pe_cfun {X : Cx} {CX : CXT} {k : Nat} {C g : Addr} {mc : Value} {fd : FuncData} {ps : List Str} {sp : Sp} {E : XK} {o e : Expr} {es : List Expr} {m : Str} {pos apos : Pos} {ta : TE} {t : TA} {pl : Sem Bool}
    (he : PE X o ta) (r : ClX.CRead X.K C mc) (c : ClX.CVal X.K C mc m (.ref g) (.ref g)) (F : FnOk X.prog X.w X.K X.mg X.base CX k g fd ps sp) (hk : PySem.W.keepIn X.K (.ref g) = true) (hb : Binds X.K fd ps []) (hr : Room k X.A) (hx : Passes CX X E) (ha : PA X (e :: es) t)
    (hst : starEach (e :: es) X.env = (false, eval e X.env) :: starEach es X.env := by rfl) (hpl : (backTo pos (starEach es X.env)).any (·.1) = false := by rfl)
    (ht : eval (.Call (.Attribute o m apos) (e :: es) [] pos) X.env = (do
      let ov ← eval o X.env
      standAt apos.atName
      let (f, first) ← holding [ov] (getMethod ov m pl)
      callWith pos f first (backTo pos (starEach (e :: es) X.env)) (backToKw pos (keywordEach [] X.env))) := by rfl) :
    PE X (.Call (.Attribute o m apos) (e :: es) [] pos) (tCFun C sp E ta t) := by
  refine ⟨fun pins s σ H Q I h => ?_⟩
  refine PySem.W.methodCall_KW (pl := pl) (thn (he.run pins s σ H _ I h) fun u s1 ⟨x, H1, I1, rx, ex, q⟩ => ?_) ht
  subst ex
  obtain rfl : u = Value.ref C := rx
  refine PySem.W.method_cls I1.kIn r.ga (ClX.getcval_ok I1 r c fun s2 I2 => ?_)
  refine PySem.W.callWith_K (h₀ := X.base) I.ok.mod.kin hk (thn (ha.run pos pins s2 σ H1 _ I2 q) fun us s3 ⟨vs, H2, I3, rv, q2⟩ => ⟨I3.kIn, ?_⟩) hst hpl
  exact run_fn (dvs := []) (ds := []) F hr hb .nil hx I3 rv (by rw [List.append_nil]; exact q2)
end K68
end
section
set_option Elab.async false
set_option linter.all false
set_option maxRecDepth 100000
set_option maxHeartbeats 4000000
namespace K68
open PySem PySem.Spec PyProof.Rows L2
open PySem.W (EachIs AllAlike Sortable dataLe SortsAt dataKind)
/-! ### sorted(t), t a tuple of alike data -/
section
variable {P : Program} {w : World} {A : Around} {E : Value → Shared → Prop} {s : Shared} {β : Type} {vs : List Value} {bs : List β} {enc : β → PyData} {R : Value → β → Prop}
theorem sorted_tup {t : Addr} {Q : Value → Shared → Prop} (ht : IsTup s.heap t vs.toArray) (e : EachIs R vs bs) (er : EachIs (fun v b => ∃ as, Reads s.heap v (enc b) as) vs bs) (hal : AllAlike (bs.map enc)) (hk : Sortable (bs.map enc)) (hL : bs.length ≤ sizeLine)
    (hu : ∀ b, b ∈ bs → A.units + 2 + (enc b).depth < cLine) (h : ∀ (p : Addr) (h' : Heap) (out : List Value) (n : Nat), (∀ b o, s.heap.get? b = some o → h'.get? b = some o) → s.heap.get? p = none → h'.get? p = some { cls := .type "list", data := .seq out.toArray n } →
      EachIs R out (bs.mergeSort (dataLe false enc)) → Q (.ref p) { s with heap := h' }) : wpAny (model P w) A (call (.builtin "sorted") [.ref t]) Q E s := by
  have lv : vs.length ≤ sizeLine := by rw [e.length]; exact hL
  obtain ⟨ot, et, hc, nt, hd⟩ := ht
  refine Calls.call_function_entry kind_sorted plain_sorted entry_sorted (args_sorted1 _) ?_
  unfold Builtin.«sorted»
  refine wpAny_bind (m := checkCount "sorted" 1 1 _) (wpAny_pure ?_)
  refine wpAny_bind (wpAny_collect_seq t (.inr rfl) et hc hd (fun g kg => ?_) (by rw [List.size_toArray]; exact lv))
  refine wpAny_bind (wpAny_newList ?_ lv)
  have no : s.heap.get? g.objs.size = none := by
    cases q : s.heap.get? g.objs.size with
    | none => rfl
    | some o => exact absurd (Heap.lt_size (kg _ o q)) (Nat.lt_irrefl _)
  have at0 : (g.push (seqObj "list" vs.toArray 0)).get? g.objs.size = some (seqObj "list" vs.toArray 0) := Heap.get?_push_size _ rfl
  have old : ∀ b o, s.heap.get? b = some o → (g.push (seqObj "list" vs.toArray 0)).get? b = some o := fun b o q => Heap.get?_push_of_some _ (kg b o q)
  have ne : ∀ b o, s.heap.get? b = some o → b ≠ g.objs.size := fun b o q z => by rw [z, no] at q; cases q
  have er' : EachIs (fun v b => ∃ as, Reads (PySem.W.sortingHeap (g.push (seqObj "list" vs.toArray 0)) g.objs.size vs) v (enc b) as) vs bs := er.mono fun _ _ ⟨as, r⟩ =>
    ⟨as, PyProof.Rows.Reads.keeps (fun b o q => PySem.W.sortingHeap_old (ne b o q) (old b o q)) r⟩
  have S : SortsAt P w A.in1.in1 { s with heap := PySem.W.sortingHeap (g.push (seqObj "list" vs.toArray 0)) g.objs.size vs } (dataKind (PySem.W.sortingHeap (g.push (seqObj "list" vs.toArray 0)) g.objs.size vs) (bs.map enc)) vs :=
    SortsAt.data (s := { s with heap := PySem.W.sortingHeap (g.push (seqObj "list" vs.toArray 0)) g.objs.size vs }) (PySem.W.each_map (R := fun v d => ∃ as, Reads (PySem.W.sortingHeap (g.push (seqObj "list" vs.toArray 0)) g.objs.size vs) v d as) enc er') hal hk (PySem.W.bound_map hu)
  refine wpAny_bind (wpAny_holding (wpAny_call_entry slot_list_sort ⟨_, at0, rfl⟩ entry_list_sort (PySem.W.list_sort_vals (s := { s with heap := g.push (seqObj "list" vs.toArray 0) }) at0 S lv ⟨_, rfl, ?_⟩) (args_list_sort _)))
  obtain ⟨n, atE⟩ := sortedHeap_at (out := (PySem.W.sortVals (dataKind (PySem.W.sortingHeap (g.push (seqObj "list" vs.toArray 0)) g.objs.size vs) (bs.map enc)) false vs vs).toArray) at0
  refine wpAny_pure ⟨_, rfl, h g.objs.size _ _ n (fun b o q => ?_) no atE (PySem.W.sortVals_data false e er' hal)⟩
  exact (sortedHeap_old (ne b o q) (Heap.lt_size (old b o q))).trans (old b o q)
end
theorem each_zip : ∀ {xs : List V} {ds : List PyData} {us : List Value}, xs.length = ds.length → Vals xs us → EachIs (fun (u : Value) (b : V × PyData) => RelV b.1 u) us (xs.zip ds)
  | [], _, _, _, .nil => .nil
  | x :: xs, [], _, h, _ => by cases h
  | x :: xs, d :: ds, _, h, .cons r t => .cons r (each_zip (Nat.succ.inj h) t)
theorem vals_each : ∀ {bs : List (V × PyData)} {us : List Value}, EachIs (fun (u : Value) (b : V × PyData) => RelV b.1 u) us bs → Vals (bs.map Prod.fst) us
  | [], _, .nil => .nil
  | b :: bs, _, .cons r t => .cons r (vals_each t)
theorem dpAll_len {K : PySem.W.Frag} {H : Hp} : ∀ {xs : List V} {ds : List PyData}, DpAll K H xs ds → xs.length = ds.length
  | _, _, .nil => rfl
  | _, _, .cons _ t => congrArg Nat.succ (dpAll_len t)
theorem zip_snd : ∀ {xs : List V} {ds : List PyData}, xs.length = ds.length → (xs.zip ds).map Prod.snd = ds
  | [], [], _ => rfl
  | x :: xs, d :: ds, h => congrArg (d :: ·) (zip_snd (Nat.succ.inj h))
  | [], d :: ds, h => by cases h
  | x :: xs, [], h => by cases h
theorem reads_each {h : Heap} : ∀ {xs : List V} {ds : List PyData} {us : List Value} {as : List Addr}, xs.length = ds.length → ReadsAll h us ds as → EachIs (fun v (b : V × PyData) => ∃ as, Reads h v b.2 as) us (xs.zip ds)
  | [], [], _, _, _, .nil => .nil
  | x :: xs, d :: ds, _, _, hl, .cons r t => .cons ⟨_, r⟩ (reads_each (Nat.succ.inj hl) t)
  | [], d :: ds, _, _, hl, _ => by cases hl
  | x :: xs, [], _, _, hl, _ => by cases hl
/-- the values in the order of their data -/
def srtV (xs : List V) (ds : List PyData) : List V := ((xs.zip ds).mergeSort (dataLe false Prod.snd)).map Prod.fst
/-- sorted(t) -/
def rSortD (K : PySem.W.Frag) : List V → Hp → VK → Prop := fun vs H Q => ∃ (a : Addr) (xs : List V) (ds : List PyData), vs = [V.ref a] ∧ SqT K H a xs ∧ DpAll K H xs ds ∧ AllAlike ds ∧ Sortable ds ∧ (∀ d ∈ ds, d.depth ≤ 20) ∧
  ∀ p : Addr, H p = none → Q (.ref p) (upd H p (.lst (srtV xs ds)))
section
variable {X : Cx}
theorem call_sortD (hu : X.A.units + 64 < cLine) : CallR X (.builtin "sorted") (rSortD X.K) := by
  intro pins s σ H xs us Q I r h
  obtain ⟨a, xs, ds, rfl, hq, hd, hal, hk, dep, q⟩ := h
  obtain ⟨u, rfl, ru⟩ := vals1 r
  obtain rfl : u = Value.ref a := ru
  obtain ⟨its, rv, pt, hz⟩ := I.tuple hq
  obtain ⟨as, rd⟩ := Dp.readsAll I ds xs its hd rv
  have hl := dpAll_len hd
  have hm : (xs.zip ds).map Prod.snd = ds := zip_snd hl
  have hlen : (xs.zip ds).length = xs.length := by rw [List.length_zip]; omega
  refine sorted_tup (bs := xs.zip ds) (enc := Prod.snd) pt (each_zip hl rv) (reads_each hl rd) (by rw [hm]; exact hal) (by rw [hm]; exact hk) (by rw [hlen]; exact hz) (fun b hb => ?_) fun p h' out n kp no hp he => ?_
  · have q1 := dep b.2 (List.of_mem_zip hb).2
    omega
  · have hv := vals_each he
    have nH : H p = none := I.hok.gone no
    have sz : (srtV xs ds).length ≤ sizeLine := by
      unfold srtV
      rw [List.length_map, List.length_mergeSort, hlen]
      exact hz
    exact ⟨.ref p, _, I.laidN (t' := s.toks) (o := .lst (srtV xs ds)) kp no nH ⟨sz, out, n, hv, hp⟩, rfl, q p nH⟩
end
end K68
end
section
set_option Elab.async false
set_option linter.all false
set_option maxRecDepth 100000
set_option maxHeartbeats 4000000
namespace K68
open PySem PySem.Spec PyProof.Rows L2
open PySem.W (AllAlike)
/-! ### min(xs), xs a list of alike data: one of its items -/
/-- the objects of g stand -/
def Stand (g h : Heap) : Prop := ∀ b o, g.get? b = some o → h.get? b = some o
section
variable {P : Program} {w : World} {A : Around} {R : Result → Shared → Prop} {I S : Addr} {fp wr : List Addr} {n : Nat} {Pv : Nat → Value → Prop} {St : Nat → Heap → Prop} {g : Heap}
/-- two items may be compared wherever g stands -/
def Cmps (P : Program) (w : World) (A : Around) (Pv : Nat → Value → Prop) (g : Heap) : Prop :=
  ∀ i j x y (s : Shared) (Q : Value → Shared → Prop) (E : Value → Shared → Prop), Pv i x → Pv j y → Stand g s.heap → (∀ c : Bool, Q (.bool c) s) → wpAny (model P w) A (richCompare .Lt x y) Q E s
theorem min_turns (W : Walks P w A.in1 I fp wr n Pv St) (cm : Cmps P w A.in1 Pv g) (nS : S ∉ fp) (gS : g.get? S = none) (gw : ∀ b ∈ wr, g.get? b = none) :
    ∀ (k j : Nat) (s : Shared) (best : Value) (c : Nat), n - j = k → j ≤ n → St j s.heap → (∃ i, Pv i best) → Stand g s.heap →
    s.heap.get? S = some { cls := .type "list", dict := none, data := .seq #[best, best] c, slots := #[] } →
    (∀ v h' tk, (∃ i, Pv i v) → (∀ b o, b ∉ wr → b ≠ S → s.heap.get? b = some o → h'.get? b = some o) → R (.ok (.ret v)) { s with heap := h', toks := tk }) →
    codeAny (model P w) A (.builtin "min.loop" ⟨[.ref I, .none, .ref S], []⟩) R s := by
  have nw : S ∉ wr := fun z => nS (W.sub _ z)
  have nm : (toString "min" ++ toString ".loop" : String) = "min.loop" := by decide
  have grow : ∀ {h h' : Heap}, Stand g h → (∀ b o, b ∉ wr → b ≠ S → h.get? b = some o → h'.get? b = some o) → Stand g h' := fun st k b o e => by
    refine k b o (fun z => ?_) (fun z => ?_) (st b o e)
    · rw [gw b z] at e; cases e
    · rw [z, gS] at e; cases e
  intro k
  induction k with
  | zero =>
    intro j s best c hk hj hst hb hg hS hR
    have ej : j = n := by omega
    refine codeAny_builtin F.entry_min_loop ?_
    rw [Around.under_plainId F.plain_min_loop _]
    show wpAny _ A.in1 (seqItems? (.ref S) >>= _) _ _ s
    refine wpAny_bind (wpAny_seqItems hS rfl ?_)
    show wpAny _ A.in1 (tryCatch (pyNext (.ref I)) _ >>= _) _ _ s
    refine wpAny_bind (wpAny_tryCatch (W.done s _ _ (ej ▸ hst) fun h1 tk k1 => ?_))
    show wpAny _ A.in1 (updateSeq S (fun _ => #[]) >>= _) _ _ _
    refine wpAny_bind (wpAny_updateSeq (k1 S _ nw hS) rfl (wpAny_bind (wpAny_letGo (wpAny_pure ?_))))
    exact hR best _ tk hb fun b o b1 b2 e => (Heap.get?_update_other _ _ (Ne.symm b2)).trans (k1 b o b1 e)
  | succ k ih =>
    intro j s best c hk hj hst hb hg hS hR
    have lt : j < n := by omega
    refine codeAny_builtin F.entry_min_loop ?_
    rw [Around.under_plainId F.plain_min_loop _]
    show wpAny _ A.in1 (seqItems? (.ref S) >>= _) _ _ s
    refine wpAny_bind (wpAny_seqItems hS rfl ?_)
    show wpAny _ A.in1 (tryCatch (pyNext (.ref I)) _ >>= _) _ _ s
    refine wpAny_bind (wpAny_tryCatch (W.item j s _ _ lt hst fun v h1 tk hv st1 k1 => ?_))
    have hS1 := k1 S _ nw hS
    have g1 : Stand g h1 := grow hg fun b o b1 _ e => k1 b o b1 e
    obtain ⟨ib, pb⟩ := hb
    show wpAny _ A.in1 (tryCatch (holding [v, v] (richCompare .Lt v best >>= _)) _ >>= _) _ _ _
    refine wpAny_bind (wpAny_tryCatch (wpAny_holding (wpAny_bind (cm j ib v best _ _ _ hv pb g1 fun bt => ?_))))
    refine wpAny_bind (wpAny_holding (wpAny_truthy_bool (wpAny_bind (wpAny_letGo (wpAny_pure ?_)))))
    cases bt with
    | true =>
      simp only [if_true]
      refine wpAny_bind (wpAny_updateSeq hS1 rfl (wpAny_bind (wpAny_letGo ?_)))
      rw [nm]
      have oth : ∀ b, b ≠ S → (h1.update S (Obj.mapSeq fun _ => #[v, v])).get? b = h1.get? b := fun b hb => Heap.get?_update_other _ _ (Ne.symm hb)
      refine wpAny_pure ⟨plainId_quiet F.plain_min_loop _, ih (j + 1) _ v _ (by omega) lt (W.frame _ _ _ st1 fun b bf o e => (oth b fun z => nS (z ▸ bf)).trans e) ⟨j, hv⟩ (grow g1 fun b o _ b2 e => (oth b b2).trans e) (Heap.get?_update_self _ hS1 rfl) fun v2 h2 t2 p2 k2 => ?_⟩
      exact hR v2 h2 t2 p2 fun b o b1 b2 e => k2 b o b1 b2 ((oth b b2).trans (k1 b o b1 e))
    | false =>
      simp only [Bool.false_eq_true, if_false]
      refine wpAny_bind (wpAny_letGo ?_)
      rw [nm]
      refine wpAny_pure ⟨plainId_quiet F.plain_min_loop _, ih (j + 1) _ best c (by omega) lt st1 ⟨ib, pb⟩ g1 hS1 fun v2 h2 t2 p2 k2 => ?_⟩
      exact hR v2 h2 t2 p2 fun b o b1 b2 e => k2 b o b1 b2 (k1 b o b1 e)
theorem min_first (W : Walks P w A.in1 I fp wr n Pv St) (cm : Cmps P w A.in1 Pv g) (nS : S ∉ fp) (gS : g.get? S = none) (gw : ∀ b ∈ wr, g.get? b = none) (hn : 0 < n) {s : Shared} {c : Nat} (hst : St 0 s.heap) (hg : Stand g s.heap)
    (hS : s.heap.get? S = some { cls := .type "list", dict := none, data := .seq #[] c, slots := #[] })
    (hR : ∀ v h' tk, (∃ i, Pv i v) → (∀ b o, b ∉ wr → b ≠ S → s.heap.get? b = some o → h'.get? b = some o) → R (.ok (.ret v)) { s with heap := h', toks := tk }) :
    codeAny (model P w) A (.builtin "min.loop" ⟨[.ref I, .none, .ref S], []⟩) R s := by
  have nw : S ∉ wr := fun z => nS (W.sub _ z)
  have nm : (toString "min" ++ toString ".loop" : String) = "min.loop" := by decide
  refine codeAny_builtin F.entry_min_loop ?_
  rw [Around.under_plainId F.plain_min_loop _]
  show wpAny _ A.in1 (seqItems? (.ref S) >>= _) _ _ s
  refine wpAny_bind (wpAny_seqItems hS rfl ?_)
  show wpAny _ A.in1 (tryCatch (pyNext (.ref I)) _ >>= _) _ _ s
  refine wpAny_bind (wpAny_tryCatch (W.item 0 s _ _ hn hst fun v h1 tk hv st1 k1 => ?_))
  have hS1 := k1 S _ nw hS
  show wpAny _ A.in1 (updateSeq S (fun _ => #[v, v]) >>= _) _ _ _
  refine wpAny_bind (wpAny_updateSeq hS1 rfl ?_)
  rw [nm]
  have oth : ∀ b, b ≠ S → (h1.update S (Obj.mapSeq fun _ => #[v, v])).get? b = h1.get? b := fun b hb => Heap.get?_update_other _ _ (Ne.symm hb)
  refine wpAny_pure ⟨plainId_quiet F.plain_min_loop _, min_turns W cm nS gS gw _ 1 _ v _ rfl hn (W.frame _ _ _ st1 fun b bf o e => (oth b fun z => nS (z ▸ bf)).trans e) ⟨0, hv⟩ (fun b o e => ?_) (Heap.get?_update_self _ hS1 rfl) fun v2 h2 t2 p2 k2 => ?_⟩
  · have b2 : b ≠ S := fun z => by rw [z, gS] at e; cases e
    have b1 : b ∉ wr := fun z => by rw [gw b z] at e; cases e
    exact (oth b b2).trans (k1 b o b1 (hg b o e))
  · exact hR v2 h2 t2 p2 fun b o b1 b2 e => k2 b o b1 b2 ((oth b b2).trans (k1 b o b1 e))
end
section
variable {P : Program} {w : World} {A : Around} {E : Value → Shared → Prop} {s : Shared}
theorem call_min_data {l : Addr} {vs : List Value} {ds : List PyData} {as : List Addr} {Q : Value → Shared → Prop} (hh : A.handled = none) (hl : s.heap.IsList l vs.toArray) (rd : ReadsAll s.heap vs ds as) (hal : AllAlike ds) (hn : ∀ d ∈ ds, d ≠ .none) (hu : ∀ d ∈ ds, A.units + 8 + d.depth < cLine) (hne : 0 < vs.length)
    (h : ∀ (v : Value) (h' : Heap) (tk : Nat), (∃ i : Nat, vs[i]? = some v) → (∀ b o, s.heap.get? b = some o → h'.get? b = some o) → Q v { s with heap := h', toks := tk }) : wpAny (model P w) A (call (.builtin "min") [.ref l]) Q E s := by
  have nm : (toString "min" ++ toString ".loop" : String) = "min.loop" := by decide
  have ll : l < s.heap.objs.size := by obtain ⟨o, e, _⟩ := id hl; exact Heap.lt_size e
  refine call_function_tree F.kind_min F.plain_min F.entry_min (F.args_min1 _) ?_
  show wpAny _ A.in1 (Builtin.Builtins.bindParams "min" ["key", "default"] 0 ⟨[], []⟩ >>= _) _ _ s
  refine wpAny_bind (wpAny_of_eq (show Builtin.Builtins.bindParams "min" ["key", "default"] 0 ⟨[], []⟩ = pure [none, none] from rfl) ?_)
  refine wpAny_bind (wpAny_pure (wpAny_bind (wpAny_pyIter_list hl ?_)))
  refine wpAny_bind (wpAny_newObj_type ?_)
  rw [nm]
  have at_ : ∀ (i : Nat) (x : Value), vs.toArray[i]? = some x → ∃ d as', d ∈ ds ∧ Reads s.heap x d as' := fun i x hx => by
    have hx2 : vs[i]? = some x := by rw [List.getElem?_toArray] at hx; exact hx
    have : ∀ {vs : List Value} {ds : List PyData} {as : List Addr} {i : Nat}, ReadsAll s.heap vs ds as → vs[i]? = some x → ∃ d as', d ∈ ds ∧ Reads s.heap x d as' := by
      intro vs
      induction vs with
      | nil => intro ds as i _ q; simp at q
      | cons v vs ih =>
        intro ds as i r q
        cases r with
        | @cons _ _ d ds' a1 a2 r1 r2 =>
          cases i with
          | zero =>
            have e : v = x := Option.some.inj q
            subst e
            exact ⟨d, _, List.mem_cons_self, r1⟩
          | succ i =>
            obtain ⟨d', as', m, r'⟩ := ih r2 (i := i) (by simpa using q)
            exact ⟨d', as', List.mem_cons_of_mem _ m, r'⟩
    exact this rd hx2
  have z1 : (s.heap.push { cls := .type "list_iterator", data := .fields #[.ref l, .int 0 0] }).objs.size = s.heap.objs.size + 1 := Heap.size_push ..
  show wpAny _ _ (pure _) _ _ { s with heap := (s.heap.push { cls := .type "list_iterator", data := .fields #[.ref l, .int 0 0] }).push { cls := .type "list", data := .seq #[] } }
  rw [z1]
  refine wpAny_pure ⟨plainId_quiet F.plain_min_loop _, min_first (P := P) (w := w) (A := A) (S := s.heap.objs.size + 1) (g := s.heap) (s := { s with heap := (s.heap.push { cls := .type "list_iterator", data := .fields #[.ref l, .int 0 0] }).push { cls := .type "list", data := .seq #[] } }) (Walks.list (A := A.in1) (by simpa using hh) s.heap.objs.size l (Nat.ne_of_lt ll) vs.toArray) ?_ ?_ ?_ ?_ (by simpa using hne) ⟨⟨_, Heap.get?_push_of_some _ (Heap.get?_push_size _ rfl), rfl, rfl⟩, ?_⟩ (fun b o e => Heap.get?_push_of_some _ (Heap.get?_push_of_some _ e)) (by rw [← z1]; exact Heap.get?_push_size _ rfl) fun v h1 tk hv k1 => ?_⟩
  · intro i j x y s2 Q2 E2 hx hy st q
    obtain ⟨dx, a1, m1, r1⟩ := at_ i x hx
    obtain ⟨dy, a2, m2, r2⟩ := at_ j y hy
    refine PySem.W.rcLt_alike dx dy _ s2 x y a1 a2 (PyProof.Rows.Reads.keeps (fun b o e => st b o e) r1) (PyProof.Rows.Reads.keeps (fun b o e => st b o e) r2) (hal _ m1 _ m2) (hn _ m1) ?_ P w E2 Q2 (q _)
    have u1 := hu dx m1
    have u2 : A.in1.units ≤ A.units + 1 := by simp [Around.in1]
    omega
  · intro hm
    rcases List.mem_cons.mp hm with q | q
    · exact absurd q (Nat.succ_ne_self _)
    · exact absurd (List.mem_singleton.mp q) (Nat.ne_of_gt (Nat.lt_succ_of_lt ll))
  · exact Heap.get?_none_of_le (Nat.le_succ _)
  · intro b hb
    rw [List.mem_singleton.mp hb]
    exact Heap.get?_none_of_le (Nat.le_refl _)
  · obtain ⟨o, e, r⟩ := hl
    exact ⟨o, Heap.get?_push_of_some _ (Heap.get?_push_of_some _ e), r⟩
  · obtain ⟨i, hi⟩ := hv
    refine h v h1 tk ⟨i, by rw [List.getElem?_toArray] at hi; exact hi⟩ fun b o e => ?_
    have lb := Heap.lt_size e
    exact k1 b o (fun hm => absurd (List.mem_singleton.mp hm) (Nat.ne_of_lt lb)) (Nat.ne_of_lt (Nat.lt_succ_of_lt lb)) (Heap.get?_push_of_some _ (Heap.get?_push_of_some _ e))
end
/-- min(xs) -/
def rMinD (K : PySem.W.Frag) : List V → Hp → VK → Prop := fun vs H Q => ∃ (a : Addr) (xs : List V) (ds : List PyData), vs = [V.ref a] ∧ SqL K H a xs ∧ DpAll K H xs ds ∧ AllAlike ds ∧ (∀ d ∈ ds, d ≠ .none ∧ d.depth ≤ 20) ∧ 0 < xs.length ∧ ∀ x ∈ xs, Q x H
section
variable {X : Cx}
theorem call_minD (hc : X.calm = true) (hu : X.A.units + 64 < cLine) : CallR X (.builtin "min") (rMinD X.K) := by
  intro pins s σ H xs us Q I r h
  obtain ⟨a, xs, ds, rfl, hq, hd, hal, hn, hne, q⟩ := h
  obtain ⟨u, rfl, ru⟩ := vals1 r
  obtain rfl : u = Value.ref a := ru
  obtain ⟨its, rv, pl, hz⟩ := I.list hq
  obtain ⟨as, rd⟩ := Dp.readsAll I ds xs its hd rv
  refine call_min_data (I.ok.hd hc) pl.isList rd hal (fun d m => (hn d m).1) (fun d m => by have := (hn d m).2; omega) (by rw [← rv.length]; exact hne) fun v h' tk ⟨i, hi⟩ kp => ?_
  have li : i < xs.length := by rw [rv.length]; exact (List.getElem?_eq_some_iff.mp hi).1
  obtain ⟨u2, e2, r2⟩ := rv.get (List.getElem?_eq_getElem li)
  rw [hi] at e2
  have ev : v = u2 := Option.some.inj e2
  subst ev
  exact ⟨xs[i], H, I.kept kp, r2, q _ (List.getElem_mem li)⟩
end
end K68
end
section
set_option Elab.async false
set_option linter.all false
set_option maxRecDepth 100000
set_option maxHeartbeats 2000000
namespace K68
open PySem PySem.Spec PyProof.Rows L2
/-- what the top has left: the head's facts of K, and that the module's names are K's -/
structure Tx (w : World) (K : PySem.W.Frag) (mg : Str → Option Value) : Prop where
  y : He.SaysT fa fn ts w K
  more : ex K = true
  ns : ∃ h : Heap, K.In h ∧ h.Ns mainGlobals mg
abbrev aE (K : PySem.W.Frag) : Addr := He.ga K "Editor"
abbrev aD (K : PySem.W.Frag) : Addr := He.ga K "DifferenceTable"
section
variable {w : World} {K : PySem.W.Frag} {mg : Str → Option Value}
theorem Tx.glo (T : Tx w K mg) (i : Nat) {x : Str} (h : fa[i]? = some (.glo x)) : mg x = some (.ref (He.ga K x)) := by
  obtain ⟨hh, h1, h2⟩ := T.ns
  exact He.glo_ok h1 h2 (T.y.d.fact i h)
theorem Tx.free (T : Tx w K mg) (i : Nat) {x : Str} (h : fa[i]? = some (.free x)) : mg x = none := by
  obtain ⟨hh, h1, h2⟩ := T.ns
  exact He.free_ok h1 h2 (T.y.d.fact i h)
theorem Tx.int (T : Tx w K mg) (i : Nat) {x : Str} {n : Int} (h : fa[i]? = some (.int x n)) : ∃ t, mg x = some (.int n t) := by
  obtain ⟨hh, h1, h2⟩ := T.ns
  exact He.int_ok h1 h2 (T.y.d.fact i h)
theorem Tx.str (T : Tx w K mg) (i : Nat) {x z : Str} (h : fa[i]? = some (.str x z)) : ∃ t, mg x = some (.str z t) := by
  obtain ⟨hh, h1, h2⟩ := T.ns
  exact He.str_ok h1 h2 (T.y.d.fact i h)
theorem Tx.g_check_name (T : Tx w K mg) : mg "check_name" = some (.ref (He.ga K "check_name")) := T.glo 0 rfl
theorem Tx.g_check_operations (T : Tx w K mg) : mg "check_operations" = some (.ref (He.ga K "check_operations")) := T.glo 1 rfl
theorem Tx.g_is_integer (T : Tx w K mg) : mg "is_integer" = some (.ref (He.ga K "is_integer")) := T.glo 2 rfl
theorem Tx.g_are_offsets (T : Tx w K mg) : mg "are_offsets" = some (.ref (He.ga K "are_offsets")) := T.glo 3 rfl
theorem Tx.g_is_call (T : Tx w K mg) : mg "is_call" = some (.ref (He.ga K "is_call")) := T.glo 4 rfl
theorem Tx.g_check_system (T : Tx w K mg) : mg "check_system" = some (.ref (He.ga K "check_system")) := T.glo 5 rfl
theorem Tx.g_reached (T : Tx w K mg) : mg "reached" = some (.ref (He.ga K "reached")) := T.glo 6 rfl
theorem Tx.g_calls_into (T : Tx w K mg) : mg "calls_into" = some (.ref (He.ga K "calls_into")) := T.glo 7 rfl
theorem Tx.g_message_pairs (T : Tx w K mg) : mg "message_pairs" = some (.ref (He.ga K "message_pairs")) := T.glo 8 rfl
theorem Tx.g_widest_pair (T : Tx w K mg) : mg "widest_pair" = some (.ref (He.ga K "widest_pair")) := T.glo 9 rfl
theorem Tx.g_find_least_windows (T : Tx w K mg) : mg "find_least_windows" = some (.ref (He.ga K "find_least_windows")) := T.glo 10 rfl
theorem Tx.g_least_windows (T : Tx w K mg) : mg "least_windows" = some (.ref (He.ga K "least_windows")) := T.glo 11 rfl
theorem Tx.g_renumbered (T : Tx w K mg) : mg "renumbered" = some (.ref (He.ga K "renumbered")) := T.glo 12 rfl
theorem Tx.g__law_taken (T : Tx w K mg) : mg "_law_taken" = some (.ref (He.ga K "_law_taken")) := T.glo 13 rfl
theorem Tx.g__law_system (T : Tx w K mg) : mg "_law_system" = some (.ref (He.ga K "_law_system")) := T.glo 14 rfl
theorem Tx.g__law_raised (T : Tx w K mg) : mg "_law_raised" = some (.ref (He.ga K "_law_raised")) := T.glo 15 rfl
theorem Tx.g__law_call (T : Tx w K mg) : mg "_law_call" = some (.ref (He.ga K "_law_call")) := T.glo 16 rfl
theorem Tx.g__law_deed (T : Tx w K mg) : mg "_law_deed" = some (.ref (He.ga K "_law_deed")) := T.glo 17 rfl
theorem Tx.g__law_gone (T : Tx w K mg) : mg "_law_gone" = some (.ref (He.ga K "_law_gone")) := T.glo 18 rfl
theorem Tx.g__law_does (T : Tx w K mg) : mg "_law_does" = some (.ref (He.ga K "_law_does")) := T.glo 19 rfl
theorem Tx.g__law_asked (T : Tx w K mg) : mg "_law_asked" = some (.ref (He.ga K "_law_asked")) := T.glo 20 rfl
theorem Tx.g__law_is_again (T : Tx w K mg) : mg "_law_is_again" = some (.ref (He.ga K "_law_is_again")) := T.glo 21 rfl
theorem Tx.g_law (T : Tx w K mg) : mg "law" = some (.ref (He.ga K "law")) := T.glo 22 rfl
theorem Tx.g_OnceError (T : Tx w K mg) : mg "OnceError" = some (.ref (He.ga K "OnceError")) := T.glo 23 rfl
theorem Tx.g_InvalidSystem (T : Tx w K mg) : mg "InvalidSystem" = some (.ref (He.ga K "InvalidSystem")) := T.glo 24 rfl
theorem Tx.g_UnknownService (T : Tx w K mg) : mg "UnknownService" = some (.ref (He.ga K "UnknownService")) := T.glo 25 rfl
theorem Tx.g_InvalidMessage (T : Tx w K mg) : mg "InvalidMessage" = some (.ref (He.ga K "InvalidMessage")) := T.glo 26 rfl
theorem Tx.g_TooLate (T : Tx w K mg) : mg "TooLate" = some (.ref (He.ga K "TooLate")) := T.glo 27 rfl
theorem Tx.g_InvalidCall (T : Tx w K mg) : mg "InvalidCall" = some (.ref (He.ga K "InvalidCall")) := T.glo 28 rfl
theorem Tx.g_UnknownCall (T : Tx w K mg) : mg "UnknownCall" = some (.ref (He.ga K "UnknownCall")) := T.glo 29 rfl
theorem Tx.g_TooManyCalls (T : Tx w K mg) : mg "TooManyCalls" = some (.ref (He.ga K "TooManyCalls")) := T.glo 30 rfl
theorem Tx.g_TooManyServices (T : Tx w K mg) : mg "TooManyServices" = some (.ref (He.ga K "TooManyServices")) := T.glo 31 rfl
theorem Tx.g_ServiceInUse (T : Tx w K mg) : mg "ServiceInUse" = some (.ref (He.ga K "ServiceInUse")) := T.glo 32 rfl
theorem Tx.g_InvalidOperation (T : Tx w K mg) : mg "InvalidOperation" = some (.ref (He.ga K "InvalidOperation")) := T.glo 33 rfl
theorem Tx.g_InvalidName (T : Tx w K mg) : mg "InvalidName" = some (.ref (He.ga K "InvalidName")) := T.glo 34 rfl
theorem Tx.g_UnknownCheckpoint (T : Tx w K mg) : mg "UnknownCheckpoint" = some (.ref (He.ga K "UnknownCheckpoint")) := T.glo 35 rfl
theorem Tx.g_Recorder (T : Tx w K mg) : mg "Recorder" = some (.ref (He.ga K "Recorder")) := T.glo 36 rfl
theorem Tx.g_Editor (T : Tx w K mg) : mg "Editor" = some (.ref (He.ga K "Editor")) := T.glo 37 rfl
theorem Tx.g_DifferenceTable (T : Tx w K mg) : mg "DifferenceTable" = some (.ref (He.ga K "DifferenceTable")) := T.glo 38 rfl
theorem Tx.g_SIZES (T : Tx w K mg) : mg "SIZES" = some (.ref (He.ga K "SIZES")) := T.glo 39 rfl
theorem Tx.z_isinstance (T : Tx w K mg) : mg "isinstance" = none := T.free 40 rfl
theorem Tx.z_len (T : Tx w K mg) : mg "len" = none := T.free 41 rfl
theorem Tx.z_list (T : Tx w K mg) : mg "list" = none := T.free 42 rfl
theorem Tx.z_tuple (T : Tx w K mg) : mg "tuple" = none := T.free 43 rfl
theorem Tx.z_sorted (T : Tx w K mg) : mg "sorted" = none := T.free 44 rfl
theorem Tx.z_all (T : Tx w K mg) : mg "all" = none := T.free 45 rfl
theorem Tx.z_zip (T : Tx w K mg) : mg "zip" = none := T.free 46 rfl
theorem Tx.z_enumerate (T : Tx w K mg) : mg "enumerate" = none := T.free 47 rfl
theorem Tx.z_max (T : Tx w K mg) : mg "max" = none := T.free 48 rfl
theorem Tx.z_min (T : Tx w K mg) : mg "min" = none := T.free 49 rfl
theorem Tx.z_range (T : Tx w K mg) : mg "range" = none := T.free 50 rfl
theorem Tx.z_set (T : Tx w K mg) : mg "set" = none := T.free 51 rfl
theorem Tx.z_int (T : Tx w K mg) : mg "int" = none := T.free 52 rfl
theorem Tx.z_bool (T : Tx w K mg) : mg "bool" = none := T.free 53 rfl
theorem Tx.z_dict (T : Tx w K mg) : mg "dict" = none := T.free 54 rfl
theorem Tx.z_str (T : Tx w K mg) : mg "str" = none := T.free 55 rfl
theorem Tx.z_ValueError (T : Tx w K mg) : mg "ValueError" = none := T.free 56 rfl
theorem Tx.i_MAX_NAME_LENGTH (T : Tx w K mg) : ∃ t, mg "MAX_NAME_LENGTH" = some (.int 8 t) := T.int 57 rfl
theorem Tx.i_MAX_SERVICES (T : Tx w K mg) : ∃ t, mg "MAX_SERVICES" = some (.int 8 t) := T.int 58 rfl
theorem Tx.i_MAX_CALLS (T : Tx w K mg) : ∃ t, mg "MAX_CALLS" = some (.int 20 t) := T.int 59 rfl
theorem Tx.i_MAX_ATTEMPTS (T : Tx w K mg) : ∃ t, mg "MAX_ATTEMPTS" = some (.int 4 t) := T.int 60 rfl
theorem Tx.i_MAX_TICKS (T : Tx w K mg) : ∃ t, mg "MAX_TICKS" = some (.int 99 t) := T.int 61 rfl
theorem Tx.s_LETTERS (T : Tx w K mg) : ∃ t, mg "LETTERS" = some (.str "abcdefghijklmnopqrstuvwxyz" t) := T.str 62 rfl
theorem Tx.c_Editor (T : Tx w K mg) : Cls K (He.ga K "Editor") := He.cls_ok (T.y.d.fact 63 rfl)
theorem Tx.k_Editor (T : Tx w K mg) : Mk K (He.ga K "Editor") (He.ma K (He.ga K "Editor") "__init__") := He.mkr_ok (T.y.d.fact 64 rfl)
theorem Tx.c_DifferenceTable (T : Tx w K mg) : Cls K (He.ga K "DifferenceTable") := He.cls_ok (T.y.d.fact 65 rfl)
theorem Tx.k_DifferenceTable (T : Tx w K mg) : Mk K (He.ga K "DifferenceTable") (He.ma K (He.ga K "DifferenceTable") "__init__") := He.mkr_ok (T.y.d.fact 66 rfl)
theorem Tx.n_present (T : Tx w K mg) : NoAttr K (He.ga K "Editor") "present" := He.noat_ok (x := "Editor") (T.y.d.fact 67 rfl)
theorem Tx.n_done (T : Tx w K mg) : NoAttr K (He.ga K "Editor") "done" := He.noat_ok (x := "Editor") (T.y.d.fact 68 rfl)
theorem Tx.n_undone (T : Tx w K mg) : NoAttr K (He.ga K "Editor") "undone" := He.noat_ok (x := "Editor") (T.y.d.fact 69 rfl)
theorem Tx.n_saved (T : Tx w K mg) : NoAttr K (He.ga K "Editor") "saved" := He.noat_ok (x := "Editor") (T.y.d.fact 70 rfl)
theorem Tx.n_is_applying (T : Tx w K mg) : NoAttr K (He.ga K "Editor") "is_applying" := He.noat_ok (x := "Editor") (T.y.d.fact 71 rfl)
theorem Tx.n_system (T : Tx w K mg) : NoAttr K (He.ga K "DifferenceTable") "system" := He.noat_ok (x := "DifferenceTable") (T.y.d.fact 72 rfl)
theorem Tx.n_services (T : Tx w K mg) : NoAttr K (He.ga K "DifferenceTable") "services" := He.noat_ok (x := "DifferenceTable") (T.y.d.fact 73 rfl)
theorem Tx.n_greatest (T : Tx w K mg) : NoAttr K (He.ga K "DifferenceTable") "greatest" := He.noat_ok (x := "DifferenceTable") (T.y.d.fact 74 rfl)
theorem Tx.n_steps (T : Tx w K mg) : NoAttr K (He.ga K "DifferenceTable") "steps" := He.noat_ok (x := "DifferenceTable") (T.y.d.fact 75 rfl)
theorem Tx.m_enter (T : Tx w K mg) : Meth K (He.ga K "Editor") "enter" (He.ma K (He.ga K "Editor") "enter") := He.meth_ok (x := "Editor") (T.y.d.fact 76 rfl)
theorem Tx.m_undo (T : Tx w K mg) : Meth K (He.ga K "Editor") "undo" (He.ma K (He.ga K "Editor") "undo") := He.meth_ok (x := "Editor") (T.y.d.fact 77 rfl)
theorem Tx.m_redo (T : Tx w K mg) : Meth K (He.ga K "Editor") "redo" (He.ma K (He.ga K "Editor") "redo") := He.meth_ok (x := "Editor") (T.y.d.fact 78 rfl)
theorem Tx.m_history (T : Tx w K mg) : Meth K (He.ga K "Editor") "history" (He.ma K (He.ga K "Editor") "history") := He.meth_ok (x := "Editor") (T.y.d.fact 79 rfl)
theorem Tx.m_save (T : Tx w K mg) : Meth K (He.ga K "Editor") "save" (He.ma K (He.ga K "Editor") "save") := He.meth_ok (x := "Editor") (T.y.d.fact 80 rfl)
theorem Tx.m_restore (T : Tx w K mg) : Meth K (He.ga K "Editor") "restore" (He.ma K (He.ga K "Editor") "restore") := He.meth_ok (x := "Editor") (T.y.d.fact 81 rfl)
theorem Tx.m_checkpoints (T : Tx w K mg) : Meth K (He.ga K "Editor") "checkpoints" (He.ma K (He.ga K "Editor") "checkpoints") := He.meth_ok (x := "Editor") (T.y.d.fact 82 rfl)
theorem Tx.m_apply_all (T : Tx w K mg) : Meth K (He.ga K "Editor") "apply_all" (He.ma K (He.ga K "Editor") "apply_all") := He.meth_ok (x := "Editor") (T.y.d.fact 83 rfl)
theorem Tx.m_sizes (T : Tx w K mg) : Meth K (He.ga K "Editor") "sizes" (He.ma K (He.ga K "Editor") "sizes") := He.meth_ok (x := "Editor") (T.y.d.fact 84 rfl)
theorem Tx.m_call_at (T : Tx w K mg) : Meth K (He.ga K "Editor") "call_at" (He.ma K (He.ga K "Editor") "call_at") := He.meth_ok (x := "Editor") (T.y.d.fact 85 rfl)
theorem Tx.m_add_call (T : Tx w K mg) : Meth K (He.ga K "Editor") "add_call" (He.ma K (He.ga K "Editor") "add_call") := He.meth_ok (x := "Editor") (T.y.d.fact 86 rfl)
theorem Tx.m_remove_call (T : Tx w K mg) : Meth K (He.ga K "Editor") "remove_call" (He.ma K (He.ga K "Editor") "remove_call") := He.meth_ok (x := "Editor") (T.y.d.fact 87 rfl)
theorem Tx.m_replace (T : Tx w K mg) : Meth K (He.ga K "Editor") "replace" (He.ma K (He.ga K "Editor") "replace") := He.meth_ok (x := "Editor") (T.y.d.fact 88 rfl)
theorem Tx.m_set_offsets (T : Tx w K mg) : Meth K (He.ga K "Editor") "set_offsets" (He.ma K (He.ga K "Editor") "set_offsets") := He.meth_ok (x := "Editor") (T.y.d.fact 89 rfl)
theorem Tx.m_set_delays (T : Tx w K mg) : Meth K (He.ga K "Editor") "set_delays" (He.ma K (He.ga K "Editor") "set_delays") := He.meth_ok (x := "Editor") (T.y.d.fact 90 rfl)
theorem Tx.m_add_service (T : Tx w K mg) : Meth K (He.ga K "Editor") "add_service" (He.ma K (He.ga K "Editor") "add_service") := He.meth_ok (x := "Editor") (T.y.d.fact 91 rfl)
theorem Tx.m_remove_service (T : Tx w K mg) : Meth K (He.ga K "Editor") "remove_service" (He.ma K (He.ga K "Editor") "remove_service") := He.meth_ok (x := "Editor") (T.y.d.fact 92 rfl)
theorem Tx.m_execute (T : Tx w K mg) : Meth K (He.ga K "Editor") "execute" (He.ma K (He.ga K "Editor") "execute") := He.meth_ok (x := "Editor") (T.y.d.fact 93 rfl)
theorem Tx.m_current_system (T : Tx w K mg) : Meth K (He.ga K "Editor") "current_system" (He.ma K (He.ga K "Editor") "current_system") := He.meth_ok (x := "Editor") (T.y.d.fact 94 rfl)
theorem Tx.m_window_history (T : Tx w K mg) : Meth K (He.ga K "Editor") "window_history" (He.ma K (He.ga K "Editor") "window_history") := He.meth_ok (x := "Editor") (T.y.d.fact 95 rfl)
theorem Tx.m_enter_later (T : Tx w K mg) : Meth K (He.ga K "DifferenceTable") "enter_later" (He.ma K (He.ga K "DifferenceTable") "enter_later") := He.meth_ok (x := "DifferenceTable") (T.y.d.fact 96 rfl)
theorem Tx.m_enter_earlier (T : Tx w K mg) : Meth K (He.ga K "DifferenceTable") "enter_earlier" (He.ma K (He.ga K "DifferenceTable") "enter_earlier") := He.meth_ok (x := "DifferenceTable") (T.y.d.fact 97 rfl)
theorem Tx.x_UnknownService (T : Tx w K mg) : PySem.W.excIn K (He.ga K "UnknownService") He.veBase "ValueError.__new__" = true ∧ PySem.W.keepIn K (.ref (He.ga K "UnknownService")) = true ∧ PySem.W.subIn K (.ref (He.ga K "UnknownService")) (.type "BaseException") = some true ∧ PySem.W.typeIn K (.ref (He.ga K "UnknownService")) = some (.type "type") := He.exc_ok (x := "UnknownService") (T.y.d.fact 98 rfl)
theorem Tx.o_UnknownService (T : Tx w K mg) : PySem.W.exmOne K (.ref (He.ga K "UnknownService")) (.ref (He.ga K "OnceError")) = some true := He.exm_ok (x := "UnknownService") (y := "OnceError") (T.y.d.fact 99 rfl)
theorem Tx.x_InvalidCall (T : Tx w K mg) : PySem.W.excIn K (He.ga K "InvalidCall") He.veBase "ValueError.__new__" = true ∧ PySem.W.keepIn K (.ref (He.ga K "InvalidCall")) = true ∧ PySem.W.subIn K (.ref (He.ga K "InvalidCall")) (.type "BaseException") = some true ∧ PySem.W.typeIn K (.ref (He.ga K "InvalidCall")) = some (.type "type") := He.exc_ok (x := "InvalidCall") (T.y.d.fact 100 rfl)
theorem Tx.o_InvalidCall (T : Tx w K mg) : PySem.W.exmOne K (.ref (He.ga K "InvalidCall")) (.ref (He.ga K "OnceError")) = some true := He.exm_ok (x := "InvalidCall") (y := "OnceError") (T.y.d.fact 101 rfl)
theorem Tx.x_UnknownCall (T : Tx w K mg) : PySem.W.excIn K (He.ga K "UnknownCall") He.veBase "ValueError.__new__" = true ∧ PySem.W.keepIn K (.ref (He.ga K "UnknownCall")) = true ∧ PySem.W.subIn K (.ref (He.ga K "UnknownCall")) (.type "BaseException") = some true ∧ PySem.W.typeIn K (.ref (He.ga K "UnknownCall")) = some (.type "type") := He.exc_ok (x := "UnknownCall") (T.y.d.fact 102 rfl)
theorem Tx.o_UnknownCall (T : Tx w K mg) : PySem.W.exmOne K (.ref (He.ga K "UnknownCall")) (.ref (He.ga K "OnceError")) = some true := He.exm_ok (x := "UnknownCall") (y := "OnceError") (T.y.d.fact 103 rfl)
theorem Tx.x_TooManyCalls (T : Tx w K mg) : PySem.W.excIn K (He.ga K "TooManyCalls") He.veBase "ValueError.__new__" = true ∧ PySem.W.keepIn K (.ref (He.ga K "TooManyCalls")) = true ∧ PySem.W.subIn K (.ref (He.ga K "TooManyCalls")) (.type "BaseException") = some true ∧ PySem.W.typeIn K (.ref (He.ga K "TooManyCalls")) = some (.type "type") := He.exc_ok (x := "TooManyCalls") (T.y.d.fact 104 rfl)
theorem Tx.o_TooManyCalls (T : Tx w K mg) : PySem.W.exmOne K (.ref (He.ga K "TooManyCalls")) (.ref (He.ga K "OnceError")) = some true := He.exm_ok (x := "TooManyCalls") (y := "OnceError") (T.y.d.fact 105 rfl)
theorem Tx.x_TooManyServices (T : Tx w K mg) : PySem.W.excIn K (He.ga K "TooManyServices") He.veBase "ValueError.__new__" = true ∧ PySem.W.keepIn K (.ref (He.ga K "TooManyServices")) = true ∧ PySem.W.subIn K (.ref (He.ga K "TooManyServices")) (.type "BaseException") = some true ∧ PySem.W.typeIn K (.ref (He.ga K "TooManyServices")) = some (.type "type") := He.exc_ok (x := "TooManyServices") (T.y.d.fact 106 rfl)
theorem Tx.o_TooManyServices (T : Tx w K mg) : PySem.W.exmOne K (.ref (He.ga K "TooManyServices")) (.ref (He.ga K "OnceError")) = some true := He.exm_ok (x := "TooManyServices") (y := "OnceError") (T.y.d.fact 107 rfl)
theorem Tx.x_ServiceInUse (T : Tx w K mg) : PySem.W.excIn K (He.ga K "ServiceInUse") He.veBase "ValueError.__new__" = true ∧ PySem.W.keepIn K (.ref (He.ga K "ServiceInUse")) = true ∧ PySem.W.subIn K (.ref (He.ga K "ServiceInUse")) (.type "BaseException") = some true ∧ PySem.W.typeIn K (.ref (He.ga K "ServiceInUse")) = some (.type "type") := He.exc_ok (x := "ServiceInUse") (T.y.d.fact 108 rfl)
theorem Tx.o_ServiceInUse (T : Tx w K mg) : PySem.W.exmOne K (.ref (He.ga K "ServiceInUse")) (.ref (He.ga K "OnceError")) = some true := He.exm_ok (x := "ServiceInUse") (y := "OnceError") (T.y.d.fact 109 rfl)
theorem Tx.f_check_name (T : Tx w K mg) : ∃ fd, FunD K "check_name" "check_name" (defArgs s_check_name) (defBody s_check_name) (defScope s_check_name) [] [] (He.ga K "check_name") fd := T.y.d.def_ 0 (d := d_check_name) rfl
theorem Tx.f_check_operations (T : Tx w K mg) : ∃ fd, FunD K "check_operations" "check_operations" (defArgs s_check_operations) (defBody s_check_operations) (defScope s_check_operations) [] [] (He.ga K "check_operations") fd := T.y.d.def_ 1 (d := d_check_operations) rfl
theorem Tx.f_is_integer (T : Tx w K mg) : ∃ fd, FunD K "is_integer" "is_integer" (defArgs s_is_integer) (defBody s_is_integer) (defScope s_is_integer) [] [] (He.ga K "is_integer") fd := T.y.d.def_ 2 (d := d_is_integer) rfl
theorem Tx.f_are_offsets (T : Tx w K mg) : ∃ fd, FunD K "are_offsets" "are_offsets" (defArgs s_are_offsets) (defBody s_are_offsets) (defScope s_are_offsets) [] [] (He.ga K "are_offsets") fd := T.y.d.def_ 3 (d := d_are_offsets) rfl
theorem Tx.f_is_call (T : Tx w K mg) : ∃ fd, FunD K "is_call" "is_call" (defArgs s_is_call) (defBody s_is_call) (defScope s_is_call) [] [] (He.ga K "is_call") fd := T.y.d.def_ 4 (d := d_is_call) rfl
theorem Tx.f_check_system (T : Tx w K mg) : ∃ fd, FunD K "check_system" "check_system" (defArgs s_check_system) (defBody s_check_system) (defScope s_check_system) [] [] (He.ga K "check_system") fd := T.y.d.def_ 5 (d := d_check_system) rfl
theorem Tx.f_reached (T : Tx w K mg) : ∃ fd, FunD K "reached" "reached" (defArgs s_reached) (defBody s_reached) (defScope s_reached) [] [] (He.ga K "reached") fd := T.y.d.def_ 6 (d := d_reached) rfl
theorem Tx.f_calls_into (T : Tx w K mg) : ∃ fd, FunD K "calls_into" "calls_into" (defArgs s_calls_into) (defBody s_calls_into) (defScope s_calls_into) [] [] (He.ga K "calls_into") fd := T.y.d.def_ 7 (d := d_calls_into) rfl
theorem Tx.f_message_pairs (T : Tx w K mg) : ∃ fd, FunD K "message_pairs" "message_pairs" (defArgs s_message_pairs) (defBody s_message_pairs) (defScope s_message_pairs) [] [] (He.ga K "message_pairs") fd := T.y.d.def_ 8 (d := d_message_pairs) rfl
theorem Tx.f_widest_pair (T : Tx w K mg) : ∃ fd, FunD K "widest_pair" "widest_pair" (defArgs s_widest_pair) (defBody s_widest_pair) (defScope s_widest_pair) [] [] (He.ga K "widest_pair") fd := T.y.d.def_ 9 (d := d_widest_pair) rfl
theorem Tx.f_find_least_windows (T : Tx w K mg) : ∃ fd, FunD K "find_least_windows" "find_least_windows" (defArgs s_find_least_windows) (defBody s_find_least_windows) (defScope s_find_least_windows) [] [] (He.ga K "find_least_windows") fd := T.y.d.def_ 10 (d := d_find_least_windows) rfl
theorem Tx.f_least_windows (T : Tx w K mg) : ∃ fd, FunD K "least_windows" "least_windows" (defArgs s_least_windows) (defBody s_least_windows) (defScope s_least_windows) [] [] (He.ga K "least_windows") fd := T.y.d.def_ 11 (d := d_least_windows) rfl
theorem Tx.f_renumbered (T : Tx w K mg) : ∃ fd, FunD K "renumbered" "renumbered" (defArgs s_renumbered) (defBody s_renumbered) (defScope s_renumbered) [] [] (He.ga K "renumbered") fd := T.y.d.def_ 12 (d := d_renumbered) rfl
theorem Tx.f__law_taken (T : Tx w K mg) : ∃ fd, FunD K "_law_taken" "_law_taken" (defArgs s__law_taken) (defBody s__law_taken) (defScope s__law_taken) [] [] (He.ga K "_law_taken") fd := T.y.d.def_ 13 (d := d__law_taken) rfl
theorem Tx.f__law_system (T : Tx w K mg) : ∃ fd, FunD K "_law_system" "_law_system" (defArgs s__law_system) (defBody s__law_system) (defScope s__law_system) [] [] (He.ga K "_law_system") fd := T.y.d.def_ 14 (d := d__law_system) rfl
theorem Tx.f__law_raised (T : Tx w K mg) : ∃ fd, FunD K "_law_raised" "_law_raised" (defArgs s__law_raised) (defBody s__law_raised) (defScope s__law_raised) [] [] (He.ga K "_law_raised") fd := T.y.d.def_ 15 (d := d__law_raised) rfl
theorem Tx.f__law_call (T : Tx w K mg) : ∃ fd, FunD K "_law_call" "_law_call" (defArgs s__law_call) (defBody s__law_call) (defScope s__law_call) [] [] (He.ga K "_law_call") fd := T.y.d.def_ 16 (d := d__law_call) rfl
theorem Tx.f__law_deed (T : Tx w K mg) : ∃ fd, FunD K "_law_deed" "_law_deed" (defArgs s__law_deed) (defBody s__law_deed) (defScope s__law_deed) [] [] (He.ga K "_law_deed") fd := T.y.d.def_ 17 (d := d__law_deed) rfl
theorem Tx.f__law_gone (T : Tx w K mg) : ∃ fd, FunD K "_law_gone" "_law_gone" (defArgs s__law_gone) (defBody s__law_gone) (defScope s__law_gone) [] [] (He.ga K "_law_gone") fd := T.y.d.def_ 18 (d := d__law_gone) rfl
theorem Tx.f__law_does (T : Tx w K mg) : ∃ fd, FunD K "_law_does" "_law_does" (defArgs s__law_does) (defBody s__law_does) (defScope s__law_does) [] [] (He.ga K "_law_does") fd := T.y.d.def_ 19 (d := d__law_does) rfl
theorem Tx.f__law_asked (T : Tx w K mg) : ∃ fd, FunD K "_law_asked" "_law_asked" (defArgs s__law_asked) (defBody s__law_asked) (defScope s__law_asked) [] [] (He.ga K "_law_asked") fd := T.y.d.def_ 20 (d := d__law_asked) rfl
theorem Tx.f__law_is_again (T : Tx w K mg) : ∃ fd, FunD K "_law_is_again" "_law_is_again" (defArgs s__law_is_again) (defBody s__law_is_again) (defScope s__law_is_again) [] [] (He.ga K "_law_is_again") fd := T.y.d.def_ 21 (d := d__law_is_again) rfl
theorem Tx.f_law (T : Tx w K mg) : ∃ fd, FunD K "law" "law" (defArgs s_law) (defBody s_law) (defScope s_law) [] [] (He.ga K "law") fd := T.y.d.def_ 22 (d := d_law) rfl
theorem Tx.f_Recorder___init__ (T : Tx w K mg) : ∃ fd, FunD K "__init__" "Recorder.__init__" (defArgs s_Recorder___init__) (defBody s_Recorder___init__) (defScope s_Recorder___init__) [] [] (He.ma K (He.ga K "Recorder") "__init__") fd := T.y.d.def_ 23 (d := d_Recorder___init__) rfl
theorem Tx.f_Recorder_enter (T : Tx w K mg) : ∃ fd, FunD K "enter" "Recorder.enter" (defArgs s_Recorder_enter) (defBody s_Recorder_enter) (defScope s_Recorder_enter) [] [] (He.ma K (He.ga K "Editor") "enter") fd := T.y.d.def_ 24 (d := d_Recorder_enter) rfl
theorem Tx.f_Recorder_undo (T : Tx w K mg) : ∃ fd, FunD K "undo" "Recorder.undo" (defArgs s_Recorder_undo) (defBody s_Recorder_undo) (defScope s_Recorder_undo) [] [] (He.ma K (He.ga K "Editor") "undo") fd := T.y.d.def_ 25 (d := d_Recorder_undo) rfl
theorem Tx.f_Recorder_redo (T : Tx w K mg) : ∃ fd, FunD K "redo" "Recorder.redo" (defArgs s_Recorder_redo) (defBody s_Recorder_redo) (defScope s_Recorder_redo) [] [] (He.ma K (He.ga K "Editor") "redo") fd := T.y.d.def_ 26 (d := d_Recorder_redo) rfl
theorem Tx.f_Recorder_history (T : Tx w K mg) : ∃ fd, FunD K "history" "Recorder.history" (defArgs s_Recorder_history) (defBody s_Recorder_history) (defScope s_Recorder_history) [] [] (He.ma K (He.ga K "Editor") "history") fd := T.y.d.def_ 27 (d := d_Recorder_history) rfl
theorem Tx.f_Recorder_save (T : Tx w K mg) : ∃ fd, FunD K "save" "Recorder.save" (defArgs s_Recorder_save) (defBody s_Recorder_save) (defScope s_Recorder_save) [] [] (He.ma K (He.ga K "Editor") "save") fd := T.y.d.def_ 28 (d := d_Recorder_save) rfl
theorem Tx.f_Recorder_restore (T : Tx w K mg) : ∃ fd, FunD K "restore" "Recorder.restore" (defArgs s_Recorder_restore) (defBody s_Recorder_restore) (defScope s_Recorder_restore) [] [] (He.ma K (He.ga K "Editor") "restore") fd := T.y.d.def_ 29 (d := d_Recorder_restore) rfl
theorem Tx.f_Recorder_checkpoints (T : Tx w K mg) : ∃ fd, FunD K "checkpoints" "Recorder.checkpoints" (defArgs s_Recorder_checkpoints) (defBody s_Recorder_checkpoints) (defScope s_Recorder_checkpoints) [] [] (He.ma K (He.ga K "Editor") "checkpoints") fd := T.y.d.def_ 30 (d := d_Recorder_checkpoints) rfl
theorem Tx.f_Recorder_apply_all (T : Tx w K mg) : ∃ fd, FunD K "apply_all" "Recorder.apply_all" (defArgs s_Recorder_apply_all) (defBody s_Recorder_apply_all) (defScope s_Recorder_apply_all) [] [] (He.ma K (He.ga K "Editor") "apply_all") fd := T.y.d.def_ 31 (d := d_Recorder_apply_all) rfl
theorem Tx.f_Editor___init__ (T : Tx w K mg) : ∃ fd, FunD K "__init__" "Editor.__init__" (defArgs s_Editor___init__) (defBody s_Editor___init__) (defScope s_Editor___init__) [] [] (He.ma K (He.ga K "Editor") "__init__") fd := T.y.d.def_ 32 (d := d_Editor___init__) rfl
theorem Tx.f_Editor_sizes (T : Tx w K mg) : ∃ fd, FunD K "sizes" "Editor.sizes" (defArgs s_Editor_sizes) (defBody s_Editor_sizes) (defScope s_Editor_sizes) [] [] (He.ma K (He.ga K "Editor") "sizes") fd := T.y.d.def_ 33 (d := d_Editor_sizes) rfl
theorem Tx.f_Editor_call_at (T : Tx w K mg) : ∃ fd, FunD K "call_at" "Editor.call_at" (defArgs s_Editor_call_at) (defBody s_Editor_call_at) (defScope s_Editor_call_at) [] [] (He.ma K (He.ga K "Editor") "call_at") fd := T.y.d.def_ 34 (d := d_Editor_call_at) rfl
theorem Tx.f_Editor_add_call (T : Tx w K mg) : ∃ fd, FunD K "add_call" "Editor.add_call" (defArgs s_Editor_add_call) (defBody s_Editor_add_call) (defScope s_Editor_add_call) [] [] (He.ma K (He.ga K "Editor") "add_call") fd := T.y.d.def_ 35 (d := d_Editor_add_call) rfl
theorem Tx.f_Editor_remove_call (T : Tx w K mg) : ∃ fd, FunD K "remove_call" "Editor.remove_call" (defArgs s_Editor_remove_call) (defBody s_Editor_remove_call) (defScope s_Editor_remove_call) [] [] (He.ma K (He.ga K "Editor") "remove_call") fd := T.y.d.def_ 36 (d := d_Editor_remove_call) rfl
theorem Tx.f_Editor_replace (T : Tx w K mg) : ∃ fd, FunD K "replace" "Editor.replace" (defArgs s_Editor_replace) (defBody s_Editor_replace) (defScope s_Editor_replace) [] [] (He.ma K (He.ga K "Editor") "replace") fd := T.y.d.def_ 37 (d := d_Editor_replace) rfl
theorem Tx.f_Editor_set_offsets (T : Tx w K mg) : ∃ fd, FunD K "set_offsets" "Editor.set_offsets" (defArgs s_Editor_set_offsets) (defBody s_Editor_set_offsets) (defScope s_Editor_set_offsets) [] [] (He.ma K (He.ga K "Editor") "set_offsets") fd := T.y.d.def_ 38 (d := d_Editor_set_offsets) rfl
theorem Tx.f_Editor_set_delays (T : Tx w K mg) : ∃ fd, FunD K "set_delays" "Editor.set_delays" (defArgs s_Editor_set_delays) (defBody s_Editor_set_delays) (defScope s_Editor_set_delays) [] [] (He.ma K (He.ga K "Editor") "set_delays") fd := T.y.d.def_ 39 (d := d_Editor_set_delays) rfl
theorem Tx.f_Editor_add_service (T : Tx w K mg) : ∃ fd, FunD K "add_service" "Editor.add_service" (defArgs s_Editor_add_service) (defBody s_Editor_add_service) (defScope s_Editor_add_service) [] [] (He.ma K (He.ga K "Editor") "add_service") fd := T.y.d.def_ 40 (d := d_Editor_add_service) rfl
theorem Tx.f_Editor_remove_service (T : Tx w K mg) : ∃ fd, FunD K "remove_service" "Editor.remove_service" (defArgs s_Editor_remove_service) (defBody s_Editor_remove_service) (defScope s_Editor_remove_service) [] [] (He.ma K (He.ga K "Editor") "remove_service") fd := T.y.d.def_ 41 (d := d_Editor_remove_service) rfl
theorem Tx.f_Editor_execute (T : Tx w K mg) : ∃ fd, FunD K "execute" "Editor.execute" (defArgs s_Editor_execute) (defBody s_Editor_execute) (defScope s_Editor_execute) [] [] (He.ma K (He.ga K "Editor") "execute") fd := T.y.d.def_ 42 (d := d_Editor_execute) rfl
theorem Tx.f_Editor_current_system (T : Tx w K mg) : ∃ fd, FunD K "current_system" "Editor.current_system" (defArgs s_Editor_current_system) (defBody s_Editor_current_system) (defScope s_Editor_current_system) [] [] (He.ma K (He.ga K "Editor") "current_system") fd := T.y.d.def_ 43 (d := d_Editor_current_system) rfl
theorem Tx.f_Editor_window_history (T : Tx w K mg) : ∃ fd, FunD K "window_history" "Editor.window_history" (defArgs s_Editor_window_history) (defBody s_Editor_window_history) (defScope s_Editor_window_history) [] [] (He.ma K (He.ga K "Editor") "window_history") fd := T.y.d.def_ 44 (d := d_Editor_window_history) rfl
theorem Tx.f_DifferenceTable___init__ (T : Tx w K mg) : ∃ fd, FunD K "__init__" "DifferenceTable.__init__" (defArgs s_DifferenceTable___init__) (defBody s_DifferenceTable___init__) (defScope s_DifferenceTable___init__) [] [] (He.ma K (He.ga K "DifferenceTable") "__init__") fd := T.y.d.def_ 45 (d := d_DifferenceTable___init__) rfl
theorem Tx.f_DifferenceTable_enter_later (T : Tx w K mg) : ∃ fd, FunD K "enter_later" "DifferenceTable.enter_later" (defArgs s_DifferenceTable_enter_later) (defBody s_DifferenceTable_enter_later) (defScope s_DifferenceTable_enter_later) [] [] (He.ma K (He.ga K "DifferenceTable") "enter_later") fd := T.y.d.def_ 46 (d := d_DifferenceTable_enter_later) rfl
theorem Tx.f_DifferenceTable_enter_earlier (T : Tx w K mg) : ∃ fd, FunD K "enter_earlier" "DifferenceTable.enter_earlier" (defArgs s_DifferenceTable_enter_earlier) (defBody s_DifferenceTable_enter_earlier) (defScope s_DifferenceTable_enter_earlier) [] [] (He.ma K (He.ga K "DifferenceTable") "enter_earlier") fd := T.y.d.def_ 47 (d := d_DifferenceTable_enter_earlier) rfl
theorem Tx.szB_ (T : Tx w K mg) : szB K = true := (Bool.and_eq_true_iff.mp T.more).1
theorem Tx.recB_ (T : Tx w K mg) : recB K = true := (Bool.and_eq_true_iff.mp (Bool.and_eq_true_iff.mp T.more).2).1
theorem Tx.gcls_ (T : Tx w K mg) : gcls K = true := (Bool.and_eq_true_iff.mp (Bool.and_eq_true_iff.mp (Bool.and_eq_true_iff.mp T.more).2).2).1
theorem Tx.last_ (T : Tx w K mg) : ((raisedX.all fun x => excC K x && (isaV K x && isaX.all fun y => isaB K x y)) && tabD K) = true := (Bool.and_eq_true_iff.mp (Bool.and_eq_true_iff.mp (Bool.and_eq_true_iff.mp T.more).2).2).2
theorem Tx.exc_ (T : Tx w K mg) : (raisedX.all fun x => excC K x && (isaV K x && isaX.all fun y => isaB K x y)) = true := (Bool.and_eq_true_iff.mp T.last_).1
theorem Tx.tabs_ (T : Tx w K mg) : (He.cT K ("_law_is_again", none)).2 ≠ (He.cT K ("law", none)).2 := of_decide_eq_true (Bool.and_eq_true_iff.mp T.last_).2
/-- Recorder.__init__ as it is read off the class -/
theorem Tx.rec_ (T : Tx w K mg) : ClX.CRead K (He.ga K "Recorder") (.type "type") ∧ ClX.CVal K (He.ga K "Recorder") (.type "type") "__init__" (.ref (He.ma K (He.ga K "Recorder") "__init__")) (.ref (He.ma K (He.ga K "Recorder") "__init__")) := by
  obtain ⟨h1, h2⟩ := Bool.and_eq_true_iff.mp T.recB_
  obtain ⟨h3, h4⟩ := Bool.and_eq_true_iff.mp h2
  refine ⟨⟨h1, He.eqO_ok h3⟩, ⟨?_, rfl⟩⟩
  split at h4
  · rename_i v e
    rw [e, of_decide_eq_true h4]
  · cases h4
/-- SIZES, in its order -/
theorem Tx.szs_ (T : Tx w K mg) : ∃ es n, KDict K w (He.ga K "SIZES") es n ∧ es.toList.map entV = szI := by
  obtain ⟨es, n, kd⟩ := T.y.tab 0 (t := (fun K => He.ga K "SIZES", ["add_call", "remove_call", "set_offsets", "set_delays", "add_service", "remove_service"])) rfl
  refine ⟨es, n, kd, ?_⟩
  have q := T.szB_
  unfold szB at q
  rw [show K.lookup (He.ga K "SIZES") = _ from kd.at_] at q
  exact of_decide_eq_true q
end
end K68
end
section
set_option Elab.async false
set_option linter.all false
set_option maxRecDepth 100000
set_option maxHeartbeats 2000000
namespace K68
open PySem PySem.Spec PyProof.Rows L2
/-! ### a def that keeps its promise, by its global name; a method, by its class and name -/
structure GF (P : Program) (w : World) (K : PySem.W.Frag) (mg : Str → Option Value) (base : Heap) (CX : CXT) (k : Nat) (x : Str) (ps : List Str) (sp : Sp) : Prop where
  ex : ∃ f fd, mg x = some (.ref f) ∧ PySem.W.keepIn K (.ref f) = true ∧ Binds K fd ps [] ∧ FnOk P w K mg base CX k f fd ps sp
structure GM (P : Program) (w : World) (K : PySem.W.Frag) (mg : Str → Option Value) (base : Heap) (CX : CXT) (k : Nat) (C f : Addr) (ps : List Str) (sp : Sp) : Prop where
  ex : ∃ fd, PySem.W.keepIn K (.ref f) = true ∧ Binds K fd ps [] ∧ FnOk P w K mg base CX k f fd ps sp
section
variable {P : Program} {w : World} {K : PySem.W.Frag} {mg : Str → Option Value} {base : Heap} {x qual : Str} {args : Arguments} {body : List Stmt} {scope : Scope} {f : Addr} {N ps : List Str} {k : Nat} {sp : Sp}
abbrev Bd (K : PySem.W.Frag) (x qual : Str) (args : Arguments) (body : List Stmt) (scope : Scope) (f : Addr) (ps : List Str) : Prop := ∀ fd, FunD K x qual args body scope [] [] f fd → Binds K fd ps []
theorem fk0 {fd : FuncData} (F : FunD K x qual args body scope [] [] f fd) (S : FnScope N ps scope) (len : ∀ vs H Q E, sp vs H Q E → vs.length = ps.length)
    (hbody : ∀ (cdv : Value) (A : Around) (outer : List Env) (s : Shared) (H : Hp) (vs : List V) (Q : VK) (E : XK), Room k (A.deeper (envOfC qual scope s.heap.objs.size f cdv)) → sp vs H Q E →
      ∃ t, PSs (cxOf CX0 P w K mg base N qual scope f cdv A outer s H E).nox body t ∧ t { nx := fun _ H' => Q .non H', rt := Q } (start N vs) H) : FnOk P w K mg base CX0 (k + 1) f fd ps sp :=
  F.ok S len fun cdv A outer s H vs Q E hr h => by
    obtain ⟨t, h1, h2⟩ := hbody cdv A outer s H vs Q E hr h
    exact ⟨t, h1.nox, h2⟩
theorem gf0 (F : ∃ fd, FunD K x qual args body scope [] [] f fd) (hm : mg x = some (.ref f)) (S : FnScope N ps scope) (bn : Bd K x qual args body scope f ps) (len : ∀ vs H Q E, sp vs H Q E → vs.length = ps.length)
    (hbody : ∀ (cdv : Value) (A : Around) (outer : List Env) (s : Shared) (H : Hp) (vs : List V) (Q : VK) (E : XK), Room k (A.deeper (envOfC qual scope s.heap.objs.size f cdv)) → sp vs H Q E →
      ∃ t, PSs (cxOf CX0 P w K mg base N qual scope f cdv A outer s H E).nox body t ∧ t { nx := fun _ H' => Q .non H', rt := Q } (start N vs) H) : GF P w K mg base CX0 (k + 1) x ps sp := by
  obtain ⟨fd, F⟩ := F
  exact ⟨f, fd, hm, F.kp, bn fd F, fk0 F S len hbody⟩
theorem gfX (F : ∃ fd, FunD K x qual args body scope [] [] f fd) (hm : mg x = some (.ref f)) (S : FnScope N ps scope) (bn : Bd K x qual args body scope f ps) (len : ∀ vs H Q E, sp vs H Q E → vs.length = ps.length)
    (hbody : ∀ (cdv : Value) (A : Around) (outer : List Env) (s : Shared) (H : Hp) (vs : List V) (Q : VK) (E : XK), Room k (A.deeper (envOfC qual scope s.heap.objs.size f cdv)) → sp vs H Q E →
      ∃ t, PSs (cxOf (L2N.CX P w) P w K mg base N qual scope f cdv A outer s H E) body t ∧ t { nx := fun _ H' => Q .non H', rt := Q } (start N vs) H) : GF P w K mg base (L2N.CX P w) (k + 1) x ps sp := by
  obtain ⟨fd, F⟩ := F
  exact ⟨f, fd, hm, F.kp, bn fd F, F.ok S len hbody⟩
theorem gm0 {C : Addr} (F : ∃ fd, FunD K x qual args body scope [] [] f fd) (S : FnScope N ps scope) (bn : Bd K x qual args body scope f ps) (len : ∀ vs H Q E, sp vs H Q E → vs.length = ps.length)
    (hbody : ∀ (cdv : Value) (A : Around) (outer : List Env) (s : Shared) (H : Hp) (vs : List V) (Q : VK) (E : XK), Room k (A.deeper (envOfC qual scope s.heap.objs.size f cdv)) → sp vs H Q E →
      ∃ t, PSs (cxOf CX0 P w K mg base N qual scope f cdv A outer s H E).nox body t ∧ t { nx := fun _ H' => Q .non H', rt := Q } (start N vs) H) : GM P w K mg base CX0 (k + 1) C f ps sp := by
  obtain ⟨fd, F⟩ := F
  exact ⟨fd, F.kp, bn fd F, fk0 F S len hbody⟩
theorem gmX {C : Addr} (F : ∃ fd, FunD K x qual args body scope [] [] f fd) (S : FnScope N ps scope) (bn : Bd K x qual args body scope f ps) (len : ∀ vs H Q E, sp vs H Q E → vs.length = ps.length)
    (hbody : ∀ (cdv : Value) (A : Around) (outer : List Env) (s : Shared) (H : Hp) (vs : List V) (Q : VK) (E : XK), Room k (A.deeper (envOfC qual scope s.heap.objs.size f cdv)) → sp vs H Q E →
      ∃ t, PSs (cxOf (L2N.CX P w) P w K mg base N qual scope f cdv A outer s H E) body t ∧ t { nx := fun _ H' => Q .non H', rt := Q } (start N vs) H) : GM P w K mg base (L2N.CX P w) (k + 1) C f ps sp := by
  obtain ⟨fd, F⟩ := F
  exact ⟨fd, F.kp, bn fd F, F.ok S len hbody⟩
end
section
variable {X : Cx} {CX : CXT} {k : Nat} {x m : Str} {C f : Addr} {ps : List Str} {sp : Sp} {E : XK} {p pos apos : Pos} {e o : Expr} {es : List Expr} {t : TA} {ta : TE}
theorem pe_f (G : GF X.prog X.w X.K X.mg X.base CX k x ps sp) (hr : Room k X.A) (hx : Passes CX X E) (ha : PA X (e :: es) t) (hg : Gl X x := by rfl) (hdb : (x == ("__debug__" : Str)) = false := by decide)
    (he : starEach (e :: es) X.env = (false, eval e X.env) :: starEach es X.env := by rfl) (hpl : (backTo pos (starEach es X.env)).any (·.1) = false := by rfl) : PE X (.Call (.Name x p) (e :: es) [] pos) (tCall sp [] E t) := by
  obtain ⟨f, fd, a, b, c, d⟩ := G.ex
  exact pe_call d hr hg a b c .nil hx ha hdb he hpl
theorem pe_m {pl : Sem Bool} (G : GM X.prog X.w X.K X.mg X.base CX k C f ps sp) (hm : Meth X.K C m f) (c : Cls X.K C) (hr : Room k X.A) (hx : Passes CX X E) (he : PE X o ta) (ha : PA X (e :: es) t)
    (hst : starEach (e :: es) X.env = (false, eval e X.env) :: starEach es X.env := by rfl) (hpl : (backTo pos (starEach es X.env)).any (·.1) = false := by rfl)
    (ht : eval (.Call (.Attribute o m apos) (e :: es) [] pos) X.env = (do
      let ov ← eval o X.env
      standAt apos.atName
      let (f, first) ← holding [ov] (getMethod ov m pl)
      callWith pos f first (backTo pos (starEach (e :: es) X.env)) (backToKw pos (keywordEach [] X.env))) := by rfl) :
    PE X (.Call (.Attribute o m apos) (e :: es) [] pos) (tMeth C m sp [] E ta t) := by
  obtain ⟨fd, b, d, g⟩ := G.ex
  exact pe_meth he c hm g hr d .nil hx ha hst hpl ht
theorem pe_m0 {pl : Sem Bool} (G : GM X.prog X.w X.K X.mg X.base CX k C f ps sp) (hm : Meth X.K C m f) (c : Cls X.K C) (hr : Room k X.A) (hx : Passes CX X E) (he : PE X o ta)
    (ht : eval (.Call (.Attribute o m apos) [] [] pos) X.env = (do
      let ov ← eval o X.env
      standAt apos.atName
      let (f, first) ← holding [ov] (getMethod ov m pl)
      callWith pos f first (backTo pos (starEach [] X.env)) (backToKw pos (keywordEach [] X.env))) := by rfl) :
    PE X (.Call (.Attribute o m apos) [] [] pos) (tMeth C m sp [] E ta tNil) := by
  obtain ⟨fd, b, d, g⟩ := G.ex
  exact pe_meth0 he c hm g hr d .nil hx ht
theorem pe_mk (G : GM X.prog X.w X.K X.mg X.base CX k C f ps sp) (M : Mk X.K C f) (hmc : X.mg x = some (.ref C)) (hr : Room (k + 1) X.A) (hx : Passes CX X E) (ha : PA X (e :: es) t) (hg : Gl X x := by rfl) (hdb : (x == ("__debug__" : Str)) = false := by decide)
    (he : starEach (e :: es) X.env = (false, eval e X.env) :: starEach es X.env := by rfl) (hpl : (backTo pos (starEach es X.env)).any (·.1) = false := by rfl) : PE X (.Call (.Name x p) (e :: es) [] pos) (tMake C sp [] E t) := by
  obtain ⟨fd, b, d, g⟩ := G.ex
  exact pe_make M g hr hg hmc d .nil hx ha hdb he hpl
end
/-! ### data: numbers, texts, None, Booleans and tuples of such, that stand in the heap -/
mutual
inductive Td (H : Hp) : V → PyData → Prop
  | non : Td H .non .none
  | bl (b : Bool) : Td H (.bl b) (.bool b)
  | int (i : Int) : Td H (.int i) (.int i)
  | str (x : Str) : Td H (.str x) (.str x)
  | tup {a : Addr} {xs : List V} {ds : List PyData} : H a = some (.tup xs) → TdAll H xs ds → Td H (.ref a) (.tuple ds)
inductive TdAll (H : Hp) : List V → List PyData → Prop
  | nil : TdAll H [] []
  | cons {v : V} {vs : List V} {d : PyData} {ds : List PyData} : Td H v d → TdAll H vs ds → TdAll H (v :: vs) (d :: ds)
end
/-- tuples stand as before -/
def Tle (H H' : Hp) : Prop := ∀ a xs, H a = some (.tup xs) → H' a = some (.tup xs)
theorem _root_.L2.Same.tle {H H' : Hp} (h : Same H H') : Tle H H' := fun a _ e => h a _ e
theorem Tle.trans {H H1 H2 : Hp} (a : Tle H H1) (b : Tle H1 H2) : Tle H H2 := fun c o h => b c o (a c o h)
mutual
theorem Td.mono {H H' : Hp} (t : Tle H H') : ∀ {v : V} {d : PyData}, Td H v d → Td H' v d
  | _, _, .non => .non
  | _, _, .bl b => .bl b
  | _, _, .int i => .int i
  | _, _, .str x => .str x
  | _, _, .tup e h => .tup (t _ _ e) (TdAll.mono t h)
theorem TdAll.mono {H H' : Hp} (t : Tle H H') : ∀ {vs : List V} {ds : List PyData}, TdAll H vs ds → TdAll H' vs ds
  | _, _, .nil => .nil
  | _, _, .cons h g => .cons (Td.mono t h) (TdAll.mono t g)
end
mutual
theorem Td.dp {K : PySem.W.Frag} {H : Hp} : ∀ {v : V} {d : PyData}, Td H v d → Dp K H v d
  | _, _, .non => .non
  | _, _, .bl b => .bl b
  | _, _, .int i => .int i
  | _, _, .str x => .str x
  | _, _, .tup e h => .tup (SqT.of e) (TdAll.dp h)
theorem TdAll.dp {K : PySem.W.Frag} {H : Hp} : ∀ {vs : List V} {ds : List PyData}, TdAll H vs ds → DpAll K H vs ds
  | _, _, .nil => .nil
  | _, _, .cons h g => .cons (Td.dp h) (TdAll.dp g)
end
theorem Td.int_inv {H : Hp} {v : V} {i : Int} (h : Td H v (.int i)) : v = .int i := by cases h; rfl
theorem Td.str_inv {H : Hp} {v : V} {i : Str} (h : Td H v (.str i)) : v = .str i := by cases h; rfl
theorem Td.non_inv {H : Hp} {v : V} (h : Td H v .none) : v = .non := by cases h; rfl
theorem Td.tup_inv {H : Hp} {v : V} {ds : List PyData} (h : Td H v (.tuple ds)) : ∃ a xs, v = .ref a ∧ H a = some (.tup xs) ∧ TdAll H xs ds := by
  cases h with
  | tup e g => exact ⟨_, _, rfl, e, g⟩
theorem TdAll.len {H : Hp} : ∀ {vs : List V} {ds : List PyData}, TdAll H vs ds → vs.length = ds.length
  | _, _, .nil => rfl
  | _, _, .cons _ g => congrArg Nat.succ (TdAll.len g)
theorem TdAll.cons_inv {H : Hp} {vs : List V} {d : PyData} {ds : List PyData} (h : TdAll H vs (d :: ds)) : ∃ v r, vs = v :: r ∧ Td H v d ∧ TdAll H r ds := by
  cases h with
  | cons e g => exact ⟨_, _, rfl, e, g⟩
theorem TdAll.nil_inv {H : Hp} {vs : List V} (h : TdAll H vs []) : vs = [] := by cases h; rfl
theorem TdAll.get {H : Hp} : ∀ {vs : List V} {ds : List PyData} {i : Nat} {v : V}, TdAll H vs ds → vs[i]? = some v → ∃ d, ds[i]? = some d ∧ Td H v d
  | _, _, i, v, .nil, h => by simp at h
  | _, _, 0, v, .cons e g, h => by
    cases Option.some.inj h
    exact ⟨_, rfl, e⟩
  | _, _, i + 1, v, .cons e g, h => TdAll.get (i := i) g h
theorem TdAll.getD {H : Hp} : ∀ {vs : List V} {ds : List PyData} {i : Nat} {d : PyData}, TdAll H vs ds → ds[i]? = some d → ∃ v, vs[i]? = some v ∧ Td H v d
  | _, _, i, v, .nil, h => by simp at h
  | _, _, 0, v, .cons e g, h => by
    cases Option.some.inj h
    exact ⟨_, rfl, e⟩
  | _, _, i + 1, v, .cons e g, h => TdAll.getD (i := i) g h
theorem TdAll.append {H : Hp} : ∀ {vs us : List V} {ds es : List PyData}, TdAll H vs ds → TdAll H us es → TdAll H (vs ++ us) (ds ++ es)
  | _, _, _, _, .nil, h => h
  | _, _, _, _, .cons e g, h => .cons e (TdAll.append g h)
theorem TdAll.take {H : Hp} : ∀ {vs : List V} {ds : List PyData} (n : Nat), TdAll H vs ds → TdAll H (vs.take n) (ds.take n)
  | _, _, 0, _ => by simp; exact .nil
  | _, _, _ + 1, .nil => .nil
  | _, _, n + 1, .cons e g => .cons e (TdAll.take n g)
theorem TdAll.drop {H : Hp} : ∀ {vs : List V} {ds : List PyData} (n : Nat), TdAll H vs ds → TdAll H (vs.drop n) (ds.drop n)
  | _, _, 0, h => by simpa using h
  | _, _, _ + 1, .nil => .nil
  | _, _, n + 1, .cons e g => TdAll.drop n g
theorem TdAll.ints {H : Hp} : ∀ {vs : List V} {ns : List Int}, TdAll H vs (ns.map PyData.int) → vs = ns.map V.int
  | _, [], h => h.nil_inv
  | _, n :: ns, h => by
    obtain ⟨v, r, rfl, e, g⟩ := TdAll.cons_inv h
    rw [e.int_inv, TdAll.ints g]
    rfl
theorem TdAll.of_ints {H : Hp} : ∀ (ns : List Int), TdAll H (ns.map V.int) (ns.map PyData.int)
  | [] => .nil
  | n :: ns => .cons (.int n) (TdAll.of_ints ns)
/-! ### the mirror: calls, systems -/
structure Cl where
  c : Int
  t : Int
  o : List Int
  l : Int
  m : Int
deriving DecidableEq
structure Sys where
  n : Int
  cs : List Cl
deriving DecidableEq
def intsD (ns : List Int) : PyData := .tuple (ns.map .int)
def clD (x : Cl) : PyData := .tuple [.int x.c, .int x.t, intsD x.o, .int x.l, .int x.m]
def clsD (cs : List Cl) : PyData := .tuple (cs.map clD)
def syD (s : Sys) : PyData := .tuple [.int s.n, clsD s.cs]
theorem Td.ints_inv {H : Hp} {v : V} {ns : List Int} (h : Td H v (intsD ns)) : ∃ a, v = .ref a ∧ H a = some (.tup (ns.map .int)) := by
  obtain ⟨a, xs, rfl, e, g⟩ := Td.tup_inv h
  rw [TdAll.ints g] at e
  exact ⟨a, rfl, e⟩
theorem Td.cl_inv {H : Hp} {v : V} {x : Cl} (h : Td H v (clD x)) : ∃ a o, v = .ref a ∧ H a = some (.tup [.int x.c, .int x.t, .ref o, .int x.l, .int x.m]) ∧ H o = some (.tup (x.o.map .int)) := by
  obtain ⟨a, xs, rfl, e, g⟩ := Td.tup_inv h
  obtain ⟨v1, r1, rfl, e1, g1⟩ := TdAll.cons_inv g
  obtain ⟨v2, r2, rfl, e2, g2⟩ := TdAll.cons_inv g1
  obtain ⟨v3, r3, rfl, e3, g3⟩ := TdAll.cons_inv g2
  obtain ⟨v4, r4, rfl, e4, g4⟩ := TdAll.cons_inv g3
  obtain ⟨v5, r5, rfl, e5, g5⟩ := TdAll.cons_inv g4
  obtain rfl := TdAll.nil_inv g5
  obtain ⟨o, rfl, eo⟩ := e3.ints_inv
  rw [e1.int_inv, e2.int_inv, e4.int_inv, e5.int_inv] at e
  exact ⟨a, o, rfl, e, eo⟩
theorem Td.sy_inv {H : Hp} {v : V} {s : Sys} (h : Td H v (syD s)) : ∃ a b vs, v = .ref a ∧ H a = some (.tup [.int s.n, .ref b]) ∧ H b = some (.tup vs) ∧ TdAll H vs (s.cs.map clD) := by
  obtain ⟨a, xs, rfl, e, g⟩ := Td.tup_inv h
  obtain ⟨v1, r1, rfl, e1, g1⟩ := TdAll.cons_inv g
  obtain ⟨v2, r2, rfl, e2, g2⟩ := TdAll.cons_inv g1
  obtain rfl := TdAll.nil_inv g2
  obtain ⟨b, vs, rfl, eo, g3⟩ := Td.tup_inv e2
  rw [e1.int_inv] at e
  exact ⟨a, b, vs, rfl, e, eo, g3⟩
theorem Td.cl_mk {H : Hp} {a o : Addr} {x : Cl} (e : H a = some (.tup [.int x.c, .int x.t, .ref o, .int x.l, .int x.m])) (eo : H o = some (.tup (x.o.map .int))) : Td H (.ref a) (clD x) :=
  .tup e (.cons (.int _) (.cons (.int _) (.cons (.tup eo (TdAll.of_ints _)) (.cons (.int _) (.cons (.int _) .nil)))))
theorem Td.sy_mk {H : Hp} {a b : Addr} {vs : List V} {s : Sys} (e : H a = some (.tup [.int s.n, .ref b])) (eb : H b = some (.tup vs)) (g : TdAll H vs (s.cs.map clD)) : Td H (.ref a) (syD s) :=
  .tup e (.cons (.int _) (.cons (.tup eb g) .nil))
/-! ### isinstance, by the values' kinds; a module's numbers -/
def IsV (K : PySem.W.Frag) (H : Hp) (x : V) (n : String) (b : Bool) : Prop := ∃ t, TyX K H x t ∧ PySem.W.kitOne K t (.type n) = some b
section
variable {K : PySem.W.Frag} {H : Hp}
theorem is_ii {i : Int} : IsV K H (.int i) "int" true := ⟨_, .base (.int i), kit_ty (by decide +kernel)⟩
theorem is_ib {i : Int} : IsV K H (.int i) "bool" false := ⟨_, .base (.int i), kit_ty (by decide +kernel)⟩
theorem is_tt {a : Addr} {xs : List V} (e : H a = some (.tup xs)) : IsV K H (.ref a) "tuple" true := ⟨_, .base (.tup e), kit_ty (by decide +kernel)⟩
theorem is_ll {a : Addr} {xs : List V} (e : H a = some (.lst xs)) : IsV K H (.ref a) "list" true := ⟨_, .base (.lst e), kit_ty (by decide +kernel)⟩
theorem is_ss {z : Str} : IsV K H (.str z) "str" true := ⟨_, .base (.str z), kit_ty (by decide +kernel)⟩
end
/-- a reading that may be weakened behind it -/
def tWk (te : TE) : TE := fun σ H Q => ∃ R : VK, te σ H R ∧ ∀ x H1, R x H1 → Q x H1
theorem PE.wk {X : Cx} {e : Expr} {te : TE} (he : PE X e te) : PE X e (tWk te) := ⟨fun pins s σ H Q I h => by
  obtain ⟨R, h1, h2⟩ := h
  exact thn (he.run pins s σ H R I h1) fun u s1 ⟨x, H1, I1, r, q⟩ => ⟨x, H1, I1, r, h2 x H1 q⟩⟩
def tIs (K : PySem.W.Frag) (n : String) (te : TE) : TE := fun σ H Q => te σ H fun x H1 => ∃ b, IsV K H1 x n b ∧ Q (.bl b) H1
theorem pe_is {X : Cx} {e : Expr} {te : TE} {p p2 pos : Pos} {x : Str} (n : String) (he : PE X e te) (h1 : X.mg "isinstance" = none) (h2 : X.mg x = none) (hv : bootBuiltins x = some (.type n)) (hg : Gl X "isinstance" := by rfl) (hg2 : Gl X x := by rfl)
    (hn : x ≠ "__name__" := by decide) (hd : (x == ("__debug__" : Str)) = false := by decide)
    (hse : starEach [e, .Name x p2] X.env = (false, eval e X.env) :: starEach [.Name x p2] X.env := by rfl) (hpl : (backTo pos (starEach [.Name x p2] X.env)).any (·.1) = false := by rfl) (hse2 : starEach [.Name x p2] X.env = (false, eval (.Name x p2) X.env) :: starEach [] X.env := by rfl)  :
    PE X (.Call (.Name "isinstance" p) [e, .Name x p2] [] pos) (tIs X.K n te) := by
  have q := pe_callB (p := p) (pos := pos) call_isi hg h1 boot_isinstance (pa_cons (PE.wk he) (pa_cons (pe_bltn (v := .ty n) (pos := p2) hg2 h2 hv rfl hn hd) pa_nil hse2) hse) (by decide) (by decide) hse hpl
  refine ⟨fun pins s σ H Q I h => q.run pins s σ H Q I ?_⟩
  refine ⟨_, h, fun x H1 q => ?_⟩
  obtain ⟨b, ⟨t, h1, h2⟩, q⟩ := q
  exact ⟨x, _, t, _, b, rfl, .ty n, h1, h2, q⟩
theorem pe_gi {X : Cx} {x : Str} {i : Int} {pos : Pos} (hm : ∃ t, X.mg x = some (.int i t)) (hg : Gl X x := by rfl) (hd : (x == ("__debug__" : Str)) = false := by decide) : PE X (.Name x pos) (tC (.int i)) := by
  obtain ⟨t, e⟩ := hm
  exact pe_glob hg e ⟨t, rfl⟩ hd
theorem upd_ne' {H : Hp} {a b : Addr} {o : HO} (hb : H b = none) {x : HO} (ha : H a = some x) : upd H b o a = some x := by rw [upd_ne (ne_of_none ha hb)]; exact ha
theorem _root_.L2.Same.new {H : Hp} {p : Addr} {o : HO} (h : H p = none) : Same H (upd H p o) := fun b x e => upd_ne' h e
end K68
end
section
set_option Elab.async false
set_option linter.all false
set_option maxRecDepth 100000
set_option maxHeartbeats 2000000
namespace K68
open PySem PySem.Spec PyProof.Rows L2
/-! ### try / finally where the error's context is known to be None -/
theorem no_frame {l : List Env} {B h : Heap} (k : h.FunFrames B l) {b : Addr} {q : Obj} {w : Array Value} (e : h.get? b = some q) (d : q.data = .fields w) : b ∉ frs l := by
  intro m
  obtain ⟨_, q', e', n⟩ := k.mem m
  cases e.symm.trans e'
  exact n w d
/-- a record of fields that stands outside of what is tracked, as a pin of X's suite -/
theorem pin_of {X : Cx} {B h : Heap} {H : Hp} (hf : X.env.frame = some X.env.locals) (k : h.FunFrames B (X.env :: X.outer)) {b : Addr} {q : Obj} {w : Array Value} (e : h.get? b = some q) (d : q.data = .fields w) (n : H b = none) :
    h.get? b = some q ∧ H b = none ∧ b ≠ X.env.locals ∧ b ∉ X.fs ∧ ∀ v, q.data ≠ .cell v := by
  have nf := no_frame k e d
  refine ⟨e, n, fun z => nf (z ▸ List.mem_filterMap.mpr ⟨X.env, List.mem_cons_self, hf⟩), fun z => nf ?_, fun v z => by rw [d] at z; cases z⟩
  obtain ⟨r, r1, r2⟩ := List.mem_filterMap.mp z
  exact List.mem_filterMap.mpr ⟨r, List.mem_cons_of_mem _ r1, r2⟩
section
variable {X : Cx} {f0 : Stmt} {fs : List Stmt} {tfs : TS} {Wo : WX} {pins : List (Addr × Obj)} {D : Ends}
/-- behind the suite: the error goes on -/
theorem pass_on {a T : Addr} {oe oT : Obj} {vs ts : Array Value} {cls : Value} {d : Option Addr} {σ σ6 : L2.St} {H H6 : Hp} {sI s6 : Shared} {B h3 : Heap} (hs : X.stack = X.env :: X.outer) (hf : X.env.frame = some X.env.locals) (hex : X.ex = []) (ok : X.Ok) (tk : L2N.Takes X Wo)
    (J : Inv X pins σ H sI) (nb : ∀ b o, sI.heap.get? b = some o → b ∉ frs X.stack → B.get? b = some o) (k2 : B.get? a = none) (kT : B.get? T = none) (fa : a ∉ frs (X.env :: X.outer)) (fT : T ∉ frs (X.env :: X.outer))
    (hz : L2N.Zn cls d oe) (hd : oe.data = .fields vs) (h1 : vs[1]? = some (.ref T)) (hTe : T ≠ a) (hdT : oT.data = .fields ts) (h3t : ts[3]? = some .none)
    (S : Inv (X.suite a ((a, oe) :: (T, oT) :: (X.pn ++ pins))) [] σ6 H6 s6) (q6 : Wo cls d σ6 H6) : wpAny (model X.prog X.w) X.A (PySem.passOn "try.finally" (.ref a) X.env) (SP X pins D) X.xe s6 := by
  have J6 : Inv X pins σ6 H6 s6 := ⟨ok, S.os, S.bare, S.base, S.loc, S.cell, S.free, S.freeC, fun z m => S.pin z (List.mem_append_left _ (List.mem_cons_of_mem _ (List.mem_cons_of_mem _ m))), S.hok, S.len⟩
  obtain ⟨ga, na, _⟩ := S.pin (a, oe) (List.mem_append_left _ List.mem_cons_self)
  obtain ⟨gT, nT, _⟩ := S.pin (T, oT) (List.mem_append_left _ (List.mem_cons_of_mem _ List.mem_cons_self))
  have apart : ∀ b o, sI.heap.get? b = some o → b ≠ a ∧ b ≠ T := fun b o e => by
    by_cases m : b ∈ frs X.stack
    · rw [hs] at m
      exact ⟨fun z => fa (z ▸ m), fun z => fT (z ▸ m)⟩
    · have q := nb b o e m
      exact ⟨fun z => absurd (z ▸ q) (by rw [k2]; intro w; cases w), fun z => absurd (z ▸ q) (by rw [kT]; intro w; cases w)⟩
  obtain ⟨G, g1, g2⟩ := restrict s6.heap fun b => decide (b ≠ a ∧ b ≠ T)
  have inn : ∀ {b o}, G.get? b = some o → s6.heap.get? b = some o ∧ b ≠ a ∧ b ≠ T := fun {b o} e => by
    by_cases c : b ≠ a ∧ b ≠ T
    · rw [g1 b (decide_eq_true c)] at e
      exact ⟨e, c⟩
    · rw [g2 b (decide_eq_false c)] at e
      cases e
  have I6 : Inv X pins σ6 H6 { s6 with heap := G } := J6.less (fun b o e => (inn e).1) (fun b o c1 c2 e => (g1 b (decide_eq_true ⟨c1, c2⟩)).trans e) ⟨oe, vs, ga, hd⟩ ⟨oT, ts, gT, hdT⟩ na nT
    (fun b o e => by
      obtain ⟨o', q⟩ := J.base.there b o e (by rw [hex]; simp)
      exact apart b o' q) (fun z m => apart z.1 z.2 (J.pin z m).1)
  have off : ∀ b, b = a ∨ b = T → (PySem.W.hideAll G (frs X.stack)).get? b = none := fun b c => by
    cases q : (PySem.W.hideAll G (frs X.stack)).get? b with
    | none => rfl
    | some o =>
      obtain ⟨_, n1, n2⟩ := inn (PySem.W.of_hideAll _ q)
      exact (c.elim n1 n2).elim
  have fly : HandSPX.FlyingZ (PySem.W.hideAll G (frs X.stack)) (X.env :: X.outer) a (L2N.Zn cls d) s6.heap := by
    refine ⟨fun b o e => (inn (PySem.W.of_hideAll _ e)).1, off a (.inl rfl), ?_, oe, vs, T, oT, ts, ga, hz, hd, h1, off T (.inr rfl), hTe, gT, hdT, h3t⟩
    have q := funFrames_none (B := PySem.W.hideAll G (frs X.stack)) J6.stack fun b m => PySem.W.hideAll_none _ m
    rw [← hs]
    exact q
  have up : ∀ h7, HandSPX.HeldZ (PySem.W.hideAll G (frs X.stack)) (X.env :: X.outer) a (L2N.Zn cls d) X.env.locals h7 → s6.heap.UpToSlots h7 → X.xe (.ref a) { s6 with heap := h7 } := fun h7 hh u7 =>
    tk _ _ ⟨a, PySem.W.hideAll G (frs X.stack), { s6 with heap := G }, pins, σ6, H6, cls, d, rfl, I6, fun b o e m => PySem.W.hideAll_get _ e m, (Heap.UpToSlots.of_keeps fun b o e => (inn e).1).trans u7, .inr (.inr (hs ▸ hh)), na, rfl, J6.bare, q6⟩
  unfold PySem.passOn
  refine wpAny_bind (wpAny_field ga hd h1 ?_)
  rw [if_neg (by simp)]
  have fin : wpAny (model X.prog X.w) X.A (setFlight (.ref a) X.env.frame) (fun _ s7 => wpAny (model X.prog X.w) X.A (throw (.ref a) : Sem Flow) (SP X pins D) X.xe s7) X.xe s6 := by
    rw [hf]
    exact HandSPX.setFlight_upZ fly fun h7 hh u7 => wpAny_throw (up h7 hh u7)
  first
    | exact wpAny_bind fin
    | exact wpAny_bind (wpAny_pure (wpAny_bind fin))
theorem ctx_none {cls : Value} {d : Option Addr} {oe : Obj} {vs : Array Value} (z : L2N.Zn cls d oe) (hd : oe.data = .fields vs) : vs[2]? = some .none := z.2.2 vs hd
/-- the suite with the error in flight -/
theorem in_suite {a : Addr} {cls : Value} {d : Option Addr} {σ : L2.St} {H : Hp} {sI t : Shared} {B h1 : Heap} (hs : X.stack = X.env :: X.outer) (hf : X.env.frame = some X.env.locals) (hex : X.ex = []) (ok : X.Ok) (tk : L2N.Takes X Wo)
    (hsu : ∀ (a : Addr) (oe : Obj) (pn : List (Addr × Obj)), (∃ vs : Array Value, oe.data = .fields vs ∧ vs[2]? = some .none) → PSs (X.suite a ((a, oe) :: pn)) (f0 :: fs) tfs)
    (J : Inv X pins σ H sI) (nb : ∀ b o, sI.heap.get? b = some o → b ∉ frs X.stack → B.get? b = some o) (na : H a = none) (os : t.os = sI.os) (ag : AllBare t.gens) (hw : wFin tfs Wo cls d σ H)
    (hh : HandSPX.HeldZ B (X.env :: X.outer) a (L2N.Zn cls d) X.env.locals h1) (u1 : sI.heap.UpToSlots h1) : FinallyRaised X.prog X.w X.A X.xe X.env (f0 :: fs) (SP X pins D) (.ref a) { t with heap := h1 } := by
  refine ⟨ref_ne_byPass a, HandSPX.againZ hf hh.2.2.2 (HandSPX.landsZ hh fun h3 fl u3 => ?_)⟩
  have J3 : Inv X pins σ H { t with heap := h3 } := J.landed nb fl.1 (u1.trans u3) os ag
  obtain ⟨_, k2, kF, oe, vs, T, oT, ts, ea, hz, hd, v1, kT, hTe, eT, hdT, t3⟩ := id fl
  have nT : H T = none := (J.inGround nb).gone kT
  have S : Inv (X.suite a ((a, oe) :: (T, oT) :: (X.pn ++ pins))) [] σ H { t with heap := h3 } := by
    refine ⟨J3.ok.suite _ _, J3.os, J3.bare, J3.base, J3.loc, J3.cell, J3.free, J3.freeC, fun z m => ?_, J3.hok, J3.len⟩
    rw [List.append_nil] at m
    rcases List.mem_cons.mp m with q | m
    · subst q
      exact pin_of (q := oe) hf kF ea hd na
    rcases List.mem_cons.mp m with q | m
    · subst q
      exact pin_of (q := oT) hf kF eT hdT nT
    · exact J3.pin z m
  refine wpAny_mono ((hsu a oe ((T, oT) :: (X.pn ++ pins)) ⟨vs, hd, ctx_none hz hd⟩).run [] { t with heap := h3 } σ H { nx := fun σ2 H2 => Wo cls d σ2 H2, rt := fun _ _ => False } S hw) (fun g s6 r => ?_) fun _ _ z => z.elim
  cases g with
  | next =>
    obtain ⟨σ6, H6, S6, q6⟩ := r
    exact pass_on (h3 := h3) hs hf hex ok tk J nb k2 kT (no_frame kF ea hd) (no_frame kF eT hdT) hz hd v1 hTe hdT t3 S6 q6
  | ret v =>
    obtain ⟨_, _, _, _, _, z⟩ := r
    exact z.elim
  | brk =>
    obtain ⟨_, _, _, z⟩ := r
    exact z.elim
  | cont =>
    obtain ⟨_, _, _, z⟩ := r
    exact z.elim
/-- the error of the body meets the finally -/
theorem meets_fin {u : Value} {t : Shared} (hs : X.stack = X.env :: X.outer) (hf : X.env.frame = some X.env.locals) (hex : X.ex = []) (ok : X.Ok) (tk : L2N.Takes X Wo)
    (hsu : ∀ (a : Addr) (oe : Obj) (pn : List (Addr × Obj)), (∃ vs : Array Value, oe.data = .fields vs ∧ vs[2]? = some .none) → PSs (X.suite a ((a, oe) :: pn)) (f0 :: fs) tfs) {xe : Value → Shared → Prop} (xx : L2N.XE (X.tr (X.pn ++ pins) xe) (wFin tfs Wo) u t) :
    wpAny (model X.prog X.w) X.A (noteFrame u X.env) (fun _ s2 => FinallyRaised X.prog X.w X.A X.xe X.env (f0 :: fs) (SP X pins D) u s2) (FinallyRaised X.prog X.w X.A X.xe X.env (f0 :: fs) (SP X pins D)) t := by
  obtain ⟨a, B, sI, p2, σ, H, cls, d, rfl, J2, nb, up, sky, na, os, ag, hw⟩ := xx
  have J : Inv X pins σ H sI := J2.ofTry ok
  have fr : X.A.frames = some (X.env :: X.outer) := ok.frames.trans (congrArg some hs)
  have go : ∀ h1, HandSPX.HeldZ B (X.env :: X.outer) a (L2N.Zn cls d) X.env.locals h1 → t.heap.UpToSlots h1 → FinallyRaised X.prog X.w X.A X.xe X.env (f0 :: fs) (SP X pins D) (.ref a) { t with heap := h1 } := fun h1 hh u1 =>
    in_suite hs hf hex ok tk hsu J nb na os ag hw hh (up.trans u1)
  have sky : Sky B (X.env :: X.outer) a (L2N.Zn cls d) X.env.locals t.heap := hs ▸ sky
  rcases sky with ⟨hB, hn, hl, oe, vs, he, hz, hd, hv⟩ | fl | hh
  · exact PXN.look_newZ L2N.Zn.steady fr hl hf he hB hn hd hv hz go
  · exact PXN.looks_onZ L2N.Zn.steady fr hf fl go
  · exact HandSPX.againZ hf hh.2.2.2 (go t.heap hh (Heap.UpToSlots.refl _))
/-- try: body / finally: suite. tb W: the body's reading, W what is wished of its errors; tf: the suite behind a body that ran through; tfs: the suite with the error in flight, which goes on to Wo -/
def tFinN (tb : WX → TS) (tf tfs : TS) (Wo : WX) : TS := fun D σ H => tb (wFin tfs Wo) { nx := fun σ1 H1 => tf D σ1 H1, rt := fun _ _ => False } σ H
theorem ps_finN {body : List Stmt} {pos : Pos} {tb : WX → TS} {tf : TS} (hs : X.stack = X.env :: X.outer) (hf : X.env.frame = some X.env.locals) (hex : X.ex = []) (tk : L2N.Takes X Wo)
    (hb : ∀ (W : WX) (pn : List (Addr × Obj)) (xe : Value → Shared → Prop), L2N.Takes (X.tr pn xe) W → PassesOwn (model X.prog X.w) X.A X.env xe → PSs (X.tr pn xe) body (tb W))
    (hfin : PSs X.nox (f0 :: fs) tf) (hsu : ∀ (a : Addr) (oe : Obj) (pn : List (Addr × Obj)), (∃ vs : Array Value, oe.data = .fields vs ∧ vs[2]? = some .none) → PSs (X.suite a ((a, oe) :: pn)) (f0 :: fs) tfs) : PS X (.Try body [] [] (f0 :: fs) pos) (tFinN tb tf tfs Wo) := by
  refine ⟨fun pins s σ H D I h => ?_⟩
  have ok := I.ok
  refine wpAny_Try_finally (wpAny_mono ((hb (wFin tfs Wo) (X.pn ++ pins) _ (fun u t xx => meets_fin (D := D) (pins := pins) hs hf hex ok tk hsu xx) PassesOwn.looking).run [] s σ H { nx := fun σ1 H1 => tf D σ1 H1, rt := fun _ _ => False } (I.toTry _) h) (fun g s1 z => ?_) (fun x s1 hx => hx))
  cases g with
  | next =>
    obtain ⟨σ1, H1, J1, q1⟩ := z
    refine wpAny_execs_nil (wpAny_mono (hfin.run pins s1 σ1 H1 D ((J1.ofTry ok).wish _) q1) (fun g2 s2 q2 => ?_) fun _ _ e => e.elim)
    have q3 : SP X pins D g2 s2 := q2.unwish
    cases g2 <;> exact q3
  | ret u =>
    obtain ⟨_, _, _, _, _, q⟩ := z
    exact q.elim
  | brk =>
    obtain ⟨_, _, _, q⟩ := z
    exact q.elim
  | cont =>
    obtain ⟨_, _, _, q⟩ := z
    exact q.elim
end
end K68
end
section
set_option Elab.async false
set_option linter.all false
set_option maxRecDepth 100000
set_option maxHeartbeats 2000000
namespace K68
open PySem PySem.Spec PyProof.Rows L2
/-! ### a, b = a tuple while an error is handled (its context is None) -/
section
variable {prog : Program} {w : World} {A : Around} {E : Value → Shared → Prop} {s : Shared}
theorem tup_end_hot {it t x1 : Addr} {i : Nat} {items : Array Value} {Q : Option Value → Shared → Prop} (hot : HotX.HotAt A x1 s.heap) (n1 : x1 ≠ it) (hit : IsTupIter s.heap it t i) (ht : IsTup s.heap t items) (hx : items[i]? = none)
    (hQ : ∀ h', (∀ b o, b ≠ it → s.heap.get? b = some o → h'.get? b = some o) → Q none { s with heap := h' }) : wpAny (model prog w) A (pyNext (.ref it)) Q E s := by
  have z := hit
  obtain ⟨o, ho, _, hd⟩ := z
  obtain ⟨ol, hol, _, nl, hdl⟩ := ht
  obtain ⟨hh, o1, v1, e1, d1, c1⟩ := hot
  have step := PyProof.Rows.args_tupleiter_next (.ref it)
  unfold pyNext
  refine wpAny_bind (wpAny_attempt (wpAny_callSpecial?_slot (name := Str.ofString "__next__") hit.typeIs PyProof.Rows.slot_tupleiter_next (wpAny_call_entry PyProof.Rows.slot_tupleiter_next hit.typeIs PyProof.Rows.entry_tupleiter_next ?_ step)))
  change wpAny (model prog w) A.in1 (field (.ref it) 0 >>= _) _ _ _
  refine wpAny_bind (wpAny_field ho hd (x := .ref t) rfl ?_)
  change wpAny (model prog w) A.in1 (if (Value.ref t == Value.none) = true then _ else _) _ _ _
  rw [if_neg (show ¬ ((Value.ref t == Value.none) = true) by simp)]
  change wpAny (model prog w) A.in1 (field (.ref it) 1 >>= _) _ _ _
  refine wpAny_bind (wpAny_field ho hd (x := .int i 0) rfl ?_)
  change wpAny (model prog w) A.in1 (seqItems? (.ref t) >>= _) _ _ _
  refine wpAny_bind (wpAny_seqItems hol hdl ?_)
  simp only [Int.toNat_natCast, hx]
  refine wpAny_bind (wpAny_rule (wpAny_bind (wpAny_setField ho hd (by simp) ?_)))
  change wpAny (model prog w) A.in1 (newExc (.type "StopIteration") [] >>= _) _ _ _
  refine wpAny_bind ?_
  simp only [newExc, newTuple]
  refine wpAny_bind (wpAny_newObj_type ?_ (by size_fits))
  refine wpAny_bind (m := firstArgMember _ _) (wpAny_of_eq (a := Value.none) (by first | rfl | (simp only [firstArgMember]; rfl)) (wpAny_newObj_type ?_ (by size_fits)))
  have e2 : (s.heap.update it (Obj.mapFields fun xs => xs.setIfInBounds 0 .none)).get? x1 = some o1 := (Heap.get?_update_other _ _ n1.symm).trans e1
  refine HotX.raiseNew_hot ⟨hh, o1, v1, Heap.get?_push_of_some _ (Heap.get?_push_of_some _ e2), d1, c1⟩ (Nat.ne_of_lt (Heap.lt_size (Heap.get?_push_of_some _ e2))) (Heap.get?_push_size _ rfl) rfl (by first | (simp; done) | (simp; omega)) ?_
  refine wpAny_bind (wpAny_isInstance (T := "StopIteration") (b := true) ⟨_, Heap.get?_update_self _ (Heap.get?_push_size _ rfl) rfl, rfl⟩ isSubtype_stop (wpAny_pure (hQ _ fun b o nb e => ?_)))
  have e3 : (s.heap.update it (Obj.mapFields fun xs => xs.setIfInBounds 0 .none)).get? b = some o := (Heap.get?_update_other _ _ (Ne.symm nb)).trans e
  exact (Heap.get?_update_other _ _ (Nat.ne_of_gt (Heap.lt_size (Heap.get?_push_of_some _ e3)))).trans (Heap.get?_push_of_some _ (Heap.get?_push_of_some _ e3))
theorem items_hot {t x1 : Addr} {items : Array Value} {Q : List Value → Shared → Prop} (hot : HotX.HotAt A x1 s.heap) (ht : IsTup s.heap t items)
    (h : ∀ h', (∀ b o, s.heap.get? b = some o → h'.get? b = some o) → Q items.toList { s with heap := h' }) : wpAny (model prog w) A (unpackItems (.ref t) items.size none) Q E s := by
  have lt : t < s.heap.objs.size := by
    obtain ⟨o, e, _⟩ := id ht
    exact Heap.lt_size e
  obtain ⟨hh, o1, v1, e1, d1, c1⟩ := hot
  unfold unpackItems
  refine wpAny_bind ?_
  unfold notIterableAtAll
  refine wpAny_bind (wpAny_specialOf ht.typeIs PyProof.Rows.slot_tuple_iter.lookup (wpAny_pure ?_))
  show wpAny _ _ (if false = true then _ else _) _ _ _
  rw [if_neg Bool.false_ne_true]
  refine wpAny_bind (wpAny_holding (iter_tuple ht ?_))
  refine wpAny_bind (wpAny_holding (draw_tuple (Nat.ne_of_lt lt) items.size 0 _ _ ⟨_, Heap.get?_push_size _ rfl, rfl, rfl⟩ (ht.push _) (by omega) fun g hg sb => ?_))
  have eall : (items.toList.drop 0).take items.size = items.toList := by
    rw [List.drop_zero, ← Array.length_toList, List.take_length]
  have keep : ∀ b o, s.heap.get? b = some o → g.get? b = some o := fun b o e => sb.extBut b o (Nat.ne_of_lt (Heap.lt_size e)) (Heap.get?_push_of_some _ e)
  rw [eall, if_neg (by simp)]
  refine wpAny_bind (wpAny_holding (tup_end_hot (s := { s with heap := g }) ⟨hh, o1, v1, keep _ _ e1, d1, c1⟩ (Nat.ne_of_lt (Heap.lt_size e1)) hg ((ht.push _).extBut sb.extBut (Nat.ne_of_lt lt)) (by simp) fun h2 k2 => ?_))
  simp only [Option.isSome_none, Bool.false_eq_true, if_false]
  exact wpAny_pure (h h2 fun b o e => k2 b o (Nat.ne_of_lt (Heap.lt_size e)) (keep b o e))
end
section
variable {X : Cx}
/-- within a suite whose error's context is None -/
theorem pg_tupH {es : List Expr} {k : Nat} {t : TGs} {n : Nat} {pos : Pos} {a : Addr} {oe : Obj} (hh : X.A.handled = some (.ref a)) (hp : (a, oe) ∈ X.pn) (hc : ∃ vs : Array Value, oe.data = .fields vs ∧ vs[2]? = some .none) (h : PGs X es t)
    (hn : (assignEach es X.env).length = n := by rfl) (hst : (assignEach es X.env).findIdx? (·.1) = none := by rfl) : PG X (.Tuple es k pos) (gTup X.K n t) := by
  refine ⟨fun pins s σ H v u Q I r q => ?_⟩
  obtain ⟨b, xs, rfl, hq, hl, q⟩ := q
  obtain rfl : u = Value.ref b := r
  obtain ⟨its, rv, ht, _⟩ := I.tuple hq
  obtain ⟨vs, d1, c1⟩ := hc
  have e1 := (I.pin (a, oe) (List.mem_append_left _ hp)).1
  rw [PySem.arm_assign_Tuple]
  refine wpAny_bind (wpAny_standAt ?_)
  unfold unpack
  rw [hst, show (assignEach es X.env).length = its.toArray.size by rw [hn, ← hl, rv.length, List.size_toArray]]
  refine wpAny_bind (wpAny_holding (items_hot ⟨hh, oe, vs, e1, d1, c1⟩ ht fun h' kp => ?_))
  exact h.run pins _ σ H xs _ Q (I.kept (t' := s.toks) kp) (by simpa using rv) q
end
end K68
end
section
set_option Elab.async false
set_option linter.all false
set_option maxRecDepth 100000
set_option maxHeartbeats 2000000
namespace K68
open PySem PySem.Spec PyProof.Rows L2
/-- what a comprehension whose steps keep all that stood ahead of it has made behind i turns -/
def LcP (D : Addr) (H1 : Hp) (A : Nat → List V → Hp → Prop) (i : Nat) (H : Hp) : Prop := Same H1 H ∧ ∃ acc, H D = some (.lst acc) ∧ acc.length ≤ i ∧ A i acc H
theorem same_up {H1 H : Hp} {D : Addr} {o : HO} (hD : H1 D = none) (s : Same H1 H) : Same H1 (upd H D o) := fun b x e => by
  have ne : b ≠ D := fun q => by rw [q, hD] at e; cases e
  rw [upd_ne ne]
  exact s b x e
theorem LcP.start {D : Addr} {H1 : Hp} {A : Nat → List V → Hp → Prop} (hD : H1 D = none) (h : A 0 [] (upd H1 D (.lst []))) : LcP D H1 A 0 (upd H1 D (.lst [])) := ⟨same_up hD (Same.refl _), [], upd_same, Nat.le_refl _, h⟩
theorem LcP.push {D : Addr} {H1 H : Hp} {A : Nat → List V → Hp → Prop} {i : Nat} {acc : List V} {y : V} (hD : H1 D = none) (s : Same H1 H) (e : H D = some (.lst acc)) (l : acc.length ≤ i) (hi : i < sizeLine) (h : A (i + 1) (acc ++ [y]) (upd H D (.lst (acc ++ [y])))) :
    ∃ acc, H D = some (.lst acc) ∧ acc.length < sizeLine ∧ LcP D H1 A (i + 1) (upd H D (.lst (acc ++ [y]))) :=
  ⟨acc, e, by omega, same_up hD s, acc ++ [y], upd_same, by rw [List.length_append, List.length_singleton]; omega, h⟩
theorem LcP.skip {D : Addr} {H1 H : Hp} {A : Nat → List V → Hp → Prop} {i : Nat} {acc : List V} (s : Same H1 H) (e : H D = some (.lst acc)) (l : acc.length ≤ i) (h : A (i + 1) acc H) : LcP D H1 A (i + 1) H := ⟨s, acc, e, by omega, h⟩
/-- … as for_it's sister -/
theorem lc_s {J : It} {n : Nat} {G : Hp → Prop} {Y : Nat → Hp → V → Hp → Prop} (w : Walk J n G Y) {g : TG} {tt : TT} {te : TE} {vs : List Nat} {σ : L2.St} {H1 : Hp} {D : Addr} {Qd : Hp → Prop} (hD : H1 D = none)
    (A : Nat → List V → Hp → Prop) (h0 : A 0 [] (upd H1 D (.lst []))) (hG : ∀ H, Same H1 H → G H)
    (hs : ∀ i x H H' acc, i < n → Same H1 H → H D = some (.lst acc) → acc.length ≤ i → A i acc H → Y i H x H' → g x (wipe σ vs) H' fun σ2 H2 => wipe σ2 vs = wipe σ vs ∧ tt σ2 H2 fun b H3 =>
      if b = true then te σ2 H3 fun y H4 => ∃ acc, H4 D = some (.lst acc) ∧ acc.length < sizeLine ∧ LcP D H1 A (i + 1) (upd H4 D (.lst (acc ++ [y]))) else LcP D H1 A (i + 1) H3)
    (hd : ∀ H acc, Same H1 H → H D = some (.lst acc) → A n acc H → Qd H) :
    ∃ W : Nat → Nat → Hp → Prop, (∃ m, W 0 m (upd H1 D (.lst []))) ∧ ∀ i m H, W i m H →
      (J.stop i H ∧ Qd H) ∨ (J.go i H ∧ ∃ Nx : Hp → Prop, (∀ H', Nx H' → ∃ m', m' < m ∧ W (i + 1) m' H') ∧ ∀ x H', J.yld i H x H' → g x (wipe σ vs) H' fun σ2 H2 => wipe σ2 vs = wipe σ vs ∧ tt σ2 H2 fun b H3 =>
        if b = true then te σ2 H3 fun y H4 => ∃ acc, H4 D = some (.lst acc) ∧ acc.length < sizeLine ∧ Nx (upd H4 D (.lst (acc ++ [y]))) else Nx H3) := by
  refine lc_it w (LcP D H1 A) (LcP.start hD h0) (fun i H _ p => hG H p.1) (fun i x H H' hi p y => ?_) (fun H p => ?_)
  · obtain ⟨s, acc, e, l, a⟩ := p
    exact hs i x H H' acc hi s e l a y
  · obtain ⟨s, acc, e, l, a⟩ := p
    exact hd H acc s e a
/-- what a written list of values of a comprehension is: f of each -/
def AMap (f : Nat → V) : Nat → List V → Hp → Prop := fun i acc _ => acc = (List.range i).map f
theorem AMap.step {f : Nat → V} {i : Nat} {acc : List V} {H H' : Hp} {y : V} (h : AMap f i acc H) (e : y = f i) : AMap f (i + 1) (acc ++ [y]) H' := by
  show acc ++ [y] = (List.range (i + 1)).map f
  rw [show acc = _ from h, List.range_succ, List.map_append, e]
  rfl
/-! ### tuples joined and cut -/
section
variable {K : PySem.W.Frag} {H : Hp} {Q : VK}
theorem cat_s {a b : Addr} {xs ys : List V} (ha : H a = some (.tup xs)) (hb : H b = some (.tup ys)) (hz : xs.length + ys.length ≤ sizeLine) (h : ∀ p H', Same H H' → H' p = some (.tup (xs ++ ys)) → Q (.ref p) H') : rCatA K (.ref a) (.ref b) H Q := by
  refine ⟨a, b, xs, ys, rfl, rfl, SqT.of ha, SqT.of hb, hz, fun e => h _ _ (Same.refl _) ?_, fun _ e => h _ _ (Same.refl _) ?_, fun _ _ p hp => h _ _ (Same.new hp) upd_same⟩
  · rw [e]; exact hb
  · rw [e, List.append_nil]; exact ha
theorem cutV_all {xs : List V} {lo hi : Option Int} (h : HT.sIx xs.length 0 lo = 0 ∧ HT.sIx xs.length xs.length hi = xs.length) : cutV xs lo hi = xs := by
  unfold cutV
  rw [h.1, h.2]
  simp
theorem sl_s {a : Addr} {xs : List V} {lo hi : Option Int} (ha : H a = some (.tup xs)) (h : ∀ p H', Same H H' → H' p = some (.tup (cutV xs lo hi)) → Q (.ref p) H') : rSlA K (.ref a) lo hi H Q := by
  refine ⟨a, xs, rfl, SqT.of ha, fun e => h _ _ (Same.refl _) ?_, fun _ p hp => h _ _ (Same.new hp) upd_same⟩
  rw [cutV_all e]; exact ha
def rSlS : V → Option Int → Option Int → Hp → VK → Prop := fun x lo hi H Q => ∃ a xs, x = .ref a ∧ H a = some (.tup xs) ∧ ∀ p H', Same H H' → H' p = some (.tup (cutV xs lo hi)) → Q (.ref p) H'
theorem sl_tupS {X : Cx} : SlR X rSlS := by
  intro pins s σ H x v vl vu lo hi sl Q I rx hs pl pu h
  obtain ⟨a, xs, rfl, ha, q⟩ := h
  exact sl_tupA pins s σ H _ v vl vu lo hi sl Q I rx hs pl pu (sl_s ha q)
def rCatS : R2 := fun x y H Q => ∃ a b xs ys, x = .ref a ∧ y = .ref b ∧ H a = some (.tup xs) ∧ H b = some (.tup ys) ∧ xs.length + ys.length ≤ sizeLine ∧ ∀ p H', Same H H' → H' p = some (.tup (xs ++ ys)) → Q (.ref p) H'
theorem op_catS {X : Cx} : OpR X (binaryOp .Add) rCatS := by
  intro pins s σ H x y v u Q I rx ry h
  obtain ⟨a, b, xs, ys, rfl, rfl, ha, hb, hz, q⟩ := h
  exact op_catA pins s σ H _ _ v u Q I rx ry (cat_s ha hb hz q)
/-- a[i], of a tuple that stands in the heap -/
def rIxH : R2 := fun x y H Q => ∃ p xs i v, x = .ref p ∧ y = .int i ∧ H p = some (.tup xs) ∧ atI xs i = some v ∧ Q v H
theorem ix_tupS {X : Cx} : IxR X rIxH := by
  intro value slice pins s σ H x y v u Q I rx ry h hs
  obtain ⟨p, xs, i, z, rfl, rfl, hq, he, q⟩ := h
  exact ix_tup value slice pins s σ H _ _ v u Q I rx ry ⟨p, xs, i, z, rfl, rfl, SqT.of hq, he, q⟩ hs
theorem inV_int (x : Int) (l : List Int) : inV (.int x) (l.map V.int) = decide (x ∈ l) := by
  unfold inV
  rw [Bool.eq_iff_iff, decide_eq_true_iff, List.any_map, List.any_eq_true]
  constructor
  · rintro ⟨y, hy, e⟩
    have e2 : y = x := by
      have e3 : (y == x) = true := e
      exact eq_of_beq e3
    exact e2 ▸ hy
  · intro h
    exact ⟨x, h, beq_self_eq_true x⟩
theorem flat_ints (l : List Int) : (l.map V.int).all flatV = true := by
  rw [List.all_map, List.all_eq_true]
  intro x _
  rfl
/-- i in l, of a list or tuple of whole numbers that stands in the heap -/
def rInI : R2 := fun x y H Q => ∃ (i : Int) (p : Addr) (l : List Int), x = .int i ∧ y = .ref p ∧ (H p = some (.lst (l.map .int)) ∨ H p = some (.tup (l.map .int))) ∧ Q (.bl (decide (i ∈ l))) H
theorem op_inI {X : Cx} : OpR X (compareOp .In) rInI := by
  intro pins s σ H x y v u Q I rx ry h
  obtain ⟨i, p, l, rfl, rfl, hq, q⟩ := h
  refine op_in_seq pins s σ H _ _ v u Q I rx ry ⟨p, _, rfl, ?_, rfl, flat_ints l, ?_⟩
  · rcases hq with hq | hq
    · exact .inl (SqL.of hq)
    · exact .inr (SqT.of hq)
  · rw [if_neg Bool.false_ne_true, inV_int]
    exact q
theorem cutV_from (xs : List V) (k : Nat) : cutV xs (some (k : Int)) none = xs.drop k := by
  unfold cutV
  rw [HT.sIx_nat, HT.sIx_none]
  by_cases h : k ≤ xs.length
  · rw [Nat.min_eq_left h, List.take_of_length_le (by simp)]
  · rw [Nat.min_eq_right (by omega), List.drop_of_length_le (Nat.le_refl _), List.drop_of_length_le (by omega), List.take_nil]
theorem cutV_to (xs : List V) (k : Nat) : cutV xs none (some (k : Int)) = xs.take k := by
  unfold cutV
  rw [HT.sIx_nat, HT.sIx_none]
  show (xs.drop 0).take (min k xs.length - 0) = _
  rw [List.drop_zero, Nat.sub_zero]
  by_cases h : k ≤ xs.length
  · rw [Nat.min_eq_left h]
  · rw [Nat.min_eq_right (by omega), List.take_of_length_le (Nat.le_refl _), List.take_of_length_le (by omega)]
end
/-! ### is_integer -/
section
variable {P : Program} {w : World} {K : PySem.W.Frag} {mg : Str → Option Value} {base : Heap}
def isInt (v lo hi : Int) : Bool := decide (lo ≤ v) && decide (v ≤ hi)
def sp_is_integer : Sp := fun vs H Q _ => ∃ v lo hi : Int, vs = [.int v, .int lo, .int hi] ∧ Q (.bl (isInt v lo hi)) H
theorem sc_is_integer : FnScope ["value", "low", "high"] ["value", "low", "high"] (defScope s_is_integer) := ⟨rfl, rfl, rfl, by decide +kernel, rfl, by decide +kernel, by decide +kernel⟩
theorem ok_is_integer (T : Tx w K mg) : GF P w K mg base CX0 1 "is_integer" ["value", "low", "high"] sp_is_integer := by
  refine gf0 T.f_is_integer T.g_is_integer sc_is_integer (fun _ F => F.bindsN fun _ _ _ _ _ _ us hl => match us, hl with | [_, _, _], _ => rfl) (fun vs H Q E h => ?_) (fun cdv A outer s H vs Q E hr h => ?_)
  · obtain ⟨v, lo, hi, rfl, _⟩ := h
    rfl
  · obtain ⟨v, lo, hi, rfl, h⟩ := h
    refine ⟨_, pss_one (ps_ret (pe_and (pe_is "int" (pv 0) T.z_isinstance T.z_int boot_int)
      (pe_and (pe_not (pe_is "bool" (pv 0) T.z_isinstance T.z_bool boot_bool))
      (pe_one (pe_chain op_le op_le (pv 1) (pv 0) (pv 2)))))), ?_⟩
    refine ⟨_, rfl, true, is_ii, true, rfl, ?_⟩
    rw [if_pos rfl]
    refine ⟨_, rfl, false, is_ib, false, rfl, true, rfl, ?_⟩
    rw [if_pos rfl]
    refine ⟨_, rfl, _, rfl, _, _, rfl, rfl, _, rfl, ?_⟩
    unfold isInt at h
    by_cases c : lo ≤ v
    · rw [decide_eq_true c] at h ⊢
      refine iteT ⟨_, rfl, _, _, rfl, rfl, h⟩
    · rw [decide_eq_false c] at h ⊢
      exact iteF h
/-! ### are_offsets -/
def areOffs (ns : List Int) : Bool := decide (1 ≤ ns.length) && decide (ns.length ≤ 4) && (ns.all fun n => isInt n 0 99) && ((ns.zip (ns.drop 1)).all fun p => decide (p.1 < p.2))
def sp_are_offsets : Sp := fun vs H Q _ => ∃ (a : Addr) (ns : List Int), vs = [.ref a] ∧ H a = some (.tup (ns.map .int)) ∧ ∀ H', Same H H' → Q (.bl (areOffs ns)) H'
abbrev N_are_offsets : List Str := ["value", "offset", "earlier", "later"]
theorem sc_are_offsets : FnScope N_are_offsets ["value"] (defScope s_are_offsets) := ⟨rfl, rfl, rfl, by decide +kernel, rfl, by decide +kernel, by decide +kernel⟩
theorem zip_drop_get {ns : List Int} {i : Nat} {x y : V} (hx : (ns.map V.int)[i]? = some x) (hy : ((ns.map V.int).drop 1)[i]? = some y) : ∃ a b, x = .int a ∧ y = .int b ∧ ((ns.zip (ns.drop 1)).map fun p => decide (p.1 < p.2))[i]? = some (decide (a < b)) := by
  rw [List.getElem?_map] at hx
  rw [← List.map_drop, List.getElem?_map] at hy
  cases e1 : ns[i]? with
  | none => rw [e1] at hx; cases hx
  | some a =>
    cases e2 : (ns.drop 1)[i]? with
    | none => rw [e2] at hy; cases hy
    | some b =>
      rw [e1] at hx
      rw [e2] at hy
      refine ⟨a, b, (Option.some.inj hx).symm, (Option.some.inj hy).symm, ?_⟩
      rw [List.getElem?_map, (List.getElem?_zip_eq_some (z := (a, b))).mpr ⟨e1, e2⟩]
      rfl
/-- acc: the first i of xs -/
def ATake (xs : List V) : Nat → List V → Hp → Prop := fun i acc _ => acc = xs.take i
theorem take_more {α : Type} : ∀ {l : List α} {i : Nat} {x : α}, l[i]? = some x → l.take (i + 1) = l.take i ++ [x]
  | [], i, x, h => by simp at h
  | a :: l, 0, x, h => by cases Option.some.inj h; rfl
  | a :: l, i + 1, x, h => by
    have ih := take_more (l := l) (i := i) (x := x) h
    show a :: l.take (i + 1) = a :: l.take i ++ [x]
    rw [ih]
    rfl
theorem ATake.step {xs : List V} {i : Nat} {acc : List V} {y : V} {H H' : Hp} (h : ATake xs i acc H) (e : xs[i]? = some y) : ATake xs (i + 1) (acc ++ [y]) H' := by
  show acc ++ [y] = _
  rw [take_more e, show acc = _ from h]
theorem ok_are_offsets (T : Tx w K mg) : GF P w K mg base CX0 2 "are_offsets" ["value"] sp_are_offsets := by
  have G1 := ok_is_integer (P := P) (base := base) T
  refine gf0 T.f_are_offsets T.g_are_offsets sc_are_offsets (fun _ F => F.bindsN fun _ _ _ _ _ _ us hl => match us, hl with | [_], _ => rfl) (fun vs H Q E h => ?_) (fun cdv A outer s H vs Q E hr h => ?_)
  · obtain ⟨a, ns, rfl, _⟩ := h
    rfl
  · obtain ⟨a, ns, rfl, ha, k⟩ := h
    refine ⟨_, pss_cons (ps_if (PW.pt (pw_or (pt_not (pt_val (pe_is "tuple" (pv 0) T.z_isinstance T.z_tuple boot_tuple)))
        (pw_or1 (pt_not (pt_chain op_le op_le pe_int (pe_callB call_len_seq rfl T.z_len boot_len (pa_cons (pv 0) pa_nil)) (pe_gi T.i_MAX_ATTEMPTS))))))
        (pss_one (ps_ret pe_bl)) pss_nil)
      (pss_cons (ps_if (pt_not (pt_val (pe_callB (cr_all rfl) rfl T.z_all boot_all (pa_cons (pe_lc (own := [("offset", 1)]) (g := gName 1) (tt := tYes) rfl sc_are_offsets.nd (pi_tup (pv 0)) (blkOk_by (N := N_are_offsets) (sc := defScope s_are_offsets) (by decide +kernel)) (fun _ _ _ _ _ => pg_name (i := 1) sc_are_offsets.nd rfl (Or.inl rfl)) (fun _ _ _ _ _ => pts_nil)
          (fun _ _ _ _ _ => pe_f G1 hr pass0 (pa_cons (pv 1) (pa_cons pe_int (pa_cons (pe_gi T.i_MAX_TICKS) pa_nil))))) pa_nil)))) (pss_one (ps_ret pe_bl)) pss_nil)
      (pss_one (ps_ret (pe_callB (cr_all rfl) rfl T.z_all boot_all (pa_cons (pe_lc (own := [("earlier", 2), ("later", 3)]) (g := gTup K 2 (gCons (gName 2) (gCons (gName 3) gNil))) (tt := tYes) rfl sc_are_offsets.nd
        (RZ.pi_zipA rfl T.z_zip (pa_cons (pv 0) (pa_cons (pe_slice sl_tupS (pv 0) (po_some pe_int) po_none) pa_nil))) (blkOk_by (N := N_are_offsets) (sc := defScope s_are_offsets) (by decide +kernel))
        (fun _ _ _ _ _ => pg_tup rfl (pgs_cons (pg_name (i := 2) sc_are_offsets.nd rfl (Or.inl rfl)) (pgs_cons (pg_name (i := 3) sc_are_offsets.nd rfl (Or.inl rfl)) pgs_nil))) (fun _ _ _ _ _ => pts_nil)
        (fun _ _ _ _ _ => pe_cmpR op_lt (pv 2) (pv 3) (nomark _))) pa_nil))))), ?_⟩
    refine ⟨_, rfl, true, is_tt ha, true, rfl, ?_⟩
    refine iteF ⟨_, rfl, _, _, rfl, .inr (SqT.of ha), _, _, rfl, rfl, _, rfl, ?_⟩
    rw [List.length_map]
    by_cases c1 : 1 ≤ ns.length
    · rw [decide_eq_true (show (1 : Int) ≤ ((ns.length : Nat) : Int) by omega)]
      refine iteT ⟨_, _, rfl, rfl, _, rfl, ?_⟩
      by_cases c2 : ns.length ≤ 4
      · rw [decide_eq_true (show ((ns.length : Nat) : Int) ≤ 4 by omega)]
        refine iteF ?_
        refine ⟨_, rfl, a, rfl, ⟨_, SqT.of ha⟩, fun D hD => ?_⟩
        refine lc_s (walk_tup (xs := ns.map V.int)) hD (ATake ((ns.map fun n => isInt n 0 99).map V.bl)) rfl (fun H1 s1 => SqT.of (s1 _ _ ha)) (fun i x H1 H1' acc hi s1 hacc lacc acc1 y => ?_) (fun H1 acc s1 hacc acc1 => ?_)
        · obtain ⟨rfl, hx⟩ := y
          rw [List.getElem?_map] at hx
          cases en : ns[i]? with
          | none => rw [en] at hx; cases hx
          | some n =>
            rw [en] at hx
            cases Option.some.inj hx
            refine ⟨rfl, ⟨_, rfl, n, 0, 99, rfl, ?_⟩⟩
            refine LcP.push hD s1 hacc lacc (by rw [List.length_map] at hi; exact Nat.lt_of_lt_of_le hi (Nat.le_trans c2 (by decide))) (acc1.step ?_)
            rw [List.getElem?_map, List.getElem?_map, en]
            rfl
        · refine ⟨D, ns.map fun n => isInt n 0 99, rfl, SqL.of (hacc.trans ?_), ?_⟩
          · rw [show acc = _ from acc1, List.take_of_length_le (by simp)]
          refine ⟨_, rfl, ?_⟩
          rw [List.all_map]
          by_cases c3 : (ns.all fun n => isInt n 0 99) = true
          · rw [show (ns.all (id ∘ fun n => isInt n 0 99)) = true from c3]
            refine iteF ?_
            have ha1 := s1 _ _ ha
            refine ⟨_, rfl, _, rfl, 1, rfl, ?_⟩
            refine ⟨a, _, rfl, ha1, fun p H2 s2 hp => ?_⟩
            have ha2 := s2 _ _ ha1
            rw [show cutV (ns.map V.int) (some (1 : Int)) none = (ns.map V.int).drop 1 from cutV_from _ 1] at hp
            refine ⟨a, p, _, _, rfl, .inr ⟨SqT.of ha2, SqT.of hp, fun D2 hD2 => ?_⟩⟩
            refine lc_s (walk_zipT (xs := ns.map V.int) (ys := (ns.map V.int).drop 1) rfl) hD2 (ATake (((ns.zip (ns.drop 1)).map fun p => decide (p.1 < p.2)).map V.bl)) rfl (fun H1 s1 => ⟨SqT.of (s1 _ _ ha2), SqT.of (s1 _ _ hp)⟩) (fun i x H3 H4 acc2 hi s3 hacc2 lacc2 acc3 y => ?_) (fun H3 acc2 s3 hacc2 acc3 => ?_)
            · obtain ⟨T0, x0, y0, rfl, hT, rfl, hx, hy⟩ := y
              obtain ⟨u, v, rfl, rfl, e⟩ := zip_drop_get hx hy
              refine ⟨T0, _, rfl, SqT.of upd_same, rfl, ⟨_, _, rfl, _, _, rfl, rfl, rfl, ?_⟩⟩
              refine ⟨_, rfl, _, rfl, _, _, rfl, rfl, ?_⟩
              refine LcP.push hD2 (s3.trans (Same.new hT)) (upd_ne' hT hacc2) lacc2 ?_ (acc3.step ?_)
              · rw [List.length_map, List.length_drop, List.length_map] at hi
                exact Nat.lt_of_lt_of_le hi (Nat.le_trans (Nat.min_le_left _ _) (Nat.le_trans c2 (by decide)))
              · rw [List.getElem?_map, e]
                rfl
            · refine ⟨D2, (ns.zip (ns.drop 1)).map fun p => decide (p.1 < p.2), rfl, SqL.of (hacc2.trans ?_), ?_⟩
              · rw [show acc2 = _ from acc3, List.take_of_length_le (by simp)]
              have e : areOffs ns = ((ns.zip (ns.drop 1)).map fun p => decide (p.1 < p.2)).all id := by
                unfold areOffs
                rw [decide_eq_true c1, decide_eq_true c2, c3, List.all_map]
                rfl
              rw [← e]
              exact k _ ((s1.trans s2).trans s3)
          · rw [show (ns.all (id ∘ fun n => isInt n 0 99)) = false from Bool.eq_false_iff.mpr c3]
            refine iteT ?_
            have e : areOffs ns = false := by
              unfold areOffs
              rw [Bool.eq_false_iff.mpr c3]
              simp
            rw [← e]
            exact k _ s1
      · rw [decide_eq_false (show ¬ ((ns.length : Nat) : Int) ≤ 4 by omega)]
        refine iteT ?_
        have e : areOffs ns = false := by
          unfold areOffs
          rw [decide_eq_false c2]
          simp
        rw [← e]
        exact k _ (Same.refl _)
    · rw [decide_eq_false (show ¬ (1 : Int) ≤ ((ns.length : Nat) : Int) by omega)]
      refine iteF ⟨_, rfl, iteT ?_⟩
      have e : areOffs ns = false := by
        unfold areOffs
        rw [decide_eq_false c1]
        simp
      rw [← e]
      exact k _ (Same.refl _)
end
end K68
end
section
set_option Elab.async false
set_option linter.all false
set_option maxRecDepth 100000
set_option maxHeartbeats 2000000
namespace K68
open PySem PySem.Spec PyProof.Rows L2
def isCall (n : Int) (x : Cl) : Bool := isInt x.c 0 (n - 1) && (isInt x.t (x.c + 1) (n - 1) && (areOffs x.o && (isInt x.l 0 99 && isInt x.m x.l 99)))
def SysOk (s : Sys) : Prop := 1 ≤ s.n ∧ s.n ≤ 8 ∧ s.cs.length ≤ 20 ∧ ∀ c ∈ s.cs, isCall s.n c = true
section
variable {P : Program} {w : World} {K : PySem.W.Frag} {mg : Str → Option Value} {base : Heap}
def sp_is_call : Sp := fun vs H Q _ => ∃ (n : Int) (v : V) (x : Cl), vs = [.int n, v] ∧ Td H v (clD x) ∧ ∀ H', Same H H' → Q (.bl (isCall n x)) H'
abbrev N_is_call : List Str := ["count", "call", "caller", "target", "offsets", "least", "most"]
theorem sc_is_call : FnScope N_is_call ["count", "call"] (defScope s_is_call) := ⟨rfl, rfl, rfl, by decide +kernel, rfl, by decide +kernel, by decide +kernel⟩
theorem ok_is_call (T : Tx w K mg) : GF P w K mg base CX0 3 "is_call" ["count", "call"] sp_is_call := by
  have G1 := ok_is_integer (P := P) (base := base) T
  have G2 := ok_are_offsets (P := P) (base := base) T
  refine gf0 T.f_is_call T.g_is_call sc_is_call (fun _ F => F.bindsN fun _ _ _ _ _ _ us hl => match us, hl with | [_, _], _ => rfl) (fun vs H Q E h => ?_) (fun cdv A outer s H vs Q E hr h => ?_)
  · obtain ⟨n, v, x, rfl, _⟩ := h
    rfl
  · obtain ⟨n, v, x, rfl, hx, k⟩ := h
    obtain ⟨a, o, rfl, ha, ho⟩ := hx.cl_inv
    have hr1 : Room 1 _ := hr.mono (by decide)
    have nd := sc_is_call.nd
    refine ⟨_, (pss_cons ((ps_if ((PW.pt (pw_or ((pt_not (pt_val ((pe_is "tuple" (pv 1) T.z_isinstance T.z_tuple boot_tuple))))) (pw_or1 ((pt_cmpR (op_ne) ((pe_callB call_len_seq rfl T.z_len boot_len (pa_cons (pv 1) pa_nil))) (pe_int) (nomark _))))))) ((pss_one ((ps_ret (pe_bl))))) (pss_nil))) (pss_cons ((ps_asg (pv 1) ((pg_tup rfl (pgs_cons ((pg_name (i := 2) nd rfl (Or.inl rfl))) (pgs_cons ((pg_name (i := 3) nd rfl (Or.inl rfl))) (pgs_cons ((pg_name (i := 4) nd rfl (Or.inl rfl))) (pgs_cons ((pg_name (i := 5) nd rfl (Or.inl rfl))) (pgs_cons ((pg_name (i := 6) nd rfl (Or.inl rfl))) pgs_nil))))))))) (pss_cons ((ps_if ((PW.pt (pw_or ((pt_not (pt_val ((pe_f G1 (hr1) (pass0) (pa_cons (pv 2) (pa_cons (pe_int) (pa_cons ((pe_op (op_sub) (pv 0) (pe_int))) pa_nil)))))))) (pw_or1 ((pt_not (pt_val ((pe_f G1 (hr1) (pass0) (pa_cons (pv 3) (pa_cons ((pe_op (op_add) (pv 2) (pe_int))) (pa_cons ((pe_op (op_sub) (pv 0) (pe_int))) pa_nil)))))))))))) ((pss_one ((ps_ret (pe_bl))))) (pss_nil))) (pss_one ((ps_ret ((pe_and ((pe_f G2 (hr) (pass0) (pa_cons (pv 4) pa_nil))) (pe_and ((pe_f G1 (hr1) (pass0) (pa_cons (pv 5) (pa_cons (pe_int) (pa_cons (pe_gi T.i_MAX_TICKS) pa_nil))))) (pe_one ((pe_f G1 (hr1) (pass0) (pa_cons (pv 6) (pa_cons (pv 5) (pa_cons (pe_gi T.i_MAX_TICKS) pa_nil))))))))))))))), ?_⟩
    refine ⟨_, rfl, true, is_tt ha, true, rfl, iteF ?_⟩
    refine ⟨_, rfl, _, _, rfl, .inr (SqT.of ha), rfl, _, rfl, ?_⟩
    refine iteF ⟨_, rfl, a, _, rfl, SqT.of ha, rfl, _, _, rfl, _, _, rfl, _, _, rfl, _, _, rfl, _, _, rfl, rfl, ?_⟩
    refine ⟨_, rfl, _, rfl, _, _, rfl, rfl, _, _, _, rfl, _, rfl, ?_⟩
    have fail : isCall n x = false → Q (.bl false) H := fun e => e ▸ k _ (Same.refl _)
    by_cases c1 : isInt x.c 0 (n - 1) = true
    · rw [c1]
      refine iteF ⟨_, rfl, _, rfl, _, _, rfl, rfl, _, rfl, _, _, rfl, rfl, _, _, _, rfl, _, rfl, ?_⟩
      by_cases c2 : isInt x.t (x.c + 1) (n - 1) = true
      · rw [c2]
        refine iteF ⟨_, rfl, o, _, rfl, ho, fun H1 s1 => ?_⟩
        refine ⟨_, rfl, ?_⟩
        by_cases c3 : areOffs x.o = true
        · rw [c3]
          refine iteT ⟨_, rfl, _, _, _, rfl, _, rfl, ?_⟩
          by_cases c4 : isInt x.l 0 99 = true
          · rw [c4]
            refine iteT ⟨_, rfl, _, rfl, _, _, _, rfl, ?_⟩
            have e : isCall n x = isInt x.m x.l 99 := by
              unfold isCall
              rw [c1, c2, c3, c4]
              rfl
            rw [← e]
            exact k _ s1
          · rw [Bool.eq_false_iff.mpr c4]
            refine iteF ?_
            have e : isCall n x = false := by unfold isCall; rw [Bool.eq_false_iff.mpr c4]; simp
            exact e ▸ k _ s1
        · rw [Bool.eq_false_iff.mpr c3]
          refine iteF ?_
          have e : isCall n x = false := by unfold isCall; rw [Bool.eq_false_iff.mpr c3]; simp
          exact e ▸ k _ s1
      · rw [Bool.eq_false_iff.mpr c2]
        exact iteT (fail (by unfold isCall; rw [Bool.eq_false_iff.mpr c2]; simp))
    · rw [Bool.eq_false_iff.mpr c1]
      exact iteT (fail (by unfold isCall; rw [Bool.eq_false_iff.mpr c1]; simp))
/-! ### check_system: of a system that is in order it returns None -/
def sp_check_system : Sp := fun vs H Q _ => ∃ (v : V) (s : Sys), vs = [v] ∧ Td H v (syD s) ∧ SysOk s ∧ ∀ H', Same H H' → Q .non H'
abbrev N_check_system : List Str := ["system", "count", "calls", "index", "call"]
theorem sc_check_system : FnScope N_check_system ["system"] (defScope s_check_system) := ⟨rfl, rfl, rfl, by decide +kernel, rfl, by decide +kernel, by decide +kernel⟩
theorem ok_check_system (T : Tx w K mg) : GF P w K mg base CX0 4 "check_system" ["system"] sp_check_system := by
  have G1 := ok_is_integer (P := P) (base := base) T
  have G2 := ok_is_call (P := P) (base := base) T
  refine gf0 T.f_check_system T.g_check_system sc_check_system (fun _ F => F.bindsN fun _ _ _ _ _ _ us hl => match us, hl with | [_], _ => rfl) (fun vs H Q E h => ?_) (fun cdv A outer s H vs Q E hr h => ?_)
  · obtain ⟨v, y, rfl, _⟩ := h
    rfl
  · obtain ⟨v, y, rfl, hy, ⟨o1, o2, o3, o4⟩, k⟩ := h
    obtain ⟨a, b, us, rfl, ha, hb, hu⟩ := hy.sy_inv
    have hr1 : Room 1 _ := hr.mono (by decide)
    have nd := sc_check_system.nd
    refine ⟨_, (pss_cons ((ps_if ((PW.pt (pw_or ((pt_not (pt_val ((pe_is "tuple" (pv 0) T.z_isinstance T.z_tuple boot_tuple))))) (pw_or1 ((pt_cmpR (op_ne) ((pe_callB call_len_seq rfl T.z_len boot_len (pa_cons (pv 0) pa_nil))) (pe_int) (nomark _))))))) (pss_never) (pss_nil))) (pss_cons ((ps_asg (pv 0) ((pg_tup rfl (pgs_cons ((pg_name (i := 1) nd rfl (Or.inl rfl))) (pgs_cons ((pg_name (i := 2) nd rfl (Or.inl rfl))) pgs_nil)))))) (pss_cons ((ps_if ((pt_not (pt_val ((pe_f G1 (hr1) (pass0) (pa_cons (pv 1) (pa_cons (pe_int) (pa_cons (pe_gi T.i_MAX_SERVICES) pa_nil)))))))) (pss_never) (pss_nil))) (pss_cons ((ps_if ((pt_not (pt_val ((pe_is "tuple" (pv 2) T.z_isinstance T.z_tuple boot_tuple))))) (pss_never) (pss_nil))) (pss_one (ps_for PassesOwn.never rfl (pi_enumT rfl T.z_enumerate (pa_cons (pv 2) pa_nil)) (pg_tup rfl (pgs_cons ((pg_name (i := 3) nd rfl (Or.inl rfl))) (pgs_cons ((pg_name (i := 4) nd rfl (Or.inl rfl))) pgs_nil))) (pss_one ((ps_if ((PW.pt (pw_or ((pt_cmpR (op_eq) (pv 3) (pe_gi T.i_MAX_CALLS) (nomark _))) (pw_or1 ((pt_not (pt_val ((pe_f G2 (hr) (pass0) (pa_cons (pv 1) (pa_cons (pv 4) pa_nil))))))))))) (pss_never) (pss_nil)))))))))), ?_⟩
    refine ⟨_, rfl, true, is_tt ha, true, rfl, iteF ?_⟩
    refine ⟨_, rfl, _, _, rfl, .inr (SqT.of ha), rfl, _, rfl, ?_⟩
    refine iteF ⟨_, rfl, a, _, rfl, SqT.of ha, rfl, _, _, rfl, _, _, rfl, rfl, ?_⟩
    refine ⟨_, rfl, _, _, _, rfl, _, rfl, ?_⟩
    rw [show isInt y.n 1 8 = true by unfold isInt; rw [decide_eq_true o1, decide_eq_true o2]; rfl]
    refine iteF ⟨_, rfl, true, is_tt hb, true, rfl, iteF ?_⟩
    refine ⟨_, rfl, b, us, rfl, SqT.of hb, ?_⟩
    have ll : us.length ≤ 20 := by rw [hu.len, List.length_map]; exact o3
    refine for_it (walk_enumT (xs := us)) (fun i σ H' => Same H H' ∧ ∃ v3 v4, σ = [some (.ref a), some (.int y.n), some (.ref b), v3, v4]) ⟨Same.refl _, none, none, rfl⟩ (fun i σ H' _ p => SqT.of (p.1 _ _ hb)) (fun i x σ H1 H2 hi p yl => ?_) (fun σ H' p => k _ p.1)
    obtain ⟨s1, v3, v4, rfl⟩ := p
    obtain ⟨T0, x0, y0, rfl, hT, rfl, hx, hy⟩ := yl
    cases Option.some.inj hx
    obtain ⟨d, hd, td⟩ := hu.get hy
    rw [List.getElem?_map] at hd
    cases ec : y.cs[i]? with
    | none => rw [ec] at hd; cases hd
    | some c =>
      rw [ec] at hd
      cases Option.some.inj hd
      have s2 : Same H (upd H1 T0 (.tup [.int (i : Nat), y0])) := s1.trans (Same.new hT)
      refine ⟨T0, _, rfl, SqT.of upd_same, rfl, _, _, rfl, _, _, rfl, rfl, ?_⟩
      refine ⟨_, rfl, rfl, _, rfl, ?_⟩
      rw [decide_eq_false (by intro q; have q2 := V.int.inj q; omega)]
      refine iteF ⟨_, rfl, _, rfl, _, _, c, rfl, td.mono s2.tle, fun H3 s3 => ⟨_, rfl, ?_⟩⟩
      rw [o4 c (List.mem_of_getElem? ec)]
      exact iteF ⟨s2.trans s3, _, _, rfl⟩
end
end K68
end
section
set_option Elab.async false
set_option linter.all false
set_option maxRecDepth 100000
set_option maxHeartbeats 2000000
namespace K68
open PySem PySem.Spec PyProof.Rows L2
/-! ### the calls in their tuples' order -/
def srtC (cs : List Cl) : List Cl := cs.mergeSort (PySem.W.dataLe false clD)
theorem TdAll.mem {H : Hp} {α : Type} {f : α → PyData} : ∀ {l : List (V × α)}, (∀ p ∈ l, Td H p.1 (f p.2)) → TdAll H (l.map Prod.fst) ((l.map Prod.snd).map f)
  | [], _ => .nil
  | p :: l, h => .cons (h p (List.mem_cons_self ..)) (TdAll.mem fun q hq => h q (List.mem_cons_of_mem _ hq))
theorem TdAll.zip {H : Hp} {α : Type} {f : α → PyData} : ∀ {xs : List V} {cs : List α}, TdAll H xs (cs.map f) → ∀ p ∈ xs.zip cs, Td H p.1 (f p.2)
  | _, [], _, p, hp => by simp at hp
  | xs, c :: cs, h, p, hp => by
    obtain ⟨v, r, rfl, e, g⟩ := TdAll.cons_inv h
    rcases List.mem_cons.mp (show p ∈ (v, c) :: r.zip cs from hp) with q | q
    · rw [q]; exact e
    · exact TdAll.zip g p q
theorem srt_td {H : Hp} {xs : List V} {cs : List Cl} (h : TdAll H xs (cs.map clD)) : TdAll H (srtV xs (cs.map clD)) ((srtC cs).map clD) := by
  have hl : xs.length = cs.length := by rw [h.len, List.length_map]
  have e1 : xs.zip (cs.map clD) = (xs.zip cs).map fun p => (p.1, clD p.2) := by
    exact List.zip_map_right ..
  have e2 : ((xs.zip cs).map fun p => (p.1, clD p.2)).mergeSort (PySem.W.dataLe false Prod.snd) = ((xs.zip cs).mergeSort (PySem.W.dataLe false fun p => clD p.2)).map fun p => (p.1, clD p.2) := by
    rw [List.map_mergeSort (r := PySem.W.dataLe false fun p : V × Cl => clD p.2)]
    intro a _ b _
    rfl
  have e3 : srtC cs = ((xs.zip cs).mergeSort (PySem.W.dataLe false fun p => clD p.2)).map Prod.snd := by
    unfold srtC
    rw [List.map_mergeSort (s := PySem.W.dataLe false clD), List.map_snd_zip (by omega)]
    intro a _ b _
    rfl
  unfold srtV
  rw [e1, e2, e3, List.map_map]
  exact TdAll.mem fun p hp => TdAll.zip h p (List.mem_mergeSort.mp hp)
theorem alike_cl (x y : Cl) : PySem.W.alike (clD x) (clD y) = true := by
  have h : ∀ a b : List Int, PySem.W.alikeAll (a.map PyData.int) (b.map PyData.int) = true := by
    intro a
    induction a with
    | nil => intro b; simp [PySem.W.alikeAll]
    | cons p a ih =>
      intro b
      cases b with
      | nil => simp [PySem.W.alikeAll]
      | cons q b => simp [PySem.W.alikeAll, PySem.W.alike, ih]
  simp [clD, intsD, PySem.W.alike, PySem.W.alikeAll, h]
theorem depth_ints (a : List Int) : PyData.depth (intsD a) ≤ 1 := by
  have h : PyData.depthAll (a.map PyData.int) = 0 := by
    induction a with
    | nil => rfl
    | cons p a ih => simp [PyData.depthAll, PyData.depth, ih]
  simp [intsD, PyData.depth, h]
theorem depth_cl (x : Cl) : PyData.depth (clD x) ≤ 2 := by
  have h := depth_ints x.o
  simp [clD, PyData.depth, PyData.depthAll]
  omega
theorem alike_cls (cs : List Cl) : PySem.W.AllAlike (cs.map clD) := by
  intro d hd e he
  obtain ⟨x, _, rfl⟩ := List.mem_map.mp hd
  obtain ⟨y, _, rfl⟩ := List.mem_map.mp he
  exact alike_cl x y
theorem sortable_cls (cs : List Cl) : PySem.W.Sortable (cs.map clD) := by
  refine .inl fun d hd => ?_
  obtain ⟨x, _, rfl⟩ := List.mem_map.mp hd
  exact ⟨_, _, rfl⟩
theorem depth_cls (cs : List Cl) : ∀ d ∈ cs.map clD, PyData.depth d ≤ 20 := by
  intro d hd
  obtain ⟨x, _, rfl⟩ := List.mem_map.mp hd
  exact Nat.le_trans (depth_cl x) (by decide)
/-! ### dicts by their keys -/
theorem putK_keys {κ : Type} [DecidableEq κ] (kvs : List (κ × V)) (k : κ) (v : V) : (putK kvs k v).map (·.1) = if k ∈ kvs.map (·.1) then kvs.map (·.1) else kvs.map (·.1) ++ [k] := by
  unfold putK
  have e : (kvs.any fun kv => decide (kv.1 = k)) = decide (k ∈ kvs.map (·.1)) := by
    rw [Bool.eq_iff_iff]
    simp
  rw [e]
  by_cases h : k ∈ kvs.map (·.1)
  · rw [if_pos h, if_pos (decide_eq_true h), List.map_map]
    refine List.map_congr_left fun p _ => ?_
    show (if p.1 = k then (p.1, v) else p).1 = p.1
    by_cases q : p.1 = k
    · rw [if_pos q]
    · rw [if_neg q]
  · rw [if_neg h, if_neg (by rw [decide_eq_false h]; exact Bool.false_ne_true), List.map_append]
    rfl
theorem valV_iff {κ : Type} [DecidableEq κ] (kvs : List (κ × V)) (k : κ) : (valV kvs k).isSome = true ↔ k ∈ kvs.map (·.1) := by
  rw [← valV_any]
  simp
/-! ### what is reached: the mirror -/
def fStep (acc : List Int) (c : Cl) : List Int := if c.c ∈ acc then (if c.t ∈ acc then acc else acc ++ [c.t]) else acc
def fnd (cs : List Cl) : List Int := (srtC cs).foldl fStep [0]
def rch (cs : List Cl) : List Int := (fnd cs).mergeSort (fun x y => decide (x ≤ y))
theorem fnd_len : ∀ (l : List Cl) (a : List Int), (l.foldl fStep a).length ≤ a.length + l.length
  | [], a => Nat.le_refl _
  | c :: l, a => by
    have h := fnd_len l (fStep a c)
    have h2 : (fStep a c).length ≤ a.length + 1 := by
      unfold fStep
      split
      · split
        · omega
        · simp
      · omega
    simp only [List.foldl_cons, List.length_cons] at h ⊢
    omega
theorem fStep_def (acc : List Int) (c : Cl) : fStep acc c = if c.c ∈ acc then (if c.t ∈ acc then acc else acc ++ [c.t]) else acc := rfl
theorem key_mem {x : Int} {l : List Int} : (Sum.inl x : L2.Key) ∈ l.map (Sum.inl : Int → L2.Key) ↔ x ∈ l := by
  constructor
  · intro z
    obtain ⟨z1, z2, z3⟩ := List.mem_map.mp z
    cases z3
    exact z2
  · intro z
    exact List.mem_map.mpr ⟨_, z, rfl⟩
theorem valK_has {kvs : List (L2.Key × V)} {l : List Int} (e : kvs.map (·.1) = l.map Sum.inl) (x : Int) : (valV kvs (Sum.inl x)).isSome = decide (x ∈ l) := by
  rw [Bool.eq_iff_iff, valV_iff, e, decide_eq_true_iff]
  exact key_mem
theorem fStep_sub {a : List Int} {c : Cl} {x : Int} (h : x ∈ a) : x ∈ fStep a c := by
  unfold fStep
  split
  · split
    · exact h
    · exact List.mem_append_left _ h
  · exact h
theorem foldl_sub : ∀ {l : List Cl} {a : List Int} {x : Int}, x ∈ a → x ∈ l.foldl fStep a
  | [], _, _, h => h
  | c :: l, _, _, h => foldl_sub (l := l) (fStep_sub h)
theorem fnd_by : ∀ {l : List Cl} {a : List Int} {x : Int}, x ∈ l.foldl fStep a → x ∈ a ∨ ∃ c ∈ l, c.t = x ∧ c.c ∈ l.foldl fStep a
  | [], _, _, h => .inl h
  | c :: l, a, x, h => by
    rcases fnd_by (l := l) (a := fStep a c) h with q | ⟨d, hd, e1, e2⟩
    · unfold fStep at q
      split at q
      · rename_i hc
        split at q
        · exact .inl q
        · rcases List.mem_append.mp q with z | z
          · exact .inl z
          · exact .inr ⟨c, List.mem_cons_self .., (List.mem_singleton.mp z).symm, foldl_sub (l := c :: l) hc⟩
      · exact .inl q
    · exact .inr ⟨d, List.mem_cons_of_mem _ hd, e1, e2⟩
theorem fnd_nodup : ∀ {l : List Cl} {a : List Int}, a.Nodup → (l.foldl fStep a).Nodup
  | [], _, h => h
  | c :: l, a, h => fnd_nodup (l := l) (by
    unfold fStep
    split
    · split
      · exact h
      · rename_i q
        exact List.nodup_append.mpr ⟨h, by simp, fun x hx y hy => by
          cases List.mem_singleton.mp hy
          intro z
          exact q (z ▸ hx)⟩
    · exact h)
theorem srtC_mem {cs : List Cl} {c : Cl} : c ∈ srtC cs ↔ c ∈ cs := List.mem_mergeSort
theorem srtC_len (cs : List Cl) : (srtC cs).length = cs.length := List.length_mergeSort ..
theorem rch_mem {cs : List Cl} {x : Int} : x ∈ rch cs ↔ x ∈ fnd cs := List.mem_mergeSort
theorem rch_zero (cs : List Cl) : (0 : Int) ∈ rch cs := rch_mem.mpr (foldl_sub (by simp))
theorem rch_by {cs : List Cl} {x : Int} (h : x ∈ rch cs) : x = 0 ∨ ∃ c ∈ cs, c.t = x ∧ c.c ∈ rch cs := by
  rcases fnd_by (rch_mem.mp h) with q | ⟨c, hc, e1, e2⟩
  · exact .inl (List.mem_singleton.mp q)
  · exact .inr ⟨c, srtC_mem.mp hc, e1, rch_mem.mpr e2⟩
theorem rch_len (cs : List Cl) : (rch cs).length ≤ cs.length + 1 := by
  have h := fnd_len (srtC cs) [0]
  rw [srtC_len] at h
  unfold rch
  rw [List.length_mergeSort]
  simp only [List.length_singleton] at h
  unfold fnd
  omega
theorem rch_sorted (cs : List Cl) : (rch cs).Pairwise (· ≤ ·) := by
  have h := List.pairwise_mergeSort (le := fun x y : Int => decide (x ≤ y)) (fun a b c h1 h2 => by simp at *; omega) (fun a b => by simp; omega) (fnd cs)
  exact h.imp fun h => of_decide_eq_true h
theorem rch_nodup (cs : List Cl) : (rch cs).Nodup := (List.mergeSort_perm _ _).nodup_iff.mpr (fnd_nodup (by simp))
section
variable {P : Program} {w : World} {K : PySem.W.Frag} {mg : Str → Option Value} {base : Heap}
def sp_reached : Sp := fun vs H Q _ => ∃ (v : V) (s : Sys), vs = [v] ∧ Td H v (syD s) ∧ s.cs.length ≤ 20 ∧ ∀ p H', Same H H' → H p = none → H' p = some (.lst ((rch s.cs).map .int)) → Q (.ref p) H'
abbrev N_reached : List Str := ["system", "found", "caller", "target", "offsets", "least", "most"]
theorem sc_reached : FnScope N_reached ["system"] (defScope s_reached) := ⟨rfl, rfl, rfl, by decide +kernel, rfl, by decide +kernel, by decide +kernel⟩
theorem ok_reached (T : Tx w K mg) : GF P w K mg base CX0 1 "reached" ["system"] sp_reached := by
  refine gf0 T.f_reached T.g_reached sc_reached (fun _ F => F.bindsN fun _ _ _ _ _ _ us hl => match us, hl with | [_], _ => rfl) (fun vs H Q E h => ?_) (fun cdv A outer s H vs Q E hr h => ?_)
  · obtain ⟨v, y, rfl, _⟩ := h
    rfl
  · obtain ⟨v, y, rfl, hy, h20, k⟩ := h
    obtain ⟨a, b, us, rfl, ha, hb, hu⟩ := hy.sy_inv
    have nd := sc_reached.nd
    have hu1 := hu_of hr
    refine ⟨_, (pss_cons ((ps_set (i := 1) nd rfl (Or.inl rfl) (pe_disp (pps_cons pe_int pe_bl pps_nil) rfl rfl (fun z => by cases z) (by decide)))) (pss_cons (ps_for PassesOwn.never rfl (pi_list (pe_callB (call_sortD hr.units) rfl T.z_sorted boot_sorted (pa_cons ((pe_ix ix_tup (pv 0) (pe_int) (fun _ _ => rfl))) pa_nil))) (pg_tup rfl (pgs_cons ((pg_name (i := 2) nd rfl (Or.inl rfl))) (pgs_cons ((pg_name (i := 3) nd rfl (Or.inl rfl))) (pgs_cons ((pg_name (i := 4) nd rfl (Or.inl rfl))) (pgs_cons ((pg_name (i := 5) nd rfl (Or.inl rfl))) (pgs_cons ((pg_name (i := 6) nd rfl (Or.inl rfl))) pgs_nil)))))) (pss_one ((ps_if (pt_cmp (pc_din hu1 (pv 2) (pv 1)) rfl) ((pss_one (ps_dput hu1 (pv 1) (pv 3) pe_bl rfl))) (pss_nil))))) (pss_one ((ps_ret ((pe_callB (call_sortedDI rfl) rfl T.z_sorted boot_sorted (pa_cons (pv 1) pa_nil)))))))), ?_⟩
    refine fun d hd => ⟨upd_same, [(Sum.inl 0, .bl true)], rfl, by decide, ?_⟩
    have s0 : Same H (upd (upd H d (.dK [])) d (.dK (mergeK [] [(Sum.inl 0, V.bl true)]))) := same_up hd (same_up hd (Same.refl _))
    refine ⟨_, rfl, a, _, _, _, rfl, rfl, SqT.of (s0 _ _ ha), rfl, b, us, y.cs.map clD, rfl, SqT.of (s0 _ _ hb), (hu.mono s0.tle).dp, alike_cls _, sortable_cls _, depth_cls _, fun l hl => ?_⟩
    have nld : l ≠ d := fun q => by rw [q, upd_same] at hl; cases hl
    have hl0 : H l = none := s0.free hl
    have s1 : Same H (upd (upd (upd H d (.dK [])) d (.dK (mergeK [] [(Sum.inl 0, V.bl true)]))) l (.lst (srtV us (y.cs.map clD)))) := same_up hl0 s0
    have td := srt_td hu
    refine ⟨l, rfl, ⟨_, SqL.of upd_same⟩, for_list (K := K) (a := l) (xs := srtV us (y.cs.map clD)) (fun i σ H' => Same H H' ∧ H' l = some (.lst (srtV us (y.cs.map clD))) ∧ (∃ v2 v3 v4 v5 v6, σ = [some (.ref a), some (.ref d), v2, v3, v4, v5, v6]) ∧
      ∃ kvs, H' d = some (.dK kvs) ∧ kvs.map (·.1) = (((srtC y.cs).take i).foldl fStep [0]).map Sum.inl) ⟨s1, upd_same, ⟨none, none, none, none, none, rfl⟩, _, upd_ne' hl upd_same, rfl⟩ (fun i σ H' _ p => SqL.of p.2.1) (fun i x σ H1 hx p => ?_) (fun σ H1 p => ?_)⟩
    · obtain ⟨s2, hl2, ⟨v2, v3, v4, v5, v6, rfl⟩, kvs, hdk, ek⟩ := p
      obtain ⟨e, he, te⟩ := td.get hx
      rw [List.getElem?_map] at he
      cases ec : (srtC y.cs)[i]? with
      | none => rw [ec] at he; cases he
      | some c =>
        rw [ec] at he
        cases Option.some.inj he
        obtain ⟨q, o, rfl, hq, ho⟩ := te.cl_inv
        have hq1 := s2 _ _ hq
        have lk : kvs.length ≤ 21 := by
          have e1 := congrArg List.length ek
          rw [List.length_map, List.length_map] at e1
          have e2 := fnd_len ((srtC y.cs).take i) [0]
          have e3 : ((srtC y.cs).take i).length ≤ (srtC y.cs).length := by rw [List.length_take]; omega
          rw [srtC_len] at e3
          simp only [List.length_singleton] at e2
          omega
        have st : ((srtC y.cs).take (i + 1)).foldl fStep [0] = fStep (((srtC y.cs).take i).foldl fStep [0]) c := by
          rw [take_more ec, List.foldl_append]
          rfl
        refine ⟨q, _, rfl, SqT.of hq1, rfl, _, _, rfl, _, _, rfl, _, _, rfl, _, _, rfl, _, _, rfl, rfl, ?_⟩
        refine ⟨_, rfl, _, rfl, d, _, rfl, DGet.k (k := Sum.inl c.c) hdk, _, rfl, ?_⟩
        rw [valK_has ek]
        by_cases hc : c.c ∈ (((srtC y.cs).take i).foldl fStep [0])
        · rw [decide_eq_true hc]
          refine iteT ⟨_, rfl, _, rfl, d, _, rfl, DPut.k (k := Sum.inl c.t) hdk (Nat.lt_of_le_of_lt lk (by decide)), ?_⟩
          have ndl : l ≠ d := nld
          refine ⟨same_up hd s2, by rw [upd_ne ndl]; exact hl2, ⟨_, _, _, _, _, rfl⟩, _, upd_same, ?_⟩
          rw [putK_keys, ek, st, fStep_def, if_pos hc]
          by_cases hc2 : c.t ∈ (((srtC y.cs).take i).foldl fStep [0])
          · rw [if_pos hc2, if_pos (key_mem.mpr hc2)]
          · rw [if_neg hc2, if_neg (fun z => hc2 (key_mem.mp z)), List.map_append]
            rfl
        · rw [decide_eq_false hc]
          refine iteF ⟨s2, hl2, ⟨_, _, _, _, _, rfl⟩, kvs, hdk, ?_⟩
          rw [ek, st, fStep_def, if_neg hc]
    · obtain ⟨s2, hl2, ⟨v2, v3, v4, v5, v6, rfl⟩, kvs, hdk, ek⟩ := p
      have e0 : (srtV us (y.cs.map clD)).length = (srtC y.cs).length := by rw [td.len, List.length_map]
      rw [e0, List.take_length] at ek
      refine ⟨_, rfl, d, kvs, fnd y.cs, rfl, .inl hdk, ek, ?_, fun ys p hp hs hn => ?_⟩
      · have e2 := fnd_len (srtC y.cs) [0]
        rw [srtC_len] at e2
        simp only [List.length_singleton] at e2
        unfold fnd
        omega
      · rw [PySem.W.Srt.up hp hs]
        exact k p _ (s2.trans (Same.new hn)) (s2.free hn) upd_same
end
end K68
end
section
set_option Elab.async false
set_option linter.all false
set_option maxRecDepth 100000
set_option maxHeartbeats 2000000
namespace K68
open PySem PySem.Spec PyProof.Rows L2
/-! ### renumbered -/
def ren (k : Int) (x : Cl) : Cl := ⟨x.c - (if x.c > k then 1 else 0), x.t - (if x.t > k then 1 else 0), x.o, x.l, x.m⟩
section
variable {P : Program} {w : World} {K : PySem.W.Frag} {mg : Str → Option Value} {base : Heap}
theorem b2 (p : Prop) [Decidable p] : (if decide p = true then (1 : Int) else 0) = if p then 1 else 0 := by
  by_cases h : p
  · rw [if_pos h, decide_eq_true h, if_pos rfl]
  · rw [if_neg h, decide_eq_false h, if_neg Bool.false_ne_true]
def sp_renumbered : Sp := fun vs H Q _ => ∃ (v : V) (x : Cl) (k : Int), vs = [v, .int k] ∧ Td H v (clD x) ∧ ∀ v' H', Same H H' → Td H' v' (clD (ren k x)) → Q v' H'
abbrev N_renumbered : List Str := ["call", "service", "caller", "target", "offsets", "least", "most"]
theorem sc_renumbered : FnScope N_renumbered ["call", "service"] (defScope s_renumbered) := ⟨rfl, rfl, rfl, by decide +kernel, rfl, by decide +kernel, by decide +kernel⟩
theorem ok_renumbered (T : Tx w K mg) : GF P w K mg base CX0 1 "renumbered" ["call", "service"] sp_renumbered := by
  refine gf0 T.f_renumbered T.g_renumbered sc_renumbered (fun _ F => F.bindsN fun _ _ _ _ _ _ us hl => match us, hl with | [_, _], _ => rfl) (fun vs H Q E h => ?_) (fun cdv A outer s H vs Q E hr h => ?_)
  · obtain ⟨v, x, y, rfl, _⟩ := h
    rfl
  · obtain ⟨v, x, k, rfl, hx, q⟩ := h
    obtain ⟨a, o, rfl, ha, ho⟩ := hx.cl_inv
    have nd := sc_renumbered.nd
    refine ⟨_, (pss_cons ((ps_asg (pv 0) ((pg_tup rfl (pgs_cons ((pg_name (i := 2) nd rfl (Or.inl rfl))) (pgs_cons ((pg_name (i := 3) nd rfl (Or.inl rfl))) (pgs_cons ((pg_name (i := 4) nd rfl (Or.inl rfl))) (pgs_cons ((pg_name (i := 5) nd rfl (Or.inl rfl))) (pgs_cons ((pg_name (i := 6) nd rfl (Or.inl rfl))) pgs_nil))))))))) (pss_one ((ps_ret ((pe_tup (pa_cons ((pe_op (op_sub) (pv 2) ((pe_callTy (call_int1) rfl T.z_int boot_int (pa_cons ((pe_cmpR (op_gt) (pv 2) (pv 1) (nomark _))) pa_nil))))) (pa_cons ((pe_op (op_sub) (pv 3) ((pe_callTy (call_int1) rfl T.z_int boot_int (pa_cons ((pe_cmpR (op_gt) (pv 3) (pv 1) (nomark _))) pa_nil))))) (pa_cons (pv 4) (pa_cons (pv 5) (pa_cons (pv 6) pa_nil))))))))))), ?_⟩
    refine ⟨_, rfl, a, _, rfl, SqT.of ha, rfl, _, _, rfl, _, _, rfl, _, _, rfl, _, _, rfl, _, _, rfl, rfl, ?_⟩
    refine ⟨_, rfl, _, rfl, _, rfl, _, _, rfl, rfl, .inr ⟨_, rfl, _, _, rfl, rfl, ?_⟩⟩
    refine ⟨_, rfl, _, rfl, _, rfl, _, _, rfl, rfl, .inr ⟨_, rfl, _, _, rfl, rfl, ?_⟩⟩
    refine ⟨_, rfl, _, rfl, _, rfl, by show 5 ≤ sizeLine; decide, fun p hp => ?_⟩
    refine q _ _ (Same.new hp) (Td.cl_mk (o := o) (x := ren k x) (upd_same.trans ?_) (upd_ne' hp ho))
    rw [b2, b2]
    rfl
/-! ### calls_into -/
def inTo (cs : List Cl) (k : Int) (p : Cl × Nat) : Bool := decide (p.1.t = k) && decide (p.1.c ∈ rch cs)
def into (cs : List Cl) (k : Int) : List (Cl × Nat) := cs.zipIdx.filter (inTo cs k)
def icD (p : Cl × Nat) : PyData := .tuple [.int (p.2 : Nat), clD p.1]
theorem zi_more {cs : List Cl} {i : Nat} {c : Cl} (h : cs[i]? = some c) : cs.zipIdx.take (i + 1) = cs.zipIdx.take i ++ [(c, i)] := take_more (by rw [List.getElem?_zipIdx, h]; simp)
theorem tle_lst {H : Hp} {D : Addr} {xs : List V} {o : HO} (h : H D = some (.lst xs)) : Tle H (upd H D o) := fun a ys e => by
  rw [upd_ne (ne_of e h (by intro z; cases z))]
  exact e
def sp_calls_into : Sp := fun vs H Q _ => ∃ (v : V) (s : Sys) (k : Int), vs = [v, .int k] ∧ Td H v (syD s) ∧ s.cs.length ≤ 20 ∧ ∀ p H' us, Same H H' → H p = none → H' p = some (.lst us) → TdAll H' us ((into s.cs k).map icD) → Q (.ref p) H'
abbrev N_calls_into : List Str := ["system", "service", "known", "index", "call"]
theorem sc_calls_into : FnScope N_calls_into ["system", "service"] (defScope s_calls_into) := ⟨rfl, rfl, rfl, by decide +kernel, rfl, by decide +kernel, by decide +kernel⟩
theorem ok_calls_into (T : Tx w K mg) : GF P w K mg base CX0 2 "calls_into" ["system", "service"] sp_calls_into := by
  have G1 := ok_reached (P := P) (base := base) T
  refine gf0 T.f_calls_into T.g_calls_into sc_calls_into (fun _ F => F.bindsN fun _ _ _ _ _ _ us hl => match us, hl with | [_, _], _ => rfl) (fun vs H Q E h => ?_) (fun cdv A outer s H vs Q E hr h => ?_)
  · obtain ⟨v, x, y, rfl, _⟩ := h
    rfl
  · obtain ⟨v, y, k, rfl, hy, h20, q⟩ := h
    obtain ⟨a, b, us, rfl, ha, hb, hu⟩ := hy.sy_inv
    have nd := sc_calls_into.nd
    refine ⟨_, (pss_cons ((ps_set (i := 2) nd rfl (Or.inr rfl) ((pe_f G1 (hr) (pass0) (pa_cons (pv 0) pa_nil))))) (pss_one ((ps_ret (pe_lc (own := [("index", 3), ("call", 4)]) (g := (gTup K 2 (gCons (gName 3) (gCons (gName 4) gNil)))) rfl nd (pi_enumT rfl T.z_enumerate (pa_cons ((pe_ix ix_tup (pv 0) (pe_int) (fun _ _ => rfl))) pa_nil)) (blkOk_by (N := N_calls_into) (sc := defScope s_calls_into) (by decide +kernel)) (fun _ _ _ _ _ => (pg_tup rfl (pgs_cons ((pg_name (i := 3) nd rfl (Or.inl rfl))) (pgs_cons ((pg_name (i := 4) nd rfl (Or.inl rfl))) pgs_nil))))
        (fun _ _ _ _ _ => pts_one (PW.pt (pw_and ((pt_cmpR (op_eq) ((pe_ix ix_tupS (pv 4) (pe_int) (fun _ _ => rfl))) (pv 1) (nomark _))) (pw_and1 ((pt_cmpR (op_inI) ((pe_ix ix_tupS (pv 4) (pe_int) (fun _ _ => rfl))) (pv 2) (by rfl))))))) (fun _ _ _ _ _ => (pe_tup (pa_cons (pv 3) (pa_cons (pv 4) pa_nil))))))))), ?_⟩
    refine ⟨_, rfl, .ref a, y, rfl, hy, h20, fun l H1 s1 nl hl => ?_⟩
    have ha1 := s1 _ _ ha
    have hb1 := s1 _ _ hb
    refine ⟨_, rfl, a, _, _, _, rfl, rfl, SqT.of ha1, rfl, b, us, rfl, SqT.of hb1, fun D hD => ?_⟩
    refine lc_s (walk_enumT (xs := us)) hD (fun i acc H' => TdAll H' acc (((y.cs.zipIdx.take i).filter (inTo y.cs k)).map icD)) .nil (fun H2 s2 => SqT.of (s2 _ _ hb1)) (fun i x H2 H2' acc hi s2 hacc lacc acc1 yl => ?_) (fun H2 acc s2 hacc acc1 => ?_)
    · obtain ⟨T0, x0, y0, rfl, hT, rfl, hx, hyy⟩ := yl
      cases Option.some.inj hx
      obtain ⟨d, hd, td⟩ := hu.get hyy
      rw [List.getElem?_map] at hd
      cases ec : y.cs[i]? with
      | none => rw [ec] at hd; cases hd
      | some c =>
        rw [ec] at hd
        cases Option.some.inj hd
        have s3 : Same H (upd H2 T0 (.tup [.int (i : Nat), y0])) := (s1.trans s2).trans (Same.new hT)
        obtain ⟨e, o, rfl, he, ho⟩ := td.cl_inv
        have he3 := s3 _ _ he
        have hl3 : (upd H2 T0 (.tup [.int (i : Nat), V.ref e])) l = _ := ((s2.trans (Same.new hT)) _ _ hl)
        have hD3 : (upd H2 T0 (.tup [.int (i : Nat), V.ref e])) D = some (.lst acc) := upd_ne' hT hacc
        have hi2 : i < sizeLine := by
          rw [hu.len, List.length_map] at hi
          exact Nat.lt_of_lt_of_le hi (Nat.le_trans h20 (by decide))
        have acc3 := acc1.mono (Same.new (o := HO.tup [.int (i : Nat), V.ref e]) hT).tle
        refine ⟨T0, _, rfl, SqT.of upd_same, rfl, _, _, rfl, _, _, rfl, rfl, rfl, ?_⟩
        refine ⟨_, rfl, e, _, _, _, rfl, rfl, he3, rfl, _, rfl, rfl, _, rfl, ?_⟩
        have step : ((y.cs.zipIdx.take (i + 1)).filter (inTo y.cs k)).map icD = (((y.cs.zipIdx.take i).filter (inTo y.cs k)).map icD) ++ (if inTo y.cs k (c, i) = true then [icD (c, i)] else []) := by
          rw [zi_more ec, List.filter_append, List.map_append]
          congr 1
          rw [List.filter_cons]
          split <;> simp_all
        by_cases c1 : c.t = k
        · rw [decide_eq_true (by rw [c1])]
          refine iteT ⟨_, rfl, e, _, _, _, rfl, rfl, he3, rfl, _, rfl, _, l, _, rfl, rfl, .inl hl3, _, rfl, ?_⟩
          by_cases c2 : c.c ∈ rch y.cs
          · rw [decide_eq_true c2]
            refine iteT ⟨_, rfl, _, rfl, by show 2 ≤ sizeLine; decide, fun p hp => ?_⟩
            refine LcP.push hD ((s2.trans (Same.new hT)).trans (Same.new hp)) (upd_ne' hp hD3) lacc hi2 ?_
            have e1 : inTo y.cs k (c, i) = true := by unfold inTo; rw [decide_eq_true c1, decide_eq_true c2]; rfl
            show TdAll _ _ _
            rw [step, if_pos e1]
            refine TdAll.append ((acc3.mono (Same.new hp).tle).mono (tle_lst (upd_ne' hp hD3))) (.cons ?_ .nil)
            refine Td.mono (tle_lst (upd_ne' hp hD3)) (.tup upd_same (.cons (.int _) (.cons ((td.mono s3.tle).mono (Same.new hp).tle) .nil)))
          · rw [decide_eq_false c2]
            refine iteF (LcP.skip (s2.trans (Same.new hT)) hD3 lacc ?_)
            have e1 : inTo y.cs k (c, i) = false := by unfold inTo; rw [decide_eq_false c2]; simp
            show TdAll _ _ _
            rw [step, if_neg (by rw [e1]; exact Bool.false_ne_true), List.append_nil]
            exact acc3
        · rw [decide_eq_false (fun z => c1 (V.int.inj z))]
          refine iteF (iteF (LcP.skip (s2.trans (Same.new hT)) hD3 lacc ?_))
          have e1 : inTo y.cs k (c, i) = false := by unfold inTo; rw [decide_eq_false c1]; simp
          show TdAll _ _ _
          rw [step, if_neg (by rw [e1]; exact Bool.false_ne_true), List.append_nil]
          exact acc3
    · have e0 : us.length = y.cs.zipIdx.length := by rw [hu.len, List.length_map, List.length_zipIdx]
      rw [e0, List.take_length] at acc1
      exact q D H2 acc (s1.trans s2) (s1.free hD) hacc acc1
end
end K68
end
section
set_option Elab.async false
set_option linter.all false
set_option maxRecDepth 100000
set_option maxHeartbeats 2000000
namespace K68
open PySem PySem.Spec PyProof.Rows L2
/-! ### attributes by name -/
theorem lk_here {k : Str} {v : V} {r : List (Str × V)} : List.lookup k ((k, v) :: r) = some v := by
  have e : (k == k) = true := beq_self_eq_true k
  simp only [List.lookup, e]
theorem lk_past {k g : Str} {v : V} {r : List (Str × V)} (h : (k == g) = false) : List.lookup k ((g, v) :: r) = List.lookup k r := by
  simp only [List.lookup, h]
theorem put_here {f : Str} {v x : V} {r : List (Str × V)} : putF f v ((f, x) :: r) = (f, v) :: r := if_pos rfl
theorem put_past {f g : Str} {v x : V} {r : List (Str × V)} (h : ¬ g = f) : putF f v ((g, x) :: r) = (g, x) :: putF f v r := if_neg h
/-! ### the table -/
def tabF (v : V) (l g st : Addr) : List (Str × V) := [("system", v), ("services", .ref l), ("greatest", .ref g), ("steps", .ref st)]
section
variable {v : V} {l g st : Addr}
theorem tf_system : (tabF v l g st).lookup ("system" : Str) = some v := lk_here
theorem tf_services : (tabF v l g st).lookup ("services" : Str) = some (.ref l) := (lk_past (by decide +kernel)).trans lk_here
theorem tf_greatest : (tabF v l g st).lookup ("greatest" : Str) = some (.ref g) := (lk_past (by decide +kernel)).trans ((lk_past (by decide +kernel)).trans lk_here)
theorem tf_steps : (tabF v l g st).lookup ("steps" : Str) = some (.ref st) := (lk_past (by decide +kernel)).trans ((lk_past (by decide +kernel)).trans ((lk_past (by decide +kernel)).trans lk_here))
theorem tf_later : (tabF v l g st).lookup ("enter_later" : Str) = none := (lk_past (by decide +kernel)).trans ((lk_past (by decide +kernel)).trans ((lk_past (by decide +kernel)).trans ((lk_past (by decide +kernel)).trans rfl)))
theorem tf_earlier : (tabF v l g st).lookup ("enter_earlier" : Str) = none := (lk_past (by decide +kernel)).trans ((lk_past (by decide +kernel)).trans ((lk_past (by decide +kernel)).trans ((lk_past (by decide +kernel)).trans rfl)))
end
def keyL (a b : Int) : List L2.Key := [Sum.inl a, Sum.inl b]
theorem putK_len {κ : Type} [DecidableEq κ] (kvs : List (κ × V)) (k : κ) (v : V) : (putK kvs k v).length ≤ kvs.length + 1 := by
  unfold putK
  split
  · rw [List.length_map]; omega
  · simp
/-- the best of the values of f: the first of the greatest -/
def bStep (f : Cl → Int) (b : Option Int) (c : Cl) : Option Int := match b with
  | none => some (f c)
  | some x => if f c > x then some (f c) else some x
def bestF (f : Cl → Int) (l : List Cl) : Option Int := l.foldl (bStep f) none
def BestAt (H : Hp) (v : V) : Option Int → Prop
  | none => v = .non
  | some x => ∃ bt q, v = .ref bt ∧ H bt = some (.tup [.int x, .ref q])
theorem BestAt.mono {H H' : Hp} {v : V} (s : Same H H') : ∀ {b : Option Int}, BestAt H v b → BestAt H' v b
  | none, h => h
  | some _, ⟨bt, q, e, h⟩ => ⟨bt, q, e, s _ _ h⟩
theorem bStep_ne (f : Cl → Int) (b : Option Int) (c : Cl) : ∃ z, bStep f b c = some z := by
  cases b with
  | none => exact ⟨_, rfl⟩
  | some x =>
    unfold bStep
    by_cases h : f c > x
    · exact ⟨f c, by simp [h]⟩
    · exact ⟨x, by simp [h]⟩
theorem bestF_some (f : Cl → Int) : ∀ {l : List Cl}, l ≠ [] → ∃ z, bestF f l = some z := by
  intro l
  rcases List.eq_nil_or_concat l with h | ⟨r, x, h⟩
  · intro n; exact absurd h n
  · intro _
    rw [h]
    unfold bestF
    rw [List.concat_eq_append, List.foldl_append]
    exact bStep_ne f _ x
def lastI (o : List Int) : Int := o.getLastD 0
def headI (o : List Int) : Int := o.headD 0
theorem atI_last1 {o : List Int} (h : o ≠ []) : atI (o.map V.int) (-1) = some (.int (lastI o)) := by
  rcases List.eq_nil_or_concat o with e | ⟨r, x, e⟩
  · exact absurd e h
  · subst e
    have l : (List.map V.int (r.concat x)).length = r.length + 1 := by simp
    unfold atI
    have e2 : ixN (r.length + 1) (-1) = some r.length := by
      unfold ixN
      rw [if_neg (by omega)]
      rw [if_pos (by omega)]
      congr 1
      omega
    rw [l, e2]
    show (List.map V.int (r.concat x))[r.length]? = _
    unfold lastI
    rw [List.concat_eq_append, List.map_append, List.getElem?_append_right (by simp)]
    simp
theorem atI_head1 {o : List Int} (h : o ≠ []) : atI (o.map V.int) 0 = some (.int (headI o)) := by
  cases o with
  | nil => exact absurd rfl h
  | cons x r => exact atI_nat (j := 0) rfl
def fLate (tab : Int → Int → Int) (o : Int) (c : Cl) : Int := tab c.c o + lastI c.o + c.m
def fEarly (tab : Int → Int → Int) (o : Int) (c : Cl) : Int := tab o c.c - headI c.o - c.l
structure DtAt (K : PySem.W.Frag) (H : Hp) (p dx : Addr) (v : V) (s : Sys) (l g st : Addr) (kvs ks : List (List L2.Key × V)) : Prop where
  ins : H p = some (.ins (aD K) dx (tabF v l g st))
  sy : Td H v (syD s)
  ls : H l = some (.lst ((rch s.cs).map .int))
  gr : H g = some (.dT kvs)
  hst : H st = some (.dT ks)
  ne : g ≠ st
theorem DtAt.mono {K : PySem.W.Frag} {H H' : Hp} {p dx : Addr} {v : V} {s : Sys} {l g st : Addr} {kvs ks : List (List L2.Key × V)} (h : DtAt K H p dx v s l g st kvs ks) (q : Same H H') : DtAt K H' p dx v s l g st kvs ks :=
  ⟨q _ _ h.ins, h.sy.mono q.tle, q _ _ h.ls, q _ _ h.gr, q _ _ h.hst, h.ne⟩
section
variable {P : Program} {w : World} {K : PySem.W.Frag} {mg : Str → Option Value} {base : Heap}
def sp_enter_later (K : PySem.W.Frag) : Sp := fun vs H Q _ => ∃ (p dx : Addr) (v : V) (s : Sys) (l g st : Addr) (kvs ks : List (List L2.Key × V)) (k o : Int) (tab : Int → Int → Int) (z : Int), vs = [.ref p, .int k, .int o] ∧ DtAt K H p dx v s l g st kvs ks ∧
  s.cs.length ≤ 20 ∧ kvs.length < 1000 ∧ ks.length < 1000 ∧ (∀ q ∈ into s.cs k, valV kvs (keyL q.1.c o) = some (.int (tab q.1.c o)) ∧ q.1.o ≠ []) ∧ bestF (fLate tab o) ((into s.cs k).map (·.1)) = some z ∧
  ∀ H' ks', (∀ b x, H b = some x → b ≠ g → b ≠ st → H' b = some x) → H' g = some (.dT (putK kvs (keyL k o) (.int z))) → H' st = some (.dT ks') → ks'.length ≤ ks.length + 1 → Q .non H'
abbrev N_DifferenceTable_enter_later : List Str := ["self", "service", "other", "best", "index", "caller", "target", "offsets", "least", "most", "value"]
theorem sc_DifferenceTable_enter_later : FnScope N_DifferenceTable_enter_later ["self", "service", "other"] (defScope s_DifferenceTable_enter_later) := ⟨rfl, rfl, rfl, by decide +kernel, rfl, by decide +kernel, by decide +kernel⟩
theorem ok_enter_later (T : Tx w K mg) : GM P w K mg base CX0 3 (aD K) (He.ma K (aD K) "enter_later") ["self", "service", "other"] (sp_enter_later K) := by
  have G2 := ok_calls_into (P := P) (base := base) T
  refine gm0 T.f_DifferenceTable_enter_later sc_DifferenceTable_enter_later (fun _ F => F.bindsN fun _ _ _ _ _ _ us hl => match us, hl with | [_, _, _], _ => rfl) (fun vs H Q E h => ?_) (fun cdv A outer s H vs Q E hr h => ?_)
  · obtain ⟨p, dx, v, s, l, g, st, kvs, ks, k, o, tab, z, rfl, _⟩ := h
    rfl
  · obtain ⟨p, dx, v, y, l, g, st, kvs, ks, k, o, tab, z, rfl, TA, h20, hk, hk2, hq, hz, q⟩ := h
    have nd := sc_DifferenceTable_enter_later.nd
    have hu := hu_of hr
    have cD := T.c_DifferenceTable
    refine ⟨_, (pss_cons ((ps_set (i := 3) nd rfl (Or.inl rfl) (pe_non))) (pss_cons (ps_for PassesOwn.never rfl (pi_list (pe_f G2 (hr) (pass0) (pa_cons (pe_fld (pv 0) rfl) (pa_cons (pv 1) pa_nil)))) (pg_tup rfl (pgs_cons (pg_name (i := 4) nd rfl (Or.inl rfl)) (pgs_cons (pg_tup rfl (pgs_cons ((pg_name (i := 5) nd rfl (Or.inl rfl))) (pgs_cons ((pg_name (i := 6) nd rfl (Or.inl rfl))) (pgs_cons ((pg_name (i := 7) nd rfl (Or.inl rfl))) (pgs_cons ((pg_name (i := 8) nd rfl (Or.inl rfl))) (pgs_cons ((pg_name (i := 9) nd rfl (Or.inl rfl))) pgs_nil)))))) pgs_nil))) (pss_cons ((ps_set (i := 10) nd rfl (Or.inl rfl) ((pe_op (op_add) ((pe_op (op_add) (pe_dget hu (pe_fld (pv 0) rfl) (pe_tup (pa_cons (pv 5) (pa_cons (pv 2) pa_nil))) (fun _ _ => rfl)) ((pe_ix ix_tupS (pv 7) (pe_un un_neg pe_int) (fun _ _ => rfl))))) (pv 9))))) (pss_one ((ps_if ((PW.pt (pw_or ((pt_cmpR (op_isN) (pv 3) (pe_non) (nomark _))) (pw_or1 ((pt_cmpR (op_gt) (pv 10) ((pe_ix ix_tupS (pv 3) (pe_int) (fun _ _ => rfl))) (nomark _))))))) ((pss_one ((ps_set (i := 3) nd rfl (Or.inl rfl) ((pe_tup (pa_cons (pv 10) (pa_cons ((pe_tup (pa_cons (pv 4) (pa_cons ((pe_op (op_sub) ((pe_callB call_len_seq rfl T.z_len boot_len (pa_cons (pv 7) pa_nil))) (pe_int))) (pa_cons (pv 9) pa_nil))))) pa_nil)))))))) (pss_nil)))))) (pss_one ((ps_asg (pv 3) (pg_tup rfl (pgs_cons (pg_sub (pe_fld (pv 0) rfl) (pe_tup (pa_cons (pv 1) (pa_cons (pv 2) pa_nil))) (set_dict hu)) (pgs_cons (pg_sub (pe_fld (pv 0) rfl) (pe_tup (pa_cons (pv 1) (pa_cons (pv 2) pa_nil))) (set_dict hu)) pgs_nil)))))))), ?_⟩
    refine ⟨_, rfl, p, _, _, _, _, rfl, TA.ins, cD, T.n_system, tf_system, _, rfl, v, y, k, rfl, TA.sy, h20, fun D H1 us s1 nD hD tD => ?_⟩
    have TA1 := TA.mono s1
    refine ⟨D, rfl, ⟨_, SqL.of hD⟩, for_list (K := K) (a := D) (xs := us) (fun i σ H' => Same H1 H' ∧ ∃ v3 v4 v5 v6 v7 v8 v9 v10, σ = [some (.ref p), some (.int k), some (.int o), some v3, v4, v5, v6, v7, v8, v9, v10] ∧
      BestAt H' v3 (bestF (fLate tab o) (((into y.cs k).take i).map (·.1)))) ⟨Same.refl _, .non, none, none, none, none, none, none, none, rfl, rfl⟩ (fun i σ H' _ p => SqL.of (p.1 _ _ hD)) (fun i x σ H2 hx p => ?_) (fun σ H2 p => ?_)⟩
    · obtain ⟨s2, v3, v4, v5, v6, v7, v8, v9, v10, rfl, hb⟩ := p
      obtain ⟨d, hd, td⟩ := (tD.mono s2.tle).get hx
      rw [List.getElem?_map] at hd
      cases ec : (into y.cs k)[i]? with
      | none => rw [ec] at hd; cases hd
      | some c =>
        rw [ec] at hd
        cases Option.some.inj hd
        have TA2 := TA1.mono s2
        obtain ⟨q1, q2⟩ := hq c (List.mem_of_getElem? ec)
        obtain ⟨e, xs, rfl, he, g1⟩ := td.tup_inv
        obtain ⟨w1, r1, rfl, e1, g1⟩ := g1.cons_inv
        obtain ⟨w2, r2, rfl, e2, g1⟩ := g1.cons_inv
        obtain rfl := g1.nil_inv
        obtain rfl := e1.int_inv
        obtain ⟨a2, o2, rfl, ha2, ho2⟩ := e2.cl_inv
        refine ⟨e, _, rfl, SqT.of he, rfl, _, _, rfl, _, _, rfl, ⟨a2, _, rfl, SqT.of ha2, rfl, _, _, rfl, _, _, rfl, _, _, rfl, _, _, rfl, _, _, rfl, rfl, rfl, ?_⟩⟩
        refine ⟨_, rfl, p, _, _, _, _, rfl, TA2.ins, cD, T.n_greatest, tf_greatest, _, rfl, _, rfl, by show 2 ≤ sizeLine; decide, fun t1 ht1 => ?_⟩
        have s3 : Same H2 (upd H2 t1 (.tup [.int c.1.c, .int o])) := Same.new ht1
        refine ⟨g, _, rfl, q1 ▸ DGet.t (k := keyL c.1.c o) (s3 _ _ TA2.gr) upd_same, ?_⟩
        refine ⟨_, rfl, _, rfl, o2, _, _, _, rfl, rfl, s3 _ _ ho2, atI_last1 q2, _, _, rfl, rfl, _, rfl, _, _, rfl, rfl, ?_⟩
        have step : bestF (fLate tab o) (((into y.cs k).take (i + 1)).map (·.1)) = bStep (fLate tab o) (bestF (fLate tab o) (((into y.cs k).take i).map (·.1))) c.1 := by
          rw [take_more ec, List.map_append]
          unfold bestF
          rw [List.foldl_append]
          rfl
        have fin : ∀ (H3 : Hp), Same H2 H3 → ∀ x3, BestAt H3 x3 (bStep (fLate tab o) (bestF (fLate tab o) (((into y.cs k).take i).map (·.1))) c.1) → ∀ σ', (∃ v4 v5 v6 v7 v8 v9 v10, σ' = [some (.ref p), some (.int k), some (.int o), some x3, v4, v5, v6, v7, v8, v9, v10]) →
          (Same H1 H3 ∧ ∃ v3 v4 v5 v6 v7 v8 v9 v10, σ' = [some (.ref p), some (.int k), some (.int o), some v3, v4, v5, v6, v7, v8, v9, v10] ∧ BestAt H3 v3 (bestF (fLate tab o) (((into y.cs k).take (i + 1)).map (·.1)))) := by
          rintro H3 s4 x3 hx3 σ' ⟨v4, v5, v6, v7, v8, v9, v10, rfl⟩
          exact ⟨s2.trans s4, x3, v4, v5, v6, v7, v8, v9, v10, rfl, by rw [step]; exact hx3⟩
        have hb3 := hb.mono s3
        cases eb : bestF (fLate tab o) (((into y.cs k).take i).map (·.1)) with
        | none =>
          rw [eb] at hb3 fin
          obtain rfl : v3 = .non := hb3
          refine ⟨_, rfl, rfl, _, rfl, iteT ?_⟩
          refine ⟨_, rfl, _, rfl, _, rfl, o2, _, rfl, .inr (SqT.of (s3 _ _ ho2)), _, _, rfl, rfl, _, rfl, by show 3 ≤ sizeLine; decide, fun t2 ht2 => ?_⟩
          refine ⟨by show 2 ≤ sizeLine; decide, fun t3 ht3 => ?_⟩
          exact fin _ (s3.trans ((Same.new ht2).trans (Same.new ht3))) _ ⟨t3, t2, rfl, upd_same⟩ _ ⟨_, _, _, _, _, _, _, rfl⟩
        | some x0 =>
          rw [eb] at hb3 fin
          obtain ⟨bt, q0, rfl, hbt⟩ := hb3
          refine ⟨_, rfl, rfl, _, rfl, iteF ?_⟩
          refine ⟨_, rfl, _, rfl, bt, _, _, _, rfl, rfl, hbt, rfl, _, _, rfl, rfl, _, rfl, ?_⟩
          by_cases cx : fLate tab o c.1 > x0
          · rw [show decide (tab c.1.c o + lastI c.1.o + c.1.m > x0) = true from decide_eq_true cx]
            refine iteT ⟨_, rfl, _, rfl, _, rfl, o2, _, rfl, .inr (SqT.of (s3 _ _ ho2)), _, _, rfl, rfl, _, rfl, by show 3 ≤ sizeLine; decide, fun t2 ht2 => ?_⟩
            refine ⟨by show 2 ≤ sizeLine; decide, fun t3 ht3 => ?_⟩
            refine fin _ (s3.trans ((Same.new ht2).trans (Same.new ht3))) _ ?_ _ ⟨_, _, _, _, _, _, _, rfl⟩
            unfold bStep
            simp only [cx, if_true]
            exact ⟨t3, t2, rfl, upd_same⟩
          · rw [show decide (tab c.1.c o + lastI c.1.o + c.1.m > x0) = false from decide_eq_false cx]
            refine iteF (fin _ s3 _ ?_ _ ⟨_, _, _, _, _, _, _, rfl⟩)
            unfold bStep
            simp only [cx, if_false]
            exact ⟨bt, q0, rfl, hbt⟩
    · obtain ⟨s2, v3, v4, v5, v6, v7, v8, v9, v10, rfl, hb⟩ := p
      have e0 : us.length = (into y.cs k).length := by rw [tD.len, List.length_map]
      rw [e0, List.take_length, hz] at hb
      obtain ⟨bt, q0, rfl, hbt⟩ := hb
      have TA2 := TA1.mono s2
      refine ⟨_, rfl, bt, _, rfl, SqT.of hbt, rfl, _, _, rfl, ?_⟩
      refine ⟨_, rfl, p, _, _, _, _, rfl, TA2.ins, cD, T.n_greatest, tf_greatest, _, rfl, _, rfl, by show 2 ≤ sizeLine; decide, fun t1 ht1 => ?_⟩
      have s3 : Same H2 (upd H2 t1 (.tup [.int k, .int o])) := Same.new ht1
      refine ⟨g, _, rfl, DPut.t (k := keyL k o) (s3 _ _ TA2.gr) upd_same (Nat.lt_trans hk (by decide)), ?_⟩
      have TA3 := TA2.mono s3
      have nst : st ≠ g := TA.ne.symm
      have npg : p ≠ g := ne_of TA3.ins TA3.gr (by intro z; cases z)
      have nps : p ≠ st := ne_of TA3.ins TA3.hst (by intro z; cases z)
      refine ⟨_, _, rfl, _, rfl, p, _, _, _, _, rfl, by rw [upd_ne npg]; exact TA3.ins, cD, T.n_steps, tf_steps, _, rfl, _, rfl, by show 2 ≤ sizeLine; decide, fun t2 ht2 => ?_⟩
      have ht20 : upd H2 t1 (.tup [.int k, .int o]) t2 = none := by
        have n1 : t2 ≠ g := fun z => by rw [z, upd_same] at ht2; cases ht2
        rw [upd_ne n1] at ht2
        exact ht2
      have ngt : g ≠ t2 := ne_of_none TA3.gr ht20
      refine ⟨st, _, rfl, DPut.t (k := keyL k o) (by rw [upd_ne (ne_of_none TA3.hst ht20), upd_ne nst]; exact TA3.hst) upd_same (Nat.lt_trans hk2 (by decide)), rfl, ?_⟩
      refine q _ _ (fun b x hb n1 n2 => ?_) ?_ upd_same (putK_len _ _ _)
      · have hb2 := s3 _ _ (s2 _ _ (s1 _ _ hb))
        rw [upd_ne n2, upd_ne (ne_of_none hb2 ht20), upd_ne n1]
        exact hb2
      · rw [upd_ne TA.ne, upd_ne ngt, upd_same]
def sp_enter_earlier (K : PySem.W.Frag) : Sp := fun vs H Q _ => ∃ (p dx : Addr) (v : V) (s : Sys) (l g st : Addr) (kvs ks : List (List L2.Key × V)) (k o : Int) (tab : Int → Int → Int) (z : Int), vs = [.ref p, .int o, .int k] ∧ DtAt K H p dx v s l g st kvs ks ∧
  s.cs.length ≤ 20 ∧ kvs.length < 1000 ∧ ks.length < 1000 ∧ (∀ q ∈ into s.cs k, valV kvs (keyL o q.1.c) = some (.int (tab o q.1.c)) ∧ q.1.o ≠ []) ∧ bestF (fEarly tab o) ((into s.cs k).map (·.1)) = some z ∧
  ∀ H' ks', (∀ b x, H b = some x → b ≠ g → b ≠ st → H' b = some x) → H' g = some (.dT (putK kvs (keyL o k) (.int z))) → H' st = some (.dT ks') → ks'.length ≤ ks.length + 1 → Q .non H'
abbrev N_DifferenceTable_enter_earlier : List Str := ["self", "other", "service", "best", "index", "caller", "target", "offsets", "least", "most", "value"]
theorem sc_DifferenceTable_enter_earlier : FnScope N_DifferenceTable_enter_earlier ["self", "other", "service"] (defScope s_DifferenceTable_enter_earlier) := ⟨rfl, rfl, rfl, by decide +kernel, rfl, by decide +kernel, by decide +kernel⟩
theorem ok_enter_earlier (T : Tx w K mg) : GM P w K mg base CX0 3 (aD K) (He.ma K (aD K) "enter_earlier") ["self", "other", "service"] (sp_enter_earlier K) := by
  have G2 := ok_calls_into (P := P) (base := base) T
  refine gm0 T.f_DifferenceTable_enter_earlier sc_DifferenceTable_enter_earlier (fun _ F => F.bindsN fun _ _ _ _ _ _ us hl => match us, hl with | [_, _, _], _ => rfl) (fun vs H Q E h => ?_) (fun cdv A outer s H vs Q E hr h => ?_)
  · obtain ⟨p, dx, v, s, l, g, st, kvs, ks, k, o, tab, z, rfl, _⟩ := h
    rfl
  · obtain ⟨p, dx, v, y, l, g, st, kvs, ks, k, o, tab, z, rfl, TA, h20, hk, hk2, hq, hz, q⟩ := h
    have nd := sc_DifferenceTable_enter_earlier.nd
    have hu := hu_of hr
    have cD := T.c_DifferenceTable
    refine ⟨_, (pss_cons ((ps_set (i := 3) nd rfl (Or.inl rfl) (pe_non))) (pss_cons (ps_for PassesOwn.never rfl (pi_list (pe_f G2 (hr) (pass0) (pa_cons (pe_fld (pv 0) rfl) (pa_cons (pv 2) pa_nil)))) (pg_tup rfl (pgs_cons (pg_name (i := 4) nd rfl (Or.inl rfl)) (pgs_cons (pg_tup rfl (pgs_cons ((pg_name (i := 5) nd rfl (Or.inl rfl))) (pgs_cons ((pg_name (i := 6) nd rfl (Or.inl rfl))) (pgs_cons ((pg_name (i := 7) nd rfl (Or.inl rfl))) (pgs_cons ((pg_name (i := 8) nd rfl (Or.inl rfl))) (pgs_cons ((pg_name (i := 9) nd rfl (Or.inl rfl))) pgs_nil)))))) pgs_nil))) (pss_cons ((ps_set (i := 10) nd rfl (Or.inl rfl) ((pe_op (op_sub) ((pe_op (op_sub) (pe_dget hu (pe_fld (pv 0) rfl) (pe_tup (pa_cons (pv 1) (pa_cons (pv 5) pa_nil))) (fun _ _ => rfl)) ((pe_ix ix_tupS (pv 7) (pe_int) (fun _ _ => rfl))))) (pv 8))))) (pss_one ((ps_if ((PW.pt (pw_or ((pt_cmpR (op_isN) (pv 3) (pe_non) (nomark _))) (pw_or1 ((pt_cmpR (op_gt) (pv 10) ((pe_ix ix_tupS (pv 3) (pe_int) (fun _ _ => rfl))) (nomark _))))))) ((pss_one ((ps_set (i := 3) nd rfl (Or.inl rfl) ((pe_tup (pa_cons (pv 10) (pa_cons ((pe_tup (pa_cons (pv 4) (pa_cons (pe_int) (pa_cons (pv 8) pa_nil))))) pa_nil)))))))) (pss_nil)))))) (pss_one ((ps_asg (pv 3) (pg_tup rfl (pgs_cons (pg_sub (pe_fld (pv 0) rfl) (pe_tup (pa_cons (pv 1) (pa_cons (pv 2) pa_nil))) (set_dict hu)) (pgs_cons (pg_sub (pe_fld (pv 0) rfl) (pe_tup (pa_cons (pv 1) (pa_cons (pv 2) pa_nil))) (set_dict hu)) pgs_nil)))))))), ?_⟩
    refine ⟨_, rfl, p, _, _, _, _, rfl, TA.ins, cD, T.n_system, tf_system, _, rfl, v, y, k, rfl, TA.sy, h20, fun D H1 us s1 nD hD tD => ?_⟩
    have TA1 := TA.mono s1
    refine ⟨D, rfl, ⟨_, SqL.of hD⟩, for_list (K := K) (a := D) (xs := us) (fun i σ H' => Same H1 H' ∧ ∃ v3 v4 v5 v6 v7 v8 v9 v10, σ = [some (.ref p), some (.int o), some (.int k), some v3, v4, v5, v6, v7, v8, v9, v10] ∧
      BestAt H' v3 (bestF (fEarly tab o) (((into y.cs k).take i).map (·.1)))) ⟨Same.refl _, .non, none, none, none, none, none, none, none, rfl, rfl⟩ (fun i σ H' _ p => SqL.of (p.1 _ _ hD)) (fun i x σ H2 hx p => ?_) (fun σ H2 p => ?_)⟩
    · obtain ⟨s2, v3, v4, v5, v6, v7, v8, v9, v10, rfl, hb⟩ := p
      obtain ⟨d, hd, td⟩ := (tD.mono s2.tle).get hx
      rw [List.getElem?_map] at hd
      cases ec : (into y.cs k)[i]? with
      | none => rw [ec] at hd; cases hd
      | some c =>
        rw [ec] at hd
        cases Option.some.inj hd
        have TA2 := TA1.mono s2
        obtain ⟨q1, q2⟩ := hq c (List.mem_of_getElem? ec)
        obtain ⟨e, xs, rfl, he, g1⟩ := td.tup_inv
        obtain ⟨w1, r1, rfl, e1, g1⟩ := g1.cons_inv
        obtain ⟨w2, r2, rfl, e2, g1⟩ := g1.cons_inv
        obtain rfl := g1.nil_inv
        obtain rfl := e1.int_inv
        obtain ⟨a2, o2, rfl, ha2, ho2⟩ := e2.cl_inv
        refine ⟨e, _, rfl, SqT.of he, rfl, _, _, rfl, _, _, rfl, ⟨a2, _, rfl, SqT.of ha2, rfl, _, _, rfl, _, _, rfl, _, _, rfl, _, _, rfl, _, _, rfl, rfl, rfl, ?_⟩⟩
        refine ⟨_, rfl, p, _, _, _, _, rfl, TA2.ins, cD, T.n_greatest, tf_greatest, _, rfl, _, rfl, by show 2 ≤ sizeLine; decide, fun t1 ht1 => ?_⟩
        have s3 : Same H2 (upd H2 t1 (.tup [.int o, .int c.1.c])) := Same.new ht1
        refine ⟨g, _, rfl, q1 ▸ DGet.t (k := keyL o c.1.c) (s3 _ _ TA2.gr) upd_same, ?_⟩
        refine ⟨_, rfl, o2, _, _, _, rfl, rfl, s3 _ _ ho2, atI_head1 q2, _, _, rfl, rfl, _, rfl, _, _, rfl, rfl, ?_⟩
        have step : bestF (fEarly tab o) (((into y.cs k).take (i + 1)).map (·.1)) = bStep (fEarly tab o) (bestF (fEarly tab o) (((into y.cs k).take i).map (·.1))) c.1 := by
          rw [take_more ec, List.map_append]
          unfold bestF
          rw [List.foldl_append]
          rfl
        have fin : ∀ (H3 : Hp), Same H2 H3 → ∀ x3, BestAt H3 x3 (bStep (fEarly tab o) (bestF (fEarly tab o) (((into y.cs k).take i).map (·.1))) c.1) → ∀ σ', (∃ v4 v5 v6 v7 v8 v9 v10, σ' = [some (.ref p), some (.int o), some (.int k), some x3, v4, v5, v6, v7, v8, v9, v10]) →
          (Same H1 H3 ∧ ∃ v3 v4 v5 v6 v7 v8 v9 v10, σ' = [some (.ref p), some (.int o), some (.int k), some v3, v4, v5, v6, v7, v8, v9, v10] ∧ BestAt H3 v3 (bestF (fEarly tab o) (((into y.cs k).take (i + 1)).map (·.1)))) := by
          rintro H3 s4 x3 hx3 σ' ⟨v4, v5, v6, v7, v8, v9, v10, rfl⟩
          exact ⟨s2.trans s4, x3, v4, v5, v6, v7, v8, v9, v10, rfl, by rw [step]; exact hx3⟩
        have hb3 := hb.mono s3
        cases eb : bestF (fEarly tab o) (((into y.cs k).take i).map (·.1)) with
        | none =>
          rw [eb] at hb3 fin
          obtain rfl : v3 = .non := hb3
          refine ⟨_, rfl, rfl, _, rfl, iteT ?_⟩
          refine ⟨_, rfl, _, rfl, _, rfl, by show 3 ≤ sizeLine; decide, fun t2 ht2 => ?_⟩
          refine ⟨by show 2 ≤ sizeLine; decide, fun t3 ht3 => ?_⟩
          exact fin _ (s3.trans ((Same.new ht2).trans (Same.new ht3))) _ ⟨t3, t2, rfl, upd_same⟩ _ ⟨_, _, _, _, _, _, _, rfl⟩
        | some x0 =>
          rw [eb] at hb3 fin
          obtain ⟨bt, q0, rfl, hbt⟩ := hb3
          refine ⟨_, rfl, rfl, _, rfl, iteF ?_⟩
          refine ⟨_, rfl, _, rfl, bt, _, _, _, rfl, rfl, hbt, rfl, _, _, rfl, rfl, _, rfl, ?_⟩
          by_cases cx : fEarly tab o c.1 > x0
          · rw [show decide (tab o c.1.c - headI c.1.o - c.1.l > x0) = true from decide_eq_true cx]
            refine iteT ⟨_, rfl, _, rfl, _, rfl, by show 3 ≤ sizeLine; decide, fun t2 ht2 => ?_⟩
            refine ⟨by show 2 ≤ sizeLine; decide, fun t3 ht3 => ?_⟩
            refine fin _ (s3.trans ((Same.new ht2).trans (Same.new ht3))) _ ?_ _ ⟨_, _, _, _, _, _, _, rfl⟩
            unfold bStep
            simp only [cx, if_true]
            exact ⟨t3, t2, rfl, upd_same⟩
          · rw [show decide (tab o c.1.c - headI c.1.o - c.1.l > x0) = false from decide_eq_false cx]
            refine iteF (fin _ s3 _ ?_ _ ⟨_, _, _, _, _, _, _, rfl⟩)
            unfold bStep
            simp only [cx, if_false]
            exact ⟨bt, q0, rfl, hbt⟩
    · obtain ⟨s2, v3, v4, v5, v6, v7, v8, v9, v10, rfl, hb⟩ := p
      have e0 : us.length = (into y.cs k).length := by rw [tD.len, List.length_map]
      rw [e0, List.take_length, hz] at hb
      obtain ⟨bt, q0, rfl, hbt⟩ := hb
      have TA2 := TA1.mono s2
      refine ⟨_, rfl, bt, _, rfl, SqT.of hbt, rfl, _, _, rfl, ?_⟩
      refine ⟨_, rfl, p, _, _, _, _, rfl, TA2.ins, cD, T.n_greatest, tf_greatest, _, rfl, _, rfl, by show 2 ≤ sizeLine; decide, fun t1 ht1 => ?_⟩
      have s3 : Same H2 (upd H2 t1 (.tup [.int o, .int k])) := Same.new ht1
      refine ⟨g, _, rfl, DPut.t (k := keyL o k) (s3 _ _ TA2.gr) upd_same (Nat.lt_trans hk (by decide)), ?_⟩
      have TA3 := TA2.mono s3
      have nst : st ≠ g := TA.ne.symm
      have npg : p ≠ g := ne_of TA3.ins TA3.gr (by intro z; cases z)
      have nps : p ≠ st := ne_of TA3.ins TA3.hst (by intro z; cases z)
      refine ⟨_, _, rfl, _, rfl, p, _, _, _, _, rfl, by rw [upd_ne npg]; exact TA3.ins, cD, T.n_steps, tf_steps, _, rfl, _, rfl, by show 2 ≤ sizeLine; decide, fun t2 ht2 => ?_⟩
      have ht20 : upd H2 t1 (.tup [.int o, .int k]) t2 = none := by
        have n1 : t2 ≠ g := fun z => by rw [z, upd_same] at ht2; cases ht2
        rw [upd_ne n1] at ht2
        exact ht2
      have ngt : g ≠ t2 := ne_of_none TA3.gr ht20
      refine ⟨st, _, rfl, DPut.t (k := keyL o k) (by rw [upd_ne (ne_of_none TA3.hst ht20), upd_ne nst]; exact TA3.hst) upd_same (Nat.lt_trans hk2 (by decide)), rfl, ?_⟩
      refine q _ _ (fun b x hb n1 n2 => ?_) ?_ upd_same (putK_len _ _ _)
      · have hb2 := s3 _ _ (s2 _ _ (s1 _ _ hb))
        rw [upd_ne n2, upd_ne (ne_of_none hb2 ht20), upd_ne n1]
        exact hb2
      · rw [upd_ne TA.ne, upd_ne ngt, upd_same]
end
end K68
end
section
set_option Elab.async false
set_option linter.all false
set_option maxRecDepth 100000
set_option maxHeartbeats 2000000
namespace K68
open PySem PySem.Spec PyProof.Rows L2
/-! ### the table's numbers: the mirror -/
def setT (tab : Int → Int → Int) (a b v : Int) : Int → Int → Int := fun x y => if x = a ∧ y = b then v else tab x y
def intoC (cs : List Cl) (k : Int) : List Cl := (into cs k).map (·.1)
def lateZ (cs : List Cl) (k : Int) (tab : Int → Int → Int) (o : Int) : Int := (bestF (fLate tab o) (intoC cs k)).getD 0
def earlyZ (cs : List Cl) (k : Int) (tab : Int → Int → Int) (o : Int) : Int := (bestF (fEarly tab o) (intoC cs k)).getD 0
def inStep (cs : List Cl) (k : Int) (tab : Int → Int → Int) (o : Int) : Int → Int → Int := setT (setT tab k o (lateZ cs k tab o)) o k (earlyZ cs k (setT tab k o (lateZ cs k tab o)) o)
def outStep (cs : List Cl) (tab : Int → Int → Int) (k : Int) : Int → Int → Int := ((rch cs).filter fun o => decide (o < k)).foldl (inStep cs k) (setT tab k k 0)
def tabOf (cs : List Cl) : Int → Int → Int := (rch cs).foldl (outStep cs) fun _ _ => 0
/-- at a, b the dict holds what the mirror holds -/
def Has (kvs : List (List L2.Key × V)) (tab : Int → Int → Int) (a b : Int) : Prop := valV kvs (keyL a b) = some (.int (tab a b))
theorem keyL_inj {a b x y : Int} (h : keyL a b = keyL x y) : a = x ∧ b = y := by
  unfold keyL at h
  injection h with h1 h2
  injection h2 with h2 h3
  exact ⟨Sum.inl.inj h1, Sum.inl.inj h2⟩
theorem Has.put {kvs : List (List L2.Key × V)} {tab : Int → Int → Int} {a b : Int} (x y v : Int) (h : Has kvs tab a b) : Has (putK kvs (keyL x y) (.int v)) (setT tab x y v) a b := by
  show valV _ _ = _
  rw [valV_put]
  unfold setT
  by_cases e : a = x ∧ b = y
  · rw [if_pos (by rw [e.1, e.2]), if_pos e]
  · rw [if_neg (fun q => e (keyL_inj q)), if_neg e]
    exact h
theorem Has.new {kvs : List (List L2.Key × V)} {tab : Int → Int → Int} (x y v : Int) : Has (putK kvs (keyL x y) (.int v)) (setT tab x y v) x y := by
  show valV _ _ = _
  rw [valV_put, if_pos rfl]
  unfold setT
  rw [if_pos ⟨rfl, rfl⟩]
structure ClOk (n : Int) (c : Cl) : Prop where
  c0 : 0 ≤ c.c
  ct : c.c < c.t
  tn : c.t < n
  ne : c.o ≠ []
theorem clOk_of {n : Int} {c : Cl} (h : isCall n c = true) : ClOk n c := by
  unfold isCall at h
  simp only [Bool.and_eq_true] at h
  obtain ⟨h1, h2, h3, _⟩ := h
  unfold isInt at h1 h2
  simp only [Bool.and_eq_true, decide_eq_true_eq] at h1 h2
  refine ⟨h1.1, by omega, by omega, ?_⟩
  intro e
  rw [e] at h3
  exact absurd h3 (by decide)
theorem rch_nonneg {n : Int} {cs : List Cl} (hc : ∀ c ∈ cs, ClOk n c) {x : Int} (h : x ∈ rch cs) : 0 ≤ x := by
  rcases rch_by h with e | ⟨c, m, e, _⟩
  · omega
  · have := hc c m
    have := this.c0
    have := (hc c m).ct
    omega
theorem into_mem {cs : List Cl} {k : Int} {q : Cl × Nat} (h : q ∈ into cs k) : q.1 ∈ cs ∧ q.1.t = k ∧ q.1.c ∈ rch cs := by
  obtain ⟨h1, h2⟩ := List.mem_filter.mp h
  unfold inTo at h2
  simp only [Bool.and_eq_true, decide_eq_true_eq] at h2
  refine ⟨?_, h2.1, h2.2⟩
  exact List.fst_mem_of_mem_zipIdx (x := q) h1
theorem intoC_ne {cs : List Cl} {k : Int} (h : k ∈ rch cs) (h0 : k ≠ 0) : intoC cs k ≠ [] := by
  rcases rch_by h with e | ⟨c, m, e, r⟩
  · exact absurd e h0
  · obtain ⟨i, hi, ei⟩ := List.mem_iff_getElem.mp m
    have hm : (c, i) ∈ cs.zipIdx := List.mem_iff_getElem?.mpr ⟨i, by rw [List.getElem?_zipIdx, List.getElem?_eq_getElem hi, ei]; simp⟩
    have hf : (c, i) ∈ into cs k := List.mem_filter.mpr ⟨hm, by unfold inTo; rw [decide_eq_true e, decide_eq_true r]; rfl⟩
    intro z
    have hz : c ∈ (into cs k).map (·.1) := List.mem_map.mpr ⟨_, hf, rfl⟩
    unfold intoC at z
    rw [z] at hz
    cases hz
theorem filter_lt_take : ∀ {l : List Int} {i : Nat} {k : Int}, l.Pairwise (· ≤ ·) → l.Nodup → l[i]? = some k → l.filter (fun o => decide (o < k)) = l.take i
  | [], i, k, _, _, h => by simp at h
  | x :: l, 0, k, hp, hn, h => by
    cases Option.some.inj h
    rw [List.take_zero, List.filter_eq_nil_iff]
    intro y hy
    rcases List.mem_cons.mp hy with e | e
    · simp [e]
    · have := (List.pairwise_cons.mp hp).1 y e
      simp
      omega
  | x :: l, i + 1, k, hp, hn, h => by
    have hk : l[i]? = some k := h
    have hm : k ∈ l := List.mem_of_getElem? hk
    have hx : x < k := by
      have h1 := (List.pairwise_cons.mp hp).1 k hm
      have h2 : x ≠ k := fun e => (List.nodup_cons.mp hn).1 (e ▸ hm)
      omega
    rw [List.filter_cons, if_pos (by simpa using hx), filter_lt_take (List.pairwise_cons.mp hp).2 (List.nodup_cons.mp hn).2 hk]
    rfl
theorem rch_filter {cs : List Cl} {i : Nat} {k : Int} (h : (rch cs)[i]? = some k) : (rch cs).filter (fun o => decide (o < k)) = (rch cs).take i := filter_lt_take (rch_sorted cs) (rch_nodup cs) h
/-- all that stood, but what stood at p, is as it was -/
def FrP (p : Addr) (H H' : Hp) : Prop := ∀ b x, H b = some x → b ≠ p → H' b = some x
theorem FrP.refl {p : Addr} {H : Hp} : FrP p H H := fun _ _ h _ => h
theorem FrP.upd {p : Addr} {H H1 : Hp} {o : HO} (f : FrP p H H1) : FrP p H (upd H1 p o) := fun b x h n => by
  rw [upd_ne n]
  exact f b x h n
theorem FrP.same {p : Addr} {H H1 H2 : Hp} (f : FrP p H H1) (s : Same H1 H2) : FrP p H H2 := fun b x h n => s _ _ (f b x h n)
theorem FrP.gone {p l : Addr} {H H1 : Hp} (f : FrP p H H1) (n : l ≠ p) (h : H1 l = none) : H l = none := by
  cases e : H l with
  | none => rfl
  | some x => rw [f l x e n] at h; cases h
theorem FrP.at_ {p g : Addr} {H H1 : Hp} {o : HO} (f : FrP p H H1) (h : H g = none) : FrP p H (L2.upd H1 g o) := fun b x e n => by
  rw [upd_ne (ne_of_none e h)]
  exact f b x e n
theorem FrP.two {p g st : Addr} {H H1 H2 : Hp} (f : FrP p H H1) (h : H g = none) (h2 : H st = none) (q : ∀ b x, H1 b = some x → b ≠ g → b ≠ st → H2 b = some x) : FrP p H H2 := fun b x e n => q _ _ (f b x e n) (ne_of_none e h) (ne_of_none e h2)
theorem DtAt.two {K : PySem.W.Frag} {H H2 : Hp} {p dx : Addr} {v : V} {s : Sys} {l g st : Addr} {kvs ks kvs2 ks2 : List (List L2.Key × V)} (h : DtAt K H p dx v s l g st kvs ks)
    (q : ∀ b x, H b = some x → b ≠ g → b ≠ st → H2 b = some x) (h1 : H2 g = some (.dT kvs2)) (h2 : H2 st = some (.dT ks2)) : DtAt K H2 p dx v s l g st kvs2 ks2 :=
  ⟨q _ _ h.ins (ne_of h.ins h.gr (by intro z; cases z)) (ne_of h.ins h.hst (by intro z; cases z)), h.sy.mono fun a xs e => q _ _ e (ne_of e h.gr (by intro z; cases z)) (ne_of e h.hst (by intro z; cases z)), q _ _ h.ls (ne_of h.ls h.gr (by intro z; cases z)) (ne_of h.ls h.hst (by intro z; cases z)), h1, h2, h.ne⟩
theorem FrP.tle {p : Addr} {H H1 : Hp} {C dx : Addr} {fs : List (Str × V)} (f : FrP p H H1) (hp : H p = some (.ins C dx fs)) : Tle H H1 := fun a xs e => f a _ e (ne_of e hp (by intro z; cases z))
section
variable {P : Program} {w : World} {K : PySem.W.Frag} {mg : Str → Option Value} {base : Heap}
def sp_dt_init (K : PySem.W.Frag) : Sp := fun vs H Q _ => ∃ (p dx : Addr) (v : V) (s : Sys), vs = [.ref p, v] ∧ H p = some (.ins (aD K) dx []) ∧ Td H v (syD s) ∧ SysOk s ∧
  ∀ H' l g st kvs ks, (∀ b x, H b = some x → b ≠ p → H' b = some x) → DtAt K H' p dx v s l g st kvs ks → (∀ a ∈ rch s.cs, ∀ b ∈ rch s.cs, Has kvs (tabOf s.cs) a b) → Q .non H'
abbrev N_DifferenceTable___init__ : List Str := ["self", "system", "greater", "smaller", "service"]
theorem sc_DifferenceTable___init__ : FnScope N_DifferenceTable___init__ ["self", "system"] (defScope s_DifferenceTable___init__) := ⟨rfl, rfl, rfl, by decide +kernel, rfl, by decide +kernel, by decide +kernel⟩
theorem tf1 {v : V} : putF "system" v [] = [(("system" : Str), v)] := rfl
theorem tf2 {v : V} {l : Addr} : putF "services" (.ref l) [(("system" : Str), v)] = [(("system" : Str), v), (("services" : Str), V.ref l)] := (put_past (by decide +kernel)).trans rfl
theorem tf3 {v : V} {l g : Addr} : putF "greatest" (.ref g) [(("system" : Str), v), (("services" : Str), V.ref l)] = [(("system" : Str), v), (("services" : Str), V.ref l), (("greatest" : Str), V.ref g)] := (put_past (by decide +kernel)).trans (congrArg _ ((put_past (by decide +kernel)).trans rfl))
theorem tf4 {v : V} {l g st : Addr} : putF "steps" (.ref st) [(("system" : Str), v), (("services" : Str), V.ref l), (("greatest" : Str), V.ref g)] = tabF v l g st := (put_past (by decide +kernel)).trans (congrArg _ ((put_past (by decide +kernel)).trans (congrArg _ ((put_past (by decide +kernel)).trans rfl))))
theorem ok_dt_init (T : Tx w K mg) : GM P w K mg base CX0 4 (aD K) (He.ma K (aD K) "__init__") ["self", "system"] (sp_dt_init K) := by
  have G1 := ok_reached (P := P) (base := base) T
  have GL := ok_enter_later (P := P) (base := base) T
  have GE := ok_enter_earlier (P := P) (base := base) T
  refine gm0 T.f_DifferenceTable___init__ sc_DifferenceTable___init__ (fun _ F => F.bindsN fun _ _ _ _ _ _ us hl => match us, hl with | [_, _], _ => rfl) (fun vs H Q E h => ?_) (fun cdv A outer s H vs Q E hr h => ?_)
  · obtain ⟨p, dx, v, s, rfl, _⟩ := h
    rfl
  · obtain ⟨p, dx, v, y, rfl, hp, hy, ⟨o1, o2, o3, o4⟩, q⟩ := h
    have nd := sc_DifferenceTable___init__.nd
    have hu := hu_of hr
    have cD := T.c_DifferenceTable
    have hr1 : Room 1 _ := hr.mono (by decide)
    refine ⟨_, (pss_cons (ps_fld (pv 0) (pv 1) rfl) (pss_cons (ps_fld (pv 0) (pe_f G1 (hr1) (pass0) (pa_cons (pv 1) pa_nil)) rfl) (pss_cons (ps_fld (pv 0) pe_dnewT rfl) (pss_cons (ps_fld (pv 0) pe_dnewT rfl) (pss_one (ps_for PassesOwn.never rfl (pi_list (pe_fld (pv 0) rfl)) (pg_name (i := 2) nd rfl (Or.inr rfl)) (pss_cons (ps_dput hu (pe_fld (pv 0) rfl) (pe_tup (pa_cons (pv 2) (pa_cons (pv 2) pa_nil))) pe_int rfl) (pss_one (ps_for PassesOwn.never rfl (pi_list (pe_lc (own := [("service", 4)]) (g := gName 4) rfl nd (pi_list (pe_fld (pv 0) rfl)) (blkOk_by (N := N_DifferenceTable___init__) (sc := defScope s_DifferenceTable___init__) (by decide +kernel)) (fun _ _ _ _ _ => pg_name (i := 4) nd rfl (Or.inl rfl)) (fun _ _ _ _ _ => pts_one (pt_cmpR (op_lt) (pv 4) (pv 2) (nomark _))) (fun _ _ _ _ _ => pv 4)))
          (pg_name (i := 3) nd rfl (Or.inl rfl)) (pss_cons (ps_expr (pe_m GL T.m_enter_later cD hr pass0 (pv 0) (pa_cons (pv 2) (pa_cons (pv 3) pa_nil)))) (pss_one (ps_expr (pe_m GE T.m_enter_earlier cD hr pass0 (pv 0) (pa_cons (pv 3) (pa_cons (pv 2) pa_nil))))))))))))))), ?_⟩
    -- the four attributes
    refine ⟨_, rfl, _, rfl, p, _, dx, _, rfl, hp, cD, T.n_system, by show 0 < 1000; decide, ?_⟩
    rw [tf1]
    have f1 : FrP p H (upd H p (.ins (aD K) dx [(("system" : Str), v)])) := FrP.refl.upd
    refine ⟨_, rfl, v, y, rfl, hy.mono (f1.tle hp), o3, fun l H1 s1 nl hl => ?_⟩
    have hp1 := s1 _ _ (upd_same (H := H) (a := p) (o := HO.ins (aD K) dx [(("system" : Str), v)]))
    refine ⟨_, rfl, p, _, dx, _, rfl, hp1, cD, T.n_services, by show 1 < 1000; decide, ?_⟩
    rw [tf2]
    have npl : l ≠ p := fun z => by rw [z, upd_same] at nl; cases nl
    have nl0 : H l = none := f1.gone npl nl
    have f2 : FrP p H (upd H1 p (.ins (aD K) dx [(("system" : Str), v), (("services" : Str), V.ref l)])) := (f1.same s1).upd
    intro g hg
    have npg : p ≠ g := fun z => by rw [← z, upd_same] at hg; cases hg
    have ng0 : H g = none := f2.gone npg.symm hg
    refine ⟨_, rfl, p, _, dx, _, rfl, (upd_ne npg).trans upd_same, cD, T.n_greatest, by show 2 < 1000; decide, ?_⟩
    rw [tf3]
    have f3 := ((f2.same (Same.new (o := HO.dT []) hg)).upd (o := HO.ins (aD K) dx [(("system" : Str), v), (("services" : Str), V.ref l), (("greatest" : Str), V.ref g)]))
    have lg : l ≠ g := fun z => by
      rw [← z, upd_ne npl, hl] at hg
      cases hg
    have hl3 := (upd_ne (o := HO.ins (aD K) dx [(("system" : Str), v), (("services" : Str), V.ref l), (("greatest" : Str), V.ref g)]) npl).trans ((upd_ne (H := upd H1 p (.ins (aD K) dx [(("system" : Str), v), (("services" : Str), V.ref l)])) (o := HO.dT []) lg).trans ((upd_ne npl).trans hl))
    have hg3 := (upd_ne (o := HO.ins (aD K) dx [(("system" : Str), v), (("services" : Str), V.ref l), (("greatest" : Str), V.ref g)]) npg.symm).trans (upd_same (H := upd H1 p (.ins (aD K) dx [(("system" : Str), v), (("services" : Str), V.ref l)])) (a := g) (o := HO.dT []))
    revert f3 hl3 hg3
    generalize eH3 : upd (upd (upd H1 p (.ins (aD K) dx [(("system" : Str), v), (("services" : Str), V.ref l)])) g (.dT [])) p (.ins (aD K) dx [(("system" : Str), v), (("services" : Str), V.ref l), (("greatest" : Str), V.ref g)]) = H3
    intro f3 hl3 hg3
    have hp3 : H3 p = some (.ins (aD K) dx [(("system" : Str), v), (("services" : Str), V.ref l), (("greatest" : Str), V.ref g)]) := by rw [← eH3, upd_same]
    intro st hst
    have nps : p ≠ st := ne_of_none hp3 hst
    have nls : l ≠ st := ne_of_none hl3 hst
    have ngs : g ≠ st := ne_of_none hg3 hst
    have ns0 : H st = none := f3.gone nps.symm hst
    refine ⟨_, rfl, p, _, dx, _, rfl, (upd_ne nps).trans hp3, cD, T.n_steps, by show 3 < 1000; decide, ?_⟩
    rw [tf4]
    have f4 : FrP p H (upd (upd H3 st (.dT [])) p (.ins (aD K) dx (tabF v l g st))) := (f3.same (Same.new hst)).upd
    have TA4 : DtAt K (upd (upd H3 st (.dT [])) p (.ins (aD K) dx (tabF v l g st))) p dx v y l g st [] [] :=
      ⟨upd_same, hy.mono (f4.tle hp), (upd_ne npl).trans ((upd_ne nls).trans hl3), (upd_ne npg.symm).trans ((upd_ne ngs).trans hg3), (upd_ne nps.symm).trans upd_same, ngs⟩
    revert f4 TA4
    generalize upd (upd H3 st (.dT [])) p (.ins (aD K) dx (tabF v l g st)) = H4
    intro f4 TA4
    have hc : ∀ c ∈ y.cs, ClOk y.n c := fun c m => clOk_of (o4 c m)
    have hR : (rch y.cs).length ≤ 21 := Nat.le_trans (rch_len _) (by omega)
    -- the loop over the services
    refine ⟨_, rfl, p, _, dx, _, _, rfl, TA4.ins, cD, T.n_services, tf_services, l, rfl, ⟨_, SqL.of TA4.ls⟩, for_list (K := K) (a := l) (xs := (rch y.cs).map V.int) (fun i σ H' => ∃ kvs ks v2 v3 v4, σ = [some (.ref p), some v, v2, v3, v4] ∧
      FrP p H H' ∧ DtAt K H' p dx v y l g st kvs ks ∧ kvs.length ≤ 43 * i ∧ ks.length ≤ 42 * i ∧ ∀ a ∈ (rch y.cs).take i, ∀ b ∈ (rch y.cs).take i, Has kvs (((rch y.cs).take i).foldl (outStep y.cs) fun _ _ => 0) a b)
      ⟨[], [], none, none, none, rfl, f4, TA4, by simp, by simp, by simp⟩ (fun i σ H' _ ⟨_, _, _, _, _, _, _, TA, _⟩ => SqL.of TA.ls) (fun i x σ H5 hx pv5 => ?_) (fun σ H5 pv5 => ?_)⟩
    · obtain ⟨kvs, ks, v2, v3, v4, rfl, f5, TA5, lk, lks, has⟩ := pv5
      rw [List.getElem?_map] at hx
      cases ek : (rch y.cs)[i]? with
      | none => rw [ek] at hx; cases hx
      | some k =>
        rw [ek] at hx
        cases Option.some.inj hx
        have hi : i < 21 := Nat.lt_of_lt_of_le (List.getElem?_eq_some_iff.mp ek).1 hR
        have hkR : k ∈ rch y.cs := List.mem_of_getElem? ek
        refine ⟨_, rfl, p, _, _, _, _, rfl, TA5.ins, cD, T.n_greatest, tf_greatest, _, rfl, _, rfl, by show 2 ≤ sizeLine; decide, fun t ht => ?_⟩
        have TA5b := TA5.mono (Same.new (o := HO.tup [.int k, .int k]) ht)
        refine ⟨g, _, rfl, DPut.t (k := keyL k k) TA5b.gr upd_same (Nat.lt_of_le_of_lt lk (by have : sizeLine > 43 * 21 := by decide
                                                                                              omega)), ?_⟩
        have f6 : FrP p H (upd (upd H5 t (.tup [.int k, .int k])) g (.dT (putK kvs (keyL k k) (.int 0)))) := (f5.same (Same.new ht)).at_ ng0
        have TA6 : DtAt K (upd (upd H5 t (.tup [.int k, .int k])) g (.dT (putK kvs (keyL k k) (.int 0)))) p dx v y l g st (putK kvs (keyL k k) (.int 0)) ks := TA5b.two (fun b x e n1 n2 => (upd_ne n1).trans e) upd_same ((upd_ne ngs.symm).trans TA5b.hst)
        revert f6 TA6
        generalize upd (upd H5 t (.tup [.int k, .int k])) g (.dT (putK kvs (keyL k k) (.int 0))) = H6
        intro f6 TA6
        have lk6 := putK_len kvs (keyL k k) (.int 0)
        have has6 : ∀ a ∈ (rch y.cs).take i, ∀ b ∈ (rch y.cs).take i, Has (putK kvs (keyL k k) (.int 0)) (setT (((rch y.cs).take i).foldl (outStep y.cs) fun _ _ => 0) k k 0) a b := fun a ha b hb => (has a ha b hb).put _ _ _
        have hkk : Has (putK kvs (keyL k k) (.int 0)) (setT (((rch y.cs).take i).foldl (outStep y.cs) fun _ _ => 0) k k 0) k k := Has.new _ _ _
        have eS := rch_filter ek
        have st1 : ((rch y.cs).take (i + 1)).foldl (outStep y.cs) (fun _ _ => 0) = ((rch y.cs).take i).foldl (inStep y.cs k) (setT (((rch y.cs).take i).foldl (outStep y.cs) fun _ _ => 0) k k 0) := by
          rw [take_more ek, List.foldl_append]
          show outStep y.cs _ k = _
          unfold outStep
          rw [eS]
        revert has6 hkk st1 lk6 TA6
        generalize putK kvs (keyL k k) (.int 0) = kvs6
        generalize setT (((rch y.cs).take i).foldl (outStep y.cs) fun _ _ => 0) k k 0 = tab6
        intro TA6 lk6 has6 hkk st1
        -- the list of the smaller ones
        refine ⟨_, rfl, p, _, _, _, _, rfl, TA6.ins, cD, T.n_services, tf_services, l, rfl, ⟨_, SqL.of TA6.ls⟩, fun D hD => ?_⟩
        refine lc_s (walk_list (xs := (rch y.cs).map V.int)) hD (fun j acc _ => acc = (((rch y.cs).take j).filter fun o => decide (o < k)).map V.int) rfl (fun H7 s7 => SqL.of (s7 _ _ TA6.ls)) (fun j x H7 H7' acc hj s7 hacc lacc acc1 yl => ?_) (fun H7 acc s7 hacc acc1 => ?_)
        · obtain ⟨rfl, hx⟩ := yl
          rw [List.getElem?_map] at hx
          cases eo : (rch y.cs)[j]? with
          | none => rw [eo] at hx; cases hx
          | some o =>
            rw [eo] at hx
            cases Option.some.inj hx
            have hj2 : j < sizeLine := by
              rw [List.length_map] at hj
              exact Nat.lt_of_lt_of_le hj (Nat.le_trans hR (by decide))
            refine ⟨rfl, _, rfl, _, rfl, _, _, rfl, rfl, _, rfl, ?_⟩
            by_cases co : o < k
            · rw [decide_eq_true co]
              refine iteT ⟨_, rfl, LcP.push hD s7 hacc lacc hj2 ?_⟩
              show acc ++ [.int o] = _
              rw [show acc = _ from acc1, take_more eo, List.filter_append, List.map_append]
              simp [co]
            · rw [decide_eq_false co]
              refine iteF (LcP.skip s7 hacc lacc ?_)
              show acc = _
              rw [show acc = _ from acc1, take_more eo, List.filter_append, List.map_append]
              simp [co]
        · rw [List.length_map, List.take_length, eS] at acc1
          obtain rfl : acc = _ := acc1
          have TA7 := TA6.mono s7
          refine ⟨D, rfl, ⟨_, SqL.of hacc⟩, for_list (K := K) (a := D) (xs := ((rch y.cs).take i).map V.int) (fun j σ H' => ∃ kvs ks v3 v4, σ = [some (.ref p), some v, some (.int k), v3, v4] ∧ FrP p H H' ∧ H' D = some (.lst (((rch y.cs).take i).map V.int)) ∧
            DtAt K H' p dx v y l g st kvs ks ∧ kvs.length ≤ 43 * i + 1 + 2 * j ∧ ks.length ≤ 42 * i + 2 * j ∧ (∀ a ∈ (rch y.cs).take i, ∀ b ∈ (rch y.cs).take i, Has kvs ((((rch y.cs).take i).take j).foldl (inStep y.cs k) tab6) a b) ∧ Has kvs ((((rch y.cs).take i).take j).foldl (inStep y.cs k) tab6) k k ∧
            ∀ o ∈ ((rch y.cs).take i).take j, Has kvs ((((rch y.cs).take i).take j).foldl (inStep y.cs k) tab6) k o ∧ Has kvs ((((rch y.cs).take i).take j).foldl (inStep y.cs k) tab6) o k)
            ⟨kvs6, ks, v3, v4, rfl, f6.same s7, hacc, TA7, by omega, by omega, has6, hkk, by simp⟩ (fun j σ H' _ ⟨_, _, _, _, _, _, hD8, _⟩ => SqL.of hD8) (fun j x σ H8 hx pv8 => ?_) (fun σ H8 pv8 => ?_)⟩
          · obtain ⟨kvs8, ks8, v3, v4, rfl, f8, hD8, TA8, lk8, lks8, has8, hkk8, hs8⟩ := pv8
            rw [List.getElem?_map] at hx
            cases eo : ((rch y.cs).take i)[j]? with
            | none => rw [eo] at hx; cases hx
            | some o =>
              rw [eo] at hx
              cases Option.some.inj hx
              have hj : j < i := by
                have h1 := (List.getElem?_eq_some_iff.mp eo).1
                rw [List.length_take] at h1
                omega
              have hoS : o ∈ (rch y.cs).take i := List.mem_of_getElem? eo
              have hok : o < k := by
                rw [← eS] at hoS
                simpa using (List.mem_filter.mp hoS).2
              have ho0 := rch_nonneg hc (List.mem_of_mem_take hoS)
              have k0 : k ≠ 0 := by omega
              have inR : ∀ q ∈ into y.cs k, q.1.c ∈ (rch y.cs).take i ∧ q.1.o ≠ [] := fun q hq => by
                obtain ⟨m1, m2, m3⟩ := into_mem hq
                have m4 := hc _ m1
                refine ⟨?_, m4.ne⟩
                rw [← eS]
                have := m4.ct
                exact List.mem_filter.mpr ⟨m3, by simp; omega⟩
              generalize etab : (((rch y.cs).take i).take j).foldl (inStep y.cs k) tab6 = tab8 at has8 hkk8 hs8
              obtain ⟨z1, ez1⟩ := bestF_some (fLate tab8 o) (intoC_ne hkR k0)
              refine ⟨_, rfl, p, dx, _, rfl, TA8.ins, tf_later, _, rfl, _, rfl, ?_⟩
              refine ⟨p, dx, v, y, l, g, st, kvs8, ks8, k, o, tab8, z1, rfl, TA8, o3, by omega, by omega, fun q hq => ⟨has8 _ (inR q hq).1 _ hoS, (inR q hq).2⟩, ez1, fun H9 ks9 fr9 hg9 hst9 lks9 => ?_⟩
              have TA9 := TA8.two fr9 hg9 hst9
              have f9 := f8.two ng0 ns0 fr9
              have hD9 := fr9 _ _ hD8 (ne_of hD8 TA8.gr (by intro z; cases z)) (ne_of hD8 TA8.hst (by intro z; cases z))
              have lk9 := putK_len kvs8 (keyL k o) (.int z1)
              have e1 : lateZ y.cs k tab8 o = z1 := by unfold lateZ; rw [ez1]; rfl
              obtain ⟨z2, ez2⟩ := bestF_some (fEarly (setT tab8 k o z1) o) (intoC_ne hkR k0)
              refine ⟨_, rfl, p, dx, _, rfl, TA9.ins, tf_earlier, _, rfl, _, rfl, ?_⟩
              refine ⟨p, dx, v, y, l, g, st, _, ks9, k, o, setT tab8 k o z1, z2, rfl, TA9, o3, by omega, by omega, fun q hq => ⟨(has8 _ hoS _ (inR q hq).1).put _ _ _, (inR q hq).2⟩, ez2, fun H10 ks10 fr10 hg10 hst10 lks10 => ?_⟩
              have e2 : earlyZ y.cs k (setT tab8 k o z1) o = z2 := by unfold earlyZ; rw [ez2]; rfl
              have step : (((rch y.cs).take i).take (j + 1)).foldl (inStep y.cs k) tab6 = setT (setT tab8 k o z1) o k z2 := by
                rw [take_more eo, List.foldl_append, etab]
                show inStep y.cs k tab8 o = _
                unfold inStep
                rw [e1, e2]
              have lk10 := putK_len (putK kvs8 (keyL k o) (.int z1)) (keyL o k) (.int z2)
              refine ⟨_, ks10, _, _, rfl, f9.two ng0 ns0 fr10, fr10 _ _ hD9 (ne_of hD9 TA9.gr (by intro z; cases z)) (ne_of hD9 TA9.hst (by intro z; cases z)), TA9.two fr10 hg10 hst10, by omega, by omega, ?_, ?_, ?_⟩
              · intro a ha b hb
                rw [step]
                exact ((has8 a ha b hb).put _ _ _).put _ _ _
              · rw [step]
                exact (hkk8.put _ _ _).put _ _ _
              · intro a ha
                rw [step]
                rw [take_more eo] at ha
                rcases List.mem_append.mp ha with m | m
                · exact ⟨((hs8 a m).1.put _ _ _).put _ _ _, ((hs8 a m).2.put _ _ _).put _ _ _⟩
                · cases List.mem_singleton.mp m
                  exact ⟨(Has.new _ _ _).put _ _ _, Has.new _ _ _⟩
          · obtain ⟨kvs8, ks8, v3, v4, rfl, f8, hD8, TA8, lk8, lks8, has8, hkk8, hs8⟩ := pv8
            rw [List.length_map, List.take_length] at has8 hkk8 hs8
            rw [List.length_map] at lk8 lks8
            have hlen : ((rch y.cs).take i).length ≤ 21 := by rw [List.length_take]; omega
            refine ⟨kvs8, ks8, _, _, _, rfl, f8, TA8, by omega, by omega, ?_⟩
            intro a ha b hb
            rw [st1]
            rw [take_more ek] at ha hb
            rcases List.mem_append.mp ha with m | m
            · rcases List.mem_append.mp hb with m2 | m2
              · exact has8 a m b m2
              · cases List.mem_singleton.mp m2
                exact (hs8 a m).2
            · cases List.mem_singleton.mp m
              rcases List.mem_append.mp hb with m2 | m2
              · exact (hs8 b m2).1
              · cases List.mem_singleton.mp m2
                exact hkk8
    · obtain ⟨kvs, ks, v2, v3, v4, rfl, f5, TA5, lk, lks, has⟩ := pv5
      rw [List.length_map, List.take_length] at has
      exact q _ _ _ _ _ _ f5 TA5 has
end
end K68
end
section
set_option Elab.async false
set_option linter.all false
set_option maxRecDepth 100000
set_option maxHeartbeats 2000000
namespace K68
open PySem PySem.Spec PyProof.Rows L2
/-! ### data that may be compared -/
theorem lay_all : ∀ {ds : List PyData}, (∀ d ∈ ds, PyData.canLay0 d = true) → PyData.canLayAll0 ds = true
  | [], _ => rfl
  | d :: ds, h => by
    rw [PyData.canLayAll0, h d (List.mem_cons_self ..), lay_all fun e he => h e (List.mem_cons_of_mem _ he)]
    rfl
theorem dep_all {n : Nat} : ∀ {ds : List PyData}, (∀ d ∈ ds, PyData.depth d ≤ n) → PyData.depthAll ds ≤ n
  | [], _ => Nat.zero_le _
  | d :: ds, h => by
    rw [PyData.depthAll]
    have h1 := h d (List.mem_cons_self ..)
    have h2 := dep_all (ds := ds) fun e he => h e (List.mem_cons_of_mem _ he)
    omega
/-- plain enough, and n deep at most -/
structure Pl (n : Nat) (d : PyData) : Prop where
  lay : PyData.canLay0 d = true
  dep : PyData.depth d ≤ n
theorem Pl.mono {n m : Nat} {d : PyData} (h : Pl n d) (l : n ≤ m) : Pl m d := ⟨h.lay, Nat.le_trans h.dep l⟩
theorem Pl.int (i : Int) {n : Nat} : Pl n (.int i) := ⟨rfl, Nat.zero_le _⟩
theorem Pl.non {n : Nat} : Pl n .none := ⟨rfl, Nat.zero_le _⟩
theorem Pl.tup {n : Nat} {ds : List PyData} (h : ∀ d ∈ ds, Pl n d) : Pl (n + 1) (.tuple ds) := ⟨lay_all fun d hd => (h d hd).lay, Nat.succ_le_succ (dep_all fun d hd => (h d hd).dep)⟩
theorem Pl.lst {n : Nat} {ds : List PyData} (h : ∀ d ∈ ds, Pl n d) : Pl (n + 1) (.list ds) := ⟨lay_all fun d hd => (h d hd).lay, Nat.succ_le_succ (dep_all fun d hd => (h d hd).dep)⟩
theorem Pl.shaped {n : Nat} {d : PyData} (h : Pl n d) (l : n ≤ 64) : SeqAt.shaped d = true := by
  unfold SeqAt.shaped
  rw [h.lay, decide_eq_true (Nat.le_trans h.dep l)]
  rfl
theorem Pl.ints (l : List Int) : Pl 1 (intsD l) := Pl.tup fun d hd => by
  obtain ⟨x, _, rfl⟩ := List.mem_map.mp hd
  exact Pl.int x
theorem Pl.cl (x : Cl) : Pl 2 (clD x) := Pl.tup fun d hd => by
  simp only [List.mem_cons, List.not_mem_nil, or_false] at hd
  rcases hd with rfl | rfl | rfl | rfl | rfl
  · exact Pl.int _
  · exact Pl.int _
  · exact Pl.ints _
  · exact Pl.int _
  · exact Pl.int _
theorem Pl.sy (s : Sys) : Pl 4 (syD s) := Pl.tup fun d hd => by
  simp only [List.mem_cons, List.not_mem_nil, or_false] at hd
  rcases hd with rfl | rfl
  · exact Pl.int _
  · exact Pl.tup fun e he => by
      obtain ⟨x, _, rfl⟩ := List.mem_map.mp he
      exact Pl.cl x
theorem eqv_nil (ds : List PyData) : PyData.eqv (.list ds) (.list []) = ds.isEmpty := by
  cases ds with
  | nil => simp [PyData.eqv, PyData.eqvAll]
  | cons a b => simp [PyData.eqv, PyData.eqvAll]
/-! ### the messages and their pairs: the mirror -/
structure Msg where
  c : Int
  a : Int
  b : Int
  i : Nat
  t : Nat
def idD (m : Msg) : PyData := .tuple [.int (m.i : Nat), .int (m.t : Nat)]
def msgD (m : Msg) : PyData := .tuple [.int m.c, .int m.a, .int m.b, idD m]
def msgOf (p : Cl × Nat) (q : Int × Nat) : Msg := ⟨p.1.c, q.1 + p.1.l, q.1 + p.1.m, p.2, q.2⟩
def msgsOf (p : Cl × Nat) : List Msg := p.1.o.zipIdx.map (msgOf p)
def msgs (cs : List Cl) (k : Int) : List Msg := (into cs k).flatMap msgsOf
structure Pr where
  z : Int
  x : Msg
  y : Msg
def prD (p : Pr) : PyData := .tuple [.int p.z, idD p.x, idD p.y]
def prOf (tab : Int → Int → Int) (x y : Msg) : Option Pr := if (!PyData.eqv (idD x) (idD y)) = true then some ⟨tab x.c y.c + x.b - y.a, x, y⟩ else none
def prs (tab : Int → Int → Int) (ms : List Msg) : List Pr := ms.flatMap fun x => ms.filterMap (prOf tab x)
theorem len_flatMap {α β : Type} {f : α → List β} {n : Nat} : ∀ {l : List α}, (∀ x ∈ l, (f x).length ≤ n) → (l.flatMap f).length ≤ l.length * n
  | [], _ => Nat.zero_le _
  | x :: l, h => by
    have h1 := h x (List.mem_cons_self ..)
    have h2 := len_flatMap (l := l) fun y hy => h y (List.mem_cons_of_mem _ hy)
    rw [List.flatMap_cons, List.length_append, List.length_cons, Nat.add_mul]
    omega
theorem Pl.id (m : Msg) : Pl 1 (idD m) := Pl.tup fun d hd => by
  simp only [List.mem_cons, List.not_mem_nil, or_false] at hd
  rcases hd with rfl | rfl <;> exact Pl.int _
theorem FrP.tleL {p : Addr} {H H1 : Hp} {xs : List V} (f : FrP p H H1) (hp : H p = some (.lst xs)) : Tle H H1 := fun a xs e => f a _ e (ne_of e hp (by intro z; cases z))
theorem FrP.sameN {p : Addr} {H H1 : Hp} (f : FrP p H H1) (hp : H p = none) : Same H H1 := fun a _ e => f a _ e (ne_of_none e hp)
theorem FrP.trans {p : Addr} {H H1 H2 : Hp} (f : FrP p H H1) (g : FrP p H1 H2) : FrP p H H2 := fun a _ e n => g a _ (f a _ e n) n
theorem Td.msg_inv {H : Hp} {v : V} {m : Msg} (h : Td H v (msgD m)) : ∃ a t, v = .ref a ∧ H a = some (.tup [.int m.c, .int m.a, .int m.b, .ref t]) ∧ Td H (.ref t) (idD m) := by
  obtain ⟨a, xs, rfl, e, g⟩ := Td.tup_inv h
  obtain ⟨v1, r1, rfl, e1, g⟩ := g.cons_inv
  obtain ⟨v2, r2, rfl, e2, g⟩ := g.cons_inv
  obtain ⟨v3, r3, rfl, e3, g⟩ := g.cons_inv
  obtain ⟨v4, r4, rfl, e4, g⟩ := g.cons_inv
  obtain rfl := g.nil_inv
  obtain ⟨t, xs, rfl, _⟩ := id (Td.tup_inv e4)
  rw [e1.int_inv, e2.int_inv, e3.int_inv] at e
  exact ⟨a, t, rfl, e, e4⟩
theorem msgs_rch {cs : List Cl} {k : Int} {m : Msg} (h : m ∈ msgs cs k) : m.c ∈ rch cs := by
  obtain ⟨p, hp, hm⟩ := List.mem_flatMap.mp h
  obtain ⟨q, _, rfl⟩ := List.mem_map.mp hm
  exact (into_mem hp).2.2
/-- the table with its numbers told -/
def TabOk (K : PySem.W.Frag) (H : Hp) (p : Addr) (s : Sys) : Prop := ∃ dx v l g st kvs ks, DtAt K H p dx v s l g st kvs ks ∧ ∀ a ∈ rch s.cs, ∀ b ∈ rch s.cs, Has kvs (tabOf s.cs) a b
theorem TabOk.mono {K : PySem.W.Frag} {H H' : Hp} {p : Addr} {s : Sys} (h : TabOk K H p s) (q : Same H H') : TabOk K H' p s := by
  obtain ⟨dx, v, l, g, st, kvs, ks, h1, h2⟩ := h
  exact ⟨dx, v, l, g, st, kvs, ks, h1.mono q, h2⟩
section
variable {P : Program} {w : World} {K : PySem.W.Frag} {mg : Str → Option Value} {base : Heap}
def sp_message_pairs (K : PySem.W.Frag) : Sp := fun vs H Q _ => ∃ (p : Addr) (s : Sys) (k : Int), vs = [.ref p, .int k] ∧ TabOk K H p s ∧ SysOk s ∧
  ∀ l H' us, Same H H' → H l = none → H' l = some (.lst us) → TdAll H' us ((prs (tabOf s.cs) (msgs s.cs k)).map prD) → Q (.ref l) H'
abbrev N_message_pairs : List Str := ["table", "service", "messages", "index", "caller", "target", "offsets", "least", "most", "attempt", "offset", "pairs", "late_caller", "first", "latest", "late", "early_caller", "earliest", "last", "early"]
theorem sc_message_pairs : FnScope N_message_pairs ["table", "service"] (defScope s_message_pairs) := ⟨rfl, rfl, rfl, by decide +kernel, rfl, by decide +kernel, by decide +kernel⟩
theorem zi_moreI {cs : List Int} {i : Nat} {c : Int} (h : cs[i]? = some c) : cs.zipIdx.take (i + 1) = cs.zipIdx.take i ++ [(c, i)] := take_more (by rw [List.getElem?_zipIdx, h]; simp)
theorem offs4 {n : Int} {c : Cl} (h : isCall n c = true) : c.o.length ≤ 4 := by
  unfold isCall at h
  simp only [Bool.and_eq_true] at h
  obtain ⟨_, _, h3, _⟩ := h
  unfold areOffs at h3
  simp only [Bool.and_eq_true, decide_eq_true_eq] at h3
  exact h3.1.1.2
theorem ok_message_pairs (T : Tx w K mg) : GF P w K mg base CX0 3 "message_pairs" ["table", "service"] (sp_message_pairs K) := by
  have G2 := ok_calls_into (P := P) (base := base) T
  refine gf0 T.f_message_pairs T.g_message_pairs sc_message_pairs (fun _ F => F.bindsN fun _ _ _ _ _ _ us hl => match us, hl with | [_, _], _ => rfl) (fun vs H Q E h => ?_) (fun cdv A outer s H vs Q E hr h => ?_)
  · obtain ⟨p, s, k, rfl, _⟩ := h
    rfl
  · obtain ⟨p, y, k, rfl, TO, ⟨o1, o2, o3, o4⟩, q⟩ := h
    have nd := sc_message_pairs.nd
    have hu := hu_of hr
    have cD := T.c_DifferenceTable
    refine ⟨_, (pss_cons ((ps_set (i := 2) nd rfl (Or.inl rfl) (pe_lst pa_nil))) (pss_cons (ps_for PassesOwn.never rfl (pi_list (pe_f G2 (hr) (pass0) (pa_cons (pe_fld (pv 0) rfl) (pa_cons (pv 1) pa_nil)))) (pg_tup rfl (pgs_cons (pg_name (i := 3) nd rfl (Or.inl rfl)) (pgs_cons (pg_tup rfl (pgs_cons ((pg_name (i := 4) nd rfl (Or.inl rfl))) (pgs_cons ((pg_name (i := 5) nd rfl (Or.inl rfl))) (pgs_cons ((pg_name (i := 6) nd rfl (Or.inl rfl))) (pgs_cons ((pg_name (i := 7) nd rfl (Or.inl rfl))) (pgs_cons ((pg_name (i := 8) nd rfl (Or.inl rfl))) pgs_nil)))))) pgs_nil))) (pss_one (ps_for PassesOwn.never rfl (pi_enumT rfl T.z_enumerate (pa_cons (pv 6) pa_nil)) (pg_tup rfl (pgs_cons ((pg_name (i := 9) nd rfl (Or.inl rfl))) (pgs_cons ((pg_name (i := 10) nd rfl (Or.inl rfl))) pgs_nil))) (pss_one ((ps_expr (pe_bm PySem.F.plainAttrs_list PySem.F.slot_list_append PySem.F.type_list_append mt_append (pv 2) (pa_cons ((pe_tup (pa_cons (pv 4) (pa_cons ((pe_op (op_add) (pv 10) (pv 7))) (pa_cons ((pe_op (op_add) (pv 10) (pv 8))) (pa_cons ((pe_tup (pa_cons (pv 3) (pa_cons (pv 9) pa_nil)))) pa_nil)))))) pa_nil)))))))) (pss_cons ((ps_set (i := 11) nd rfl (Or.inl rfl) (pe_lst pa_nil))) (pss_cons (ps_for PassesOwn.never rfl (pi_list (pv 2)) (pg_tup rfl (pgs_cons ((pg_name (i := 12) nd rfl (Or.inl rfl))) (pgs_cons ((pg_name (i := 13) nd rfl (Or.inl rfl))) (pgs_cons ((pg_name (i := 14) nd rfl (Or.inl rfl))) (pgs_cons ((pg_name (i := 15) nd rfl (Or.inl rfl))) pgs_nil))))) (pss_one (ps_for PassesOwn.never rfl (pi_list (pv 2)) (pg_tup rfl (pgs_cons ((pg_name (i := 16) nd rfl (Or.inl rfl))) (pgs_cons ((pg_name (i := 17) nd rfl (Or.inl rfl))) (pgs_cons ((pg_name (i := 18) nd rfl (Or.inl rfl))) (pgs_cons ((pg_name (i := 19) nd rfl (Or.inl rfl))) pgs_nil))))) (pss_one ((ps_if ((pt_cmpR (op_neD hr.units) (pv 15) (pv 19) (nomark _))) ((pss_one ((ps_expr (pe_bm PySem.F.plainAttrs_list PySem.F.slot_list_append PySem.F.type_list_append mt_append (pv 11) (pa_cons ((pe_tup (pa_cons ((pe_op (op_sub) ((pe_op (op_add) (pe_dget hu (pe_fld (pv 0) rfl) (pe_tup (pa_cons (pv 12) (pa_cons (pv 16) pa_nil))) (fun _ _ => rfl)) (pv 14))) (pv 17))) (pa_cons (pv 15) (pa_cons (pv 19) pa_nil))))) pa_nil)))))) (pss_nil))))))) (pss_one ((ps_ret (pv 11)))))))), ?_⟩
    obtain ⟨dx, v, l, g, st, kvs, ks, TA, has⟩ := TO
    refine ⟨Nat.zero_le _, fun M hM => ?_⟩
    have s0 : Same H (upd H M (.lst [])) := Same.new hM
    have TA0 := TA.mono s0
    refine ⟨_, rfl, p, _, _, _, _, rfl, TA0.ins, cD, T.n_system, tf_system, _, rfl, v, y, k, rfl, TA0.sy, o3, fun D H1 us s1 nD hD tD => ?_⟩
    have s01 := s0.trans s1
    have hM1 := s1 _ _ (upd_same (H := H) (a := M) (o := HO.lst []))
    have nDM : D ≠ M := fun z => by rw [z, upd_same] at nD; cases nD
    have TA1 := TA.mono s01
    have hlen : (into y.cs k).length ≤ 20 := by
      have h1 : (into y.cs k).length ≤ y.cs.zipIdx.length := List.length_filter_le ..
      rw [List.length_zipIdx] at h1
      omega
    have hoff : ∀ q ∈ into y.cs k, q.1.o.length ≤ 4 := fun q hq => offs4 (o4 _ (into_mem hq).1)
    refine ⟨D, rfl, ⟨_, SqL.of hD⟩, for_list (K := K) (a := D) (xs := us) (fun i σ H' => ∃ ms v3 v4 v5 v6 v7 v8 v9 v10, σ = [some (.ref p), some (.int k), some (.ref M), v3, v4, v5, v6, v7, v8, v9, v10, none, none, none, none, none, none, none, none, none] ∧
      FrP M H1 H' ∧ H' M = some (.lst ms) ∧ TdAll H' ms ((((into y.cs k).take i).flatMap msgsOf).map msgD)) ⟨[], none, none, none, none, none, none, none, none, rfl, FrP.refl, hM1, .nil⟩
      (fun i σ H' _ ⟨_, _, _, _, _, _, _, _, _, _, f, _, _⟩ => SqL.of (f _ _ hD nDM)) (fun i x σ H2 hx pv2 => ?_) (fun σ H2 pv2 => ?_)⟩
    · obtain ⟨ms, v3, v4, v5, v6, v7, v8, v9, v10, rfl, f2, hM2, tM2⟩ := pv2
      obtain ⟨d, hd, td⟩ := (tD.mono (f2.tleL hM1)).get hx
      rw [List.getElem?_map] at hd
      cases ec : (into y.cs k)[i]? with
      | none => rw [ec] at hd; cases hd
      | some c =>
        rw [ec] at hd
        cases Option.some.inj hd
        have hcm := List.mem_of_getElem? ec
        have hi20 : i < 20 := Nat.lt_of_lt_of_le (List.getElem?_eq_some_iff.mp ec).1 hlen
        obtain ⟨e, xs, rfl, he, g1⟩ := td.tup_inv
        obtain ⟨w1, r1, rfl, e1, g1⟩ := g1.cons_inv
        obtain ⟨w2, r2, rfl, e2, g1⟩ := g1.cons_inv
        obtain rfl := g1.nil_inv
        obtain rfl := e1.int_inv
        obtain ⟨a2, o2', rfl, ha2, ho2⟩ := e2.cl_inv
        refine ⟨e, _, rfl, SqT.of he, rfl, _, _, rfl, _, _, rfl, ⟨a2, _, rfl, SqT.of ha2, rfl, _, _, rfl, _, _, rfl, _, _, rfl, _, _, rfl, _, _, rfl, rfl, rfl, ?_⟩⟩
        refine ⟨_, rfl, o2', _, rfl, SqT.of ho2, ?_⟩
        refine for_it (walk_enumT (xs := c.1.o.map V.int)) (fun j σ H' => ∃ ms v9 v10, σ = [some (.ref p), some (.int k), some (.ref M), some (.int c.2), some (.int c.1.c), some (.int c.1.t), some (.ref o2'), some (.int c.1.l), some (.int c.1.m), v9, v10, none, none, none, none, none, none, none, none, none] ∧
          FrP M H1 H' ∧ H' o2' = some (.tup (c.1.o.map V.int)) ∧ H' M = some (.lst ms) ∧ TdAll H' ms (((((into y.cs k).take i).flatMap msgsOf) ++ (c.1.o.zipIdx.take j).map (msgOf c)).map msgD)) ⟨ms, _, _, rfl, f2, ho2, hM2, by simpa using tM2⟩
          (fun j σ H' _ ⟨_, _, _, _, _, h, _⟩ => SqT.of h) (fun j x σ H3 H3' hj pv3 yl => ?_) (fun σ H3 pv3 => ?_)
        · obtain ⟨ms3, v9, v10, rfl, f3, ho3, hM3, tM3⟩ := pv3
          obtain ⟨T0, x0, y0, rfl, hT, rfl, hx0, hy0⟩ := yl
          cases Option.some.inj hx0
          have hy0 : (c.1.o.map V.int)[j]? = some y0 := hy0
          rw [List.getElem?_map] at hy0
          cases eo : c.1.o[j]? with
          | none => rw [eo] at hy0; cases hy0
          | some o =>
            rw [eo] at hy0
            cases Option.some.inj hy0
            have hj4 : j < 4 := Nat.lt_of_lt_of_le (List.getElem?_eq_some_iff.mp eo).1 (hoff _ hcm)
            refine ⟨T0, _, rfl, SqT.of upd_same, rfl, _, _, rfl, _, _, rfl, rfl, ?_⟩
            have hM3b := upd_ne' (o := HO.tup [.int (j : Nat), .int o]) hT hM3
            refine ⟨_, rfl, .inl ⟨rfl, _, SqL.of hM3b⟩, ?_⟩
            refine ⟨_, rfl, _, rfl, _, rfl, _, _, rfl, rfl, _, rfl, _, rfl, _, _, rfl, rfl, _, rfl, _, rfl, by show 2 ≤ sizeLine; decide, fun t1 ht1 => ⟨by show 4 ≤ sizeLine; decide, fun t2 ht2 => ?_⟩⟩
            have hM3c := upd_ne' (o := HO.tup [.int c.1.c, .int (o + c.1.l), .int (o + c.1.m), .ref t1]) ht2 (upd_ne' (o := HO.tup [.int (c.2 : Nat), .int (j : Nat)]) ht1 hM3b)
            have lms : ms3.length ≤ 84 := by
              have l1 := tM3.len
              rw [List.length_map, List.length_append, List.length_map] at l1
              have l2 := len_flatMap (f := msgsOf) (n := 4) (l := (into y.cs k).take i) (fun q hq => by
                unfold msgsOf
                rw [List.length_map, List.length_zipIdx]
                exact hoff _ (List.mem_of_mem_take hq))
              have l3 : ((into y.cs k).take i).length ≤ 20 := by rw [List.length_take]; omega
              have l4 : (c.1.o.zipIdx.take j).length ≤ 4 := by rw [List.length_take]; omega
              omega
            refine ⟨M, _, _, rfl, rfl, hM3c, Nat.lt_of_le_of_lt lms (by decide), ?_⟩
            have s4 : Same H3 (upd (upd (upd H3 T0 (.tup [.int (j : Nat), .int o])) t1 (.tup [.int (c.2 : Nat), .int (j : Nat)])) t2 (.tup [.int c.1.c, .int (o + c.1.l), .int (o + c.1.m), .ref t1])) := ((Same.new hT).trans (Same.new ht1)).trans (Same.new ht2)
            refine ⟨_, _, _, rfl, (f3.same s4).upd, ?_, upd_same, ?_⟩
            · exact tle_lst hM3c _ _ (s4 _ _ ho3)
            · rw [zi_moreI eo, List.map_append (f := msgOf c), ← List.append_assoc, List.map_append (f := msgD)]
              refine TdAll.append ((tM3.mono s4.tle).mono (tle_lst hM3c)) (.cons ?_ .nil)
              refine Td.mono (tle_lst hM3c) (.tup upd_same (.cons (.int _) (.cons (.int _) (.cons (.int _) (.cons (.tup (upd_ne' ht2 upd_same) (.cons (.int _) (.cons (.int _) .nil))) .nil)))))
        · obtain ⟨ms3, v9, v10, rfl, f3, ho3, hM3, tM3⟩ := pv3
          refine ⟨ms3, _, _, _, _, _, _, _, _, rfl, f3, hM3, ?_⟩
          rw [take_more ec, List.flatMap_append]
          rw [List.length_map, ← List.length_zipIdx (l := c.1.o) (i := 0), List.take_length] at tM3
          simpa [msgsOf] using tM3
    · obtain ⟨ms, v3, v4, v5, v6, v7, v8, v9, v10, rfl, f2, hM2, tM2⟩ := pv2
      rw [show us.length = (into y.cs k).length by rw [tD.len, List.length_map], List.take_length] at tM2
      have tM2 : TdAll H2 ms ((msgs y.cs k).map msgD) := tM2
      have s2 : Same H H2 := fun b x e => f2 _ _ (s01 _ _ e) (ne_of_none e hM)
      have lmm : (msgs y.cs k).length ≤ 80 := by
        have l2 := len_flatMap (f := msgsOf) (n := 4) (l := into y.cs k) (fun q hq => by
          unfold msgsOf
          rw [List.length_map, List.length_zipIdx]
          exact hoff _ hq)
        unfold msgs
        omega
      have lfm : ∀ (x : Msg) (l : List Msg), (l.filterMap (prOf (tabOf y.cs) x)).length ≤ l.length := fun x l => List.length_filterMap_le _ _
      refine ⟨Nat.zero_le _, fun R hR => ?_⟩
      have nMR : M ≠ R := ne_of_none hM2 hR
      have hR3 : (upd H2 R (.lst [])) R = some (.lst []) := upd_same
      have hR0 : H R = none := s2.free hR
      have s3 : Same H (upd H2 R (.lst [])) := s2.trans (Same.new hR)
      have hM3 : (upd H2 R (.lst [])) M = some (.lst ms) := upd_ne' hR hM2
      have tM3 := tM2.mono (Same.new (o := HO.lst []) hR).tle
      revert hR3 s3 hM3 tM3
      generalize upd H2 R (.lst []) = H3
      intro hR3 s3 hM3 tM3
      have TA3 := TA.mono s3
      refine ⟨_, rfl, M, rfl, ⟨_, SqL.of hM3⟩, for_list (K := K) (a := M) (xs := ms) (fun i σ H' => ∃ rs v12 v13 v14 v15 v16 v17 v18 v19, σ = [some (.ref p), some (.int k), some (.ref M), v3, v4, v5, v6, v7, v8, v9, v10, some (.ref R), v12, v13, v14, v15, v16, v17, v18, v19] ∧
        FrP R H3 H' ∧ H' R = some (.lst rs) ∧ TdAll H' rs ((((msgs y.cs k).take i).flatMap fun x => (msgs y.cs k).filterMap (prOf (tabOf y.cs) x)).map prD)) ⟨[], none, none, none, none, none, none, none, none, rfl, FrP.refl, hR3, .nil⟩
        (fun i σ H' _ ⟨_, _, _, _, _, _, _, _, _, _, f, _, _⟩ => SqL.of (f _ _ hM3 nMR)) (fun i x σ H4 hx pv4 => ?_) (fun σ H4 pv4 => ?_)⟩
      · obtain ⟨rs, v12, v13, v14, v15, v16, v17, v18, v19, rfl, f4, hR4, tR4⟩ := pv4
        obtain ⟨d, hd, td⟩ := (tM3.mono (f4.tleL hR3)).get hx
        rw [List.getElem?_map] at hd
        cases ex : (msgs y.cs k)[i]? with
        | none => rw [ex] at hd; cases hd
        | some X1 =>
          rw [ex] at hd
          cases Option.some.inj hd
          have hi80 : i < 80 := Nat.lt_of_lt_of_le (List.getElem?_eq_some_iff.mp ex).1 lmm
          have hXr := msgs_rch (List.mem_of_getElem? ex)
          obtain ⟨a1, i1, rfl, ha1, hi1⟩ := td.msg_inv
          refine ⟨a1, _, rfl, SqT.of ha1, rfl, _, _, rfl, _, _, rfl, _, _, rfl, _, _, rfl, rfl, ?_⟩
          refine ⟨_, rfl, M, rfl, ⟨_, SqL.of (f4 _ _ hM3 nMR)⟩, for_list (K := K) (a := M) (xs := ms) (fun j σ H' => ∃ rs v16 v17 v18 v19, σ = [some (.ref p), some (.int k), some (.ref M), v3, v4, v5, v6, v7, v8, v9, v10, some (.ref R), some (.int X1.c), some (.int X1.a), some (.int X1.b), some (.ref i1), v16, v17, v18, v19] ∧
            FrP R H3 H' ∧ Td H' (.ref i1) (idD X1) ∧ H' R = some (.lst rs) ∧ TdAll H' rs (((((msgs y.cs k).take i).flatMap fun x => (msgs y.cs k).filterMap (prOf (tabOf y.cs) x)) ++ ((msgs y.cs k).take j).filterMap (prOf (tabOf y.cs) X1)).map prD)) ⟨rs, _, _, _, _, rfl, f4, hi1, hR4, by simpa using tR4⟩
            (fun i σ H' _ ⟨_, _, _, _, _, _, f, _, _⟩ => SqL.of (f _ _ hM3 nMR)) (fun j x σ H5 hx pv5 => ?_) (fun σ H5 pv5 => ?_)⟩
          · obtain ⟨rs5, v16, v17, v18, v19, rfl, f5, hi5, hR5, tR5⟩ := pv5
            obtain ⟨d, hd, td⟩ := (tM3.mono (f5.tleL hR3)).get hx
            rw [List.getElem?_map] at hd
            cases ey : (msgs y.cs k)[j]? with
            | none => rw [ey] at hd; cases hd
            | some Y1 =>
              rw [ey] at hd
              cases Option.some.inj hd
              have hj80 : j < 80 := Nat.lt_of_lt_of_le (List.getElem?_eq_some_iff.mp ey).1 lmm
              have hYr := msgs_rch (List.mem_of_getElem? ey)
              obtain ⟨a2, i2, rfl, ha2, hi2⟩ := td.msg_inv
              refine ⟨a2, _, rfl, SqT.of ha2, rfl, _, _, rfl, _, _, rfl, _, _, rfl, _, _, rfl, rfl, ?_⟩
              refine ⟨_, rfl, _, rfl, _, _, hi5.dp, hi2.dp, (Pl.id X1).shaped (by decide), (Pl.id Y1).shaped (by decide), _, rfl, ?_⟩
              have step : ((msgs y.cs k).take (j + 1)).filterMap (prOf (tabOf y.cs) X1) = ((msgs y.cs k).take j).filterMap (prOf (tabOf y.cs) X1) ++ (prOf (tabOf y.cs) X1 Y1).toList := by
                rw [take_more ey, List.filterMap_append]
                congr 1
              by_cases cd : (!PyData.eqv (idD X1) (idD Y1)) = true
              · rw [cd]
                have TA5 : DtAt K H5 p dx v y l g st kvs ks := TA.mono (fun b x e => f5 _ _ (s3 _ _ e) (ne_of_none e hR0))
                refine iteT ⟨_, rfl, .inl ⟨rfl, _, SqL.of hR5⟩, ?_⟩
                refine ⟨_, rfl, p, _, _, _, _, rfl, TA5.ins, cD, T.n_greatest, tf_greatest, _, rfl, _, rfl, by show 2 ≤ sizeLine; decide, fun t1 ht1 => ?_⟩
                have s6 : Same H5 (upd H5 t1 (.tup [.int X1.c, .int Y1.c])) := Same.new ht1
                refine ⟨g, _, rfl, (show valV kvs (keyL X1.c Y1.c) = _ from has _ hXr _ hYr) ▸ DGet.t (k := keyL X1.c Y1.c) (s6 _ _ TA5.gr) upd_same, ?_⟩
                refine ⟨_, rfl, _, _, rfl, rfl, _, rfl, _, _, rfl, rfl, _, rfl, _, rfl, by show 3 ≤ sizeLine; decide, fun t2 ht2 => ?_⟩
                have hR6 := upd_ne' (o := HO.tup [.int (tabOf y.cs X1.c Y1.c + X1.b - Y1.a), .ref i1, .ref i2]) ht2 (s6 _ _ hR5)
                have lrs : rs5.length ≤ 6480 := by
                  have l1 := tR5.len
                  rw [List.length_map, List.length_append] at l1
                  have l2 := len_flatMap (f := fun x => (msgs y.cs k).filterMap (prOf (tabOf y.cs) x)) (n := 80) (l := (msgs y.cs k).take i) (fun q hq => Nat.le_trans (lfm _ _) lmm)
                  have l3 : ((msgs y.cs k).take i).length ≤ 80 := by rw [List.length_take]; omega
                  have l4 := lfm X1 ((msgs y.cs k).take j)
                  have l5 : ((msgs y.cs k).take j).length ≤ 80 := by rw [List.length_take]; omega
                  omega
                refine ⟨R, _, _, rfl, rfl, hR6, Nat.lt_of_le_of_lt lrs (by decide), ?_⟩
                have s7 := s6.trans (Same.new (o := HO.tup [.int (tabOf y.cs X1.c Y1.c + X1.b - Y1.a), .ref i1, .ref i2]) ht2)
                refine ⟨_, _, _, _, _, rfl, (f5.same s7).upd, (hi5.mono s7.tle).mono (tle_lst hR6), upd_same, ?_⟩
                rw [step, ← List.append_assoc, List.map_append]
                have e1 : prOf (tabOf y.cs) X1 Y1 = some ⟨tabOf y.cs X1.c Y1.c + X1.b - Y1.a, X1, Y1⟩ := by
                  unfold prOf
                  rw [if_pos cd]
                rw [e1]
                refine TdAll.append ((tR5.mono s7.tle).mono (tle_lst hR6)) (.cons ?_ .nil)
                exact Td.mono (tle_lst hR6) (.tup upd_same (.cons (.int _) (.cons (hi5.mono s7.tle) (.cons (hi2.mono s7.tle) .nil))))
              · rw [Bool.eq_false_iff.mpr cd]
                refine iteF ⟨rs5, _, _, _, _, rfl, f5, hi5, hR5, ?_⟩
                have e1 : prOf (tabOf y.cs) X1 Y1 = none := by
                  unfold prOf
                  rw [if_neg cd]
                rw [step, e1]
                simpa using tR5
          · obtain ⟨rs5, v16, v17, v18, v19, rfl, f5, hi5, hR5, tR5⟩ := pv5
            refine ⟨rs5, _, _, _, _, _, _, _, _, rfl, f5, hR5, ?_⟩
            rw [show ms.length = (msgs y.cs k).length by rw [tM2.len, List.length_map], List.take_length] at tR5
            rw [take_more ex, List.flatMap_append]
            simpa using tR5
      · obtain ⟨rs, v12, v13, v14, v15, v16, v17, v18, v19, rfl, f4, hR4, tR4⟩ := pv4
        rw [show ms.length = (msgs y.cs k).length by rw [tM2.len, List.length_map], List.take_length] at tR4
        exact ⟨_, rfl, q R H4 rs (fun b x e => f4 _ _ (s3 _ _ e) (ne_of_none e hR0)) hR0 hR4 tR4⟩
end
end K68
end
section
set_option Elab.async false
set_option linter.all false
set_option maxRecDepth 100000
set_option maxHeartbeats 2000000
namespace K68
open PySem PySem.Spec PyProof.Rows L2
def maxO : List Int → Option Int
  | [] => none
  | x :: l => match maxO l with
    | none => some x
    | some y => some (if x ≤ y then y else x)
theorem maxO_ne : ∀ {l : List Int}, l ≠ [] → ∃ z, maxO l = some z
  | [], h => absurd rfl h
  | x :: l, _ => by
    unfold maxO
    cases maxO l with
    | none => exact ⟨_, rfl⟩
    | some y => exact ⟨_, rfl⟩
theorem maxO_is : ∀ {l : List Int} {z : Int}, maxO l = some z → z ∈ l ∧ ∀ y ∈ l, y ≤ z
  | [], z, h => by cases h
  | x :: l, z, h => by
    unfold maxO at h
    cases e : maxO l with
    | none =>
      rw [e] at h
      cases Option.some.inj h
      have hl : l = [] := Classical.byContradiction fun n => by
        obtain ⟨q, eq⟩ := maxO_ne n
        rw [e] at eq
        cases eq
      subst hl
      exact ⟨by simp, by simp⟩
    | some y =>
      rw [e] at h
      obtain ⟨h1, h2⟩ := maxO_is e
      have h3 : (if x ≤ y then y else x) = z := Option.some.inj h
      by_cases c : x ≤ y
      · rw [if_pos c] at h3
        subst h3
        refine ⟨List.mem_cons_of_mem _ h1, fun q hq => ?_⟩
        rcases List.mem_cons.mp hq with rfl | hq
        · exact c
        · exact h2 q hq
      · rw [if_neg c] at h3
        subst h3
        refine ⟨List.mem_cons_self .., fun q hq => ?_⟩
        rcases List.mem_cons.mp hq with rfl | hq
        · omega
        · have := h2 q hq
          omega
theorem maxO_eq {l : List Int} {m : Int} (h1 : m ∈ l) (h2 : ∀ y ∈ l, y ≤ m) : maxO l = some m := by
  obtain ⟨z, ez⟩ := maxO_ne (l := l) (fun e => by rw [e] at h1; cases h1)
  obtain ⟨h3, h4⟩ := maxO_is ez
  have := h2 z h3
  have := h4 m h1
  rw [ez]
  congr 1
  omega
def wid (cs : List Cl) (k : Int) : Option Int := maxO ((prs (tabOf cs) (msgs cs k)).map (·.z))
def lwAt (cs : List Cl) (k : Int) : Int := if k ∈ rch cs then (wid cs k).getD 0 else 0
def lw (s : Sys) : List Int := (List.range s.n.toNat).map fun i => lwAt s.cs (0 + (i : Nat))
def WAt (H : Hp) (v : V) : Option Int → Prop
  | none => v = .non
  | some z => ∃ a x y, v = .ref a ∧ H a = some (.tup [.int z, x, y])
theorem alike_pr (x y : Pr) : PySem.W.alike (prD x) (prD y) = true := by simp [prD, idD, PySem.W.alike, PySem.W.alikeAll]
theorem Pl.pr (m : Pr) : Pl 2 (prD m) := Pl.tup fun d hd => by
  simp only [List.mem_cons, List.not_mem_nil, or_false] at hd
  rcases hd with rfl | rfl | rfl
  · exact Pl.int _
  · exact Pl.id _
  · exact Pl.id _
theorem Td.pr_inv {H : Hp} {v : V} {m : Pr} (h : Td H v (prD m)) : ∃ a x y, v = .ref a ∧ H a = some (.tup [.int m.z, x, y]) := by
  obtain ⟨a, xs, rfl, e, g⟩ := Td.tup_inv h
  obtain ⟨v1, r1, rfl, e1, g⟩ := g.cons_inv
  obtain ⟨v2, r2, rfl, e2, g⟩ := g.cons_inv
  obtain ⟨v3, r3, rfl, e3, g⟩ := g.cons_inv
  obtain rfl := g.nil_inv
  rw [e1.int_inv] at e
  exact ⟨a, _, _, rfl, e⟩
theorem prs_len {s : Sys} (h : SysOk s) (tab : Int → Int → Int) (k : Int) : (prs tab (msgs s.cs k)).length ≤ 6400 := by
  obtain ⟨_, _, o3, o4⟩ := h
  have hlen : (into s.cs k).length ≤ 20 := by
    have h1 : (into s.cs k).length ≤ s.cs.zipIdx.length := List.length_filter_le ..
    rw [List.length_zipIdx] at h1
    omega
  have lmm : (msgs s.cs k).length ≤ 80 := by
    have l2 := len_flatMap (f := msgsOf) (n := 4) (l := into s.cs k) (fun q hq => by
      unfold msgsOf
      rw [List.length_map, List.length_zipIdx]
      exact offs4 (o4 _ (into_mem hq).1))
    unfold msgs
    omega
  have l2 := len_flatMap (f := fun x => (msgs s.cs k).filterMap (prOf tab x)) (n := 80) (l := msgs s.cs k) (fun q hq => Nat.le_trans (List.length_filterMap_le _ _) lmm)
  unfold prs
  omega
section
variable {P : Program} {w : World} {K : PySem.W.Frag} {mg : Str → Option Value} {base : Heap}
def sp_widest_pair (K : PySem.W.Frag) : Sp := fun vs H Q _ => ∃ (p : Addr) (s : Sys) (k : Int), vs = [.ref p, .int k] ∧ TabOk K H p s ∧ SysOk s ∧ ∀ v H', Same H H' → WAt H' v (wid s.cs k) → Q v H'
abbrev N_widest_pair : List Str := ["table", "service", "pairs", "spread", "pair"]
theorem sc_widest_pair : FnScope N_widest_pair ["table", "service"] (defScope s_widest_pair) := ⟨rfl, rfl, rfl, by decide +kernel, rfl, by decide +kernel, by decide +kernel⟩
theorem ok_widest_pair (T : Tx w K mg) : GF P w K mg base CX0 4 "widest_pair" ["table", "service"] (sp_widest_pair K) := by
  have G1 := ok_message_pairs (P := P) (base := base) T
  refine gf0 T.f_widest_pair T.g_widest_pair sc_widest_pair (fun _ F => F.bindsN fun _ _ _ _ _ _ us hl => match us, hl with | [_, _], _ => rfl) (fun vs H Q E h => ?_) (fun cdv A outer s H vs Q E hr h => ?_)
  · obtain ⟨p, s, k, rfl, _⟩ := h
    rfl
  · obtain ⟨p, y, k, rfl, TO, SO, q⟩ := h
    have nd := sc_widest_pair.nd
    refine ⟨_, (pss_cons ((ps_set (i := 2) nd rfl (Or.inl rfl) ((pe_f G1 (hr) (pass0) (pa_cons (pv 0) (pa_cons (pv 1) pa_nil)))))) (pss_cons ((ps_if ((pt_cmpR (op_eqD hr.units) (pv 2) (pe_lst pa_nil) (nomark _))) ((pss_one ((ps_ret (pe_non))))) (pss_nil))) (pss_cons ((ps_set (i := 3) nd rfl (Or.inr rfl) ((pe_callB (cr_max rfl) rfl T.z_max boot_max (pa_cons (pe_lc (own := [("pair", 4)]) (g := gName 4) (tt := tYes) rfl nd (pi_list (pv 2)) (blkOk_by (N := N_widest_pair) (sc := defScope s_widest_pair) (by decide +kernel)) (fun _ _ _ _ _ => pg_name (i := 4) nd rfl (Or.inl rfl)) (fun _ _ _ _ _ => pts_nil) (fun _ _ _ _ _ => (pe_ix ix_tupS (pv 4) (pe_int) (fun _ _ => rfl)))) pa_nil))))) (pss_one ((ps_ret ((pe_callB (call_minD rfl hr.units) rfl T.z_min boot_min (pa_cons (pe_lc (own := [("pair", 4)]) (g := gName 4) rfl nd (pi_list (pv 2)) (blkOk_by (N := N_widest_pair) (sc := defScope s_widest_pair) (by decide +kernel)) (fun _ _ _ _ _ => pg_name (i := 4) nd rfl (Or.inl rfl)) (fun _ _ _ _ _ => pts_one (pt_cmpR (op_eq) ((pe_ix ix_tupS (pv 4) (pe_int) (fun _ _ => rfl))) (pv 3) (nomark _))) (fun _ _ _ _ _ => pv 4)) pa_nil))))))))), ?_⟩
    refine ⟨_, rfl, _, rfl, p, y, k, rfl, TO, SO, fun l H1 us s1 nl hl tl => ?_⟩
    refine ⟨_, rfl, Nat.zero_le _, fun e he => ?_⟩
    have hl2 := upd_ne' (o := HO.lst []) he hl
    have tl2 := tl.mono (Same.new (o := HO.lst []) he).tle
    have s2 : Same H (upd H1 e (.lst [])) := s1.trans (Same.new he)
    refine ⟨.list ((prs (tabOf y.cs) (msgs y.cs k)).map prD), .list [], .lst (SqL.of hl2) tl2.dp, .lst (SqL.of upd_same) .nil, (Pl.lst (n := 2) fun d hd => by
      obtain ⟨x, _, rfl⟩ := List.mem_map.mp hd
      exact Pl.pr x).shaped (by decide), by decide, _, rfl, ?_⟩
    rw [eqv_nil]
    revert hl2 tl2 s2
    generalize upd H1 e (.lst []) = H2
    intro hl2 tl2 s2
    have lps := prs_len SO (tabOf y.cs) k
    have h24 : 6400 < sizeLine := by decide
    generalize eps : prs (tabOf y.cs) (msgs y.cs k) = ps at tl2 tl lps
    have ew : wid y.cs k = maxO (ps.map (·.z)) := by unfold wid; rw [eps]
    have hlen : us.length = ps.length := by rw [tl.len, List.length_map]
    cases ps with
    | nil =>
      refine iteT ?_
      exact q _ _ s2 (by rw [ew]; rfl)
    | cons p0 ps0 =>
      refine iteF ?_
      generalize hps : p0 :: ps0 = ps at *
      have hne : ps.map (·.z) ≠ [] := by rw [← hps]; simp
      refine ⟨_, rfl, l, rfl, ⟨_, SqL.of hl2⟩, fun D hD => ?_⟩
      refine lc_s (walk_list (xs := us)) hD (fun i acc _ => acc = (ps.take i).map fun x => V.int x.z) rfl (fun H3 s3 => SqL.of (s3 _ _ hl2)) (fun i x H3 H3' acc hi s3 hacc lacc acc1 yl => ?_) (fun H3 acc s3 hacc acc1 => ?_)
      · obtain ⟨rfl, hx⟩ := yl
        obtain ⟨d, hd, td⟩ := tl2.get hx
        rw [List.getElem?_map] at hd
        cases ec : ps[i]? with
        | none => rw [ec] at hd; cases hd
        | some c =>
          rw [ec] at hd
          cases Option.some.inj hd
          obtain ⟨a, x1, y1, rfl, ha⟩ := td.pr_inv
          refine ⟨rfl, _, rfl, a, _, _, _, rfl, rfl, s3 _ _ ha, rfl, LcP.push hD s3 hacc lacc ?_ ?_⟩
          · omega
          · show acc ++ [_] = _
            rw [show acc = _ from acc1, take_more ec, List.map_append]
            rfl
      · rw [hlen, List.take_length] at acc1
        obtain rfl : acc = _ := acc1
        have e1 : (ps.map fun x => V.int x.z) = (ps.map (·.z)).map V.int := by rw [List.map_map]; rfl
        refine ⟨D, ps.map (·.z), rfl, SqL.of (e1 ▸ hacc), List.length_pos_iff.mpr hne, fun m hm hle => ?_⟩
        have em : wid y.cs k = some m := by rw [ew]; exact maxO_eq hm hle
        have hl3 := s3 _ _ hl2
        have tl3 := tl2.mono s3.tle
        refine ⟨_, rfl, l, rfl, ⟨_, SqL.of hl3⟩, fun D2 hD2 => ?_⟩
        refine lc_s (walk_list (xs := us)) hD2 (fun i acc H' => TdAll H' acc (((ps.take i).filter fun x => decide (x.z = m)).map prD)) .nil (fun H4 s4 => SqL.of (s4 _ _ hl3)) (fun i x H4 H4' acc2 hi s4 hacc2 lacc2 acc1 yl => ?_) (fun H4 acc2 s4 hacc2 acc1 => ?_)
        · obtain ⟨rfl, hx⟩ := yl
          obtain ⟨d, hd, td⟩ := (tl3.mono s4.tle).get hx
          rw [List.getElem?_map] at hd
          cases ec : ps[i]? with
          | none => rw [ec] at hd; cases hd
          | some c =>
            rw [ec] at hd
            cases Option.some.inj hd
            obtain ⟨a, x1, y1, rfl, ha⟩ := td.pr_inv
            refine ⟨rfl, _, rfl, a, _, _, _, rfl, rfl, ha, rfl, _, rfl, rfl, _, rfl, ?_⟩
            have step : ((ps.take (i + 1)).filter fun x => decide (x.z = m)).map prD = (((ps.take i).filter fun x => decide (x.z = m)).map prD) ++ (if c.z = m then [prD c] else []) := by
              rw [take_more ec, List.filter_append, List.map_append]
              congr 1
              by_cases cz : c.z = m
              · simp [cz]
              · simp [cz]
            by_cases cz : c.z = m
            · rw [decide_eq_true (congrArg V.int cz)]
              refine iteT ⟨_, rfl, LcP.push hD2 s4 hacc2 lacc2 (by omega) ?_⟩
              show TdAll _ _ _
              rw [step, if_pos cz]
              exact TdAll.append (TdAll.mono (tle_lst hacc2) acc1) (.cons (td.mono (tle_lst hacc2)) .nil)
            · rw [decide_eq_false (fun z => cz (V.int.inj z))]
              refine iteF (LcP.skip s4 hacc2 lacc2 ?_)
              show TdAll _ _ _
              rw [step, if_neg cz, List.append_nil]
              exact acc1
        · rw [hlen, List.take_length] at acc1
          refine ⟨D2, acc2, _, rfl, SqL.of hacc2, TdAll.dp acc1, ?_, ?_, ?_, fun x hx => ?_⟩
          · intro d hd e he
            obtain ⟨x, _, rfl⟩ := List.mem_map.mp hd
            obtain ⟨y, _, rfl⟩ := List.mem_map.mp he
            exact alike_pr x y
          · intro d hd
            obtain ⟨x, _, rfl⟩ := List.mem_map.mp hd
            exact ⟨(by intro z; cases z), Nat.le_trans (Pl.pr x).dep (by decide)⟩
          · obtain ⟨x, hx, ex⟩ := List.mem_map.mp hm
            have l1 := TdAll.len acc1
            rw [List.length_map] at l1
            rw [l1]
            exact List.length_pos_iff.mpr (List.ne_nil_of_mem (List.mem_filter.mpr ⟨hx, decide_eq_true ex⟩))
          · obtain ⟨i, hi⟩ := List.mem_iff_getElem?.mp hx
            obtain ⟨d, hd, td⟩ := TdAll.get acc1 hi
            obtain ⟨pz, hpz, rfl⟩ := List.mem_map.mp (List.mem_of_getElem? hd)
            have ez : pz.z = m := of_decide_eq_true (List.mem_filter.mp hpz).2
            refine q _ _ ((s2.trans s3).trans s4) ?_
            rw [em]
            obtain ⟨a, x1, y1, rfl, ha⟩ := td.pr_inv
            rw [ez] at ha
            exact ⟨a, x1, y1, rfl, ha⟩
/-! ### find_least_windows -/
def sp_find (K : PySem.W.Frag) : Sp := fun vs H Q _ => ∃ (p : Addr) (s : Sys), vs = [.ref p] ∧ TabOk K H p s ∧ SysOk s ∧ ∀ v H', Same H H' → Td H' v (intsD (lw s)) → Q v H'
abbrev N_find_least_windows : List Str := ["table", "windows", "service", "pair"]
theorem sc_find_least_windows : FnScope N_find_least_windows ["table"] (defScope s_find_least_windows) := ⟨rfl, rfl, rfl, by decide +kernel, rfl, by decide +kernel, by decide +kernel⟩
theorem ok_find (T : Tx w K mg) : GF P w K mg base CX0 5 "find_least_windows" ["table"] (sp_find K) := by
  have G1 := ok_widest_pair (P := P) (base := base) T
  refine gf0 T.f_find_least_windows T.g_find_least_windows sc_find_least_windows (fun _ F => F.bindsN fun _ _ _ _ _ _ us hl => match us, hl with | [_], _ => rfl) (fun vs H Q E h => ?_) (fun cdv A outer s H vs Q E hr h => ?_)
  · obtain ⟨p, s, rfl, _⟩ := h
    rfl
  · obtain ⟨p, y, rfl, TO, SO, q⟩ := h
    have nd := sc_find_least_windows.nd
    have cD := T.c_DifferenceTable
    refine ⟨_, (pss_cons ((ps_set (i := 1) nd rfl (Or.inl rfl) (pe_lst pa_nil))) (pss_cons (ps_for PassesOwn.never rfl (pi_range1 rfl T.z_range (pa_cons ((pe_ix ix_tup (pe_fld (pv 0) rfl) (pe_int) (fun _ _ => rfl))) pa_nil)) (pg_name (i := 2) nd rfl (Or.inl rfl)) (pss_cons ((ps_set (i := 3) nd rfl (Or.inl rfl) (pe_ifExp ((pt_cmpR (op_inI) (pv 2) (pe_fld (pv 0) rfl) (by rfl))) (pe_f G1 (hr) (pass0) (pa_cons (pv 0) (pa_cons (pv 2) pa_nil))) pe_non))) (pss_one ((ps_expr (pe_bm PySem.F.plainAttrs_list PySem.F.slot_list_append PySem.F.type_list_append mt_append (pv 1) (pa_cons (pe_ifExp ((pt_cmpR (op_isN) (pv 3) (pe_non) (nomark _))) pe_int ((pe_ix ix_tup (pv 3) (pe_int) (fun _ _ => rfl)))) pa_nil))))))) (pss_one ((ps_ret ((pe_callTy (call_tuple_of) rfl T.z_tuple boot_tuple (pa_cons (pv 1) pa_nil)))))))), ?_⟩
    refine ⟨Nat.zero_le _, fun D hD => ?_⟩
    have TO1 := TO.mono (Same.new (o := HO.lst []) hD)
    obtain ⟨dx, v, l, g, st, kvs, ks, TA, has⟩ := id TO1
    obtain ⟨a, b, us, rfl, ha, hb, hu⟩ := TA.sy.sy_inv
    obtain ⟨o1, o2, o3, o4⟩ := id SO
    refine ⟨_, rfl, p, _, _, _, _, rfl, TA.ins, cD, T.n_system, tf_system, a, _, _, _, rfl, rfl, SqT.of ha, rfl, _, rfl, by omega, by omega, ?_⟩
    refine for_range (n := y.n.toNat) (fun i σ H' => ∃ v2 v3, σ = [some (.ref p), some (.ref D), v2, v3] ∧ Same H H' ∧ H' D = some (.lst (((List.range i).map fun i : Nat => lwAt y.cs (0 + (i : Nat))).map V.int))) ⟨none, none, rfl, Same.new hD, upd_same⟩ (fun i σ H1 hi pv => ?_) (fun σ H1 pv => ?_)
    · obtain ⟨v2, v3, rfl, s1, hD1⟩ := pv
      have TO2 := TO.mono s1
      obtain ⟨dx, v, l, g, st, kvs, ks, TA, has⟩ := id TO2
      have ln : y.n.toNat ≤ 8 := by omega
      have fin : ∀ (H2 : Hp) (z : Int) (v3 : Option V), z = lwAt y.cs (0 + (i : Nat)) → Same H H2 → ∀ H3, H3 = upd H2 D (.lst ((((List.range i).map fun i : Nat => lwAt y.cs (0 + (i : Nat))).map V.int) ++ [.int z])) → (∃ v2 v3', [some (V.ref p), some (.ref D), some (.int (0 + (i : Nat))), v3] = [some (V.ref p), some (.ref D), v2, v3'] ∧ Same H H3 ∧ H3 D = some (.lst (((List.range (i + 1)).map fun i : Nat => lwAt y.cs (0 + (i : Nat))).map V.int))) := by
        rintro H2 z v3 rfl s2 H3 rfl
        refine ⟨_, _, rfl, same_up hD s2, ?_⟩
        rw [upd_same, List.range_succ, List.map_append, List.map_append]
        rfl
      refine ⟨_, rfl, _, rfl, p, _, _, _, _, rfl, TA.ins, cD, T.n_services, tf_services, _, l, _, rfl, rfl, .inl TA.ls, _, rfl, ?_⟩
      have lenb : ∀ H2 : Hp, (((List.range i).map fun i : Nat => lwAt y.cs (0 + (i : Nat))).map V.int).length < sizeLine := fun _ => by
        rw [List.length_map, List.length_map, List.length_range]
        exact Nat.lt_of_lt_of_le hi (Nat.le_trans ln (by decide))
      by_cases cr : (0 + (i : Nat) : Int) ∈ rch y.cs
      · rw [decide_eq_true cr]
        refine iteT ⟨_, rfl, _, rfl, p, y, _, rfl, TO2, SO, fun x H2 s2 hw => ?_⟩
        have hD2 := s2 _ _ hD1
        refine ⟨_, rfl, .inl ⟨rfl, _, SqL.of hD2⟩, ?_⟩
        cases ew : wid y.cs (0 + (i : Nat)) with
        | none =>
          rw [ew] at hw
          obtain rfl : x = .non := hw
          refine ⟨_, rfl, rfl, _, rfl, iteT ?_⟩
          refine ⟨D, _, _, rfl, rfl, hD2, lenb H2, fin H2 0 _ ?_ (s1.trans s2) _ rfl⟩
          unfold lwAt
          rw [if_pos cr, ew]
          rfl
        | some z =>
          rw [ew] at hw
          obtain ⟨b1, x1, y1, rfl, hb1⟩ := hw
          refine ⟨_, rfl, rfl, _, rfl, iteF ?_⟩
          refine ⟨_, rfl, b1, _, _, _, rfl, rfl, SqT.of hb1, rfl, D, _, _, rfl, rfl, hD2, lenb H2, fin H2 z _ ?_ (s1.trans s2) _ rfl⟩
          unfold lwAt
          rw [if_pos cr, ew]
          rfl
      · rw [decide_eq_false cr]
        refine iteF ⟨_, rfl, .inl ⟨rfl, _, SqL.of hD1⟩, ?_⟩
        refine ⟨_, rfl, rfl, _, rfl, iteT ?_⟩
        refine ⟨D, _, _, rfl, rfl, hD1, lenb H1, fin H1 0 _ ?_ s1 _ rfl⟩
        unfold lwAt
        rw [if_neg cr]
    · obtain ⟨v2, v3, rfl, s1, hD1⟩ := pv
      refine ⟨_, rfl, D, _, rfl, .inl ⟨SqL.of hD1, fun t ht => ?_⟩⟩
      exact q _ _ (s1.trans (Same.new ht)) (.tup upd_same (TdAll.of_ints _))
/-! ### least_windows -/
def sp_lw : Sp := fun vs H Q _ => ∃ (v : V) (s : Sys), vs = [v] ∧ Td H v (syD s) ∧ SysOk s ∧ ∀ v' H', Same H H' → Td H' v' (intsD (lw s)) → Q v' H'
abbrev N_least_windows : List Str := ["system"]
theorem sc_least_windows : FnScope N_least_windows ["system"] (defScope s_least_windows) := ⟨rfl, rfl, rfl, by decide +kernel, rfl, by decide +kernel, by decide +kernel⟩
theorem ok_lw (T : Tx w K mg) : GF P w K mg base CX0 6 "least_windows" ["system"] sp_lw := by
  have G1 := ok_check_system (P := P) (base := base) T
  have G2 := ok_find (P := P) (base := base) T
  have G3 := ok_dt_init (P := P) (base := base) T
  refine gf0 T.f_least_windows T.g_least_windows sc_least_windows (fun _ F => F.bindsN fun _ _ _ _ _ _ us hl => match us, hl with | [_], _ => rfl) (fun vs H Q E h => ?_) (fun cdv A outer s H vs Q E hr h => ?_)
  · obtain ⟨v, s, rfl, _⟩ := h
    rfl
  · obtain ⟨v, y, rfl, hy, SO, q⟩ := h
    have hr4 : Room 4 _ := hr.mono (by decide)
    refine ⟨_, (pss_cons (ps_expr (pe_f G1 (hr4) (pass0) (pa_cons (pv 0) pa_nil))) (pss_one ((ps_ret ((pe_f G2 (hr) (pass0) (pa_cons (pe_mk G3 T.k_DifferenceTable T.g_DifferenceTable hr pass0 (pa_cons (pv 0) pa_nil)) pa_nil))))))), ?_⟩
    refine ⟨_, rfl, v, y, rfl, hy, SO, fun H1 s1 => ?_⟩
    refine ⟨_, rfl, fun x dx nx ndx ne => ?_⟩
    have s2 : Same H1 (upd (upd H1 dx (.own x)) x (.ins (aD K) dx [])) := (Same.new ndx).trans (Same.new (by rw [upd_ne ne.symm]; exact nx))
    refine ⟨x, dx, v, y, rfl, upd_same, (hy.mono s1.tle).mono s2.tle, SO, fun H2 l g st kvs ks f TA has => ⟨rfl, ?_⟩⟩
    refine ⟨x, y, rfl, ⟨dx, v, l, g, st, kvs, ks, TA, has⟩, SO, fun v' H3 s3 t3 => q _ _ ?_ t3⟩
    intro b o e
    have e1 := s1 _ _ e
    exact s3 _ _ (f _ _ (s2 _ _ e1) (ne_of_none e1 nx))
end
end K68
end
section
set_option Elab.async false
set_option linter.all false
set_option maxRecDepth 100000
set_option maxHeartbeats 2000000
namespace K68
open PySem PySem.Spec PyProof.Rows L2
/-! ### the row of draws -/
theorem SqL.off {K : PySem.W.Frag} {H H' : Hp} {a r : Addr} {xs : List V} (f : FrP r H H') (n : a ≠ r ∨ ∀ H', SqL K H' a xs) (h : SqL K H a xs) : SqL K H' a xs := by
  refine n.elim (fun n => ?_) (fun n => n H')
  rcases h with (h | ⟨o, h⟩) | h
  · exact .inl (.inl (f _ _ h n))
  · exact .inl (.inr ⟨o, f _ _ h n⟩)
  · exact .inr h
structure RowAt (K : PySem.W.Frag) (H : Hp) (r a : Addr) (ns : List Int) : Prop where
  ex : ∃ (i z c : Int), H r = some (.lst [.ref a, .int i, .int z, .int c]) ∧ 0 ≤ i ∧ 0 ≤ z ∧ z < 2147483647
  ne : a ≠ r ∨ ∀ H', SqL K H' a (ns.map V.int)
  sc : SqL K H a (ns.map V.int)
theorem RowAt.mono {K : PySem.W.Frag} {H H' : Hp} {r a : Addr} {ns : List Int} (h : RowAt K H r a ns) (s : Same H H') : RowAt K H' r a ns := by
  obtain ⟨i, z, c, h1, h4⟩ := h.ex
  exact ⟨⟨i, z, c, s _ _ h1, h4⟩, h.ne, s.seq h.sc⟩
theorem RowAt.over {K : PySem.W.Frag} {H H1 H' : Hp} {r a : Addr} {ns : List Int} (h : RowAt K H r a ns) (f : FrP r H H') (h1 : RowAt K H1 r a ns) (e : H' r = H1 r) : RowAt K H' r a ns := by
  obtain ⟨i, z, c, h2, h4⟩ := h1.ex
  exact ⟨⟨i, z, c, e.trans h2, h4⟩, h.ne, SqL.off f h.ne h.sc⟩
section
variable {P : Program} {w : World} {K : PySem.W.Frag} {mg : Str → Option Value} {base : Heap}
def sp_taken (K : PySem.W.Frag) : Sp := fun vs H Q _ => ∃ (r a : Addr) (ns : List Int) (m : Int), vs = [.ref r, .int m] ∧ RowAt K H r a ns ∧ 1 ≤ m ∧ m < 1000 ∧ ∀ d H', 0 ≤ d → d < m → FrP r H H' → RowAt K H' r a ns → Q (.int d) H'
abbrev N__law_taken : List Str := ["_law_row", "_law_many", "_law_found", "_law_cell"]
theorem sc__law_taken : FnScope N__law_taken ["_law_row", "_law_many"] (defScope s__law_taken) := ⟨rfl, rfl, rfl, by decide +kernel, rfl, by decide +kernel, by decide +kernel⟩
theorem ok_taken (T : Tx w K mg) : GF P w K mg base CX0 1 "_law_taken" ["_law_row", "_law_many"] (sp_taken K) := by
  refine gf0 T.f__law_taken T.g__law_taken sc__law_taken (fun _ F => F.bindsN fun _ _ _ _ _ _ us hl => match us, hl with | [_, _], _ => rfl) (fun vs H Q E h => ?_) (fun cdv A outer s H vs Q E hr h => ?_)
  · obtain ⟨r, a, ns, m, rfl, _⟩ := h
    rfl
  · obtain ⟨r, a, ns, m, rfl, R, m1, m2, q⟩ := h
    have nd := sc__law_taken.nd
    refine ⟨_, (pss_cons ((ps_if ((pt_cmpR (op_gt) ((pe_ix ix_list (pv 0) (pe_int) (fun _ _ => rfl))) (pe_int) (nomark _))) ((pss_cons ((ps_set (i := 2) nd rfl (Or.inl rfl) ((pe_op (op_mod) ((pe_callTy (call_int1) rfl T.z_int boot_int (pa_cons ((pe_ix ix_list (pv 0) (pe_int) (fun _ _ => rfl))) pa_nil))) (pv 1))))) (pss_cons ((ps_asg ((pe_op (op_fdiv) ((pe_ix ix_list (pv 0) (pe_int) (fun _ _ => rfl))) (pv 1))) (pg_sub (pv 0) pe_int set_list))) (pss_one ((ps_ret (pv 2))))))) (pss_nil))) (pss_cons ((ps_asg ((pe_op (op_add) ((pe_ix ix_list (pv 0) (pe_int) (fun _ _ => rfl))) (pe_int))) (pg_sub (pv 0) pe_int set_list))) (pss_cons ((ps_if ((pt_cmpR (op_gt) ((pe_ix ix_list (pv 0) (pe_int) (fun _ _ => rfl))) ((pe_callB call_len_seq rfl T.z_len boot_len (pa_cons ((pe_ix ix_list (pv 0) (pe_int) (fun _ _ => rfl))) pa_nil))) (nomark _))) ((pss_cons ((ps_asg ((pe_op (op_mod) ((pe_callTy (call_int1) rfl T.z_int boot_int (pa_cons ((pe_op (op_add) ((pe_op (op_mul) ((pe_ix ix_list (pv 0) (pe_int) (fun _ _ => rfl))) (pe_int))) (pe_int))) pa_nil))) (pe_int))) (pg_sub (pv 0) pe_int set_list))) (pss_one ((ps_ret ((pe_op (op_mod) ((pe_callTy (call_int1) rfl T.z_int boot_int (pa_cons ((pe_op (op_fdiv) ((pe_ix ix_list (pv 0) (pe_int) (fun _ _ => rfl))) (pe_int))) pa_nil))) (pv 1)))))))) (pss_nil))) (pss_cons ((ps_set (i := 3) nd rfl (Or.inl rfl) ((pe_ix ix_list ((pe_ix ix_list (pv 0) (pe_int) (fun _ _ => rfl))) ((pe_op (op_sub) ((pe_ix ix_list (pv 0) (pe_int) (fun _ _ => rfl))) (pe_int))) (fun _ _ => rfl))))) (pss_cons ((ps_asg ((pe_op (op_mod) ((pe_callTy (call_int1) rfl T.z_int boot_int (pa_cons ((pe_op (op_add) ((pe_op (op_add) ((pe_op (op_mul) ((pe_ix ix_list (pv 0) (pe_int) (fun _ _ => rfl))) (pe_int))) (pv 3))) (pe_int))) pa_nil))) (pe_int))) (pg_sub (pv 0) pe_int set_list))) (pss_cons ((ps_asg (pe_ifExp ((pt_cmpR (op_ge) (pv 3) ((pe_op (op_pow) (pe_int) (pe_int))) (nomark _))) ((pe_op (op_fdiv) (pv 3) (pv 1))) pe_int) (pg_sub (pv 0) pe_int set_list))) (pss_one ((ps_ret ((pe_op (op_mod) ((pe_callTy (call_int1) rfl T.z_int boot_int (pa_cons (pv 3) pa_nil))) (pv 1)))))))))))), ?_⟩
    obtain ⟨⟨i, z, c, hr0, i0, z0, z1⟩, ne, hs⟩ := R
    have md : ∀ x : Int, 0 ≤ x % m ∧ x % m < m := fun x => ⟨Int.emod_nonneg _ (by omega), Int.emod_lt_of_pos _ (by omega)⟩
    have i3 : ∀ (p : Addr) (x0 x1 x2 x3 : V) , atI [x0, x1, x2, x3] (3 : Int) = some x3 := fun _ _ _ _ _ => rfl
    have cd : (0 : Int) < m ∧ m < 1073741824 := ⟨by omega, by omega⟩
    refine ⟨_, rfl, r, _, _, _, rfl, rfl, SqL.of hr0, rfl, _, _, rfl, rfl, _, rfl, ?_⟩
    by_cases c0 : c > 0
    · rw [decide_eq_true c0]
      refine iteT ⟨_, rfl, r, _, _, _, rfl, rfl, SqL.of hr0, rfl, .inl ⟨_, rfl, _, rfl, _, _, rfl, rfl, by show 0 < m; omega, ?_⟩⟩
      refine ⟨_, rfl, r, _, _, _, rfl, rfl, SqL.of hr0, rfl, _, rfl, _, _, rfl, rfl, cd, ?_⟩
      refine ⟨_, rfl, r, _, _, 3, rfl, rfl, hr0, rfl, ?_⟩
      refine ⟨_, rfl, q _ _ (md c).1 (md c).2 FrP.refl.upd ⟨⟨i, z, _, upd_same, i0, z0, z1⟩, ne, SqL.off FrP.refl.upd ne hs⟩⟩
    · rw [decide_eq_false c0]
      refine iteF ?_
      refine ⟨_, rfl, r, _, _, _, rfl, rfl, SqL.of hr0, rfl, _, _, rfl, rfl, _, rfl, r, _, _, 1, rfl, rfl, hr0, rfl, ?_⟩
      have f1 : FrP r H (upd H r (.lst ([.ref a, .int i, .int z, .int c].set 1 (.int (i + 1))))) := FrP.refl.upd
      have hr1 : (upd H r (.lst ([.ref a, .int i, .int z, .int c].set 1 (.int (i + 1))))) r = some (.lst [.ref a, .int (i + 1), .int z, .int c]) := upd_same
      revert f1 hr1
      generalize upd H r (.lst ([.ref a, .int i, .int z, .int c].set 1 (.int (i + 1)))) = H1
      intro f1 hr1
      have hs1 := SqL.off f1 ne hs
      refine ⟨_, rfl, r, _, _, _, rfl, rfl, SqL.of hr1, rfl, _, rfl, r, _, _, _, rfl, rfl, SqL.of hr1, rfl, _, _, rfl, .inl hs1, _, _, rfl, rfl, _, rfl, ?_⟩
      rw [List.length_map]
      by_cases c1 : i + 1 > ((ns.length : Nat) : Int)
      · rw [decide_eq_true c1]
        refine iteT ?_
        refine ⟨_, rfl, r, _, _, _, rfl, rfl, SqL.of hr1, rfl, _, _, rfl, rfl, .inl ⟨by omega, by omega⟩, _, _, rfl, rfl, .inl ⟨_, rfl, _, _, rfl, rfl, (by show (0 : Int) < 2147483647; decide), ?_⟩⟩
        refine ⟨_, rfl, r, _, _, 2, rfl, rfl, hr1, rfl, ?_⟩
        refine ⟨_, rfl, r, _, _, _, rfl, rfl, SqL.of upd_same, rfl, _, _, rfl, rfl, ⟨by decide, by decide⟩, .inl ⟨_, rfl, _, rfl, _, _, rfl, rfl, by show 0 < m; omega, ?_⟩⟩
        exact q _ _ (md _).1 (md _).2 f1.upd ⟨⟨_, _, _, upd_same, by omega, Int.emod_nonneg _ (by decide), Int.emod_lt_of_pos _ (by decide)⟩, ne, SqL.off f1.upd ne hs⟩
      · rw [decide_eq_false c1]
        refine iteF ?_
        have lt : i.toNat < ns.length := by omega
        have ei : atI (ns.map V.int) (i + 1 - 1) = some (.int ns[i.toNat]) := by
          rw [show i + 1 - 1 = ((i.toNat : Nat) : Int) by omega]
          exact atI_nat (by rw [List.getElem?_map, List.getElem?_eq_getElem lt]; rfl)
        refine ⟨_, rfl, r, _, _, _, rfl, rfl, SqL.of hr1, rfl, _, rfl, r, _, _, _, rfl, rfl, SqL.of hr1, rfl, _, _, rfl, rfl, a, _, _, _, rfl, rfl, hs1, ei, ?_⟩
        generalize ns[i.toNat] = cell
        refine ⟨_, rfl, r, _, _, _, rfl, rfl, SqL.of hr1, rfl, _, _, rfl, rfl, .inl ⟨by omega, by omega⟩, _, rfl, _, _, rfl, rfl, _, _, rfl, rfl, .inl ⟨_, rfl, _, _, rfl, rfl, (by show (0 : Int) < 2147483647; decide), ?_⟩⟩
        refine ⟨_, rfl, r, _, _, 2, rfl, rfl, hr1, rfl, ?_⟩
        refine ⟨_, rfl, _, _, rfl, rfl, ⟨by decide, by decide, by decide⟩, _, _, rfl, rfl, _, rfl, ?_⟩
        have fin : ∀ c' : Int, ∀ H2, H2 = upd (upd H1 r (.lst ([.ref a, .int (i + 1), .int z, .int c].set 2 (.int ((z * 48271 + cell + 11) % 2147483647))))) r (.lst ([.ref a, .int (i + 1), .int ((z * 48271 + cell + 11) % 2147483647), .int c].set 3 (.int c'))) → Q (.int (cell % m)) H2 := by
          rintro c' H2 rfl
          exact q _ _ (md _).1 (md _).2 f1.upd.upd ⟨⟨_, _, _, upd_same, by omega, Int.emod_nonneg _ (by decide), Int.emod_lt_of_pos _ (by decide)⟩, ne, SqL.off f1.upd.upd ne hs⟩
        refine ite2 (fun _ => ?_) (fun _ => ?_)
        · refine ⟨_, rfl, _, rfl, _, _, rfl, rfl, cd, _, rfl, r, _, _, 3, rfl, rfl, upd_same, rfl, ?_⟩
          exact ⟨_, rfl, .inl ⟨_, rfl, _, rfl, _, _, rfl, rfl, by show 0 < m; omega, fin _ _ rfl⟩⟩
        · refine ⟨_, rfl, r, _, _, 3, rfl, rfl, upd_same, rfl, ?_⟩
          exact ⟨_, rfl, .inl ⟨_, rfl, _, rfl, _, _, rfl, rfl, by show 0 < m; omega, fin _ _ rfl⟩⟩
end
end K68
end
section
set_option Elab.async false
set_option linter.all false
set_option maxRecDepth 100000
set_option maxHeartbeats 2000000
namespace K68
open PySem PySem.Spec PyProof.Rows L2
theorem pw_zip : ∀ {l : List Int}, l.Pairwise (· < ·) → ((l.zip (l.drop 1)).all fun p => decide (p.1 < p.2)) = true
  | [], _ => rfl
  | [x], _ => rfl
  | x :: y :: l, h => by
    have h1 := (List.pairwise_cons.mp h).1 y (List.mem_cons_self ..)
    have h2 := pw_zip (l := y :: l) (List.pairwise_cons.mp h).2
    show (((x, y) :: (y :: l).zip ((y :: l).drop 1)).all fun p => decide (p.1 < p.2)) = true
    rw [List.all_cons, h2, decide_eq_true h1]
    rfl
theorem areOffs_mk {l : List Int} (h1 : 1 ≤ l.length) (h4 : l.length ≤ 4) (hp : l.Pairwise (· < ·)) (hm : ∀ x ∈ l, 0 ≤ x ∧ x ≤ 99) : areOffs l = true := by
  unfold areOffs
  rw [decide_eq_true h1, decide_eq_true h4, pw_zip hp]
  have e : (l.all fun n => isInt n 0 99) = true := List.all_eq_true.mpr fun x hx => by
    unfold isInt
    rw [decide_eq_true (hm x hx).1, decide_eq_true (hm x hx).2]
    rfl
  rw [e]
  rfl
theorem isInt_mk {v lo hi : Int} (h1 : lo ≤ v) (h2 : v ≤ hi) : isInt v lo hi = true := by
  unfold isInt
  rw [decide_eq_true h1, decide_eq_true h2]
  rfl
theorem isCall_mk {n : Int} {c : Cl} (h1 : 0 ≤ c.c) (h2 : c.c < c.t) (h3 : c.t < n) (h4 : areOffs c.o = true) (h5 : 0 ≤ c.l) (h6 : c.l ≤ c.m) (h7 : c.m ≤ 99) : isCall n c = true := by
  unfold isCall
  rw [isInt_mk h1 (show c.c ≤ n - 1 by omega), isInt_mk (show c.c + 1 ≤ c.t by omega) (show c.t ≤ n - 1 by omega), h4, isInt_mk h5 (by omega), isInt_mk h6 h7]
  rfl
section
variable {P : Program} {w : World} {K : PySem.W.Frag} {mg : Str → Option Value} {base : Heap}
theorem RowAt.tle {H H' : Hp} {r a : Addr} {ns : List Int} (R : RowAt K H r a ns) (f : FrP r H H') : Tle H H' := by
  obtain ⟨i, z, c, h1, _⟩ := R.ex
  exact f.tleL h1
theorem RowAt.nr {H : Hp} {r a b : Addr} {ns : List Int} (R : RowAt K H r a ns) (h : H b = none) : b ≠ r := by
  obtain ⟨i, z, c, h1, _⟩ := R.ex
  exact (ne_of_none h1 h).symm
/-- a store at a place that was free when the script was told -/
theorem RowAt.overU {H H1 : Hp} {r a b : Addr} {ns : List Int} {o : HO} (R1 : RowAt K H1 r a ns) (n : b ≠ r) (f : FrP r H H1) (h : H b = none) (R : RowAt K H r a ns) : RowAt K (upd H1 b o) r a ns := R.over (f.at_ h) R1 (upd_ne n.symm)
theorem RowAt.over_ {H : Hp} {r a b : Addr} {ns : List Int} {o : HO} (R : RowAt K H r a ns) (h : H b = none) : RowAt K (upd H b o) r a ns := R.mono (Same.new h)
def sp_system (K : PySem.W.Frag) : Sp := fun vs H Q _ => ∃ (r a : Addr) (ns : List Int), vs = [.ref r, .int 5, .int 4] ∧ RowAt K H r a ns ∧ ∀ v s H', FrP r H H' → RowAt K H' r a ns → Td H' v (syD s) → SysOk s → Q v H'
abbrev N__law_system : List Str := ["_law_row", "_law_services", "_law_most", "_law_count", "_law_calls", "_law_k", "_law_caller", "_law_target", "_law_offsets", "_law_least", "_law_j"]
theorem sc__law_system : FnScope N__law_system ["_law_row", "_law_services", "_law_most"] (defScope s__law_system) := ⟨rfl, rfl, rfl, by decide +kernel, rfl, by decide +kernel, by decide +kernel⟩
theorem ok_system (T : Tx w K mg) : GF P w K mg base CX0 2 "_law_system" ["_law_row", "_law_services", "_law_most"] (sp_system K) := by
  have G1 := ok_taken (P := P) (base := base) T
  refine gf0 T.f__law_system T.g__law_system sc__law_system (fun _ F => F.bindsN fun _ _ _ _ _ _ us hl => match us, hl with | [_, _, _], _ => rfl) (fun vs H Q E h => ?_) (fun cdv A outer s H vs Q E hr h => ?_)
  · obtain ⟨r, a, ns, rfl, _⟩ := h
    rfl
  · obtain ⟨r, a, ns, rfl, R, q⟩ := h
    have nd := sc__law_system.nd
    refine ⟨_, (pss_cons (ps_par (i := 3) (j := 4) rfl nd rfl rfl (by decide) rfl rfl (pa_cons ((pe_op (op_add) (pe_int) ((pe_f G1 (hr) (pass0) (pa_cons (pv 0) (pa_cons (pv 1) pa_nil)))))) (pa_cons (pe_lst pa_nil) pa_nil)) (by rfl)) (pss_cons (ps_for PassesOwn.never rfl (pi_range1 rfl T.z_range (pa_cons (PE.wk (pe_ifExp (pt_cmpR (op_gt) (pv 3) (pe_int) (nomark _)) (pe_f G1 (hr) (pass0) (pa_cons (pv 0) (pa_cons ((pe_op (op_add) (pv 2) (pe_int))) pa_nil))) pe_int)) pa_nil)) (pg_name (i := 5) nd rfl (Or.inl rfl)) (pss_cons ((ps_set (i := 6) nd rfl (Or.inl rfl) ((pe_f G1 (hr) (pass0) (pa_cons (pv 0) (pa_cons ((pe_op (op_sub) (pv 3) (pe_int))) pa_nil)))))) (pss_cons ((ps_set (i := 7) nd rfl (Or.inl rfl) ((pe_op (op_add) ((pe_op (op_add) (pv 6) (pe_int))) ((pe_f G1 (hr) (pass0) (pa_cons (pv 0) (pa_cons ((pe_op (op_sub) ((pe_op (op_sub) (pv 3) (pe_int))) (pv 6))) pa_nil)))))))) (pss_cons ((ps_set (i := 8) nd rfl (Or.inl rfl) ((pe_callB (cr_sortedSet rfl) rfl T.z_sorted boot_sorted (pa_cons ((pe_callTy (call_setL rfl) rfl T.z_set boot_set (pa_cons (pe_lc (own := [("_law_j", 10)]) (g := gName 10) (tt := tYes) rfl nd (pi_range1 rfl T.z_range (pa_cons ((pe_op (op_add) (pe_int) ((pe_f G1 (hr) (pass0) (pa_cons (pv 0) (pa_cons (pe_int) pa_nil)))))) pa_nil)) (blkOk_by (N := N__law_system) (sc := defScope s__law_system) (by decide +kernel))
          (fun _ _ _ _ _ => pg_name (i := 10) nd rfl (Or.inl rfl)) (fun _ _ _ _ _ => pts_nil) (fun _ _ _ _ _ => (pe_f G1 (hr) (pass0) (pa_cons (pv 0) (pa_cons (pe_int) pa_nil))))) pa_nil))) pa_nil))))) (pss_cons ((ps_set (i := 9) nd rfl (Or.inl rfl) ((pe_f G1 (hr) (pass0) (pa_cons (pv 0) (pa_cons (pe_int) pa_nil)))))) (pss_one ((ps_expr (pe_bm PySem.F.plainAttrs_list PySem.F.slot_list_append PySem.F.type_list_append mt_append (pv 4) (pa_cons ((pe_tup (pa_cons (pv 6) (pa_cons (pv 7) (pa_cons ((pe_callTy (call_tuple_of) rfl T.z_tuple boot_tuple (pa_cons (pv 8) pa_nil))) (pa_cons (pv 9) (pa_cons ((pe_op (op_add) (pv 9) ((pe_f G1 (hr) (pass0) (pa_cons (pv 0) (pa_cons (pe_int) pa_nil)))))) pa_nil))))))) pa_nil)))))))))) (pss_one ((ps_ret ((pe_tup (pa_cons (pv 3) (pa_cons ((pe_callTy (call_tuple_of) rfl T.z_tuple boot_tuple (pa_cons (pv 4) pa_nil))) pa_nil))))))))), ?_⟩
    refine ⟨_, rfl, _, rfl, r, a, ns, 5, rfl, R, by omega, by omega, fun d0 H1 d1 d2 f1 R1 => ?_⟩
    refine ⟨_, _, rfl, rfl, Nat.zero_le _, fun L hL => ⟨_, _, rfl, ?_⟩⟩
    have nLr := R1.nr hL
    have hL0 : H L = none := f1.gone nLr hL
    have f2 := f1.same (Same.new (o := HO.lst []) hL)
    have R2 := R1.mono (Same.new (o := HO.lst []) hL)
    have hL2 : (upd H1 L (.lst [])) L = some (.lst []) := upd_same
    have n1 : 1 ≤ 1 + d0 := by omega
    have n5 : 1 + d0 ≤ 5 := by omega
    revert f2 R2 hL2 n1 n5
    dsimp only
    generalize upd H1 L (.lst []) = H2
    generalize 1 + d0 = n
    intro f2 R2 hL2 n1 n5
    -- the number of turns, then the loop
    refine ⟨fun x H3 => ∃ t : Nat, x = .int (t : Nat) ∧ t ≤ 4 ∧ (t ≠ 0 → n > 1) ∧ FrP r H H3 ∧ RowAt K H3 r a ns ∧ H3 L = some (.lst []), ⟨_, rfl, _, _, rfl, rfl, _, rfl, ?_⟩, ?_⟩
    · by_cases c : n > 1
      · rw [decide_eq_true c]
        refine iteT ⟨_, rfl, _, rfl, _, _, rfl, rfl, r, a, ns, 5, rfl, R2, by omega, by omega, fun t H3 t1 t2 f3 R3 => ⟨t.toNat, by rw [Int.toNat_of_nonneg t1], by omega, fun _ => c, fun b x e n => f3 _ _ (f2 _ _ e n) n, R3, f3 _ _ hL2 nLr⟩⟩
      · rw [decide_eq_false c]
        exact iteF ⟨0, rfl, by omega, fun z => absurd rfl z, f2, R2, hL2⟩
    · rintro x H3 ⟨t, rfl, t4, tn, f3, R3, hL3⟩
      refine ⟨_, rfl, by omega, by omega, ?_⟩
      refine for_range (n := t) (fun i σ H' => ∃ us cs v5 v6 v7 v8 v9 v10, σ = [some (.ref r), some (.int 5), some (.int 4), some (.int n), some (.ref L), v5, v6, v7, v8, v9, v10] ∧ FrP r H H' ∧ RowAt K H' r a ns ∧ H' L = some (.lst us) ∧ TdAll H' us (cs.map clD) ∧
        cs.length = i ∧ ∀ c ∈ cs, isCall n c = true) ⟨[], [], none, none, none, none, none, none, rfl, f3, R3, hL3, .nil, rfl, by simp⟩ (fun i σ H4 hi pv => ?_) (fun σ H4 pv => ?_)
      · obtain ⟨us, cs, v5, v6, v7, v8, v9, v10, rfl, f4, R4, hL4, tL4, lcs, okc⟩ := pv
        have hn : n > 1 := tn (by omega)
        -- caller, target
        refine ⟨_, rfl, _, rfl, _, _, rfl, rfl, r, a, ns, n - 1, rfl, R4, by omega, by omega, fun dc H5 dc1 dc2 f5 R5 => ?_⟩
        refine ⟨_, rfl, _, _, rfl, rfl, _, rfl, _, rfl, _, _, rfl, rfl, _, rfl, _, _, rfl, rfl, r, a, ns, n - 1 - dc, rfl, R5, by omega, by omega, fun dt H6 dt1 dt2 f6 R6 => ?_⟩
        refine ⟨_, _, rfl, rfl, ?_⟩
        -- the offsets
        refine ⟨_, rfl, r, a, ns, 3, rfl, R6, by omega, by omega, fun dk H7 dk1 dk2 f7 R7 => ?_⟩
        have hL5 := f5 _ _ hL4 nLr
        have hL6 := f6 _ _ hL5 nLr
        have hL7 := f7 _ _ hL6 nLr
        have tL7 := ((tL4.mono (R4.tle f5)).mono (R5.tle f6)).mono (R6.tle f7)
        have f47 : FrP r H H7 := ((f4.trans f5).trans f6).trans f7
        refine ⟨_, _, rfl, rfl, _, rfl, by omega, by omega, fun D hD => ?_⟩
        have nDr := R7.nr hD
        have nLD : L ≠ D := ne_of_none hL7 hD
        have hD0 : H D = none := f47.gone nDr hD
        have e1 : (1 + dk).toNat ≤ 3 := by omega
        have e2 : 1 ≤ (1 + dk).toNat := by omega
        refine lc_it (walk_range (lo := 0) (n := (1 + dk).toNat)) (fun j H' => FrP r H H' ∧ RowAt K H' r a ns ∧ H' L = some (.lst us) ∧ TdAll H' us (cs.map clD) ∧ ∃ ds : List Int, H' D = some (.lst (ds.map .int)) ∧ ds.length = j ∧ ∀ x ∈ ds, 0 ≤ x ∧ x < 12)
          ⟨f47.at_ hD0, R7.over_ hD, (upd_ne nLD).trans hL7, tL7.mono (Same.new hD).tle, [], upd_same, rfl, by simp⟩ (fun _ _ _ _ => trivial) (fun j x H8 H8' hj pv8 yl => ?_) (fun H8 pv8 => ?_)
        · obtain ⟨f8, R8, hL8, tL8, ds, hD8, lds, bds⟩ := pv8
          obtain ⟨rfl, rfl⟩ := yl
          refine ⟨rfl, _, rfl, r, a, ns, 12, rfl, R8, by omega, by omega, fun d H9 dd1 dd2 f9 R9 => ?_⟩
          have hD9 := f9 _ _ hD8 nDr
          have hL9 := f9 _ _ hL8 nLr
          refine ⟨_, hD9, ?_, (f8.trans f9).at_ hD0, R9.overU nDr (f8.trans f9) hD0 R, (upd_ne nLD).trans hL9, (tL8.mono (R8.tle f9)).mono (tle_lst hD9), ds ++ [d], ?_, by rw [List.length_append, lds]; rfl, ?_⟩
          · rw [List.length_map, lds]
            exact Nat.lt_of_lt_of_le hj (Nat.le_trans e1 (by decide))
          · rw [upd_same, List.map_append]
            rfl
          · intro x hx
            rcases List.mem_append.mp hx with m | m
            · exact bds x m
            · cases List.mem_singleton.mp m
              exact ⟨dd1, dd2⟩
        · obtain ⟨f8, R8, hL8, tL8, ds, hD8, lds, bds⟩ := pv8
          refine ⟨D, ds, rfl, SqL.of hD8, by omega, fun p c hp hc => ?_⟩
          refine ⟨p, _, c, rfl, upd_same, by omega, fun os p2 pw mem len hp2 => ?_⟩
          have s10 := (Same.new (o := SetO w p (fun j => decide (j ∈ ds)) c) hp).trans (Same.new (o := HO.lst (os.map V.int)) hp2)
          have hp10 : (upd (upd H8 p (SetO w p (fun j => decide (j ∈ ds)) c)) p2 (.lst (os.map V.int))) p2 = some (.lst (os.map V.int)) := upd_same
          have R10 := R8.mono s10
          have hL10 := s10 _ _ hL8
          have tL10 := tL8.mono s10.tle
          have np2 : p2 ≠ r := by
            intro z
            obtain ⟨i1, z1, c1, h1, _⟩ := R8.ex
            have hh := upd_ne' (o := SetO w p (fun j => decide (j ∈ ds)) c) hp h1
            rw [← z] at hh
            exact absurd (hp2.symm.trans hh) (by intro q; cases q)
          have oks : areOffs os = true := by
            have hm : ∀ x ∈ os, x ∈ ds := fun x hx => of_decide_eq_true ((mem x).mp hx)
            refine areOffs_mk ?_ (by omega) pw (fun x hx => ⟨(bds x (hm x hx)).1, by have := (bds x (hm x hx)).2; omega⟩)
            cases ds with
            | nil => simp only [List.length_nil] at lds; omega
            | cons y ds' => exact List.length_pos_of_mem ((mem y).mpr (decide_eq_true (List.mem_cons_self ..)))
          refine ⟨_, rfl, r, a, ns, 5, rfl, R10, by omega, by omega, fun dl H11 dl1 dl2 f11 R11 => ?_⟩
          have hL11 := f11 _ _ hL10 nLr
          have hp11 := f11 _ _ hp10 np2
          have tL11 := tL10.mono (R10.tle f11)
          refine ⟨_, rfl, .inl ⟨rfl, _, SqL.of hL11⟩, ?_⟩
          refine ⟨_, rfl, _, rfl, _, rfl, p2, _, rfl, .inl ⟨SqL.of hp11, fun to hto => ?_⟩⟩
          have R12 := R11.mono (Same.new (o := HO.tup (os.map V.int)) hto)
          have nto := R11.nr hto
          refine ⟨_, rfl, _, rfl, _, rfl, r, a, ns, 5, rfl, R12, by omega, by omega, fun dm H13 dm1 dm2 f13 R13 => ?_⟩
          have hto13 := f13 _ _ (upd_same (H := H11) (a := to) (o := HO.tup (os.map V.int))) nto
          have hL13 := f13 _ _ (upd_ne' (o := HO.tup (os.map V.int)) hto hL11) nLr
          have tL13 := (tL11.mono (Same.new (o := HO.tup (os.map V.int)) hto).tle).mono (R12.tle f13)
          refine ⟨_, _, rfl, rfl, by show 5 ≤ sizeLine; decide, fun tt htt => ?_⟩
          have hL14 := upd_ne' (o := HO.tup [.int dc, .int (dc + 1 + dt), .ref to, .int dl, .int (dl + dm)]) htt hL13
          have f14 : FrP r H (upd H13 tt (.tup [.int dc, .int (dc + 1 + dt), .ref to, .int dl, .int (dl + dm)])) := (((f8.same s10).trans f11).same (Same.new (o := HO.tup (os.map V.int)) hto)).trans f13 |>.same (Same.new htt)
          have lus : us.length ≤ 4 := by
            rw [tL4.len, List.length_map, lcs]
            omega
          refine ⟨L, _, _, rfl, rfl, hL14, Nat.lt_of_le_of_lt lus (by decide), ?_⟩
          refine ⟨_, cs ++ [⟨dc, dc + 1 + dt, os, dl, dl + dm⟩], _, _, _, _, _, _, rfl, f14.at_ hL0, (R13.mono (Same.new htt)).overU nLr f14 hL0 R, upd_same, ?_, by rw [List.length_append, lcs]; rfl, ?_⟩
          · rw [List.map_append]
            refine TdAll.append ((tL13.mono (Same.new htt).tle).mono (tle_lst hL14)) (.cons ?_ .nil)
            exact Td.mono (tle_lst hL14) (Td.cl_mk (x := ⟨dc, dc + 1 + dt, os, dl, dl + dm⟩) upd_same (upd_ne' htt hto13))
          · intro x hx
            rcases List.mem_append.mp hx with m | m
            · exact okc x m
            · cases List.mem_singleton.mp m
              exact isCall_mk (c := ⟨dc, dc + 1 + dt, os, dl, dl + dm⟩) dc1 (by show dc < dc + 1 + dt; omega) (by show dc + 1 + dt < n; omega) oks dl1 (by show dl ≤ dl + dm; omega) (by show dl + dm ≤ 99; omega)
      · obtain ⟨us, cs, v5, v6, v7, v8, v9, v10, rfl, f4, R4, hL4, tL4, lcs, okc⟩ := pv
        refine ⟨_, rfl, _, rfl, L, _, rfl, .inl ⟨SqL.of hL4, fun tt htt => ⟨by show 2 ≤ sizeLine; decide, fun pp hpp => ?_⟩⟩⟩
        have s5 : Same H4 (upd (upd H4 tt (.tup us)) pp (.tup [.int n, .ref tt])) := (Same.new htt).trans (Same.new hpp)
        refine q _ ⟨n, cs⟩ _ (f4.same s5) (R4.mono s5) (Td.sy_mk upd_same (upd_ne' hpp upd_same) (tL4.mono s5.tle)) ⟨n1, by show n ≤ 8; omega, by show cs.length ≤ 20; omega, okc⟩
end
end K68
end
section
set_option Elab.async false
set_option linter.all false
set_option maxRecDepth 100000
set_option maxHeartbeats 2000000
namespace K68
open PySem PySem.Spec PyProof.Rows L2
/-! ### x in (a, b): data in a tuple -/
def rInT : R2 := fun x y H Q => ∃ d ds n, Td H x d ∧ Td H y (.tuple ds) ∧ Pl 20 d ∧ Pl n (.tuple ds) ∧ Q (.bl (ds.any fun z => PyData.eqv z d)) H
def rNotInT : R2 := fun x y H Q => ∃ d ds n, Td H x d ∧ Td H y (.tuple ds) ∧ Pl 20 d ∧ Pl n (.tuple ds) ∧ Q (.bl (!ds.any fun z => PyData.eqv z d)) H
theorem op_inT {X : Cx} (hu : X.A.units + 64 < cLine) : OpR X (compareOp .In) rInT := by
  intro pins s σ H x y v u Q I rx ry h
  obtain ⟨d, ds, n, hd, he, sd, se, q⟩ := h
  obtain ⟨as, r1⟩ := Dp.reads I d x v hd.dp rx
  obtain ⟨bs, r2⟩ := Dp.reads I (.tuple ds) y u he.dp ry
  refine SeqAt.in_tuple_reads r2 r1 se.lay sd.lay ?_ ⟨.bl _, H, I, rfl, q⟩
  have h1 := sd.dep
  have h2 : min (PyData.depthAll ds) d.depth ≤ d.depth := Nat.min_le_right _ _
  omega
theorem op_notInT {X : Cx} (hu : X.A.units + 64 < cLine) : OpR X (compareOp .NotIn) rNotInT := by
  intro pins s σ H x y v u Q I rx ry h
  obtain ⟨d, ds, n, hd, he, sd, se, q⟩ := h
  obtain ⟨as, r1⟩ := Dp.reads I d x v hd.dp rx
  obtain ⟨bs, r2⟩ := Dp.reads I (.tuple ds) y u he.dp ry
  refine SeqAt.notIn_tuple_reads r2 r1 se.lay sd.lay ?_ ⟨.bl _, H, I, rfl, q⟩
  have h1 := sd.dep
  have h2 : min (PyData.depthAll ds) d.depth ≤ d.depth := Nat.min_le_right _ _
  omega
/-! ### deeds and what they do: the mirror -/
inductive Deed
  | addC (c : Cl)
  | remC (k : Nat)
  | setO (k : Nat) (o : List Int)
  | setD (k : Nat) (l m : Int)
  | addS
  | remS (k : Int)
def deedD : Deed → PyData
  | .addC c => .tuple [.str "add_call", clD c]
  | .remC k => .tuple [.str "remove_call", .int (k : Nat)]
  | .setO k o => .tuple [.str "set_offsets", .int (k : Nat), intsD o]
  | .setD k l m => .tuple [.str "set_delays", .int (k : Nat), .int l, .int m]
  | .addS => .tuple [.str "add_service"]
  | .remS k => .tuple [.str "remove_service", .int k]
def DeedOk : Deed → Prop
  | .addC c => 0 ≤ c.c ∧ c.c < c.t ∧ areOffs c.o = true ∧ 0 ≤ c.l ∧ c.l ≤ c.m ∧ c.m ≤ 99
  | .remC k => k < 2 ^ 60
  | .setO k o => k < 2 ^ 60 ∧ (o = [1, 4] ∨ o = [0] ∨ o = [4, 1] ∨ o = [])
  | .setD k l m => k < 2 ^ 60 ∧ 0 ≤ l ∧ l ≤ 99 ∧ 0 ≤ m ∧ m ≤ 99
  | .addS => True
  | .remS _ => True
structure Out where
  s : Sys
  r : PyData
  w : Option Str
def wD : Option Str → PyData
  | none => .none
  | some z => .str z
def bad (s : Sys) (z : Str) : Out := ⟨s, .none, some z⟩
def hasS (s : Sys) (k : Int) : Bool := s.cs.any fun c => decide (k ∈ [c.c, c.t])
def putC (s : Sys) (k : Nat) (c : Cl) : Sys := ⟨s.n, s.cs.take k ++ [c] ++ s.cs.drop (k + 1)⟩
def step (s : Sys) : Deed → Out
  | .addC c => if c.t ≥ s.n then bad s "badcall" else if s.cs.length = 20 then bad s "full" else ⟨⟨s.n, s.cs ++ [c]⟩, .int (s.cs.length : Nat), none⟩
  | .addS => if s.n < 8 then ⟨⟨s.n + 1, s.cs⟩, .int s.n, none⟩ else bad s "many"
  | .remS k => if 1 ≤ k ∧ k < s.n then (if hasS s k = true then bad s "used" else ⟨⟨s.n - 1, s.cs.map (ren k)⟩, .none, none⟩) else bad s "service"
  | .remC k => match s.cs[k]? with
    | none => bad s "call"
    | some c => ⟨⟨s.n, s.cs.take k ++ s.cs.drop (k + 1)⟩, clD c, none⟩
  | .setO k o => match s.cs[k]? with
    | none => bad s "call"
    | some c => if o = [4, 1] ∨ o = [] then bad s "badcall" else ⟨putC s k ⟨c.c, c.t, o, c.l, c.m⟩, intsD c.o, none⟩
  | .setD k l m => match s.cs[k]? with
    | none => bad s "call"
    | some c => if l > m then bad s "badcall" else ⟨putC s k ⟨c.c, c.t, c.o, l, m⟩, .tuple [.int c.l, .int c.m], none⟩
section
variable {P : Program} {w : World} {K : PySem.W.Frag} {mg : Str → Option Value} {base : Heap}
/-! ### _law_call -/
def sp_call (K : PySem.W.Frag) : Sp := fun vs H Q _ => ∃ (r a : Addr) (ns : List Int) (n : Int), vs = [.ref r, .int n] ∧ RowAt K H r a ns ∧ 1 ≤ n ∧ n ≤ 8 ∧ ∀ v c H', FrP r H H' → RowAt K H' r a ns → Td H' v (clD c) → DeedOk (.addC c) → Q v H'
abbrev N__law_call : List Str := ["_law_row", "_law_count", "_law_caller", "_law_target", "_law_least"]
theorem sc__law_call : FnScope N__law_call ["_law_row", "_law_count"] (defScope s__law_call) := ⟨rfl, rfl, rfl, by decide +kernel, rfl, by decide +kernel, by decide +kernel⟩
theorem ok_call (T : Tx w K mg) : GF P w K mg base CX0 2 "_law_call" ["_law_row", "_law_count"] (sp_call K) := by
  have G1 := ok_taken (P := P) (base := base) T
  refine gf0 T.f__law_call T.g__law_call sc__law_call (fun _ F => F.bindsN fun _ _ _ _ _ _ us hl => match us, hl with | [_, _], _ => rfl) (fun vs H Q E h => ?_) (fun cdv A outer s H vs Q E hr h => ?_)
  · obtain ⟨r, a, ns, n, rfl, _⟩ := h
    rfl
  · obtain ⟨r, a, ns, n, rfl, R, n1, n8, q⟩ := h
    have nd := sc__law_call.nd
    refine ⟨_, (pss_cons ((ps_set (i := 2) nd rfl (Or.inl rfl) ((pe_f G1 (hr) (pass0) (pa_cons (pv 0) (pa_cons ((pe_callB (call_max2 rfl) rfl T.z_max boot_max (pa_cons (pe_int) (pa_cons ((pe_op (op_sub) (pv 1) (pe_int))) pa_nil)))) pa_nil)))))) (pss_cons ((ps_set (i := 3) nd rfl (Or.inl rfl) ((pe_op (op_add) ((pe_op (op_add) (pv 2) (pe_int))) ((pe_f G1 (hr) (pass0) (pa_cons (pv 0) (pa_cons ((pe_callB (call_max2 rfl) rfl T.z_max boot_max (pa_cons (pe_int) (pa_cons ((pe_op (op_sub) ((pe_op (op_sub) (pv 1) (pe_int))) (pv 2))) pa_nil)))) pa_nil)))))))) (pss_cons ((ps_set (i := 4) nd rfl (Or.inl rfl) ((pe_f G1 (hr) (pass0) (pa_cons (pv 0) (pa_cons (pe_int) pa_nil)))))) (pss_one ((ps_ret ((pe_tup (pa_cons (pv 2) (pa_cons (pv 3) (pa_cons ((pe_tup (pa_cons ((pe_f G1 (hr) (pass0) (pa_cons (pv 0) (pa_cons (pe_int) pa_nil)))) (pa_cons ((pe_op (op_add) (pe_int) ((pe_f G1 (hr) (pass0) (pa_cons (pv 0) (pa_cons (pe_int) pa_nil)))))) pa_nil)))) (pa_cons (pv 4) (pa_cons ((pe_op (op_add) (pv 4) ((pe_f G1 (hr) (pass0) (pa_cons (pv 0) (pa_cons (pe_int) pa_nil)))))) pa_nil))))))))))))), ?_⟩
    have mx : ∀ x : Int, x ≤ 8 → 1 ≤ (if x > 1 then x else 1) ∧ (if x > 1 then x else 1) < 1000 := fun x hx => by
      by_cases c : x > 1
      · rw [if_pos c]; omega
      · rw [if_neg c]; omega
    refine ⟨_, rfl, _, rfl, _, _, rfl, rfl, _, _, rfl, r, a, ns, _, rfl, R, (mx _ (by omega)).1, (mx _ (by omega)).2, fun dc H1 dc1 dc2 f1 R1 => ?_⟩
    refine ⟨_, rfl, _, _, rfl, rfl, _, rfl, _, rfl, _, _, rfl, rfl, _, rfl, _, _, rfl, rfl, _, _, rfl, r, a, ns, _, rfl, R1, (mx _ (by omega)).1, (mx _ (by omega)).2, fun dt H2 dt1 dt2 f2 R2 => ?_⟩
    refine ⟨_, _, rfl, rfl, ?_⟩
    refine ⟨_, rfl, r, a, ns, 5, rfl, R2, by omega, by omega, fun dl H3 dl1 dl2 f3 R3 => ?_⟩
    refine ⟨_, rfl, _, rfl, _, rfl, r, a, ns, 5, rfl, R3, by omega, by omega, fun d1 H4 d11 d12 f4 R4 => ?_⟩
    refine ⟨_, rfl, r, a, ns, 5, rfl, R4, by omega, by omega, fun d2 H5 d21 d22 f5 R5 => ⟨_, _, rfl, rfl, by show 2 ≤ sizeLine; decide, fun o ho => ?_⟩⟩
    have R6 := R5.mono (Same.new (o := HO.tup [.int d1, .int (6 + d2)]) ho)
    refine ⟨_, rfl, _, rfl, _, rfl, r, a, ns, 5, rfl, R6, by omega, by omega, fun dm H7 dm1 dm2 f7 R7 => ⟨_, _, rfl, rfl, by show 5 ≤ sizeLine; decide, fun t ht => ?_⟩⟩
    have ho7 := f7 _ _ (upd_same (H := H5) (a := o) (o := HO.tup [.int d1, .int (6 + d2)])) (R5.nr ho)
    refine q _ ⟨dc, dc + 1 + dt, [d1, 6 + d2], dl, dl + dm⟩ _ (((((((f1.trans f2).trans f3).trans f4).trans f5).same (Same.new ho)).trans f7).same (Same.new ht)) (R7.mono (Same.new ht)) (Td.cl_mk (x := ⟨dc, dc + 1 + dt, [d1, 6 + d2], dl, dl + dm⟩) upd_same (upd_ne' ht ho7)) ?_
    refine ⟨dc1, by show dc < dc + 1 + dt; omega, ?_, dl1, by show dl ≤ dl + dm; omega, by show dl + dm ≤ 99; omega⟩
    refine areOffs_mk (by simp) (by simp) ?_ ?_
    · simp only [List.pairwise_cons, List.mem_singleton, List.not_mem_nil, List.Pairwise.nil, and_true, forall_eq]
      exact ⟨by omega, by intro x hx; exact hx.elim⟩
    · intro x hx
      simp only [List.mem_cons, List.not_mem_nil, or_false] at hx
      rcases hx with rfl | rfl <;> omega
/-! ### _law_deed -/
def sp_deed (K : PySem.W.Frag) : Sp := fun vs H Q _ => ∃ (r a : Addr) (ns : List Int) (v : V) (s : Sys), vs = [.ref r, v] ∧ RowAt K H r a ns ∧ Td H v (syD s) ∧ SysOk s ∧ ∀ v' d H', FrP r H H' → RowAt K H' r a ns → Td H' v' (deedD d) → DeedOk d → Q v' H'
abbrev N__law_deed : List Str := ["_law_row", "_law_system_here", "_law_way", "_law_many"]
theorem sc__law_deed : FnScope N__law_deed ["_law_row", "_law_system_here"] (defScope s__law_deed) := ⟨rfl, rfl, rfl, by decide +kernel, rfl, by decide +kernel, by decide +kernel⟩
theorem ok_deed (T : Tx w K mg) : GF P w K mg base CX0 3 "_law_deed" ["_law_row", "_law_system_here"] (sp_deed K) := by
  have G1 := ok_taken (P := P) (base := base) T
  have G2 := ok_call (P := P) (base := base) T
  refine gf0 T.f__law_deed T.g__law_deed sc__law_deed (fun _ F => F.bindsN fun _ _ _ _ _ _ us hl => match us, hl with | [_, _], _ => rfl) (fun vs H Q E h => ?_) (fun cdv A outer s H vs Q E hr h => ?_)
  · obtain ⟨r, a, ns, v, s, rfl, _⟩ := h
    rfl
  · obtain ⟨r, a, ns, v, y, rfl, R, hy, ⟨o1, o2, o3, o4⟩, q⟩ := h
    have nd := sc__law_deed.nd
    have hr1 : Room 1 _ := hr.mono (by decide)
    refine ⟨_, (pss_cons (ps_par (i := 2) (j := 3) rfl nd rfl rfl (by decide) rfl rfl (pa_cons ((pe_f G1 (hr1) (pass0) (pa_cons (pv 0) (pa_cons (pe_int) pa_nil)))) (pa_cons ((pe_callB call_len_seq rfl T.z_len boot_len (pa_cons ((pe_ix ix_tup (pv 1) (pe_int) (fun _ _ => rfl))) pa_nil))) pa_nil)) (by rfl)) (pss_cons ((ps_if ((pt_cmpR (op_lt) (pv 2) (pe_int) (nomark _))) ((pss_one ((ps_ret ((pe_tup (pa_cons (pe_str) (pa_cons ((pe_f G2 (hr) (pass0) (pa_cons (pv 0) (pa_cons ((pe_ix ix_tup (pv 1) (pe_int) (fun _ _ => rfl))) pa_nil)))) pa_nil)))))))) (pss_nil))) (pss_cons ((ps_if ((pt_cmpR (op_eq) (pv 2) (pe_int) (nomark _))) ((pss_one ((ps_ret ((pe_tup (pa_cons (pe_str) (pa_cons ((pe_f G1 (hr1) (pass0) (pa_cons (pv 0) (pa_cons ((pe_op (op_add) (pv 3) (pe_int))) pa_nil)))) pa_nil)))))))) (pss_nil))) (pss_cons ((ps_if ((pt_cmpR (op_eq) (pv 2) (pe_int) (nomark _))) ((pss_one ((ps_ret ((pe_tup (pa_cons (pe_str) (pa_cons ((pe_f G1 (hr1) (pass0) (pa_cons (pv 0) (pa_cons ((pe_op (op_add) (pv 3) (pe_int))) pa_nil)))) (pa_cons ((pe_ix ix_list ((pe_lst (pa_cons ((pe_tup (pa_cons (pe_int) (pa_cons (pe_int) pa_nil)))) (pa_cons ((pe_tup (pa_cons (pe_int) pa_nil))) (pa_cons ((pe_tup (pa_cons (pe_int) (pa_cons (pe_int) pa_nil)))) (pa_cons (pe_tup pa_nil) pa_nil)))))) ((pe_f G1 (hr1) (pass0) (pa_cons (pv 0) (pa_cons (pe_int) pa_nil)))) (fun _ _ => rfl))) pa_nil))))))))) (pss_nil))) (pss_cons ((ps_if ((pt_cmpR (op_eq) (pv 2) (pe_int) (nomark _))) ((pss_one ((ps_ret ((pe_tup (pa_cons (pe_str) (pa_cons ((pe_f G1 (hr1) (pass0) (pa_cons (pv 0) (pa_cons ((pe_op (op_add) (pv 3) (pe_int))) pa_nil)))) (pa_cons ((pe_f G1 (hr1) (pass0) (pa_cons (pv 0) (pa_cons (pe_int) pa_nil)))) (pa_cons ((pe_f G1 (hr1) (pass0) (pa_cons (pv 0) (pa_cons (pe_int) pa_nil)))) pa_nil)))))))))) (pss_nil))) (pss_one ((ps_ret (pe_ifExp (pt_cmpR (op_eq) (pv 2) (pe_int) (nomark _)) (pe_tup (pa_cons (pe_str) pa_nil)) (pe_tup (pa_cons (pe_str) (pa_cons ((pe_f G1 (hr1) (pass0) (pa_cons (pv 0) (pa_cons ((pe_op (op_add) ((pe_ix ix_tup (pv 1) (pe_int) (fun _ _ => rfl))) (pe_int))) pa_nil)))) pa_nil)))))))))))), ?_⟩
    refine ⟨_, rfl, r, a, ns, 7, rfl, R, by omega, by omega, fun dw H1 dw1 dw2 f1 R1 => ?_⟩
    obtain ⟨p, b, us, rfl, ha, hb, hu⟩ := (hy.mono (R.tle f1)).sy_inv
    have hl : us.length = y.cs.length := by rw [hu.len, List.length_map]
    have bound : (1 : Int) ≤ ((us.length : Nat) : Int) + 1 ∧ ((us.length : Nat) : Int) + 1 < 1000 := by omega
    refine ⟨_, rfl, p, _, _, _, rfl, rfl, SqT.of ha, rfl, b, _, rfl, .inr (SqT.of hb), _, _, rfl, ?_⟩
    refine ⟨_, rfl, _, _, rfl, rfl, _, rfl, ?_⟩
    have di : ∀ j : Int, decide (V.int dw = V.int j) = decide (dw = j) := fun j => by
      rw [Bool.eq_iff_iff, decide_eq_true_iff, decide_eq_true_iff]
      exact ⟨fun z => V.int.inj z, fun z => by rw [z]⟩
    by_cases c2 : dw < 2
    · rw [decide_eq_true c2]
      refine iteT ⟨_, rfl, _, rfl, p, _, _, _, rfl, rfl, SqT.of ha, rfl, r, a, ns, y.n, rfl, R1, o1, o2, fun v c H2 f2 R2 t2 ok => ?_⟩
      refine ⟨by show 2 ≤ sizeLine; decide, fun t ht => ?_⟩
      exact q _ (.addC c) _ ((f1.trans f2).same (Same.new ht)) (R2.mono (Same.new ht)) (.tup upd_same (.cons (.str _) (.cons (t2.mono (Same.new ht).tle) .nil))) ok
    · rw [decide_eq_false c2]
      refine iteF ⟨_, rfl, rfl, _, rfl, ?_⟩
      rw [di]
      by_cases c3 : dw = 2
      · rw [decide_eq_true c3]
        refine iteT ⟨_, rfl, _, rfl, _, _, rfl, rfl, r, a, ns, _, rfl, R1, bound.1, bound.2, fun k H2 k1 k2 f2 R2 => ?_⟩
        refine ⟨by show 2 ≤ sizeLine; decide, fun t ht => ?_⟩
        refine q _ (.remC k.toNat) _ ((f1.trans f2).same (Same.new ht)) (R2.mono (Same.new ht)) (.tup upd_same (.cons (.str _) (.cons ?_ .nil))) (by show k.toNat < 2 ^ 60; omega)
        rw [Int.toNat_of_nonneg k1]
        exact .int _
      · rw [decide_eq_false c3]
        refine iteF ⟨_, rfl, rfl, _, rfl, ?_⟩
        rw [di]
        by_cases c4 : dw = 3
        · rw [decide_eq_true c4]
          refine iteT ⟨_, rfl, _, rfl, _, _, rfl, rfl, r, a, ns, _, rfl, R1, bound.1, bound.2, fun k H2 k1 k2 f2 R2 => ?_⟩
          refine ⟨by show 2 ≤ sizeLine; decide, fun t1 ht1 => ⟨by show 1 ≤ sizeLine; decide, fun t2 ht2 => ⟨by show 2 ≤ sizeLine; decide, fun t3 ht3 => ⟨Nat.zero_le _, fun t4 ht4 => ⟨by show 4 ≤ sizeLine; decide, fun l hl5 => ?_⟩⟩⟩⟩⟩
          have s3 : Same H2 (upd (upd (upd (upd (upd H2 t1 (.tup [.int 1, .int 4])) t2 (.tup [.int 0])) t3 (.tup [.int 4, .int 1])) t4 (.tup [])) l (.lst [.ref t1, .ref t2, .ref t3, .ref t4])) := ((((Same.new ht1).trans (Same.new ht2)).trans (Same.new ht3)).trans (Same.new ht4)).trans (Same.new hl5)
          have g1 := upd_ne' (o := HO.lst [.ref t1, .ref t2, .ref t3, .ref t4]) hl5 (upd_ne' (o := HO.tup []) ht4 (upd_ne' (o := HO.tup [.int 4, .int 1]) ht3 (upd_ne' (o := HO.tup [.int 0]) ht2 (upd_same (H := H2) (a := t1) (o := HO.tup [.int 1, .int 4])))))
          have g2 := upd_ne' (o := HO.lst [.ref t1, .ref t2, .ref t3, .ref t4]) hl5 (upd_ne' (o := HO.tup []) ht4 (upd_ne' (o := HO.tup [.int 4, .int 1]) ht3 (upd_same (H := upd H2 t1 (.tup [.int 1, .int 4])) (a := t2) (o := HO.tup [.int 0]))))
          have g3 := upd_ne' (o := HO.lst [.ref t1, .ref t2, .ref t3, .ref t4]) hl5 (upd_ne' (o := HO.tup []) ht4 (upd_same (H := upd (upd H2 t1 (.tup [.int 1, .int 4])) t2 (.tup [.int 0])) (a := t3) (o := HO.tup [.int 4, .int 1])))
          have g4 := upd_ne' (o := HO.lst [.ref t1, .ref t2, .ref t3, .ref t4]) hl5 (upd_same (H := upd (upd (upd H2 t1 (.tup [.int 1, .int 4])) t2 (.tup [.int 0])) t3 (.tup [.int 4, .int 1])) (a := t4) (o := HO.tup []))
          have g5 : upd (upd (upd (upd (upd H2 t1 (.tup [.int 1, .int 4])) t2 (.tup [.int 0])) t3 (.tup [.int 4, .int 1])) t4 (.tup [])) l (.lst [.ref t1, .ref t2, .ref t3, .ref t4]) l = some (.lst [.ref t1, .ref t2, .ref t3, .ref t4]) := upd_same
          have R3 := R2.mono s3
          refine ⟨_, rfl, r, a, ns, 4, rfl, R3, by omega, by omega, fun j H4 j1 j2 f4 R4 => ?_⟩
          have nl : l ≠ r := by
            intro z
            obtain ⟨i1, z1, c1, h1, _⟩ := R3.ex
            rw [← z] at h1
            have h2 := g5.symm.trans h1
            simp at h2
          have g5' := f4 _ _ g5 nl
          have tl := R3.tle f4
          have fin : ∀ (t : Addr) (os : List Int), (os = [1, 4] ∨ os = [0] ∨ os = [4, 1] ∨ os = []) → H4 t = some (.tup (os.map .int)) → ∀ tt, H4 tt = none → Q (.ref tt) (upd H4 tt (.tup [.str "set_offsets", .int k, .ref t])) := by
            intro t os ho ht tt htt
            refine q _ (.setO k.toNat os) _ ((((f1.trans f2).same s3).trans f4).same (Same.new htt)) (R4.mono (Same.new htt)) (.tup upd_same (.cons (.str _) (.cons ?_ (.cons ?_ .nil)))) ⟨by omega, ho⟩
            · rw [Int.toNat_of_nonneg k1]
              exact .int _
            · exact .tup (upd_ne' htt ht) (TdAll.of_ints os)
          obtain rfl | rfl | rfl | rfl : j = 0 ∨ j = 1 ∨ j = 2 ∨ j = 3 := by omega
          · exact ⟨l, _, _, _, rfl, rfl, SqL.of g5', rfl, by show 3 ≤ sizeLine; decide, fin t1 [1, 4] (.inl rfl) (tl _ _ g1)⟩
          · exact ⟨l, _, _, _, rfl, rfl, SqL.of g5', rfl, by show 3 ≤ sizeLine; decide, fin t2 [0] (.inr (.inl rfl)) (tl _ _ g2)⟩
          · exact ⟨l, _, _, _, rfl, rfl, SqL.of g5', rfl, by show 3 ≤ sizeLine; decide, fin t3 [4, 1] (.inr (.inr (.inl rfl))) (tl _ _ g3)⟩
          · exact ⟨l, _, _, _, rfl, rfl, SqL.of g5', rfl, by show 3 ≤ sizeLine; decide, fin t4 [] (.inr (.inr (.inr rfl))) (tl _ _ g4)⟩
        · rw [decide_eq_false c4]
          refine iteF ⟨_, rfl, rfl, _, rfl, ?_⟩
          rw [di]
          by_cases c5 : dw = 4
          · rw [decide_eq_true c5]
            refine iteT ⟨_, rfl, _, rfl, _, _, rfl, rfl, r, a, ns, _, rfl, R1, bound.1, bound.2, fun k H2 k1 k2 f2 R2 => ?_⟩
            refine ⟨_, rfl, r, a, ns, 4, rfl, R2, by omega, by omega, fun l H3 l1 l2 f3 R3 => ?_⟩
            refine ⟨_, rfl, r, a, ns, 9, rfl, R3, by omega, by omega, fun m H4 m1 m2 f4 R4 => ⟨by show 4 ≤ sizeLine; decide, fun t ht => ?_⟩⟩
            refine q _ (.setD k.toNat l m) _ ((((f1.trans f2).trans f3).trans f4).same (Same.new ht)) (R4.mono (Same.new ht)) (.tup upd_same (.cons (.str _) (.cons ?_ (.cons (.int _) (.cons (.int _) .nil))))) ⟨by omega, by omega, by omega, by omega, by omega⟩
            rw [Int.toNat_of_nonneg k1]
            exact .int _
          · rw [decide_eq_false c5]
            refine iteF ⟨_, rfl, rfl, _, rfl, ?_⟩
            refine ite2 (fun _ => ?_) (fun _ => ?_)
            · refine ⟨by show 1 ≤ sizeLine; decide, fun t ht => ?_⟩
              exact q _ .addS _ (f1.same (Same.new ht)) (R1.mono (Same.new ht)) (.tup upd_same (.cons (.str _) .nil)) trivial
            · refine ⟨_, rfl, _, rfl, p, _, _, _, rfl, rfl, SqT.of ha, rfl, _, _, rfl, rfl, r, a, ns, _, rfl, R1, by omega, by omega, fun k H2 k1 k2 f2 R2 => ⟨by show 2 ≤ sizeLine; decide, fun t ht => ?_⟩⟩
              exact q _ (.remS k) _ ((f1.trans f2).same (Same.new ht)) (R2.mono (Same.new ht)) (.tup upd_same (.cons (.str _) (.cons (.int _) .nil))) trivial
end
end K68
end
section
set_option Elab.async false
set_option linter.all false
set_option maxRecDepth 100000
set_option maxHeartbeats 2000000
namespace K68
open PySem PySem.Spec PyProof.Rows L2
def outD (o : Out) : PyData := .tuple [syD o.s, o.r, wD o.w]
theorem step_addC (s : Sys) (c : Cl) : step s (.addC c) = if c.t ≥ s.n then bad s "badcall" else if s.cs.length = 20 then bad s "full" else ⟨⟨s.n, s.cs ++ [c]⟩, .int (s.cs.length : Nat), none⟩ := rfl
theorem step_addS (s : Sys) : step s .addS = if s.n < 8 then ⟨⟨s.n + 1, s.cs⟩, .int s.n, none⟩ else bad s "many" := rfl
theorem step_remS (s : Sys) (k : Int) : step s (.remS k) = if 1 ≤ k ∧ k < s.n then (if hasS s k = true then bad s "used" else ⟨⟨s.n - 1, s.cs.map (ren k)⟩, .none, none⟩) else bad s "service" := rfl
theorem step_remC (s : Sys) (k : Nat) : step s (.remC k) = match s.cs[k]? with
    | none => bad s "call"
    | some c => ⟨⟨s.n, s.cs.take k ++ s.cs.drop (k + 1)⟩, clD c, none⟩ := rfl
theorem step_setO (s : Sys) (k : Nat) (o : List Int) : step s (.setO k o) = match s.cs[k]? with
    | none => bad s "call"
    | some c => if o = [4, 1] ∨ o = [] then bad s "badcall" else ⟨putC s k ⟨c.c, c.t, o, c.l, c.m⟩, intsD c.o, none⟩ := rfl
theorem step_setD (s : Sys) (k : Nat) (l m : Int) : step s (.setD k l m) = match s.cs[k]? with
    | none => bad s "call"
    | some c => if l > m then bad s "badcall" else ⟨putC s k ⟨c.c, c.t, c.o, l, m⟩, .tuple [.int c.l, .int c.m], none⟩ := rfl
theorem sT {a : Str} : decide (V.str a = V.str a) = true := decide_eq_true rfl
theorem sF {a b : Str} (h : ¬ a = b) : decide (V.str a = V.str b) = false := decide_eq_false fun z => h (V.str.inj z)
section
variable {P : Program} {w : World} {K : PySem.W.Frag} {mg : Str → Option Value} {base : Heap}
/-! ### _law_gone -/
def sp_gone : Sp := fun vs H Q _ => ∃ (v : V) (s : Sys) (k : Int), vs = [v, .int k] ∧ Td H v (syD s) ∧ SysOk s ∧ ∀ v' H', Same H H' → Td H' v' (outD (step s (.remS k))) → Q v' H'
abbrev N__law_gone : List Str := ["_law_system_here", "_law_service", "_law_calls", "_law_caller", "_law_target", "_law_offsets", "_law_least", "_law_most", "_law_call_here"]
theorem sc__law_gone : FnScope N__law_gone ["_law_system_here", "_law_service"] (defScope s__law_gone) := ⟨rfl, rfl, rfl, by decide +kernel, rfl, by decide +kernel, by decide +kernel⟩
theorem ok_gone (T : Tx w K mg) : GF P w K mg base CX0 1 "_law_gone" ["_law_system_here", "_law_service"] sp_gone := by
  refine gf0 T.f__law_gone T.g__law_gone sc__law_gone (fun _ F => F.bindsN fun _ _ _ _ _ _ us hl => match us, hl with | [_, _], _ => rfl) (fun vs H Q E h => ?_) (fun cdv A outer s H vs Q E hr h => ?_)
  · obtain ⟨v, s, k, rfl, _⟩ := h
    rfl
  · obtain ⟨v, y, k, rfl, hy, ⟨o1, o2, o3, o4⟩, q⟩ := h
    have nd := sc__law_gone.nd
    obtain ⟨a, b, us, rfl, ha, hb, hu⟩ := hy.sy_inv
    have hlen : us.length = y.cs.length := by rw [hu.len, List.length_map]
    refine ⟨_, (pss_cons ((ps_if (pt_not (pt_chain op_le op_lt pe_int (pv 1) ((pe_ix ix_tup (pv 0) (pe_int) (fun _ _ => rfl))))) ((pss_one ((ps_ret ((pe_tup (pa_cons (pv 0) (pa_cons (pe_non) (pa_cons (pe_str) pa_nil))))))))) (pss_nil))) (pss_cons ((ps_if ((pt_cmpR (op_neD hr.units) (pe_lc (own := [("_law_call_here", 8)]) (g := gName 8) rfl nd (pi_tup (pe_ix ix_tup (pv 0) (pe_int) (fun _ _ => rfl))) (blkOk_by (N := N__law_gone) (sc := defScope s__law_gone) (by decide +kernel)) (fun _ _ _ _ _ => pg_name (i := 8) nd rfl (Or.inl rfl)) (fun _ _ _ _ _ => pts_one (pt_cmpR (op_inI) (pv 1) ((pe_slice sl_tupS (pv 8) po_none (po_some (pe_int)))) (by rfl))) (fun _ _ _ _ _ => pv 8)) (pe_lst pa_nil) (nomark _))) ((pss_one ((ps_ret ((pe_tup (pa_cons (pv 0) (pa_cons (pe_non) (pa_cons (pe_str) pa_nil))))))))) (pss_nil))) (pss_cons ((ps_set (i := 2) nd rfl (Or.inl rfl) (pe_lst pa_nil))) (pss_cons (ps_for PassesOwn.never rfl (pi_tup (pe_ix ix_tup (pv 0) (pe_int) (fun _ _ => rfl))) (pg_tup rfl (pgs_cons ((pg_name (i := 3) nd rfl (Or.inl rfl))) (pgs_cons ((pg_name (i := 4) nd rfl (Or.inl rfl))) (pgs_cons ((pg_name (i := 5) nd rfl (Or.inl rfl))) (pgs_cons ((pg_name (i := 6) nd rfl (Or.inl rfl))) (pgs_cons ((pg_name (i := 7) nd rfl (Or.inl rfl))) pgs_nil)))))) (pss_one ((ps_expr (pe_bm PySem.F.plainAttrs_list PySem.F.slot_list_append PySem.F.type_list_append mt_append (pv 2) (pa_cons ((pe_tup (pa_cons ((pe_op (op_sub) (pv 3) ((pe_callTy (call_int1) rfl T.z_int boot_int (pa_cons ((pe_cmpR (op_gt) (pv 3) (pv 1) (nomark _))) pa_nil))))) (pa_cons ((pe_op (op_sub) (pv 4) ((pe_callTy (call_int1) rfl T.z_int boot_int (pa_cons ((pe_cmpR (op_gt) (pv 4) (pv 1) (nomark _))) pa_nil))))) (pa_cons (pv 5) (pa_cons (pv 6) (pa_cons (pv 7) pa_nil))))))) pa_nil)))))) (pss_one ((ps_ret ((pe_tup (pa_cons ((pe_tup (pa_cons ((pe_op (op_sub) ((pe_ix ix_tup (pv 0) (pe_int) (fun _ _ => rfl))) (pe_int))) (pa_cons ((pe_callTy (call_tuple_of) rfl T.z_tuple boot_tuple (pa_cons (pv 2) pa_nil))) pa_nil)))) (pa_cons (pe_non) (pa_cons (pe_non) pa_nil)))))))))))), ?_⟩
    refine ⟨_, rfl, _, _, rfl, rfl, _, rfl, ?_⟩
    have no : ¬ (1 ≤ k ∧ k < y.n) → ∀ t, H t = none → Q (.ref t) (upd H t (.tup [.ref a, .non, .str "service"])) := by
      intro c t ht
      refine q _ _ (Same.new ht) ?_
      rw [step_remS, if_neg c]
      exact .tup upd_same (.cons (hy.mono (Same.new ht).tle) (.cons .non (.cons (.str _) .nil)))
    by_cases c1 : 1 ≤ k
    · rw [decide_eq_true c1]
      refine iteT ⟨_, rfl, a, _, _, _, rfl, rfl, SqT.of ha, rfl, _, _, rfl, rfl, _, rfl, ?_⟩
      by_cases c2 : k < y.n
      · rw [decide_eq_true c2]
        refine iteF ⟨_, rfl, a, _, _, _, rfl, rfl, SqT.of ha, rfl, b, rfl, ⟨_, SqT.of hb⟩, fun D hD => ?_⟩
        have eo : step y (.remS k) = if hasS y k = true then bad y "used" else ⟨⟨y.n - 1, y.cs.map (ren k)⟩, .none, none⟩ := by
          rw [step_remS, if_pos ⟨c1, c2⟩]
        refine lc_s (walk_tup (xs := us)) hD (fun i acc H' => TdAll H' acc (((y.cs.take i).filter fun c => decide (k ∈ [c.c, c.t])).map clD)) .nil (fun H2 s2 => SqT.of (s2 _ _ hb)) (fun i x H2 H2' acc hi s2 hacc lacc acc1 yl => ?_) (fun H2 acc s2 hacc acc1 => ?_)
        · obtain ⟨rfl, hx⟩ := yl
          obtain ⟨d, hd, td⟩ := (hu.mono s2.tle).get hx
          rw [List.getElem?_map] at hd
          cases ec : y.cs[i]? with
          | none => rw [ec] at hd; cases hd
          | some c =>
            rw [ec] at hd
            cases Option.some.inj hd
            obtain ⟨e, o, rfl, he, ho⟩ := td.cl_inv
            have hi2 : i < sizeLine := by
              rw [hlen] at hi
              exact Nat.lt_of_lt_of_le hi (Nat.le_trans o3 (by decide))
            have step2 : ((y.cs.take (i + 1)).filter fun c => decide (k ∈ [c.c, c.t])).map clD = (((y.cs.take i).filter fun c => decide (k ∈ [c.c, c.t])).map clD) ++ (if k ∈ [c.c, c.t] then [clD c] else []) := by
              rw [take_more ec, List.filter_append, List.map_append]
              congr 1
              by_cases cz : k ∈ [c.c, c.t]
              · rw [if_pos cz, List.filter_cons, if_pos (decide_eq_true cz)]; rfl
              · rw [if_neg cz, List.filter_cons, if_neg (by rw [decide_eq_false cz]; exact Bool.false_ne_true)]; rfl
            refine ⟨rfl, _, rfl, _, rfl, 2, rfl, e, _, rfl, he, fun p H3 s3 hp => ?_⟩
            have acc3 := acc1.mono s3.tle
            have hacc3 := s3 _ _ hacc
            refine ⟨k, p, [c.c, c.t], rfl, rfl, .inr (hp.trans (congrArg (fun z => some (HO.tup z)) (cutV_to _ 2))), _, rfl, ?_⟩
            by_cases ck : k ∈ [c.c, c.t]
            · rw [decide_eq_true ck]
              refine iteT ⟨_, rfl, LcP.push hD (s2.trans s3) hacc3 lacc hi2 ?_⟩
              show TdAll _ _ _
              rw [step2, if_pos ck]
              exact TdAll.append (acc3.mono (tle_lst hacc3)) (.cons ((td.mono s3.tle).mono (tle_lst hacc3)) .nil)
            · rw [decide_eq_false ck]
              refine iteF (LcP.skip (s2.trans s3) hacc3 lacc ?_)
              show TdAll _ _ _
              rw [step2, if_neg ck, List.append_nil]
              exact acc3
        · rw [hlen, List.take_length] at acc1
          refine ⟨Nat.zero_le _, fun e he => ?_⟩
          have hacc2 := upd_ne' (o := HO.lst []) he hacc
          have acc2 := TdAll.mono (Same.new (o := HO.lst []) he).tle acc1
          refine ⟨.list ((y.cs.filter fun c => decide (k ∈ [c.c, c.t])).map clD), .list [], .lst (SqL.of hacc2) acc2.dp, .lst (SqL.of upd_same) .nil, (Pl.lst (n := 2) fun d hd => by
            obtain ⟨x, _, rfl⟩ := List.mem_map.mp hd
            exact Pl.cl x).shaped (by decide), by decide, _, rfl, ?_⟩
          rw [eqv_nil]
          have s3 : Same H (upd H2 e (.lst [])) := s2.trans (Same.new he)
          revert s3
          generalize upd H2 e (.lst []) = H3
          intro s3
          have eh : (!((y.cs.filter fun c => decide (k ∈ [c.c, c.t])).map clD).isEmpty) = hasS y k := by
            unfold hasS
            rw [Bool.eq_iff_iff, List.any_eq_true]
            constructor
            · intro h
              cases ef : y.cs.filter fun c => decide (k ∈ [c.c, c.t]) with
              | nil => rw [ef] at h; cases h
              | cons z zs =>
                have hz : z ∈ y.cs.filter fun c => decide (k ∈ [c.c, c.t]) := by rw [ef]; exact List.mem_cons_self ..
                exact ⟨z, (List.mem_filter.mp hz).1, (List.mem_filter.mp hz).2⟩
            · rintro ⟨z, hz1, hz2⟩
              have hz : z ∈ y.cs.filter fun c => decide (k ∈ [c.c, c.t]) := List.mem_filter.mpr ⟨hz1, hz2⟩
              cases ef : y.cs.filter fun c => decide (k ∈ [c.c, c.t]) with
              | nil => rw [ef] at hz; cases hz
              | cons z zs => rfl
          rw [eh]
          by_cases ch : hasS y k = true
          · rw [ch]
            refine iteT ⟨_, rfl, by show 3 ≤ sizeLine; decide, fun t ht => ?_⟩
            refine q _ _ (s3.trans (Same.new ht)) ?_
            rw [eo, if_pos ch]
            exact .tup upd_same (.cons (hy.mono (s3.trans (Same.new ht)).tle) (.cons .non (.cons (.str _) .nil)))
          · rw [Bool.eq_false_iff.mpr ch]
            refine iteF ⟨Nat.zero_le _, fun L hL => ?_⟩
            have hL0 : H L = none := s3.free hL
            have s4 : Same H (upd H3 L (.lst [])) := s3.trans (Same.new hL)
            have hL4 : (upd H3 L (.lst [])) L = some (.lst []) := upd_same
            revert s4 hL4
            generalize upd H3 L (.lst []) = H4
            intro s4 hL4
            refine ⟨_, rfl, a, _, _, _, rfl, rfl, SqT.of (s4 _ _ ha), rfl, b, rfl, ⟨_, SqT.of (s4 _ _ hb)⟩, for_tup (K := K) (a := b) (xs := us) (fun i σ H' => ∃ ws v3 v4 v5 v6 v7 v8, σ = [some (.ref a), some (.int k), some (.ref L), v3, v4, v5, v6, v7, v8] ∧ Same H H' ∧ H' L = some (.lst ws) ∧ TdAll H' ws ((y.cs.take i).map fun c => clD (ren k c)))
              ⟨[], none, none, none, none, none, none, rfl, s4, hL4, .nil⟩ (fun i σ H' _ ⟨_, _, _, _, _, _, _, _, s, _, _⟩ => SqT.of (s _ _ hb)) (fun i x σ H5 hx pv => ?_) (fun σ H5 pv => ?_)⟩
            · obtain ⟨ws, v3, v4, v5, v6, v7, v8, rfl, s5, hL5, tL5⟩ := pv
              obtain ⟨d, hd, td⟩ := (hu.mono s5.tle).get hx
              rw [List.getElem?_map] at hd
              cases ec : y.cs[i]? with
              | none => rw [ec] at hd; cases hd
              | some c =>
                rw [ec] at hd
                cases Option.some.inj hd
                obtain ⟨e, o, rfl, he, ho⟩ := td.cl_inv
                refine ⟨e, _, rfl, SqT.of he, rfl, _, _, rfl, _, _, rfl, _, _, rfl, _, _, rfl, _, _, rfl, rfl, ?_⟩
                refine ⟨_, rfl, .inl ⟨rfl, _, SqL.of hL5⟩, ?_⟩
                refine ⟨_, rfl, _, rfl, _, rfl, _, _, rfl, rfl, .inr ⟨_, rfl, _, _, rfl, rfl, ?_⟩⟩
                refine ⟨_, rfl, _, rfl, _, rfl, _, _, rfl, rfl, .inr ⟨_, rfl, _, _, rfl, rfl, ?_⟩⟩
                refine ⟨_, rfl, _, rfl, _, rfl, by show 5 ≤ sizeLine; decide, fun t ht => ?_⟩
                have hL6 := upd_ne' (o := HO.tup [.int (c.c - if decide (c.c > k) = true then 1 else 0), .int (c.t - if decide (c.t > k) = true then 1 else 0), .ref o, .int c.l, .int c.m]) ht hL5
                refine ⟨L, _, _, rfl, rfl, hL6, ?_, ?_⟩
                · have l1 := tL5.len
                  rw [List.length_map, List.length_take] at l1
                  have : ws.length ≤ 20 := by omega
                  exact Nat.lt_of_le_of_lt this (by decide)
                refine ⟨_, _, _, _, _, _, _, rfl, same_up hL0 (s5.trans (Same.new ht)), upd_same, ?_⟩
                rw [take_more ec, List.map_append]
                refine TdAll.append ((tL5.mono (Same.new ht).tle).mono (tle_lst hL6)) (.cons ?_ .nil)
                refine Td.mono (tle_lst hL6) (Td.cl_mk (x := ren k c) (upd_same.trans ?_) (upd_ne' ht ho))
                rw [b2, b2]
                rfl
            · obtain ⟨ws, v3, v4, v5, v6, v7, v8, rfl, s5, hL5, tL5⟩ := pv
              rw [hlen, List.take_length] at tL5
              refine ⟨_, rfl, a, _, _, _, rfl, rfl, SqT.of (s5 _ _ ha), rfl, _, _, rfl, rfl, _, rfl, L, _, rfl, .inl ⟨SqL.of hL5, fun t1 ht1 => ⟨by show 2 ≤ sizeLine; decide, fun t2 ht2 => ⟨by show 3 ≤ sizeLine; decide, fun t3 ht3 => ?_⟩⟩⟩⟩
              have s6 := (Same.new (o := HO.tup ws) ht1).trans (Same.new (o := HO.tup [.int (y.n - 1), .ref t1]) ht2)
              refine q _ _ ((s5.trans s6).trans (Same.new ht3)) ?_
              rw [eo, if_neg ch]
              refine .tup upd_same (.cons (Td.mono (Same.new ht3).tle (Td.sy_mk (s := ⟨y.n - 1, y.cs.map (ren k)⟩) upd_same (upd_ne' ht2 upd_same) ?_)) (.cons .non (.cons .non .nil)))
              rw [List.map_map]
              exact tL5.mono s6.tle
      · rw [decide_eq_false c2]
        exact iteT ⟨_, rfl, by show 3 ≤ sizeLine; decide, no (fun z => c2 z.2)⟩
    · rw [decide_eq_false c1]
      exact iteF ⟨_, rfl, iteT ⟨_, rfl, by show 3 ≤ sizeLine; decide, no (fun z => c1 z.1)⟩⟩
end
end K68
end
section
set_option Elab.async false
set_option linter.all false
set_option maxRecDepth 100000
set_option maxHeartbeats 2000000
namespace K68
open PySem PySem.Spec PyProof.Rows L2
theorem clD_cut2 (a b c d e : V) : cutV [a, b, c, d, e] none (some 2) = [a, b] := cutV_to _ 2
theorem clD_cut3 (a b c d e : V) : cutV [a, b, c, d, e] none (some 3) = [a, b, c] := cutV_to _ 3
theorem clD_from3 (a b c d e : V) : cutV [a, b, c, d, e] (some 3) none = [d, e] := cutV_from _ 3
section
variable {P : Program} {w : World} {K : PySem.W.Frag} {mg : Str → Option Value} {base : Heap}
def sp_does : Sp := fun vs H Q _ => ∃ (v u : V) (s : Sys) (d : Deed), vs = [v, u] ∧ Td H v (syD s) ∧ Td H u (deedD d) ∧ SysOk s ∧ DeedOk d ∧ ∀ v' H', Same H H' → Td H' v' (outD (step s d)) → Q v' H'
abbrev N__law_does : List Str := ["_law_system_here", "_law_deed_here", "_law_count", "_law_calls", "_law_word", "_law_k", "_law_old", "_law_new", "_law_former"]
theorem sc__law_does : FnScope N__law_does ["_law_system_here", "_law_deed_here"] (defScope s__law_does) := ⟨rfl, rfl, rfl, by decide +kernel, rfl, by decide +kernel, by decide +kernel⟩
theorem ok_does (T : Tx w K mg) : GF P w K mg base CX0 2 "_law_does" ["_law_system_here", "_law_deed_here"] sp_does := by
  have G1 := ok_gone (P := P) (base := base) T
  refine gf0 T.f__law_does T.g__law_does sc__law_does (fun _ F => F.bindsN fun _ _ _ _ _ _ us hl => match us, hl with | [_, _], _ => rfl) (fun vs H Q E h => ?_) (fun cdv A outer s H vs Q E hr h => ?_)
  · obtain ⟨v, u, s, d, rfl, _⟩ := h
    rfl
  · obtain ⟨v, u, y, d, rfl, hy, hd, SO, DO, q⟩ := h
    have nd := sc__law_does.nd
    obtain ⟨o1, o2, o3, o4⟩ := id SO
    obtain ⟨a, b, us, rfl, ha, hb, hu⟩ := hy.sy_inv
    have hlen : us.length = y.cs.length := by rw [hu.len, List.length_map]
    refine ⟨_, (pss_cons ((ps_asg (pv 0) ((pg_tup rfl (pgs_cons ((pg_name (i := 2) nd rfl (Or.inl rfl))) (pgs_cons ((pg_name (i := 3) nd rfl (Or.inl rfl))) pgs_nil)))))) (pss_cons ((ps_set (i := 4) nd rfl (Or.inl rfl) ((pe_ix ix_tup (pv 1) (pe_int) (fun _ _ => rfl))))) (pss_cons ((ps_if ((pt_cmpR (op_eq) (pv 4) (pe_str) (nomark _))) ((pss_cons ((ps_if ((pt_cmpR (op_ge) ((pe_ix ix_tup ((pe_ix ix_tup (pv 1) (pe_int) (fun _ _ => rfl))) (pe_int) (fun _ _ => rfl))) (pv 2) (nomark _))) ((pss_one ((ps_ret ((pe_tup (pa_cons (pv 0) (pa_cons (pe_non) (pa_cons (pe_str) pa_nil))))))))) (pss_nil))) (pss_cons ((ps_if ((pt_cmpR (op_eq) ((pe_callB call_len_seq rfl T.z_len boot_len (pa_cons (pv 3) pa_nil))) (pe_int) (nomark _))) ((pss_one ((ps_ret ((pe_tup (pa_cons (pv 0) (pa_cons (pe_non) (pa_cons (pe_str) pa_nil))))))))) (pss_nil))) (pss_one ((ps_ret ((pe_tup (pa_cons ((pe_tup (pa_cons (pv 2) (pa_cons ((pe_op (op_catS) (pv 3) ((pe_tup (pa_cons ((pe_ix ix_tup (pv 1) (pe_int) (fun _ _ => rfl))) pa_nil))))) pa_nil)))) (pa_cons ((pe_callB call_len_seq rfl T.z_len boot_len (pa_cons (pv 3) pa_nil))) (pa_cons (pe_non) pa_nil))))))))))) (pss_nil))) (pss_cons ((ps_if ((pt_cmpR (op_eq) (pv 4) (pe_str) (nomark _))) ((pss_one ((ps_ret (pe_ifExp (pt_cmpR (op_lt) (pv 2) (pe_int) (nomark _)) (pe_tup (pa_cons ((pe_tup (pa_cons ((pe_op (op_add) (pv 2) (pe_int))) (pa_cons (pv 3) pa_nil)))) (pa_cons (pv 2) (pa_cons (pe_non) pa_nil)))) (pe_tup (pa_cons (pv 0) (pa_cons (pe_non) (pa_cons (pe_str) pa_nil))))))))) (pss_nil))) (pss_cons ((ps_if ((pt_cmpR (op_eq) (pv 4) (pe_str) (nomark _))) ((pss_one ((ps_ret ((pe_f G1 (hr) (pass0) (pa_cons (pv 0) (pa_cons ((pe_ix ix_tup (pv 1) (pe_int) (fun _ _ => rfl))) pa_nil)))))))) (pss_nil))) (pss_cons ((ps_set (i := 5) nd rfl (Or.inl rfl) ((pe_ix ix_tup (pv 1) (pe_int) (fun _ _ => rfl))))) (pss_cons ((ps_if ((pt_cmpR (op_ge) (pv 5) ((pe_callB call_len_seq rfl T.z_len boot_len (pa_cons (pv 3) pa_nil))) (nomark _))) ((pss_one ((ps_ret ((pe_tup (pa_cons (pv 0) (pa_cons (pe_non) (pa_cons (pe_str) pa_nil))))))))) (pss_nil))) (pss_cons ((ps_if ((pt_cmpR (op_eq) (pv 4) (pe_str) (nomark _))) ((pss_one ((ps_ret ((pe_tup (pa_cons ((pe_tup (pa_cons (pv 2) (pa_cons ((pe_op (op_catS) ((pe_slice sl_tupS (pv 3) po_none (po_some (pv 5)))) ((pe_slice sl_tupS (pv 3) (po_some ((pe_op (op_add) (pv 5) (pe_int)))) po_none)))) pa_nil)))) (pa_cons ((pe_ix ix_tup (pv 3) (pv 5) (fun _ _ => rfl))) (pa_cons (pe_non) pa_nil))))))))) (pss_nil))) (pss_cons ((ps_set (i := 6) nd rfl (Or.inl rfl) ((pe_ix ix_tup (pv 3) (pv 5) (fun _ _ => rfl))))) (pss_cons ((ps_if ((pt_cmpR (op_eq) (pv 4) (pe_str) (nomark _))) ((pss_cons ((ps_if ((pt_cmpR (op_inT hr.units) ((pe_ix ix_tup (pv 1) (pe_int) (fun _ _ => rfl))) ((pe_tup (pa_cons ((pe_tup (pa_cons (pe_int) (pa_cons (pe_int) pa_nil)))) (pa_cons (pe_tup pa_nil) pa_nil)))) (by rfl))) ((pss_one ((ps_ret ((pe_tup (pa_cons (pv 0) (pa_cons (pe_non) (pa_cons (pe_str) pa_nil))))))))) (pss_nil))) (pss_one (ps_par (i := 7) (j := 8) rfl nd rfl rfl (by decide) rfl rfl (pa_cons ((pe_op (op_catS) ((pe_op (op_catS) ((pe_slice sl_tupS (pv 6) po_none (po_some (pe_int)))) ((pe_tup (pa_cons ((pe_ix ix_tup (pv 1) (pe_int) (fun _ _ => rfl))) pa_nil))))) ((pe_slice sl_tupS (pv 6) (po_some (pe_int)) po_none)))) (pa_cons ((pe_ix ix_tup (pv 6) (pe_int) (fun _ _ => rfl))) pa_nil)) (by rfl))))) ((pss_cons ((ps_if ((pt_cmpR (op_gt) ((pe_ix ix_tup (pv 1) (pe_int) (fun _ _ => rfl))) ((pe_ix ix_tup (pv 1) (pe_int) (fun _ _ => rfl))) (nomark _))) ((pss_one ((ps_ret ((pe_tup (pa_cons (pv 0) (pa_cons (pe_non) (pa_cons (pe_str) pa_nil))))))))) (pss_nil))) (pss_one (ps_par (i := 7) (j := 8) rfl nd rfl rfl (by decide) rfl rfl (pa_cons ((pe_op (op_catS) ((pe_slice sl_tupS (pv 6) po_none (po_some (pe_int)))) ((pe_tup (pa_cons ((pe_ix ix_tup (pv 1) (pe_int) (fun _ _ => rfl))) (pa_cons ((pe_ix ix_tup (pv 1) (pe_int) (fun _ _ => rfl))) pa_nil)))))) (pa_cons ((pe_slice sl_tupS (pv 6) (po_some (pe_int)) po_none)) pa_nil)) (by rfl))))))) (pss_one ((ps_ret ((pe_tup (pa_cons ((pe_tup (pa_cons (pv 2) (pa_cons ((pe_op (op_catS) ((pe_op (op_catS) ((pe_slice sl_tupS (pv 3) po_none (po_some (pv 5)))) ((pe_tup (pa_cons (pv 7) pa_nil))))) ((pe_slice sl_tupS (pv 3) (po_some ((pe_op (op_add) (pv 5) (pe_int)))) po_none)))) pa_nil)))) (pa_cons (pv 8) (pa_cons (pe_non) pa_nil)))))))))))))))))), ?_⟩
    refine ⟨_, rfl, a, _, rfl, SqT.of ha, rfl, _, _, rfl, _, _, rfl, rfl, ?_⟩
    have badr : ∀ (z : Str), step y d = bad y z → ∀ H1, Same H H1 → ∀ t, H1 t = none → Q (.ref t) (upd H1 t (.tup [.ref a, .non, .str z])) := by
      intro z e H1 s1 t ht
      refine q _ _ (s1.trans (Same.new ht)) ?_
      rw [e]
      exact .tup upd_same (.cons (hy.mono (s1.trans (Same.new ht)).tle) (.cons .non (.cons (.str _) .nil)))
    cases d with
    | addC c =>
      obtain ⟨p, xs, rfl, hp, g⟩ := hd.tup_inv
      obtain ⟨w1, r1, rfl, e1, g⟩ := g.cons_inv
      obtain ⟨w2, r2, rfl, e2, g⟩ := g.cons_inv
      obtain rfl := g.nil_inv
      obtain rfl := e1.str_inv
      obtain ⟨cp, co, rfl, hcp, hco⟩ := e2.cl_inv
      refine ⟨_, rfl, p, _, _, _, rfl, rfl, SqT.of hp, rfl, _, rfl, rfl, _, rfl, ?_⟩
      rw [sT]
      refine iteT ⟨_, rfl, p, _, _, _, rfl, rfl, SqT.of hp, rfl, cp, _, _, _, rfl, rfl, SqT.of hcp, rfl, _, rfl, _, _, rfl, rfl, _, rfl, ?_⟩
      by_cases c1 : c.t ≥ y.n
      · rw [decide_eq_true c1]
        exact iteT ⟨_, rfl, by show 3 ≤ sizeLine; decide, badr _ (by rw [step_addC, if_pos c1]) H (Same.refl _)⟩
      · rw [decide_eq_false c1]
        refine iteF ⟨_, rfl, b, _, rfl, .inr (SqT.of hb), rfl, _, rfl, ?_⟩
        rw [hlen]
        by_cases c2 : y.cs.length = 20
        · rw [decide_eq_true (by rw [c2]; rfl)]
          exact iteT ⟨_, rfl, by show 3 ≤ sizeLine; decide, badr _ (by rw [step_addC, if_neg c1, if_pos c2]) H (Same.refl _)⟩
        · rw [decide_eq_false (by intro z; have := V.int.inj z; omega)]
          refine iteF ⟨_, rfl, _, rfl, _, rfl, p, _, _, _, rfl, rfl, SqT.of hp, rfl, by show 1 ≤ sizeLine; decide, fun t1 ht1 => ?_⟩
          refine ⟨b, t1, us, [.ref cp], rfl, rfl, upd_ne' ht1 hb, upd_same, by rw [hlen]; exact Nat.le_trans (Nat.succ_le_succ o3) (by decide), fun t2 H2 s2 ht2 => ?_⟩
          have s12 := (Same.new (o := HO.tup [.ref cp]) ht1).trans s2
          refine ⟨by show 2 ≤ sizeLine; decide, fun t3 ht3 => ?_⟩
          have s3 := s12.trans (Same.new (o := HO.tup [.int y.n, .ref t2]) ht3)
          refine ⟨_, rfl, b, _, rfl, .inr (SqT.of (s3 _ _ hb)), by show 3 ≤ sizeLine; decide, fun t4 ht4 => ?_⟩
          have s4 := s3.trans (Same.new (o := HO.tup [.ref t3, .int (us.length : Nat), .non]) ht4)
          refine q _ _ s4 ?_
          rw [step_addC, if_neg c1, if_neg c2]
          refine .tup upd_same (.cons (Td.mono (Same.new ht4).tle (Td.sy_mk (s := ⟨y.n, y.cs ++ [c]⟩) upd_same (upd_ne' ht3 ht2) ?_)) (.cons ?_ (.cons .non .nil)))
          · rw [List.map_append]
            exact TdAll.append (hu.mono s3.tle) (.cons (e2.mono s3.tle) .nil)
          · rw [hlen]
            exact .int _
    | addS =>
      obtain ⟨p, xs, rfl, hp, g⟩ := hd.tup_inv
      obtain ⟨w1, r1, rfl, e1, g⟩ := g.cons_inv
      obtain rfl := g.nil_inv
      obtain rfl := e1.str_inv
      refine ⟨_, rfl, p, _, _, _, rfl, rfl, SqT.of hp, rfl, _, rfl, rfl, _, rfl, ?_⟩
      rw [sF (a := "add_service") (b := "add_call") (by decide +kernel)]
      refine iteF ⟨_, rfl, rfl, _, rfl, ?_⟩
      rw [sT]
      refine iteT ⟨_, rfl, _, _, rfl, rfl, _, rfl, ?_⟩
      by_cases c1 : y.n < 8
      · rw [decide_eq_true c1]
        refine iteT ⟨_, rfl, _, _, rfl, rfl, _, rfl, by show 2 ≤ sizeLine; decide, fun t1 ht1 => ⟨_, rfl, by show 3 ≤ sizeLine; decide, fun t2 ht2 => ?_⟩⟩
        have s1 := (Same.new (o := HO.tup [.int (y.n + 1), .ref b]) ht1)
        refine q _ _ (s1.trans (Same.new ht2)) ?_
        rw [step_addS, if_pos c1]
        exact .tup upd_same (.cons (Td.mono (Same.new ht2).tle (Td.sy_mk (s := ⟨y.n + 1, y.cs⟩) upd_same (upd_ne' ht1 hb) (hu.mono s1.tle))) (.cons (.int _) (.cons .non .nil)))
      · rw [decide_eq_false c1]
        exact iteF ⟨_, rfl, by show 3 ≤ sizeLine; decide, badr _ (by rw [step_addS, if_neg c1]) H (Same.refl _)⟩
    | remS k =>
      obtain ⟨p, xs, rfl, hp, g⟩ := hd.tup_inv
      obtain ⟨w1, r1, rfl, e1, g⟩ := g.cons_inv
      obtain ⟨w2, r2, rfl, e2, g⟩ := g.cons_inv
      obtain rfl := g.nil_inv
      obtain rfl := e1.str_inv
      obtain rfl := e2.int_inv
      refine ⟨_, rfl, p, _, _, _, rfl, rfl, SqT.of hp, rfl, _, rfl, rfl, _, rfl, ?_⟩
      rw [sF (a := "remove_service") (b := "add_call") (by decide +kernel)]
      refine iteF ⟨_, rfl, rfl, _, rfl, ?_⟩
      rw [sF (a := "remove_service") (b := "add_service") (by decide +kernel)]
      refine iteF ⟨_, rfl, rfl, _, rfl, ?_⟩
      rw [sT]
      exact iteT ⟨_, rfl, _, rfl, p, _, _, _, rfl, rfl, SqT.of hp, rfl, .ref a, y, k, rfl, hy, SO, q⟩
    | remC k =>
      obtain ⟨p, xs, rfl, hp, g⟩ := hd.tup_inv
      obtain ⟨w1, r1, rfl, e1, g⟩ := g.cons_inv
      obtain ⟨w2, r2, rfl, e2, g⟩ := g.cons_inv
      obtain rfl := g.nil_inv
      obtain rfl := e1.str_inv
      obtain rfl := e2.int_inv
      refine ⟨_, rfl, p, _, _, _, rfl, rfl, SqT.of hp, rfl, _, rfl, rfl, _, rfl, ?_⟩
      rw [sF (a := "remove_call") (b := "add_call") (by decide +kernel)]
      refine iteF ⟨_, rfl, rfl, _, rfl, ?_⟩
      rw [sF (a := "remove_call") (b := "add_service") (by decide +kernel)]
      refine iteF ⟨_, rfl, rfl, _, rfl, ?_⟩
      rw [sF (a := "remove_call") (b := "remove_service") (by decide +kernel)]
      refine iteF ⟨_, rfl, p, _, _, _, rfl, rfl, SqT.of hp, rfl, ?_⟩
      refine ⟨_, rfl, _, rfl, b, _, rfl, .inr (SqT.of hb), _, _, rfl, rfl, _, rfl, ?_⟩
      rw [hlen]
      cases ec : y.cs[k]? with
      | none =>
        have hk : y.cs.length ≤ k := List.getElem?_eq_none_iff.mp ec
        rw [decide_eq_true (by omega)]
        exact iteT ⟨_, rfl, by show 3 ≤ sizeLine; decide, badr _ (by rw [step_remC, ec]) H (Same.refl _)⟩
      | some c =>
        have hk : k < y.cs.length := (List.getElem?_eq_some_iff.mp ec).1
        rw [decide_eq_false (by omega)]
        refine iteF ⟨_, rfl, rfl, _, rfl, ?_⟩
        rw [sT]
        obtain ⟨vc, hvc, tc⟩ := hu.getD (i := k) (d := clD c) (by rw [List.getElem?_map, ec]; rfl)
        refine iteT ⟨_, rfl, _, rfl, _, rfl, _, rfl, b, us, rfl, hb, fun t1 H1 s1 ht1 => ?_⟩
        rw [cutV_to] at ht1
        refine ⟨_, rfl, _, rfl, _, _, rfl, rfl, _, rfl, b, us, rfl, s1 _ _ hb, fun t2 H2 s2 ht2 => ?_⟩
        rw [show ((k : Int) + 1) = ((k + 1 : Nat) : Int) by omega, cutV_from] at ht2
        refine ⟨t1, t2, _, _, rfl, rfl, s2 _ _ ht1, ht2, ?_, fun t3 H3 s3 ht3 => ?_⟩
        · rw [List.length_take, List.length_drop]
          exact Nat.le_trans (show min k us.length + (us.length - (k + 1)) ≤ 40 by omega) (by decide)
        refine ⟨by show 2 ≤ sizeLine; decide, fun t4 ht4 => ?_⟩
        have s4 := ((s1.trans s2).trans s3).trans (Same.new (o := HO.tup [.int y.n, .ref t3]) ht4)
        refine ⟨_, rfl, _, rfl, b, _, _, _, rfl, rfl, SqT.of (s4 _ _ hb), atI_nat hvc, ?_⟩
        refine ⟨by show 3 ≤ sizeLine; decide, fun t5 ht5 => ?_⟩
        refine q _ _ (s4.trans (Same.new ht5)) ?_
        rw [step_remC, ec]
        refine .tup upd_same (.cons (Td.mono (Same.new ht5).tle (Td.sy_mk (s := ⟨y.n, y.cs.take k ++ y.cs.drop (k + 1)⟩) upd_same (upd_ne' ht4 ht3) ?_)) (.cons ((tc.mono s4.tle).mono (Same.new ht5).tle) (.cons .non .nil)))
        rw [List.map_append, List.map_take, List.map_drop]
        exact (TdAll.append (hu.take k) (hu.drop (k + 1))).mono s4.tle
    | setO k os =>
      obtain ⟨p, xs, rfl, hp, g⟩ := hd.tup_inv
      obtain ⟨w1, r1, rfl, e1, g⟩ := g.cons_inv
      obtain ⟨w2, r2, rfl, e2, g⟩ := g.cons_inv
      obtain ⟨w3, r3, rfl, e3, g⟩ := g.cons_inv
      obtain rfl := g.nil_inv
      obtain rfl := e1.str_inv
      obtain rfl := e2.int_inv
      refine ⟨_, rfl, p, _, _, _, rfl, rfl, SqT.of hp, rfl, _, rfl, rfl, _, rfl, ?_⟩
      rw [sF (a := "set_offsets") (b := "add_call") (by decide +kernel)]
      refine iteF ⟨_, rfl, rfl, _, rfl, ?_⟩
      rw [sF (a := "set_offsets") (b := "add_service") (by decide +kernel)]
      refine iteF ⟨_, rfl, rfl, _, rfl, ?_⟩
      rw [sF (a := "set_offsets") (b := "remove_service") (by decide +kernel)]
      refine iteF ⟨_, rfl, p, _, _, _, rfl, rfl, SqT.of hp, rfl, ?_⟩
      refine ⟨_, rfl, _, rfl, b, _, rfl, .inr (SqT.of hb), _, _, rfl, rfl, _, rfl, ?_⟩
      rw [hlen]
      cases ec : y.cs[k]? with
      | none =>
        have hk : y.cs.length ≤ k := List.getElem?_eq_none_iff.mp ec
        rw [decide_eq_true (by omega)]
        exact iteT ⟨_, rfl, by show 3 ≤ sizeLine; decide, badr _ (by rw [step_setO, ec]) H (Same.refl _)⟩
      | some c =>
        have hk : k < y.cs.length := (List.getElem?_eq_some_iff.mp ec).1
        rw [decide_eq_false (by omega)]
        refine iteF ⟨_, rfl, rfl, _, rfl, ?_⟩
        rw [sF (a := "set_offsets") (b := "remove_call") (by decide +kernel)]
        obtain ⟨vc, hvc, tc⟩ := hu.getD (i := k) (d := clD c) (by rw [List.getElem?_map, ec]; rfl)
        refine iteF ⟨_, rfl, _, rfl, b, _, _, _, rfl, rfl, SqT.of hb, atI_nat hvc, ?_⟩
        refine ⟨_, rfl, rfl, _, rfl, ?_⟩
        rw [sT]
        obtain ⟨cp, co, rfl, hcp, hco⟩ := tc.cl_inv
        refine iteT ⟨_, rfl, p, _, _, _, rfl, rfl, SqT.of hp, rfl, by show 2 ≤ sizeLine; decide, fun t1 ht1 => ⟨Nat.zero_le _, fun t2 ht2 => ⟨by show 2 ≤ sizeLine; decide, fun t3 ht3 => ?_⟩⟩⟩
        have s3 : Same H (upd (upd (upd H t1 (.tup [.int 4, .int 1])) t2 (.tup [])) t3 (.tup [.ref t1, .ref t2])) := ((Same.new ht1).trans (Same.new ht2)).trans (Same.new ht3)
        have g1 := upd_ne' (o := HO.tup [.ref t1, .ref t2]) ht3 (upd_ne' (o := HO.tup []) ht2 (upd_same (H := H) (a := t1) (o := HO.tup [.int 4, .int 1])))
        have g2 := upd_ne' (o := HO.tup [.ref t1, .ref t2]) ht3 (upd_same (H := upd H t1 (.tup [.int 4, .int 1])) (a := t2) (o := HO.tup []))
        refine ⟨intsD os, [intsD [4, 1], intsD []], 2, e3.mono s3.tle, .tup upd_same (.cons (.tup g1 (TdAll.of_ints [4, 1])) (.cons (.tup g2 (TdAll.of_ints [])) .nil)), (Pl.ints os).mono (by decide), Pl.tup (n := 1) (fun d hd => by
          simp only [List.mem_cons, List.not_mem_nil, or_false] at hd
          rcases hd with rfl | rfl <;> exact Pl.ints _), _, rfl, ?_⟩
        have ein : ([intsD [4, 1], intsD []].any fun z => PyData.eqv z (intsD os)) = decide (os = [4, 1] ∨ os = []) := by
          obtain ⟨_, rfl | rfl | rfl | rfl⟩ := DO <;> decide
        rw [ein]
        by_cases cb : os = [4, 1] ∨ os = []
        · rw [decide_eq_true cb]
          exact iteT ⟨_, rfl, by show 3 ≤ sizeLine; decide, badr _ (by rw [step_setO, ec]; exact if_pos cb) _ s3⟩
        · rw [decide_eq_false cb]
          revert s3
          generalize upd (upd (upd H t1 (.tup [.int 4, .int 1])) t2 (.tup [])) t3 (.tup [.ref t1, .ref t2]) = H3
          intro s3
          refine iteF ⟨_, rfl, 2, rfl, cp, _, rfl, s3 _ _ hcp, fun t4 H4 s4 ht4 => ?_⟩
          rw [clD_cut2] at ht4
          refine ⟨_, rfl, p, _, _, _, rfl, rfl, SqT.of (s4 _ _ (s3 _ _ hp)), rfl, by show 1 ≤ sizeLine; decide, fun t5 ht5 => ?_⟩
          refine ⟨t4, t5, _, _, rfl, rfl, upd_ne' ht5 ht4, upd_same, by show 3 ≤ sizeLine; decide, fun t6 H6 s6 ht6 => ?_⟩
          have s56 := (s3.trans s4).trans ((Same.new (o := HO.tup [w3]) ht5).trans s6)
          refine ⟨_, rfl, 3, rfl, cp, _, rfl, s56 _ _ hcp, fun t7 H7 s7 ht7 => ?_⟩
          rw [clD_from3] at ht7
          refine ⟨t6, t7, _, _, rfl, rfl, s7 _ _ ht6, ht7, by show 5 ≤ sizeLine; decide, fun t8 H8 s8 ht8 => ?_⟩
          have s38 := (s56.trans s7).trans s8
          refine ⟨_, rfl, cp, _, _, _, rfl, rfl, SqT.of (s38 _ _ hcp), rfl, _, _, rfl, ?_⟩
          have tnew : Td H8 (.ref t8) (clD ⟨c.c, c.t, os, c.l, c.m⟩) := by
            obtain ⟨wo, rfl, hwo⟩ := e3.ints_inv
            exact Td.cl_mk (x := ⟨c.c, c.t, os, c.l, c.m⟩) ht8 (s38 _ _ hwo)
          refine ⟨_, rfl, _, rfl, _, rfl, _, rfl, b, us, rfl, s38 _ _ hb, fun u1 K1 z1 hu1 => ?_⟩
          rw [cutV_to] at hu1
          refine ⟨_, rfl, by show 1 ≤ sizeLine; decide, fun u2 hu2 => ?_⟩
          have z2 := z1.trans (Same.new (o := HO.tup [.ref t8]) hu2)
          refine ⟨u1, u2, _, _, rfl, rfl, upd_ne' hu2 hu1, upd_same, ?_, fun u3 K3 z3 hu3 => ?_⟩
          · rw [List.length_take]
            exact Nat.le_trans (show min k us.length + 1 ≤ 40 by omega) (by decide)
          refine ⟨_, rfl, _, rfl, _, _, rfl, rfl, _, rfl, b, us, rfl, z3 _ _ (z2 _ _ (s38 _ _ hb)), fun u4 K4 z4 hu4 => ?_⟩
          rw [show ((k : Int) + 1) = ((k + 1 : Nat) : Int) by omega, cutV_from] at hu4
          refine ⟨u3, u4, _, _, rfl, rfl, z4 _ _ hu3, hu4, ?_, fun u5 K5 z5 hu5 => ?_⟩
          · rw [List.length_append, List.length_take, List.length_drop]
            exact Nat.le_trans (show min k us.length + 1 + (us.length - (k + 1)) ≤ 40 by omega) (by decide)
          refine ⟨by show 2 ≤ sizeLine; decide, fun u6 hu6 => ?_⟩
          refine ⟨_, rfl, by show 3 ≤ sizeLine; decide, fun u7 hu7 => ?_⟩
          have zz := ((z2.trans z3).trans z4).trans (z5.trans (Same.new (o := HO.tup [.int y.n, .ref u5]) hu6))
          refine q _ _ ((s38.trans zz).trans (Same.new hu7)) ?_
          rw [step_setO, ec]; dsimp only; rw [if_neg cb]
          refine .tup upd_same (.cons (Td.mono (Same.new hu7).tle (Td.sy_mk (s := putC y k ⟨c.c, c.t, os, c.l, c.m⟩) upd_same (upd_ne' hu6 hu5) ?_)) (.cons (Td.mono (Same.new hu7).tle (Td.mono zz.tle (d := _) (v := (.ref co)) (.tup (s38 _ _ hco) (TdAll.of_ints c.o)))) (.cons .non .nil)))
          show TdAll _ _ ((y.cs.take k ++ [(⟨c.c, c.t, os, c.l, c.m⟩ : Cl)] ++ y.cs.drop (k + 1)).map clD)
          rw [List.map_append, List.map_append, List.map_take, List.map_drop]
          exact (TdAll.append (TdAll.append ((hu.mono s38.tle).take k) (.cons tnew .nil)) ((hu.mono s38.tle).drop (k + 1))).mono zz.tle
    | setD k l m =>
      obtain ⟨p, xs, rfl, hp, g⟩ := hd.tup_inv
      obtain ⟨w1, r1, rfl, e1, g⟩ := g.cons_inv
      obtain ⟨w2, r2, rfl, e2, g⟩ := g.cons_inv
      obtain ⟨w3, r3, rfl, e3, g⟩ := g.cons_inv
      obtain ⟨w4, r4, rfl, e4, g⟩ := g.cons_inv
      obtain rfl := g.nil_inv
      obtain rfl := e1.str_inv
      obtain rfl := e2.int_inv
      obtain rfl := e3.int_inv
      obtain rfl := e4.int_inv
      refine ⟨_, rfl, p, _, _, _, rfl, rfl, SqT.of hp, rfl, _, rfl, rfl, _, rfl, ?_⟩
      rw [sF (a := "set_delays") (b := "add_call") (by decide +kernel)]
      refine iteF ⟨_, rfl, rfl, _, rfl, ?_⟩
      rw [sF (a := "set_delays") (b := "add_service") (by decide +kernel)]
      refine iteF ⟨_, rfl, rfl, _, rfl, ?_⟩
      rw [sF (a := "set_delays") (b := "remove_service") (by decide +kernel)]
      refine iteF ⟨_, rfl, p, _, _, _, rfl, rfl, SqT.of hp, rfl, ?_⟩
      refine ⟨_, rfl, _, rfl, b, _, rfl, .inr (SqT.of hb), _, _, rfl, rfl, _, rfl, ?_⟩
      rw [hlen]
      cases ec : y.cs[k]? with
      | none =>
        have hk : y.cs.length ≤ k := List.getElem?_eq_none_iff.mp ec
        rw [decide_eq_true (by omega)]
        exact iteT ⟨_, rfl, by show 3 ≤ sizeLine; decide, badr _ (by rw [step_setD, ec]) H (Same.refl _)⟩
      | some c =>
        have hk : k < y.cs.length := (List.getElem?_eq_some_iff.mp ec).1
        rw [decide_eq_false (by omega)]
        refine iteF ⟨_, rfl, rfl, _, rfl, ?_⟩
        rw [sF (a := "set_delays") (b := "remove_call") (by decide +kernel)]
        obtain ⟨vc, hvc, tc⟩ := hu.getD (i := k) (d := clD c) (by rw [List.getElem?_map, ec]; rfl)
        refine iteF ⟨_, rfl, _, rfl, b, _, _, _, rfl, rfl, SqT.of hb, atI_nat hvc, ?_⟩
        refine ⟨_, rfl, rfl, _, rfl, ?_⟩
        rw [sF (a := "set_delays") (b := "set_offsets") (by decide +kernel)]
        obtain ⟨cp, co, rfl, hcp, hco⟩ := tc.cl_inv
        refine iteF ⟨_, rfl, p, _, _, _, rfl, rfl, SqT.of hp, rfl, _, rfl, p, _, _, _, rfl, rfl, SqT.of hp, rfl, _, _, rfl, rfl, _, rfl, ?_⟩
        by_cases cb : l > m
        · rw [decide_eq_true cb]
          exact iteT ⟨_, rfl, by show 3 ≤ sizeLine; decide, badr _ (by rw [step_setD, ec]; exact if_pos cb) _ (Same.refl _)⟩
        · rw [decide_eq_false cb]
          refine iteF ⟨_, rfl, 3, rfl, cp, _, rfl, hcp, fun t4 H4 s4 ht4 => ?_⟩
          rw [clD_cut3] at ht4
          refine ⟨_, rfl, p, _, _, _, rfl, rfl, SqT.of (s4 _ _ hp), rfl, _, rfl, p, _, _, _, rfl, rfl, SqT.of (s4 _ _ hp), rfl, by show 2 ≤ sizeLine; decide, fun t5 ht5 => ?_⟩
          refine ⟨t4, t5, _, _, rfl, rfl, upd_ne' ht5 ht4, upd_same, by show 5 ≤ sizeLine; decide, fun t8 H7 s7 ht8 => ?_⟩
          have s57 := s4.trans ((Same.new (o := HO.tup [.int l, .int m]) ht5).trans s7)
          refine ⟨_, rfl, 3, rfl, cp, _, rfl, s57 _ _ hcp, fun t7 H8 s8 ht7 => ?_⟩
          rw [clD_from3] at ht7
          have s38 := s57.trans s8
          refine ⟨_, _, rfl, ?_⟩
          have tnew : Td H8 (.ref t8) (clD ⟨c.c, c.t, c.o, l, m⟩) := Td.cl_mk (x := ⟨c.c, c.t, c.o, l, m⟩) (s8 _ _ ht8) (s38 _ _ hco)
          refine ⟨_, rfl, _, rfl, _, rfl, _, rfl, b, us, rfl, s38 _ _ hb, fun u1 K1 z1 hu1 => ?_⟩
          rw [cutV_to] at hu1
          refine ⟨_, rfl, by show 1 ≤ sizeLine; decide, fun u2 hu2 => ?_⟩
          have z2 := z1.trans (Same.new (o := HO.tup [.ref t8]) hu2)
          refine ⟨u1, u2, _, _, rfl, rfl, upd_ne' hu2 hu1, upd_same, ?_, fun u3 K3 z3 hu3 => ?_⟩
          · rw [List.length_take]
            exact Nat.le_trans (show min k us.length + 1 ≤ 40 by omega) (by decide)
          refine ⟨_, rfl, _, rfl, _, _, rfl, rfl, _, rfl, b, us, rfl, z3 _ _ (z2 _ _ (s38 _ _ hb)), fun u4 K4 z4 hu4 => ?_⟩
          rw [show ((k : Int) + 1) = ((k + 1 : Nat) : Int) by omega, cutV_from] at hu4
          refine ⟨u3, u4, _, _, rfl, rfl, z4 _ _ hu3, hu4, ?_, fun u5 K5 z5 hu5 => ?_⟩
          · rw [List.length_append, List.length_take, List.length_drop]
            exact Nat.le_trans (show min k us.length + 1 + (us.length - (k + 1)) ≤ 40 by omega) (by decide)
          refine ⟨by show 2 ≤ sizeLine; decide, fun u6 hu6 => ?_⟩
          refine ⟨_, rfl, by show 3 ≤ sizeLine; decide, fun u7 hu7 => ?_⟩
          have zz := ((z2.trans z3).trans z4).trans (z5.trans (Same.new (o := HO.tup [.int y.n, .ref u5]) hu6))
          refine q _ _ ((s38.trans zz).trans (Same.new hu7)) ?_
          rw [step_setD, ec]; dsimp only; rw [if_neg cb]
          refine .tup upd_same (.cons (Td.mono (Same.new hu7).tle (Td.sy_mk (s := putC y k ⟨c.c, c.t, c.o, l, m⟩) upd_same (upd_ne' hu6 hu5) ?_)) (.cons (Td.mono (Same.new hu7).tle (Td.mono zz.tle (d := _) (v := (.ref t7)) (.tup ht7 (.cons (.int _) (.cons (.int _) .nil))))) (.cons .non .nil)))
          show TdAll _ _ ((y.cs.take k ++ [(⟨c.c, c.t, c.o, l, m⟩ : Cl)] ++ y.cs.drop (k + 1)).map clD)
          rw [List.map_append, List.map_append, List.map_take, List.map_drop]
          exact (TdAll.append (TdAll.append ((hu.mono s38.tle).take k) (.cons tnew .nil)) ((hu.mono s38.tle).drop (k + 1))).mono zz.tle
end
end K68
end
section
set_option Elab.async false
set_option linter.all false
set_option maxRecDepth 100000
set_option maxHeartbeats 2000000
namespace K68
open PySem PySem.Spec PyProof.Rows L2
/-! ### the editor: the mirror, and how it stands in the heap -/
structure Ent where
  d : Deed
  b : Sys
  a : Sys
def entD (e : Ent) : PyData := .tuple [deedD e.d, syD e.b, syD e.a]
/-- a checkpoint: what it holds, and where its two lists stand -/
structure Sv where
  pr : Sys
  dn : List Ent
  un : List Ent
  m1 : Addr
  m2 : Addr
structure Ed where
  pr : Sys
  dn : List Ent
  un : List Ent
  sv : Option Sv
def edF (v : V) (l1 l2 sd : Addr) (ap : Bool) : List (Str × V) := [("present", v), ("done", .ref l1), ("undone", .ref l2), ("saved", .ref sd), ("is_applying", .bl ap)]
section
variable {v u : V} {l1 l2 sd l : Addr} {ap b : Bool}
theorem ef_present : (edF v l1 l2 sd ap).lookup ("present" : Str) = some v := lk_here
theorem ef_done : (edF v l1 l2 sd ap).lookup ("done" : Str) = some (.ref l1) := (lk_past (by decide +kernel)).trans lk_here
theorem ef_undone : (edF v l1 l2 sd ap).lookup ("undone" : Str) = some (.ref l2) := (lk_past (by decide +kernel)).trans ((lk_past (by decide +kernel)).trans lk_here)
theorem ef_saved : (edF v l1 l2 sd ap).lookup ("saved" : Str) = some (.ref sd) := (lk_past (by decide +kernel)).trans ((lk_past (by decide +kernel)).trans ((lk_past (by decide +kernel)).trans lk_here))
theorem ef_no {m : Str} (h1 : (m == ("present" : Str)) = false) (h2 : (m == ("done" : Str)) = false) (h3 : (m == ("undone" : Str)) = false) (h4 : (m == ("saved" : Str)) = false) (h5 : (m == ("is_applying" : Str)) = false) : (edF v l1 l2 sd ap).lookup m = none :=
  (lk_past h1).trans ((lk_past h2).trans ((lk_past h3).trans ((lk_past h4).trans ((lk_past h5).trans rfl))))
theorem eput_present : putF "present" u (edF v l1 l2 sd ap) = edF u l1 l2 sd ap := put_here
theorem eput_done : putF "done" (.ref l) (edF v l1 l2 sd ap) = edF v l l2 sd ap := (put_past (by decide +kernel)).trans (congrArg _ put_here)
theorem eput_undone : putF "undone" (.ref l) (edF v l1 l2 sd ap) = edF v l1 l sd ap := (put_past (by decide +kernel)).trans (congrArg _ ((put_past (by decide +kernel)).trans (congrArg _ put_here)))
theorem eput_app : putF "is_applying" (.bl b) (edF v l1 l2 sd ap) = edF v l1 l2 sd b := (put_past (by decide +kernel)).trans (congrArg _ ((put_past (by decide +kernel)).trans (congrArg _ ((put_past (by decide +kernel)).trans (congrArg _ ((put_past (by decide +kernel)).trans (congrArg _ put_here)))))))
end
/-- what is saved: nothing, or one checkpoint, whose lists nobody else has -/
def SvAt (H : Hp) (own : List Addr) (kvs : List (L2.Key × V)) : Option Sv → Prop
  | none => kvs = []
  | some q => ∃ (t : Addr) (v : V) (w1 w2 : List V), kvs = [((Sum.inr ("all" : Str) : L2.Key), V.ref t)] ∧ H t = some (.tup [v, .ref q.m1, .ref q.m2]) ∧ Td H v (syD q.pr) ∧ H q.m1 = some (.lst w1) ∧ TdAll H w1 (q.dn.map entD) ∧ H q.m2 = some (.lst w2) ∧ TdAll H w2 (q.un.map entD) ∧ q.m1 ∉ own ∧ q.m2 ∉ own
structure EdI (K : PySem.W.Frag) (H : Hp) (p dx : Addr) (v : V) (l1 l2 sd : Addr) (ap : Bool) (us1 us2 : List V) (kvs : List (L2.Key × V)) (e : Ed) : Prop where
  ins : H p = some (.ins (aE K) dx (edF v l1 l2 sd ap))
  pr : Td H v (syD e.pr)
  h1 : H l1 = some (.lst us1)
  t1 : TdAll H us1 (e.dn.map entD)
  h2 : H l2 = some (.lst us2)
  t2 : TdAll H us2 (e.un.map entD)
  hs : H sd = some (.dK kvs)
  sv : SvAt H [p, l1, l2, sd] kvs e.sv
  ne : l1 ≠ l2
def EdAt (K : PySem.W.Frag) (H : Hp) (p : Addr) (own : List Addr) (e : Ed) : Prop := ∃ dx v l1 l2 sd ap us1 us2 kvs, own = [p, l1, l2, sd] ∧ EdI K H p dx v l1 l2 sd ap us1 us2 kvs e
/-- what stood and was not the editor's own is as it was, and is not its own now -/
def Fr (own : List Addr) (H : Hp) (own' : List Addr) (H' : Hp) : Prop := ∀ b o, H b = some o → b ∉ own → b ∉ own' ∧ H' b = some o
theorem Fr.refl {own : List Addr} {H : Hp} : Fr own H own H := fun _ _ h n => ⟨n, h⟩
theorem Fr.trans {o1 o2 o3 : List Addr} {H1 H2 H3 : Hp} (f : Fr o1 H1 o2 H2) (g : Fr o2 H2 o3 H3) : Fr o1 H1 o3 H3 := fun b o h n => g b o (f b o h n).2 (f b o h n).1
theorem Fr.same {o1 o2 : List Addr} {H1 H2 H3 : Hp} (f : Fr o1 H1 o2 H2) (g : Same H2 H3) : Fr o1 H1 o2 H3 := fun b o h n => ⟨(f b o h n).1, g _ _ (f b o h n).2⟩
theorem Fr.pre {o1 o2 : List Addr} {H1 H2 H3 : Hp} (g : Same H1 H2) (f : Fr o1 H2 o2 H3) : Fr o1 H1 o2 H3 := fun b o h n => f b o (g _ _ h) n
theorem Fr.of_same {own : List Addr} {H H' : Hp} (s : Same H H') : Fr own H own H' := fun _ _ h n => ⟨n, s _ _ h⟩
theorem SvAt.mono {H H' : Hp} {own own' : List Addr} {kvs : List (L2.Key × V)} {q : Option Sv} (h : SvAt H own kvs q) (t : Tle H H') (l : ∀ b xs, H b = some (.lst xs) → b ∉ own → b ∉ own' ∧ H' b = some (.lst xs)) : SvAt H' own' kvs q := by
  cases q with
  | none => exact h
  | some q =>
    obtain ⟨t0, v, w1, w2, e, a1, a2, a3, a4, a5, a6, a7, a8⟩ := h
    exact ⟨t0, v, w1, w2, e, t _ _ a1, a2.mono t, (l _ _ a3 a7).2, a4.mono t, (l _ _ a5 a8).2, a6.mono t, (l _ _ a3 a7).1, (l _ _ a5 a8).1⟩
section
variable {K : PySem.W.Frag} {H H' : Hp} {p dx : Addr} {v : V} {l1 l2 sd : Addr} {ap : Bool} {us1 us2 : List V} {kvs : List (L2.Key × V)} {e : Ed} {own : List Addr}
theorem EdI.mono (h : EdI K H p dx v l1 l2 sd ap us1 us2 kvs e) (s : Same H H') : EdI K H' p dx v l1 l2 sd ap us1 us2 kvs e :=
  ⟨s _ _ h.ins, h.pr.mono s.tle, s _ _ h.h1, h.t1.mono s.tle, s _ _ h.h2, h.t2.mono s.tle, s _ _ h.hs, h.sv.mono s.tle fun b xs e n => ⟨n, s _ _ e⟩, h.ne⟩
theorem EdAt.mono (h : EdAt K H p own e) (s : Same H H') : EdAt K H' p own e := by
  obtain ⟨dx, v, l1, l2, sd, ap, us1, us2, kvs, eo, i⟩ := h
  exact ⟨dx, v, l1, l2, sd, ap, us1, us2, kvs, eo, i.mono s⟩
/-- tuples stand: none of the editor's own is one -/
theorem EdI.tle (h : EdI K H p dx v l1 l2 sd ap us1 us2 kvs e) {own' : List Addr} (f : Fr [p, l1, l2, sd] H own' H') : Tle H H' := fun b xs q => (f b _ q (by
  simp only [List.mem_cons, List.not_mem_nil, or_false, not_or]
  exact ⟨ne_of q h.ins (by intro z; cases z), ne_of q h.h1 (by intro z; cases z), ne_of q h.h2 (by intro z; cases z), ne_of q h.hs (by intro z; cases z)⟩)).2
theorem EdAt.tle (h : EdAt K H p own e) {own' : List Addr} (f : Fr own H own' H') : Tle H H' := by
  obtain ⟨dx, v, l1, l2, sd, ap, us1, us2, kvs, rfl, i⟩ := h
  exact i.tle f
/-- an object that was just made is not the editor's own -/
theorem EdAt.fresh (h : EdAt K H p own e) {b : Addr} (n : H b = none) : b ∉ own := by
  obtain ⟨dx, v, l1, l2, sd, ap, us1, us2, kvs, rfl, i⟩ := h
  simp only [List.mem_cons, List.not_mem_nil, or_false, not_or]
  exact ⟨(ne_of_none i.ins n).symm, (ne_of_none i.h1 n).symm, (ne_of_none i.h2 n).symm, (ne_of_none i.hs n).symm⟩
/-- a store into what is not the editor's -/
theorem EdAt.off {r : Addr} {o : HO} {xs : List V} (h : EdAt K H p own e) (n : r ∉ own) (hr : H r = some (.lst xs)) (m : ∀ q, e.sv = some q → r ≠ q.m1 ∧ r ≠ q.m2) : EdAt K (upd H r o) p own e := by
  obtain ⟨dx, v, l1, l2, sd, ap, us1, us2, kvs, rfl, i⟩ := h
  simp only [List.mem_cons, List.not_mem_nil, or_false, not_or] at n
  have tl : Tle H (upd H r o) := fun a ys q => by
    rw [upd_ne (ne_of q hr (by intro z; cases z))]
    exact q
  refine ⟨dx, v, l1, l2, sd, ap, us1, us2, kvs, rfl, (upd_ne (Ne.symm n.1)).trans i.ins, i.pr.mono tl, (upd_ne (Ne.symm n.2.1)).trans i.h1, i.t1.mono tl, (upd_ne (Ne.symm n.2.2.1)).trans i.h2, i.t2.mono tl, (upd_ne (Ne.symm n.2.2.2)).trans i.hs, ?_, i.ne⟩
  have sv := i.sv
  cases es : e.sv with
  | none => rw [es] at sv; exact sv
  | some q =>
    rw [es] at sv
    obtain ⟨t0, v0, w1, w2, a0, a1, a2, a3, a4, a5, a6, a7, a8⟩ := sv
    obtain ⟨m1, m2⟩ := m q es
    exact ⟨t0, v0, w1, w2, a0, tl _ _ a1, a2.mono tl, (upd_ne (Ne.symm m1)).trans a3, a4.mono tl, (upd_ne (Ne.symm m2)).trans a5, a6.mono tl, a7, a8⟩
theorem EdAt.svNew (h : EdAt K H p own e) {r : Addr} (n : H r = none) : ∀ q, e.sv = some q → r ≠ q.m1 ∧ r ≠ q.m2 := by
  obtain ⟨dx, v, l1, l2, sd, ap, us1, us2, kvs, rfl, i⟩ := h
  intro q es
  have sv := i.sv
  rw [es] at sv
  obtain ⟨t0, v0, w1, w2, a0, a1, a2, a3, a4, a5, a6, a7, a8⟩ := sv
  exact ⟨(ne_of_none a3 n).symm, (ne_of_none a5 n).symm⟩
theorem Fr.at_ {o1 o2 : List Addr} {H1 H2 : Hp} {r : Addr} {o : HO} (f : Fr o1 H1 o2 H2) (n : H1 r = none) : Fr o1 H1 o2 (upd H2 r o) := fun b x h nb => ⟨(f b x h nb).1, by
  rw [upd_ne (ne_of_none h n)]
  exact (f b x h nb).2⟩
end
section
variable {P : Program} {w : World} {K : PySem.W.Frag} {mg : Str → Option Value} {base : Heap}
/-! ### current_system -/
def sp_current (K : PySem.W.Frag) : Sp := fun vs H Q _ => ∃ (p : Addr) (own : List Addr) (e : Ed), vs = [.ref p] ∧ EdAt K H p own e ∧ ∀ v, Td H v (syD e.pr) → Q v H
abbrev N_Editor_current_system : List Str := ["self"]
theorem sc_Editor_current_system : FnScope N_Editor_current_system ["self"] (defScope s_Editor_current_system) := ⟨rfl, rfl, rfl, by decide +kernel, rfl, by decide +kernel, by decide +kernel⟩
theorem ok_current (T : Tx w K mg) : GM P w K mg base CX0 1 (aE K) (He.ma K (aE K) "current_system") ["self"] (sp_current K) := by
  refine gm0 T.f_Editor_current_system sc_Editor_current_system (fun _ F => F.bindsN fun _ _ _ _ _ _ us hl => match us, hl with | [_], _ => rfl) (fun vs H Q E h => ?_) (fun cdv A outer s H vs Q E hr h => ?_)
  · obtain ⟨p, own, e, rfl, _⟩ := h
    rfl
  · obtain ⟨p, own, e, rfl, ⟨dx, v, l1, l2, sd, ap, us1, us2, kvs, rfl, i⟩, q⟩ := h
    refine ⟨_, (pss_one ((ps_ret (pe_fld (pv 0) rfl)))), ?_⟩
    exact ⟨_, rfl, p, _, _, _, _, rfl, i.ins, T.c_Editor, T.n_present, ef_present, q _ i.pr⟩
/-! ### enter -/
def Ed.enter (e : Ed) (d : Deed) (s : Sys) : Ed := ⟨s, e.dn ++ [⟨d, e.pr, s⟩], [], e.sv⟩
def sp_enter (K : PySem.W.Frag) : Sp := fun vs H Q _ => ∃ (p : Addr) (own : List Addr) (e : Ed) (o v : V) (d : Deed) (s : Sys), vs = [.ref p, o, v] ∧ EdAt K H p own e ∧ Td H o (deedD d) ∧ Td H v (syD s) ∧ e.dn.length < 1000 ∧
  ∀ H' own', Fr own H own' H' → EdAt K H' p own' (e.enter d s) → Q .non H'
abbrev N_Recorder_enter : List Str := ["self", "operation", "present"]
theorem sc_Recorder_enter : FnScope N_Recorder_enter ["self", "operation", "present"] (defScope s_Recorder_enter) := ⟨rfl, rfl, rfl, by decide +kernel, rfl, by decide +kernel, by decide +kernel⟩
theorem ok_enter (T : Tx w K mg) : GM P w K mg base CX0 1 (aE K) (He.ma K (aE K) "enter") ["self", "operation", "present"] (sp_enter K) := by
  refine gm0 T.f_Recorder_enter sc_Recorder_enter (fun _ F => F.bindsN fun _ _ _ _ _ _ us hl => match us, hl with | [_, _, _], _ => rfl) (fun vs H Q E h => ?_) (fun cdv A outer s H vs Q E hr h => ?_)
  · obtain ⟨p, own, e, o, v, d, s, rfl, _⟩ := h
    rfl
  · obtain ⟨p, own, e, o, u, d, y, rfl, ⟨dx, v, l1, l2, sd, ap, us1, us2, kvs, rfl, i⟩, ho, hu, hl, q⟩ := h
    have cE := T.c_Editor
    refine ⟨_, (pss_cons ((ps_expr (pe_bm PySem.F.plainAttrs_list PySem.F.slot_list_append PySem.F.type_list_append mt_append (pe_fld (pv 0) rfl) (pa_cons ((pe_tup (pa_cons (pv 1) (pa_cons (pe_fld (pv 0) rfl) (pa_cons (pv 2) pa_nil))))) pa_nil)))) (pss_cons (ps_fld (pv 0) (pe_lst pa_nil) rfl) (pss_one (ps_fld (pv 0) (pv 2) rfl)))), ?_⟩
    refine ⟨_, rfl, p, _, _, _, _, rfl, i.ins, cE, T.n_done, ef_done, .inl ⟨rfl, _, SqL.of i.h1⟩, ?_⟩
    refine ⟨_, rfl, _, rfl, p, _, _, _, _, rfl, i.ins, cE, T.n_present, ef_present, _, rfl, by show 3 ≤ sizeLine; decide, fun t ht => ?_⟩
    have i1 := i.mono (Same.new (o := HO.tup [o, v, u]) ht)
    have lus : us1.length < 1000 := by rw [i.t1.len, List.length_map]; exact hl
    refine ⟨l1, _, _, rfl, rfl, i1.h1, Nat.lt_trans lus (by decide), ?_⟩
    have np1 : p ≠ l1 := ne_of i.ins i.h1 (by intro z; cases z)
    have np2 : p ≠ l2 := ne_of i.ins i.h2 (by intro z; cases z)
    have nps : p ≠ sd := ne_of i.ins i.hs (by intro z; cases z)
    have ns1 : sd ≠ l1 := ne_of i.hs i.h1 (by intro z; cases z)
    have ns2 : sd ≠ l2 := ne_of i.hs i.h2 (by intro z; cases z)
    refine ⟨Nat.zero_le _, fun m hm => ?_⟩
    have nml : m ≠ l1 := fun z => by rw [z, upd_same] at hm; cases hm
    have hm0 : upd H t (.tup [o, v, u]) m = none := by rw [upd_ne nml] at hm; exact hm
    have npm : p ≠ m := ne_of_none i1.ins hm0
    have nsm : sd ≠ m := ne_of_none i1.hs hm0
    refine ⟨_, rfl, p, _, dx, _, rfl, (upd_ne npm).trans ((upd_ne np1).trans i1.ins), cE, T.n_undone, by show 5 < 1000; decide, ?_⟩
    rw [eput_undone]
    refine ⟨_, rfl, _, rfl, p, _, dx, _, rfl, upd_same, cE, T.n_present, by show 5 < 1000; decide, ?_⟩
    rw [eput_present]
    -- the heap behind it
    have hm1 : H m = none := (Same.new (o := HO.tup [o, v, u]) ht).free hm0
    have fr : Fr [p, l1, l2, sd] H [p, l1, m, sd] (upd (upd (upd (upd (upd H t (.tup [o, v, u])) l1 (.lst (us1 ++ [.ref t]))) m (.lst [])) p (.ins (aE K) dx (edF v l1 m sd ap))) p (.ins (aE K) dx (edF u l1 m sd ap))) := by
      intro b x hb nb
      simp only [List.mem_cons, List.not_mem_nil, or_false, not_or] at nb ⊢
      have nbm := ne_of_none hb hm1
      refine ⟨⟨nb.1, nb.2.1, nbm, nb.2.2.2⟩, ?_⟩
      rw [upd_ne nb.1, upd_ne nb.1, upd_ne nbm, upd_ne nb.2.1]
      exact upd_ne' ht hb
    have tl := i.tle fr
    refine q _ _ fr ⟨dx, u, l1, m, sd, ap, us1 ++ [.ref t], [], kvs, rfl, upd_same, hu.mono tl, ?_, ?_, ?_, .nil, ?_, ?_, nml.symm⟩
    · rw [upd_ne np1.symm, upd_ne np1.symm, upd_ne nml.symm, upd_same]
    · show TdAll _ _ ((e.dn ++ [(⟨d, e.pr, y⟩ : Ent)]).map entD)
      rw [List.map_append]
      refine TdAll.append (i.t1.mono tl) (.cons (.tup ?_ (.cons (ho.mono tl) (.cons (i.pr.mono tl) (.cons (hu.mono tl) .nil)))) .nil)
      have ntl : t ≠ l1 := fun z => by rw [z] at ht; rw [i.h1] at ht; cases ht
      have ntp : t ≠ p := fun z => by rw [z] at ht; rw [i.ins] at ht; cases ht
      have ntm : t ≠ m := fun z => by rw [← z, upd_same] at hm0; cases hm0
      rw [upd_ne ntp, upd_ne ntp, upd_ne ntm, upd_ne ntl, upd_same]
    · rw [upd_ne npm.symm, upd_ne npm.symm, upd_same]
    · rw [upd_ne nps.symm, upd_ne nps.symm, upd_ne nsm, upd_ne ns1]
      exact i1.hs
    · exact i.sv.mono tl fun b xs hb nb => fr b _ hb nb
end
end K68
end
section
set_option Elab.async false
set_option linter.all false
set_option maxRecDepth 100000
set_option maxHeartbeats 2000000
namespace K68
open PySem PySem.Spec PyProof.Rows L2
theorem Pl.str {z : Str} {n : Nat} (h : PyData.canLay0 (.str z) = true) : Pl n (.str z) := ⟨h, Nat.zero_le _⟩
theorem Pl.deed (d : Deed) : Pl 3 (deedD d) := by
  cases d with
  | addC c =>
    exact Pl.tup fun d hd => by
      simp only [List.mem_cons, List.not_mem_nil, or_false] at hd
      rcases hd with rfl | rfl
      · exact Pl.str (by decide +kernel)
      · exact Pl.cl c
  | remC k =>
    exact (Pl.tup (n := 0) fun d hd => by
      simp only [List.mem_cons, List.not_mem_nil, or_false] at hd
      rcases hd with rfl | rfl
      · exact Pl.str (by decide +kernel)
      · exact Pl.int _).mono (by decide)
  | setO k o =>
    exact (Pl.tup (n := 1) fun d hd => by
      simp only [List.mem_cons, List.not_mem_nil, or_false] at hd
      rcases hd with rfl | rfl | rfl
      · exact Pl.str (by decide +kernel)
      · exact Pl.int _
      · exact Pl.ints _).mono (by decide)
  | setD k l m =>
    exact (Pl.tup (n := 0) fun d hd => by
      simp only [List.mem_cons, List.not_mem_nil, or_false] at hd
      rcases hd with rfl | rfl | rfl | rfl
      · exact Pl.str (by decide +kernel)
      · exact Pl.int _
      · exact Pl.int _
      · exact Pl.int _).mono (by decide)
  | addS =>
    exact (Pl.tup (n := 0) fun d hd => by
      simp only [List.mem_cons, List.not_mem_nil, or_false] at hd
      rcases hd with rfl
      exact Pl.str (by decide +kernel)).mono (by decide)
  | remS k =>
    exact (Pl.tup (n := 0) fun d hd => by
      simp only [List.mem_cons, List.not_mem_nil, or_false] at hd
      rcases hd with rfl | rfl
      · exact Pl.str (by decide +kernel)
      · exact Pl.int _).mono (by decide)
theorem Pl.ent (e : Ent) : Pl 5 (entD e) := Pl.tup fun d hd => by
  simp only [List.mem_cons, List.not_mem_nil, or_false] at hd
  rcases hd with rfl | rfl | rfl
  · exact (Pl.deed _).mono (by decide)
  · exact Pl.sy _
  · exact Pl.sy _
theorem Pl.ents (l : List Ent) : Pl 6 (.list (l.map entD)) := Pl.lst fun d hd => by
  obtain ⟨x, _, rfl⟩ := List.mem_map.mp hd
  exact Pl.ent x
theorem Td.ent_inv {H : Hp} {v : V} {x : Ent} (h : Td H v (entD x)) : ∃ t o b a, v = .ref t ∧ H t = some (.tup [o, b, a]) ∧ Td H o (deedD x.d) ∧ Td H b (syD x.b) ∧ Td H a (syD x.a) := by
  obtain ⟨t, xs, rfl, e, g⟩ := Td.tup_inv h
  obtain ⟨v1, r1, rfl, e1, g⟩ := g.cons_inv
  obtain ⟨v2, r2, rfl, e2, g⟩ := g.cons_inv
  obtain ⟨v3, r3, rfl, e3, g⟩ := g.cons_inv
  obtain rfl := g.nil_inv
  exact ⟨t, _, _, _, rfl, e, e1, e2, e3⟩
theorem TdAll.dropLast {H : Hp} {vs : List V} {ds : List PyData} (h : TdAll H vs ds) : TdAll H vs.dropLast ds.dropLast := by
  rw [List.dropLast_eq_take, List.dropLast_eq_take, ← h.len]
  exact h.take _
theorem atI_lastV {vs : List V} {v : V} : atI (vs ++ [v]) (-1) = some v := by
  have l : (vs ++ [v]).length = vs.length + 1 := by simp
  unfold atI
  have e2 : ixN (vs.length + 1) (-1) = some vs.length := by
    unfold ixN
    rw [if_neg (by omega)]
    rw [if_pos (by omega)]
    congr 1
    omega
  rw [l, e2]
  show (vs ++ [v])[vs.length]? = _
  rw [List.getElem?_append_right (by simp)]
  simp
section
variable {P : Program} {w : World} {K : PySem.W.Frag} {mg : Str → Option Value} {base : Heap}
/-! ### undo -/
def sp_undo (K : PySem.W.Frag) : Sp := fun vs H Q _ => ∃ (p : Addr) (own : List Addr) (e : Ed), vs = [.ref p] ∧ EdAt K H p own e ∧ e.un.length < 1000 ∧
  (e.dn = [] → ∀ H', Same H H' → Q (.bl false) H') ∧ ∀ r x, e.dn = r ++ [x] → ∀ H' own', Fr own H own' H' → EdAt K H' p own' ⟨x.b, r, e.un ++ [x], e.sv⟩ → Q (.bl true) H'
abbrev N_Recorder_undo : List Str := ["self"]
theorem sc_Recorder_undo : FnScope N_Recorder_undo ["self"] (defScope s_Recorder_undo) := ⟨rfl, rfl, rfl, by decide +kernel, rfl, by decide +kernel, by decide +kernel⟩
theorem ok_undo (T : Tx w K mg) : GM P w K mg base CX0 1 (aE K) (He.ma K (aE K) "undo") ["self"] (sp_undo K) := by
  refine gm0 T.f_Recorder_undo sc_Recorder_undo (fun _ F => F.bindsN fun _ _ _ _ _ _ us hl => match us, hl with | [_], _ => rfl) (fun vs H Q E h => ?_) (fun cdv A outer s H vs Q E hr h => ?_)
  · obtain ⟨p, own, e, rfl, _⟩ := h
    rfl
  · obtain ⟨p, own, e, rfl, ⟨dx, v, l1, l2, sd, ap, us1, us2, kvs, rfl, i⟩, hl, q0, q⟩ := h
    have cE := T.c_Editor
    refine ⟨_, (pss_cons ((ps_if ((pt_cmpR (op_eqD hr.units) (pe_fld (pv 0) rfl) (pe_lst pa_nil) (nomark _))) ((pss_one ((ps_ret (pe_bl))))) (pss_nil))) (pss_cons ((ps_expr (pe_bm PySem.F.plainAttrs_list PySem.F.slot_list_append PySem.F.type_list_append mt_append (pe_fld (pv 0) rfl) (pa_cons (pe_bm0 PySem.F.plainAttrs_list PySem.F.slot_list_pop PySem.F.type_list_pop mt_pop (pe_fld (pv 0) rfl)) pa_nil)))) (pss_cons (ps_fld (pv 0) ((pe_ix ix_tup ((pe_ix ix_list (pe_fld (pv 0) rfl) (pe_un un_neg pe_int) (fun _ _ => rfl))) (pe_int) (fun _ _ => rfl))) rfl) (pss_one ((ps_ret (pe_bl))))))), ?_⟩
    refine ⟨_, rfl, p, _, _, _, _, rfl, i.ins, cE, T.n_done, ef_done, Nat.zero_le _, fun m hm => ?_⟩
    have i1 := i.mono (Same.new (o := HO.lst []) hm)
    refine ⟨.list (e.dn.map entD), .list [], .lst (SqL.of i1.h1) i1.t1.dp, .lst (SqL.of upd_same) .nil, (Pl.ents e.dn).shaped (by decide), by decide, _, rfl, ?_⟩
    rw [eqv_nil]
    have s1 : Same H (upd H m (.lst [])) := Same.new hm
    revert i1 s1
    generalize upd H m (.lst []) = H1
    intro i1 s1
    rcases List.eq_nil_or_concat e.dn with hd | ⟨r, x, hd⟩
    · rw [hd]
      exact iteT (q0 hd _ s1)
    · rw [List.concat_eq_append] at hd
      have et : (e.dn.map entD).isEmpty = false := by rw [hd]; simp
      rw [et]
      have t1 := i1.t1
      rw [hd, List.map_append] at t1
      have tlast : ∃ ur ux, us1 = ur ++ [ux] ∧ TdAll H1 ur (r.map entD) ∧ Td H1 ux (entD x) := by
        rcases List.eq_nil_or_concat us1 with hu | ⟨ur, ux, hu⟩
        · have := t1.len
          rw [hu] at this
          simp at this
        · rw [List.concat_eq_append] at hu
          subst hu
          have d1 := t1.dropLast
          rw [List.dropLast_concat, List.map_cons, List.map_nil, List.dropLast_concat] at d1
          have l1 : ur.length = r.length := by rw [d1.len, List.length_map]
          obtain ⟨d, hd1, td⟩ := t1.get (i := ur.length) (v := ux) (by rw [List.getElem?_append_right (by simp)]; simp)
          rw [List.getElem?_append_right (by rw [List.length_map]; omega)] at hd1
          simp [l1] at hd1
          subst hd1
          exact ⟨ur, ux, rfl, d1, td⟩
      obtain ⟨ur, ux, rfl, tr, tx⟩ := tlast
      obtain ⟨t, ox, bx, ax, rfl, ht, to, tb, ta⟩ := tx.ent_inv
      have np1 : p ≠ l1 := ne_of i1.ins i1.h1 (by intro z; cases z)
      have np2 : p ≠ l2 := ne_of i1.ins i1.h2 (by intro z; cases z)
      have nps : p ≠ sd := ne_of i1.ins i1.hs (by intro z; cases z)
      have ns1 : sd ≠ l1 := ne_of i1.hs i1.h1 (by intro z; cases z)
      have ns2 : sd ≠ l2 := ne_of i1.hs i1.h2 (by intro z; cases z)
      have nt1 : t ≠ l1 := ne_of ht i1.h1 (by intro z; cases z)
      have nt2 : t ≠ l2 := ne_of ht i1.h2 (by intro z; cases z)
      refine iteF ⟨_, rfl, p, _, _, _, _, rfl, i1.ins, cE, T.n_undone, ef_undone, .inl ⟨rfl, _, SqL.of i1.h2⟩, ?_⟩
      refine ⟨_, rfl, p, _, _, _, _, rfl, i1.ins, cE, T.n_done, ef_done, .inl ⟨rfl, _, SqL.of i1.h1⟩, l1, _, .ref t, rfl, rfl, i1.h1, by simp, ?_⟩
      rw [List.dropLast_concat]
      have lu2 : us2.length < 1000 := by rw [i.t2.len, List.length_map]; exact hl
      refine ⟨l2, _, _, rfl, rfl, (upd_ne i.ne.symm).trans i1.h2, Nat.lt_trans lu2 (by decide), ?_⟩
      refine ⟨_, rfl, p, _, _, _, _, rfl, (upd_ne np2).trans ((upd_ne np1).trans i1.ins), cE, T.n_undone, ef_undone, _, rfl, l2, _, _, _, rfl, rfl, SqL.of upd_same, atI_lastV, t, _, _, _, rfl, rfl, SqT.of ((upd_ne nt2).trans ((upd_ne nt1).trans ht)), rfl, ?_⟩
      refine ⟨_, rfl, p, _, dx, _, rfl, (upd_ne np2).trans ((upd_ne np1).trans i1.ins), cE, T.n_present, by show 5 < 1000; decide, ?_⟩
      rw [eput_present]
      have fr : Fr [p, l1, l2, sd] H1 [p, l1, l2, sd] (upd (upd (upd H1 l1 (.lst ur)) l2 (.lst (us2 ++ [.ref t]))) p (.ins (aE K) dx (edF bx l1 l2 sd ap))) := by
        intro b x hb nb
        simp only [List.mem_cons, List.not_mem_nil, or_false, not_or] at nb ⊢
        refine ⟨nb, ?_⟩
        rw [upd_ne nb.1, upd_ne nb.2.2.1, upd_ne nb.2.1]
        exact hb
      have tl := i1.tle fr
      refine q r x hd _ _ (Fr.pre s1 fr) ⟨dx, bx, l1, l2, sd, ap, ur, us2 ++ [.ref t], kvs, rfl, upd_same, tb.mono tl, ?_, tr.mono tl, ?_, ?_, ?_, ?_, i.ne⟩
      · rw [upd_ne np1.symm, upd_ne i.ne, upd_same]
      · rw [upd_ne np2.symm, upd_same]
      · rw [List.map_append]
        exact TdAll.append (i1.t2.mono tl) (.cons (tx.mono tl) .nil)
      · rw [upd_ne nps.symm, upd_ne ns2, upd_ne ns1]
        exact i1.hs
      · exact i1.sv.mono tl fun b xs hb nb => fr b _ hb nb
/-! ### redo -/
def sp_redo (K : PySem.W.Frag) : Sp := fun vs H Q _ => ∃ (p : Addr) (own : List Addr) (e : Ed), vs = [.ref p] ∧ EdAt K H p own e ∧ e.dn.length < 1000 ∧
  (e.un = [] → ∀ H', Same H H' → Q (.bl false) H') ∧ ∀ r x, e.un = r ++ [x] → ∀ H' own', Fr own H own' H' → EdAt K H' p own' ⟨x.a, e.dn ++ [x], r, e.sv⟩ → Q (.bl true) H'
abbrev N_Recorder_redo : List Str := ["self"]
theorem sc_Recorder_redo : FnScope N_Recorder_redo ["self"] (defScope s_Recorder_redo) := ⟨rfl, rfl, rfl, by decide +kernel, rfl, by decide +kernel, by decide +kernel⟩
theorem ok_redo (T : Tx w K mg) : GM P w K mg base CX0 1 (aE K) (He.ma K (aE K) "redo") ["self"] (sp_redo K) := by
  refine gm0 T.f_Recorder_redo sc_Recorder_redo (fun _ F => F.bindsN fun _ _ _ _ _ _ us hl => match us, hl with | [_], _ => rfl) (fun vs H Q E h => ?_) (fun cdv A outer s H vs Q E hr h => ?_)
  · obtain ⟨p, own, e, rfl, _⟩ := h
    rfl
  · obtain ⟨p, own, e, rfl, ⟨dx, v, l1, l2, sd, ap, us1, us2, kvs, rfl, i⟩, hl, q0, q⟩ := h
    have cE := T.c_Editor
    refine ⟨_, (pss_cons ((ps_if ((pt_cmpR (op_eqD hr.units) (pe_fld (pv 0) rfl) (pe_lst pa_nil) (nomark _))) ((pss_one ((ps_ret (pe_bl))))) (pss_nil))) (pss_cons ((ps_expr (pe_bm PySem.F.plainAttrs_list PySem.F.slot_list_append PySem.F.type_list_append mt_append (pe_fld (pv 0) rfl) (pa_cons (pe_bm0 PySem.F.plainAttrs_list PySem.F.slot_list_pop PySem.F.type_list_pop mt_pop (pe_fld (pv 0) rfl)) pa_nil)))) (pss_cons (ps_fld (pv 0) ((pe_ix ix_tup ((pe_ix ix_list (pe_fld (pv 0) rfl) (pe_un un_neg pe_int) (fun _ _ => rfl))) (pe_int) (fun _ _ => rfl))) rfl) (pss_one ((ps_ret (pe_bl))))))), ?_⟩
    refine ⟨_, rfl, p, _, _, _, _, rfl, i.ins, cE, T.n_undone, ef_undone, Nat.zero_le _, fun m hm => ?_⟩
    have i1 := i.mono (Same.new (o := HO.lst []) hm)
    refine ⟨.list (e.un.map entD), .list [], .lst (SqL.of i1.h2) i1.t2.dp, .lst (SqL.of upd_same) .nil, (Pl.ents e.un).shaped (by decide), by decide, _, rfl, ?_⟩
    rw [eqv_nil]
    have s1 : Same H (upd H m (.lst [])) := Same.new hm
    revert i1 s1
    generalize upd H m (.lst []) = H1
    intro i1 s1
    rcases List.eq_nil_or_concat e.un with hd | ⟨r, x, hd⟩
    · rw [hd]
      exact iteT (q0 hd _ s1)
    · rw [List.concat_eq_append] at hd
      have et : (e.un.map entD).isEmpty = false := by rw [hd]; simp
      rw [et]
      have t1 := i1.t2
      rw [hd, List.map_append] at t1
      have tlast : ∃ ur ux, us2 = ur ++ [ux] ∧ TdAll H1 ur (r.map entD) ∧ Td H1 ux (entD x) := by
        rcases List.eq_nil_or_concat us2 with hu | ⟨ur, ux, hu⟩
        · have := t1.len
          rw [hu] at this
          simp at this
        · rw [List.concat_eq_append] at hu
          subst hu
          have d1 := t1.dropLast
          rw [List.dropLast_concat, List.map_cons, List.map_nil, List.dropLast_concat] at d1
          have l1 : ur.length = r.length := by rw [d1.len, List.length_map]
          obtain ⟨d, hd1, td⟩ := t1.get (i := ur.length) (v := ux) (by rw [List.getElem?_append_right (by simp)]; simp)
          rw [List.getElem?_append_right (by rw [List.length_map]; omega)] at hd1
          simp [l1] at hd1
          subst hd1
          exact ⟨ur, ux, rfl, d1, td⟩
      obtain ⟨ur, ux, rfl, tr, tx⟩ := tlast
      obtain ⟨t, ox, bx, ax, rfl, ht, to, tb, ta⟩ := tx.ent_inv
      have np1 : p ≠ l2 := ne_of i1.ins i1.h2 (by intro z; cases z)
      have np2 : p ≠ l1 := ne_of i1.ins i1.h1 (by intro z; cases z)
      have nps : p ≠ sd := ne_of i1.ins i1.hs (by intro z; cases z)
      have ns1 : sd ≠ l2 := ne_of i1.hs i1.h2 (by intro z; cases z)
      have ns2 : sd ≠ l1 := ne_of i1.hs i1.h1 (by intro z; cases z)
      have nt1 : t ≠ l2 := ne_of ht i1.h2 (by intro z; cases z)
      have nt2 : t ≠ l1 := ne_of ht i1.h1 (by intro z; cases z)
      refine iteF ⟨_, rfl, p, _, _, _, _, rfl, i1.ins, cE, T.n_done, ef_done, .inl ⟨rfl, _, SqL.of i1.h1⟩, ?_⟩
      refine ⟨_, rfl, p, _, _, _, _, rfl, i1.ins, cE, T.n_undone, ef_undone, .inl ⟨rfl, _, SqL.of i1.h2⟩, l2, _, .ref t, rfl, rfl, i1.h2, by simp, ?_⟩
      rw [List.dropLast_concat]
      have lu2 : us1.length < 1000 := by rw [i.t1.len, List.length_map]; exact hl
      refine ⟨l1, _, _, rfl, rfl, (upd_ne i.ne).trans i1.h1, Nat.lt_trans lu2 (by decide), ?_⟩
      refine ⟨_, rfl, p, _, _, _, _, rfl, (upd_ne np2).trans ((upd_ne np1).trans i1.ins), cE, T.n_done, ef_done, _, rfl, l1, _, _, _, rfl, rfl, SqL.of upd_same, atI_lastV, t, _, _, _, rfl, rfl, SqT.of ((upd_ne nt2).trans ((upd_ne nt1).trans ht)), rfl, ?_⟩
      refine ⟨_, rfl, p, _, dx, _, rfl, (upd_ne np2).trans ((upd_ne np1).trans i1.ins), cE, T.n_present, by show 5 < 1000; decide, ?_⟩
      rw [eput_present]
      have fr : Fr [p, l1, l2, sd] H1 [p, l1, l2, sd] (upd (upd (upd H1 l2 (.lst ur)) l1 (.lst (us1 ++ [.ref t]))) p (.ins (aE K) dx (edF ax l1 l2 sd ap))) := by
        intro b x hb nb
        simp only [List.mem_cons, List.not_mem_nil, or_false, not_or] at nb ⊢
        refine ⟨nb, ?_⟩
        rw [upd_ne nb.1, upd_ne nb.2.1, upd_ne nb.2.2.1]
        exact hb
      have tl := i1.tle fr
      refine q r x hd _ _ (Fr.pre s1 fr) ⟨dx, ax, l1, l2, sd, ap, us1 ++ [.ref t], ur, kvs, rfl, upd_same, ta.mono tl, ?_, ?_, ?_, tr.mono tl, ?_, ?_, i.ne⟩
      · rw [upd_ne np2.symm, upd_same]
      · rw [List.map_append]
        exact TdAll.append (i1.t1.mono tl) (.cons (tx.mono tl) .nil)
      · rw [upd_ne np1.symm, upd_ne i.ne.symm, upd_same]
      · rw [upd_ne nps.symm, upd_ne ns2, upd_ne ns1]
        exact i1.hs
      · exact i1.sv.mono tl fun b xs hb nb => fr b _ hb nb
end
end K68
end
section
set_option Elab.async false
set_option linter.all false
set_option maxRecDepth 100000
set_option maxHeartbeats 2000000
namespace K68
open PySem PySem.Spec PyProof.Rows L2
section
variable {P : Program} {w : World} {K : PySem.W.Frag} {mg : Str → Option Value} {base : Heap}
/-! ### history -/
def sp_history (K : PySem.W.Frag) : Sp := fun vs H Q _ => ∃ (p : Addr) (own : List Addr) (e : Ed), vs = [.ref p] ∧ EdAt K H p own e ∧ e.dn.length < 1000 ∧ ∀ l H' us, Same H H' → H l = none → H' l = some (.lst us) → TdAll H' us (e.dn.map fun x => deedD x.d) → Q (.ref l) H'
abbrev N_Recorder_history : List Str := ["self", "operation", "before", "after"]
theorem sc_Recorder_history : FnScope N_Recorder_history ["self"] (defScope s_Recorder_history) := ⟨rfl, rfl, rfl, by decide +kernel, rfl, by decide +kernel, by decide +kernel⟩
theorem ok_history (T : Tx w K mg) : GM P w K mg base CX0 1 (aE K) (He.ma K (aE K) "history") ["self"] (sp_history K) := by
  refine gm0 T.f_Recorder_history sc_Recorder_history (fun _ F => F.bindsN fun _ _ _ _ _ _ us hl => match us, hl with | [_], _ => rfl) (fun vs H Q E h => ?_) (fun cdv A outer s H vs Q E hr h => ?_)
  · obtain ⟨p, own, e, rfl, _⟩ := h
    rfl
  · obtain ⟨p, own, e, rfl, ⟨dx, v, l1, l2, sd, ap, us1, us2, kvs, rfl, i⟩, hl, q⟩ := h
    have nd := sc_Recorder_history.nd
    have lus : us1.length < 1000 := by rw [i.t1.len, List.length_map]; exact hl
    have big : sizeLine > 2000 := by decide
    refine ⟨_, (pss_one ((ps_ret (pe_lc (own := [("operation", 1), ("before", 2), ("after", 3)]) (g := (gTup K 3 (gCons (gName 1) (gCons (gName 2) (gCons (gName 3) gNil))))) (tt := tYes) rfl nd (pi_list (pe_fld (pv 0) rfl)) (blkOk_by (N := N_Recorder_history) (sc := defScope s_Recorder_history) (by decide +kernel)) (fun _ _ _ _ _ => (pg_tup rfl (pgs_cons ((pg_name (i := 1) nd rfl (Or.inl rfl))) (pgs_cons ((pg_name (i := 2) nd rfl (Or.inl rfl))) (pgs_cons ((pg_name (i := 3) nd rfl (Or.inl rfl))) pgs_nil))))) (fun _ _ _ _ _ => pts_nil) (fun _ _ _ _ _ => pv 1))))), ?_⟩
    refine ⟨_, rfl, p, _, _, _, _, rfl, i.ins, T.c_Editor, T.n_done, ef_done, l1, rfl, ⟨_, SqL.of i.h1⟩, fun D hD => ?_⟩
    refine lc_s (walk_list (xs := us1)) hD (fun j acc H' => TdAll H' acc ((e.dn.take j).map fun x => deedD x.d)) .nil (fun H2 s2 => SqL.of (s2 _ _ i.h1)) (fun j x H2 H2' acc hj s2 hacc lacc acc1 yl => ?_) (fun H2 acc s2 hacc acc1 => ?_)
    · obtain ⟨rfl, hx⟩ := yl
      obtain ⟨d, hd, td⟩ := (i.t1.mono s2.tle).get hx
      rw [List.getElem?_map] at hd
      cases ec : e.dn[j]? with
      | none => rw [ec] at hd; cases hd
      | some c =>
        rw [ec] at hd
        cases Option.some.inj hd
        obtain ⟨t, o, b, a, rfl, ht, to, tb, ta⟩ := td.ent_inv
        refine ⟨t, _, rfl, SqT.of ht, rfl, _, _, rfl, _, _, rfl, _, _, rfl, rfl, rfl, _, rfl, LcP.push hD s2 hacc lacc (by omega) ?_⟩
        show TdAll _ _ _
        rw [take_more ec, List.map_append]
        exact TdAll.append (TdAll.mono (tle_lst hacc) acc1) (.cons (to.mono (tle_lst hacc)) .nil)
    · rw [i.t1.len, List.length_map, List.take_length] at acc1
      exact q D H2 acc s2 hD hacc acc1
/-! ### window_history -/
def sp_windows (K : PySem.W.Frag) : Sp := fun vs H Q _ => ∃ (p : Addr) (own : List Addr) (e : Ed), vs = [.ref p] ∧ EdAt K H p own e ∧ e.dn.length < 1000 ∧ (∀ x ∈ e.dn, SysOk x.b) ∧ SysOk e.pr ∧
  ∀ l H' us, Same H H' → H' l = some (.lst us) → TdAll H' us ((e.dn.map (·.b) ++ [e.pr]).map fun s => intsD (lw s)) → Q (.ref l) H'
abbrev N_Editor_window_history : List Str := ["self", "systems", "operation", "before", "after", "system"]
theorem sc_Editor_window_history : FnScope N_Editor_window_history ["self"] (defScope s_Editor_window_history) := ⟨rfl, rfl, rfl, by decide +kernel, rfl, by decide +kernel, by decide +kernel⟩
theorem ok_windows (T : Tx w K mg) : GM P w K mg base CX0 7 (aE K) (He.ma K (aE K) "window_history") ["self"] (sp_windows K) := by
  have G1 := ok_lw (P := P) (base := base) T
  refine gm0 T.f_Editor_window_history sc_Editor_window_history (fun _ F => F.bindsN fun _ _ _ _ _ _ us hl => match us, hl with | [_], _ => rfl) (fun vs H Q E h => ?_) (fun cdv A outer s H vs Q E hr h => ?_)
  · obtain ⟨p, own, e, rfl, _⟩ := h
    rfl
  · obtain ⟨p, own, e, rfl, ⟨dx, v, l1, l2, sd, ap, us1, us2, kvs, rfl, i⟩, hl, okB, okP, q⟩ := h
    have nd := sc_Editor_window_history.nd
    have cE := T.c_Editor
    have lus : us1.length < 1000 := by rw [i.t1.len, List.length_map]; exact hl
    have big : sizeLine > 2000 := by decide
    refine ⟨_, (pss_cons ((ps_set (i := 1) nd rfl (Or.inl rfl) ((pe_op (op_cat) (pe_lc (own := [("operation", 2), ("before", 3), ("after", 4)]) (g := (gTup K 3 (gCons (gName 2) (gCons (gName 3) (gCons (gName 4) gNil))))) (tt := tYes) rfl nd (pi_list (pe_fld (pv 0) rfl)) (blkOk_by (N := N_Editor_window_history) (sc := defScope s_Editor_window_history) (by decide +kernel)) (fun _ _ _ _ _ => (pg_tup rfl (pgs_cons ((pg_name (i := 2) nd rfl (Or.inl rfl))) (pgs_cons ((pg_name (i := 3) nd rfl (Or.inl rfl))) (pgs_cons ((pg_name (i := 4) nd rfl (Or.inl rfl))) pgs_nil))))) (fun _ _ _ _ _ => pts_nil) (fun _ _ _ _ _ => pv 3)) ((pe_lst (pa_cons (pe_fld (pv 0) rfl) pa_nil))))))) (pss_one ((ps_ret (pe_lc (own := [("system", 5)]) (g := gName 5) (tt := tYes) rfl nd (pi_list (pv 1)) (blkOk_by (N := N_Editor_window_history) (sc := defScope s_Editor_window_history) (by decide +kernel)) (fun _ _ _ _ _ => pg_name (i := 5) nd rfl (Or.inl rfl)) (fun _ _ _ _ _ => pts_nil) (fun _ _ _ _ _ => (pe_f G1 (hr) (pass0) (pa_cons (pv 5) pa_nil)))))))), ?_⟩
    refine ⟨_, rfl, p, _, _, _, _, rfl, i.ins, cE, T.n_done, ef_done, l1, rfl, ⟨_, SqL.of i.h1⟩, fun D hD => ?_⟩
    refine lc_s (walk_list (xs := us1)) hD (fun j acc H' => TdAll H' acc ((e.dn.take j).map fun x => syD x.b)) .nil (fun H2 s2 => SqL.of (s2 _ _ i.h1)) (fun j x H2 H2' acc hj s2 hacc lacc acc1 yl => ?_) (fun H2 acc s2 hacc acc1 => ?_)
    · obtain ⟨rfl, hx⟩ := yl
      obtain ⟨d, hd, td⟩ := (i.t1.mono s2.tle).get hx
      rw [List.getElem?_map] at hd
      cases ec : e.dn[j]? with
      | none => rw [ec] at hd; cases hd
      | some c =>
        rw [ec] at hd
        cases Option.some.inj hd
        obtain ⟨t, o, b, a, rfl, ht, to, tb, ta⟩ := td.ent_inv
        refine ⟨t, _, rfl, SqT.of ht, rfl, _, _, rfl, _, _, rfl, _, _, rfl, rfl, rfl, _, rfl, LcP.push hD s2 hacc lacc (by omega) ?_⟩
        show TdAll _ _ _
        rw [take_more ec, List.map_append]
        exact TdAll.append (TdAll.mono (tle_lst hacc) acc1) (.cons (tb.mono (tle_lst hacc)) .nil)
    · rw [i.t1.len, List.length_map, List.take_length] at acc1
      have i2 := i.mono s2
      refine ⟨_, rfl, p, _, _, _, _, rfl, i2.ins, cE, T.n_present, ef_present, by show 1 ≤ sizeLine; omega, fun m hm => ?_⟩
      have hacc2 := upd_ne' (o := HO.lst [v]) hm hacc
      have lac : acc.length < 1000 := by rw [TdAll.len acc1, List.length_map]; exact hl
      refine ⟨_, _, _, _, rfl, rfl, hacc2, upd_same, by show acc.length + 1 ≤ sizeLine; omega, fun l hl3 => ?_⟩
      have s3 : Same H (upd (upd H2 m (.lst [v])) l (.lst (acc ++ [v]))) := (s2.trans (Same.new hm)).trans (Same.new hl3)
      have td3 : TdAll (upd (upd H2 m (.lst [v])) l (.lst (acc ++ [v]))) (acc ++ [v]) ((e.dn.map (·.b) ++ [e.pr]).map syD) := by
        rw [List.map_append, List.map_map]
        exact (TdAll.append acc1 (.cons i2.pr .nil)).mono ((Same.new hm).trans (Same.new hl3)).tle
      have hl4 : (upd (upd H2 m (.lst [v])) l (.lst (acc ++ [v]))) l = some (.lst (acc ++ [v])) := upd_same
      have all : ∀ x ∈ e.dn.map (·.b) ++ [e.pr], SysOk x := fun x hx => by
        rcases List.mem_append.mp hx with h | h
        · obtain ⟨z, hz, rfl⟩ := List.mem_map.mp h
          exact okB z hz
        · cases List.mem_singleton.mp h
          exact okP
      have lall : (acc ++ [v]).length ≤ 1000 := by rw [List.length_append, List.length_singleton]; omega
      revert s3 td3 hl4 lall
      generalize upd (upd H2 m (.lst [v])) l (.lst (acc ++ [v])) = H3
      generalize acc ++ [v] = ws
      generalize e.dn.map (·.b) ++ [e.pr] = ss at q all
      intro s3 td3 hl4 lall
      refine ⟨_, rfl, l, rfl, ⟨_, SqL.of hl4⟩, fun D2 hD2 => ?_⟩
      refine lc_s (walk_list (xs := ws)) hD2 (fun j acc H' => TdAll H' acc ((ss.take j).map fun s => intsD (lw s))) .nil (fun H4 s4 => SqL.of (s4 _ _ hl4)) (fun j x H4 H4' acc4 hj s4 hacc4 lacc4 acc5 yl => ?_) (fun H4 acc4 s4 hacc4 acc5 => ?_)
      · obtain ⟨rfl, hx⟩ := yl
        obtain ⟨d, hd, td⟩ := (td3.mono s4.tle).get hx
        rw [List.getElem?_map] at hd
        cases ec : ss[j]? with
        | none => rw [ec] at hd; cases hd
        | some c =>
          rw [ec] at hd
          cases Option.some.inj hd
          refine ⟨rfl, _, rfl, x, c, rfl, td, all c (List.mem_of_getElem? ec), fun v' H5 s5 t5 => ?_⟩
          refine LcP.push hD2 (s4.trans s5) (s5 _ _ hacc4) lacc4 (by omega) ?_
          show TdAll _ _ _
          rw [take_more ec, List.map_append]
          have tl := tle_lst (o := HO.lst (acc4 ++ [v'])) (s5 _ _ hacc4)
          exact TdAll.append ((TdAll.mono s5.tle acc5).mono tl) (.cons (t5.mono tl) .nil)
      · rw [td3.len, List.length_map, List.take_length] at acc5
        exact q D2 H4 acc4 (s3.trans s4) hacc4 acc5
/-! ### checkpoints -/
def sp_checkpoints (K : PySem.W.Frag) : Sp := fun vs H Q _ => ∃ (p : Addr) (own : List Addr) (e : Ed), vs = [.ref p] ∧ EdAt K H p own e ∧ e.sv.isSome = true ∧ ∀ l, H l = none → Q (.ref l) (upd H l (.lst [.str "all"]))
abbrev N_Recorder_checkpoints : List Str := ["self"]
theorem sc_Recorder_checkpoints : FnScope N_Recorder_checkpoints ["self"] (defScope s_Recorder_checkpoints) := ⟨rfl, rfl, rfl, by decide +kernel, rfl, by decide +kernel, by decide +kernel⟩
theorem ok_checkpoints (T : Tx w K mg) : GM P w K mg base CX0 1 (aE K) (He.ma K (aE K) "checkpoints") ["self"] (sp_checkpoints K) := by
  refine gm0 T.f_Recorder_checkpoints sc_Recorder_checkpoints (fun _ F => F.bindsN fun _ _ _ _ _ _ us hl => match us, hl with | [_], _ => rfl) (fun vs H Q E h => ?_) (fun cdv A outer s H vs Q E hr h => ?_)
  · obtain ⟨p, own, e, rfl, _⟩ := h
    rfl
  · obtain ⟨p, own, e, rfl, ⟨dx, v, l1, l2, sd, ap, us1, us2, kvs, rfl, i⟩, hs, q⟩ := h
    refine ⟨_, (pss_one ((ps_ret ((pe_callB (call_sortedD rfl) rfl T.z_sorted boot_sorted (pa_cons (pe_fld (pv 0) rfl) pa_nil)))))), ?_⟩
    have sv := i.sv
    cases es : e.sv with
    | none => rw [es] at hs; cases hs
    | some c =>
      rw [es] at sv
      obtain ⟨t0, v0, w1, w2, ek, _⟩ := sv
      subst ek
      refine ⟨_, rfl, p, _, _, _, _, rfl, i.ins, T.c_Editor, T.n_saved, ef_saved, sd, _, ["all"], rfl, .inl i.hs, rfl, by decide, fun ys l perm _ hl => ?_⟩
      rw [List.perm_singleton.mp perm]
      exact q l hl
end
end K68
end
section
set_option Elab.async false
set_option linter.all false
set_option maxRecDepth 100000
set_option maxHeartbeats 2000000
namespace K68
open PySem PySem.Spec PyProof.Rows L2
def theLetters : Str := "abcdefghijklmnopqrstuvwxyz"
def allN : Str := "all"
def signs : List Bool := allN.cps.toList.map fun c => decide (c ∈ theLetters.cps.toList)
section
variable {P : Program} {w : World} {K : PySem.W.Frag} {mg : Str → Option Value} {base : Heap}
/-! ### check_name, of the one name that is asked -/
def sp_check_name : Sp := fun vs H Q _ => vs = [.str allN] ∧ ∀ H', Same H H' → Q .non H'
abbrev N_check_name : List Str := ["name", "letter"]
theorem sc_check_name : FnScope N_check_name ["name"] (defScope s_check_name) := ⟨rfl, rfl, rfl, by decide +kernel, rfl, by decide +kernel, by decide +kernel⟩
theorem ok_check_name (T : Tx w K mg) : GF P w K mg base CX0 1 "check_name" ["name"] sp_check_name := by
  obtain ⟨tL, hL⟩ := T.s_LETTERS
  refine gf0 T.f_check_name T.g_check_name sc_check_name (fun _ F => F.bindsN fun _ _ _ _ _ _ us hl => match us, hl with | [_], _ => rfl) (fun vs H Q E h => ?_) (fun cdv A outer s H vs Q E hr h => ?_)
  · obtain ⟨rfl, _⟩ := h
    rfl
  · obtain ⟨rfl, q⟩ := h
    have nd := sc_check_name.nd
    refine ⟨_, (pss_cons ((ps_if ((PW.pt (pw_or ((pt_not (pt_val ((pe_is "str" (pv 0) T.z_isinstance T.z_str boot_str))))) (pw_or1 (pt_not (pt_chain op_le op_le pe_int ((pe_callB (call_len_str) rfl T.z_len boot_len (pa_cons (pv 0) pa_nil))) (pe_gi T.i_MAX_NAME_LENGTH))))))) (pss_never) (pss_nil))) (pss_one ((ps_if ((pt_not (pt_val ((pe_callB (cr_all rfl) rfl T.z_all boot_all (pa_cons (pe_lc (own := [("letter", 1)]) (g := gName 1) (tt := tYes) rfl nd (pi_str (pv 0)) (blkOk_by (N := N_check_name) (sc := defScope s_check_name) (by decide +kernel)) (fun _ _ _ _ _ => pg_name (i := 1) nd rfl (Or.inl rfl)) (fun _ _ _ _ _ => pts_nil)
        (fun _ _ _ _ _ => pe_cmpR op_in_sign (pv 1) (pe_glob (v := .str theLetters) rfl hL ⟨tL, rfl⟩) (by rfl))) pa_nil)))))) (pss_never) (pss_nil))))), ?_⟩
    refine ⟨_, rfl, true, is_ss, true, rfl, iteF ?_⟩
    refine ⟨_, rfl, _, rfl, by decide, _, _, rfl, rfl, _, rfl, ?_⟩
    refine iteT ⟨_, _, rfl, rfl, _, rfl, iteF ?_⟩
    refine ⟨_, rfl, allN, rfl, fun D hD => ?_⟩
    refine lc_s (walk_str (z := allN)) hD (fun i acc _ => acc = ((allN.cps.toList.take i).map fun c => V.bl (decide (c ∈ theLetters.cps.toList)))) rfl (fun _ _ => trivial) (fun i x H2 H2' acc hi s2 hacc lacc acc1 yl => ?_) (fun H2 acc s2 hacc acc1 => ?_)
    · obtain ⟨rfl, c, hc, rfl⟩ := yl
      refine ⟨rfl, _, rfl, c, _, rfl, rfl, LcP.push hD s2 hacc lacc (Nat.lt_of_lt_of_le hi (by decide)) ?_⟩
      show acc ++ [_] = _
      rw [show acc = _ from acc1, take_more (by rw [Array.getElem?_toList]; exact hc), List.map_append]
      rfl
    · refine ⟨D, signs, rfl, SqL.of (hacc.trans ?_), _, rfl, ?_⟩
      · rw [show acc = _ from acc1, ← Array.length_toList, List.take_length]
        unfold signs
        rw [List.map_map]
        rfl
      · rw [show signs.all id = true by decide +kernel]
        exact iteF (q _ s2)
/-! ### save -/
def sp_save (K : PySem.W.Frag) : Sp := fun vs H Q _ => ∃ (p : Addr) (own : List Addr) (e : Ed), vs = [.ref p, .str allN] ∧ EdAt K H p own e ∧ e.sv = none ∧ ∀ H' m1 m2, Fr own H own H' → EdAt K H' p own ⟨e.pr, e.dn, e.un, some ⟨e.pr, e.dn, e.un, m1, m2⟩⟩ → Q .non H'
abbrev N_Recorder_save : List Str := ["self", "name"]
theorem sc_Recorder_save : FnScope N_Recorder_save ["self", "name"] (defScope s_Recorder_save) := ⟨rfl, rfl, rfl, by decide +kernel, rfl, by decide +kernel, by decide +kernel⟩
theorem ok_save (T : Tx w K mg) : GM P w K mg base CX0 2 (aE K) (He.ma K (aE K) "save") ["self", "name"] (sp_save K) := by
  have G1 := ok_check_name (P := P) (base := base) T
  refine gm0 T.f_Recorder_save sc_Recorder_save (fun _ F => F.bindsN fun _ _ _ _ _ _ us hl => match us, hl with | [_, _], _ => rfl) (fun vs H Q E h => ?_) (fun cdv A outer s H vs Q E hr h => ?_)
  · obtain ⟨p, own, e, rfl, _⟩ := h
    rfl
  · obtain ⟨p, own, e, rfl, ⟨dx, v, l1, l2, sd, ap, us1, us2, kvs, rfl, i⟩, es, q⟩ := h
    have cE := T.c_Editor
    have hu := hu_of hr
    refine ⟨_, (pss_cons (ps_expr (pe_f G1 (hr) (pass0) (pa_cons (pv 1) pa_nil))) (pss_one (ps_dput hu (pe_fld (pv 0) rfl) (pv 1) (pe_tup (pa_cons (pe_fld (pv 0) rfl) (pa_cons ((pe_callTy (call_list_of) rfl T.z_list boot_list (pa_cons (pe_fld (pv 0) rfl) pa_nil))) (pa_cons ((pe_callTy (call_list_of) rfl T.z_list boot_list (pa_cons (pe_fld (pv 0) rfl) pa_nil))) pa_nil)))) rfl))), ?_⟩
    refine ⟨_, rfl, rfl, fun H1 s1 => ?_⟩
    have i1 := i.mono s1
    refine ⟨_, rfl, p, _, _, _, _, rfl, i1.ins, cE, T.n_present, ef_present, ?_⟩
    refine ⟨_, rfl, p, _, _, _, _, rfl, i1.ins, cE, T.n_done, ef_done, l1, _, rfl, .inl (SqL.of i1.h1), fun m1 hm1 => ?_⟩
    have i2 := i1.mono (Same.new (o := HO.lst us1) hm1)
    refine ⟨_, rfl, p, _, _, _, _, rfl, i2.ins, cE, T.n_undone, ef_undone, l2, _, rfl, .inl (SqL.of i2.h2), fun m2 hm2 => ?_⟩
    refine ⟨by show 3 ≤ sizeLine; decide, fun t ht => ?_⟩
    have s4 : Same H1 (upd (upd (upd H1 m1 (.lst us1)) m2 (.lst us2)) t (.tup [v, .ref m1, .ref m2])) := ((Same.new hm1).trans (Same.new hm2)).trans (Same.new ht)
    have i4 := i1.mono s4
    have g1 := upd_ne' (o := HO.tup [v, .ref m1, .ref m2]) ht (upd_ne' (o := HO.lst us2) hm2 (upd_same (H := H1) (a := m1) (o := HO.lst us1)))
    have g2 := upd_ne' (o := HO.tup [v, .ref m1, .ref m2]) ht (upd_same (H := upd H1 m1 (.lst us1)) (a := m2) (o := HO.lst us2))
    have g3 : (upd (upd (upd H1 m1 (.lst us1)) m2 (.lst us2)) t (.tup [v, .ref m1, .ref m2])) t = some (.tup [v, .ref m1, .ref m2]) := upd_same
    have f1 : m1 ∉ [p, l1, l2, sd] := EdAt.fresh ⟨dx, v, l1, l2, sd, ap, us1, us2, kvs, rfl, i1⟩ hm1
    have f2 : m2 ∉ [p, l1, l2, sd] := EdAt.fresh ⟨dx, v, l1, l2, sd, ap, us1, us2, kvs, rfl, i2⟩ hm2
    revert s4 i4 g1 g2 g3
    generalize upd (upd (upd H1 m1 (.lst us1)) m2 (.lst us2)) t (.tup [v, .ref m1, .ref m2]) = H4
    intro s4 i4 g1 g2 g3
    have ek : kvs = [] := by
      have sv := i.sv
      rw [es] at sv
      exact sv
    subst ek
    refine ⟨_, rfl, p, _, _, _, _, rfl, i4.ins, cE, T.n_saved, ef_saved, _, rfl, sd, _, rfl, DPut.k (k := Sum.inr allN) i4.hs (by decide), ?_⟩
    have fr : Fr [p, l1, l2, sd] H4 [p, l1, l2, sd] (upd H4 sd (.dK (putK [] (Sum.inr allN) (.ref t)))) := by
      intro b x hb nb
      refine ⟨nb, ?_⟩
      simp only [List.mem_cons, List.not_mem_nil, or_false, not_or] at nb
      rw [upd_ne nb.2.2.2]
      exact hb
    have tl := i4.tle fr
    have nps : p ≠ sd := ne_of i4.ins i4.hs (by intro z; cases z)
    have n1s : l1 ≠ sd := ne_of i4.h1 i4.hs (by intro z; cases z)
    have n2s : l2 ≠ sd := ne_of i4.h2 i4.hs (by intro z; cases z)
    refine q _ m1 m2 (Fr.pre (s1.trans s4) fr) ⟨dx, v, l1, l2, sd, ap, us1, us2, _, rfl, (upd_ne nps).trans i4.ins, i4.pr.mono tl, (upd_ne n1s).trans i4.h1, i4.t1.mono tl, (upd_ne n2s).trans i4.h2, i4.t2.mono tl, upd_same, ?_, i.ne⟩
    exact ⟨t, v, us1, us2, rfl, tl _ _ g3, i4.pr.mono tl, (fr _ _ g1 f1).2, i4.t1.mono tl, (fr _ _ g2 f2).2, i4.t2.mono tl, f1, f2⟩
/-! ### restore -/
def sp_restore (K : PySem.W.Frag) : Sp := fun vs H Q _ => ∃ (p : Addr) (own : List Addr) (e : Ed) (q0 : Sv), vs = [.ref p, .str allN] ∧ EdAt K H p own e ∧ e.sv = some q0 ∧
  ∀ H' own', Fr own H own' H' → EdAt K H' p own' ⟨q0.pr, q0.dn, q0.un, some q0⟩ → Q .non H'
abbrev N_Recorder_restore : List Str := ["self", "name", "present", "done", "undone"]
theorem sc_Recorder_restore : FnScope N_Recorder_restore ["self", "name"] (defScope s_Recorder_restore) := ⟨rfl, rfl, rfl, by decide +kernel, rfl, by decide +kernel, by decide +kernel⟩
theorem ok_restore (T : Tx w K mg) : GM P w K mg base CX0 1 (aE K) (He.ma K (aE K) "restore") ["self", "name"] (sp_restore K) := by
  refine gm0 T.f_Recorder_restore sc_Recorder_restore (fun _ F => F.bindsN fun _ _ _ _ _ _ us hl => match us, hl with | [_, _], _ => rfl) (fun vs H Q E h => ?_) (fun cdv A outer s H vs Q E hr h => ?_)
  · obtain ⟨p, own, e, q0, rfl, _⟩ := h
    rfl
  · obtain ⟨p, own, e, q0, rfl, ⟨dx, v, l1, l2, sd, ap, us1, us2, kvs, rfl, i⟩, es, q⟩ := h
    have cE := T.c_Editor
    have hu := hu_of hr
    have nd := sc_Recorder_restore.nd
    refine ⟨_, (pss_cons ((ps_if ((PW.pt (pw_or ((pt_not (pt_val ((pe_is "str" (pv 1) T.z_isinstance T.z_str boot_str))))) (pw_or1 (pt_cmp (pc_dnotin hu (pv 1) (pe_fld (pv 0) rfl)) rfl))))) (pss_never) (pss_nil))) (pss_cons ((ps_asg (pe_dget hu (pe_fld (pv 0) rfl) (pv 1) (fun _ _ => rfl)) ((pg_tup rfl (pgs_cons ((pg_name (i := 2) nd rfl (Or.inl rfl))) (pgs_cons ((pg_name (i := 3) nd rfl (Or.inl rfl))) (pgs_cons ((pg_name (i := 4) nd rfl (Or.inl rfl))) pgs_nil))))))) (pss_one ((ps_asg ((pe_tup (pa_cons (pv 2) (pa_cons ((pe_callTy (call_list_of) rfl T.z_list boot_list (pa_cons (pv 3) pa_nil))) (pa_cons ((pe_callTy (call_list_of) rfl T.z_list boot_list (pa_cons (pv 4) pa_nil))) pa_nil))))) (pg_tup rfl (pgs_cons (pg_fld (pv 0)) (pgs_cons (pg_fld (pv 0)) (pgs_cons (pg_fld (pv 0)) pgs_nil))))))))), ?_⟩
    have sv := i.sv
    rw [es] at sv
    obtain ⟨t0, v0, w1, w2, ek, ht0, tv0, hm1, tm1, hm2, tm2, nm1, nm2⟩ := sv
    subst ek
    refine ⟨_, rfl, true, is_ss, true, rfl, iteF ?_⟩
    refine ⟨_, rfl, _, rfl, p, _, _, _, _, rfl, i.ins, cE, T.n_saved, ef_saved, sd, _, rfl, DGet.k (k := Sum.inr allN) i.hs, _, rfl, iteF ?_⟩
    refine ⟨_, rfl, p, _, _, _, _, rfl, i.ins, cE, T.n_saved, ef_saved, _, rfl, sd, .ref t0, rfl, DGet.k (k := Sum.inr allN) i.hs, ?_⟩
    refine ⟨t0, _, rfl, SqT.of ht0, rfl, _, _, rfl, _, _, rfl, _, _, rfl, rfl, ?_⟩
    refine ⟨_, rfl, _, rfl, _, _, rfl, .inl (SqL.of hm1), fun n1 hn1 => ?_⟩
    refine ⟨_, rfl, _, _, rfl, .inl (SqL.of (upd_ne' hn1 hm2)), fun n2 hn2 => ?_⟩
    refine ⟨by show 3 ≤ sizeLine; decide, fun t ht => ?_⟩
    have s1 : Same H (upd (upd (upd H n1 (.lst w1)) n2 (.lst w2)) t (.tup [v0, .ref n1, .ref n2])) := ((Same.new hn1).trans (Same.new hn2)).trans (Same.new ht)
    have i1 := i.mono s1
    have g1 := upd_ne' (o := HO.tup [v0, .ref n1, .ref n2]) ht (upd_ne' (o := HO.lst w2) hn2 (upd_same (H := H) (a := n1) (o := HO.lst w1)))
    have g2 := upd_ne' (o := HO.tup [v0, .ref n1, .ref n2]) ht (upd_same (H := upd H n1 (.lst w1)) (a := n2) (o := HO.lst w2))
    have g3 : (upd (upd (upd H n1 (.lst w1)) n2 (.lst w2)) t (.tup [v0, .ref n1, .ref n2])) t = some (.tup [v0, .ref n1, .ref n2]) := upd_same
    have hn20 : H n2 = none := (Same.new (o := HO.lst w1) hn1).free hn2
    have n12 : n1 ≠ n2 := fun z => by rw [← z, upd_same] at hn2; cases hn2
    revert s1 i1 g1 g2 g3
    generalize upd (upd (upd H n1 (.lst w1)) n2 (.lst w2)) t (.tup [v0, .ref n1, .ref n2]) = H1
    intro s1 i1 g1 g2 g3
    refine ⟨t, _, rfl, SqT.of g3, rfl, _, _, rfl, ?_⟩
    refine ⟨_, rfl, p, _, dx, _, rfl, i1.ins, cE, T.n_present, by show 5 < 1000; decide, ?_⟩
    rw [eput_present]
    refine ⟨_, _, rfl, _, rfl, p, _, dx, _, rfl, upd_same, cE, T.n_done, by show 5 < 1000; decide, ?_⟩
    rw [eput_done]
    refine ⟨_, _, rfl, _, rfl, p, _, dx, _, rfl, upd_same, cE, T.n_undone, by show 5 < 1000; decide, rfl, ?_⟩
    rw [eput_undone]
    have fr : Fr [p, l1, l2, sd] H [p, n1, n2, sd] (upd (upd (upd H1 p (.ins (aE K) dx (edF v0 l1 l2 sd ap))) p (.ins (aE K) dx (edF v0 n1 l2 sd ap))) p (.ins (aE K) dx (edF v0 n1 n2 sd ap))) := by
      intro b x hb nb
      simp only [List.mem_cons, List.not_mem_nil, or_false, not_or] at nb ⊢
      refine ⟨⟨nb.1, ne_of_none hb hn1, ne_of_none hb hn20, nb.2.2.2⟩, ?_⟩
      rw [upd_ne nb.1, upd_ne nb.1, upd_ne nb.1]
      exact s1 _ _ hb
    have tl := i.tle fr
    have np1 : n1 ≠ p := (ne_of_none i.ins hn1).symm
    have np2 : n2 ≠ p := (ne_of_none i.ins hn20).symm
    have nps : sd ≠ p := (ne_of i.ins i.hs (by intro z; cases z)).symm
    refine q _ _ fr ⟨dx, v0, n1, n2, sd, ap, w1, w2, [((Sum.inr ("all" : Str) : L2.Key), V.ref t0)], rfl, upd_same, tv0.mono tl, ?_, tm1.mono tl, ?_, tm2.mono tl, ?_, ?_, n12⟩
    · rw [upd_ne np1, upd_ne np1, upd_ne np1]; exact g1
    · rw [upd_ne np2, upd_ne np2, upd_ne np2]; exact g2
    · rw [upd_ne nps, upd_ne nps, upd_ne nps]; exact i1.hs
    · exact ⟨t0, v0, w1, w2, rfl, tl _ _ ht0, tv0.mono tl, (fr _ _ hm1 nm1).2, tm1.mono tl, (fr _ _ hm2 nm2).2, tm2.mono tl, (fr _ _ hm1 nm1).1, (fr _ _ hm2 nm2).1⟩
end
end K68
end
section
set_option Elab.async false
set_option linter.all false
set_option maxRecDepth 100000
set_option maxHeartbeats 2000000
namespace K68
open PySem PySem.Spec PyProof.Rows L2
/-- the class of the error that a word stands for -/
def exN (z : Str) : Str := if z = "call" then "UnknownCall" else if z = "badcall" then "InvalidCall" else if z = "used" then "ServiceInUse" else if z = "service" then "UnknownService" else if z = "many" then "TooManyServices" else "TooManyCalls"
theorem exN_call : exN "call" = "UnknownCall" := by decide +kernel
theorem exN_badcall : exN "badcall" = "InvalidCall" := by decide +kernel
theorem exN_used : exN "used" = "ServiceInUse" := by decide +kernel
theorem exN_service : exN "service" = "UnknownService" := by decide +kernel
theorem exN_many : exN "many" = "TooManyServices" := by decide +kernel
theorem exN_full : exN "full" = "TooManyCalls" := by decide +kernel
/-- what an operation of the editor comes to: an error, nothing changed; or its result, entered -/
structure OpQ (K : PySem.W.Frag) (H : Hp) (p : Addr) (own : List Addr) (e : Ed) (d : Deed) (Q : VK) (E : XK) : Prop where
  no : ∀ z, (step e.pr d).w = some z → ∀ H', Same H H' → E (.ref (He.ga K (exN z))) none H'
  yes : (step e.pr d).w = none → ∀ v H' own', Fr own H own' H' → EdAt K H' p own' (e.enter d (step e.pr d).s) → Td H' v (step e.pr d).r → Q v H'
theorem OpQ.same {K : PySem.W.Frag} {H H1 : Hp} {p : Addr} {own : List Addr} {e : Ed} {d : Deed} {Q : VK} {E : XK} (h : OpQ K H p own e d Q E) (s : Same H H1) : OpQ K H1 p own e d Q E :=
  ⟨fun z hz H' s' => h.no z hz H' (s.trans s'), fun hn v H' own' f a t => h.yes hn v H' own' (Fr.pre s f) a t⟩
section
variable {P : Program} {w : World} {K : PySem.W.Frag} {mg : Str → Option Value} {base : Heap}
/-! ### call_at -/
def sp_call_at (K : PySem.W.Frag) : Sp := fun vs H Q E => ∃ (p : Addr) (own : List Addr) (e : Ed) (k : Nat), vs = [.ref p, .int (k : Nat)] ∧ EdAt K H p own e ∧
  (e.pr.cs[k]? = none → E (.ref (He.ga K "UnknownCall")) none H) ∧ ∀ c, e.pr.cs[k]? = some c → ∀ v, Td H v (clD c) → Q v H
abbrev N_Editor_call_at : List Str := ["self", "index", "calls"]
theorem sc_Editor_call_at : FnScope N_Editor_call_at ["self", "index"] (defScope s_Editor_call_at) := ⟨rfl, rfl, rfl, by decide +kernel, rfl, by decide +kernel, by decide +kernel⟩
theorem ok_call_at (T : Tx w K mg) : GM P w K mg base (L2N.CX P w) 2 (aE K) (He.ma K (aE K) "call_at") ["self", "index"] (sp_call_at K) := by
  have G1 := ok_is_integer (P := P) (base := base) T
  refine gmX T.f_Editor_call_at sc_Editor_call_at (fun _ F => F.bindsN fun _ _ _ _ _ _ us hl => match us, hl with | [_, _], _ => rfl) (fun vs H Q E h => ?_) (fun cdv A outer s H vs Q E hr h => ?_)
  · obtain ⟨p, own, e, k, rfl, _⟩ := h
    rfl
  · obtain ⟨p, own, e, k, rfl, ⟨dx, v, l1, l2, sd, ap, us1, us2, kvs, rfl, i⟩, q0, q⟩ := h
    have nd := sc_Editor_call_at.nd
    obtain ⟨a, b, us, rfl, ha, hb, hu⟩ := i.pr.sy_inv
    have hlen : us.length = e.pr.cs.length := by rw [hu.len, List.length_map]
    refine ⟨_, (pss_cons ((ps_set (i := 2) nd rfl (Or.inl rfl) ((pe_ix ix_tup (pe_fld (pv 0) rfl) (pe_int) (fun _ _ => rfl))))) (pss_cons ((ps_if ((pt_not (pt_val ((pe_f G1 (hr) (pass0) (pa_cons (pv 1) (pa_cons (pe_int) (pa_cons ((pe_op (op_sub) ((pe_callB call_len_seq rfl T.z_len boot_len (pa_cons (pv 2) pa_nil))) (pe_int))) pa_nil)))))))) ((pss_one ((L2N.ps_raise rfl (L2N.takes_of rfl rfl rfl rfl) (L2N.pmk_own PySem.F.excBase_ValueError T.x_UnknownCall.1 T.g_UnknownCall T.x_UnknownCall.2.1 (raises_own T.x_UnknownCall.2.2.1 T.x_UnknownCall.2.2.2) (by exact rfl)))))) (pss_nil))) (pss_one ((ps_ret ((pe_ix ix_tup (pv 2) (pv 1) (fun _ _ => rfl)))))))), ?_⟩
    refine ⟨_, rfl, p, _, _, _, _, rfl, i.ins, T.c_Editor, T.n_present, ef_present, a, _, _, _, rfl, rfl, SqT.of ha, rfl, ?_⟩
    refine ⟨_, rfl, _, rfl, b, _, rfl, .inr (SqT.of hb), _, _, rfl, rfl, _, _, _, rfl, _, rfl, ?_⟩
    rw [hlen]
    cases ec : e.pr.cs[k]? with
    | none =>
      have hk : e.pr.cs.length ≤ k := List.getElem?_eq_none_iff.mp ec
      rw [show isInt (k : Nat) 0 (((e.pr.cs.length : Nat) : Int) - 1) = false by unfold isInt; rw [decide_eq_false (p := ((k : Nat) : Int) ≤ _) (by omega)]; simp]
      exact iteT (q0 ec)
    | some c =>
      have hk : k < e.pr.cs.length := (List.getElem?_eq_some_iff.mp ec).1
      rw [isInt_mk (show (0 : Int) ≤ (k : Nat) by omega) (show ((k : Nat) : Int) ≤ ((e.pr.cs.length : Nat) : Int) - 1 by omega)]
      obtain ⟨vc, hvc, tc⟩ := hu.getD (i := k) (d := clD c) (by rw [List.getElem?_map, ec]; rfl)
      exact iteF ⟨_, rfl, _, rfl, b, _, _, _, rfl, rfl, SqT.of hb, atI_nat hvc, q c ec _ tc⟩
/-! ### add_call -/
theorem isCall_addC {n : Int} {c : Cl} (h : DeedOk (.addC c)) : isCall n c = decide (c.t < n) := by
  obtain ⟨h1, h2, h3, h4, h5, h6⟩ := h
  by_cases ht : c.t < n
  · rw [decide_eq_true ht]
    exact isCall_mk h1 h2 ht h3 h4 h5 h6
  · rw [decide_eq_false ht]
    unfold isCall
    have e : isInt c.t (c.c + 1) (n - 1) = false := by
      unfold isInt
      rw [decide_eq_false (p := c.t ≤ n - 1) (by omega)]
      simp
    rw [e]
    simp
def sp_add_call (K : PySem.W.Frag) : Sp := fun vs H Q E => ∃ (p : Addr) (own : List Addr) (e : Ed) (v : V) (c : Cl), vs = [.ref p, v] ∧ EdAt K H p own e ∧ Td H v (clD c) ∧ SysOk e.pr ∧ DeedOk (.addC c) ∧ e.dn.length < 1000 ∧ OpQ K H p own e (.addC c) Q E
abbrev N_Editor_add_call : List Str := ["self", "call", "count", "calls"]
theorem sc_Editor_add_call : FnScope N_Editor_add_call ["self", "call"] (defScope s_Editor_add_call) := ⟨rfl, rfl, rfl, by decide +kernel, rfl, by decide +kernel, by decide +kernel⟩
theorem ok_add_call (T : Tx w K mg) : GM P w K mg base (L2N.CX P w) 4 (aE K) (He.ma K (aE K) "add_call") ["self", "call"] (sp_add_call K) := by
  have G3 := ok_is_call (P := P) (base := base) T
  have GE := ok_enter (P := P) (base := base) T
  refine gmX T.f_Editor_add_call sc_Editor_add_call (fun _ F => F.bindsN fun _ _ _ _ _ _ us hl => match us, hl with | [_, _], _ => rfl) (fun vs H Q E h => ?_) (fun cdv A outer s H vs Q E hr h => ?_)
  · obtain ⟨p, own, e, v, c, rfl, _⟩ := h
    rfl
  · obtain ⟨p, own, e, vc, c, rfl, EA, tc, SO, DO, hl, q⟩ := h
    obtain ⟨dx, v, l1, l2, sd, ap, us1, us2, kvs, rfl, i⟩ := id EA
    have nd := sc_Editor_add_call.nd
    have cE := T.c_Editor
    have hr1 : Room 1 _ := hr.mono (by decide)
    obtain ⟨o1, o2, o3, o4⟩ := id SO
    obtain ⟨a, b, us, rfl, ha, hb, hu⟩ := i.pr.sy_inv
    have hlen : us.length = e.pr.cs.length := by rw [hu.len, List.length_map]
    refine ⟨_, (pss_cons ((ps_asg (pe_fld (pv 0) rfl) ((pg_tup rfl (pgs_cons ((pg_name (i := 2) nd rfl (Or.inl rfl))) (pgs_cons ((pg_name (i := 3) nd rfl (Or.inl rfl))) pgs_nil)))))) (pss_cons ((ps_if ((pt_not (pt_val ((pe_f G3 (hr) (pass0) (pa_cons (pv 2) (pa_cons (pv 1) pa_nil))))))) ((pss_one ((L2N.ps_raise rfl (L2N.takes_of rfl rfl rfl rfl) (L2N.pmk_own PySem.F.excBase_ValueError T.x_InvalidCall.1 T.g_InvalidCall T.x_InvalidCall.2.1 (raises_own T.x_InvalidCall.2.2.1 T.x_InvalidCall.2.2.2) (by exact rfl)))))) (pss_nil))) (pss_cons ((ps_if ((pt_cmpR (op_eq) ((pe_callB call_len_seq rfl T.z_len boot_len (pa_cons (pv 3) pa_nil))) (pe_gi T.i_MAX_CALLS) (nomark _))) ((pss_one ((L2N.ps_raise rfl (L2N.takes_of rfl rfl rfl rfl) (L2N.pmk_own PySem.F.excBase_ValueError T.x_TooManyCalls.1 T.g_TooManyCalls T.x_TooManyCalls.2.1 (raises_own T.x_TooManyCalls.2.2.1 T.x_TooManyCalls.2.2.2) (by exact rfl)))))) (pss_nil))) (pss_cons (ps_expr (pe_m GE T.m_enter cE (hr1) (pass0) (pv 0) (pa_cons ((pe_tup (pa_cons (pe_str) (pa_cons (pv 1) pa_nil)))) (pa_cons ((pe_tup (pa_cons (pv 2) (pa_cons ((pe_op (op_catS) (pv 3) ((pe_tup (pa_cons (pv 1) pa_nil))))) pa_nil)))) pa_nil)))) (pss_one ((ps_ret ((pe_callB call_len_seq rfl T.z_len boot_len (pa_cons (pv 3) pa_nil)))))))))), ?_⟩
    refine ⟨_, rfl, p, _, _, _, _, rfl, i.ins, cE, T.n_present, ef_present, a, _, rfl, SqT.of ha, rfl, _, _, rfl, _, _, rfl, rfl, ?_⟩
    refine ⟨_, rfl, _, rfl, _, vc, c, rfl, tc, fun H1 s1 => ⟨_, rfl, ?_⟩⟩
    rw [isCall_addC DO]
    by_cases c1 : c.t ≥ e.pr.n
    · rw [decide_eq_false (show ¬ c.t < e.pr.n by omega)]
      refine iteT ?_
      have := q.no "badcall" (by rw [step_addC, if_pos c1]; rfl) H1 s1
      rw [exN_badcall] at this
      exact this
    · rw [decide_eq_true (show c.t < e.pr.n by omega)]
      refine iteF ⟨_, rfl, b, _, rfl, .inr (SqT.of (s1 _ _ hb)), rfl, _, rfl, ?_⟩
      rw [hlen]
      by_cases c2 : e.pr.cs.length = 20
      · rw [decide_eq_true (by rw [c2]; rfl)]
        refine iteT ?_
        have := q.no "full" (by rw [step_addC, if_neg c1, if_pos c2]; rfl) H1 s1
        rw [exN_full] at this
        exact this
      · rw [decide_eq_false (by intro z; have := V.int.inj z; omega)]
        have i1 := i.mono s1
        refine iteF ⟨_, rfl, p, dx, _, rfl, i1.ins, ef_no (by decide +kernel) (by decide +kernel) (by decide +kernel) (by decide +kernel) (by decide +kernel), ?_⟩
        refine ⟨_, rfl, by show 2 ≤ sizeLine; decide, fun t1 ht1 => ?_⟩
        refine ⟨_, rfl, _, rfl, _, rfl, by show 1 ≤ sizeLine; decide, fun t2 ht2 => ?_⟩
        have s12 := (Same.new (o := HO.tup [.str "add_call", vc]) ht1).trans (Same.new (o := HO.tup [vc]) ht2)
        refine ⟨b, t2, us, [vc], rfl, rfl, s12 _ _ (s1 _ _ hb), upd_same, by rw [hlen]; exact Nat.le_trans (Nat.succ_le_succ o3) (by decide), fun t3 H3 s3 ht3 => ?_⟩
        refine ⟨by show 2 ≤ sizeLine; decide, fun t4 ht4 => ?_⟩
        have s13 := s1.trans ((s12.trans s3).trans (Same.new (o := HO.tup [.int e.pr.n, .ref t3]) ht4))
        have s34 := (Same.new (o := HO.tup [vc]) ht2).trans (s3.trans (Same.new (o := HO.tup [.int e.pr.n, .ref t3]) ht4))
        have est : step e.pr (.addC c) = ⟨⟨e.pr.n, e.pr.cs ++ [c]⟩, .int (e.pr.cs.length : Nat), none⟩ := by rw [step_addC, if_neg c1, if_neg c2]
        refine ⟨p, _, e, _, _, .addC c, ⟨e.pr.n, e.pr.cs ++ [c]⟩, rfl, EA.mono s13, .tup (s34 _ _ upd_same) (.cons (.str _) (.cons (tc.mono s13.tle) .nil)), Td.sy_mk upd_same (upd_ne' ht4 ht3) ?_, hl, fun H5 own' fr EA5 => ?_⟩
        · show TdAll _ _ ((e.pr.cs ++ [c]).map clD)
          rw [List.map_append]
          exact TdAll.append (hu.mono s13.tle) (.cons (tc.mono s13.tle) .nil)
        · have tl := (EA.mono s13).tle fr
          refine ⟨_, rfl, b, _, rfl, .inr (SqT.of (tl _ _ (s13 _ _ hb))), ?_⟩
          refine q.yes (by rw [est]) _ _ own' (Fr.pre s13 fr) (by rw [est]; exact EA5) ?_
          rw [est, hlen]
          exact .int _
end
end K68
end
section
set_option Elab.async false
set_option linter.all false
set_option maxRecDepth 100000
set_option maxHeartbeats 2000000
namespace K68
open PySem PySem.Spec PyProof.Rows L2
section
variable {P : Program} {w : World} {K : PySem.W.Frag} {mg : Str → Option Value} {base : Heap}
/-! ### remove_call -/
def sp_remove_call (K : PySem.W.Frag) : Sp := fun vs H Q E => ∃ (p : Addr) (own : List Addr) (e : Ed) (k : Nat), vs = [.ref p, .int (k : Nat)] ∧ EdAt K H p own e ∧ SysOk e.pr ∧ e.dn.length < 1000 ∧ OpQ K H p own e (.remC k) Q E
abbrev N_Editor_remove_call : List Str := ["self", "index", "call", "count", "calls"]
theorem sc_Editor_remove_call : FnScope N_Editor_remove_call ["self", "index"] (defScope s_Editor_remove_call) := ⟨rfl, rfl, rfl, by decide +kernel, rfl, by decide +kernel, by decide +kernel⟩
theorem ok_remove_call (T : Tx w K mg) : GM P w K mg base (L2N.CX P w) 3 (aE K) (He.ma K (aE K) "remove_call") ["self", "index"] (sp_remove_call K) := by
  have GC := ok_call_at (P := P) (base := base) T
  have GE := ok_enter (P := P) (base := base) T
  refine gmX T.f_Editor_remove_call sc_Editor_remove_call (fun _ F => F.bindsN fun _ _ _ _ _ _ us hl => match us, hl with | [_, _], _ => rfl) (fun vs H Q E h => ?_) (fun cdv A outer s H vs Q E hr h => ?_)
  · obtain ⟨p, own, e, k, rfl, _⟩ := h
    rfl
  · obtain ⟨p, own, e, k, rfl, EA, SO, hl, q⟩ := h
    obtain ⟨dx, v, l1, l2, sd, ap, us1, us2, kvs, rfl, i⟩ := id EA
    have nd := sc_Editor_remove_call.nd
    have cE := T.c_Editor
    have hr1 : Room 1 _ := hr.mono (by decide)
    obtain ⟨o1, o2, o3, o4⟩ := id SO
    obtain ⟨a, b, us, rfl, ha, hb, hu⟩ := i.pr.sy_inv
    have hlen : us.length = e.pr.cs.length := by rw [hu.len, List.length_map]
    refine ⟨_, (pss_cons ((ps_set (i := 2) nd rfl (Or.inl rfl) ((pe_m GC T.m_call_at cE (hr) ((L2N.passes_call (L2N.takes_of rfl rfl rfl rfl) (fun _ _ _ _ h => h))) (pv 0) (pa_cons (pv 1) pa_nil))))) (pss_cons ((ps_asg (pe_fld (pv 0) rfl) ((pg_tup rfl (pgs_cons ((pg_name (i := 3) nd rfl (Or.inl rfl))) (pgs_cons ((pg_name (i := 4) nd rfl (Or.inl rfl))) pgs_nil)))))) (pss_cons (ps_expr (pe_m GE T.m_enter cE (hr1) (pass0) (pv 0) (pa_cons ((pe_tup (pa_cons (pe_str) (pa_cons (pv 1) pa_nil)))) (pa_cons ((pe_tup (pa_cons (pv 3) (pa_cons ((pe_op (op_catS) ((pe_slice sl_tupS (pv 4) po_none (po_some (pv 1)))) ((pe_slice sl_tupS (pv 4) (po_some ((pe_op (op_add) (pv 1) (pe_int)))) po_none)))) pa_nil)))) pa_nil)))) (pss_one ((ps_ret (pv 2))))))), ?_⟩
    refine ⟨_, rfl, p, dx, _, rfl, i.ins, ef_no (by decide +kernel) (by decide +kernel) (by decide +kernel) (by decide +kernel) (by decide +kernel), _, rfl, p, _, e, k, rfl, EA, fun ec => ?_, fun c ec vc tc => ?_⟩
    · have := q.no "call" (by rw [step_remC, ec]; rfl) H (Same.refl _)
      rw [exN_call] at this
      exact this
    · have est : step e.pr (.remC k) = ⟨⟨e.pr.n, e.pr.cs.take k ++ e.pr.cs.drop (k + 1)⟩, clD c, none⟩ := by rw [step_remC, ec]
      refine ⟨_, rfl, p, _, _, _, _, rfl, i.ins, cE, T.n_present, ef_present, a, _, rfl, SqT.of ha, rfl, _, _, rfl, _, _, rfl, rfl, ?_⟩
      refine ⟨_, rfl, p, dx, _, rfl, i.ins, ef_no (by decide +kernel) (by decide +kernel) (by decide +kernel) (by decide +kernel) (by decide +kernel), ?_⟩
      refine ⟨_, rfl, by show 2 ≤ sizeLine; decide, fun t1 ht1 => ?_⟩
      have s1 := Same.new (o := HO.tup [.str "remove_call", .int (k : Nat)]) ht1
      refine ⟨_, rfl, _, rfl, _, rfl, _, rfl, b, us, rfl, s1 _ _ hb, fun t2 H2 s2 ht2 => ?_⟩
      rw [cutV_to] at ht2
      refine ⟨_, rfl, _, rfl, _, _, rfl, rfl, _, rfl, b, us, rfl, s2 _ _ (s1 _ _ hb), fun t3 H3 s3 ht3 => ?_⟩
      rw [show ((k : Int) + 1) = ((k + 1 : Nat) : Int) by omega, cutV_from] at ht3
      refine ⟨t2, t3, _, _, rfl, rfl, s3 _ _ ht2, ht3, ?_, fun t4 H4 s4 ht4 => ?_⟩
      · rw [List.length_take, List.length_drop]
        exact Nat.le_trans (show min k us.length + (us.length - (k + 1)) ≤ 40 by omega) (by decide)
      refine ⟨by show 2 ≤ sizeLine; decide, fun t5 ht5 => ?_⟩
      have s25 := ((s2.trans s3).trans s4).trans (Same.new (o := HO.tup [.int e.pr.n, .ref t4]) ht5)
      have s15 := s1.trans s25
      refine ⟨p, _, e, _, _, .remC k, ⟨e.pr.n, e.pr.cs.take k ++ e.pr.cs.drop (k + 1)⟩, rfl, EA.mono s15, .tup (s25 _ _ upd_same) (.cons (.str _) (.cons (.int _) .nil)), Td.sy_mk upd_same (upd_ne' ht5 ht4) ?_, hl, fun H6 own' fr EA6 => ?_⟩
      · show TdAll _ _ ((e.pr.cs.take k ++ e.pr.cs.drop (k + 1)).map clD)
        rw [List.map_append, List.map_take, List.map_drop]
        exact (TdAll.append (hu.take k) (hu.drop (k + 1))).mono s15.tle
      · have tl := (EA.mono s15).tle fr
        exact ⟨_, rfl, q.yes (by rw [est]) _ _ own' (Fr.pre s15 fr) (by rw [est]; exact EA6) (by rw [est]; exact (tc.mono s15.tle).mono tl)⟩
/-! ### replace -/
def sp_replace (K : PySem.W.Frag) : Sp := fun vs H Q E => ∃ (p : Addr) (own : List Addr) (e : Ed) (o v : V) (k : Nat) (d : Deed) (c : Cl), vs = [.ref p, o, .int (k : Nat), v] ∧ EdAt K H p own e ∧ Td H o (deedD d) ∧ Td H v (clD c) ∧ k < e.pr.cs.length ∧ SysOk e.pr ∧ e.dn.length < 1000 ∧
  (isCall e.pr.n c = false → ∀ H', Same H H' → E (.ref (He.ga K "InvalidCall")) none H') ∧ (isCall e.pr.n c = true → ∀ H' own', Fr own H own' H' → EdAt K H' p own' (e.enter d (putC e.pr k c)) → Q .non H')
abbrev N_Editor_replace : List Str := ["self", "operation", "index", "call", "count", "calls"]
theorem sc_Editor_replace : FnScope N_Editor_replace ["self", "operation", "index", "call"] (defScope s_Editor_replace) := ⟨rfl, rfl, rfl, by decide +kernel, rfl, by decide +kernel, by decide +kernel⟩
theorem ok_replace (T : Tx w K mg) : GM P w K mg base (L2N.CX P w) 4 (aE K) (He.ma K (aE K) "replace") ["self", "operation", "index", "call"] (sp_replace K) := by
  have G3 := ok_is_call (P := P) (base := base) T
  have GE := ok_enter (P := P) (base := base) T
  refine gmX T.f_Editor_replace sc_Editor_replace (fun _ F => F.bindsN fun _ _ _ _ _ _ us hl => match us, hl with | [_, _, _, _], _ => rfl) (fun vs H Q E h => ?_) (fun cdv A outer s H vs Q E hr h => ?_)
  · obtain ⟨p, own, e, o, v, k, d, c, rfl, _⟩ := h
    rfl
  · obtain ⟨p, own, e, o, vc, k, d, c, rfl, EA, to, tc, hk, SO, hl, q0, q⟩ := h
    obtain ⟨dx, v, l1, l2, sd, ap, us1, us2, kvs, rfl, i⟩ := id EA
    have nd := sc_Editor_replace.nd
    have cE := T.c_Editor
    have hr1 : Room 1 _ := hr.mono (by decide)
    obtain ⟨o1, o2, o3, o4⟩ := id SO
    obtain ⟨a, b, us, rfl, ha, hb, hu⟩ := i.pr.sy_inv
    have hlen : us.length = e.pr.cs.length := by rw [hu.len, List.length_map]
    refine ⟨_, (pss_cons ((ps_asg (pe_fld (pv 0) rfl) ((pg_tup rfl (pgs_cons ((pg_name (i := 4) nd rfl (Or.inl rfl))) (pgs_cons ((pg_name (i := 5) nd rfl (Or.inl rfl))) pgs_nil)))))) (pss_cons ((ps_if ((pt_not (pt_val ((pe_f G3 (hr) (pass0) (pa_cons (pv 4) (pa_cons (pv 3) pa_nil))))))) ((pss_one ((L2N.ps_raise rfl (L2N.takes_of rfl rfl rfl rfl) (L2N.pmk_own PySem.F.excBase_ValueError T.x_InvalidCall.1 T.g_InvalidCall T.x_InvalidCall.2.1 (raises_own T.x_InvalidCall.2.2.1 T.x_InvalidCall.2.2.2) (by exact rfl)))))) (pss_nil))) (pss_one (ps_expr (pe_m GE T.m_enter cE (hr1) (pass0) (pv 0) (pa_cons (pv 1) (pa_cons ((pe_tup (pa_cons (pv 4) (pa_cons ((pe_op (op_catS) ((pe_op (op_catS) ((pe_slice sl_tupS (pv 5) po_none (po_some (pv 2)))) ((pe_tup (pa_cons (pv 3) pa_nil))))) ((pe_slice sl_tupS (pv 5) (po_some ((pe_op (op_add) (pv 2) (pe_int)))) po_none)))) pa_nil)))) pa_nil))))))), ?_⟩
    refine ⟨_, rfl, p, _, _, _, _, rfl, i.ins, cE, T.n_present, ef_present, a, _, rfl, SqT.of ha, rfl, _, _, rfl, _, _, rfl, rfl, ?_⟩
    refine ⟨_, rfl, _, rfl, _, vc, c, rfl, tc, fun H1 s1 => ⟨_, rfl, ?_⟩⟩
    cases hc : isCall e.pr.n c with
    | false => exact iteT (q0 hc H1 s1)
    | true =>
      have i1 := i.mono s1
      refine iteF ⟨_, rfl, p, dx, _, rfl, i1.ins, ef_no (by decide +kernel) (by decide +kernel) (by decide +kernel) (by decide +kernel) (by decide +kernel), ?_⟩
      refine ⟨_, rfl, _, rfl, _, rfl, _, rfl, _, rfl, b, us, rfl, s1 _ _ hb, fun t2 H2 s2 ht2 => ?_⟩
      rw [cutV_to] at ht2
      refine ⟨_, rfl, by show 1 ≤ sizeLine; decide, fun t3 ht3 => ?_⟩
      have s23 := s2.trans (Same.new (o := HO.tup [vc]) ht3)
      refine ⟨t2, t3, _, _, rfl, rfl, upd_ne' ht3 ht2, upd_same, ?_, fun t4 H4 s4 ht4 => ?_⟩
      · rw [List.length_take]
        exact Nat.le_trans (show min k us.length + 1 ≤ 40 by omega) (by decide)
      refine ⟨_, rfl, _, rfl, _, _, rfl, rfl, _, rfl, b, us, rfl, s4 _ _ (s23 _ _ (s1 _ _ hb)), fun t5 H5 s5 ht5 => ?_⟩
      rw [show ((k : Int) + 1) = ((k + 1 : Nat) : Int) by omega, cutV_from] at ht5
      refine ⟨t4, t5, _, _, rfl, rfl, s5 _ _ ht4, ht5, ?_, fun t6 H6 s6 ht6 => ?_⟩
      · rw [List.length_append, List.length_take, List.length_drop]
        exact Nat.le_trans (show min k us.length + 1 + (us.length - (k + 1)) ≤ 40 by omega) (by decide)
      refine ⟨by show 2 ≤ sizeLine; decide, fun t7 ht7 => ?_⟩
      have s17 := s1.trans (((s23.trans s4).trans s5).trans (s6.trans (Same.new (o := HO.tup [.int e.pr.n, .ref t6]) ht7)))
      refine ⟨p, _, e, _, _, d, putC e.pr k c, rfl, EA.mono s17, to.mono s17.tle, Td.sy_mk (s := putC e.pr k c) upd_same (upd_ne' ht7 ht6) ?_, hl, fun H8 own' fr EA8 => q hc H8 own' (Fr.pre s17 fr) EA8⟩
      show TdAll _ _ ((e.pr.cs.take k ++ [c] ++ e.pr.cs.drop (k + 1)).map clD)
      rw [List.map_append, List.map_append, List.map_take, List.map_drop]
      exact (TdAll.append (TdAll.append (hu.take k) (.cons tc .nil)) (hu.drop (k + 1))).mono s17.tle
/-! ### set_offsets -/
theorem isCall_parts {n : Int} {c : Cl} (h : isCall n c = true) : 0 ≤ c.c ∧ c.c < c.t ∧ c.t < n ∧ areOffs c.o = true ∧ 0 ≤ c.l ∧ c.l ≤ 99 ∧ c.l ≤ c.m ∧ c.m ≤ 99 := by
  unfold isCall isInt at h
  simp only [Bool.and_eq_true, decide_eq_true_eq] at h
  obtain ⟨⟨h1, h2⟩, ⟨h3, h4⟩, h5, ⟨h6, h7⟩, h8, h9⟩ := h
  exact ⟨h1, by omega, by omega, h5, h6, h7, h8, h9⟩
theorem isCall_setO {n : Int} {c : Cl} {k : Nat} {os : List Int} (h : isCall n c = true) (d : DeedOk (.setO k os)) : isCall n ⟨c.c, c.t, os, c.l, c.m⟩ = !decide (os = [4, 1] ∨ os = []) := by
  obtain ⟨h1, h2, h3, h4, h5, h6, h7, h8⟩ := isCall_parts h
  have e : areOffs os = !decide (os = [4, 1] ∨ os = []) := by
    obtain ⟨_, rfl | rfl | rfl | rfl⟩ := d <;> decide
  rw [← e]
  cases eo : areOffs os with
  | true => exact isCall_mk h1 h2 h3 eo h5 h7 h8
  | false =>
    unfold isCall
    rw [show areOffs (Cl.mk c.c c.t os c.l c.m).o = false from eo]
    simp
theorem isCall_setD {n : Int} {c : Cl} {k : Nat} {l m : Int} (h : isCall n c = true) (d : DeedOk (.setD k l m)) : isCall n ⟨c.c, c.t, c.o, l, m⟩ = !decide (l > m) := by
  obtain ⟨h1, h2, h3, h4, h5, h6, h7, h8⟩ := isCall_parts h
  obtain ⟨_, d1, d2, d3, d4⟩ := d
  by_cases c1 : l > m
  · rw [decide_eq_true c1]
    unfold isCall
    rw [show isInt (Cl.mk c.c c.t c.o l m).m (Cl.mk c.c c.t c.o l m).l 99 = false by
      show isInt m l 99 = false
      unfold isInt
      rw [decide_eq_false (p := l ≤ m) (by omega)]
      rfl]
    simp
  · rw [decide_eq_false c1]
    exact isCall_mk h1 h2 h3 h4 d1 (by show l ≤ m; omega) d4
def sp_set_offsets (K : PySem.W.Frag) : Sp := fun vs H Q E => ∃ (p : Addr) (own : List Addr) (e : Ed) (k : Nat) (v : V) (os : List Int), vs = [.ref p, .int (k : Nat), v] ∧ EdAt K H p own e ∧ Td H v (intsD os) ∧ SysOk e.pr ∧ DeedOk (.setO k os) ∧ e.dn.length < 1000 ∧ OpQ K H p own e (.setO k os) Q E
abbrev N_Editor_set_offsets : List Str := ["self", "index", "offsets", "caller", "target", "former", "least", "most"]
theorem sc_Editor_set_offsets : FnScope N_Editor_set_offsets ["self", "index", "offsets"] (defScope s_Editor_set_offsets) := ⟨rfl, rfl, rfl, by decide +kernel, rfl, by decide +kernel, by decide +kernel⟩
theorem ok_set_offsets (T : Tx w K mg) : GM P w K mg base (L2N.CX P w) 5 (aE K) (He.ma K (aE K) "set_offsets") ["self", "index", "offsets"] (sp_set_offsets K) := by
  have GC := ok_call_at (P := P) (base := base) T
  have GR := ok_replace (P := P) (base := base) T
  refine gmX T.f_Editor_set_offsets sc_Editor_set_offsets (fun _ F => F.bindsN fun _ _ _ _ _ _ us hl => match us, hl with | [_, _, _], _ => rfl) (fun vs H Q E h => ?_) (fun cdv A outer s H vs Q E hr h => ?_)
  · obtain ⟨p, own, e, k, v, os, rfl, _⟩ := h
    rfl
  · obtain ⟨p, own, e, k, vo, os, rfl, EA, to, SO, DO, hl, q⟩ := h
    obtain ⟨dx, v, l1, l2, sd, ap, us1, us2, kvs, rfl, i⟩ := id EA
    have nd := sc_Editor_set_offsets.nd
    have cE := T.c_Editor
    have hr2 : Room 2 _ := hr.mono (by decide)
    refine ⟨_, (pss_cons ((ps_asg ((pe_m GC T.m_call_at cE (hr2) ((L2N.passes_call (L2N.takes_of rfl rfl rfl rfl) (fun _ _ _ _ h => h))) (pv 0) (pa_cons (pv 1) pa_nil))) ((pg_tup rfl (pgs_cons ((pg_name (i := 3) nd rfl (Or.inl rfl))) (pgs_cons ((pg_name (i := 4) nd rfl (Or.inl rfl))) (pgs_cons ((pg_name (i := 5) nd rfl (Or.inl rfl))) (pgs_cons ((pg_name (i := 6) nd rfl (Or.inl rfl))) (pgs_cons ((pg_name (i := 7) nd rfl (Or.inl rfl))) pgs_nil))))))))) (pss_cons (ps_expr (pe_m GR T.m_replace cE (hr) ((L2N.passes_call (L2N.takes_of rfl rfl rfl rfl) (fun _ _ _ _ h => h))) (pv 0) (pa_cons ((pe_tup (pa_cons (pe_str) (pa_cons (pv 1) (pa_cons (pv 2) pa_nil))))) (pa_cons (pv 1) (pa_cons ((pe_tup (pa_cons (pv 3) (pa_cons (pv 4) (pa_cons (pv 2) (pa_cons (pv 6) (pa_cons (pv 7) pa_nil))))))) pa_nil))))) (pss_one ((ps_ret (pv 5)))))), ?_⟩
    refine ⟨_, rfl, p, dx, _, rfl, i.ins, ef_no (by decide +kernel) (by decide +kernel) (by decide +kernel) (by decide +kernel) (by decide +kernel), _, rfl, p, _, e, k, rfl, EA, fun ec => ?_, fun c ec vc tc => ?_⟩
    · have := q.no "call" (by rw [step_setO, ec]; rfl) H (Same.refl _)
      rw [exN_call] at this
      exact this
    · obtain ⟨cp, co, rfl, hcp, hco⟩ := tc.cl_inv
      obtain ⟨wo, rfl, hwo⟩ := to.ints_inv
      refine ⟨cp, _, rfl, SqT.of hcp, rfl, _, _, rfl, _, _, rfl, _, _, rfl, _, _, rfl, _, _, rfl, rfl, ?_⟩
      refine ⟨_, rfl, p, dx, _, rfl, i.ins, ef_no (by decide +kernel) (by decide +kernel) (by decide +kernel) (by decide +kernel) (by decide +kernel), ?_⟩
      refine ⟨_, rfl, _, rfl, by show 3 ≤ sizeLine; decide, fun t1 ht1 => ?_⟩
      refine ⟨_, rfl, _, rfl, _, rfl, _, rfl, _, rfl, _, rfl, by show 5 ≤ sizeLine; decide, fun t2 ht2 => ?_⟩
      have s12 := (Same.new (o := HO.tup [.str "set_offsets", .int (k : Nat), .ref wo]) ht1).trans (Same.new (o := HO.tup [.int c.c, .int c.t, .ref wo, .int c.l, .int c.m]) ht2)
      have hk := (List.getElem?_eq_some_iff.mp ec).1
      have hic := isCall_setO (SO.2.2.2 c (List.mem_of_getElem? ec)) DO
      refine ⟨p, _, e, _, _, k, .setO k os, ⟨c.c, c.t, os, c.l, c.m⟩, rfl, EA.mono s12, .tup (upd_ne' ht2 upd_same) (.cons (.str _) (.cons (.int _) (.cons (to.mono s12.tle) .nil))), Td.cl_mk (x := ⟨c.c, c.t, os, c.l, c.m⟩) upd_same (s12 _ _ hwo), hk, SO, hl, fun hf H' s' => ?_, fun ht H' own' fr EA' => ?_⟩
      · rw [hf] at hic
        have cb : os = [4, 1] ∨ os = [] := by
          by_cases cb : os = [4, 1] ∨ os = []
          · exact cb
          · rw [decide_eq_false cb] at hic; cases hic
        have := q.no "badcall" (by rw [step_setO, ec]; dsimp only; rw [if_pos cb]; rfl) H' (s12.trans s')
        rw [exN_badcall] at this
        exact this
      · rw [ht] at hic
        have cb : ¬ (os = [4, 1] ∨ os = []) := by
          intro cb
          rw [decide_eq_true cb] at hic; cases hic
        have est : step e.pr (.setO k os) = ⟨putC e.pr k ⟨c.c, c.t, os, c.l, c.m⟩, intsD c.o, none⟩ := by rw [step_setO, ec]; dsimp only; rw [if_neg cb]
        have tl := (EA.mono s12).tle fr
        exact ⟨_, rfl, q.yes (by rw [est]) _ _ own' (Fr.pre s12 fr) (by rw [est]; exact EA') (by rw [est]; exact .tup (tl _ _ (s12 _ _ hco)) (TdAll.of_ints c.o))⟩
/-! ### set_delays -/
def sp_set_delays (K : PySem.W.Frag) : Sp := fun vs H Q E => ∃ (p : Addr) (own : List Addr) (e : Ed) (k : Nat) (l m : Int), vs = [.ref p, .int (k : Nat), .int l, .int m] ∧ EdAt K H p own e ∧ SysOk e.pr ∧ DeedOk (.setD k l m) ∧ e.dn.length < 1000 ∧ OpQ K H p own e (.setD k l m) Q E
abbrev N_Editor_set_delays : List Str := ["self", "index", "least", "most", "call"]
theorem sc_Editor_set_delays : FnScope N_Editor_set_delays ["self", "index", "least", "most"] (defScope s_Editor_set_delays) := ⟨rfl, rfl, rfl, by decide +kernel, rfl, by decide +kernel, by decide +kernel⟩
theorem ok_set_delays (T : Tx w K mg) : GM P w K mg base (L2N.CX P w) 5 (aE K) (He.ma K (aE K) "set_delays") ["self", "index", "least", "most"] (sp_set_delays K) := by
  have GC := ok_call_at (P := P) (base := base) T
  have GR := ok_replace (P := P) (base := base) T
  refine gmX T.f_Editor_set_delays sc_Editor_set_delays (fun _ F => F.bindsN fun _ _ _ _ _ _ us hl => match us, hl with | [_, _, _, _], _ => rfl) (fun vs H Q E h => ?_) (fun cdv A outer s H vs Q E hr h => ?_)
  · obtain ⟨p, own, e, k, l, m, rfl, _⟩ := h
    rfl
  · obtain ⟨p, own, e, k, l, m, rfl, EA, SO, DO, hl, q⟩ := h
    obtain ⟨dx, v, l1, l2, sd, ap, us1, us2, kvs, rfl, i⟩ := id EA
    have nd := sc_Editor_set_delays.nd
    have cE := T.c_Editor
    have hr2 : Room 2 _ := hr.mono (by decide)
    refine ⟨_, (pss_cons ((ps_set (i := 4) nd rfl (Or.inl rfl) ((pe_m GC T.m_call_at cE (hr2) ((L2N.passes_call (L2N.takes_of rfl rfl rfl rfl) (fun _ _ _ _ h => h))) (pv 0) (pa_cons (pv 1) pa_nil))))) (pss_cons (ps_expr (pe_m GR T.m_replace cE (hr) ((L2N.passes_call (L2N.takes_of rfl rfl rfl rfl) (fun _ _ _ _ h => h))) (pv 0) (pa_cons ((pe_tup (pa_cons (pe_str) (pa_cons (pv 1) (pa_cons (pv 2) (pa_cons (pv 3) pa_nil)))))) (pa_cons (pv 1) (pa_cons ((pe_op (op_catS) ((pe_slice sl_tupS (pv 4) po_none (po_some (pe_int)))) ((pe_tup (pa_cons (pv 2) (pa_cons (pv 3) pa_nil)))))) pa_nil))))) (pss_one ((ps_ret ((pe_slice sl_tupS (pv 4) (po_some (pe_int)) po_none))))))), ?_⟩
    refine ⟨_, rfl, p, dx, _, rfl, i.ins, ef_no (by decide +kernel) (by decide +kernel) (by decide +kernel) (by decide +kernel) (by decide +kernel), _, rfl, p, _, e, k, rfl, EA, fun ec => ?_, fun c ec vc tc => ?_⟩
    · have := q.no "call" (by rw [step_setD, ec]; rfl) H (Same.refl _)
      rw [exN_call] at this
      exact this
    · obtain ⟨cp, co, rfl, hcp, hco⟩ := tc.cl_inv
      refine ⟨_, rfl, p, dx, _, rfl, i.ins, ef_no (by decide +kernel) (by decide +kernel) (by decide +kernel) (by decide +kernel) (by decide +kernel), ?_⟩
      refine ⟨_, rfl, _, rfl, _, rfl, by show 4 ≤ sizeLine; decide, fun t1 ht1 => ?_⟩
      have s1 := Same.new (o := HO.tup [.str "set_delays", .int (k : Nat), .int l, .int m]) ht1
      refine ⟨_, rfl, _, rfl, 3, rfl, cp, _, rfl, s1 _ _ hcp, fun t2 H2 s2 ht2 => ?_⟩
      rw [clD_cut3] at ht2
      refine ⟨_, rfl, _, rfl, by show 2 ≤ sizeLine; decide, fun t3 ht3 => ?_⟩
      refine ⟨t2, t3, _, _, rfl, rfl, upd_ne' ht3 ht2, upd_same, by show 5 ≤ sizeLine; decide, fun t4 H4 s4 ht4 => ?_⟩
      have s24 := s2.trans ((Same.new (o := HO.tup [.int l, .int m]) ht3).trans s4)
      have s14 := s1.trans s24
      have hk := (List.getElem?_eq_some_iff.mp ec).1
      have hic := isCall_setD (SO.2.2.2 c (List.mem_of_getElem? ec)) DO
      refine ⟨p, _, e, _, _, k, .setD k l m, ⟨c.c, c.t, c.o, l, m⟩, rfl, EA.mono s14, .tup (s24 _ _ upd_same) (.cons (.str _) (.cons (.int _) (.cons (.int _) (.cons (.int _) .nil)))), Td.cl_mk (x := ⟨c.c, c.t, c.o, l, m⟩) ht4 (s14 _ _ hco), hk, SO, hl, fun hf H' s' => ?_, fun ht H' own' fr EA' => ?_⟩
      · rw [hf] at hic
        have cb : l > m := by
          by_cases cb : l > m
          · exact cb
          · rw [decide_eq_false cb] at hic; cases hic
        have := q.no "badcall" (by rw [step_setD, ec]; dsimp only; rw [if_pos cb]; rfl) H' (s14.trans s')
        rw [exN_badcall] at this
        exact this
      · rw [ht] at hic
        have cb : ¬ (l > m) := by
          intro cb
          rw [decide_eq_true cb] at hic; cases hic
        have est : step e.pr (.setD k l m) = ⟨putC e.pr k ⟨c.c, c.t, c.o, l, m⟩, .tuple [.int c.l, .int c.m], none⟩ := by rw [step_setD, ec]; dsimp only; rw [if_neg cb]
        have tl := (EA.mono s14).tle fr
        refine ⟨_, rfl, 3, rfl, cp, _, rfl, tl _ _ (s14 _ _ hcp), fun t5 H5 s5 ht5 => ?_⟩
        rw [clD_from3] at ht5
        exact q.yes (by rw [est]) _ _ own' ((Fr.pre s14 fr).same s5) (by rw [est]; exact EA'.mono s5) (by rw [est]; exact .tup ht5 (.cons (.int _) (.cons (.int _) .nil)))
/-! ### add_service -/
def sp_add_service (K : PySem.W.Frag) : Sp := fun vs H Q E => ∃ (p : Addr) (own : List Addr) (e : Ed), vs = [.ref p] ∧ EdAt K H p own e ∧ SysOk e.pr ∧ e.dn.length < 1000 ∧ OpQ K H p own e .addS Q E
abbrev N_Editor_add_service : List Str := ["self", "count", "calls"]
theorem sc_Editor_add_service : FnScope N_Editor_add_service ["self"] (defScope s_Editor_add_service) := ⟨rfl, rfl, rfl, by decide +kernel, rfl, by decide +kernel, by decide +kernel⟩
theorem ok_add_service (T : Tx w K mg) : GM P w K mg base (L2N.CX P w) 2 (aE K) (He.ma K (aE K) "add_service") ["self"] (sp_add_service K) := by
  have GE := ok_enter (P := P) (base := base) T
  refine gmX T.f_Editor_add_service sc_Editor_add_service (fun _ F => F.bindsN fun _ _ _ _ _ _ us hl => match us, hl with | [_], _ => rfl) (fun vs H Q E h => ?_) (fun cdv A outer s H vs Q E hr h => ?_)
  · obtain ⟨p, own, e, rfl, _⟩ := h
    rfl
  · obtain ⟨p, own, e, rfl, EA, SO, hl, q⟩ := h
    obtain ⟨dx, v, l1, l2, sd, ap, us1, us2, kvs, rfl, i⟩ := id EA
    have nd := sc_Editor_add_service.nd
    have cE := T.c_Editor
    obtain ⟨o1, o2, o3, o4⟩ := id SO
    obtain ⟨a, b, us, rfl, ha, hb, hu⟩ := i.pr.sy_inv
    refine ⟨_, (pss_cons ((ps_asg (pe_fld (pv 0) rfl) ((pg_tup rfl (pgs_cons ((pg_name (i := 1) nd rfl (Or.inl rfl))) (pgs_cons ((pg_name (i := 2) nd rfl (Or.inl rfl))) pgs_nil)))))) (pss_cons ((ps_if ((pt_cmpR (op_eq) (pv 1) (pe_gi T.i_MAX_SERVICES) (nomark _))) ((pss_one ((L2N.ps_raise rfl (L2N.takes_of rfl rfl rfl rfl) (L2N.pmk_own PySem.F.excBase_ValueError T.x_TooManyServices.1 T.g_TooManyServices T.x_TooManyServices.2.1 (raises_own T.x_TooManyServices.2.2.1 T.x_TooManyServices.2.2.2) (by exact rfl)))))) (pss_nil))) (pss_cons (ps_expr (pe_m GE T.m_enter cE (hr) (pass0) (pv 0) (pa_cons ((pe_tup (pa_cons (pe_str) pa_nil))) (pa_cons ((pe_tup (pa_cons ((pe_op (op_add) (pv 1) (pe_int))) (pa_cons (pv 2) pa_nil)))) pa_nil)))) (pss_one ((ps_ret (pv 1))))))), ?_⟩
    refine ⟨_, rfl, p, _, _, _, _, rfl, i.ins, cE, T.n_present, ef_present, a, _, rfl, SqT.of ha, rfl, _, _, rfl, _, _, rfl, rfl, ?_⟩
    refine ⟨_, rfl, rfl, _, rfl, ?_⟩
    by_cases c1 : e.pr.n = 8
    · rw [decide_eq_true (by rw [c1])]
      refine iteT ?_
      have := q.no "many" (by rw [step_addS, if_neg (by omega)]; rfl) H (Same.refl _)
      rw [exN_many] at this
      exact this
    · rw [decide_eq_false (by intro z; exact c1 (V.int.inj z))]
      have est : step e.pr .addS = ⟨⟨e.pr.n + 1, e.pr.cs⟩, .int e.pr.n, none⟩ := by rw [step_addS, if_pos (by omega)]
      refine iteF ⟨_, rfl, p, dx, _, rfl, i.ins, ef_no (by decide +kernel) (by decide +kernel) (by decide +kernel) (by decide +kernel) (by decide +kernel), ?_⟩
      refine ⟨by show 1 ≤ sizeLine; decide, fun t1 ht1 => ?_⟩
      refine ⟨_, rfl, _, _, rfl, rfl, _, rfl, by show 2 ≤ sizeLine; decide, fun t2 ht2 => ?_⟩
      have s12 := (Same.new (o := HO.tup [.str "add_service"]) ht1).trans (Same.new (o := HO.tup [.int (e.pr.n + 1), .ref b]) ht2)
      refine ⟨p, _, e, _, _, .addS, ⟨e.pr.n + 1, e.pr.cs⟩, rfl, EA.mono s12, .tup (upd_ne' ht2 upd_same) (.cons (.str _) .nil), Td.sy_mk upd_same (s12 _ _ hb) (hu.mono s12.tle), hl, fun H3 own' fr EA3 => ?_⟩
      exact ⟨_, rfl, q.yes (by rw [est]) _ _ own' (Fr.pre s12 fr) (by rw [est]; exact EA3) (by rw [est]; exact .int _)⟩
end
end K68
end
section
set_option Elab.async false
set_option linter.all false
set_option maxRecDepth 100000
set_option maxHeartbeats 2000000
namespace K68
open PySem PySem.Spec PyProof.Rows L2
theorem hasS_filter (s : Sys) (k : Int) : (!((s.cs.filter fun c => decide (k ∈ [c.c, c.t])).map clD).isEmpty) = hasS s k := by
  unfold hasS
  rw [Bool.eq_iff_iff, List.any_eq_true]
  constructor
  · intro h
    cases ef : s.cs.filter fun c => decide (k ∈ [c.c, c.t]) with
    | nil => rw [ef] at h; cases h
    | cons z zs =>
      have hz : z ∈ s.cs.filter fun c => decide (k ∈ [c.c, c.t]) := by rw [ef]; exact List.mem_cons_self ..
      exact ⟨z, (List.mem_filter.mp hz).1, (List.mem_filter.mp hz).2⟩
  · rintro ⟨z, hz1, hz2⟩
    have hz : z ∈ s.cs.filter fun c => decide (k ∈ [c.c, c.t]) := List.mem_filter.mpr ⟨hz1, hz2⟩
    cases ef : s.cs.filter fun c => decide (k ∈ [c.c, c.t]) with
    | nil => rw [ef] at hz; cases hz
    | cons z zs => rfl
section
variable {P : Program} {w : World} {K : PySem.W.Frag} {mg : Str → Option Value} {base : Heap}
def sp_remove_service (K : PySem.W.Frag) : Sp := fun vs H Q E => ∃ (p : Addr) (own : List Addr) (e : Ed) (k : Int), vs = [.ref p, .int k] ∧ EdAt K H p own e ∧ SysOk e.pr ∧ e.dn.length < 1000 ∧ OpQ K H p own e (.remS k) Q E
abbrev N_Editor_remove_service : List Str := ["self", "service", "count", "calls", "call"]
theorem sc_Editor_remove_service : FnScope N_Editor_remove_service ["self", "service"] (defScope s_Editor_remove_service) := ⟨rfl, rfl, rfl, by decide +kernel, rfl, by decide +kernel, by decide +kernel⟩
theorem ok_remove_service (T : Tx w K mg) : GM P w K mg base (L2N.CX P w) 2 (aE K) (He.ma K (aE K) "remove_service") ["self", "service"] (sp_remove_service K) := by
  have G1 := ok_is_integer (P := P) (base := base) T
  have G2 := ok_renumbered (P := P) (base := base) T
  have GE := ok_enter (P := P) (base := base) T
  refine gmX T.f_Editor_remove_service sc_Editor_remove_service (fun _ F => F.bindsN fun _ _ _ _ _ _ us hl => match us, hl with | [_, _], _ => rfl) (fun vs H Q E h => ?_) (fun cdv A outer s H vs Q E hr h => ?_)
  · obtain ⟨p, own, e, k, rfl, _⟩ := h
    rfl
  · obtain ⟨p, own, e, k, rfl, EA, SO, hl, q⟩ := h
    obtain ⟨dx, v, l1, l2, sd, ap, us1, us2, kvs, rfl, i⟩ := id EA
    have nd := sc_Editor_remove_service.nd
    have cE := T.c_Editor
    obtain ⟨o1, o2, o3, o4⟩ := id SO
    obtain ⟨a, b, us, rfl, ha, hb, hu⟩ := i.pr.sy_inv
    have hlen : us.length = e.pr.cs.length := by rw [hu.len, List.length_map]
    have big : sizeLine > 1000 := by decide
    refine ⟨_, (pss_cons ((ps_asg (pe_fld (pv 0) rfl) ((pg_tup rfl (pgs_cons ((pg_name (i := 2) nd rfl (Or.inl rfl))) (pgs_cons ((pg_name (i := 3) nd rfl (Or.inl rfl))) pgs_nil)))))) (pss_cons ((ps_if ((pt_not (pt_val ((pe_f G1 (hr) (pass0) (pa_cons (pv 1) (pa_cons (pe_int) (pa_cons ((pe_op (op_sub) (pv 2) (pe_int))) pa_nil)))))))) ((pss_one ((L2N.ps_raise rfl (L2N.takes_of rfl rfl rfl rfl) (L2N.pmk_own PySem.F.excBase_ValueError T.x_UnknownService.1 T.g_UnknownService T.x_UnknownService.2.1 (raises_own T.x_UnknownService.2.2.1 T.x_UnknownService.2.2.2) (by exact rfl)))))) (pss_nil))) (pss_cons ((ps_if ((pt_cmpR (op_neD hr.units) (pe_lc (own := [("call", 4)]) (g := gName 4) rfl nd (pi_tup (pv 3)) (blkOk_by (N := N_Editor_remove_service) (sc := defScope s_Editor_remove_service) (by decide +kernel)) (fun _ _ _ _ _ => pg_name (i := 4) nd rfl (Or.inl rfl)) (fun _ _ _ _ _ => pts_one (pt_cmpR (op_inI) (pv 1) ((pe_slice sl_tupS (pv 4) po_none (po_some (pe_int)))) (by rfl))) (fun _ _ _ _ _ => pv 4)) (pe_lst pa_nil) (nomark _))) ((pss_one ((L2N.ps_raise rfl (L2N.takes_of rfl rfl rfl rfl) (L2N.pmk_own PySem.F.excBase_ValueError T.x_ServiceInUse.1 T.g_ServiceInUse T.x_ServiceInUse.2.1 (raises_own T.x_ServiceInUse.2.2.1 T.x_ServiceInUse.2.2.2) (by exact rfl)))))) (pss_nil))) (pss_one (ps_expr (pe_m GE T.m_enter cE (hr) (pass0) (pv 0) (pa_cons ((pe_tup (pa_cons (pe_str) (pa_cons (pv 1) pa_nil)))) (pa_cons ((pe_tup (pa_cons ((pe_op (op_sub) (pv 2) (pe_int))) (pa_cons ((pe_callTy (call_tuple_of) rfl T.z_tuple boot_tuple (pa_cons (pe_lc (own := [("call", 4)]) (g := gName 4) (tt := tYes) rfl nd (pi_tup (pv 3)) (blkOk_by (N := N_Editor_remove_service) (sc := defScope s_Editor_remove_service) (by decide +kernel)) (fun _ _ _ _ _ => pg_name (i := 4) nd rfl (Or.inl rfl)) (fun _ _ _ _ _ => pts_nil) (fun _ _ _ _ _ => (pe_f G2 (hr) (pass0) (pa_cons (pv 4) (pa_cons (pv 1) pa_nil))))) pa_nil))) pa_nil)))) pa_nil)))))))), ?_⟩
    refine ⟨_, rfl, p, _, _, _, _, rfl, i.ins, cE, T.n_present, ef_present, a, _, rfl, SqT.of ha, rfl, _, _, rfl, _, _, rfl, rfl, ?_⟩
    refine ⟨_, rfl, _, rfl, _, _, rfl, rfl, _, _, _, rfl, _, rfl, ?_⟩
    by_cases c1 : 1 ≤ k ∧ k < e.pr.n
    · rw [isInt_mk c1.1 (show k ≤ e.pr.n - 1 by omega)]
      have eo : step e.pr (.remS k) = if hasS e.pr k = true then bad e.pr "used" else ⟨⟨e.pr.n - 1, e.pr.cs.map (ren k)⟩, .none, none⟩ := by
        rw [step_remS, if_pos c1]
      refine iteF ⟨_, rfl, b, rfl, ⟨_, SqT.of hb⟩, fun D hD => ?_⟩
      refine lc_s (walk_tup (xs := us)) hD (fun i acc H' => TdAll H' acc (((e.pr.cs.take i).filter fun c => decide (k ∈ [c.c, c.t])).map clD)) .nil (fun H2 s2 => SqT.of (s2 _ _ hb)) (fun i x H2 H2' acc hi s2 hacc lacc acc1 yl => ?_) (fun H2 acc s2 hacc acc1 => ?_)
      · obtain ⟨rfl, hx⟩ := yl
        obtain ⟨d, hd, td⟩ := (hu.mono s2.tle).get hx
        rw [List.getElem?_map] at hd
        cases ec : e.pr.cs[i]? with
        | none => rw [ec] at hd; cases hd
        | some c =>
          rw [ec] at hd
          cases Option.some.inj hd
          obtain ⟨x0, o, rfl, he, ho⟩ := td.cl_inv
          have step2 : ((e.pr.cs.take (i + 1)).filter fun c => decide (k ∈ [c.c, c.t])).map clD = (((e.pr.cs.take i).filter fun c => decide (k ∈ [c.c, c.t])).map clD) ++ (if k ∈ [c.c, c.t] then [clD c] else []) := by
            rw [take_more ec, List.filter_append, List.map_append]
            congr 1
            by_cases cz : k ∈ [c.c, c.t]
            · rw [if_pos cz, List.filter_cons, if_pos (decide_eq_true cz)]; rfl
            · rw [if_neg cz, List.filter_cons, if_neg (by rw [decide_eq_false cz]; exact Bool.false_ne_true)]; rfl
          refine ⟨rfl, _, rfl, _, rfl, 2, rfl, x0, _, rfl, he, fun p3 H3 s3 hp3 => ?_⟩
          have acc3 := acc1.mono s3.tle
          have hacc3 := s3 _ _ hacc
          refine ⟨k, p3, [c.c, c.t], rfl, rfl, .inr (hp3.trans (congrArg (fun z => some (HO.tup z)) (cutV_to _ 2))), _, rfl, ?_⟩
          by_cases ck : k ∈ [c.c, c.t]
          · rw [decide_eq_true ck]
            refine iteT ⟨_, rfl, LcP.push hD (s2.trans s3) hacc3 lacc (by omega) ?_⟩
            show TdAll _ _ _
            rw [step2, if_pos ck]
            exact TdAll.append (acc3.mono (tle_lst hacc3)) (.cons ((td.mono s3.tle).mono (tle_lst hacc3)) .nil)
          · rw [decide_eq_false ck]
            refine iteF (LcP.skip (s2.trans s3) hacc3 lacc ?_)
            show TdAll _ _ _
            rw [step2, if_neg ck, List.append_nil]
            exact acc3
      · rw [hlen, List.take_length] at acc1
        refine ⟨Nat.zero_le _, fun m hm => ?_⟩
        have hacc2 := upd_ne' (o := HO.lst []) hm hacc
        have acc2 := TdAll.mono (Same.new (o := HO.lst []) hm).tle acc1
        refine ⟨.list ((e.pr.cs.filter fun c => decide (k ∈ [c.c, c.t])).map clD), .list [], .lst (SqL.of hacc2) acc2.dp, .lst (SqL.of upd_same) .nil, (Pl.lst (n := 2) fun d hd => by
          obtain ⟨x, _, rfl⟩ := List.mem_map.mp hd
          exact Pl.cl x).shaped (by decide), by decide, _, rfl, ?_⟩
        rw [eqv_nil, hasS_filter]
        have s3 : Same H (upd H2 m (.lst [])) := s2.trans (Same.new hm)
        revert s3
        generalize upd H2 m (.lst []) = H3
        intro s3
        by_cases ch : hasS e.pr k = true
        · rw [ch]
          refine iteT ?_
          have := q.no "used" (by rw [eo, if_pos ch]; rfl) H3 s3
          rw [exN_used] at this
          exact this
        · rw [Bool.eq_false_iff.mpr ch]
          rw [if_neg ch] at eo
          have i3 := i.mono s3
          refine iteF ⟨_, rfl, p, dx, _, rfl, i3.ins, ef_no (by decide +kernel) (by decide +kernel) (by decide +kernel) (by decide +kernel) (by decide +kernel), ?_⟩
          refine ⟨_, rfl, by show 2 ≤ sizeLine; decide, fun t1 ht1 => ?_⟩
          have s4 := s3.trans (Same.new (o := HO.tup [.str "remove_service", .int k]) ht1)
          have ht1' : (upd H3 t1 (.tup [.str "remove_service", .int k])) t1 = some (.tup [.str "remove_service", .int k]) := upd_same
          revert s4 ht1'
          generalize upd H3 t1 (.tup [.str "remove_service", .int k]) = H4
          intro s4 ht1'
          refine ⟨_, rfl, _, _, rfl, rfl, _, rfl, b, rfl, ⟨_, SqT.of (s4 _ _ hb)⟩, fun D2 hD2 => ?_⟩
          refine lc_s (walk_tup (xs := us)) hD2 (fun i acc H' => TdAll H' acc ((e.pr.cs.take i).map fun c => clD (ren k c))) .nil (fun H5 s5 => SqT.of (s5 _ _ (s4 _ _ hb))) (fun i x H5 H5' acc5 hi s5 hacc5 lacc5 acc6 yl => ?_) (fun H5 acc5 s5 hacc5 acc6 => ?_)
          · obtain ⟨rfl, hx⟩ := yl
            obtain ⟨d, hd, td⟩ := ((hu.mono s4.tle).mono s5.tle).get hx
            rw [List.getElem?_map] at hd
            cases ec : e.pr.cs[i]? with
            | none => rw [ec] at hd; cases hd
            | some c =>
              rw [ec] at hd
              cases Option.some.inj hd
              refine ⟨rfl, _, rfl, _, rfl, x, c, k, rfl, td, fun v' H6 s6 t6 => ?_⟩
              refine LcP.push hD2 (s5.trans s6) (s6 _ _ hacc5) lacc5 (by omega) ?_
              show TdAll _ _ _
              rw [take_more ec, List.map_append]
              have tl := tle_lst (o := HO.lst (acc5 ++ [v'])) (s6 _ _ hacc5)
              exact TdAll.append ((TdAll.mono s6.tle acc6).mono tl) (.cons (t6.mono tl) .nil)
          · rw [hlen, List.take_length] at acc6
            refine ⟨D2, acc5, rfl, .inl ⟨SqL.of hacc5, fun t2 ht2 => ?_⟩⟩
            refine ⟨by show 2 ≤ sizeLine; decide, fun t3 ht3 => ?_⟩
            have s53 := s5.trans ((Same.new (o := HO.tup acc5) ht2).trans (Same.new (o := HO.tup [.int (e.pr.n - 1), .ref t2]) ht3))
            have s23 := (Same.new (o := HO.tup acc5) ht2).trans (Same.new (o := HO.tup [.int (e.pr.n - 1), .ref t2]) ht3)
            have sall := s4.trans s53
            refine ⟨p, _, e, _, _, .remS k, ⟨e.pr.n - 1, e.pr.cs.map (ren k)⟩, rfl, EA.mono sall, .tup (s53 _ _ ht1') (.cons (.str _) (.cons (.int _) .nil)), Td.sy_mk upd_same (upd_ne' ht3 upd_same) ?_, hl, fun H7 own' fr EA7 => ?_⟩
            · show TdAll _ _ ((e.pr.cs.map (ren k)).map clD)
              rw [List.map_map]
              exact TdAll.mono s23.tle acc6
            · exact q.yes (by rw [eo]) _ _ own' (Fr.pre sall fr) (by rw [eo]; exact EA7) (by rw [eo]; exact .non)
    · have en : isInt k 1 (e.pr.n - 1) = false := by
        unfold isInt
        by_cases c2 : 1 ≤ k
        · rw [decide_eq_false (p := k ≤ e.pr.n - 1) (by omega)]; simp
        · rw [decide_eq_false c2]; rfl
      rw [en]
      refine iteT ?_
      have := q.no "service" (by rw [step_remS, if_neg c1]; rfl) H (Same.refl _)
      rw [exN_service] at this
      exact this
/-! ### execute, and _law_asked: an operation by its word -/
def sp_execute (K : PySem.W.Frag) : Sp := fun vs H Q E => ∃ (p : Addr) (own : List Addr) (e : Ed) (u : V) (d : Deed), vs = [.ref p, u] ∧ EdAt K H p own e ∧ Td H u (deedD d) ∧ SysOk e.pr ∧ DeedOk d ∧ e.dn.length < 1000 ∧ OpQ K H p own e d Q E
abbrev N__law_asked : List Str := ["_law_editor", "_law_deed_here", "_law_word"]
theorem sc__law_asked : FnScope N__law_asked ["_law_editor", "_law_deed_here"] (defScope s__law_asked) := ⟨rfl, rfl, rfl, by decide +kernel, rfl, by decide +kernel, by decide +kernel⟩
theorem ok_asked (T : Tx w K mg) : GF P w K mg base (L2N.CX P w) 6 "_law_asked" ["_law_editor", "_law_deed_here"] (sp_execute K) := by
  have g1 := ok_add_call (P := P) (base := base) T
  have g2 := ok_remove_call (P := P) (base := base) T
  have g3 := ok_set_offsets (P := P) (base := base) T
  have g4 := ok_set_delays (P := P) (base := base) T
  have g5 := ok_add_service (P := P) (base := base) T
  have g6 := ok_remove_service (P := P) (base := base) T
  refine gfX T.f__law_asked T.g__law_asked sc__law_asked (fun _ F => F.bindsN fun _ _ _ _ _ _ us hl => match us, hl with | [_, _], _ => rfl) (fun vs H Q E h => ?_) (fun cdv A outer s H vs Q E hr h => ?_)
  · obtain ⟨p, own, e, u, d, rfl, _⟩ := h
    rfl
  · obtain ⟨p, own, e, u, d, rfl, EA, td, SO, DO, hl, q⟩ := h
    obtain ⟨dx, v, l1, l2, sd, ap, us1, us2, kvs, rfl, i⟩ := id EA
    have nd := sc__law_asked.nd
    have cE := T.c_Editor
    have r2 : Room 2 _ := hr.mono (by decide)
    have r3 : Room 3 _ := hr.mono (by decide)
    have r4 : Room 4 _ := hr.mono (by decide)
    refine ⟨_, (pss_cons ((ps_set (i := 2) nd rfl (Or.inl rfl) ((pe_ix ix_tup (pv 1) (pe_int) (fun _ _ => rfl))))) (pss_cons ((ps_if ((pt_cmpR (op_eq) (pv 2) (pe_str) (nomark _))) ((pss_one ((ps_ret ((pe_m g1 T.m_add_call cE (r4) ((L2N.passes_call (L2N.takes_of rfl rfl rfl rfl) (fun _ _ _ _ h => h))) (pv 0) (pa_cons ((pe_ix ix_tup (pv 1) (pe_int) (fun _ _ => rfl))) pa_nil))))))) (pss_nil))) (pss_cons ((ps_if ((pt_cmpR (op_eq) (pv 2) (pe_str) (nomark _))) ((pss_one ((ps_ret ((pe_m g2 T.m_remove_call cE (r3) ((L2N.passes_call (L2N.takes_of rfl rfl rfl rfl) (fun _ _ _ _ h => h))) (pv 0) (pa_cons ((pe_ix ix_tup (pv 1) (pe_int) (fun _ _ => rfl))) pa_nil))))))) (pss_nil))) (pss_cons ((ps_if ((pt_cmpR (op_eq) (pv 2) (pe_str) (nomark _))) ((pss_one ((ps_ret ((pe_m g3 T.m_set_offsets cE (hr) ((L2N.passes_call (L2N.takes_of rfl rfl rfl rfl) (fun _ _ _ _ h => h))) (pv 0) (pa_cons ((pe_ix ix_tup (pv 1) (pe_int) (fun _ _ => rfl))) (pa_cons ((pe_ix ix_tup (pv 1) (pe_int) (fun _ _ => rfl))) pa_nil)))))))) (pss_nil))) (pss_cons ((ps_if ((pt_cmpR (op_eq) (pv 2) (pe_str) (nomark _))) ((pss_one ((ps_ret ((pe_m g4 T.m_set_delays cE (hr) ((L2N.passes_call (L2N.takes_of rfl rfl rfl rfl) (fun _ _ _ _ h => h))) (pv 0) (pa_cons ((pe_ix ix_tup (pv 1) (pe_int) (fun _ _ => rfl))) (pa_cons ((pe_ix ix_tup (pv 1) (pe_int) (fun _ _ => rfl))) (pa_cons ((pe_ix ix_tup (pv 1) (pe_int) (fun _ _ => rfl))) pa_nil))))))))) (pss_nil))) (pss_one ((ps_ret (pe_ifExp (pt_cmpR (op_eq) (pv 2) (pe_str) (nomark _)) (pe_m0 g5 T.m_add_service cE (r2) ((L2N.passes_call (L2N.takes_of rfl rfl rfl rfl) (fun _ _ _ _ h => h))) (pv 0)) (pe_m g6 T.m_remove_service cE (r2) ((L2N.passes_call (L2N.takes_of rfl rfl rfl rfl) (fun _ _ _ _ h => h))) (pv 0) (pa_cons ((pe_ix ix_tup (pv 1) (pe_int) (fun _ _ => rfl))) pa_nil))))))))))), ?_⟩
    have mno : ∀ {m : Str}, (m == ("present" : Str)) = false → (m == ("done" : Str)) = false → (m == ("undone" : Str)) = false → (m == ("saved" : Str)) = false → (m == ("is_applying" : Str)) = false → (edF v l1 l2 sd ap).lookup m = none := fun a b c d e => ef_no a b c d e
    cases d with
    | addC c =>
      obtain ⟨t, xs, rfl, hp, g⟩ := td.tup_inv
      obtain ⟨w1, r1, rfl, e1, g⟩ := g.cons_inv
      obtain ⟨w2, r2', rfl, e2, g⟩ := g.cons_inv
      obtain rfl := g.nil_inv
      obtain rfl := e1.str_inv
      refine ⟨_, rfl, t, _, _, _, rfl, rfl, SqT.of hp, rfl, _, rfl, rfl, _, rfl, ?_⟩
      rw [sT]
      exact iteT ⟨_, rfl, p, dx, _, rfl, i.ins, mno (by decide +kernel) (by decide +kernel) (by decide +kernel) (by decide +kernel) (by decide +kernel), _, rfl, t, _, _, _, rfl, rfl, SqT.of hp, rfl, p, _, e, _, c, rfl, EA, e2, SO, DO, hl, q⟩
    | remC k =>
      obtain ⟨t, xs, rfl, hp, g⟩ := td.tup_inv
      obtain ⟨w1, r1, rfl, e1, g⟩ := g.cons_inv
      obtain ⟨w2, r2', rfl, e2, g⟩ := g.cons_inv
      obtain rfl := g.nil_inv
      obtain rfl := e1.str_inv
      obtain rfl := e2.int_inv
      refine ⟨_, rfl, t, _, _, _, rfl, rfl, SqT.of hp, rfl, _, rfl, rfl, _, rfl, ?_⟩
      rw [sF (a := "remove_call") (b := "add_call") (by decide +kernel)]
      refine iteF ⟨_, rfl, rfl, _, rfl, ?_⟩
      rw [sT]
      exact iteT ⟨_, rfl, p, dx, _, rfl, i.ins, mno (by decide +kernel) (by decide +kernel) (by decide +kernel) (by decide +kernel) (by decide +kernel), _, rfl, t, _, _, _, rfl, rfl, SqT.of hp, rfl, p, _, e, k, rfl, EA, SO, hl, q⟩
    | setO k os =>
      obtain ⟨t, xs, rfl, hp, g⟩ := td.tup_inv
      obtain ⟨w1, r1, rfl, e1, g⟩ := g.cons_inv
      obtain ⟨w2, r2', rfl, e2, g⟩ := g.cons_inv
      obtain ⟨w3, r3', rfl, e3, g⟩ := g.cons_inv
      obtain rfl := g.nil_inv
      obtain rfl := e1.str_inv
      obtain rfl := e2.int_inv
      refine ⟨_, rfl, t, _, _, _, rfl, rfl, SqT.of hp, rfl, _, rfl, rfl, _, rfl, ?_⟩
      rw [sF (a := "set_offsets") (b := "add_call") (by decide +kernel)]
      refine iteF ⟨_, rfl, rfl, _, rfl, ?_⟩
      rw [sF (a := "set_offsets") (b := "remove_call") (by decide +kernel)]
      refine iteF ⟨_, rfl, rfl, _, rfl, ?_⟩
      rw [sT]
      exact iteT ⟨_, rfl, p, dx, _, rfl, i.ins, mno (by decide +kernel) (by decide +kernel) (by decide +kernel) (by decide +kernel) (by decide +kernel), _, rfl, t, _, _, _, rfl, rfl, SqT.of hp, rfl, _, rfl, t, _, _, _, rfl, rfl, SqT.of hp, rfl, p, _, e, k, _, os, rfl, EA, e3, SO, DO, hl, q⟩
    | setD k l m =>
      obtain ⟨t, xs, rfl, hp, g⟩ := td.tup_inv
      obtain ⟨w1, r1, rfl, e1, g⟩ := g.cons_inv
      obtain ⟨w2, r2', rfl, e2, g⟩ := g.cons_inv
      obtain ⟨w3, r3', rfl, e3, g⟩ := g.cons_inv
      obtain ⟨w4, r4', rfl, e4, g⟩ := g.cons_inv
      obtain rfl := g.nil_inv
      obtain rfl := e1.str_inv
      obtain rfl := e2.int_inv
      obtain rfl := e3.int_inv
      obtain rfl := e4.int_inv
      refine ⟨_, rfl, t, _, _, _, rfl, rfl, SqT.of hp, rfl, _, rfl, rfl, _, rfl, ?_⟩
      rw [sF (a := "set_delays") (b := "add_call") (by decide +kernel)]
      refine iteF ⟨_, rfl, rfl, _, rfl, ?_⟩
      rw [sF (a := "set_delays") (b := "remove_call") (by decide +kernel)]
      refine iteF ⟨_, rfl, rfl, _, rfl, ?_⟩
      rw [sF (a := "set_delays") (b := "set_offsets") (by decide +kernel)]
      refine iteF ⟨_, rfl, rfl, _, rfl, ?_⟩
      rw [sT]
      exact iteT ⟨_, rfl, p, dx, _, rfl, i.ins, mno (by decide +kernel) (by decide +kernel) (by decide +kernel) (by decide +kernel) (by decide +kernel), _, rfl, t, _, _, _, rfl, rfl, SqT.of hp, rfl, _, rfl, t, _, _, _, rfl, rfl, SqT.of hp, rfl, _, rfl, t, _, _, _, rfl, rfl, SqT.of hp, rfl, p, _, e, k, l, m, rfl, EA, SO, DO, hl, q⟩
    | addS =>
      obtain ⟨t, xs, rfl, hp, g⟩ := td.tup_inv
      obtain ⟨w1, r1, rfl, e1, g⟩ := g.cons_inv
      obtain rfl := g.nil_inv
      obtain rfl := e1.str_inv
      refine ⟨_, rfl, t, _, _, _, rfl, rfl, SqT.of hp, rfl, _, rfl, rfl, _, rfl, ?_⟩
      rw [sF (a := "add_service") (b := "add_call") (by decide +kernel)]
      refine iteF ⟨_, rfl, rfl, _, rfl, ?_⟩
      rw [sF (a := "add_service") (b := "remove_call") (by decide +kernel)]
      refine iteF ⟨_, rfl, rfl, _, rfl, ?_⟩
      rw [sF (a := "add_service") (b := "set_offsets") (by decide +kernel)]
      refine iteF ⟨_, rfl, rfl, _, rfl, ?_⟩
      rw [sF (a := "add_service") (b := "set_delays") (by decide +kernel)]
      refine iteF ⟨_, rfl, rfl, _, rfl, ?_⟩
      rw [sT]
      exact iteT ⟨_, rfl, p, dx, _, rfl, i.ins, mno (by decide +kernel) (by decide +kernel) (by decide +kernel) (by decide +kernel) (by decide +kernel), p, _, e, rfl, EA, SO, hl, q⟩
    | remS k =>
      obtain ⟨t, xs, rfl, hp, g⟩ := td.tup_inv
      obtain ⟨w1, r1, rfl, e1, g⟩ := g.cons_inv
      obtain ⟨w2, r2', rfl, e2, g⟩ := g.cons_inv
      obtain rfl := g.nil_inv
      obtain rfl := e1.str_inv
      obtain rfl := e2.int_inv
      refine ⟨_, rfl, t, _, _, _, rfl, rfl, SqT.of hp, rfl, _, rfl, rfl, _, rfl, ?_⟩
      rw [sF (a := "remove_service") (b := "add_call") (by decide +kernel)]
      refine iteF ⟨_, rfl, rfl, _, rfl, ?_⟩
      rw [sF (a := "remove_service") (b := "remove_call") (by decide +kernel)]
      refine iteF ⟨_, rfl, rfl, _, rfl, ?_⟩
      rw [sF (a := "remove_service") (b := "set_offsets") (by decide +kernel)]
      refine iteF ⟨_, rfl, rfl, _, rfl, ?_⟩
      rw [sF (a := "remove_service") (b := "set_delays") (by decide +kernel)]
      refine iteF ⟨_, rfl, rfl, _, rfl, ?_⟩
      rw [sF (a := "remove_service") (b := "add_service") (by decide +kernel)]
      exact iteF ⟨_, rfl, p, dx, _, rfl, i.ins, mno (by decide +kernel) (by decide +kernel) (by decide +kernel) (by decide +kernel) (by decide +kernel), _, rfl, t, _, _, _, rfl, rfl, SqT.of hp, rfl, p, _, e, k, rfl, EA, SO, hl, q⟩
end
end K68
end
section
set_option Elab.async false
set_option linter.all false
set_option maxRecDepth 100000
set_option maxHeartbeats 2000000
namespace K68
open PySem PySem.Spec PyProof.Rows L2
section
variable {P : Program} {w : World} {K : PySem.W.Frag} {mg : Str → Option Value} {base : Heap}
abbrev N_Editor_execute : List Str := ["self", "operation", "word", "arguments"]
theorem sc_Editor_execute : FnScope N_Editor_execute ["self", "operation"] (defScope s_Editor_execute) := ⟨rfl, rfl, rfl, by decide +kernel, rfl, by decide +kernel, by decide +kernel⟩
theorem ok_execute (T : Tx w K mg) : GM P w K mg base (L2N.CX P w) 6 (aE K) (He.ma K (aE K) "execute") ["self", "operation"] (sp_execute K) := by
  have g1 := ok_add_call (P := P) (base := base) T
  have g2 := ok_remove_call (P := P) (base := base) T
  have g3 := ok_set_offsets (P := P) (base := base) T
  have g4 := ok_set_delays (P := P) (base := base) T
  have g5 := ok_add_service (P := P) (base := base) T
  have g6 := ok_remove_service (P := P) (base := base) T
  refine gmX T.f_Editor_execute sc_Editor_execute (fun _ F => F.bindsN fun _ _ _ _ _ _ us hl => match us, hl with | [_, _], _ => rfl) (fun vs H Q E h => ?_) (fun cdv A outer s H vs Q E hr h => ?_)
  · obtain ⟨p, own, e, u, d, rfl, _⟩ := h
    rfl
  · obtain ⟨p, own, e, u, d, rfl, EA, td, SO, DO, hl, q⟩ := h
    obtain ⟨dx, v, l1, l2, sd, ap, us1, us2, kvs, rfl, i⟩ := id EA
    have nd := sc_Editor_execute.nd
    have cE := T.c_Editor
    have r2 : Room 2 _ := hr.mono (by decide)
    have r3 : Room 3 _ := hr.mono (by decide)
    have r4 : Room 4 _ := hr.mono (by decide)
    refine ⟨_, (pss_cons ((ps_asg (pv 1) (pg_star rfl (pg_name (i := 2) nd rfl (Or.inl rfl)) (pg_name (i := 3) nd rfl (Or.inl rfl))))) (pss_cons ((ps_if ((pt_cmpR (op_eq) (pv 2) (pe_str) (nomark _))) ((pss_one ((ps_ret ((pe_m g1 T.m_add_call cE (r4) ((L2N.passes_call (L2N.takes_of rfl rfl rfl rfl) (fun _ _ _ _ h => h))) (pv 0) (pa_cons ((pe_ix ix_list (pv 3) (pe_int) (fun _ _ => rfl))) pa_nil))))))) (pss_nil))) (pss_cons ((ps_if ((pt_cmpR (op_eq) (pv 2) (pe_str) (nomark _))) ((pss_one ((ps_ret ((pe_m g2 T.m_remove_call cE (r3) ((L2N.passes_call (L2N.takes_of rfl rfl rfl rfl) (fun _ _ _ _ h => h))) (pv 0) (pa_cons ((pe_ix ix_list (pv 3) (pe_int) (fun _ _ => rfl))) pa_nil))))))) (pss_nil))) (pss_cons ((ps_if ((pt_cmpR (op_eq) (pv 2) (pe_str) (nomark _))) ((pss_one ((ps_ret ((pe_m g3 T.m_set_offsets cE (hr) ((L2N.passes_call (L2N.takes_of rfl rfl rfl rfl) (fun _ _ _ _ h => h))) (pv 0) (pa_cons ((pe_ix ix_list (pv 3) (pe_int) (fun _ _ => rfl))) (pa_cons ((pe_ix ix_list (pv 3) (pe_int) (fun _ _ => rfl))) pa_nil)))))))) (pss_nil))) (pss_cons ((ps_if ((pt_cmpR (op_eq) (pv 2) (pe_str) (nomark _))) ((pss_one ((ps_ret ((pe_m g4 T.m_set_delays cE (hr) ((L2N.passes_call (L2N.takes_of rfl rfl rfl rfl) (fun _ _ _ _ h => h))) (pv 0) (pa_cons ((pe_ix ix_list (pv 3) (pe_int) (fun _ _ => rfl))) (pa_cons ((pe_ix ix_list (pv 3) (pe_int) (fun _ _ => rfl))) (pa_cons ((pe_ix ix_list (pv 3) (pe_int) (fun _ _ => rfl))) pa_nil))))))))) (pss_nil))) (pss_one ((ps_ret (pe_ifExp (pt_cmpR (op_eq) (pv 2) (pe_str) (nomark _)) (pe_m0 g5 T.m_add_service cE (r2) ((L2N.passes_call (L2N.takes_of rfl rfl rfl rfl) (fun _ _ _ _ h => h))) (pv 0)) (pe_m g6 T.m_remove_service cE (r2) ((L2N.passes_call (L2N.takes_of rfl rfl rfl rfl) (fun _ _ _ _ h => h))) (pv 0) (pa_cons ((pe_ix ix_list (pv 3) (pe_int) (fun _ _ => rfl))) pa_nil))))))))))), ?_⟩
    have mno : ∀ {m : Str}, (m == ("present" : Str)) = false → (m == ("done" : Str)) = false → (m == ("undone" : Str)) = false → (m == ("saved" : Str)) = false → (m == ("is_applying" : Str)) = false → (edF v l1 l2 sd ap).lookup m = none := fun a b c d e => ef_no a b c d e
    cases d with
    | addC c =>
      obtain ⟨t, xs, rfl, hp, g⟩ := td.tup_inv
      obtain ⟨w1, r1, rfl, e1, g⟩ := g.cons_inv
      obtain ⟨w2, r2', rfl, e2, g⟩ := g.cons_inv
      obtain rfl := g.nil_inv
      obtain rfl := e1.str_inv
      refine ⟨_, rfl, t, _, _, rfl, SqT.of hp, by simp, fun D hD => ?_⟩
      refine ⟨_, rfl, rfl, _, rfl, ?_⟩
      have i := i.mono (Same.new (o := HO.lst [w2]) hD)
      rw [sT]
      exact iteT ⟨_, rfl, p, dx, _, rfl, i.ins, mno (by decide +kernel) (by decide +kernel) (by decide +kernel) (by decide +kernel) (by decide +kernel), _, rfl, D, _, _, _, rfl, rfl, SqL.of upd_same, rfl, p, _, e, _, c, rfl, EA.mono (Same.new hD), e2.mono (Same.new hD).tle, SO, DO, hl, q.same (Same.new hD)⟩
    | remC k =>
      obtain ⟨t, xs, rfl, hp, g⟩ := td.tup_inv
      obtain ⟨w1, r1, rfl, e1, g⟩ := g.cons_inv
      obtain ⟨w2, r2', rfl, e2, g⟩ := g.cons_inv
      obtain rfl := g.nil_inv
      obtain rfl := e1.str_inv
      obtain rfl := e2.int_inv
      refine ⟨_, rfl, t, _, _, rfl, SqT.of hp, by simp, fun D hD => ?_⟩
      refine ⟨_, rfl, rfl, _, rfl, ?_⟩
      have i := i.mono (Same.new (o := HO.lst [.int (k : Nat)]) hD)
      rw [sF (a := "remove_call") (b := "add_call") (by decide +kernel)]
      refine iteF ⟨_, rfl, rfl, _, rfl, ?_⟩
      rw [sT]
      exact iteT ⟨_, rfl, p, dx, _, rfl, i.ins, mno (by decide +kernel) (by decide +kernel) (by decide +kernel) (by decide +kernel) (by decide +kernel), _, rfl, D, _, _, _, rfl, rfl, SqL.of upd_same, rfl, p, _, e, k, rfl, EA.mono (Same.new hD), SO, hl, q.same (Same.new hD)⟩
    | setO k os =>
      obtain ⟨t, xs, rfl, hp, g⟩ := td.tup_inv
      obtain ⟨w1, r1, rfl, e1, g⟩ := g.cons_inv
      obtain ⟨w2, r2', rfl, e2, g⟩ := g.cons_inv
      obtain ⟨w3, r3', rfl, e3, g⟩ := g.cons_inv
      obtain rfl := g.nil_inv
      obtain rfl := e1.str_inv
      obtain rfl := e2.int_inv
      refine ⟨_, rfl, t, _, _, rfl, SqT.of hp, by simp, fun D hD => ?_⟩
      refine ⟨_, rfl, rfl, _, rfl, ?_⟩
      have i := i.mono (Same.new (o := HO.lst [.int (k : Nat), w3]) hD)
      rw [sF (a := "set_offsets") (b := "add_call") (by decide +kernel)]
      refine iteF ⟨_, rfl, rfl, _, rfl, ?_⟩
      rw [sF (a := "set_offsets") (b := "remove_call") (by decide +kernel)]
      refine iteF ⟨_, rfl, rfl, _, rfl, ?_⟩
      rw [sT]
      exact iteT ⟨_, rfl, p, dx, _, rfl, i.ins, mno (by decide +kernel) (by decide +kernel) (by decide +kernel) (by decide +kernel) (by decide +kernel), _, rfl, D, _, _, _, rfl, rfl, SqL.of upd_same, rfl, _, rfl, D, _, _, _, rfl, rfl, SqL.of upd_same, rfl, p, _, e, k, _, os, rfl, EA.mono (Same.new hD), e3.mono (Same.new hD).tle, SO, DO, hl, q.same (Same.new hD)⟩
    | setD k l m =>
      obtain ⟨t, xs, rfl, hp, g⟩ := td.tup_inv
      obtain ⟨w1, r1, rfl, e1, g⟩ := g.cons_inv
      obtain ⟨w2, r2', rfl, e2, g⟩ := g.cons_inv
      obtain ⟨w3, r3', rfl, e3, g⟩ := g.cons_inv
      obtain ⟨w4, r4', rfl, e4, g⟩ := g.cons_inv
      obtain rfl := g.nil_inv
      obtain rfl := e1.str_inv
      obtain rfl := e2.int_inv
      obtain rfl := e3.int_inv
      obtain rfl := e4.int_inv
      refine ⟨_, rfl, t, _, _, rfl, SqT.of hp, by simp, fun D hD => ?_⟩
      refine ⟨_, rfl, rfl, _, rfl, ?_⟩
      have i := i.mono (Same.new (o := HO.lst [.int (k : Nat), .int l, .int m]) hD)
      rw [sF (a := "set_delays") (b := "add_call") (by decide +kernel)]
      refine iteF ⟨_, rfl, rfl, _, rfl, ?_⟩
      rw [sF (a := "set_delays") (b := "remove_call") (by decide +kernel)]
      refine iteF ⟨_, rfl, rfl, _, rfl, ?_⟩
      rw [sF (a := "set_delays") (b := "set_offsets") (by decide +kernel)]
      refine iteF ⟨_, rfl, rfl, _, rfl, ?_⟩
      rw [sT]
      exact iteT ⟨_, rfl, p, dx, _, rfl, i.ins, mno (by decide +kernel) (by decide +kernel) (by decide +kernel) (by decide +kernel) (by decide +kernel), _, rfl, D, _, _, _, rfl, rfl, SqL.of upd_same, rfl, _, rfl, D, _, _, _, rfl, rfl, SqL.of upd_same, rfl, _, rfl, D, _, _, _, rfl, rfl, SqL.of upd_same, rfl, p, _, e, k, l, m, rfl, EA.mono (Same.new hD), SO, DO, hl, q.same (Same.new hD)⟩
    | addS =>
      obtain ⟨t, xs, rfl, hp, g⟩ := td.tup_inv
      obtain ⟨w1, r1, rfl, e1, g⟩ := g.cons_inv
      obtain rfl := g.nil_inv
      obtain rfl := e1.str_inv
      refine ⟨_, rfl, t, _, _, rfl, SqT.of hp, by simp, fun D hD => ?_⟩
      refine ⟨_, rfl, rfl, _, rfl, ?_⟩
      have i := i.mono (Same.new (o := HO.lst []) hD)
      rw [sF (a := "add_service") (b := "add_call") (by decide +kernel)]
      refine iteF ⟨_, rfl, rfl, _, rfl, ?_⟩
      rw [sF (a := "add_service") (b := "remove_call") (by decide +kernel)]
      refine iteF ⟨_, rfl, rfl, _, rfl, ?_⟩
      rw [sF (a := "add_service") (b := "set_offsets") (by decide +kernel)]
      refine iteF ⟨_, rfl, rfl, _, rfl, ?_⟩
      rw [sF (a := "add_service") (b := "set_delays") (by decide +kernel)]
      refine iteF ⟨_, rfl, rfl, _, rfl, ?_⟩
      rw [sT]
      exact iteT ⟨_, rfl, p, dx, _, rfl, i.ins, mno (by decide +kernel) (by decide +kernel) (by decide +kernel) (by decide +kernel) (by decide +kernel), p, _, e, rfl, EA.mono (Same.new hD), SO, hl, q.same (Same.new hD)⟩
    | remS k =>
      obtain ⟨t, xs, rfl, hp, g⟩ := td.tup_inv
      obtain ⟨w1, r1, rfl, e1, g⟩ := g.cons_inv
      obtain ⟨w2, r2', rfl, e2, g⟩ := g.cons_inv
      obtain rfl := g.nil_inv
      obtain rfl := e1.str_inv
      obtain rfl := e2.int_inv
      refine ⟨_, rfl, t, _, _, rfl, SqT.of hp, by simp, fun D hD => ?_⟩
      refine ⟨_, rfl, rfl, _, rfl, ?_⟩
      have i := i.mono (Same.new (o := HO.lst [.int k]) hD)
      rw [sF (a := "remove_service") (b := "add_call") (by decide +kernel)]
      refine iteF ⟨_, rfl, rfl, _, rfl, ?_⟩
      rw [sF (a := "remove_service") (b := "remove_call") (by decide +kernel)]
      refine iteF ⟨_, rfl, rfl, _, rfl, ?_⟩
      rw [sF (a := "remove_service") (b := "set_offsets") (by decide +kernel)]
      refine iteF ⟨_, rfl, rfl, _, rfl, ?_⟩
      rw [sF (a := "remove_service") (b := "set_delays") (by decide +kernel)]
      refine iteF ⟨_, rfl, rfl, _, rfl, ?_⟩
      rw [sF (a := "remove_service") (b := "add_service") (by decide +kernel)]
      exact iteF ⟨_, rfl, p, dx, _, rfl, i.ins, mno (by decide +kernel) (by decide +kernel) (by decide +kernel) (by decide +kernel) (by decide +kernel), _, rfl, D, _, _, _, rfl, rfl, SqL.of upd_same, rfl, p, _, e, k, rfl, EA.mono (Same.new hD), SO, hl, q.same (Same.new hD)⟩
end
end K68
end
section
set_option Elab.async false
set_option linter.all false
set_option maxRecDepth 100000
set_option maxHeartbeats 2000000
namespace K68
open PySem PySem.Spec PyProof.Rows L2
/-! ### dict(SIZES) -/
def szL : List (Str × Int) := [("add_call", 1), ("remove_call", 1), ("set_offsets", 2), ("set_delays", 3), ("add_service", 0), ("remove_service", 1)]
def szK : List (L2.Key × V) := szL.map fun q => (Sum.inr q.1, .int q.2)
theorem ents_pairs {P : Program} {w : World} : ∀ {l : List DictEntry} {zs : List (Str × Int)}, l.map entV = zs.map some → PySem.W.KeysLit w.params l →
    ∃ vs : List (L2.Key × Value), Pairs (mixKind P w) l vs ∧ KV (zs.map fun q => ((Sum.inr q.1 : L2.Key), V.int q.2)) vs ∧ (∀ e ∈ l, ∃ k, (mixKind P w).is k e.key = true ∧ e.hash = (mixKind P w).hash k) ∧ vs.map (·.1) = zs.map fun q => (Sum.inr q.1 : L2.Key)
  | [], [], _, _ => ⟨[], .nil, .nil, fun e he => (nomatch he), rfl⟩
  | [], _ :: _, h, _ => by cases h
  | _ :: _, [], h, _ => by cases h
  | e :: l, z :: zs, h, hl => by
    rw [List.map_cons, List.map_cons] at h
    injection h with h1 h2
    obtain ⟨⟨x, t, ek, eh⟩, hl2⟩ := hl
    obtain ⟨vs, p, kv, ks, en⟩ := ents_pairs (P := P) h2 hl2
    unfold entV at h1
    rw [ek] at h1
    cases ev : e.val with
    | int i u =>
      rw [ev] at h1
      cases Option.some.inj h1
      have k1 : (mixKind P w).is (Sum.inr x) e.key = true := by rw [ek]; exact keyIs_str x t
      refine ⟨(Sum.inr x, .int i u) :: vs, .cons k1 ev p, .cons ⟨rfl, ⟨u, rfl⟩⟩ kv, fun d hd => ?_, ?_⟩
      · rcases List.mem_cons.mp hd with q | q
        · subst q
          exact ⟨Sum.inr x, k1, eh⟩
        · exact ks d q
      · rw [List.map_cons, List.map_cons, en]
    | _ => rw [ev] at h1; cases h1
def rDictK (K : PySem.W.Frag) (w : World) : List V → Hp → VK → Prop := fun xs H Q => ∃ (a : Addr) (es : Array DictEntry) (n : Nat), xs = [.ref a] ∧ KDict K w a es n ∧ es.toList.map entV = szI ∧ ∀ p, H p = none → Q (.ref p) (upd H p (.dK szK))
theorem call_dictK {X : Cx} : CallR X (.type "dict") (rDictK X.K X.w) := by
  intro pins s σ H xs us Q I r q
  obtain ⟨a, es, n, rfl, kd, hz, q⟩ := q
  obtain ⟨u, rfl, ru⟩ := vals1 r
  obtain rfl : u = Value.ref a := ru
  obtain ⟨vs, p, kv, ks, en⟩ := ents_pairs (P := X.prog) (w := X.w) (l := es.toList) (zs := szL) hz kd.lit
  have dd : s.heap.DictOf (mixKind X.prog X.w) a vs := ⟨_, es, n, I.kIn _ _ kd.at_, ⟨rfl, rfl, rfl⟩, rfl, fun e he => ks e (by simpa using he), p, by rw [en]; decide +kernel⟩
  have lv : vs.length ≤ sizeLine := by rw [← kv.length]; decide
  refine kt_call_dict kd.low dd lv fun h' d' hs => ?_
  have hm : (s.heap.objs.size == sysModules) = false := beq_eq_false_iff_ne.mpr (Nat.ne_of_gt I.big)
  refine ⟨.ref s.heap.objs.size, upd H s.heap.objs.size (.dK szK), I.laid (t' := s.toks) (fun b u e => (hs.2 b (Nat.ne_of_lt (Heap.lt_size e))).trans (Heap.get?_push_of_some _ e)) (Nat.le_refl _) ?_, rfl, q _ (I.hok.fresh (Nat.le_refl _))⟩
  exact (show ObjOk X.prog X.w _ _ _ (.dK szK) from ⟨by decide, hm, vs, kv, d'⟩)
section
variable {P : Program} {w : World} {K : PySem.W.Frag} {mg : Str → Option Value} {base : Heap}
def sp_sizes : Sp := fun vs H Q _ => ∃ (p : Addr), vs = [.ref p] ∧ ∀ d, H d = none → Q (.ref d) (upd H d (.dK szK))
abbrev N_Editor_sizes : List Str := ["self"]
theorem sc_Editor_sizes : FnScope N_Editor_sizes ["self"] (defScope s_Editor_sizes) := ⟨rfl, rfl, rfl, by decide +kernel, rfl, by decide +kernel, by decide +kernel⟩
theorem ok_sizes (T : Tx w K mg) : GM P w K mg base CX0 1 (aE K) (He.ma K (aE K) "sizes") ["self"] sp_sizes := by
  refine gm0 T.f_Editor_sizes sc_Editor_sizes (fun _ F => F.bindsN fun _ _ _ _ _ _ us hl => match us, hl with | [_], _ => rfl) (fun vs H Q E h => ?_) (fun cdv A outer s H vs Q E hr h => ?_)
  · obtain ⟨p, rfl, _⟩ := h
    rfl
  · obtain ⟨p, rfl, q⟩ := h
    obtain ⟨es, n, kd, hz⟩ := T.szs_
    refine ⟨_, (pss_one ((ps_ret ((pe_callTy (call_dictK) rfl T.z_dict boot_dict (pa_cons (pe_glob (v := .ref (He.ga K "SIZES")) rfl T.g_SIZES rfl) pa_nil)))))), ?_⟩
    exact ⟨_, es, n, rfl, kd, hz, q⟩
/-! ### check_operations, of operations that are in order -/
def sp_check_ops : Sp := fun vs H Q _ => ∃ (sz l : Addr) (us : List V) (ds : List Deed), vs = [.ref sz, .ref l] ∧ H sz = some (.dK szK) ∧ H l = some (.lst us) ∧ TdAll H us (ds.map deedD) ∧ ∀ H', Same H H' → Q .non H'
abbrev N_check_operations : List Str := ["sizes", "operations", "index", "operation", "is_named"]
theorem sc_check_operations : FnScope N_check_operations ["sizes", "operations"] (defScope s_check_operations) := ⟨rfl, rfl, rfl, by decide +kernel, rfl, by decide +kernel, by decide +kernel⟩
def wordOf : Deed → Str
  | .addC _ => "add_call"
  | .remC _ => "remove_call"
  | .setO _ _ => "set_offsets"
  | .setD _ _ _ => "set_delays"
  | .addS => "add_service"
  | .remS _ => "remove_service"
def argN : Deed → Nat
  | .addC _ => 1
  | .remC _ => 1
  | .setO _ _ => 2
  | .setD _ _ _ => 3
  | .addS => 0
  | .remS _ => 1
theorem Td.deed_inv {H : Hp} {v : V} {d : Deed} (h : Td H v (deedD d)) : ∃ t r, v = .ref t ∧ H t = some (.tup (.str (wordOf d) :: r)) ∧ r.length = argN d := by
  have q : ∃ ds, deedD d = .tuple (.str (wordOf d) :: ds) ∧ ds.length = argN d := by cases d <;> exact ⟨_, rfl, rfl⟩
  obtain ⟨ds, e, l⟩ := q
  rw [e] at h
  obtain ⟨t, xs, rfl, ht, g⟩ := h.tup_inv
  obtain ⟨v1, r, rfl, e1, g⟩ := g.cons_inv
  rw [e1.str_inv] at ht
  exact ⟨t, r, rfl, ht, by rw [g.len, l]⟩
theorem sz_at (d : Deed) : valV szK (Sum.inr (wordOf d)) = some (.int (argN d : Nat)) := by
  cases d <;> rfl
theorem deed_ne (d : Deed) : PyData.eqv (deedD d) (.tuple []) = false := by
  cases d <;> simp [deedD, PyData.eqv, PyData.eqvAll]
theorem ok_check_ops (T : Tx w K mg) : GF P w K mg base CX0 1 "check_operations" ["sizes", "operations"] sp_check_ops := by
  refine gf0 T.f_check_operations T.g_check_operations sc_check_operations (fun _ F => F.bindsN fun _ _ _ _ _ _ us hl => match us, hl with | [_, _], _ => rfl) (fun vs H Q E h => ?_) (fun cdv A outer s H vs Q E hr h => ?_)
  · obtain ⟨sz, l, us, ds, rfl, _⟩ := h
    rfl
  · obtain ⟨sz, l, us, ds, rfl, hsz, hl, tl, q⟩ := h
    have nd := sc_check_operations.nd
    have hu := hu_of hr
    refine ⟨_, (pss_cons ((ps_if ((pt_not (pt_val ((pe_is "list" (pv 1) T.z_isinstance T.z_list boot_list))))) (pss_never) (pss_nil))) (pss_one (ps_for PassesOwn.never rfl (pi_enum (by rfl) T.z_enumerate (pa_cons (pv 1) pa_nil)) (pg_tup rfl (pgs_cons ((pg_name (i := 2) nd rfl (Or.inl rfl))) (pgs_cons ((pg_name (i := 3) nd rfl (Or.inl rfl))) pgs_nil))) (pss_cons ((ps_set (i := 4) nd rfl (Or.inl rfl) ((pe_and ((pe_is "tuple" (pv 3) T.z_isinstance T.z_tuple boot_tuple)) (pe_and ((pe_cmpR (op_neD hr.units) (pv 3) (pe_tup pa_nil) (nomark _))) (pe_one ((pe_is "str" ((pe_ix ix_tup (pv 3) (pe_int) (fun _ _ => rfl))) T.z_isinstance T.z_str boot_str)))))))) (pss_one ((ps_if ((PW.pt (pw_or ((pt_not (pt_val (pv 4)))) (pw_or1 ((pt_cmpR (op_ne) (pe_dget2 hu (pv 0) ((pe_ix ix_tup (pv 3) (pe_int) (fun _ _ => rfl))) (pe_un un_neg pe_int) ⟨rfl, rfl, rfl, rfl⟩) ((pe_op (op_sub) ((pe_callB call_len_seq rfl T.z_len boot_len (pa_cons (pv 3) pa_nil))) (pe_int))) (nomark _))))))) (pss_never) (pss_nil)))))))), ?_⟩
    refine ⟨_, rfl, true, is_ll hl, true, rfl, iteF ?_⟩
    refine ⟨_, rfl, l, us, rfl, SqL.of hl, ?_⟩
    refine for_it (walk_enum (xs := us)) (fun i σ H' => Same H H' ∧ ∃ v2 v3 v4, σ = [some (.ref sz), some (.ref l), v2, v3, v4]) ⟨Same.refl _, none, none, none, rfl⟩ (fun i σ H' _ p => SqL.of (p.1 _ _ hl)) (fun i x σ H1 H2 hi p yl => ?_) (fun σ H' p => q _ p.1)
    obtain ⟨s1, v2, v3, v4, rfl⟩ := p
    obtain ⟨T0, x0, y0, rfl, hT, rfl, hx, hy⟩ := yl
    cases Option.some.inj hx
    obtain ⟨dd, hd, td⟩ := (tl.mono s1.tle).get hy
    rw [List.getElem?_map] at hd
    cases ec : ds[i]? with
    | none => rw [ec] at hd; cases hd
    | some d =>
      rw [ec] at hd
      cases Option.some.inj hd
      have td2 := td.mono (Same.new (o := HO.tup [.int (i : Nat), y0]) hT).tle
      obtain ⟨t, r, rfl, ht, lr⟩ := td2.deed_inv
      have s2 : Same H (upd H1 T0 (.tup [.int (i : Nat), .ref t])) := s1.trans (Same.new hT)
      refine ⟨T0, _, rfl, SqT.of upd_same, rfl, _, _, rfl, _, _, rfl, rfl, ?_⟩
      refine ⟨_, rfl, true, is_tt ht, true, rfl, iteT ?_⟩
      refine ⟨_, rfl, Nat.zero_le _, fun e he => ?_⟩
      have s3 : Same H (upd (upd H1 T0 (.tup [.int (i : Nat), .ref t])) e (.tup [])) := s2.trans (Same.new he)
      have ht3 := upd_ne' (o := HO.tup []) he ht
      refine ⟨deedD d, .tuple [], (td2.mono (Same.new he).tle).dp, .tup (SqT.of upd_same) .nil, (Pl.deed d).shaped (by decide), by decide, _, rfl, ?_⟩
      rw [deed_ne]
      revert s3 ht3
      generalize upd (upd H1 T0 (.tup [.int (i : Nat), .ref t])) e (.tup []) = H3
      intro s3 ht3
      refine iteT ⟨_, rfl, t, _, _, _, rfl, rfl, SqT.of ht3, atI_nat (j := 0) rfl, true, is_ss, ?_⟩
      refine ⟨_, rfl, true, rfl, iteF ?_⟩
      have hsz3 := s3 _ _ hsz
      refine ⟨_, rfl, sz, rfl, .inl ⟨_, .inl hsz3⟩, _, rfl, t, _, _, _, rfl, rfl, SqT.of ht3, atI_nat (j := 0) rfl, _, rfl, _, DGet.k (k := Sum.inr (wordOf d)) hsz3, ?_⟩
      rw [sz_at]
      refine ⟨_, rfl, t, _, rfl, .inr (SqT.of ht3), _, _, rfl, rfl, rfl, _, rfl, ?_⟩
      have en : ((V.str (wordOf d) :: r).length : Int) - 1 = (argN d : Nat) := by rw [List.length_cons, lr]; omega
      exact iteNS (c := V.int (argN d : Nat) = V.int (((V.str (wordOf d) :: r).length : Nat) - 1)) (congrArg V.int en.symm) ⟨s3, _, _, _, rfl⟩
/-! ### Recorder.__init__, Editor.__init__ -/
theorem ef1 {v : V} : putF "present" v [] = [(("present" : Str), v)] := rfl
theorem ef2 {v : V} {a : Addr} : putF "done" (.ref a) [(("present" : Str), v)] = [(("present" : Str), v), (("done" : Str), V.ref a)] := (put_past (by decide +kernel)).trans rfl
theorem ef3 {v : V} {a b : Addr} : putF "undone" (.ref b) [(("present" : Str), v), (("done" : Str), V.ref a)] = [(("present" : Str), v), (("done" : Str), V.ref a), (("undone" : Str), V.ref b)] := (put_past (by decide +kernel)).trans (congrArg _ ((put_past (by decide +kernel)).trans rfl))
theorem ef4 {v : V} {a b c : Addr} : putF "saved" (.ref c) [(("present" : Str), v), (("done" : Str), V.ref a), (("undone" : Str), V.ref b)] = [(("present" : Str), v), (("done" : Str), V.ref a), (("undone" : Str), V.ref b), (("saved" : Str), V.ref c)] := (put_past (by decide +kernel)).trans (congrArg _ ((put_past (by decide +kernel)).trans (congrArg _ ((put_past (by decide +kernel)).trans rfl))))
theorem ef5 {v : V} {a b c : Addr} {k : Bool} : putF "is_applying" (.bl k) [(("present" : Str), v), (("done" : Str), V.ref a), (("undone" : Str), V.ref b), (("saved" : Str), V.ref c)] = edF v a b c k := (put_past (by decide +kernel)).trans (congrArg _ ((put_past (by decide +kernel)).trans (congrArg _ ((put_past (by decide +kernel)).trans (congrArg _ ((put_past (by decide +kernel)).trans rfl))))))
def sp_rec_init (K : PySem.W.Frag) : Sp := fun vs H Q _ => ∃ (p dx : Addr) (v : V) (s : Sys), vs = [.ref p, v] ∧ H p = some (.ins (aE K) dx []) ∧ Td H v (syD s) ∧
  ∀ H' own, (∀ b o, H b = some o → b ≠ p → b ∉ own ∧ H' b = some o) → EdAt K H' p own ⟨s, [], [], none⟩ → Q .non H'
abbrev N_Recorder___init__ : List Str := ["self", "present"]
theorem sc_Recorder___init__ : FnScope N_Recorder___init__ ["self", "present"] (defScope s_Recorder___init__) := ⟨rfl, rfl, rfl, by decide +kernel, rfl, by decide +kernel, by decide +kernel⟩
theorem ok_rec_init (T : Tx w K mg) : GM P w K mg base CX0 1 (He.ga K "Recorder") (He.ma K (He.ga K "Recorder") "__init__") ["self", "present"] (sp_rec_init K) := by
  refine gm0 T.f_Recorder___init__ sc_Recorder___init__ (fun _ F => F.bindsN fun _ _ _ _ _ _ us hl => match us, hl with | [_, _], _ => rfl) (fun vs H Q E h => ?_) (fun cdv A outer s H vs Q E hr h => ?_)
  · obtain ⟨p, dx, v, s, rfl, _⟩ := h
    rfl
  · obtain ⟨p, dx, v, y, rfl, hp, hy, q⟩ := h
    have cE := T.c_Editor
    refine ⟨_, (pss_cons (ps_fld (pv 0) (pv 1) rfl) (pss_cons (ps_fld (pv 0) (pe_lst pa_nil) rfl) (pss_cons (ps_fld (pv 0) (pe_lst pa_nil) rfl) (pss_cons (ps_fld (pv 0) pe_dnewK rfl) (pss_one (ps_fld (pv 0) pe_bl rfl)))))), ?_⟩
    refine ⟨_, rfl, _, rfl, p, _, dx, _, rfl, hp, cE, T.n_present, by show 0 < 1000; decide, ?_⟩
    rw [ef1]
    have f1 : FrP p H (upd H p (.ins (aE K) dx [(("present" : Str), v)])) := FrP.refl.upd
    have hp1 : (upd H p (.ins (aE K) dx [(("present" : Str), v)])) p = some (.ins (aE K) dx [(("present" : Str), v)]) := upd_same
    revert f1 hp1
    generalize upd H p (.ins (aE K) dx [(("present" : Str), v)]) = H1
    intro f1 hp1
    refine ⟨Nat.zero_le _, fun a ha => ?_⟩
    have npa : p ≠ a := ne_of_none hp1 ha
    have ha0 : H a = none := f1.gone npa.symm ha
    refine ⟨_, rfl, p, _, dx, _, rfl, (upd_ne npa).trans hp1, cE, T.n_done, by show 1 < 1000; decide, ?_⟩
    rw [ef2]
    have f2 : FrP p H (upd (upd H1 a (.lst [])) p (.ins (aE K) dx [(("present" : Str), v), (("done" : Str), V.ref a)])) := (f1.same (Same.new ha)).upd
    have hp2 : (upd (upd H1 a (.lst [])) p (.ins (aE K) dx [(("present" : Str), v), (("done" : Str), V.ref a)])) p = some (.ins (aE K) dx [(("present" : Str), v), (("done" : Str), V.ref a)]) := upd_same
    have ha2 : (upd (upd H1 a (.lst [])) p (.ins (aE K) dx [(("present" : Str), v), (("done" : Str), V.ref a)])) a = some (.lst []) := (upd_ne npa.symm).trans upd_same
    revert f2 hp2 ha2
    generalize upd (upd H1 a (.lst [])) p (.ins (aE K) dx [(("present" : Str), v), (("done" : Str), V.ref a)]) = H2
    intro f2 hp2 ha2
    refine ⟨Nat.zero_le _, fun b hb => ?_⟩
    have npb : p ≠ b := ne_of_none hp2 hb
    have nab : a ≠ b := ne_of_none ha2 hb
    have hb0 : H b = none := f2.gone npb.symm hb
    refine ⟨_, rfl, p, _, dx, _, rfl, (upd_ne npb).trans hp2, cE, T.n_undone, by show 2 < 1000; decide, ?_⟩
    rw [ef3]
    have f3 : FrP p H (upd (upd H2 b (.lst [])) p (.ins (aE K) dx [(("present" : Str), v), (("done" : Str), V.ref a), (("undone" : Str), V.ref b)])) := (f2.same (Same.new hb)).upd
    have hp3 : (upd (upd H2 b (.lst [])) p (.ins (aE K) dx [(("present" : Str), v), (("done" : Str), V.ref a), (("undone" : Str), V.ref b)])) p = some (.ins (aE K) dx [(("present" : Str), v), (("done" : Str), V.ref a), (("undone" : Str), V.ref b)]) := upd_same
    have ha3 : (upd (upd H2 b (.lst [])) p (.ins (aE K) dx [(("present" : Str), v), (("done" : Str), V.ref a), (("undone" : Str), V.ref b)])) a = some (.lst []) := (upd_ne npa.symm).trans ((upd_ne nab).trans ha2)
    have hb3 : (upd (upd H2 b (.lst [])) p (.ins (aE K) dx [(("present" : Str), v), (("done" : Str), V.ref a), (("undone" : Str), V.ref b)])) b = some (.lst []) := (upd_ne npb.symm).trans upd_same
    revert f3 hp3 ha3 hb3
    generalize upd (upd H2 b (.lst [])) p (.ins (aE K) dx [(("present" : Str), v), (("done" : Str), V.ref a), (("undone" : Str), V.ref b)]) = H3
    intro f3 hp3 ha3 hb3
    intro c hc
    have npc : p ≠ c := ne_of_none hp3 hc
    have nac : a ≠ c := ne_of_none ha3 hc
    have nbc : b ≠ c := ne_of_none hb3 hc
    have hc0 : H c = none := f3.gone npc.symm hc
    refine ⟨_, rfl, p, _, dx, _, rfl, (upd_ne npc).trans hp3, cE, T.n_saved, by show 3 < 1000; decide, ?_⟩
    rw [ef4]
    refine ⟨_, rfl, p, _, dx, _, rfl, upd_same, cE, T.n_is_applying, by show 4 < 1000; decide, ?_⟩
    rw [ef5]
    have f4 : FrP p H (upd (upd (upd H3 c (.dK [])) p (.ins (aE K) dx [(("present" : Str), v), (("done" : Str), V.ref a), (("undone" : Str), V.ref b), (("saved" : Str), V.ref c)])) p (.ins (aE K) dx (edF v a b c false))) := (f3.same (Same.new hc)).upd.upd
    refine q _ [p, a, b, c] (fun x o hx n => ⟨?_, f4 _ _ hx n⟩) ⟨dx, v, a, b, c, false, [], [], [], rfl, upd_same, hy.mono (f4.tle hp), ?_, .nil, ?_, .nil, ?_, rfl, nab⟩
    · simp only [List.mem_cons, List.not_mem_nil, or_false, not_or]
      exact ⟨n, ne_of_none hx ha0, ne_of_none hx hb0, ne_of_none hx hc0⟩
    · rw [upd_ne npa.symm, upd_ne npa.symm, upd_ne nac]; exact ha3
    · rw [upd_ne npb.symm, upd_ne npb.symm, upd_ne nbc]; exact hb3
    · rw [upd_ne npc.symm, upd_ne npc.symm, upd_same]
def sp_ed_init (K : PySem.W.Frag) : Sp := fun vs H Q _ => ∃ (p dx : Addr) (v : V) (s : Sys), vs = [.ref p, v] ∧ H p = some (.ins (aE K) dx []) ∧ Td H v (syD s) ∧ SysOk s ∧
  ∀ H' own, (∀ b o, H b = some o → b ≠ p → b ∉ own ∧ H' b = some o) → EdAt K H' p own ⟨s, [], [], none⟩ → Q .non H'
abbrev N_Editor___init__ : List Str := ["self", "system"]
theorem sc_Editor___init__ : FnScope N_Editor___init__ ["self", "system"] (defScope s_Editor___init__) := ⟨rfl, rfl, rfl, by decide +kernel, rfl, by decide +kernel, by decide +kernel⟩
theorem ok_ed_init (T : Tx w K mg) : GM P w K mg base CX0 5 (aE K) (He.ma K (aE K) "__init__") ["self", "system"] (sp_ed_init K) := by
  have G1 := ok_check_system (P := P) (base := base) T
  obtain ⟨fd, kp, bd, G2⟩ := (ok_rec_init (P := P) (base := base) T).ex
  have G2 := G2
  obtain ⟨r1, r2⟩ := T.rec_
  refine gm0 T.f_Editor___init__ sc_Editor___init__ (fun _ F => F.bindsN fun _ _ _ _ _ _ us hl => match us, hl with | [_, _], _ => rfl) (fun vs H Q E h => ?_) (fun cdv A outer s H vs Q E hr h => ?_)
  · obtain ⟨p, dx, v, s, rfl, _⟩ := h
    rfl
  · obtain ⟨p, dx, v, y, rfl, hp, hy, SO, q⟩ := h
    have hr1 : Room 1 _ := hr.mono (by decide)
    refine ⟨_, (pss_cons (ps_expr (pe_f G1 (hr) (pass0) (pa_cons (pv 1) pa_nil))) (pss_one (ps_expr (pe_cfun (pe_glob (v := .ref (He.ga K "Recorder")) rfl T.g_Recorder rfl) r1 r2 G2 kp bd hr1 pass0 (pa_cons (pv 0) (pa_cons (pv 1) pa_nil)))))), ?_⟩
    refine ⟨_, rfl, v, y, rfl, hy, SO, fun H1 s1 => ?_⟩
    refine ⟨rfl, _, rfl, _, rfl, p, dx, v, y, rfl, s1 _ _ hp, hy.mono s1.tle, fun H2 own f EA => ?_⟩
    exact q _ own (fun b o e n => f b o (s1 _ _ e) n) EA
end
end K68
end
section
set_option Elab.async false
set_option linter.all false
set_option maxRecDepth 100000
set_option maxHeartbeats 2000000
namespace K68
open PySem PySem.Spec PyProof.Rows L2
/-! ### the plain law: a deed that succeeds leaves a system in order -/
theorem put_all {s : Sys} {k : Nat} {c : Cl} {n : Int} (h : ∀ x ∈ s.cs, isCall n x = true) (hc : isCall n c = true) : ∀ x ∈ (putC s k c).cs, isCall n x = true := fun x hx => by
  rcases List.mem_append.mp hx with m | m
  · rcases List.mem_append.mp m with m | m
    · exact h x (List.mem_of_mem_take m)
    · cases List.mem_singleton.mp m
      exact hc
  · exact h x (List.mem_of_mem_drop m)
theorem put_len {s : Sys} {k : Nat} {c : Cl} (h : k < s.cs.length) : (putC s k c).cs.length = s.cs.length := by
  show (s.cs.take k ++ [c] ++ s.cs.drop (k + 1)).length = _
  rw [List.length_append, List.length_append, List.length_take, List.length_drop, List.length_singleton]
  omega
theorem isCall_up {n : Int} {c : Cl} (h : isCall n c = true) : isCall (n + 1) c = true := by
  obtain ⟨h1, h2, h3, h4, h5, h6, h7, h8⟩ := isCall_parts h
  exact isCall_mk h1 h2 (by omega) h4 h5 h7 h8
theorem isCall_ren {n k : Int} {c : Cl} (h : isCall n c = true) (hk : 1 ≤ k) (hkn : k < n) (no : k ∉ [c.c, c.t]) : isCall (n - 1) (ren k c) = true := by
  obtain ⟨h1, h2, h3, h4, h5, h6, h7, h8⟩ := isCall_parts h
  simp only [List.mem_cons, List.not_mem_nil, or_false, not_or] at no
  obtain ⟨n1, n2⟩ := no
  refine isCall_mk ?_ ?_ ?_ h4 h5 h7 h8
  · show 0 ≤ c.c - (if c.c > k then 1 else 0)
    split <;> omega
  · show c.c - (if c.c > k then 1 else 0) < c.t - (if c.t > k then 1 else 0)
    split <;> split <;> omega
  · show c.t - (if c.t > k then 1 else 0) < n - 1
    split <;> omega
theorem step_ok {s : Sys} {d : Deed} (SO : SysOk s) (DO : DeedOk d) (h : (step s d).w = none) : SysOk (step s d).s := by
  obtain ⟨o1, o2, o3, o4⟩ := SO
  cases d with
  | addC c =>
    rw [step_addC] at h ⊢
    by_cases c1 : c.t ≥ s.n
    · rw [if_pos c1] at h; cases h
    · rw [if_neg c1] at h ⊢
      by_cases c2 : s.cs.length = 20
      · rw [if_pos c2] at h; cases h
      · rw [if_neg c2]
        refine ⟨o1, o2, by show (s.cs ++ [c]).length ≤ 20; rw [List.length_append, List.length_singleton]; omega, fun x hx => ?_⟩
        rcases List.mem_append.mp hx with m | m
        · exact o4 x m
        · cases List.mem_singleton.mp m
          show isCall s.n c = true
          rw [isCall_addC DO, decide_eq_true (by omega)]
  | remC k =>
    rw [step_remC] at h ⊢
    cases ec : s.cs[k]? with
    | none => rw [ec] at h; cases h
    | some c =>
      refine ⟨o1, o2, ?_, fun x hx => ?_⟩
      · show (s.cs.take k ++ s.cs.drop (k + 1)).length ≤ 20
        rw [List.length_append, List.length_take, List.length_drop]
        omega
      · rcases List.mem_append.mp hx with m | m
        · exact o4 x (List.mem_of_mem_take m)
        · exact o4 x (List.mem_of_mem_drop m)
  | setO k os =>
    rw [step_setO] at h ⊢
    cases ec : s.cs[k]? with
    | none => rw [ec] at h; cases h
    | some c =>
      rw [ec] at h
      dsimp only at h ⊢
      by_cases cb : os = [4, 1] ∨ os = []
      · rw [if_pos cb] at h; cases h
      · rw [if_neg cb]
        have hk := (List.getElem?_eq_some_iff.mp ec).1
        have hc := isCall_setO (o4 c (List.mem_of_getElem? ec)) DO
        rw [decide_eq_false cb] at hc
        exact ⟨o1, o2, by rw [put_len hk]; exact o3, put_all o4 hc⟩
  | setD k l m =>
    rw [step_setD] at h ⊢
    cases ec : s.cs[k]? with
    | none => rw [ec] at h; cases h
    | some c =>
      rw [ec] at h
      dsimp only at h ⊢
      by_cases cb : l > m
      · rw [if_pos cb] at h; cases h
      · rw [if_neg cb]
        have hk := (List.getElem?_eq_some_iff.mp ec).1
        have hc := isCall_setD (o4 c (List.mem_of_getElem? ec)) DO
        rw [decide_eq_false cb] at hc
        exact ⟨o1, o2, by rw [put_len hk]; exact o3, put_all o4 hc⟩
  | addS =>
    rw [step_addS] at h ⊢
    by_cases c1 : s.n < 8
    · rw [if_pos c1]
      exact ⟨by show 1 ≤ s.n + 1; omega, by show s.n + 1 ≤ 8; omega, o3, fun x hx => isCall_up (o4 x hx)⟩
    · rw [if_neg c1] at h; cases h
  | remS k =>
    rw [step_remS] at h ⊢
    by_cases c1 : 1 ≤ k ∧ k < s.n
    · rw [if_pos c1] at h ⊢
      by_cases c2 : hasS s k = true
      · rw [if_pos c2] at h; cases h
      · rw [if_neg c2]
        refine ⟨by show 1 ≤ s.n - 1; omega, by show s.n - 1 ≤ 8; omega, by show (s.cs.map (ren k)).length ≤ 20; rw [List.length_map]; exact o3, fun x hx => ?_⟩
        obtain ⟨c, hc, rfl⟩ := List.mem_map.mp hx
        refine isCall_ren (o4 c hc) c1.1 c1.2 fun z => c2 ?_
        unfold hasS
        exact List.any_eq_true.mpr ⟨c, hc, decide_eq_true z⟩
    · rw [if_neg c1] at h; cases h
/-- many deeds, one behind another, to the first that fails -/
def runD (e : Ed) : List Deed → Ed × Option Str
  | [] => (e, none)
  | d :: ds => match (step e.pr d).w with
    | none => runD (e.enter d (step e.pr d).s) ds
    | some z => (e, some z)
theorem runD_ok {e : Ed} {d : Deed} {ds : List Deed} (h : (step e.pr d).w = none) : runD e (d :: ds) = runD (e.enter d (step e.pr d).s) ds := by
  show (match (step e.pr d).w with
    | none => runD (e.enter d (step e.pr d).s) ds
    | some z => (e, some z)) = _
  rw [h]
theorem runD_bad {e : Ed} {d : Deed} {ds : List Deed} {z : Str} (h : (step e.pr d).w = some z) : runD e (d :: ds) = (e, some z) := by
  show (match (step e.pr d).w with
    | none => runD (e.enter d (step e.pr d).s) ds
    | some z => (e, some z)) = _
  rw [h]
/-! ### o.m(e, ..) within a try -/
def tMS (C : Addr) (m : Str) (sp : Sp) (W : WX) (ta : TE) (t : TA) : TE := fun σ H Q => ta σ H fun x H1 => ∃ a dx fs, x = .ref a ∧ H1 a = some (.ins C dx fs) ∧ fs.lookup m = none ∧ t σ H1 fun vs H2 => sp (x :: vs) H2 Q (fun cls d H' => W cls d σ H')
theorem pe_mS {X : Cx} {k : Nat} {f C : Addr} {ps : List Str} {sp : Sp} {W : WX} {m : Str} {pos apos : Pos} {e o : Expr} {es : List Expr} {ta : TE} {t : TA} {pl : Sem Bool} (G : GM X.prog X.w X.K X.mg X.base (L2N.CX X.prog X.w) k C f ps sp) (hm : Meth X.K C m f) (c : Cls X.K C) (hr : Room k X.A) (tk : L2N.Takes X W) (he : PE X o ta) (ha : PA X (e :: es) t)
    (hst : starEach (e :: es) X.env = (false, eval e X.env) :: starEach es X.env := by rfl) (hpl : (backTo pos (starEach es X.env)).any (·.1) = false := by rfl)
    (ht : eval (.Call (.Attribute o m apos) (e :: es) [] pos) X.env = (do
      let ov ← eval o X.env
      standAt apos.atName
      let (f, first) ← holding [ov] (getMethod ov m pl)
      callWith pos f first (backTo pos (starEach (e :: es) X.env)) (backToKw pos (keywordEach [] X.env))) := by rfl) :
    PE X (.Call (.Attribute o m apos) (e :: es) [] pos) (tMS C m sp W ta t) := by
  obtain ⟨fd, _, hb, F⟩ := G.ex
  refine ⟨fun pins s σ H Q I h => ?_⟩
  refine PySem.W.methodCall_KW (pl := pl) (thn (he.run pins s σ H _ I h) fun u s1 q => ?_) ht
  obtain ⟨x, H1, I1, rx, a, dx, fs, rfl, ea, l, q⟩ := q
  obtain rfl : u = Value.ref a := rx
  refine getmeth_ok I1 ea c hm l (PySem.W.callWith_K (first := [.ref a]) (h₀ := X.base) I.ok.mod.kin hm.kp (thn (ha.run pos pins s1 σ H1 _ I1 q) fun us s2 q2 => ?_) hst hpl)
  obtain ⟨vs, H2, I2, r, q2⟩ := q2
  exact ⟨I2.kIn, run_fnS (us := .ref a :: us) (vs := .ref a :: vs) (E := WE W) F hr hb (L2N.passAt tk σ) I2 (.cons rfl r) q2⟩
section
variable {P : Program} {w : World} {K : PySem.W.Frag} {mg : Str → Option Value} {base : Heap}
def sp_apply (K : PySem.W.Frag) : Sp := fun vs H Q E => ∃ (p l : Addr) (own : List Addr) (e : Ed) (us : List V) (ds : List Deed), vs = [.ref p, .ref l] ∧ EdAt K H p own e ∧ H l = some (.lst us) ∧ l ∉ own ∧ TdAll H us (ds.map deedD) ∧ SysOk e.pr ∧ (∀ d ∈ ds, DeedOk d) ∧ e.dn.length + ds.length < 1000 ∧
  ((runD e ds).2 = none → ∀ v H' own', Fr own H own' H' → EdAt K H' p own' (runD e ds).1 → Q v H') ∧ ∀ z, (runD e ds).2 = some z → ∀ H' own', Fr own H own' H' → EdAt K H' p own' e → E (.ref (He.ga K (exN z))) none H'
abbrev N_Recorder_apply_all : List Str := ["self", "operations", "present", "done", "undone", "results", "is_complete", "operation"]
theorem sc_Recorder_apply_all : FnScope N_Recorder_apply_all ["self", "operations"] (defScope s_Recorder_apply_all) := ⟨rfl, rfl, rfl, by decide +kernel, rfl, by decide +kernel, by decide +kernel⟩
/-- the mark is set -/
theorem EdI.app {H : Hp} {p dx : Addr} {v : V} {l1 l2 sd : Addr} {ap : Bool} {us1 us2 : List V} {kvs : List (L2.Key × V)} {e : Ed} (i : EdI K H p dx v l1 l2 sd ap us1 us2 kvs e) (b : Bool) :
    EdI K (upd H p (.ins (aE K) dx (edF v l1 l2 sd b))) p dx v l1 l2 sd b us1 us2 kvs e ∧ Fr [p, l1, l2, sd] H [p, l1, l2, sd] (upd H p (.ins (aE K) dx (edF v l1 l2 sd b))) := by
  have fr : Fr [p, l1, l2, sd] H [p, l1, l2, sd] (upd H p (.ins (aE K) dx (edF v l1 l2 sd b))) := fun x o h n => ⟨n, by
    simp only [List.mem_cons, List.not_mem_nil, or_false, not_or] at n
    rw [upd_ne n.1]
    exact h⟩
  have tl := i.tle fr
  exact ⟨⟨upd_same, i.pr.mono tl, (upd_ne (ne_of i.h1 i.ins (by intro z; cases z))).trans i.h1, i.t1.mono tl, (upd_ne (ne_of i.h2 i.ins (by intro z; cases z))).trans i.h2, i.t2.mono tl, (upd_ne (ne_of i.hs i.ins (by intro z; cases z))).trans i.hs, i.sv.mono tl fun b xs hb nb => fr b _ hb nb, i.ne⟩, fr⟩
/-- the present and two lists of one's own are put back -/
theorem EdI.back {H : Hp} {p dx : Addr} {v : V} {l1 l2 sd : Addr} {ap : Bool} {us1 us2 : List V} {kvs : List (L2.Key × V)} {e e0 : Ed} (i : EdI K H p dx v l1 l2 sd ap us1 us2 kvs e) {u : V} {n1 n2 : Addr} {ws1 ws2 : List V} (hu : Td H u (syD e0.pr))
    (h1 : H n1 = some (.lst ws1)) (t1 : TdAll H ws1 (e0.dn.map entD)) (h2 : H n2 = some (.lst ws2)) (t2 : TdAll H ws2 (e0.un.map entD)) (ne : n1 ≠ n2) (es : e.sv = e0.sv) (m1 : ∀ q, e0.sv = some q → n1 ≠ q.m1 ∧ n1 ≠ q.m2) (m2 : ∀ q, e0.sv = some q → n2 ≠ q.m1 ∧ n2 ≠ q.m2) {x1 x2 : HO} :
    EdAt K (upd (upd (upd H p x1) p x2) p (.ins (aE K) dx (edF u n1 n2 sd ap))) p [p, n1, n2, sd] e0 := by
  have q1 : n1 ≠ p := ne_of h1 i.ins (by intro z; cases z)
  have q2 : n2 ≠ p := ne_of h2 i.ins (by intro z; cases z)
  have q3 : sd ≠ p := ne_of i.hs i.ins (by intro z; cases z)
  have tl : Tle H (upd (upd (upd H p x1) p x2) p (.ins (aE K) dx (edF u n1 n2 sd ap))) := fun a xs h => by
    have n := ne_of h i.ins (by intro z; cases z)
    rw [upd_ne n, upd_ne n, upd_ne n]
    exact h
  have st : ∀ {b : Addr} {xs : List V}, H b = some (.lst xs) → (upd (upd (upd H p x1) p x2) p (.ins (aE K) dx (edF u n1 n2 sd ap))) b = some (.lst xs) := fun {b xs} h => by
    have n := ne_of h i.ins (by intro z; cases z)
    rw [upd_ne n, upd_ne n, upd_ne n]
    exact h
  refine ⟨dx, u, n1, n2, sd, ap, ws1, ws2, kvs, rfl, upd_same, hu.mono tl, st h1, t1.mono tl, st h2, t2.mono tl, by rw [upd_ne q3, upd_ne q3, upd_ne q3]; exact i.hs, ?_, ne⟩
  have sv := i.sv
  rw [es] at sv
  cases e0s : e0.sv with
  | none => rw [e0s] at sv; exact sv
  | some q =>
    rw [e0s] at sv
    obtain ⟨t0, v0, w1, w2, a0, a1, a2, a3, a4, a5, a6, a7, a8⟩ := sv
    simp only [List.mem_cons, List.not_mem_nil, or_false, not_or] at a7 a8
    refine ⟨t0, v0, w1, w2, a0, tl _ _ a1, a2.mono tl, st a3, a4.mono tl, st a5, a6.mono tl, ?_, ?_⟩
    · simp only [List.mem_cons, List.not_mem_nil, or_false, not_or]
      exact ⟨a7.1, (m1 q e0s).1.symm, (m2 q e0s).1.symm, a7.2.2.2⟩
    · simp only [List.mem_cons, List.not_mem_nil, or_false, not_or]
      exact ⟨a8.1, (m1 q e0s).2.symm, (m2 q e0s).2.symm, a8.2.2.2⟩
/-- for operation in operations: results.append(self.execute(operation)); is_complete = True -/
def tbA (K : PySem.W.Frag) (W : WX) : TS := tSeq (tFor (iList K (tVar 1)) (gName 7) (tDrop (tBM K "list" rAppend (tVar 5) (tCons (tMS (aE K) "execute" (sp_execute K) W (tVar 0) (tCons (tVar 7) tNil)) tNil)))) (tAsg (tC (.bl true)) (gName 6))
/-- self.is_applying = False; if not is_complete: self.present, self.done, self.undone = (present, done, undone) -/
def tfA (K : PySem.W.Frag) : TS := tSeq (sFld K (tVar 0) (tC (.bl false)) "is_applying") (tIfS (tNot (tTest (tVar 6))) (tAsg (tTup (tCons (tVar 2) (tCons (tVar 3) (tCons (tVar 4) tNil)))) (gTup K 3 (gCons (gFld K (tVar 0) "present") (gCons (gFld K (tVar 0) "done") (gCons (gFld K (tVar 0) "undone") gNil))))) tNext)
theorem ok_apply (T : Tx w K mg) : GM P w K mg base (L2N.CX P w) 7 (aE K) (He.ma K (aE K) "apply_all") ["self", "operations"] (sp_apply K) := by
  have G1 := ok_check_ops (P := P) (base := base) T
  have G2 := ok_sizes (P := P) (base := base) T
  have G3 := ok_execute (P := P) (base := base) T
  refine gmX T.f_Recorder_apply_all sc_Recorder_apply_all (fun _ F => F.bindsN fun _ _ _ _ _ _ us hl => match us, hl with | [_, _], _ => rfl) (fun vs H Q E h => ?_) (fun cdv A outer s H vs Q E hr h => ?_)
  · obtain ⟨p, l, own, e, us, ds, rfl, _⟩ := h
    rfl
  · obtain ⟨p, l, own, e, us, ds, rfl, EA, hl, nl, tl, SO, DO, hlen, qy, qn⟩ := h
    have nd := sc_Recorder_apply_all.nd
    have cE := T.c_Editor
    have hr1 : Room 1 _ := hr.mono (by decide)
    refine ⟨_, (pss_cons (ps_expr (pe_f G1 (hr1) (pass0) (pa_cons ((pe_m0 G2 T.m_sizes cE (hr1) (pass0) (pv 0))) (pa_cons (pv 1) pa_nil)))) (pss_cons (ps_par3 (i := 2) (j := 3) (l := 4) rfl nd rfl rfl rfl (by decide) (by decide) (by decide) rfl rfl rfl (pa_cons (pe_fld (pv 0) rfl) (pa_cons ((pe_callTy (call_list_of) rfl T.z_list boot_list (pa_cons (pe_fld (pv 0) rfl) pa_nil))) (pa_cons ((pe_callTy (call_list_of) rfl T.z_list boot_list (pa_cons (pe_fld (pv 0) rfl) pa_nil))) pa_nil))) (by rfl)) (pss_cons (ps_par (i := 5) (j := 6) rfl nd rfl rfl (by decide) rfl rfl (pa_cons (pe_lst pa_nil) (pa_cons (pe_bl) pa_nil)) (by rfl)) (pss_cons (ps_fld (pv 0) pe_bl rfl) (pss_cons (ps_finN (tb := tbA K) (tf := tfA K) (tfs := tfA K) (Wo := fun cls d _ H => E cls d H) rfl rfl rfl (L2N.takes_of rfl rfl rfl rfl)
        (fun W pn xe tk po => (pss_cons (ps_for po rfl (pi_list (pv 1)) (pg_name (i := 7) nd rfl (Or.inl rfl)) (pss_one ((ps_expr (pe_bm PySem.F.plainAttrs_list PySem.F.slot_list_append PySem.F.type_list_append mt_append (pv 5) (pa_cons (pe_mS G3 T.m_execute cE hr tk (pv 0) (pa_cons (pv 7) pa_nil)) pa_nil)))))) (pss_one ((ps_set (i := 6) nd rfl (Or.inl rfl) (pe_bl))))))
        (pss_cons (ps_fld (pv 0) pe_bl rfl) (pss_one ((ps_if ((pt_not (pt_val (pv 6)))) ((pss_one ((ps_asg ((pe_tup (pa_cons (pv 2) (pa_cons (pv 3) (pa_cons (pv 4) pa_nil))))) (pg_tup rfl (pgs_cons (pg_fld (pv 0)) (pgs_cons (pg_fld (pv 0)) (pgs_cons (pg_fld (pv 0)) pgs_nil)))))))) (pss_nil)))))
        (fun a oe pn hc => (pss_cons (ps_fld (pv 0) pe_bl rfl) (pss_one ((ps_if ((pt_not (pt_val (pv 6)))) ((pss_one ((ps_asg ((pe_tup (pa_cons (pv 2) (pa_cons (pv 3) (pa_cons (pv 4) pa_nil))))) (pg_tupH rfl (List.mem_cons_self) hc (pgs_cons (pg_fld (pv 0)) (pgs_cons (pg_fld (pv 0)) (pgs_cons (pg_fld (pv 0)) pgs_nil)))))))) (pss_nil))))))) (pss_one ((ps_ret (pv 5))))))))), ?_⟩
    obtain ⟨dx, v, l1, l2, sd, ap, us1, us2, kvs, rfl, i⟩ := id EA
    refine ⟨_, rfl, p, dx, _, rfl, i.ins, ef_no (by decide +kernel) (by decide +kernel) (by decide +kernel) (by decide +kernel) (by decide +kernel), p, rfl, fun d hd => ?_⟩
    have s0 := Same.new (o := HO.dK szK) hd
    refine ⟨_, rfl, d, l, us, ds, rfl, upd_same, s0 _ _ hl, tl.mono s0.tle, fun H1 s1' => ?_⟩
    have s1 := s0.trans s1'
    have i1 := i.mono s1
    refine ⟨_, rfl, p, _, _, _, _, rfl, i1.ins, cE, T.n_present, ef_present, ?_⟩
    refine ⟨_, rfl, p, _, _, _, _, rfl, i1.ins, cE, T.n_done, ef_done, l1, _, rfl, .inl (SqL.of i1.h1), fun n1 hn1 => ?_⟩
    have i2 := i1.mono (Same.new (o := HO.lst us1) hn1)
    refine ⟨_, rfl, p, _, _, _, _, rfl, i2.ins, cE, T.n_undone, ef_undone, l2, _, rfl, .inl (SqL.of i2.h2), fun n2 hn2 => ?_⟩
    have i3 := i2.mono (Same.new (o := HO.lst us2) hn2)
    have g1 := upd_ne' (o := HO.lst us2) hn2 (upd_same (H := H1) (a := n1) (o := HO.lst us1))
    have g2 : (upd (upd H1 n1 (.lst us1)) n2 (.lst us2)) n2 = some (.lst us2) := upd_same
    have ne12 : n1 ≠ n2 := ne_of_none upd_same hn2
    have o1 : n1 ∉ [p, l1, l2, sd] := EdAt.fresh ⟨dx, v, l1, l2, sd, ap, us1, us2, kvs, rfl, i1⟩ hn1
    have o2 : n2 ∉ [p, l1, l2, sd] := EdAt.fresh ⟨dx, v, l1, l2, sd, ap, us1, us2, kvs, rfl, i2⟩ hn2
    have m1 := EdAt.svNew ⟨dx, v, l1, l2, sd, ap, us1, us2, kvs, rfl, i1⟩ hn1
    have m2 := EdAt.svNew ⟨dx, v, l1, l2, sd, ap, us1, us2, kvs, rfl, i2⟩ hn2
    have s3 : Same H (upd (upd H1 n1 (.lst us1)) n2 (.lst us2)) := s1.trans ((Same.new hn1).trans (Same.new hn2))
    revert i3 g1 g2 s3
    generalize upd (upd H1 n1 (.lst us1)) n2 (.lst us2) = Hn
    intro i3 g1 g2 s3
    refine ⟨_, _, _, rfl, Nat.zero_le _, fun R hR => ⟨_, _, rfl, ?_⟩⟩
    have i4 := i3.mono (Same.new (o := HO.lst []) hR)
    obtain ⟨i5, f5⟩ := i4.app true
    refine ⟨_, rfl, p, _, dx, _, rfl, i4.ins, cE, T.n_is_applying, by show 5 < 1000; decide, ?_⟩
    rw [eput_app]
    have oR : R ∉ [p, l1, l2, sd] := EdAt.fresh ⟨dx, v, l1, l2, sd, ap, us1, us2, kvs, rfl, i3⟩ hR
    have mR := EdAt.svNew ⟨dx, v, l1, l2, sd, ap, us1, us2, kvs, rfl, i3⟩ hR
    have hR5 := (f5 R _ (upd_same (H := Hn) (a := R) (o := HO.lst [])) oR).2
    have fn5 : Fr [p, l1, l2, sd] Hn [p, l1, l2, sd] (upd (upd Hn R (.lst [])) p (.ins (aE K) dx (edF v l1 l2 sd true))) := Fr.pre (Same.new hR) f5
    revert i5 hR5 fn5
    generalize upd (upd Hn R (.lst [])) p (.ins (aE K) dx (edF v l1 l2 sd true)) = H5
    intro i5 hR5 fn5
    have hln : Hn l = some (.lst us) := s3 _ _ hl
    have tln := tl.mono s3.tle
    have llen : us.length = ds.length := by rw [tl.len, List.length_map]
    have iN : EdAt K Hn p [p, l1, l2, sd] e := ⟨dx, v, l1, l2, sd, ap, us1, us2, kvs, rfl, i3⟩
    refine ⟨_, rfl, l, rfl, ⟨_, SqL.of (fn5 _ _ hln nl).2⟩, for_list (K := K) (a := l) (xs := us) (fun j σ H' => ∃ e' own' rs v7, σ = [some (.ref p), some (.ref l), some v, some (.ref n1), some (.ref n2), some (.ref R), some (.bl false), v7] ∧ Fr [p, l1, l2, sd] Hn own' H' ∧ EdAt K H' p own' e' ∧
      H' R = some (.lst rs) ∧ R ∉ own' ∧ rs.length = j ∧ e'.sv = e.sv ∧ SysOk e'.pr ∧ e'.dn.length = e.dn.length + j ∧ runD e ds = runD e' (ds.drop j))
      ⟨e, _, [], none, rfl, fn5, ⟨dx, v, l1, l2, sd, true, us1, us2, kvs, rfl, i5⟩, hR5, oR, rfl, rfl, SO, rfl, by rw [List.drop_zero]⟩ (fun j σ H' _ ⟨_, _, _, _, _, f, _⟩ => SqL.of (f _ _ hln nl).2) (fun j x σ H6 hx pv => ?_) (fun σ H6 pv => ?_)⟩
    · obtain ⟨e', own', rs, v7, rfl, f6, EA6, hR6, oR6, lrs, es6, SO6, ldn, run6⟩ := pv
      obtain ⟨dd, hd6, td⟩ := (tln.mono (iN.tle f6)).get hx
      rw [List.getElem?_map] at hd6
      cases ec : ds[j]? with
      | none => rw [ec] at hd6; cases hd6
      | some d6 =>
        rw [ec] at hd6
        cases Option.some.inj hd6
        have hj : j < ds.length := (List.getElem?_eq_some_iff.mp ec).1
        have dcons : ds.drop j = d6 :: ds.drop (j + 1) := by
          rw [List.drop_eq_getElem_cons hj]
          congr 1
          exact (List.getElem?_eq_some_iff.mp ec).2
        obtain ⟨dx6, v6, k1, k2, sd6, ap6, ys1, ys2, kvs6, rfl, i6⟩ := id EA6
        refine ⟨_, rfl, .inl ⟨rfl, _, SqL.of hR6⟩, ?_⟩
        refine ⟨_, rfl, p, dx6, _, rfl, i6.ins, ef_no (by decide +kernel) (by decide +kernel) (by decide +kernel) (by decide +kernel) (by decide +kernel), _, rfl, p, _, e', _, d6, rfl, EA6, td, SO6, DO d6 (List.mem_of_getElem? ec), by omega, ⟨fun z hz H7 s7 => ?_, fun hn v' H7 own7 f7 EA7 t7 => ?_⟩⟩
        · -- the operation failed: the finally puts all back
          have i7 := i6.mono s7
          obtain ⟨i8, f8⟩ := i7.app false
          refine ⟨_, rfl, p, _, dx6, _, rfl, i7.ins, cE, T.n_is_applying, by show 5 < 1000; decide, ?_⟩
          rw [eput_app]
          have fA : Fr [p, l1, l2, sd] Hn [p, k1, k2, sd6] (upd H7 p (.ins (aE K) dx6 (edF v6 k1 k2 sd6 false))) := (f6.same s7).trans f8
          revert i8 fA
          generalize upd H7 p (.ins (aE K) dx6 (edF v6 k1 k2 sd6 false)) = H8
          intro i8 fA
          refine ⟨_, rfl, _, rfl, iteT ?_⟩
          refine ⟨_, rfl, _, rfl, _, rfl, by show 3 ≤ sizeLine; decide, fun t ht => ?_⟩
          have i9 := i8.mono (Same.new (o := HO.tup [v, .ref n1, .ref n2]) ht)
          have fB := fA.same (Same.new (o := HO.tup [v, .ref n1, .ref n2]) ht)
          have ht9 : (upd H8 t (.tup [v, .ref n1, .ref n2])) t = some (.tup [v, .ref n1, .ref n2]) := upd_same
          revert i9 fB ht9
          generalize upd H8 t (.tup [v, .ref n1, .ref n2]) = H9
          intro i9 fB ht9
          refine ⟨t, _, rfl, SqT.of ht9, rfl, _, _, rfl, ?_⟩
          refine ⟨_, rfl, p, _, dx6, _, rfl, i9.ins, cE, T.n_present, by show 5 < 1000; decide, ?_⟩
          rw [eput_present]
          refine ⟨_, _, rfl, _, rfl, p, _, dx6, _, rfl, upd_same, cE, T.n_done, by show 5 < 1000; decide, ?_⟩
          rw [eput_done]
          refine ⟨_, _, rfl, _, rfl, p, _, dx6, _, rfl, upd_same, cE, T.n_undone, by show 5 < 1000; decide, rfl, ?_⟩
          rw [eput_undone]
          have hz2 : (runD e ds).2 = some z := by rw [run6, dcons, runD_bad hz]
          have tN := iN.tle fB
          have b1 := (fB _ _ g1 o1)
          have b2 := (fB _ _ g2 o2)
          refine qn z hz2 _ _ ?_ (i9.back (e0 := e) (i3.pr.mono tN) b1.2 (i3.t1.mono tN) b2.2 (i3.t2.mono tN) ne12 es6 m1 m2)
          intro b o hb nb
          obtain ⟨c1, c2⟩ := fB b o (s3 _ _ hb) nb
          simp only [List.mem_cons, List.not_mem_nil, or_false, not_or] at c1 ⊢
          refine ⟨⟨c1.1, ?_, ?_, c1.2.2.2⟩, by rw [upd_ne c1.1, upd_ne c1.1, upd_ne c1.1]; exact c2⟩
          · exact ne_of_none (s1 _ _ hb) hn1
          · exact ne_of_none (upd_ne' (o := HO.lst us1) hn1 (s1 _ _ hb)) hn2
        · -- the operation is entered
          obtain ⟨oR7, hR7⟩ := f7 _ _ hR6 oR6
          have lr : rs.length < sizeLine := by
            have : sizeLine > 1000 := by decide
            omega
          have sv7 : (e'.enter d6 (step e'.pr d6).s).sv = e.sv := es6
          refine ⟨R, _, _, rfl, rfl, hR7, lr, ?_⟩
          refine ⟨e'.enter d6 (step e'.pr d6).s, own7, rs ++ [v'], _, rfl, (f6.trans f7).at_ hR, EA7.off oR7 hR7 (fun q hq => mR q (sv7 ▸ hq)), upd_same, oR7, by rw [List.length_append, lrs]; rfl, sv7, step_ok SO6 (DO d6 (List.mem_of_getElem? ec)) hn, ?_, ?_⟩
          · show (e'.dn ++ [_]).length = _
            rw [List.length_append, ldn]
            rfl
          · rw [run6, dcons, runD_ok hn]
    · obtain ⟨e', own', rs, v7, rfl, f6, EA6, hR6, oR6, lrs, es6, SO6, ldn, run6⟩ := pv
      obtain ⟨dx6, v6, k1, k2, sd6, ap6, ys1, ys2, kvs6, rfl, i6⟩ := id EA6
      obtain ⟨i8, f8⟩ := i6.app false
      refine ⟨_, rfl, p, _, dx6, _, rfl, i6.ins, cE, T.n_is_applying, by show 5 < 1000; decide, ?_⟩
      rw [eput_app]
      refine ⟨_, rfl, _, rfl, iteF ⟨_, rfl, ?_⟩⟩
      rw [llen, List.drop_length] at run6
      refine qy (by rw [run6]; rfl) _ _ _ (Fr.pre s3 (f6.trans f8)) ?_
      rw [run6]
      exact ⟨dx6, v6, k1, k2, sd6, false, ys1, ys2, kvs6, rfl, i8⟩
end
end K68
end
section
set_option Elab.async false
set_option linter.all false
set_option maxRecDepth 100000
set_option maxHeartbeats 2000000
namespace K68
open PySem PySem.Spec PyProof.Rows L2
/-! ### promises over L2N are promises over L2 -/
theorem cx_down {P : Program} {w : World} {outer : List Env} {H : Hp} {s : Shared} {E : XK} {u : Value} {t : Shared} (h : L2N.CX P w outer H s E u t) : L2.CX P w outer H s E u t := by
  obtain ⟨a, B, H', cls, d, e, ⟨f1, f2, f3, oe, vs, T, oT, ts, x1, x2, r⟩, q⟩ := h
  exact ⟨a, B, H', cls, d, e, ⟨f1, f2, f3, oe, vs, T, oT, ts, x1, x2.zc, r⟩, q⟩
theorem fn_down {P : Program} {w : World} {K : PySem.W.Frag} {mg : Str → Option Value} {base : Heap} {k : Nat} {f : Addr} {fd : FuncData} {ps : List Str} {sp : Sp} (F : FnOk P w K mg base (L2N.CX P w) k f fd ps sp) : FnOk P w K mg base (L2.CX P w) k f fd ps sp :=
  ⟨F.len, fun A outer s H args us vs Q E hr he hb hv hs => codeAny_mono (F.run A outer s H args us vs Q E hr he hb hv hs) fun r t q => by
    cases r with
    | error e => exact cx_down q
    | ok fl => cases fl <;> exact q⟩
theorem GM.down {P : Program} {w : World} {K : PySem.W.Frag} {mg : Str → Option Value} {base : Heap} {k : Nat} {C f : Addr} {ps : List Str} {sp : Sp} (G : GM P w K mg base (L2N.CX P w) k C f ps sp) : GM P w K mg base (L2.CX P w) k C f ps sp := by
  obtain ⟨fd, a, b, c⟩ := G.ex
  exact ⟨fd, a, b, fn_down c⟩
theorem GF.down {P : Program} {w : World} {K : PySem.W.Frag} {mg : Str → Option Value} {base : Heap} {k : Nat} {x : Str} {ps : List Str} {sp : Sp} (G : GF P w K mg base (L2N.CX P w) k x ps sp) : GF P w K mg base (L2.CX P w) k x ps sp := by
  obtain ⟨f, fd, a, b, c, d⟩ := G.ex
  exact ⟨f, fd, a, b, c, fn_down d⟩
/-! ### xs.count(b), Booleans -/
def rCntB (K : PySem.W.Frag) : V → List V → Hp → VK → Prop := fun x xs H Q => ∃ (p : Addr) (bs : List Bool), x = .ref p ∧ xs = [.bl true] ∧ SqL K H p (bs.map V.bl) ∧ Q (.int (bs.count true : Nat)) H
theorem flat_bls (l : List Bool) : (l.map V.bl).all flatV = true := by
  rw [List.all_map, List.all_eq_true]
  intro x _
  rfl
theorem count_bls : ∀ {bs : List Bool} {us : List Value}, Vals (bs.map V.bl) us → us.countP (eqU (.bl true)) = bs.count true
  | [], _, .nil => rfl
  | b :: bs, u :: us, .cons r t => by
    rw [List.countP_cons, List.count_cons, count_bls t, eqU_of r rfl]
    rfl
theorem mt_bcount {X : Cx} : MtR X "list.count" (rCntB X.K) := by
  intro pins s σ H x xs v us Q I rx rxs h
  obtain ⟨p, bs, rfl, rfl, hs, q⟩ := h
  obtain rfl : v = Value.ref p := rx
  obtain ⟨u, rfl, ru⟩ := rxs.one
  obtain rfl : u = Value.bool true := ru
  obtain ⟨its, rv, ⟨⟨cls, dd, data, sl⟩, n, ho, hc, _, hd⟩, _⟩ := I.list hs
  simp only at hc hd
  subst hc hd
  refine call_meets PySem.F.slot_list_count ⟨_, ho, rfl⟩ PySem.F.entry_list_count (PySem.F.args_list_count_2 _ _) (SeqAt.list_countAt p its.toArray n dd sl (.bool true) (eqU (.bl true))) ⟨ho, fun y hy => mem_eqAt (x := .bl true) (v := .bool true) rfl rfl rv (flat_bls bs) y (by simpa using hy), ?_⟩
  refine ⟨.int (bs.count true : Nat), H, I.tok _, ⟨s.toks, ?_⟩, q⟩
  show Value.int ((its.toArray.toList.countP (eqU (.bl true)) : Nat) : Int) s.toks = _
  rw [show its.toArray.toList = its by simp, count_bls rv]
/-! ### _law_raised: a def that calls what it got -/
def words6 : List Str := ["call", "badcall", "used", "service", "many", "full"]
def wordsL : List Str := ["late", "message", "operation", "call", "badcall", "name", "used", "service", "many", "full"]
def bsOf (z : Str) : List Bool := isaX.map fun y => decide (exN z = y)
theorem words_ok : ∀ z ∈ words6, (bsOf z).count true = 1 ∧ wordsL[(bsOf z).idxOf true]? = some z ∧ exN z ∈ raisedX ∧ (bsOf z)[(bsOf z).idxOf true]? = some true ∧ ∀ m, m < (bsOf z).idxOf true → (bsOf z)[m]? = some false := by decide +kernel
/-- what it makes of the lambda's reading -/
def TTr (K : PySem.W.Frag) : (XK → Hp → VK → Prop) → Hp → VK → Prop := fun tl H Q => tl (fun cls d H' => d = none ∧ ∃ z, z ∈ words6 ∧ cls = .ref (He.ga K (exN z)) ∧ ∀ H'', Same H' H'' → Q (.str z) H'') H (fun _ H' => Q .non H')
theorem exc_of {w : World} {K : PySem.W.Frag} {mg : Str → Option Value} (T : Tx w K mg) {x : Str} (h : x ∈ raisedX) : ExcC K (He.ga K x) ∧ PySem.W.kitOne K (.ref (He.ga K x)) (.type "ValueError") = some true ∧ ∀ y ∈ isaX, PySem.W.kitOne K (.ref (He.ga K x)) (.ref (He.ga K y)) = some (decide (x = y)) := by
  have q := List.all_eq_true.mp T.exc_ x h
  obtain ⟨q1, q2⟩ := Bool.and_eq_true_iff.mp q
  obtain ⟨q3, q4⟩ := Bool.and_eq_true_iff.mp q2
  obtain ⟨g1, g2⟩ := Bool.and_eq_true_iff.mp T.gcls_
  refine ⟨?_, of_decide_eq_true q3, fun y hy => of_decide_eq_true (List.all_eq_true.mp q4 y hy)⟩
  unfold excC at q1
  obtain ⟨a1, q1⟩ := Bool.and_eq_true_iff.mp q1
  obtain ⟨a2, q1⟩ := Bool.and_eq_true_iff.mp q1
  obtain ⟨a3, q1⟩ := Bool.and_eq_true_iff.mp q1
  obtain ⟨a4, q1⟩ := Bool.and_eq_true_iff.mp q1
  obtain ⟨a5, a6⟩ := Bool.and_eq_true_iff.mp q1
  exact ⟨He.eqO_ok a1, He.eqO_ok a2, of_decide_eq_true a3, a4, He.eqO_ok a5, He.eqO_ok g1, of_decide_eq_true g2, of_decide_eq_true a6⟩
abbrev N__law_raised : List Str := ["_law_work", "e", "_law_kinds", "_law_words"]
theorem sc__law_raised : FnScope N__law_raised ["_law_work"] (defScope s__law_raised) := ⟨rfl, rfl, rfl, by decide +kernel, rfl, by decide +kernel, by decide +kernel⟩
theorem exm_of {w : World} {K : PySem.W.Frag} {mg : Str → Option Value} (T : Tx w K mg) {x : Str} (h : x ∈ raisedX) : PySem.W.exmOne K (.ref (He.ga K x)) (.ref (He.ga K "OnceError")) = some true := by
  unfold raisedX at h
  simp only [List.mem_cons, List.not_mem_nil, or_false] at h
  rcases h with rfl | rfl | rfl | rfl | rfl | rfl
  · exact T.o_UnknownService
  · exact T.o_InvalidCall
  · exact T.o_UnknownCall
  · exact T.o_TooManyCalls
  · exact T.o_TooManyServices
  · exact T.o_ServiceInUse
section
variable {X : Cx} {g a : Addr} {cdg : Value} {s0 : Shared} {H0 : Hp} {oe : Obj} {pn : List (Addr × Obj)} {D : Addr}
abbrev cxR (X : Cx) (g : Addr) (cdg : Value) (s0 : Shared) (H0 : Hp) : Cx := (cxOf C8.CX0 X.prog X.w X.K X.mg X.base N__law_raised "_law_raised" (defScope s__law_raised) g cdg X.A X.stack s0 H0 C8.E0).nox
/-- isinstance(e, y) -/
theorem pe_isE {y : Str} {p1 p2 p3 p4 : Pos} (C : ExcC X.K D) (hz : Zc (.ref D) none oe) (hf : ∃ vs, oe.data = .fields vs) (T : Tx X.w X.K X.mg) (hy : X.mg y = some (.ref (He.ga X.K y))) (hg : Gl ((cxR X g cdg s0 H0).suite a ((a, oe) :: pn)) y := by rfl) (hd : (y == ("__debug__" : Str)) = false := by decide) :
    PE ((cxR X g cdg s0 H0).suite a ((a, oe) :: pn)) (.Call (.Name "isinstance" p1) [.Name "e" p2, .Name y p3] [] p4) (tCB (rIsE X.K D a) (tCons (tVar 1) (tCons (tC (.ref (He.ga X.K y))) tNil))) :=
  pe_callB (call_isE C hz hf) rfl T.z_isinstance boot_isinstance (pa_cons (pv 1) (pa_cons (pe_glob (v := .ref (He.ga X.K y)) hg hy rfl hd) pa_nil))
theorem boot_VE : bootBuiltins "ValueError" = some (.type "ValueError") := by decide +kernel
abbrev suiteR : List Stmt := match defBody s__law_raised with
  | .Try _ [.ExceptHandler _ _ b _] _ _ _ :: _ => b
  | _ => []
theorem suite_ok (T : Tx X.w X.K X.mg) {cls : Value} {d : Option Addr} (hz : Zc cls d oe) (hf : ∃ vs, oe.data = .fields vs) : PSs ((cxR X g cdg s0 H0).suite a ((a, oe) :: pn)) suiteR (fun Dn σ H => ∃ z, z ∈ words6 ∧ cls = .ref (He.ga X.K (exN z)) ∧ d = none ∧ (∃ σ0 : L2.St, σ = σ0.set 1 (some (.ref a))) ∧ ∀ H', Same H H' → Dn.rt (.str z) H') := by
  refine ⟨fun pins s σ H Dn I h => ?_⟩
  obtain ⟨z, hzw, rfl, rfl, ⟨σ0, rfl⟩, q⟩ := h
  have hl : σ0.length = 4 := by
    have := I.len
    rw [List.length_set] at this
    exact this
  obtain ⟨v0, v1, v2, v3, rfl⟩ : ∃ v0 v1 v2 v3, σ0 = [v0, v1, v2, v3] := by
    match σ0, hl with
    | [v0, v1, v2, v3], _ => exact ⟨v0, v1, v2, v3, rfl⟩
  obtain ⟨w1, w2, w3, w4, w5⟩ := words_ok z hzw
  obtain ⟨C, kV, kI⟩ := exc_of T w3
  have nd := sc__law_raised.nd
  refine PSs.run (X := (cxR X g cdg s0 H0).suite a ((a, oe) :: pn)) (st := suiteR) (pss_cons ((ps_set (i := 2) nd rfl (Or.inl rfl) ((pe_lst (pa_cons (pe_isE C hz hf T T.g_TooLate) (pa_cons (pe_isE C hz hf T T.g_InvalidMessage) (pa_cons (pe_isE C hz hf T T.g_InvalidOperation) pa_nil))))))) (pss_cons ((ps_set (i := 2) nd rfl (Or.inl rfl) ((pe_op (op_cat) (pv 2) ((pe_lst (pa_cons (pe_isE C hz hf T T.g_UnknownCall) (pa_cons (pe_isE C hz hf T T.g_InvalidCall) (pa_cons (pe_isE C hz hf T T.g_UnknownCheckpoint) pa_nil))))))))) (pss_cons ((ps_set (i := 2) nd rfl (Or.inl rfl) ((pe_op (op_cat) (pv 2) ((pe_lst (pa_cons (pe_isE C hz hf T T.g_ServiceInUse) (pa_cons (pe_isE C hz hf T T.g_UnknownService) (pa_cons (pe_isE C hz hf T T.g_TooManyServices) pa_nil))))))))) (pss_cons ((ps_set (i := 2) nd rfl (Or.inl rfl) ((pe_op (op_cat) (pv 2) ((pe_lst (pa_cons (pe_isE C hz hf T T.g_TooManyCalls) pa_nil))))))) (pss_cons ((ps_if ((PW.pt (pw_or ((pt_cmpR (op_ne) (pe_bm PySem.F.plainAttrs_list PySem.F.slot_list_count PySem.F.type_list_count mt_bcount (pv 2) (pa_cons (pe_bl) pa_nil)) (pe_int) (nomark _))) (pw_or1 ((pt_not (pt_val (pe_callB (call_isE C hz hf) rfl T.z_isinstance boot_isinstance (pa_cons (pv 1) (pa_cons (pe_bltn (v := .ty "ValueError") rfl T.z_ValueError boot_VE rfl) pa_nil)))))))))) ((pss_one ((ps_ret (pe_str))))) (pss_nil))) (pss_cons ((ps_set (i := 3) nd rfl (Or.inl rfl) ((pe_lst (pa_cons (pe_str) (pa_cons (pe_str) (pa_cons (pe_str) (pa_cons (pe_str) (pa_cons (pe_str) (pa_cons (pe_str) (pa_cons (pe_str) (pa_cons (pe_str) (pa_cons (pe_str) (pa_cons (pe_str) pa_nil)))))))))))))) (pss_one ((ps_ret ((pe_ix ix_list (pv 3) (pe_bm PySem.F.plainAttrs_list PySem.F.slot_list_index PySem.F.type_list_index mt_index (pv 2) (pa_cons (pe_bl) pa_nil)) (fun _ _ => rfl)))))))))))) pins s _ H Dn I ?_
  have kO : ∀ y, y ∈ isaX → ∀ u, RelV (V.ref (He.ga X.K y)) u → u = .ref (He.ga X.K y) := fun y _ u r => r
  have kv : ∀ y, y ∈ isaX → PySem.W.kitOne X.K (.ref (He.ga X.K (exN z))) (.ref (He.ga X.K y)) = some (decide (exN z = y)) := kI
  refine ⟨_, rfl, _, _, _, rfl, kO "TooLate" (by decide), kv "TooLate" (by decide), ?_⟩
  refine ⟨_, rfl, _, _, _, rfl, kO "InvalidMessage" (by decide), kv "InvalidMessage" (by decide), ?_⟩
  refine ⟨_, rfl, _, _, _, rfl, kO "InvalidOperation" (by decide), kv "InvalidOperation" (by decide), by show 3 ≤ sizeLine; decide, fun a1 h1 => ?_⟩
  refine ⟨_, rfl, _, rfl, _, _, _, rfl, kO "UnknownCall" (by decide), kv "UnknownCall" (by decide), ?_⟩
  refine ⟨_, rfl, _, _, _, rfl, kO "InvalidCall" (by decide), kv "InvalidCall" (by decide), ?_⟩
  refine ⟨_, rfl, _, _, _, rfl, kO "UnknownCheckpoint" (by decide), kv "UnknownCheckpoint" (by decide), by show 3 ≤ sizeLine; decide, fun a2 h2 => ?_⟩
  refine ⟨_, _, _, _, rfl, rfl, upd_ne' h2 upd_same, upd_same, by show 6 ≤ sizeLine; decide, fun a3 h3 => ?_⟩
  refine ⟨_, rfl, _, rfl, _, _, _, rfl, kO "ServiceInUse" (by decide), kv "ServiceInUse" (by decide), ?_⟩
  refine ⟨_, rfl, _, _, _, rfl, kO "UnknownService" (by decide), kv "UnknownService" (by decide), ?_⟩
  refine ⟨_, rfl, _, _, _, rfl, kO "TooManyServices" (by decide), kv "TooManyServices" (by decide), by show 3 ≤ sizeLine; decide, fun a4 h4 => ?_⟩
  refine ⟨_, _, _, _, rfl, rfl, upd_ne' h4 upd_same, upd_same, by show 9 ≤ sizeLine; decide, fun a5 h5 => ?_⟩
  refine ⟨_, rfl, _, rfl, _, _, _, rfl, kO "TooManyCalls" (by decide), kv "TooManyCalls" (by decide), by show 1 ≤ sizeLine; decide, fun a6 h6 => ?_⟩
  refine ⟨_, _, _, _, rfl, rfl, upd_ne' h6 upd_same, upd_same, by show 10 ≤ sizeLine; decide, fun a7 h7 => ?_⟩
  have sA := ((Same.new h1).trans (Same.new h2)).trans (((Same.new h3).trans (Same.new h4)).trans (((Same.new h5).trans (Same.new h6)).trans (Same.new (o := HO.lst ((bsOf z).map V.bl)) h7)))
  refine ⟨_, rfl, .inl ⟨rfl, _, SqL.of upd_same⟩, a7, bsOf z, rfl, rfl, SqL.of upd_same, ?_⟩
  refine ⟨rfl, _, rfl, iteNS (c := V.int ((bsOf z).count true : Nat) = V.int 1) (by rw [w1]; rfl) ?_⟩
  refine ⟨_, rfl, _, _, true, rfl, fun u r => r, kV, true, rfl, iteF ?_⟩
  refine ⟨by show 10 ≤ sizeLine; decide, fun a8 h8 => ?_⟩
  refine ⟨_, rfl, _, rfl, .inl ⟨rfl, _, SqL.of (upd_ne' h8 upd_same)⟩, a7, (bsOf z).map V.bl, .bl true, (bsOf z).idxOf true, .bl true, rfl, rfl, SqL.of (upd_ne' h8 upd_same), rfl, flat_bls _, by rw [List.getElem?_map, w4]; rfl, rfl, fun m z' hm hz' => ?_, ?_⟩
  · rw [List.getElem?_map, w5 m hm] at hz'
    cases Option.some.inj hz'
    rfl
  · exact ⟨a8, wordsL.map V.str, _, .str z, rfl, rfl, SqL.of upd_same, atI_nat (by rw [List.getElem?_map, w2]; rfl), q _ (sA.trans (Same.new h8))⟩
/-- the def that calls what it got -/
theorem raised_gives (T : Tx X.w X.K X.mg) {q : Str} : LamX.GivesTo X N__law_raised "_law_raised" (defScope s__law_raised) g cdg (defBody s__law_raised) "_law_work" q (TTr X.K) := by
  intro f c' s H Q tl act hc h
  have nd := sc__law_raised.nd
  refine ⟨_, pss_cons (ps_try_as (X := cxR X g cdg s H) (i := 1) (c := .ref (He.ga X.K "OnceError")) (Wout := fun _ _ _ _ => False)
      (tb := fun W D σ H => ∃ Ech : XK, (∀ cls d σ' H', Ech cls d H' → W cls d σ' H') ∧ σ[0]? = some (some (.ref f)) ∧ H c' = some (LamX.CodeO c' q) ∧ tl Ech H (fun _ H' => D.nx σ H'))
      (ts := fun a cls d Dn σ H => ∃ z, z ∈ words6 ∧ cls = .ref (He.ga X.K (exN z)) ∧ d = none ∧ (∃ σ0 : L2.St, σ = σ0.set 1 (some (.ref a))) ∧ ∀ H', Same H H' → Dn.rt (.str z) H')
      rfl rfl nd rfl rfl ⟨rfl, by decide, .inl T.g_OnceError⟩ takes0 (fun W pn xe tk _ => ?_) (fun a oe cls d pn hz hf => suite_ok T hz hf)) (pss_one (ps_ret pe_non)), ?_⟩
  · refine ⟨fun pins s' σ H' D I h' => ?_⟩
    obtain ⟨Ech, hW, h1, h2, h3⟩ := h'
    exact PSs.run (pss_one (ps_expr (act W pn xe Ech _ _ tk hW))) pins s' σ H' D I ⟨h1, h2, h3⟩
  · refine ⟨fun cls d H' => d = none ∧ ∃ z, z ∈ words6 ∧ cls = .ref (He.ga X.K (exN z)) ∧ ∀ H'', Same H' H'' → Q (.str z) H'', fun cls d σ' H' r => ?_, rfl, hc, h⟩
    obtain ⟨rfl, z, hz, rfl, r⟩ := r
    exact ⟨true, exm_of T (words_ok z hz).2.2.1, fun _ a _ => ⟨z, hz, rfl, rfl, ⟨σ', rfl⟩, r⟩, fun e => nomatch e⟩
end
end K68
end
section
set_option Elab.async false
set_option linter.all false
set_option maxRecDepth 100000
set_option maxHeartbeats 2000000
namespace K68
open PySem PySem.Spec PyProof.Rows L2
/-! ### a chain of deeds from a first system -/
def Chain (s : Sys) : List Ent → Sys → Prop
  | [], t => s = t
  | x :: l, t => x.b = s ∧ (step s x.d).w = none ∧ x.a = (step s x.d).s ∧ Chain x.a l t
theorem Chain.app {s t u : Sys} : ∀ {l m : List Ent}, Chain s l t → Chain t m u → Chain s (l ++ m) u := by
  intro l
  induction l generalizing s with
  | nil => intro m h g; cases h; exact g
  | cons x l ih => intro m h g; exact ⟨h.1, h.2.1, h.2.2.1, ih h.2.2.2 g⟩
theorem Chain.last {s u : Sys} {x : Ent} : ∀ {l : List Ent}, Chain s (l ++ [x]) u → Chain s l x.b ∧ (step x.b x.d).w = none ∧ x.a = (step x.b x.d).s ∧ x.a = u := by
  intro l
  induction l generalizing s with
  | nil =>
    intro h
    obtain ⟨h1, h2, h3, h4⟩ := h
    exact ⟨h1.symm, h1 ▸ h2, h1 ▸ h3, h4⟩
  | cons y l ih =>
    intro h
    obtain ⟨h1, h2, h3, h4⟩ := h
    obtain ⟨g1, g2, g3, g4⟩ := ih h4
    exact ⟨⟨h1, h2, h3, g1⟩, g2, g3, g4⟩
theorem Chain.run {t : Sys} {sv : Option Sv} : ∀ {l : List Ent} {e : Ed}, Chain e.pr l t → e.un = [] → e.sv = sv → runD e (l.map (·.d)) = (⟨t, e.dn ++ l, [], sv⟩, none)
  | [], e, h, hu, hs => by
    obtain ⟨pr, dn, un, s⟩ := e
    obtain rfl : pr = t := h
    obtain rfl : un = [] := hu
    obtain rfl : s = sv := hs
    rw [List.append_nil]
    rfl
  | x :: l, e, h, hu, hs => by
    obtain ⟨h1, h2, h3, h4⟩ := h
    rw [List.map_cons, runD_ok h2, Chain.run (e := e.enter x.d (step e.pr x.d).s) (l := l) (t := t) (sv := sv) (by rw [← h3]; exact h4) rfl hs]
    show (Ed.mk t ((e.dn ++ [⟨x.d, e.pr, (step e.pr x.d).s⟩]) ++ l) [] sv, none) = _
    rw [← h3, ← h1, List.append_assoc]
    rfl
theorem bad_run {e : Ed} (SO : SysOk e.pr) : ∃ z, (runD e [.addS, .remC 99]).2 = some z ∧ (z = "many" ∨ z = "call") := by
  by_cases c : e.pr.n < 8
  · have h1 : step e.pr .addS = ⟨⟨e.pr.n + 1, e.pr.cs⟩, .int e.pr.n, none⟩ := by rw [step_addS, if_pos c]
    have h2 : step (e.enter .addS (step e.pr .addS).s).pr (.remC 99) = bad ⟨e.pr.n + 1, e.pr.cs⟩ "call" := by
      rw [h1]
      show step ⟨e.pr.n + 1, e.pr.cs⟩ (.remC 99) = _
      rw [step_remC]
      have := SO.2.2.1
      rw [show (Sys.mk (e.pr.n + 1) e.pr.cs).cs[99]? = none from List.getElem?_eq_none_iff.mpr (by show e.pr.cs.length ≤ 99; omega)]
    refine ⟨"call", ?_, .inr rfl⟩
    rw [runD_ok (by rw [h1]), runD_bad (z := "call") (by rw [h2]; rfl)]
  · have h1 : step e.pr .addS = bad e.pr "many" := by rw [step_addS, if_neg c]
    exact ⟨"many", by rw [runD_bad (z := "many") (by rw [h1]; rfl)], .inl rfl⟩
/-! ### two editors, and what a lambda's making leaves -/
section
variable {K : PySem.W.Frag} {H H' : Hp} {p : Addr} {own : List Addr} {e : Ed}
theorem ext_tle (x : LamX.ExtN H H') : Tle H H' := fun a xs h => x a _ h (by intro ps z; cases z)
theorem EdAt.ext (h : EdAt K H p own e) (x : LamX.ExtN H H') : EdAt K H' p own e := by
  obtain ⟨dx, v, l1, l2, sd, ap, us1, us2, kvs, eo, i⟩ := h
  have tl := ext_tle x
  exact ⟨dx, v, l1, l2, sd, ap, us1, us2, kvs, eo, x _ _ i.ins (by intro ps z; cases z), i.pr.mono tl, x _ _ i.h1 (by intro ps z; cases z), i.t1.mono tl, x _ _ i.h2 (by intro ps z; cases z), i.t2.mono tl, x _ _ i.hs (by intro ps z; cases z), i.sv.mono tl (fun b xs h n => ⟨n, x _ _ h (by intro ps z; cases z)⟩), i.ne⟩
/-- an editor without checkpoints stands while another one works -/
theorem EdAt.keep {o2 o2' : List Addr} (h : EdAt K H p own e) (f : Fr o2 H o2' H') (t : Tle H H') (d : ∀ b ∈ own, b ∉ o2) (n : e.sv = none) : EdAt K H' p own e ∧ ∀ b ∈ own, b ∉ o2' := by
  obtain ⟨dx, v, l1, l2, sd, ap, us1, us2, kvs, rfl, i⟩ := h
  have f1 := f _ _ i.ins (d _ (by simp))
  have f2 := f _ _ i.h1 (d _ (by simp))
  have f3 := f _ _ i.h2 (d _ (by simp))
  have f4 := f _ _ i.hs (d _ (by simp))
  refine ⟨⟨dx, v, l1, l2, sd, ap, us1, us2, kvs, rfl, f1.2, i.pr.mono t, f2.2, i.t1.mono t, f3.2, i.t2.mono t, f4.2, ?_, i.ne⟩, fun b hb => ?_⟩
  · have sv := i.sv
    rw [n] at sv ⊢
    exact sv
  · simp only [List.mem_cons, List.not_mem_nil, or_false] at hb
    rcases hb with rfl | rfl | rfl | rfl
    · exact f1.1
    · exact f2.1
    · exact f3.1
    · exact f4.1
theorem EdAt.has (h : EdAt K H p own e) {b : Addr} (hb : b ∈ own) : ∃ o, H b = some o := by
  obtain ⟨dx, v, l1, l2, sd, ap, us1, us2, kvs, rfl, i⟩ := h
  simp only [List.mem_cons, List.not_mem_nil, or_false] at hb
  rcases hb with rfl | rfl | rfl | rfl
  · exact ⟨_, i.ins⟩
  · exact ⟨_, i.h1⟩
  · exact ⟨_, i.h2⟩
  · exact ⟨_, i.hs⟩
end
/-! ### the makers of lambdas -/
abbrev cI (K : PySem.W.Frag) : Addr := (He.cT K ("_law_is_again", none)).1
abbrev pI (K : PySem.W.Frag) : Addr := (He.cT K ("_law_is_again", none)).2
abbrev cL (K : PySem.W.Frag) : Addr := (He.cT K ("law", none)).1
abbrev pL (K : PySem.W.Frag) : Addr := (He.cT K ("law", none)).2
theorem cI_eq {K : PySem.W.Frag} : He.codeOf K ("_law_is_again", none) = cI K := by simp only [cI, He.cT]
theorem cL_eq {K : PySem.W.Frag} : He.codeOf K ("law", none) = cL K := by simp only [cL, He.cT]
def tabsT (K : PySem.W.Frag) : List (Addr × Str) := [(pI K, ("_law_is_again" : Str) ++ ".<locals>." ++ "<lambda>"), (pL K, ("law" : Str) ++ ".<locals>." ++ "<lambda>")]
theorem passN {X : Cx} : Passes (L2N.CX X.prog X.w) X E0 := fun _ _ _ _ _ _ _ h => by
  obtain ⟨_, _, _, _, _, _, _, _, _, _, _, _, z⟩ := h
  exact z.elim
section
variable {P : Program} {w : World} {K : PySem.W.Frag} {mg : Str → Option Value} {base : Heap}
/-- a def that lets nothing out, its code object told -/
theorem gf0C {x qual : Str} {args : Arguments} {body : List Stmt} {scope : Scope} {p : Str × Option Str} {N ps : List Str} {k : Nat} {sp : Sp} (F : ∃ fd, FunD K x qual args body scope [] [] (He.fAd K p) fd) (hm : mg x = some (.ref (He.fAd K p))) (S : FnScope N ps scope) (bn : Bd K x qual args body scope (He.fAd K p) ps) (len : ∀ vs H Q E, sp vs H Q E → vs.length = ps.length)
    (hbody : ∀ (A : Around) (outer : List Env) (s : Shared) (H : Hp) (vs : List V) (Q : VK) (E : XK), Room k (A.deeper (envOfC qual scope s.heap.objs.size (He.fAd K p) (.ref (He.codeOf K p)))) → sp vs H Q E →
      ∃ t, PSs (cxOf CX0 P w K mg base N qual scope (He.fAd K p) (.ref (He.codeOf K p)) A outer s H E).nox body t ∧ t { nx := fun _ H' => Q .non H', rt := Q } (start N vs) H) : GF P w K mg base CX0 (k + 1) x ps sp := by
  obtain ⟨fd, F⟩ := F
  have b := bn fd F
  have kp := F.kp
  obtain ⟨oc, od, dV, kV, doc, pm, an, cdv, ct, osl, rfl, lk, hcd, _, _⟩ := F.ex
  obtain ⟨c, rfl⟩ := He.codeIn_ref hcd
  have ec := He.codeOf_eq lk rfl
  subst ec
  exact ⟨_, _, hm, kp, b, fn_of lk hcd S len fun A outer s H vs Q E hr hsp => by
    obtain ⟨t, h, q⟩ := hbody A outer s H vs Q E hr hsp
    exact ⟨t, h.nox, q⟩⟩
/-- _law_raised of a lambda -/
theorem pe_lamR {X : Cx} {Tb : List (Addr × Str)} {c P : Addr} {k : Nat} {params : Arguments} {body : Expr} {scope : Scope} {t : XK → TE} {q : Str} {p lpos pos : Pos} (T : Tx X.w X.K X.mg) (hg : Gl X "_law_raised") (TB : LamX.TabB X.base X.mg c P) (hcode : X.env.code = .ref c) (hq : X.env.qual = q) (hmT : (P, q ++ "<lambda>") ∈ Tb) (hu : ∀ p ∈ Tb, p.1 = P → p.2 = q ++ "<lambda>") (hr : Room (k + 2) X.A) (L : LamX.LamS X.env.scope scope) (hdef : defaultsOf params X.env = ([], []))
    (hbind : ∀ (q : Str) (cl : List (Str × Addr)) (pm cv ctv : Value), bindArgs (PySem.W.kla_fn "<lambda>" q params body scope cl pm cv ctv) ⟨[], []⟩ = pure [])
    (hbody : ∀ (A : Around) (outer : List Env) (s : Shared) (H : Hp) (E : XK) (f c' : Addr), Room k (A.deeper (LamX.lamEnv X scope s.heap.objs.size f c')) → PE (LamX.lamCx X A outer s H E scope f c') body (t E)) :
    PE X (.Call (.Name "_law_raised" p) [.Lambda params body scope lpos] [] pos) (LamX.tLam Tb (TTr X.K) t) := by
  subst hq
  obtain ⟨fdR, FR⟩ := T.f__law_raised
  have bR : Binds X.K fdR ["_law_work"] [] := FR.bindsN fun _ _ _ _ _ _ us hl => match us, hl with | [_], _ => rfl
  have kR := FR.kp
  obtain ⟨ocR, odR, dVR, kVR, docR, pmR, anR, cdR, ctR, oslR, rfl, lkR, hcR, _, _⟩ := FR.ex
  exact LamX.pe_lamcall hg T.g__law_raised kR lkR hcR bR sc__law_raised rfl (Or.inl rfl) (raised_gives T) TB hcode hmT hu hr L hdef hbind hbody
/-! ### _law_is_again -/
def sp_again (K : PySem.W.Frag) : Sp := fun vs H Q _ => ∃ (p : Addr) (own : List Addr) (e : Ed) (u v : V) (first : Sys), vs = [.ref p, u, v] ∧ LamX.Tabs (tabsT K) H ∧ EdAt K H p own e ∧ e.sv = none ∧ Td H u (syD first) ∧ Td H v (syD e.pr) ∧ SysOk first ∧ SysOk e.pr ∧ Chain first e.dn e.pr ∧ (∀ x ∈ e.dn, DeedOk x.d) ∧ e.dn.length < 900 ∧ ∀ H', Q (.bl true) H'
abbrev N__law_is_again : List Str := ["_law_editor", "_law_first", "_law_system_here", "_law_bad", "_law_again"]
theorem sc__law_is_again : FnScope N__law_is_again ["_law_editor", "_law_first", "_law_system_here"] (defScope s__law_is_again) := ⟨rfl, rfl, rfl, by decide +kernel, rfl, by decide +kernel, by decide +kernel⟩
theorem ok_again (T : Tx w K mg) (TB : LamX.TabB base mg (cI K) (pI K)) : GF P w K mg base CX0 10 "_law_is_again" ["_law_editor", "_law_first", "_law_system_here"] (sp_again K) := by
  have GI := ok_ed_init (P := P) (base := base) T
  have GA := ok_apply (P := P) (base := base) T
  have GH := ok_history (P := P) (base := base) T
  have GS := ok_save (P := P) (base := base) T
  have GR := ok_restore (P := P) (base := base) T
  have GC := ok_checkpoints (P := P) (base := base) T
  have GU := ok_current (P := P) (base := base) T
  refine gf0C (p := ("_law_is_again", none)) T.f__law_is_again T.g__law_is_again sc__law_is_again (fun _ F => F.bindsN fun _ _ _ _ _ _ us hl => match us, hl with | [_, _, _], _ => rfl) (fun vs H Q E h => ?_) (fun A outer s H vs Q E hr h => ?_)
  · obtain ⟨p, own, e, u, v, first, rfl, _⟩ := h
    rfl
  · obtain ⟨p, own, e, u, v, first, rfl, hT, EA, es, tu, tv, SO1, SO2, CH, DO, hl, q⟩ := h
    have nd := sc__law_is_again.nd
    have cE := T.c_Editor
    have r1 : Room 1 _ := hr.mono (by decide)
    have r2 : Room 2 _ := hr.mono (by decide)
    have r6 : Room 6 _ := hr.mono (by decide)
    have r7 : Room 7 _ := hr.mono (by decide)
    have hmT : (pI K, ("_law_is_again" : Str) ++ ".<locals>." ++ "<lambda>") ∈ tabsT K := List.mem_cons_self
    have huT : ∀ x ∈ tabsT K, x.1 = pI K → x.2 = ("_law_is_again" : Str) ++ ".<locals>." ++ "<lambda>" := fun x hx hp => by
      simp only [tabsT, List.mem_cons, List.not_mem_nil, or_false] at hx
      rcases hx with rfl | rfl
      · rfl
      · exact absurd hp.symm T.tabs_
    refine ⟨_, (pss_cons ((ps_set (i := 4) nd rfl (Or.inr rfl) (pe_mk GI T.k_Editor T.g_Editor r6 pass0 (pa_cons (pv 1) pa_nil)))) (pss_cons (ps_expr (pe_m GA T.m_apply_all cE (r7) (passN) (pv 4) (pa_cons ((pe_m0 GH T.m_history cE (r1) (pass0) (pv 0))) pa_nil))) (pss_cons (ps_expr (pe_m GS T.m_save cE (r2) (pass0) (pv 4) (pa_cons (pe_str) pa_nil))) (pss_cons ((ps_set (i := 3) nd rfl (Or.inl rfl) (pe_lamR (q := ("_law_is_again" : Str) ++ ".<locals>.") (k := 7) T rfl TB (congrArg Value.ref cI_eq) rfl hmT huT hr (LamX.lamS_by (sc := defScope s__law_is_again) (by decide +kernel)) rfl (fun _ _ _ _ _ => rfl)
        (fun A outer s H E f c' hr' => pe_m GA.down T.m_apply_all cE hr' (L2.passes_call (L2.takes_of rfl rfl rfl rfl) (fun _ _ _ _ h => h)) (pv 4) (pa_cons ((pe_lst (pa_cons ((pe_tup (pa_cons (pe_str) pa_nil))) (pa_cons ((pe_tup (pa_cons (pe_str) (pa_cons (pe_int) pa_nil)))) pa_nil)))) pa_nil))))) (pss_cons (ps_expr (pe_m GR T.m_restore cE (r1) (pass0) (pv 4) (pa_cons (pe_str) pa_nil))) (pss_cons ((ps_if ((PW.pt (pw_or ((pt_cmpR (op_notInT hr.units) (pv 3) ((pe_tup (pa_cons (pe_str) (pa_cons (pe_str) pa_nil)))) (by rfl))) (pw_or1 ((pt_cmpR (op_neD hr.units) ((pe_m0 GC T.m_checkpoints cE (r1) (pass0) (pv 4))) ((pe_lst (pa_cons (pe_str) pa_nil))) (nomark _))))))) ((pss_one ((ps_ret (pe_bl))))) (pss_nil))) (pss_one ((ps_ret ((pe_and ((pe_cmpR (op_eqD hr.units) ((pe_m0 GU T.m_current_system cE (r1) (pass0) (pv 4))) (pv 2) (nomark _))) (pe_one ((pe_cmpR (op_eqD hr.units) ((pe_m0 GH T.m_history cE (r1) (pass0) (pv 4))) ((pe_m0 GH T.m_history cE (r1) (pass0) (pv 0))) (nomark _))))))))))))))), ?_⟩
    obtain ⟨dx0, v0, l10, l20, sd0, ap0, us10, us20, kvs0, eo0, i0⟩ := id EA
    refine ⟨_, rfl, fun x dx nx ndx ne => ?_⟩
    have nx1 : (upd H dx (.own x)) x = none := by rw [upd_ne ne.symm]; exact nx
    have s1 : Same H (upd (upd H dx (.own x)) x (.ins (aE K) dx [])) := (Same.new ndx).trans (Same.new nx1)
    refine ⟨x, dx, u, first, rfl, upd_same, tu.mono s1.tle, SO1, fun H2 o2 f2 EA2 => ⟨rfl, ?_⟩⟩
    have F2 : Fr [] H o2 H2 := fun b o h _ => f2 b o (s1 _ _ h) (ne_of_none h nx)
    have sm : ∀ {o' : List Addr} {H' : Hp}, Fr [] H o' H' → Same H H' := fun f b o h => (f b o h (by simp)).2
    obtain ⟨dx2, v2, l12, l22, sd2, ap2, us12, us22, kvs2, rfl, i2⟩ := id EA2
    refine ⟨_, rfl, x, dx2, _, rfl, i2.ins, ef_no (by decide +kernel) (by decide +kernel) (by decide +kernel) (by decide +kernel) (by decide +kernel), ?_⟩
    refine ⟨_, rfl, p, dx0, _, rfl, sm F2 _ _ i0.ins, ef_no (by decide +kernel) (by decide +kernel) (by decide +kernel) (by decide +kernel) (by decide +kernel), p, own, e, rfl, EA.mono (sm F2), by omega, fun L H3 us s3 nL hL tL => ?_⟩
    have run1 : runD ⟨first, [], [], none⟩ (e.dn.map (·.d)) = (⟨e.pr, e.dn, [], none⟩, none) := by
      have q1 := Chain.run (t := e.pr) (sv := none) (l := e.dn) (e := ⟨first, [], [], none⟩) CH rfl rfl
      rw [List.nil_append] at q1
      exact q1
    refine ⟨x, L, _, ⟨first, [], [], none⟩, us, e.dn.map (·.d), rfl, EA2.mono s3, hL, EA2.fresh nL, by rw [List.map_map]; exact tL, SO1, fun d hd => ?_, by show 0 + (e.dn.map (·.d)).length < 1000; rw [List.length_map]; omega, fun _ v4 H4 o4 f4 EA4 => ?_, fun z hz => by rw [run1] at hz; cases hz⟩
    · obtain ⟨y, hy, rfl⟩ := List.mem_map.mp hd
      exact DO y hy
    rw [run1] at EA4
    have F4 : Fr [] H o4 H4 := (F2.same s3).trans f4
    obtain ⟨dx4, v4', l14, l24, sd4, ap4, us14, us24, kvs4, rfl, i4⟩ := id EA4
    refine ⟨_, rfl, x, dx4, _, rfl, i4.ins, ef_no (by decide +kernel) (by decide +kernel) (by decide +kernel) (by decide +kernel) (by decide +kernel), x, _, _, rfl, EA4, rfl, fun H5 m1 m2 f5 EA5 => ?_⟩
    have F5 : Fr [] H _ H5 := F4.trans f5
    refine ⟨LamX.Tabs.ext hT (sm F5), fun H6 eN T6 => ?_⟩
    have EA6 := EA5.ext eN
    have G6 : ∀ b o, H b = some o → (∀ ps, o ≠ .tbl ps) → b ∉ [x, l14, l24, sd4] ∧ H6 b = some o := fun b o h n => ⟨(F5 b o h (by simp)).1, eN _ _ ((F5 b o h (by simp)).2) n⟩
    obtain ⟨dx6, v6, l16, l26, sd6, ap6, us16, us26, kvs6, eo6, i6⟩ := id EA6
    refine ⟨_, rfl, x, dx6, _, rfl, i6.ins, ef_no (by decide +kernel) (by decide +kernel) (by decide +kernel) (by decide +kernel) (by decide +kernel), ?_⟩
    refine ⟨by show 1 ≤ sizeLine; decide, fun t1 ht1 => ?_⟩
    refine ⟨by show 2 ≤ sizeLine; decide, fun t2 ht2 => ?_⟩
    refine ⟨by show 2 ≤ sizeLine; decide, fun l hl6 => ?_⟩
    have s7 : Same H6 (upd (upd (upd H6 t1 (.tup [.str "add_service"])) t2 (.tup [.str "remove_call", .int 99])) l (.lst [.ref t1, .ref t2])) := ((Same.new ht1).trans (Same.new ht2)).trans (Same.new hl6)
    have g1 := upd_ne' (o := HO.lst [.ref t1, .ref t2]) hl6 (upd_ne' (o := HO.tup [.str "remove_call", .int 99]) ht2 (upd_same (H := H6) (a := t1) (o := HO.tup [.str "add_service"])))
    have g2 := upd_ne' (o := HO.lst [.ref t1, .ref t2]) hl6 (upd_same (H := upd H6 t1 (.tup [.str "add_service"])) (a := t2) (o := HO.tup [.str "remove_call", .int 99]))
    have EA7 := EA6.mono s7
    have fl : l ∉ [x, l14, l24, sd4] := (EA6.mono ((Same.new (o := HO.tup [.str "add_service"]) ht1).trans (Same.new (o := HO.tup [.str "remove_call", .int 99]) ht2))).fresh hl6
    refine ⟨x, l, _, _, [.ref t1, .ref t2], [.addS, .remC 99], rfl, EA7, upd_same, fl, .cons (.tup g1 (.cons (.str _) .nil)) (.cons (.tup g2 (.cons (.str _) (.cons (.int _) .nil))) .nil), SO2, fun d hd => ?_, by show e.dn.length + 2 < 1000; omega, fun hn => ?_, fun z hz H8 o8 f8 EA8 => ?_⟩
    · simp only [List.mem_cons, List.not_mem_nil, or_false] at hd
      rcases hd with rfl | rfl
      · exact trivial
      · show (99 : Nat) < 2 ^ 60
        decide
    · obtain ⟨z, hz, _⟩ := bad_run (e := ⟨e.pr, e.dn, [], some ⟨e.pr, e.dn, [], m1, m2⟩⟩) SO2
      rw [hz] at hn
      cases hn
    obtain ⟨z', hz', hzz⟩ := bad_run (e := ⟨e.pr, e.dn, [], some ⟨e.pr, e.dn, [], m1, m2⟩⟩) SO2
    rw [hz'] at hz
    cases Option.some.inj hz
    refine ⟨rfl, z, by rcases hzz with rfl | rfl <;> decide, rfl, fun H9 s9 => ?_⟩
    have G9 : ∀ b o, H b = some o → (∀ ps, o ≠ .tbl ps) → b ∉ o8 ∧ H9 b = some o := fun b o h n => by
      obtain ⟨n1, h1⟩ := G6 b o h n
      obtain ⟨n2, h2⟩ := f8 b o (s7 _ _ h1) n1
      exact ⟨n2, s9 _ _ h2⟩
    have EA9 := EA8.mono s9
    obtain ⟨dx9, v9, l19, l29, sd9, ap9, us19, us29, kvs9, rfl, i9⟩ := id EA9
    refine ⟨_, rfl, x, dx9, _, rfl, i9.ins, ef_no (by decide +kernel) (by decide +kernel) (by decide +kernel) (by decide +kernel) (by decide +kernel), x, _, _, _, rfl, EA9, rfl, fun Ha oa fa EAa => ?_⟩
    have Ga : ∀ b o, H b = some o → (∀ ps, o ≠ .tbl ps) → b ∉ oa ∧ Ha b = some o := fun b o h n => by
      obtain ⟨n1, h1⟩ := G9 b o h n
      exact fa b o h1 n1
    have xa : LamX.ExtN H Ha := fun b o h n => (Ga b o h n).2
    refine ⟨_, rfl, by show 2 ≤ sizeLine; decide, fun t ht => ?_⟩
    have plz : Pl 20 (.str z) := by rcases hzz with rfl | rfl <;> exact Pl.str (by decide +kernel)
    refine ⟨.str z, [.str "call", .str "many"], 1, .str z, .tup upd_same (.cons (.str _) (.cons (.str _) .nil)), plz, Pl.tup (n := 0) (fun d hd => by
      simp only [List.mem_cons, List.not_mem_nil, or_false] at hd
      rcases hd with rfl | rfl <;> exact Pl.str (by decide +kernel)), _, rfl, ?_⟩
    have ein : (!([PyData.str "call", PyData.str "many"].any fun y => PyData.eqv y (.str z))) = false := by rcases hzz with rfl | rfl <;> decide +kernel
    rw [ein]
    have EAb := EAa.mono (Same.new (o := HO.tup [.str "call", .str "many"]) ht)
    have xb : LamX.ExtN H (upd Ha t (.tup [.str "call", .str "many"])) := xa.trans (LamX.ExtN.of (Same.new ht))
    revert EAb xb
    generalize upd Ha t (.tup [.str "call", .str "many"]) = Hb
    intro EAb xb
    obtain ⟨dxb, vb, l1b, l2b, sdb, apb, us1b, us2b, kvsb, eob, ib⟩ := id EAb
    refine iteF ⟨_, rfl, x, dxb, _, rfl, ib.ins, ef_no (by decide +kernel) (by decide +kernel) (by decide +kernel) (by decide +kernel) (by decide +kernel), x, _, _, rfl, EAb, rfl, fun c1 hc1 => ?_⟩
    refine ⟨by show 1 ≤ sizeLine; decide, fun c2 hc2 => ?_⟩
    refine ⟨.list [.str "all"], .list [.str "all"], .lst (SqL.of (upd_ne' hc2 upd_same)) (.cons (.str _) .nil), .lst (SqL.of upd_same) (.cons (.str _) .nil), by decide +kernel, by decide +kernel, _, rfl, ?_⟩
    rw [show (!PyData.eqv (.list [.str "all"]) (.list [.str "all"])) = false by decide +kernel]
    have EAc := EAb.mono ((Same.new (o := HO.lst [.str "all"]) hc1).trans (Same.new (o := HO.lst [.str "all"]) hc2))
    have xc : LamX.ExtN H (upd (upd Hb c1 (.lst [.str "all"])) c2 (.lst [.str "all"])) := xb.trans (LamX.ExtN.of ((Same.new hc1).trans (Same.new hc2)))
    revert EAc xc
    generalize upd (upd Hb c1 (.lst [.str "all"])) c2 (.lst [.str "all"]) = Hc
    intro EAc xc
    obtain ⟨dxc, vc, l1c, l2c, sdc, apc, us1c, us2c, kvsc, eoc, ic⟩ := id EAc
    refine iteF ⟨_, rfl, x, dxc, _, rfl, ic.ins, ef_no (by decide +kernel) (by decide +kernel) (by decide +kernel) (by decide +kernel) (by decide +kernel), x, _, _, rfl, EAc, fun v' tv' => ?_⟩
    refine ⟨_, rfl, syD e.pr, syD e.pr, tv'.dp, (tv.mono (ext_tle xc)).dp, (Pl.sy _).shaped (by decide), (Pl.sy _).shaped (by decide), _, rfl, ?_⟩
    rw [SeqAt.eqv_refl _ (Pl.sy e.pr).lay]
    refine iteT ⟨_, rfl, x, dxc, _, rfl, ic.ins, ef_no (by decide +kernel) (by decide +kernel) (by decide +kernel) (by decide +kernel) (by decide +kernel), x, _, _, rfl, EAc, by show e.dn.length < 1000; omega, fun d1 Hd us1 sd1 nd1 hd1 td1 => ?_⟩
    have xd : LamX.ExtN H Hd := xc.trans (LamX.ExtN.of sd1)
    refine ⟨_, rfl, p, dx0, _, rfl, xd _ _ i0.ins (by intro ps z; cases z), ef_no (by decide +kernel) (by decide +kernel) (by decide +kernel) (by decide +kernel) (by decide +kernel), p, own, e, rfl, EA.ext xd, by omega, fun d2 He us2 sd2' nd2 hd2 td2 => ?_⟩
    have pld : Pl 4 (.list (e.dn.map fun x => deedD x.d)) := Pl.lst fun d hd => by
      obtain ⟨y, _, rfl⟩ := List.mem_map.mp hd
      exact Pl.deed y.d
    refine ⟨.list (e.dn.map fun x => deedD x.d), .list (e.dn.map fun x => deedD x.d), .lst (SqL.of (sd2' _ _ hd1)) (td1.mono sd2'.tle).dp, .lst (SqL.of hd2) td2.dp, pld.shaped (by decide), pld.shaped (by decide), ?_⟩
    rw [SeqAt.eqv_refl _ pld.lay]
    exact q _
end
end K68
end
section
set_option Elab.async false
set_option linter.all false
set_option maxRecDepth 100000
set_option maxHeartbeats 2000000
namespace K68
open PySem PySem.Spec PyProof.Rows L2
/-! ### the plain part of the law's invariant -/
structure Pn (first : Sys) (e : Ed) : Prop where
  so : SysOk e.pr
  sf : SysOk first
  ch : Chain first e.dn e.pr
  cu : ∃ t, Chain e.pr e.un.reverse t
  sb : ∀ x ∈ e.dn, SysOk x.b
  sa : ∀ x ∈ e.un, SysOk x.a
  od : ∀ x ∈ e.dn, DeedOk x.d
  ou : ∀ x ∈ e.un, DeedOk x.d
section
variable {first : Sys} {e : Ed} {r : List Ent} {x : Ent} {d : Deed}
theorem Pn.lastA (h : Pn first e) (q : e.dn = r ++ [x]) : x.a = e.pr := (Chain.last (q ▸ h.ch)).2.2.2
theorem Pn.lastB (h : Pn first e) (q : e.un = r ++ [x]) : x.b = e.pr := by
  obtain ⟨t, c⟩ := h.cu
  rw [q, List.reverse_append] at c
  exact c.1
theorem Pn.undo (h : Pn first e) (q : e.dn = r ++ [x]) : Pn first ⟨x.b, r, e.un ++ [x], e.sv⟩ := by
  obtain ⟨t, c⟩ := h.cu
  obtain ⟨c1, c2, c3, c4⟩ := Chain.last (q ▸ h.ch)
  have mx : x ∈ e.dn := by rw [q]; simp
  have mr : ∀ y ∈ r, y ∈ e.dn := fun y hy => by rw [q]; simp [hy]
  refine ⟨h.sb x mx, h.sf, c1, ⟨t, ?_⟩, fun y hy => h.sb y (mr y hy), fun y hy => ?_, fun y hy => h.od y (mr y hy), fun y hy => ?_⟩
  · show Chain x.b (e.un ++ [x]).reverse t
    rw [List.reverse_append]
    exact ⟨rfl, c2, c3, by rw [c4]; exact c⟩
  · rcases List.mem_append.mp hy with k | k
    · exact h.sa y k
    · rw [List.mem_singleton.mp k, c4]
      exact h.so
  · rcases List.mem_append.mp hy with k | k
    · exact h.ou y k
    · rw [List.mem_singleton.mp k]
      exact h.od x mx
theorem Pn.redo (h : Pn first e) (q : e.un = r ++ [x]) : Pn first ⟨x.a, e.dn ++ [x], r, e.sv⟩ := by
  obtain ⟨t, c⟩ := h.cu
  rw [q, List.reverse_append] at c
  obtain ⟨c1, c2, c3, c4⟩ := c
  have mx : x ∈ e.un := by rw [q]; simp
  have mr : ∀ y ∈ r, y ∈ e.un := fun y hy => by rw [q]; simp [hy]
  refine ⟨h.sa x mx, h.sf, h.ch.app ⟨c1, c2, c3, rfl⟩, ⟨t, c4⟩, fun y hy => ?_, fun y hy => h.sa y (mr y hy), fun y hy => ?_, fun y hy => h.ou y (mr y hy)⟩
  · rcases List.mem_append.mp hy with k | k
    · exact h.sb y k
    · rw [List.mem_singleton.mp k, c1]
      exact h.so
  · rcases List.mem_append.mp hy with k | k
    · exact h.od y k
    · rw [List.mem_singleton.mp k]
      exact h.ou x mx
theorem Pn.enter (h : Pn first e) (od : DeedOk d) (w : (step e.pr d).w = none) : Pn first (e.enter d (step e.pr d).s) := by
  refine ⟨step_ok h.so od w, h.sf, h.ch.app ⟨rfl, w, rfl, rfl⟩, ⟨_, rfl⟩, fun y hy => ?_, fun y hy => (nomatch hy), fun y hy => ?_, fun y hy => (nomatch hy)⟩
  · rcases List.mem_append.mp hy with k | k
    · exact h.sb y k
    · rw [List.mem_singleton.mp k]
      exact h.so
  · rcases List.mem_append.mp hy with k | k
    · exact h.od y k
    · rw [List.mem_singleton.mp k]
      exact od
end
/-! ### what stands at a turn of the law's loop -/
def pastD (x : Ent) : PyData := .tuple [deedD x.d, syD x.b]
def laterD (x : Ent) : PyData := .tuple [deedD x.d, syD x.a]
theorem Pl.pair (d : Deed) (s : Sys) : Pl 5 (.tuple [deedD d, syD s]) := Pl.tup fun z hz => by
  simp only [List.mem_cons, List.not_mem_nil, or_false] at hz
  rcases hz with rfl | rfl
  · exact (Pl.deed d).mono (by decide)
  · exact Pl.sy s
theorem Pl.past (l : List Ent) : Pl 6 (.list (l.map pastD)) := Pl.lst fun z hz => by
  obtain ⟨x, _, rfl⟩ := List.mem_map.mp hz
  exact Pl.pair _ _
theorem Pl.later (l : List Ent) : Pl 6 (.list (l.map laterD)) := Pl.lst fun z hz => by
  obtain ⟨x, _, rfl⟩ := List.mem_map.mp hz
  exact Pl.pair _ _
def ScrAt (K : PySem.W.Frag) (H : Hp) (own : List Addr) (a : Addr) (xs : List V) : Prop := (∀ H', SqL K H' a xs) ∨ (Rd H a (.lst xs) ∧ a ∉ own)
theorem ScrAt.sq {K : PySem.W.Frag} {H : Hp} {own : List Addr} {a : Addr} {xs : List V} (h : ScrAt K H own a xs) : SqL K H a xs := by
  rcases h with h | h
  · exact h H
  · exact .inl h.1
theorem ScrAt.mk {K : PySem.W.Frag} {H : Hp} {own : List Addr} {a : Addr} {xs : List V} (h : SqL K H a xs) (n : ∀ o, H a = some o → a ∉ own) : ScrAt K H own a xs := by
  rcases h with h | h
  · exact .inr ⟨h, by
      rcases h with h | ⟨o, h⟩
      · exact n _ h
      · exact n _ h⟩
  · exact .inl fun H' => .inr h
theorem Tabs.off {T : List (Addr × Str)} {H H' : Hp} (t : LamX.Tabs T H) (e : ∀ b o, H b = some o → (∀ xs, o ≠ .lst xs) → (∀ c d fs, o ≠ .ins c d fs) → (∀ kvs, o ≠ .dK kvs) → H' b = some o) : LamX.Tabs T H' := fun p hp => by
  obtain ⟨ps, h, z1, z2⟩ := t p hp
  refine ⟨ps, e _ _ h (by intro xs z; cases z) (by intro c d fs z; cases z) (by intro k z; cases z), z1, fun pos cv hc => ?_⟩
  obtain ⟨c, rfl, hc'⟩ := z2 pos cv hc
  exact ⟨c, rfl, e _ _ hc' (by intro xs z; cases z) (by intro c d fs z; cases z) (by intro k z; cases z)⟩
structure LS (K : PySem.W.Frag) (a : Addr) (ns : List Int) (r p : Addr) (own : List Addr) (e t : Ed) (first : Sys) (v2 v5 : V) (l1 l2 : Addr) (H : Hp) : Prop where
  row : RowAt K H r a ns
  ed : EdAt K H p own e
  sv : e.sv = none
  nr : r ∉ own
  tv : Td H v2 (syD t.pr)
  tf : Td H v5 (syD first)
  sc : ScrAt K H own a (ns.map V.int)
  p1 : ∃ us, H l1 = some (.lst us) ∧ TdAll H us (t.dn.map pastD)
  n1 : l1 ∉ own
  m1 : l1 ≠ r
  p2 : ∃ us, H l2 = some (.lst us) ∧ TdAll H us (t.un.map laterD)
  n2 : l2 ∉ own
  m2 : l2 ≠ r
  tb : LamX.Tabs (tabsT K) H
section
variable {K : PySem.W.Frag} {a : Addr} {ns : List Int} {r p : Addr} {own own' : List Addr} {e e' t : Ed} {first : Sys} {v2 v5 : V} {l1 l2 : Addr} {H H' : Hp}
theorem LS.mv (L : LS K a ns r p own e t first v2 v5 l1 l2 H) (m : ∀ b o, H b = some o → (∀ ps, o ≠ .tbl ps) → b ∉ own → b ≠ r → b ∉ own' ∧ H' b = some o) (tl : Tle H H') (rw' : ∃ (i z c : Int), H' r = some (.lst [.ref a, .int i, .int z, .int c]) ∧ 0 ≤ i ∧ 0 ≤ z ∧ z < 2147483647) (nr' : r ∉ own') (E' : EdAt K H' p own' e') (sv' : e'.sv = none) (tb' : LamX.Tabs (tabsT K) H') :
    LS K a ns r p own' e' t first v2 v5 l1 l2 H' := by
  obtain ⟨us, h1, t1⟩ := L.p1
  obtain ⟨us2, h2, t2⟩ := L.p2
  have q1 := m _ _ h1 (by intro ps z; cases z) L.n1 L.m1
  have q2 := m _ _ h2 (by intro ps z; cases z) L.n2 L.m2
  have sc' : ScrAt K H' own' a (ns.map V.int) := by
    refine L.row.ne.elim (fun ne => ?_) Or.inl
    rcases L.sc with h | ⟨h | ⟨o, h⟩, n⟩
    · exact .inl h
    · have q := m _ _ h (by intro ps z; cases z) n ne
      exact .inr ⟨.inl q.2, q.1⟩
    · have q := m _ _ h (by intro ps z; cases z) n ne
      exact .inr ⟨.inr ⟨o, q.2⟩, q.1⟩
  exact ⟨⟨rw', L.row.ne, sc'.sq⟩, E', sv', nr', L.tv.mono tl, L.tf.mono tl, sc', ⟨us, q1.2, t1.mono tl⟩, q1.1, L.m1, ⟨us2, q2.2, t2.mono tl⟩, q2.1, L.m2, tb'⟩
theorem LS.same (L : LS K a ns r p own e t first v2 v5 l1 l2 H) (s : Same H H') : LS K a ns r p own e t first v2 v5 l1 l2 H' :=
  L.mv (fun b o h _ n _ => ⟨n, s _ _ h⟩) s.tle (L.row.mono s).ex L.nr (L.ed.mono s) L.sv (LamX.Tabs.ext L.tb s)
theorem LS.ext (L : LS K a ns r p own e t first v2 v5 l1 l2 H) (x : LamX.ExtN H H') (tb' : LamX.Tabs (tabsT K) H') : LS K a ns r p own e t first v2 v5 l1 l2 H' := by
  obtain ⟨i, z, c, h, g⟩ := L.row.ex
  exact L.mv (fun b o h np n _ => ⟨n, x _ _ h np⟩) (ext_tle x) ⟨i, z, c, x _ _ h (by intro ps z; cases z), g⟩ L.nr (L.ed.ext x) L.sv tb'
theorem LS.frP (L : LS K a ns r p own e t first v2 v5 l1 l2 H) (f : FrP r H H') (R : RowAt K H' r a ns) : LS K a ns r p own e t first v2 v5 l1 l2 H' := by
  have E' := L.ed.keep (o2 := [r]) (o2' := [r]) (H' := H') (fun b o h n => ⟨n, f b o h (fun z => n (by rw [z]; exact List.mem_singleton_self _))⟩) (L.row.tle f) (fun b hb n => L.nr (by rw [← List.mem_singleton.mp n]; exact hb)) L.sv
  obtain ⟨i, z, c, h, g⟩ := L.row.ex
  exact L.mv (fun b o h _ n m => ⟨n, f _ _ h m⟩) (L.row.tle f) R.ex L.nr E'.1 L.sv (Tabs.off L.tb fun b o hb n1 _ _ => f _ _ hb (ne_of hb h (by intro z; exact n1 _ z)))
theorem EdAt.ntbl {b : Addr} {o : HO} (h : EdAt K H p own e) (hb : H b = some o) (n1 : ∀ xs, o ≠ .lst xs) (n2 : ∀ c d fs, o ≠ .ins c d fs) (n3 : ∀ kvs, o ≠ .dK kvs) : b ∉ own := by
  obtain ⟨dx, v, l1, l2, sd, ap, us1, us2, kvs, rfl, i⟩ := h
  simp only [List.mem_cons, List.not_mem_nil, or_false, not_or]
  exact ⟨ne_of hb i.ins (fun z => n2 _ _ _ z), ne_of hb i.h1 (fun z => n1 _ z), ne_of hb i.h2 (fun z => n1 _ z), ne_of hb i.hs (fun z => n3 _ z)⟩
theorem LS.fr (L : LS K a ns r p own e t first v2 v5 l1 l2 H) (f : Fr own H own' H') (E' : EdAt K H' p own' e') (sv' : e'.sv = none) : LS K a ns r p own' e' t first v2 v5 l1 l2 H' := by
  obtain ⟨i, z, c, h, g⟩ := L.row.ex
  have q := f _ _ h L.nr
  exact L.mv (fun b o h _ n _ => f _ _ h n) (L.ed.tle f) ⟨i, z, c, q.2, g⟩ q.1 E' sv' (Tabs.off L.tb fun b o hb n1 n2 n3 => (f _ _ hb (EdAt.ntbl L.ed hb n1 n2 n3)).2)
end
end K68
end
section
set_option Elab.async false
set_option linter.all false
set_option maxRecDepth 100000
set_option maxHeartbeats 2000000
namespace K68
open PySem PySem.Spec PyProof.Rows L2
section
variable {P : Program} {w : World} {K : PySem.W.Frag} {mg : Str → Option Value} {base : Heap}
theorem TdAll.last {H : Hp} {f : Ent → PyData} {us : List V} {r : List Ent} {x : Ent} (t1 : TdAll H us ((r ++ [x]).map f)) : ∃ ur ux, us = ur ++ [ux] ∧ TdAll H ur (r.map f) ∧ Td H ux (f x) := by
  rw [List.map_append] at t1
  rcases List.eq_nil_or_concat us with hu | ⟨ur, ux, hu⟩
  · have := t1.len
    rw [hu] at this
    simp at this
  · rw [List.concat_eq_append] at hu
    subst hu
    have d1 := t1.dropLast
    rw [List.dropLast_concat, List.map_cons, List.map_nil, List.dropLast_concat] at d1
    have l1 : ur.length = r.length := by rw [d1.len, List.length_map]
    obtain ⟨d, hd1, td⟩ := t1.get (i := ur.length) (v := ux) (by rw [List.getElem?_append_right (by simp)]; simp)
    rw [List.getElem?_append_right (by rw [List.length_map]; omega)] at hd1
    simp [l1] at hd1
    subst hd1
    exact ⟨ur, ux, rfl, d1, td⟩
theorem Td.pair_inv {H : Hp} {v : V} {d : Deed} {s : Sys} (h : Td H v (.tuple [deedD d, syD s])) : ∃ t o b, v = .ref t ∧ H t = some (.tup [o, b]) ∧ Td H o (deedD d) ∧ Td H b (syD s) := by
  obtain ⟨t, xs, rfl, e, g⟩ := Td.tup_inv h
  obtain ⟨v1, r1, rfl, e1, g⟩ := g.cons_inv
  obtain ⟨v2, r2, rfl, e2, g⟩ := g.cons_inv
  obtain rfl := g.nil_inv
  exact ⟨t, _, _, rfl, e, e1, e2⟩
theorem cutV_init {ur : List V} {u : V} : cutV (ur ++ [u]) none (some (-1)) = ur := by
  have e : HT.sIx (ur ++ [u]).length (ur ++ [u]).length (some (-1)) = ur.length := by
    have l : (ur ++ [u]).length = ur.length + 1 := by simp
    rw [l]
    unfold HT.sIx
    simp
    omega
  unfold cutV
  rw [e, HT.sIx_none]
  simp
theorem step_words {s : Sys} {d : Deed} {z : Str} (h : (step s d).w = some z) : z ∈ words6 := by
  unfold step at h
  split at h
  all_goals (repeat' split at h)
  all_goals first
    | (cases h; decide)
    | (cases h)
theorem words_lay : ∀ z ∈ words6, PyData.canLay0 (.str z) = true := by decide +kernel
theorem step_pl {s : Sys} {d : Deed} : Pl 5 (step s d).r := by
  unfold step
  split
  all_goals (repeat' split)
  all_goals first
    | exact Pl.non
    | exact Pl.int _
    | exact (Pl.cl _).mono (by decide)
    | exact (Pl.ints _).mono (by decide)
    | exact Pl.tup (n := 4) fun y hy => by
        simp only [List.mem_cons, List.not_mem_nil, or_false] at hy
        rcases hy with rfl | rfl <;> exact Pl.int _
/-- the law's frame at a turn -/
def LI (K : PySem.W.Frag) (a : Addr) (ns : List Int) (r x : Addr) (first : Sys) (v : V) (n : Nat) : L2.St → Hp → Prop := fun σ H => ∃ own e v2 l1 l2 w6 w7 w8 w9 w10 w11 w13, σ = [some (.ref a), some (.ref r), some v2, some (.ref l1), some (.ref l2), some v, w6, w7, w8, w9, w10, w11, some (.ref x), w13, none] ∧ LS K a ns r x own e e first v2 v l1 l2 H ∧ Pn first e ∧ e.dn.length + e.un.length ≤ n
theorem seq_inv {c : TT} {t1 t2 u : TS} {D : Ends} {σ : L2.St} {H : Hp} (I : L2.St → Hp → Prop) (h1 : ∀ N : L2.St → Hp → Prop, (∀ σ' H', I σ' H' → N σ' H') → tIfS c t1 t2 { D with nx := N } σ H) (h2 : ∀ σ' H', I σ' H' → u D σ' H') : tSeq (tIfS c t1 t2) u D σ H := h1 _ h2
/-- the law's script as a list, tracked or told for all heaps -/
def sp_law (K : PySem.W.Frag) : Sp := fun vs H Q _ => ∃ (a : Addr) (ns : List Int), vs = [.ref a] ∧ SqL K H a (ns.map V.int) ∧ LamX.Tabs (tabsT K) H ∧ ∀ H', Q (.bl true) H'
abbrev N_law : List Str := ["_law_script", "_law_row", "_law_system_here", "_law_past", "_law_later", "_law_first", "_law_turn", "_law_kind", "_law_new", "_law_due", "_law_word", "_law_deed_here", "_law_editor", "_law_found", "_law_one"]
theorem sc_law : FnScope N_law ["_law_script"] (defScope s_law) := ⟨rfl, rfl, rfl, by decide +kernel, rfl, by decide +kernel, by decide +kernel⟩
theorem fn0D {x qual : Str} {args : Arguments} {body : List Stmt} {scope : Scope} {p : Str × Option Str} {N ps : List Str} {k : Nat} {sp : Sp} {fd : FuncData} (F : FunD K x qual args body scope [] [] (He.fAd K p) fd) (S : FnScope N ps scope) (len : ∀ vs H Q E, sp vs H Q E → vs.length = ps.length)
    (hbody : ∀ (A : Around) (outer : List Env) (s : Shared) (H : Hp) (vs : List V) (Q : VK) (E : XK), Room k (A.deeper (envOfC qual scope s.heap.objs.size (He.fAd K p) (.ref (He.codeOf K p)))) → sp vs H Q E →
      ∃ t, PSs (cxOf CX0 P w K mg base N qual scope (He.fAd K p) (.ref (He.codeOf K p)) A outer s H E).nox body t ∧ t { nx := fun _ H' => Q .non H', rt := Q } (start N vs) H) : FnOk P w K mg base CX0 (k + 1) (He.fAd K p) fd ps sp := by
  obtain ⟨oc, od, dV, kV, doc, pm, an, cdv, ct, osl, rfl, lk, hcd, _, _⟩ := F.ex
  obtain ⟨c, rfl⟩ := He.codeIn_ref hcd
  have ec := He.codeOf_eq lk rfl
  subst ec
  exact fn_of lk hcd S len fun A outer s H vs Q E hr hsp => by
    obtain ⟨t, h, q⟩ := hbody A outer s H vs Q E hr hsp
    exact ⟨t, h.nox, q⟩
theorem ok_law (T : Tx w K mg) {fd : FuncData} (F : FunD K "law" "law" (defArgs s_law) (defBody s_law) (defScope s_law) [] [] (He.fAd K ("law", none)) fd) (TB : LamX.TabB base mg (cL K) (pL K)) (TI : LamX.TabB base mg (cI K) (pI K)) : FnOk P w K mg base CX0 11 (He.fAd K ("law", none)) fd ["_law_script"] (sp_law K) := by
  have GI := ok_ed_init (P := P) (base := base) T
  have GY := ok_system (P := P) (base := base) T
  have GK := ok_taken (P := P) (base := base) T
  have GO := ok_deed (P := P) (base := base) T
  have GD := ok_does (P := P) (base := base) T
  have GA := ok_asked (P := P) (base := base) T
  have GH := ok_history (P := P) (base := base) T
  have GU := ok_current (P := P) (base := base) T
  have GN := ok_undo (P := P) (base := base) T
  have GR := ok_redo (P := P) (base := base) T
  have GW := ok_windows (P := P) (base := base) T
  have GL := ok_lw (P := P) (base := base) T
  have GG := ok_again (P := P) (base := base) T TI
  refine fn0D (p := ("law", none)) F sc_law (fun vs H Q E h => ?_) (fun A outer s H vs Q E hr h => ?_)
  · obtain ⟨a, ns, rfl, _⟩ := h
    rfl
  · obtain ⟨a, ns, rfl, hS, hT, q⟩ := h
    have nd := sc_law.nd
    have cE := T.c_Editor
    have r1 : Room 1 _ := hr.mono (by decide)
    have r2 : Room 2 _ := hr.mono (by decide)
    have r3 : Room 3 _ := hr.mono (by decide)
    have r6 : Room 6 _ := hr.mono (by decide)
    have r7 : Room 7 _ := hr.mono (by decide)
    have r10 : Room 10 _ := hr.mono (by decide)
    have r8 : Room (6 + 2) _ := hr.mono (by decide)
    have hmT : (pL K, ("law" : Str) ++ ".<locals>." ++ "<lambda>") ∈ tabsT K := List.mem_cons_of_mem _ List.mem_cons_self
    have huT : ∀ x ∈ tabsT K, x.1 = pL K → x.2 = ("law" : Str) ++ ".<locals>." ++ "<lambda>" := fun x hx hp => by
      simp only [tabsT, List.mem_cons, List.not_mem_nil, or_false] at hx
      rcases hx with rfl | rfl
      · exact absurd hp T.tabs_
      · rfl
    refine ⟨_, (pss_cons ((ps_set (i := 1) nd rfl (Or.inl rfl) ((pe_lst (pa_cons (pv 0) (pa_cons (pe_int) (pa_cons (pe_int) (pa_cons (pe_int) pa_nil)))))))) (pss_cons ((ps_set (i := 2) nd rfl (Or.inl rfl) ((pe_f GY (r2) (pass0) (pa_cons (pv 1) (pa_cons (pe_int) (pa_cons (pe_int) pa_nil))))))) (pss_cons ((ps_asg ((pe_tup (pa_cons (pe_mk GI T.k_Editor T.g_Editor r6 pass0 (pa_cons (pv 2) pa_nil)) (pa_cons (pe_lst pa_nil) (pa_cons (pe_lst pa_nil) (pa_cons (pv 2) pa_nil)))))) ((pg_tup rfl (pgs_cons ((pg_name (i := 12) nd rfl (Or.inr rfl))) (pgs_cons ((pg_name (i := 3) nd rfl (Or.inl rfl))) (pgs_cons ((pg_name (i := 4) nd rfl (Or.inl rfl))) (pgs_cons ((pg_name (i := 5) nd rfl (Or.inl rfl))) pgs_nil)))))))) (pss_cons (ps_for PassesOwn.never rfl (pi_range1 rfl T.z_range (pa_cons ((pe_op (op_add) (pe_int) ((pe_f GK (r1) (pass0) (pa_cons (pv 1) (pa_cons (pe_int) pa_nil)))))) pa_nil)) (pg_name (i := 6) nd rfl (Or.inl rfl)) (pss_cons ((ps_set (i := 7) nd rfl (Or.inl rfl) ((pe_f GK (r1) (pass0) (pa_cons (pv 1) (pa_cons (pe_int) pa_nil)))))) (pss_cons ((ps_if ((pt_cmpR (op_eq) (pv 7) (pe_int) (nomark _))) ((pss_cons ((ps_if ((pt_cmpR (op_ne) ((pe_m0 GN T.m_undo cE (r1) (pass0) (pv 12))) ((pe_cmpR (op_neD hr.units) (pv 3) (pe_lst pa_nil) (nomark _))) (nomark _))) ((pss_one ((ps_ret (pe_bl))))) (pss_nil))) (pss_one ((ps_if ((pt_cmpR (op_neD hr.units) (pv 3) (pe_lst pa_nil) (nomark _))) ((pss_one (ps_par3 (i := 4) (j := 2) (l := 3) rfl nd rfl rfl rfl (by decide) (by decide) (by decide) rfl rfl rfl (pa_cons ((pe_op (op_cat) (pv 4) ((pe_lst (pa_cons ((pe_tup (pa_cons ((pe_ix ix_tup ((pe_ix ix_list (pv 3) (pe_un un_neg pe_int) (fun _ _ => rfl))) (pe_int) (fun _ _ => rfl))) (pa_cons (pv 2) pa_nil)))) pa_nil))))) (pa_cons ((pe_ix ix_tup ((pe_ix ix_list (pv 3) (pe_un un_neg pe_int) (fun _ _ => rfl))) (pe_int) (fun _ _ => rfl))) (pa_cons ((pe_slice sl_list (pv 3) po_none (po_some (pe_un un_neg pe_int)))) pa_nil))) (by rfl)))) (pss_nil)))))) ((pss_one ((ps_if ((pt_cmpR (op_eq) (pv 7) (pe_int) (nomark _))) ((pss_cons ((ps_if ((pt_cmpR (op_ne) ((pe_m0 GR T.m_redo cE (r1) (pass0) (pv 12))) ((pe_cmpR (op_neD hr.units) (pv 4) (pe_lst pa_nil) (nomark _))) (nomark _))) ((pss_one ((ps_ret (pe_bl))))) (pss_nil))) (pss_one ((ps_if ((pt_cmpR (op_neD hr.units) (pv 4) (pe_lst pa_nil) (nomark _))) ((pss_one (ps_par3 (i := 3) (j := 2) (l := 4) rfl nd rfl rfl rfl (by decide) (by decide) (by decide) rfl rfl rfl (pa_cons ((pe_op (op_cat) (pv 3) ((pe_lst (pa_cons ((pe_tup (pa_cons ((pe_ix ix_tup ((pe_ix ix_list (pv 4) (pe_un un_neg pe_int) (fun _ _ => rfl))) (pe_int) (fun _ _ => rfl))) (pa_cons (pv 2) pa_nil)))) pa_nil))))) (pa_cons ((pe_ix ix_tup ((pe_ix ix_list (pv 4) (pe_un un_neg pe_int) (fun _ _ => rfl))) (pe_int) (fun _ _ => rfl))) (pa_cons ((pe_slice sl_list (pv 4) po_none (po_some (pe_un un_neg pe_int)))) pa_nil))) (by rfl)))) (pss_nil)))))) ((pss_cons ((ps_asg ((pe_tup (pa_cons ((pe_f GO (r3) (pass0) (pa_cons (pv 1) (pa_cons (pv 2) pa_nil)))) (pa_cons (pe_lst pa_nil) pa_nil)))) ((pg_tup rfl (pgs_cons ((pg_name (i := 11) nd rfl (Or.inr rfl))) (pgs_cons ((pg_name (i := 13) nd rfl (Or.inr rfl))) pgs_nil)))))) (pss_cons ((ps_asg ((pe_f GD (r2) (pass0) (pa_cons (pv 2) (pa_cons (pv 11) pa_nil)))) ((pg_tup rfl (pgs_cons ((pg_name (i := 8) nd rfl (Or.inl rfl))) (pgs_cons ((pg_name (i := 9) nd rfl (Or.inl rfl))) (pgs_cons ((pg_name (i := 10) nd rfl (Or.inl rfl))) pgs_nil))))))) (pss_cons ((ps_if ((pt_cmpR (op_neD hr.units) (pe_lamR (q := ("law" : Str) ++ ".<locals>.") (k := 6) (t := fun E => tBM K "list" rAppend (tVar 13) (tCons (tCall (sp_execute K) [] E (tCons (tVar 12) (tCons (tVar 11) tNil))) tNil)) T rfl TB (congrArg Value.ref cL_eq) rfl hmT huT r8 (LamX.lamS_by (sc := defScope s_law) (by decide +kernel)) rfl (fun _ _ _ _ _ => rfl)
                (fun A outer s H E f c' hr' => pe_bm PySem.F.plainAttrs_list PySem.F.slot_list_append PySem.F.type_list_append mt_append (pv 13) (pa_cons ((pe_f GA.down (hr') ((L2.passes_call (L2.takes_of rfl rfl rfl rfl) (fun _ _ _ _ h => h))) (pa_cons (pv 12) (pa_cons (pv 11) pa_nil)))) pa_nil))) (pv 10) (nomark _))) ((pss_one ((ps_ret (pe_bl))))) (pss_nil))) (pss_cons ((ps_if ((PW.pt (pw_and ((pt_cmpR (op_isN) (pv 10) (pe_non) (nomark _))) (pw_and1 ((pt_cmpR (op_neD hr.units) (pv 13) ((pe_lst (pa_cons (pv 9) pa_nil))) (nomark _))))))) ((pss_one ((ps_ret (pe_bl))))) (pss_nil))) (pss_one ((ps_if ((pt_cmpR (op_isN) (pv 10) (pe_non) (nomark _))) ((pss_one (ps_par3 (i := 3) (j := 4) (l := 2) rfl nd rfl rfl rfl (by decide) (by decide) (by decide) rfl rfl rfl (pa_cons ((pe_op (op_cat) (pv 3) ((pe_lst (pa_cons ((pe_tup (pa_cons (pv 11) (pa_cons (pv 2) pa_nil)))) pa_nil))))) (pa_cons (pe_lst pa_nil) (pa_cons (pv 8) pa_nil))) (by rfl)))) (pss_nil))))))))))))))) (pss_cons ((ps_if ((pt_cmpR (op_neD hr.units) ((pe_m0 GU T.m_current_system cE (r1) (pass0) (pv 12))) (pv 2) (nomark _))) ((pss_one ((ps_ret (pe_bl))))) (pss_nil))) (pss_one ((ps_if ((pt_cmpR (op_neD hr.units) ((pe_m0 GH T.m_history cE (r1) (pass0) (pv 12))) (pe_lc (own := [("_law_one", 14)]) (g := gName 14) (tt := tYes) rfl nd (pi_list (pv 3)) (blkOk_by (N := N_law) (sc := defScope s_law) (by decide +kernel)) (fun _ _ _ _ _ => pg_name (i := 14) nd rfl (Or.inl rfl)) (fun _ _ _ _ _ => pts_nil) (fun _ _ _ _ _ => (pe_ix ix_tupS (pv 14) (pe_int) (fun _ _ => rfl)))) (nomark _))) ((pss_one ((ps_ret (pe_bl))))) (pss_nil)))))))) (pss_cons ((ps_if ((pt_cmpR (op_neD hr.units) ((pe_m0 GW T.m_window_history cE (r7) (pass0) (pv 12))) ((pe_op (op_cat) (pe_lc (own := [("_law_one", 14)]) (g := gName 14) (tt := tYes) rfl nd (pi_list (pv 3)) (blkOk_by (N := N_law) (sc := defScope s_law) (by decide +kernel)) (fun _ _ _ _ _ => pg_name (i := 14) nd rfl (Or.inl rfl)) (fun _ _ _ _ _ => pts_nil) (fun _ _ _ _ _ => (pe_f GL (r6) (pass0) (pa_cons ((pe_ix ix_tupS (pv 14) (pe_int) (fun _ _ => rfl))) pa_nil)))) ((pe_lst (pa_cons ((pe_f GL (r6) (pass0) (pa_cons (pv 2) pa_nil))) pa_nil))))) (nomark _))) ((pss_one ((ps_ret (pe_bl))))) (pss_nil))) (pss_one ((ps_ret ((pe_f GG (r10) (pass0) (pa_cons (pv 12) (pa_cons (pv 5) (pa_cons (pv 2) pa_nil))))))))))))), ?_⟩
    refine ⟨_, rfl, by show 4 ≤ sizeLine; decide, fun r hr0 => ?_⟩
    have R0 : RowAt K (upd H r (.lst [.ref a, .int 0, .int 0, .int 0])) r a ns := by
      refine ⟨⟨0, 0, 0, upd_same, by decide, by decide, by decide⟩, ?_, (Same.new hr0).seq hS⟩
      rcases hS with (h | ⟨o, h⟩) | h
      · exact .inl (ne_of_none h hr0)
      · exact .inl (ne_of_none h hr0)
      · exact .inr fun _ => .inr h
    have T0 := LamX.Tabs.ext hT (Same.new (o := HO.lst [.ref a, .int 0, .int 0, .int 0]) hr0)
    have S0 : ScrAt K (upd H r (.lst [.ref a, .int 0, .int 0, .int 0])) [] a (ns.map V.int) := .mk ((Same.new hr0).seq hS) (fun _ _ => List.not_mem_nil)
    revert R0 T0 S0
    generalize upd H r (.lst [.ref a, .int 0, .int 0, .int 0]) = H0
    intro R0 T0 S0
    refine ⟨_, rfl, r, a, ns, rfl, R0, fun v first H1 f1 R1 tv1 SF => ?_⟩
    refine ⟨_, rfl, fun x dx nx ndx ne => ?_⟩
    have nx1 : (upd H1 dx (.own x)) x = none := by rw [upd_ne ne.symm]; exact nx
    have s1 : Same H1 (upd (upd H1 dx (.own x)) x (.ins (aE K) dx [])) := (Same.new ndx).trans (Same.new nx1)
    refine ⟨x, dx, v, first, rfl, upd_same, tv1.mono s1.tle, SF, fun H2 o2 f2 EA2 => ⟨rfl, ?_⟩⟩
    refine ⟨Nat.zero_le _, fun L hL => ?_⟩
    refine ⟨Nat.zero_le _, fun M hM => ?_⟩
    refine ⟨_, rfl, by show 4 ≤ sizeLine; decide, fun t ht => ?_⟩
    refine ⟨t, _, rfl, SqT.of upd_same, rfl, _, _, rfl, _, _, rfl, _, _, rfl, _, _, rfl, rfl, ?_⟩
    have Li : LS K a ns r x o2 ⟨first, [], [], none⟩ ⟨first, [], [], none⟩ first v v L M (upd (upd (upd H2 L (.lst [])) M (.lst [])) t (.tup [.ref x, .ref L, .ref M, v])) := by
      have m : ∀ b o, H1 b = some o → b ∉ o2 ∧ H2 b = some o := fun b o h => f2 b o (s1 _ _ h) (ne_of_none h nx)
      have sm : Same H1 H2 := fun b o h => (m b o h).2
      have R2 := R1.mono sm
      have sa : Same H2 (upd H2 L (.lst [])) := Same.new hL
      have sb := sa.trans (Same.new (o := HO.lst []) hM)
      have s3 := sb.trans (Same.new (o := HO.tup [.ref x, .ref L, .ref M, v]) ht)
      obtain ⟨i0, z0, c0, hr1, gg⟩ := R1.ex
      have Tq := LamX.Tabs.ext (LamX.Tabs.ext (Tabs.off T0 fun b o hb n1 _ _ => by
        obtain ⟨i0, z0, c0, hr1, gg⟩ := R0.ex
        exact f1 _ _ hb (ne_of hb hr1 (by intro z; exact n1 _ z))) sm) s3
      have gL := upd_ne' (o := HO.tup [.ref x, .ref L, .ref M, v]) ht (upd_ne' (o := HO.lst []) hM (upd_same (H := H2) (a := L) (o := HO.lst [])))
      have gM := upd_ne' (o := HO.tup [.ref x, .ref L, .ref M, v]) ht (upd_same (H := upd H2 L (.lst [])) (a := M) (o := HO.lst []))
      have sc' : ScrAt K (upd (upd (upd H2 L (.lst [])) M (.lst [])) t (.tup [.ref x, .ref L, .ref M, v])) o2 a (ns.map V.int) := by
        rcases R1.sc with (h | ⟨o, h⟩) | h
        · exact .inr ⟨.inl (s3 _ _ (m _ _ h).2), (m _ _ h).1⟩
        · exact .inr ⟨.inr ⟨o, s3 _ _ (m _ _ h).2⟩, (m _ _ h).1⟩
        · exact .inl fun _ => .inr h
      have tvf := (tv1.mono sm.tle).mono s3.tle
      exact ⟨R2.mono s3, EA2.mono s3, rfl, (m _ _ hr1).1, tvf, tvf, sc', ⟨_, gL, .nil⟩, EA2.fresh hL, R2.nr hL, ⟨_, gM, .nil⟩, (EA2.mono sa).fresh hM, (R2.mono sa).nr hM, Tq⟩
    revert Li
    generalize upd (upd (upd H2 L (.lst [])) M (.lst [])) t (.tup [.ref x, .ref L, .ref M, v]) = H3
    intro Li
    refine ⟨_, rfl, r, a, ns, 16, rfl, Li.row, by omega, by omega, fun d H4 d1 d2 f4 R4 => ?_⟩
    refine ⟨_, _, rfl, rfl, _, rfl, by omega, by omega, ?_⟩
    have L4 := Li.frP f4 R4
    refine for_range (n := (4 + d).toNat) (LI K a ns r x first v) ⟨o2, _, v, L, M, none, none, none, none, none, none, none, rfl, L4, ⟨SF, SF, rfl, ⟨_, rfl⟩, by simp, by simp, by simp, by simp⟩, Nat.le_refl _⟩ (fun i σ H5 hi pv => ?_) (fun σ H5 pv => ?_)
    · obtain ⟨own, e, v2, l1, l2, w6, w7, w8, w9, w10, w11, w13, rfl, LS5, PN, hlen⟩ := pv
      refine ⟨_, rfl, r, a, ns, 7, rfl, LS5.row, by omega, by omega, fun kd H6 kd1 kd2 f6 R6 => ?_⟩
      have LS6 := LS5.frP f6 R6
      have ub : e.dn.length + e.un.length < 900 := by omega
      dsimp only [gName]
      refine seq_inv (LI K a ns r x first v (i + 1)) (fun N hN => ?_) (fun σ' H' pv => ?_)
      · refine ⟨_, rfl, rfl, _, rfl, ?_⟩
        by_cases c0 : kd = 0
        · rw [show decide (V.int kd = V.int 0) = true from decide_eq_true (by rw [c0])]
          refine iteT ?_
          obtain ⟨dx, vv, k1, k2, sd, ap, us1, us2, kvs, eo, i6⟩ := id LS6.ed
          refine ⟨_, rfl, x, dx, _, rfl, i6.ins, ef_no (by decide +kernel) (by decide +kernel) (by decide +kernel) (by decide +kernel) (by decide +kernel), x, own, e, rfl, LS6.ed, by omega, fun hn H7 s7 => ?_, fun rr y hy H7 own7 f7 E7 => ?_⟩
          · have L7 := LS6.same s7
            obtain ⟨us, h1, t1⟩ := L7.p1
            refine ⟨_, rfl, Nat.zero_le _, fun m hm => ⟨.list (e.dn.map pastD), .list [], .lst (SqL.of (upd_ne' hm h1)) (t1.mono (Same.new hm).tle).dp, .lst (SqL.of upd_same) .nil, (Pl.past e.dn).shaped (by decide), by decide, ?_⟩⟩
            rw [eqv_nil, hn]
            refine ⟨rfl, _, rfl, iteF ?_⟩
            have L8 := L7.same (Same.new (o := HO.lst []) hm)
            revert L8
            generalize upd H7 m (.lst []) = H8
            intro L8
            obtain ⟨us', h1', t1'⟩ := L8.p1
            refine ⟨_, rfl, Nat.zero_le _, fun m hm => ⟨.list (e.dn.map pastD), .list [], .lst (SqL.of (upd_ne' hm h1')) (t1'.mono (Same.new hm).tle).dp, .lst (SqL.of upd_same) .nil, (Pl.past e.dn).shaped (by decide), by decide, ?_⟩⟩
            rw [eqv_nil, hn]
            refine ⟨_, rfl, iteF ?_⟩
            exact hN _ _ ⟨own, e, v2, l1, l2, _, _, _, _, _, _, _, rfl, L8.same (Same.new hm), PN, by omega⟩
          · have L7 := LS6.fr f7 E7 LS6.sv
            obtain ⟨us, h1, t1⟩ := L7.p1
            have emp : (e.dn.map pastD).isEmpty = false := by rw [hy]; simp
            refine ⟨_, rfl, Nat.zero_le _, fun m hm => ⟨.list (e.dn.map pastD), .list [], .lst (SqL.of (upd_ne' hm h1)) (t1.mono (Same.new hm).tle).dp, .lst (SqL.of upd_same) .nil, (Pl.past e.dn).shaped (by decide), by decide, ?_⟩⟩
            rw [eqv_nil, emp]
            refine ⟨rfl, _, rfl, iteF ?_⟩
            have L8 := L7.same (Same.new (o := HO.lst []) hm)
            revert L8
            generalize upd H7 m (.lst []) = H8
            intro L8
            obtain ⟨us', h1', t1'⟩ := L8.p1
            refine ⟨_, rfl, Nat.zero_le _, fun m hm => ⟨.list (e.dn.map pastD), .list [], .lst (SqL.of (upd_ne' hm h1')) (t1'.mono (Same.new hm).tle).dp, .lst (SqL.of upd_same) .nil, (Pl.past e.dn).shaped (by decide), by decide, ?_⟩⟩
            rw [eqv_nil, emp]
            refine ⟨_, rfl, iteT ?_⟩
            have L9 := L8.same (Same.new (o := HO.lst []) hm)
            revert L9
            generalize upd H8 m (.lst []) = H9
            intro L9
            obtain ⟨xs, h9, t9⟩ := L9.p1
            obtain ⟨zs, h9b, t9b⟩ := L9.p2
            rw [hy] at t9
            obtain ⟨ur, ux, rfl, tr, tx⟩ := t9.last
            obtain ⟨tq, o, b, rfl, htq, to, tb⟩ := tx.pair_inv
            have tz := L9.tv
            have lz : zs.length < 1000 := by rw [t9b.len, List.length_map]; omega
            refine ⟨_, rfl, _, rfl, _, rfl, l1, _, _, _, rfl, rfl, SqL.of h9, atI_lastV, tq, _, _, _, rfl, rfl, SqT.of htq, rfl, _, rfl, by show 2 ≤ sizeLine; decide, fun q1 hq1 => ⟨by show 1 ≤ sizeLine; decide, fun q2 hq2 => ?_⟩⟩
            have Lb := L9.same ((Same.new (o := HO.tup [o, v2]) hq1).trans (Same.new (o := HO.lst [.ref q1]) hq2))
            have sb : Same H9 _ := (Same.new (o := HO.tup [o, v2]) hq1).trans (Same.new (o := HO.lst [.ref q1]) hq2)
            have g1 := upd_ne' (o := HO.lst [.ref q1]) hq2 (upd_same (H := H9) (a := q1) (o := HO.tup [o, v2]))
            have g2 := upd_same (H := upd H9 q1 (.tup [o, v2])) (a := q2) (o := HO.lst [.ref q1])
            revert Lb sb g1 g2
            generalize upd (upd H9 q1 (.tup [o, v2])) q2 (.lst [.ref q1]) = Hb
            intro Lb sb g1 g2
            refine ⟨l2, q2, zs, _, rfl, rfl, sb _ _ h9b, g2, by (have : sizeLine > 1001 := by decide); show zs.length + 1 ≤ sizeLine; omega, fun q3 hq3 => ?_⟩
            have Lc := Lb.same (Same.new (o := HO.lst (zs ++ [.ref q1])) hq3)
            have sc := sb.trans (Same.new (o := HO.lst (zs ++ [.ref q1])) hq3)
            have n3 := Lb.row.nr hq3
            have o3 := Lb.ed.fresh hq3
            have g3 := upd_same (H := Hb) (a := q3) (o := HO.lst (zs ++ [.ref q1]))
            have g1c := upd_ne' (o := HO.lst (zs ++ [.ref q1])) hq3 g1
            revert Lc sc g3 g1c
            generalize upd Hb q3 (.lst (zs ++ [.ref q1])) = Hc
            intro Lc sc g3 g1c
            refine ⟨_, rfl, _, rfl, l1, _, _, _, rfl, rfl, SqL.of (sc _ _ h9), atI_lastV, tq, _, _, _, rfl, rfl, SqT.of (sc _ _ htq), rfl, _, rfl, _, rfl, _, rfl, l1, _, rfl, SqL.of (sc _ _ h9), fun q4 hq4 => ⟨_, _, _, rfl, ?_⟩⟩
            rw [cutV_init]
            have Ld := Lc.same (Same.new (o := HO.lst ur) hq4)
            have sd' := sc.trans (Same.new (o := HO.lst ur) hq4)
            have n4 := Lc.row.nr hq4
            have o4 := Lc.ed.fresh hq4
            have g4 := upd_same (H := Hc) (a := q4) (o := HO.lst ur)
            have g3d := upd_ne' (o := HO.lst ur) hq4 g3
            have g1d := upd_ne' (o := HO.lst ur) hq4 g1c
            revert Ld sd' g4 g3d g1d
            generalize upd Hc q4 (.lst ur) = Hd
            intro Ld sd' g4 g3d g1d
            have tpair : Td Hd (.ref q1) (laterD y) := .tup g1d (.cons (to.mono sd'.tle) (.cons (by rw [PN.lastA hy]; exact tz.mono sd'.tle) .nil))
            have tcat : TdAll Hd (zs ++ [.ref q1]) ((e.un ++ [y]).map laterD) := by
              rw [List.map_append]
              exact TdAll.append (t9b.mono sd'.tle) (.cons tpair .nil)
            exact hN _ _ ⟨own7, ⟨y.b, rr, e.un ++ [y], e.sv⟩, b, q4, q3, _, _, _, _, _, _, _, rfl, ⟨Ld.row, Ld.ed, Ld.sv, Ld.nr, tb.mono sd'.tle, Ld.tf, Ld.sc, ⟨ur, g4, tr.mono sd'.tle⟩, o4, n4, ⟨_, g3d, tcat⟩, o3, n3, Ld.tb⟩, PN.undo hy, by rw [hy] at hlen; simp only [List.length_append, List.length_singleton] at hlen ⊢; omega⟩
        · rw [show decide (V.int kd = V.int 0) = false from decide_eq_false (fun z => c0 (by cases z; rfl))]
          refine iteF ?_
          refine ⟨_, rfl, rfl, _, rfl, ?_⟩
          by_cases c1 : kd = 1
          · rw [show decide (V.int kd = V.int 1) = true from decide_eq_true (by rw [c1])]
            refine iteT ?_
            obtain ⟨dx, vv, k1, k2, sd, ap, us1, us2, kvs, eo, i6⟩ := id LS6.ed
            refine ⟨_, rfl, x, dx, _, rfl, i6.ins, ef_no (by decide +kernel) (by decide +kernel) (by decide +kernel) (by decide +kernel) (by decide +kernel), x, own, e, rfl, LS6.ed, by omega, fun hn H7 s7 => ?_, fun rr y hy H7 own7 f7 E7 => ?_⟩
            · have L7 := LS6.same s7
              obtain ⟨us, h1, t1⟩ := L7.p2
              refine ⟨_, rfl, Nat.zero_le _, fun m hm => ⟨.list (e.un.map laterD), .list [], .lst (SqL.of (upd_ne' hm h1)) (t1.mono (Same.new hm).tle).dp, .lst (SqL.of upd_same) .nil, (Pl.later e.un).shaped (by decide), by decide, ?_⟩⟩
              rw [eqv_nil, hn]
              refine ⟨rfl, _, rfl, iteF ?_⟩
              have L8 := L7.same (Same.new (o := HO.lst []) hm)
              revert L8
              generalize upd H7 m (.lst []) = H8
              intro L8
              obtain ⟨us', h1', t1'⟩ := L8.p2
              refine ⟨_, rfl, Nat.zero_le _, fun m hm => ⟨.list (e.un.map laterD), .list [], .lst (SqL.of (upd_ne' hm h1')) (t1'.mono (Same.new hm).tle).dp, .lst (SqL.of upd_same) .nil, (Pl.later e.un).shaped (by decide), by decide, ?_⟩⟩
              rw [eqv_nil, hn]
              refine ⟨_, rfl, iteF ?_⟩
              exact hN _ _ ⟨own, e, v2, l1, l2, _, _, _, _, _, _, _, rfl, L8.same (Same.new hm), PN, by omega⟩
            · have L7 := LS6.fr f7 E7 LS6.sv
              obtain ⟨us, h1, t1⟩ := L7.p2
              have emp : (e.un.map laterD).isEmpty = false := by rw [hy]; simp
              refine ⟨_, rfl, Nat.zero_le _, fun m hm => ⟨.list (e.un.map laterD), .list [], .lst (SqL.of (upd_ne' hm h1)) (t1.mono (Same.new hm).tle).dp, .lst (SqL.of upd_same) .nil, (Pl.later e.un).shaped (by decide), by decide, ?_⟩⟩
              rw [eqv_nil, emp]
              refine ⟨rfl, _, rfl, iteF ?_⟩
              have L8 := L7.same (Same.new (o := HO.lst []) hm)
              revert L8
              generalize upd H7 m (.lst []) = H8
              intro L8
              obtain ⟨us', h1', t1'⟩ := L8.p2
              refine ⟨_, rfl, Nat.zero_le _, fun m hm => ⟨.list (e.un.map laterD), .list [], .lst (SqL.of (upd_ne' hm h1')) (t1'.mono (Same.new hm).tle).dp, .lst (SqL.of upd_same) .nil, (Pl.later e.un).shaped (by decide), by decide, ?_⟩⟩
              rw [eqv_nil, emp]
              refine ⟨_, rfl, iteT ?_⟩
              have L9 := L8.same (Same.new (o := HO.lst []) hm)
              revert L9
              generalize upd H8 m (.lst []) = H9
              intro L9
              obtain ⟨xs, h9, t9⟩ := L9.p2
              obtain ⟨zs, h9b, t9b⟩ := L9.p1
              rw [hy] at t9
              obtain ⟨ur, ux, rfl, tr, tx⟩ := t9.last
              obtain ⟨tq, o, b, rfl, htq, to, tb⟩ := tx.pair_inv
              have tz := L9.tv
              have lz : zs.length < 1000 := by rw [t9b.len, List.length_map]; omega
              refine ⟨_, rfl, _, rfl, _, rfl, l2, _, _, _, rfl, rfl, SqL.of h9, atI_lastV, tq, _, _, _, rfl, rfl, SqT.of htq, rfl, _, rfl, by show 2 ≤ sizeLine; decide, fun q1 hq1 => ⟨by show 1 ≤ sizeLine; decide, fun q2 hq2 => ?_⟩⟩
              have Lb := L9.same ((Same.new (o := HO.tup [o, v2]) hq1).trans (Same.new (o := HO.lst [.ref q1]) hq2))
              have sb : Same H9 _ := (Same.new (o := HO.tup [o, v2]) hq1).trans (Same.new (o := HO.lst [.ref q1]) hq2)
              have g1 := upd_ne' (o := HO.lst [.ref q1]) hq2 (upd_same (H := H9) (a := q1) (o := HO.tup [o, v2]))
              have g2 := upd_same (H := upd H9 q1 (.tup [o, v2])) (a := q2) (o := HO.lst [.ref q1])
              revert Lb sb g1 g2
              generalize upd (upd H9 q1 (.tup [o, v2])) q2 (.lst [.ref q1]) = Hb
              intro Lb sb g1 g2
              refine ⟨l1, q2, zs, _, rfl, rfl, sb _ _ h9b, g2, by (have : sizeLine > 1001 := by decide); show zs.length + 1 ≤ sizeLine; omega, fun q3 hq3 => ?_⟩
              have Lc := Lb.same (Same.new (o := HO.lst (zs ++ [.ref q1])) hq3)
              have sc := sb.trans (Same.new (o := HO.lst (zs ++ [.ref q1])) hq3)
              have n3 := Lb.row.nr hq3
              have o3 := Lb.ed.fresh hq3
              have g3 := upd_same (H := Hb) (a := q3) (o := HO.lst (zs ++ [.ref q1]))
              have g1c := upd_ne' (o := HO.lst (zs ++ [.ref q1])) hq3 g1
              revert Lc sc g3 g1c
              generalize upd Hb q3 (.lst (zs ++ [.ref q1])) = Hc
              intro Lc sc g3 g1c
              refine ⟨_, rfl, _, rfl, l2, _, _, _, rfl, rfl, SqL.of (sc _ _ h9), atI_lastV, tq, _, _, _, rfl, rfl, SqT.of (sc _ _ htq), rfl, _, rfl, _, rfl, _, rfl, l2, _, rfl, SqL.of (sc _ _ h9), fun q4 hq4 => ⟨_, _, _, rfl, ?_⟩⟩
              rw [cutV_init]
              have Ld := Lc.same (Same.new (o := HO.lst ur) hq4)
              have sd' := sc.trans (Same.new (o := HO.lst ur) hq4)
              have n4 := Lc.row.nr hq4
              have o4 := Lc.ed.fresh hq4
              have g4 := upd_same (H := Hc) (a := q4) (o := HO.lst ur)
              have g3d := upd_ne' (o := HO.lst ur) hq4 g3
              have g1d := upd_ne' (o := HO.lst ur) hq4 g1c
              revert Ld sd' g4 g3d g1d
              generalize upd Hc q4 (.lst ur) = Hd
              intro Ld sd' g4 g3d g1d
              have tpair : Td Hd (.ref q1) (pastD y) := .tup g1d (.cons (to.mono sd'.tle) (.cons (by rw [PN.lastB hy]; exact tz.mono sd'.tle) .nil))
              have tcat : TdAll Hd (zs ++ [.ref q1]) ((e.dn ++ [y]).map pastD) := by
                rw [List.map_append]
                exact TdAll.append (t9b.mono sd'.tle) (.cons tpair .nil)
              exact hN _ _ ⟨own7, ⟨y.a, e.dn ++ [y], rr, e.sv⟩, b, q3, q4, _, _, _, _, _, _, _, rfl, ⟨Ld.row, Ld.ed, Ld.sv, Ld.nr, tb.mono sd'.tle, Ld.tf, Ld.sc, ⟨_, g3d, tcat⟩, o3, n3, ⟨ur, g4, tr.mono sd'.tle⟩, o4, n4, Ld.tb⟩, PN.redo hy, by rw [hy] at hlen; simp only [List.length_append, List.length_singleton] at hlen ⊢; omega⟩
          · rw [show decide (V.int kd = V.int 1) = false from decide_eq_false (fun z => c1 (by cases z; rfl))]
            refine iteF ?_
            refine ⟨_, rfl, _, rfl, r, a, ns, v2, e.pr, rfl, LS6.row, LS6.tv, PN.so, fun vd d H7 f7 R7 td DO => ?_⟩
            have L7 := LS6.frP f7 R7
            refine ⟨Nat.zero_le _, fun fl hfl => ⟨by show 2 ≤ sizeLine; decide, fun t ht => ?_⟩⟩
            refine ⟨t, _, rfl, SqT.of upd_same, rfl, _, _, rfl, _, _, rfl, rfl, ?_⟩
            have nfl := L7.row.nr hfl
            have ofl := L7.ed.fresh hfl
            have s8 := (Same.new (o := HO.lst []) hfl).trans (Same.new (o := HO.tup [vd, .ref fl]) ht)
            have L8 := L7.same s8
            have td8 := td.mono s8.tle
            have gf := upd_ne' (o := HO.tup [vd, .ref fl]) ht (upd_same (H := H7) (a := fl) (o := HO.lst []))
            revert L8 td8 gf s8
            generalize upd (upd H7 fl (.lst [])) t (.tup [vd, .ref fl]) = H8
            intro s8 L8 td8 gf
            refine ⟨_, rfl, _, rfl, v2, vd, e.pr, d, rfl, L8.tv, td8, PN.so, DO, fun vo H9 s9 to => ?_⟩
            have L9 := L8.same s9
            have td9 := td8.mono s9.tle
            have gf9 := s9 _ _ gf
            obtain ⟨t2, xs, rfl, e2, g⟩ := Td.tup_inv to
            obtain ⟨vn, r1, rfl, tn, g⟩ := g.cons_inv
            obtain ⟨vu, r2, rfl, tu, g⟩ := g.cons_inv
            obtain ⟨vw, r3, rfl, tw, g⟩ := g.cons_inv
            obtain rfl := g.nil_inv
            refine ⟨t2, _, rfl, SqT.of e2, rfl, _, _, rfl, _, _, rfl, _, _, rfl, rfl, ?_⟩
            refine ⟨L9.tb, fun Ha xa Ta => ?_⟩
            have La := L9.ext xa Ta
            have gfa := xa _ _ gf9 (by intro ps z; cases z)
            have tda := td9.mono (ext_tle xa)
            have tna := tn.mono (ext_tle xa)
            have tua := tu.mono (ext_tle xa)
            have twa := tw.mono (ext_tle xa)
            refine ⟨_, rfl, .inl ⟨rfl, _, SqL.of gfa⟩, _, rfl, _, rfl, x, own, e, vd, d, rfl, La.ed, tda, PN.so, DO, by omega, ⟨fun z hz Hb sb => ?_, fun hn v' Hb ownb fb Eb tb => ?_⟩⟩
            · rw [hz] at twa
              cases twa
              refine ⟨rfl, z, step_words hz, rfl, fun Hc sc => ?_⟩
              have Lc := (La.same sb).same sc
              have plz : Pl 20 (.str z) := Pl.str (words_lay z (step_words hz))
              refine ⟨_, rfl, .str z, .str z, .str _, .str _, plz.shaped (by decide), plz.shaped (by decide), _, rfl, ?_⟩
              rw [SeqAt.eqv_refl _ plz.lay]
              refine iteF ?_
              refine ⟨_, rfl, rfl, _, rfl, ?_⟩
              have isn : decide (V.str z = V.non) = false := decide_eq_false (by intro h; cases h)
              rw [isn]
              refine iteF (iteF ?_)
              refine ⟨_, rfl, rfl, _, rfl, ?_⟩
              rw [isn]
              exact iteF (hN _ _ ⟨own, e, v2, l1, l2, _, _, _, _, _, _, _, rfl, Lc, PN, by omega⟩)
            · rw [hn] at twa
              cases twa
              have gfb := (fb _ _ gfa ofl)
              refine ⟨fl, _, v', rfl, rfl, gfb.2, by decide, ?_⟩
              have tla := ext_tle xa
              have tlb := La.ed.tle fb
              have Lb := La.fr fb Eb La.sv
              have svb : (e.enter d (step e.pr d).s).sv = none := La.sv
              have tlc : Tle Hb (upd Hb fl (.lst ([] ++ [v']))) := fun b xs h => (upd_ne (ne_of h gfb.2 (by intro z; cases z))).trans h
              have Ec : EdAt K (upd Hb fl (.lst ([] ++ [v']))) x ownb _ := Eb.off gfb.1 gfb.2 (fun q hq => by rw [svb] at hq; cases hq)
              have Lc : LS K a ns r x ownb (e.enter d (step e.pr d).s) e first v2 v l1 l2 (upd Hb fl (.lst ([] ++ [v']))) := by
                obtain ⟨i0, z0, c0, hr0, gg⟩ := Lb.row.ex
                refine L7.mv (fun b o h np n nr => ?_) (fun b xs h => tlc _ _ (tlb _ _ (tla _ _ (s9.tle _ _ (s8.tle _ _ h))))) ⟨i0, z0, c0, (upd_ne nfl.symm).trans hr0, gg⟩ Lb.nr Ec svb (Tabs.off Lb.tb fun b o hb n1 _ _ => (upd_ne (ne_of hb gfb.2 (by intro z; exact n1 _ z))).trans hb)
                have q := fb _ _ (xa _ _ (s9 _ _ (s8 _ _ h)) np) n
                exact ⟨q.1, (upd_ne (ne_of_none h hfl)).trans q.2⟩
              have gc : (upd Hb fl (.lst ([] ++ [v']))) fl = some (.lst [v']) := upd_same
              have tbc := tb.mono tlc
              have tuc := (tua.mono tlb).mono tlc
              have tnc := (tna.mono tlb).mono tlc
              have tdc := (tda.mono tlb).mono tlc
              revert Lc gc tbc tuc tnc tdc
              generalize upd Hb fl (.lst ([] ++ [v'])) = Hc
              intro Lc gc tbc tuc tnc tdc
              refine ⟨_, rfl, .none, .none, .non, .non, by decide, by decide, _, rfl, ?_⟩
              rw [SeqAt.eqv_refl _ rfl]
              refine iteF ?_
              refine ⟨_, rfl, rfl, _, rfl, ?_⟩
              have isn : decide (V.non = V.non) = true := decide_eq_true rfl
              rw [isn]
              refine iteT ?_
              have plr : Pl 6 (.list [(step e.pr d).r]) := Pl.lst fun y hy => by rw [List.mem_singleton.mp hy]; exact step_pl
              refine ⟨_, rfl, _, rfl, by show 1 ≤ sizeLine; decide, fun m hm => ⟨.list [(step e.pr d).r], .list [(step e.pr d).r], .lst (SqL.of (upd_ne' hm gc)) (TdAll.mono (Same.new hm).tle (.cons tbc .nil)).dp, .lst (SqL.of upd_same) (TdAll.mono (Same.new hm).tle (.cons tuc .nil)).dp, plr.shaped (by decide), plr.shaped (by decide), _, rfl, ?_⟩⟩
              rw [SeqAt.eqv_refl _ plr.lay]
              refine iteF ?_
              refine ⟨_, rfl, rfl, _, rfl, ?_⟩
              rw [isn]
              refine iteT ?_
              have L9 := Lc.same (Same.new (o := HO.lst [vu]) hm)
              have tn9 := tnc.mono (Same.new (o := HO.lst [vu]) hm).tle
              have td9 := tdc.mono (Same.new (o := HO.lst [vu]) hm).tle
              revert L9 tn9 td9
              generalize upd Hc m (.lst [vu]) = H9
              intro L9 tn9 td9
              obtain ⟨zs, h9b, t9b⟩ := L9.p1
              have lz : zs.length < 1000 := by rw [t9b.len, List.length_map]; omega
              refine ⟨_, rfl, _, rfl, _, rfl, by show 2 ≤ sizeLine; decide, fun q1 hq1 => ⟨by show 1 ≤ sizeLine; decide, fun q2 hq2 => ?_⟩⟩
              have Lb := L9.same ((Same.new (o := HO.tup [vd, v2]) hq1).trans (Same.new (o := HO.lst [.ref q1]) hq2))
              have sb : Same H9 _ := (Same.new (o := HO.tup [vd, v2]) hq1).trans (Same.new (o := HO.lst [.ref q1]) hq2)
              have g1 := upd_ne' (o := HO.lst [.ref q1]) hq2 (upd_same (H := H9) (a := q1) (o := HO.tup [vd, v2]))
              have g2 := upd_same (H := upd H9 q1 (.tup [vd, v2])) (a := q2) (o := HO.lst [.ref q1])
              revert Lb sb g1 g2
              generalize upd (upd H9 q1 (.tup [vd, v2])) q2 (.lst [.ref q1]) = Hb
              intro Lb sb g1 g2
              refine ⟨l1, q2, zs, _, rfl, rfl, sb _ _ h9b, g2, by (have : sizeLine > 1001 := by decide); show zs.length + 1 ≤ sizeLine; omega, fun q3 hq3 => ?_⟩
              have Lc := Lb.same (Same.new (o := HO.lst (zs ++ [.ref q1])) hq3)
              have sc := sb.trans (Same.new (o := HO.lst (zs ++ [.ref q1])) hq3)
              have n3 := Lb.row.nr hq3
              have o3 := Lb.ed.fresh hq3
              have g3 := upd_same (H := Hb) (a := q3) (o := HO.lst (zs ++ [.ref q1]))
              have g1c := upd_ne' (o := HO.lst (zs ++ [.ref q1])) hq3 g1
              revert Lc sc g3 g1c
              generalize upd Hb q3 (.lst (zs ++ [.ref q1])) = Hc
              intro Lc sc g3 g1c
              refine ⟨Nat.zero_le _, fun q4 hq4 => ⟨_, rfl, _, _, _, rfl, ?_⟩⟩
              have Ld := Lc.same (Same.new (o := HO.lst []) hq4)
              have sd' := sc.trans (Same.new (o := HO.lst []) hq4)
              have n4 := Lc.row.nr hq4
              have o4 := Lc.ed.fresh hq4
              have g4 := upd_same (H := Hc) (a := q4) (o := HO.lst [])
              have g3d := upd_ne' (o := HO.lst []) hq4 g3
              have g1d := upd_ne' (o := HO.lst []) hq4 g1c
              revert Ld sd' g4 g3d g1d
              generalize upd Hc q4 (.lst []) = Hd
              intro Ld sd' g4 g3d g1d
              have tpair : Td Hd (.ref q1) (pastD (Ent.mk d e.pr (step e.pr d).s)) := .tup g1d (.cons (td9.mono sd'.tle) (.cons (L9.tv.mono sd'.tle) .nil))
              have tcat : TdAll Hd (zs ++ [.ref q1]) ((e.dn ++ [Ent.mk d e.pr (step e.pr d).s]).map pastD) := by
                rw [List.map_append]
                exact TdAll.append (t9b.mono sd'.tle) (.cons tpair .nil)
              exact hN _ _ ⟨ownb, e.enter d (step e.pr d).s, vn, q3, q4, _, _, _, _, _, _, _, rfl, ⟨Ld.row, Ld.ed, Ld.sv, Ld.nr, tn9.mono sd'.tle, Ld.tf, Ld.sc, ⟨_, g3d, tcat⟩, o3, n3, ⟨_, g4, .nil⟩, o4, n4, Ld.tb⟩, PN.enter DO hn, by show (e.dn ++ [Ent.mk d e.pr (step e.pr d).s]).length + 0 ≤ i + 1; rw [List.length_append, List.length_singleton]; omega⟩
      · obtain ⟨own, e, v2, l1, l2, w6, w7, w8, w9, w10, w11, w13, rfl, LS5, PN, hlen⟩ := pv
        obtain ⟨dx, vv, k1, k2, sd, ap, us1, us2, kvs, eo, i6⟩ := id LS5.ed
        refine ⟨_, rfl, x, dx, _, rfl, i6.ins, ef_no (by decide +kernel) (by decide +kernel) (by decide +kernel) (by decide +kernel) (by decide +kernel), x, own, e, rfl, LS5.ed, fun v' tv' => ?_⟩
        refine ⟨_, rfl, syD e.pr, syD e.pr, tv'.dp, LS5.tv.dp, (Pl.sy _).shaped (by decide), (Pl.sy _).shaped (by decide), _, rfl, ?_⟩
        rw [SeqAt.eqv_refl _ (Pl.sy e.pr).lay]
        refine iteF ⟨_, rfl, x, dx, _, rfl, i6.ins, ef_no (by decide +kernel) (by decide +kernel) (by decide +kernel) (by decide +kernel) (by decide +kernel), x, own, e, rfl, LS5.ed, by omega, fun d1 Hd us1 sd1 nd1 hd1 td1 => ?_⟩
        have L6 := LS5.same sd1
        obtain ⟨us, h1, t1⟩ := L6.p1
        have hus : us.length < 1000 := by rw [t1.len, List.length_map]; omega
        refine ⟨_, rfl, l1, rfl, ⟨_, SqL.of h1⟩, fun D hD => ?_⟩
        refine lc_s (walk_list (xs := us)) hD (fun j acc H' => TdAll H' acc ((e.dn.take j).map fun x => deedD x.d)) .nil (fun H2 s2 => SqL.of (s2 _ _ h1)) (fun j y H2 H2' acc hj s2 hacc lacc acc1 yl => ?_) (fun H2 acc s2 hacc acc1 => ?_)
        · obtain ⟨rfl, hx⟩ := yl
          obtain ⟨d, hd, td⟩ := (t1.mono s2.tle).get hx
          rw [List.getElem?_map] at hd
          cases ec : e.dn[j]? with
          | none => rw [ec] at hd; cases hd
          | some c =>
            rw [ec] at hd
            cases Option.some.inj hd
            obtain ⟨tq, o, b, rfl, htq, to, tb⟩ := td.pair_inv
            refine ⟨rfl, _, rfl, tq, _, _, _, rfl, rfl, htq, rfl, LcP.push hD s2 hacc lacc (by (have : sizeLine > 1000 := by decide); omega) ?_⟩
            show TdAll _ _ _
            rw [take_more ec, List.map_append]
            exact TdAll.append (TdAll.mono (tle_lst hacc) acc1) (.cons (to.mono (tle_lst hacc)) .nil)
        · rw [t1.len, List.length_map, List.take_length] at acc1
          have pld : Pl 4 (.list (e.dn.map fun x => deedD x.d)) := Pl.lst fun d hd => by
            obtain ⟨y, _, rfl⟩ := List.mem_map.mp hd
            exact Pl.deed y.d
          refine ⟨.list (e.dn.map fun x => deedD x.d), .list (e.dn.map fun x => deedD x.d), .lst (SqL.of (s2 _ _ hd1)) (td1.mono s2.tle).dp, .lst (SqL.of hacc) acc1.dp, pld.shaped (by decide), pld.shaped (by decide), _, rfl, ?_⟩
          rw [SeqAt.eqv_refl _ pld.lay]
          exact iteF ⟨own, e, v2, l1, l2, _, _, _, _, _, _, _, rfl, L6.same s2, PN, hlen⟩
    · obtain ⟨own, e, v2, l1, l2, w6, w7, w8, w9, w10, w11, w13, rfl, LS5, PN, hlen⟩ := pv
      have ub : e.dn.length + e.un.length < 900 := by omega
      have sl : sizeLine > 2000 := by decide
      obtain ⟨dx, vv, k1, k2, sd, ap, us1, us2, kvs, eo, i6⟩ := id LS5.ed
      refine ⟨_, rfl, x, dx, _, rfl, i6.ins, ef_no (by decide +kernel) (by decide +kernel) (by decide +kernel) (by decide +kernel) (by decide +kernel), x, own, e, rfl, LS5.ed, by omega, PN.sb, PN.so, fun d1 Hd us1 sd1 hd1 td1 => ?_⟩
      have L6 := LS5.same sd1
      obtain ⟨us, h1, t1⟩ := L6.p1
      have hus : us.length < 1000 := by rw [t1.len, List.length_map]; omega
      refine ⟨_, rfl, l1, rfl, ⟨_, SqL.of h1⟩, fun D hD => ?_⟩
      refine lc_s (walk_list (xs := us)) hD (fun j acc H' => TdAll H' acc ((e.dn.take j).map fun x => intsD (lw x.b))) .nil (fun H2 s2 => SqL.of (s2 _ _ h1)) (fun j y H2 H2' acc hj s2 hacc lacc acc1 yl => ?_) (fun H2 acc s2 hacc acc1 => ?_)
      · obtain ⟨rfl, hx⟩ := yl
        obtain ⟨d, hd, td⟩ := (t1.mono s2.tle).get hx
        rw [List.getElem?_map] at hd
        cases ec : e.dn[j]? with
        | none => rw [ec] at hd; cases hd
        | some c =>
          rw [ec] at hd
          cases Option.some.inj hd
          obtain ⟨tq, o, b, rfl, htq, to, tb⟩ := td.pair_inv
          refine ⟨rfl, _, rfl, tq, _, _, _, rfl, rfl, htq, rfl, b, c.b, rfl, tb, PN.sb c (List.mem_of_getElem? ec), fun v' H5 s5 t5 => ?_⟩
          refine LcP.push hD (s2.trans s5) (s5 _ _ hacc) lacc (by omega) ?_
          show TdAll _ _ _
          rw [take_more ec, List.map_append]
          have tl := tle_lst (o := HO.lst (acc ++ [v'])) (s5 _ _ hacc)
          exact TdAll.append ((TdAll.mono s5.tle acc1).mono tl) (.cons (t5.mono tl) .nil)
      · rw [t1.len, List.length_map, List.take_length] at acc1
        have L7 := L6.same s2
        have lac : acc.length < 1000 := by rw [TdAll.len acc1, List.length_map]; omega
        refine ⟨_, rfl, v2, e.pr, rfl, L7.tv, PN.so, fun v' H4 s4 t4 => ⟨by show 1 ≤ sizeLine; decide, fun m hm => ?_⟩⟩
        have hacc2 := upd_ne' (o := HO.lst [v']) hm (s4 _ _ hacc)
        refine ⟨D, m, acc, _, rfl, rfl, hacc2, upd_same, by show acc.length + 1 ≤ sizeLine; omega, fun q3 hq3 => ?_⟩
        have s6 := s4.trans ((Same.new (o := HO.lst [v']) hm).trans (Same.new (o := HO.lst (acc ++ [v'])) hq3))
        have L8 := L7.same s6
        have tw : TdAll (upd (upd H4 m (.lst [v'])) q3 (.lst (acc ++ [v']))) (acc ++ [v']) ((e.dn.map (·.b) ++ [e.pr]).map fun s => intsD (lw s)) := by
          rw [List.map_append, List.map_map]
          exact TdAll.append (acc1.mono s6.tle) (.cons (t4.mono ((Same.new hm).trans (Same.new hq3)).tle) .nil)
        have plw : Pl 2 (.list ((e.dn.map (·.b) ++ [e.pr]).map fun s => intsD (lw s))) := Pl.lst fun d hd => by
          obtain ⟨y, _, rfl⟩ := List.mem_map.mp hd
          exact Pl.ints _
        refine ⟨_, _, .lst (SqL.of (s6 _ _ (s2 _ _ hd1))) (td1.mono (s2.trans s6).tle).dp, .lst (SqL.of upd_same) tw.dp, plw.shaped (by decide), plw.shaped (by decide), _, rfl, ?_⟩
        rw [SeqAt.eqv_refl _ plw.lay]
        exact iteF ⟨_, rfl, _, rfl, _, rfl, x, own, e, v, v2, first, rfl, L8.tb, L8.ed, L8.sv, L8.tf, L8.tv, PN.sf, PN.so, PN.ch, PN.od, by omega, q⟩
end
end K68
end
section
set_option Elab.async false
set_option linter.all false
set_option maxRecDepth 100000
set_option maxHeartbeats 0
namespace K68
open PySem PySem.Spec PyProof.Rows L2
theorem lawAt (w : World) (mg : PySem.Str → Option Value) (fa' : Addr) (h : Heap) (Y : hk.says w h) (G : h.Ns mainGlobals mg) (hmg : mg ("law" : PySem.Str) = some (.ref fa')) : ∃ K : PySem.W.Frag, K.In h ∧ LamX.LawAtS PySem.Challenge.rw_onceonly_k68_whole_edited_systems w K (CX0) 40 63 "_law_script" mg fa' h := by
  obtain ⟨K, KX, S⟩ := Y
  have T : Tx w K mg := ⟨S.t, S.more, h, KX, G⟩
  obtain ⟨fd, F⟩ := T.f_law
  have e : fa' = He.fAd K ("law", none) := by
    have := T.g_law
    rw [hmg] at this
    cases this
    rfl
  subst e
  have bn : Binds K fd ["_law_script"] [] := F.bindsN fun _ _ _ _ _ _ us hl => match us, hl with | [_], _ => rfl
  have mI : (("_law_is_again", none) : He.Defn) ∈ tf := by decide
  have mL : (("law", none) : He.Defn) ∈ tf := by decide
  have two : ∀ {q : Addr × Addr → Prop}, q (cI K, pI K) → q (cL K, pL K) → ∀ z ∈ [(cI K, pI K), (cL K, pL K)], q z := fun a b z hz => by
    simp only [List.mem_cons, List.not_mem_nil, or_false] at hz
    rcases hz with rfl | rfl
    · exact a
    · exact b
  refine ⟨K, KX, fd, [(cI K, pI K), (cL K, pL K)], sp_law K, two (S.empty _ mI) (S.empty _ mL), two (S.out _ mI) (S.out _ mL), two (PySem.W.codeHd_of_K KX (S.hd _ mI)) (PySem.W.codeHd_of_K KX (S.hd _ mL)), fun s u => ?_, fun H a ns _ _ ht hs => ⟨a, ns, rfl, hs, fun z hz => ?_, fun _ => rfl⟩, fun base _ _ tb => FnOk.mono (ok_law T F (tb _ (List.mem_cons_of_mem _ List.mem_cons_self)) (tb _ List.mem_cons_self)) (by decide)⟩
  · exact F.bindsA (ps := ["_law_script"]) (fun _ _ _ _ _ _ us hl => match us, hl with | [_], _ => rfl) s [u] rfl
  · simp only [tabsT, List.mem_cons, List.not_mem_nil, or_false] at hz
    rcases hz with rfl | rfl
    · exact LamX.TabS.nil (ht _ List.mem_cons_self)
    · exact LamX.TabS.nil (ht _ (List.mem_cons_of_mem _ List.mem_cons_self))
end K68
end
section
set_option Elab.async false
set_option linter.all false
set_option maxRecDepth 100000
set_option maxHeartbeats 0
open PySem PySem.W PySem.Calls PyProof.Rows
theorem PySem.Challenge.cw_onceonly_k68_whole_edited_systems_holds : PySem.Challenge.rw_onceonly_k68_whole_edited_systems.Holds := by
  w_on; o_law
  refine HandSHeadRun.head_any (r := OpenLaw.row PySem.Challenge.rw_onceonly_k68_whole_edited_systems) (q := view (OpenLaw.row PySem.Challenge.rw_onceonly_k68_whole_edited_systems).prog [53]) (H := K68.hk) (ob := K68.ob) (M := 20000) (loose := K68.loose) (d := HandSHeadRun.topDef (OpenLaw.row PySem.Challenge.rw_onceonly_k68_whole_edited_systems).prog 53) (kwd := []) K68.ob_eq
    (by kernel_rfl) (fun s => by kernel_rfl) K68.run (by kernel_rfl) (by kernel_rfl) (by kernel_rfl) (by rfl) (by first | assumption | decide +kernel) (by decide +kernel) ⟨rfl, rfl, rfl, rfl, rfl, by decide +kernel⟩ ?hw ?hc
  case hw => w_witness2
  case hc =>
    refine LamX.walk_ofTsE (l := PySem.Challenge.rw_onceonly_k68_whole_edited_systems) (n := 63) (k := 40) (x := "_law_script") (CX := fun _ => L2.CX0) rfl (by decide) (by kernel_rfl) ⟨rfl, by decide, by decide⟩ ?F ?X
    case F =>
      intro w mg fa h Y G hmg0
      have hmg : mg ("law" : PySem.Str) = some (.ref fa) := by
        have e : (HandSHeadRun.topDef (OpenLaw.row PySem.Challenge.rw_onceonly_k68_whole_edited_systems).prog 53).name = ("law" : PySem.Str) := by kernel_rfl
        rw [← e]
        exact hmg0
      exact K68.lawAt w mg fa h Y G hmg
    case X =>
      intro w H s e s' h
      exact h
end
