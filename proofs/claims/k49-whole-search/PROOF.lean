import PyProof.Rows.All
import Wide.All
import OpenK.AllK
import Wide.FinOn
import KE.KStateDown
import Lean
import HandS.ForMost
import HandS.Exc
import HandS.ExcOwn
import HandS.WordsExc
import HandS.Defaults
import HandS.ExcField
import HandS.ExcInit
import HandS.Head0
import HandS.Head1
import HandS.Head2
import HandS.HeadEnd
import HandS.HeadHook1
import HandS.HeadHook2
import PySem.Challenge.RW_leatwork_k49_whole_search_with_threads
import HandS.Codes
import HandS.TryMany
import HandS.ExcCtx
import HandS.HotCalls
import HandS.RaiseFrom
import HandS.DictComp
import HandS.TupAny
import HandS.TupMul
import HandS.Zip
import HandS.SetKeys
import HandS.Style
import HandS.Deep
import HandS.More
import HandS.Wide
import PySem.Str
import HandS.TupLen
import KE.GoesMore
import PyProof.DictMoreH
import HandS.Iter
import HandS.Walk
import HandS.ExcInitHot
import HandS.TryOnly
import HandS.NoneIn
import PyProof.StrOps2
import KE.KRevSl
set_option Elab.async false
set_option linter.all false
set_option maxRecDepth 100000
set_option maxHeartbeats 4000000
/-! ### the text by places -/
namespace Lw
open PySem PySem.Spec PyProof.Rows L2
def top (i : Nat) : Stmt := PySem.Challenge.pw_leatwork_k49_whole_search_with_threads.main.body.getD i (.Pass ⟨0, 0, 0, 0⟩)
def dF (a : Str × Option Str) (name qual : Str) (st : Stmt) : He.DefD := ⟨a, name, qual, defArgs st, defBody st, defScope st, [], []⟩
abbrev s_with_node : Stmt := top 13
def d_with_node : He.DefD := dF ("with_node", none) "with_node" "with_node" s_with_node
abbrev s_with_nodes : Stmt := top 14
def d_with_nodes : He.DefD := dF ("with_nodes", none) "with_nodes" "with_nodes" s_with_nodes
abbrev s_parts_of : Stmt := top 18
def d_parts_of : He.DefD := dF ("parts_of", none) "parts_of" "parts_of" s_parts_of
abbrev s_head_of : Stmt := top 19
def d_head_of : He.DefD := dF ("head_of", none) "head_of" "head_of" s_head_of
abbrev s_numbered : Stmt := top 20
def d_numbered : He.DefD := dF ("numbered", none) "numbered" "numbered" s_numbered
abbrev s_classes : Stmt := top 21
def d_classes : He.DefD := dF ("classes", none) "classes" "classes" s_classes
abbrev s_least : Stmt := top 22
def d_least : He.DefD := dF ("least", none) "least" "least" s_least
abbrev s_checked : Stmt := top 23
def d_checked : He.DefD := dF ("checked", none) "checked" "checked" s_checked
abbrev s_leaf_text : Stmt := top 26
def d_leaf_text : He.DefD := dF ("leaf_text", none) "leaf_text" "leaf_text" s_leaf_text
abbrev s_graph_text : Stmt := top 28
def d_graph_text : He.DefD := dF ("graph_text", none) "graph_text" "graph_text" s_graph_text
abbrev s_outcome_of : Stmt := top 31
def d_outcome_of : He.DefD := dF ("outcome_of", none) "outcome_of" "outcome_of" s_outcome_of
abbrev s_run : Stmt := top 47
def d_run : He.DefD := dF ("run", none) "run" "run" s_run
abbrev s_solutions : Stmt := top 53
def d_solutions : He.DefD := dF ("solutions", none) "solutions" "solutions" s_solutions
abbrev s_shape : Stmt := top 54
def d_shape : He.DefD := dF ("shape", none) "shape" "shape" s_shape
abbrev s_law_stream : Stmt := top 56
def d_law_stream : He.DefD := dF ("_law_stream", none) "_law_stream" "_law_stream" s_law_stream
abbrev s_law_draw : Stmt := top 57
def d_law_draw : He.DefD := dF ("_law_draw", none) "_law_draw" "_law_draw" s_law_draw
abbrev s_law_chain : Stmt := top 58
def d_law_chain : He.DefD := dF ("_law_chain", none) "_law_chain" "_law_chain" s_law_chain
abbrev s_law_paths : Stmt := top 59
def d_law_paths : He.DefD := dF ("_law_paths", none) "_law_paths" "_law_paths" s_law_paths
abbrev s_law_sum : Stmt := top 60
def d_law_sum : He.DefD := dF ("_law_sum", none) "_law_sum" "_law_sum" s_law_sum
abbrev s_law : Stmt := top 61
def d_law : He.DefD := dF ("law", none) "law" "law" s_law
abbrev s_Frame_init : Stmt := inClass (top 9) 0
def d_Frame_init : He.DefD := dF ("Frame", some "__init__") "__init__" "Frame.__init__" s_Frame_init
abbrev s_Threas_init : Stmt := inClass (top 12) 0
def d_Thread_init : He.DefD := dF ("Thread", some "__init__") "__init__" "Thread.__init__" s_Threas_init
abbrev s_Threas_copy : Stmt := inClass (top 12) 1
def d_Thread_copy : He.DefD := dF ("Thread", some "copy") "copy" "Thread.copy" s_Threas_copy
abbrev s_Printer_init : Stmt := inClass (top 27) 0
def d_Printer_init : He.DefD := dF ("Printer", some "__init__") "__init__" "Printer.__init__" s_Printer_init
abbrev s_Printer_put : Stmt := inClass (top 27) 1
def d_Printer_put : He.DefD := dF ("Printer", some "put") "put" "Printer.put" s_Printer_put
abbrev s_Printer_write : Stmt := inClass (top 27) 2
def d_Printer_write : He.DefD := dF ("Printer", some "write") "write" "Printer.write" s_Printer_write
abbrev s_Numbers_init : Stmt := inClass (top 30) 0
def d_Numbers_init : He.DefD := dF ("Numbers", some "__init__") "__init__" "Numbers.__init__" s_Numbers_init
abbrev s_Numbers_renumbered : Stmt := inClass (top 30) 2
def d_Numbers_renumbered : He.DefD := dF ("Numbers", some "renumbered") "renumbered" "Numbers.renumbered" s_Numbers_renumbered
abbrev s_Waits_init : Stmt := inClass (top 34) 0
def d_Waits_init : He.DefD := dF ("Waits", some "__init__") "__init__" "Waits.__init__" s_Waits_init
abbrev s_Raises_init : Stmt := inClass (top 35) 0
def d_Raises_init : He.DefD := dF ("Raises", some "__init__") "__init__" "Raises.__init__" s_Raises_init
abbrev s_Store_init : Stmt := inClass (top 38) 0
def d_Store_init : He.DefD := dF ("Store", some "__init__") "__init__" "Store.__init__" s_Store_init
abbrev s_Store_make : Stmt := inClass (top 38) 1
def d_Store_make : He.DefD := dF ("Store", some "make") "make" "Store.make" s_Store_make
abbrev s_Store_variable : Stmt := inClass (top 38) 2
def d_Store_variable : He.DefD := dF ("Store", some "variable") "variable" "Store.variable" s_Store_variable
abbrev s_Store_integer : Stmt := inClass (top 38) 3
def d_Store_integer : He.DefD := dF ("Store", some "integer") "integer" "Store.integer" s_Store_integer
abbrev s_Store_atom : Stmt := inClass (top 38) 4
def d_Store_atom : He.DefD := dF ("Store", some "atom") "atom" "Store.atom" s_Store_atom
abbrev s_Store_name : Stmt := inClass (top 38) 5
def d_Store_name : He.DefD := dF ("Store", some "name") "name" "Store.name" s_Store_name
abbrev s_Store_representative : Stmt := inClass (top 38) 8
def d_Store_representative : He.DefD := dF ("Store", some "representative") "representative" "Store.representative" s_Store_representative
abbrev s_Store_is_bound : Stmt := inClass (top 38) 9
def d_Store_is_bound : He.DefD := dF ("Store", some "is_bound") "is_bound" "Store.is_bound" s_Store_is_bound
abbrev s_Store_joined : Stmt := inClass (top 38) 10
def d_Store_joined : He.DefD := dF ("Store", some "joined") "joined" "Store.joined" s_Store_joined
abbrev s_Store_merge : Stmt := inClass (top 38) 12
def d_Store_merge : He.DefD := dF ("Store", some "merge") "merge" "Store.merge" s_Store_merge
abbrev s_Store_freed : Stmt := inClass (top 38) 14
def d_Store_freed : He.DefD := dF ("Store", some "freed") "freed" "Store.freed" s_Store_freed
abbrev s_Store_unify : Stmt := inClass (top 38) 15
def d_Store_unify : He.DefD := dF ("Store", some "unify") "unify" "Store.unify" s_Store_unify
abbrev s_Store_value : Stmt := inClass (top 38) 17
def d_Store_value : He.DefD := dF ("Store", some "value") "value" "Store.value" s_Store_value
abbrev s_Store_graph : Stmt := inClass (top 38) 18
def d_Store_graph : He.DefD := dF ("Store", some "graph") "graph" "Store.graph" s_Store_graph
abbrev s_Store_size : Stmt := inClass (top 38) 19
def d_Store_size : He.DefD := dF ("Store", some "size") "size" "Store.size" s_Store_size
abbrev s_Store_copy : Stmt := inClass (top 38) 20
def d_Store_copy : He.DefD := dF ("Store", some "copy") "copy" "Store.copy" s_Store_copy
abbrev s_Machine_init : Stmt := inClass (top 44) 0
def d_Machine_init : He.DefD := dF ("Machine", some "__init__") "__init__" "Machine.__init__" s_Machine_init
abbrev s_Machine_threads : Stmt := inClass (top 44) 1
def d_Machine_threads : He.DefD := dF ("Machine", some "threads") "threads" "Machine.threads" s_Machine_threads
abbrev s_Machine_status : Stmt := inClass (top 44) 2
def d_Machine_status : He.DefD := dF ("Machine", some "status") "status" "Machine.status" s_Machine_status
abbrev s_Machine_ready : Stmt := inClass (top 44) 3
def d_Machine_ready : He.DefD := dF ("Machine", some "ready") "ready" "Machine.ready" s_Machine_ready
abbrev s_Machine_waits_for : Stmt := inClass (top 44) 4
def d_Machine_waits_for : He.DefD := dF ("Machine", some "waits_for") "waits_for" "Machine.waits_for" s_Machine_waits_for
abbrev s_Machine_graph : Stmt := inClass (top 44) 7
def d_Machine_graph : He.DefD := dF ("Machine", some "graph") "graph" "Machine.graph" s_Machine_graph
abbrev s_Machine_step : Stmt := inClass (top 44) 9
def d_Machine_step : He.DefD := dF ("Machine", some "step") "step" "Machine.step" s_Machine_step
abbrev s_Machine_choose : Stmt := inClass (top 44) 10
def d_Machine_choose : He.DefD := dF ("Machine", some "choose") "choose" "Machine.choose" s_Machine_choose
abbrev s_Machine_throw : Stmt := inClass (top 44) 13
def d_Machine_throw : He.DefD := dF ("Machine", some "throw") "throw" "Machine.throw" s_Machine_throw
abbrev s_Machine_fire : Stmt := inClass (top 44) 14
def d_Machine_fire : He.DefD := dF ("Machine", some "fire") "fire" "Machine.fire" s_Machine_fire
abbrev s_Machine_room : Stmt := inClass (top 44) 16
def d_Machine_room : He.DefD := dF ("Machine", some "room") "room" "Machine.room" s_Machine_room
abbrev s_Machine_push : Stmt := inClass (top 44) 17
def d_Machine_push : He.DefD := dF ("Machine", some "push") "push" "Machine.push" s_Machine_push
abbrev s_Machine_unify : Stmt := inClass (top 44) 18
def d_Machine_unify : He.DefD := dF ("Machine", some "unify") "unify" "Machine.unify" s_Machine_unify
abbrev s_Machine_wait : Stmt := inClass (top 44) 19
def d_Machine_wait : He.DefD := dF ("Machine", some "wait") "wait" "Machine.wait" s_Machine_wait
abbrev s_Machine_put : Stmt := inClass (top 44) 21
def d_Machine_put : He.DefD := dF ("Machine", some "put") "put" "Machine.put" s_Machine_put
abbrev s_Machine_do : Stmt := inClass (top 44) 22
def d_Machine_do : He.DefD := dF ("Machine", some "do") "do" "Machine.do" s_Machine_do
abbrev s_Machine_do_value : Stmt := inClass (top 44) 23
def d_Machine_do_value : He.DefD := dF ("Machine", some "do_value") "do_value" "Machine.do_value" s_Machine_do_value
abbrev s_Machine_do_test : Stmt := inClass (top 44) 24
def d_Machine_do_test : He.DefD := dF ("Machine", some "do_test") "do_test" "Machine.do_test" s_Machine_do_test
abbrev s_Machine_do_thread : Stmt := inClass (top 44) 25
def d_Machine_do_thread : He.DefD := dF ("Machine", some "do_thread") "do_thread" "Machine.do_thread" s_Machine_do_thread
abbrev s_Machine_start : Stmt := inClass (top 44) 26
def d_Machine_start : He.DefD := dF ("Machine", some "start") "start" "Machine.start" s_Machine_start
abbrev s_Machine_do_operator : Stmt := inClass (top 44) 29
def d_Machine_do_operator : He.DefD := dF ("Machine", some "do_operator") "do_operator" "Machine.do_operator" s_Machine_do_operator
abbrev s_Machine_workes_out : Stmt := inClass (top 44) 30
def d_Machine_worked_out : He.DefD := dF ("Machine", some "worked_out") "worked_out" "Machine.worked_out" s_Machine_workes_out
abbrev s_Machine_outcome : Stmt := inClass (top 44) 35
def d_Machine_outcome : He.DefD := dF ("Machine", some "outcome") "outcome" "Machine.outcome" s_Machine_outcome
abbrev s_Machine_copy : Stmt := inClass (top 44) 36
def d_Machine_copy : He.DefD := dF ("Machine", some "copy") "copy" "Machine.copy" s_Machine_copy
abbrev s_Space_init : Stmt := inClass (top 49) 0
def d_Space_init : He.DefD := dF ("Space", some "__init__") "__init__" "Space.__init__" s_Space_init
abbrev s_Space_statuses : Stmt := inClass (top 49) 1
def d_Space_statuses : He.DefD := dF ("Space", some "statuses") "statuses" "Space.statuses" s_Space_statuses
abbrev s_Space_ask : Stmt := inClass (top 49) 2
def d_Space_ask : He.DefD := dF ("Space", some "ask") "ask" "Space.ask" s_Space_ask
abbrev s_Space_commit : Stmt := inClass (top 49) 3
def d_Space_commit : He.DefD := dF ("Space", some "commit") "commit" "Space.commit" s_Space_commit
abbrev s_Space_outcome : Stmt := inClass (top 49) 6
def d_Space_outcome : He.DefD := dF ("Space", some "outcome") "outcome" "Space.outcome" s_Space_outcome
abbrev s_Space_copy : Stmt := inClass (top 49) 7
def d_Space_copy : He.DefD := dF ("Space", some "copy") "copy" "Space.copy" s_Space_copy
abbrev s_Search_init : Stmt := inClass (top 52) 0
def d_Search_init : He.DefD := dF ("Search", some "__init__") "__init__" "Search.__init__" s_Search_init
abbrev s_Search_step : Stmt := inClass (top 52) 1
def d_Search_step : He.DefD := dF ("Search", some "step") "step" "Search.step" s_Search_step
def fn0 : List He.DefD := [d_with_node, d_with_nodes, d_parts_of, d_head_of, d_numbered, d_classes, d_least, d_checked, d_leaf_text, d_graph_text, d_outcome_of, d_run, d_solutions, d_shape, d_law_stream, d_law_draw, d_law_chain, d_law_paths, d_law_sum, d_law, d_Frame_init, d_Thread_init, d_Thread_copy, d_Printer_init, d_Printer_put, d_Printer_write]
def fn1 : List He.DefD := [d_Numbers_init, d_Numbers_renumbered, d_Waits_init, d_Raises_init, d_Store_init, d_Store_make, d_Store_variable, d_Store_integer, d_Store_atom, d_Store_name, d_Store_representative, d_Store_is_bound, d_Store_joined, d_Store_merge, d_Store_freed, d_Store_unify, d_Store_value, d_Store_graph, d_Store_size, d_Store_copy, d_Machine_init, d_Machine_threads, d_Machine_status, d_Machine_ready, d_Machine_waits_for, d_Machine_graph]
def fn2 : List He.DefD := [d_Machine_step, d_Machine_choose, d_Machine_throw, d_Machine_fire, d_Machine_room, d_Machine_push, d_Machine_unify, d_Machine_wait, d_Machine_put, d_Machine_do, d_Machine_do_value, d_Machine_do_test, d_Machine_do_thread, d_Machine_start, d_Machine_do_operator, d_Machine_worked_out, d_Machine_outcome, d_Machine_copy, d_Space_init, d_Space_statuses, d_Space_ask, d_Space_commit, d_Space_outcome, d_Space_copy, d_Search_init, d_Search_step]
def fn : List He.DefD := fn0 ++ fn1 ++ fn2
def fa0 : List He.Fa := [.glo "with_node", .glo "with_nodes", .glo "parts_of", .glo "head_of", .glo "numbered", .glo "classes", .glo "least", .glo "checked", .glo "leaf_text", .glo "graph_text", .glo "outcome_of", .glo "run", .glo "solutions", .glo "shape", .glo "_law_stream", .glo "_law_draw", .glo "_law_chain", .glo "_law_paths", .glo "_law_sum", .glo "law", .glo "Frame", .cls "Frame", .mkr "Frame", .noat "Frame" "statement", .noat "Frame" "nodes", .noat "Frame" "handles", .glo "Thread", .cls "Thread", .mkr "Thread", .noat "Thread" "frames"]
def fa1 : List He.Fa := [.noat "Thread" "waits", .noat "Thread" "raised", .meth "Thread" "copy", .glo "Printer", .cls "Printer", .mkr "Printer", .noat "Printer" "graph", .noat "Printer" "rows", .noat "Printer" "size", .noat "Printer" "open_at", .meth "Printer" "put", .meth "Printer" "write", .glo "Numbers", .cls "Numbers", .mkr "Numbers", .noat "Numbers" "table", .noat "Numbers" "counts", .meth "Numbers" "renumbered", .glo "Waits", .glo "Raises", .glo "Store", .cls "Store", .mkr "Store", .noat "Store" "nodes", .noat "Store" "parents", .meth "Store" "make", .meth "Store" "variable", .meth "Store" "integer", .meth "Store" "atom", .meth "Store" "name"]
def fa2 : List He.Fa := [.meth "Store" "representative", .meth "Store" "is_bound", .meth "Store" "joined", .meth "Store" "merge", .meth "Store" "freed", .meth "Store" "unify", .meth "Store" "value", .meth "Store" "graph", .meth "Store" "size", .meth "Store" "copy", .glo "Machine", .cls "Machine", .mkr "Machine", .noat "Machine" "store", .noat "Machine" "nodes_given", .noat "Machine" "built_in", .noat "Machine" "atoms", .noat "Machine" "rows", .noat "Machine" "procedures", .noat "Machine" "cells", .noat "Machine" "ports", .noat "Machine" "triggers", .noat "Machine" "taken", .meth "Machine" "threads", .meth "Machine" "status", .meth "Machine" "ready", .meth "Machine" "waits_for", .meth "Machine" "graph", .meth "Machine" "step", .meth "Machine" "choose"]
def fa3 : List He.Fa := [.meth "Machine" "throw", .meth "Machine" "fire", .meth "Machine" "room", .meth "Machine" "push", .meth "Machine" "unify", .meth "Machine" "wait", .meth "Machine" "put", .meth "Machine" "do", .meth "Machine" "do_value", .meth "Machine" "do_test", .meth "Machine" "do_thread", .meth "Machine" "start", .meth "Machine" "do_operator", .meth "Machine" "worked_out", .meth "Machine" "outcome", .meth "Machine" "copy", .glo "Space", .cls "Space", .mkr "Space", .noat "Space" "machine", .meth "Space" "statuses", .meth "Space" "ask", .meth "Space" "commit", .meth "Space" "outcome", .meth "Space" "copy", .glo "Search", .cls "Search", .mkr "Search", .noat "Search" "waiting", .noat "Search" "count"]
def fa4 : List He.Fa := [.meth "Search" "step", .glo "Failed", .glo "BUILT_IN", .glo "RAISED", .free "len", .free "dict", .free "zip", .free "enumerate", .free "range", .free "tuple", .free "list", .free "set", .free "str", .free "int", .free "abs", .free "max", .free "min", .free "sorted", .free "sum", .int "MOST_NODES" 400, .int "MOST_NUMBER" 1000000000, .int "MOST_TEXT" 20000, .int "MOST_STORE" 2000, .int "MOST_THREADS" 60, .int "MOST_STACK" 200, .int "MOST_STEPS" 3000, .int "MOST_KNOTS" 200, .exm "Waits" "Waits" true, .exm "Raises" "Waits" false, .exm "Raises" "Raises" true]
def fa : List He.Fa := fa0 ++ fa1 ++ fa2 ++ fa3 ++ fa4
def loose0 : List Str := ["_wall", "__name__", "LeatworkError", "TooMany", "Failed", "NotReady", "compared", "Frame", "Procedure", "Trigger", "Thread", "with_node", "with_nodes", "MOST_NODES", "MOST_NUMBER", "parts_of", "head_of", "numbered", "classes", "least", "checked", "MOST_TEXT", "leaf_text", "Printer", "graph_text"]
def loose1 : List Str := ["Numbers", "outcome_of", "BUILT_IN", "Waits", "Raises", "MOST_STORE", "Store", "MOST_THREADS", "MOST_STACK", "RAISED", "COUNTS", "Machine", "MOST_STEPS", "run", "Space", "MOST_KNOTS", "Search", "solutions", "shape", "_law_stream", "_law_draw", "_law_chain", "_law_paths", "_law_sum"]
def loose : List Str := loose0 ++ loose1

/-! ### further facts: the two exception classes, the two tables -/
def excW (K : PySem.W.Frag) (x : Str) : Bool := match K.lookup (He.ga K x) with
  | some ⟨.type t, dd, .cls cd, sl⟩ => (match cd.mro, sl.toList with
    | .ref C :: bm, [_, _, _, _, some (.builtin n), _] => decide (t = "type") && (decide (C = He.ga K x) && (cd.hasDict && (!cd.hasDel && (decide (n = "ValueError.__new__") && PySem.HandSPX.refsVE bm))))
    | _, _ => false)
  | _ => false
def excB (K : PySem.W.Frag) (x : Str) : Bool := excW K x && (He.eqO (PySem.W.findIn K (.ref (He.ga K x)) "__setattr__") (some (some (.builtin "object.__setattr__"))) &&
  (decide (PySem.W.subIn K (.ref (He.ga K x)) (.type "BaseException") = some true) && (decide (PySem.W.typeIn K (.ref (He.ga K x)) = some (.type "type")) && (PySem.W.keepIn K (.ref (He.ga K x)) &&
  (He.eqO (PySem.W.findIn K (.ref (He.ga K x)) "node") (some none) && (He.eqO (PySem.W.findIn K (.ref (He.ga K x)) "__init__") (some (some (.ref (He.ma K (He.ga K x) "__init__")))) &&
  (decide (PySem.W.typeIn K (.ref (He.ma K (He.ga K x) "__init__")) = some (.type "function")) && xfB K (He.ga K x))))))))
def tabBI : List He.Dv := [.str "Wait", .str "IsDet", .str "NewCell", .str "Exchange", .str "NewPort", .str "Send", .str "Label", .str "Width", .str "Part"]
def tabRA : List He.Dv := [.str "failure", .str "type", .str "arity", .str "range", .str "threads", .str "memory", .str "stack"]
def more (K : PySem.W.Frag) : Bool := excB K "Waits" && (excB K "Raises" && (He.tupB K "BUILT_IN" tabBI && He.tupB K "RAISED" tabRA))
/-! ### what the head looks at: the names' objects, the classes' tables, the functions' codes -/
def codeA (o : Option Obj) : List Addr := match o with
  | some ⟨_, _, .func fd, _⟩ => He.refV fd.code
  | _ => []
def viaF (g : Addr → Option Obj) (v : Value) : List Addr := match v with
  | .ref f => f :: codeA (g f)
  | _ => []
def viaC (g : Addr → Option Obj) (ns : Addr) : List Addr := ns :: (match g ns with
  | some ⟨_, _, .dict es _, _⟩ => es.toList.flatMap fun e => viaF g e.val
  | _ => [])
def viaG (g : Addr → Option Obj) (v : Value) : List Addr := match v with
  | .ref a => a :: (match g a with
    | some ⟨_, _, .func fd, _⟩ => He.refV fd.code
    | some ⟨_, _, .cls cd, _⟩ => viaC g cd.ns
    | _ => [])
  | _ => []
def adrs (g : Addr → Option Obj) : List Addr := mainGlobals :: (match g mainGlobals with
  | some ⟨_, _, .dict es _, _⟩ => es.toList.flatMap fun e => viaG g e.val
  | _ => [])
def obsK (K : PySem.W.Frag) : He.AlD := ((He.obsD fa fn K).1 && more K, (He.obsD fa fn K).2)
def SaysX (K : PySem.W.Frag) : Prop := obsK K = He.valD fn
def obsX (g : Addr → Option Obj) : He.AlD := obsK (He.frG g (adrs g))
def hook : PySem.W.Hook where
  α := He.AlD
  obs := fun s => obsX s.heap.get?
  val := fun _ => He.valD fn
  says := fun _ h => ∃ K : PySem.W.Frag, K.In h ∧ SaysX K
  of := fun _ _ e => ⟨_, He.frG_in, e⟩
  keeps := fun _ _ _ ⟨K, hK, c⟩ k => ⟨K, PySem.W.Frag.In.keeps hK k, c⟩
abbrev R : PySem.W.OpenRow := PySem.W.OpenLaw.row PySem.Challenge.rw_leatwork_k49_whole_search_with_threads
def ob (s : PySem.W.SharedT) : He.AlD := obsX (HandSHeadRun.getT s)
theorem ob_eq (s : PySem.W.SharedT) : ob s = hook.obs s.abs := by
  have e : HandSHeadRun.getT s = s.abs.heap.get? := funext (HandSHeadRun.getT_eq s)
  show obsX (HandSHeadRun.getT s) = obsX s.abs.heap.get?
  rw [e]
set_option maxHeartbeats 0 in
theorem run (w : World) : HandSHeadRun.RunEq R (PySem.W.view R.prog [61]) hook ob 30000 loose w := by
  intro os
  kernel_rfl
end Lw
namespace Lw
open PySem PySem.Spec PyProof.Rows L2
/-- what the head tells -/
structure Tx (K : PySem.W.Frag) (mg : Str → Option Value) : Prop where
  says : SaysX K
  glo : ∀ {x : Str}, (He.Fa.glo x).ok K = true → mg x = some (.ref (He.ga K x))
  free : ∀ {x : Str}, (He.Fa.free x).ok K = true → mg x = none
  int : ∀ {x : Str} {i : Int}, (He.Fa.int x i).ok K = true → ∃ t, mg x = some (.int i t)
section
variable {P : Program} {w : World} {K : PySem.W.Frag} {mg : Str → Option Value} {base : Heap}
theorem Tx.mk_of {h : Heap} (X : K.In h) (G : h.Ns mainGlobals mg) (c : SaysX K) : Tx K mg := ⟨c, He.glo_ok X G, He.free_ok X G, He.int_ok X G⟩
theorem Tx.base_ (T : Tx K mg) : He.SaysD fa fn K := by
  have c : ((He.obsD fa fn K).1 && more K, (He.obsD fa fn K).2) = He.valD fn := T.says
  have c1 : ((He.obsD fa fn K).1 && more K) = true := congrArg (fun z : He.AlD => z.1) c
  have c2 : (He.obsD fa fn K).2 = fn.map He.DefD.val := congrArg (fun z : He.AlD => z.2) c
  have c3 := (He.ba c1).1
  show He.obsD fa fn K = (true, fn.map He.DefD.val)
  rw [← c2, ← c3]
theorem Tx.more_ (T : Tx K mg) : more K = true := by
  have c : ((He.obsD fa fn K).1 && more K, (He.obsD fa fn K).2) = He.valD fn := T.says
  have c1 : ((He.obsD fa fn K).1 && more K) = true := congrArg (fun z : He.AlD => z.1) c
  exact (He.ba c1).2
theorem Tx.fact (T : Tx K mg) (i : Nat) {f : He.Fa} (h : fa[i]? = some f := by rfl) : f.ok K = true := T.base_.fact i h
theorem Tx.def_ (T : Tx K mg) (i : Nat) {d : He.DefD} (h : fn[i]? = some d := by rfl) : ∃ fd, FunD K d.name d.qual d.params d.body d.scope (d.dvs K) (d.kws K) (He.fAd K d.at_) fd := T.base_.def_ i h
abbrev cFrame (K : PySem.W.Frag) : Addr := He.ga K "Frame"
abbrev cThread (K : PySem.W.Frag) : Addr := He.ga K "Thread"
abbrev cPrinter (K : PySem.W.Frag) : Addr := He.ga K "Printer"
abbrev cNumbers (K : PySem.W.Frag) : Addr := He.ga K "Numbers"
abbrev cWaits (K : PySem.W.Frag) : Addr := He.ga K "Waits"
abbrev cRaises (K : PySem.W.Frag) : Addr := He.ga K "Raises"
abbrev cStore (K : PySem.W.Frag) : Addr := He.ga K "Store"
abbrev cMachine (K : PySem.W.Frag) : Addr := He.ga K "Machine"
abbrev cSpace (K : PySem.W.Frag) : Addr := He.ga K "Space"
abbrev cSearch (K : PySem.W.Frag) : Addr := He.ga K "Search"
theorem Tx.g_with_node (T : Tx K mg) : mg "with_node" = some (.ref (He.ga K "with_node")) := T.glo (T.fact 0 (f := .glo "with_node"))
theorem Tx.g_with_nodes (T : Tx K mg) : mg "with_nodes" = some (.ref (He.ga K "with_nodes")) := T.glo (T.fact 1 (f := .glo "with_nodes"))
theorem Tx.g_parts_of (T : Tx K mg) : mg "parts_of" = some (.ref (He.ga K "parts_of")) := T.glo (T.fact 2 (f := .glo "parts_of"))
theorem Tx.g_head_of (T : Tx K mg) : mg "head_of" = some (.ref (He.ga K "head_of")) := T.glo (T.fact 3 (f := .glo "head_of"))
theorem Tx.g_numbered (T : Tx K mg) : mg "numbered" = some (.ref (He.ga K "numbered")) := T.glo (T.fact 4 (f := .glo "numbered"))
theorem Tx.g_classes (T : Tx K mg) : mg "classes" = some (.ref (He.ga K "classes")) := T.glo (T.fact 5 (f := .glo "classes"))
theorem Tx.g_least (T : Tx K mg) : mg "least" = some (.ref (He.ga K "least")) := T.glo (T.fact 6 (f := .glo "least"))
theorem Tx.g_checked (T : Tx K mg) : mg "checked" = some (.ref (He.ga K "checked")) := T.glo (T.fact 7 (f := .glo "checked"))
theorem Tx.g_leaf_text (T : Tx K mg) : mg "leaf_text" = some (.ref (He.ga K "leaf_text")) := T.glo (T.fact 8 (f := .glo "leaf_text"))
theorem Tx.g_graph_text (T : Tx K mg) : mg "graph_text" = some (.ref (He.ga K "graph_text")) := T.glo (T.fact 9 (f := .glo "graph_text"))
theorem Tx.g_outcome_of (T : Tx K mg) : mg "outcome_of" = some (.ref (He.ga K "outcome_of")) := T.glo (T.fact 10 (f := .glo "outcome_of"))
theorem Tx.g_run (T : Tx K mg) : mg "run" = some (.ref (He.ga K "run")) := T.glo (T.fact 11 (f := .glo "run"))
theorem Tx.g_solutions (T : Tx K mg) : mg "solutions" = some (.ref (He.ga K "solutions")) := T.glo (T.fact 12 (f := .glo "solutions"))
theorem Tx.g_shape (T : Tx K mg) : mg "shape" = some (.ref (He.ga K "shape")) := T.glo (T.fact 13 (f := .glo "shape"))
theorem Tx.g_law_stream (T : Tx K mg) : mg "_law_stream" = some (.ref (He.ga K "_law_stream")) := T.glo (T.fact 14 (f := .glo "_law_stream"))
theorem Tx.g_law_draw (T : Tx K mg) : mg "_law_draw" = some (.ref (He.ga K "_law_draw")) := T.glo (T.fact 15 (f := .glo "_law_draw"))
theorem Tx.g_law_chain (T : Tx K mg) : mg "_law_chain" = some (.ref (He.ga K "_law_chain")) := T.glo (T.fact 16 (f := .glo "_law_chain"))
theorem Tx.g_law_paths (T : Tx K mg) : mg "_law_paths" = some (.ref (He.ga K "_law_paths")) := T.glo (T.fact 17 (f := .glo "_law_paths"))
theorem Tx.g_law_sum (T : Tx K mg) : mg "_law_sum" = some (.ref (He.ga K "_law_sum")) := T.glo (T.fact 18 (f := .glo "_law_sum"))
theorem Tx.g_law (T : Tx K mg) : mg "law" = some (.ref (He.ga K "law")) := T.glo (T.fact 19 (f := .glo "law"))
theorem Tx.g_Frame (T : Tx K mg) : mg "Frame" = some (.ref (He.ga K "Frame")) := T.glo (T.fact 20 (f := .glo "Frame"))
theorem Tx.c_Frame (T : Tx K mg) : Cls K (cFrame K) := He.cls_ok (T.fact 21 (f := .cls "Frame"))
theorem Tx.k_Frame (T : Tx K mg) : Mk K (cFrame K) (He.ma K (cFrame K) "__init__") := He.mkr_ok (T.fact 22 (f := .mkr "Frame"))
theorem Tx.n_Frame_statement (T : Tx K mg) : NoAttr K (cFrame K) "statement" := He.noat_ok (T.fact 23 (f := .noat "Frame" "statement"))
theorem Tx.n_Frame_nodes (T : Tx K mg) : NoAttr K (cFrame K) "nodes" := He.noat_ok (T.fact 24 (f := .noat "Frame" "nodes"))
theorem Tx.n_Frame_handles (T : Tx K mg) : NoAttr K (cFrame K) "handles" := He.noat_ok (T.fact 25 (f := .noat "Frame" "handles"))
theorem Tx.g_Thread (T : Tx K mg) : mg "Thread" = some (.ref (He.ga K "Thread")) := T.glo (T.fact 26 (f := .glo "Thread"))
theorem Tx.c_Thread (T : Tx K mg) : Cls K (cThread K) := He.cls_ok (T.fact 27 (f := .cls "Thread"))
theorem Tx.k_Thread (T : Tx K mg) : Mk K (cThread K) (He.ma K (cThread K) "__init__") := He.mkr_ok (T.fact 28 (f := .mkr "Thread"))
theorem Tx.n_Thread_frames (T : Tx K mg) : NoAttr K (cThread K) "frames" := He.noat_ok (T.fact 29 (f := .noat "Thread" "frames"))
theorem Tx.n_Thread_waits (T : Tx K mg) : NoAttr K (cThread K) "waits" := He.noat_ok (T.fact 30 (f := .noat "Thread" "waits"))
theorem Tx.n_Thread_raised (T : Tx K mg) : NoAttr K (cThread K) "raised" := He.noat_ok (T.fact 31 (f := .noat "Thread" "raised"))
theorem Tx.m_Thread_copy (T : Tx K mg) : Meth K (cThread K) "copy" (He.ma K (cThread K) "copy") := He.meth_ok (T.fact 32 (f := .meth "Thread" "copy"))
theorem Tx.g_Printer (T : Tx K mg) : mg "Printer" = some (.ref (He.ga K "Printer")) := T.glo (T.fact 33 (f := .glo "Printer"))
theorem Tx.c_Printer (T : Tx K mg) : Cls K (cPrinter K) := He.cls_ok (T.fact 34 (f := .cls "Printer"))
theorem Tx.k_Printer (T : Tx K mg) : Mk K (cPrinter K) (He.ma K (cPrinter K) "__init__") := He.mkr_ok (T.fact 35 (f := .mkr "Printer"))
theorem Tx.n_Printer_graph (T : Tx K mg) : NoAttr K (cPrinter K) "graph" := He.noat_ok (T.fact 36 (f := .noat "Printer" "graph"))
theorem Tx.n_Printer_rows (T : Tx K mg) : NoAttr K (cPrinter K) "rows" := He.noat_ok (T.fact 37 (f := .noat "Printer" "rows"))
theorem Tx.n_Printer_size (T : Tx K mg) : NoAttr K (cPrinter K) "size" := He.noat_ok (T.fact 38 (f := .noat "Printer" "size"))
theorem Tx.n_Printer_open_at (T : Tx K mg) : NoAttr K (cPrinter K) "open_at" := He.noat_ok (T.fact 39 (f := .noat "Printer" "open_at"))
theorem Tx.m_Printer_put (T : Tx K mg) : Meth K (cPrinter K) "put" (He.ma K (cPrinter K) "put") := He.meth_ok (T.fact 40 (f := .meth "Printer" "put"))
theorem Tx.m_Printer_write (T : Tx K mg) : Meth K (cPrinter K) "write" (He.ma K (cPrinter K) "write") := He.meth_ok (T.fact 41 (f := .meth "Printer" "write"))
theorem Tx.g_Numbers (T : Tx K mg) : mg "Numbers" = some (.ref (He.ga K "Numbers")) := T.glo (T.fact 42 (f := .glo "Numbers"))
theorem Tx.c_Numbers (T : Tx K mg) : Cls K (cNumbers K) := He.cls_ok (T.fact 43 (f := .cls "Numbers"))
theorem Tx.k_Numbers (T : Tx K mg) : Mk K (cNumbers K) (He.ma K (cNumbers K) "__init__") := He.mkr_ok (T.fact 44 (f := .mkr "Numbers"))
theorem Tx.n_Numbers_table (T : Tx K mg) : NoAttr K (cNumbers K) "table" := He.noat_ok (T.fact 45 (f := .noat "Numbers" "table"))
theorem Tx.n_Numbers_counts (T : Tx K mg) : NoAttr K (cNumbers K) "counts" := He.noat_ok (T.fact 46 (f := .noat "Numbers" "counts"))
theorem Tx.m_Numbers_renumbered (T : Tx K mg) : Meth K (cNumbers K) "renumbered" (He.ma K (cNumbers K) "renumbered") := He.meth_ok (T.fact 47 (f := .meth "Numbers" "renumbered"))
theorem Tx.g_Waits (T : Tx K mg) : mg "Waits" = some (.ref (He.ga K "Waits")) := T.glo (T.fact 48 (f := .glo "Waits"))
theorem Tx.g_Raises (T : Tx K mg) : mg "Raises" = some (.ref (He.ga K "Raises")) := T.glo (T.fact 49 (f := .glo "Raises"))
theorem Tx.g_Store (T : Tx K mg) : mg "Store" = some (.ref (He.ga K "Store")) := T.glo (T.fact 50 (f := .glo "Store"))
theorem Tx.c_Store (T : Tx K mg) : Cls K (cStore K) := He.cls_ok (T.fact 51 (f := .cls "Store"))
theorem Tx.k_Store (T : Tx K mg) : Mk K (cStore K) (He.ma K (cStore K) "__init__") := He.mkr_ok (T.fact 52 (f := .mkr "Store"))
theorem Tx.n_Store_nodes (T : Tx K mg) : NoAttr K (cStore K) "nodes" := He.noat_ok (T.fact 53 (f := .noat "Store" "nodes"))
theorem Tx.n_Store_parents (T : Tx K mg) : NoAttr K (cStore K) "parents" := He.noat_ok (T.fact 54 (f := .noat "Store" "parents"))
theorem Tx.m_Store_make (T : Tx K mg) : Meth K (cStore K) "make" (He.ma K (cStore K) "make") := He.meth_ok (T.fact 55 (f := .meth "Store" "make"))
theorem Tx.m_Store_variable (T : Tx K mg) : Meth K (cStore K) "variable" (He.ma K (cStore K) "variable") := He.meth_ok (T.fact 56 (f := .meth "Store" "variable"))
theorem Tx.m_Store_integer (T : Tx K mg) : Meth K (cStore K) "integer" (He.ma K (cStore K) "integer") := He.meth_ok (T.fact 57 (f := .meth "Store" "integer"))
theorem Tx.m_Store_atom (T : Tx K mg) : Meth K (cStore K) "atom" (He.ma K (cStore K) "atom") := He.meth_ok (T.fact 58 (f := .meth "Store" "atom"))
theorem Tx.m_Store_name (T : Tx K mg) : Meth K (cStore K) "name" (He.ma K (cStore K) "name") := He.meth_ok (T.fact 59 (f := .meth "Store" "name"))
theorem Tx.m_Store_representative (T : Tx K mg) : Meth K (cStore K) "representative" (He.ma K (cStore K) "representative") := He.meth_ok (T.fact 60 (f := .meth "Store" "representative"))
theorem Tx.m_Store_is_bound (T : Tx K mg) : Meth K (cStore K) "is_bound" (He.ma K (cStore K) "is_bound") := He.meth_ok (T.fact 61 (f := .meth "Store" "is_bound"))
theorem Tx.m_Store_joined (T : Tx K mg) : Meth K (cStore K) "joined" (He.ma K (cStore K) "joined") := He.meth_ok (T.fact 62 (f := .meth "Store" "joined"))
theorem Tx.m_Store_merge (T : Tx K mg) : Meth K (cStore K) "merge" (He.ma K (cStore K) "merge") := He.meth_ok (T.fact 63 (f := .meth "Store" "merge"))
theorem Tx.m_Store_freed (T : Tx K mg) : Meth K (cStore K) "freed" (He.ma K (cStore K) "freed") := He.meth_ok (T.fact 64 (f := .meth "Store" "freed"))
theorem Tx.m_Store_unify (T : Tx K mg) : Meth K (cStore K) "unify" (He.ma K (cStore K) "unify") := He.meth_ok (T.fact 65 (f := .meth "Store" "unify"))
theorem Tx.m_Store_value (T : Tx K mg) : Meth K (cStore K) "value" (He.ma K (cStore K) "value") := He.meth_ok (T.fact 66 (f := .meth "Store" "value"))
theorem Tx.m_Store_graph (T : Tx K mg) : Meth K (cStore K) "graph" (He.ma K (cStore K) "graph") := He.meth_ok (T.fact 67 (f := .meth "Store" "graph"))
theorem Tx.m_Store_size (T : Tx K mg) : Meth K (cStore K) "size" (He.ma K (cStore K) "size") := He.meth_ok (T.fact 68 (f := .meth "Store" "size"))
theorem Tx.m_Store_copy (T : Tx K mg) : Meth K (cStore K) "copy" (He.ma K (cStore K) "copy") := He.meth_ok (T.fact 69 (f := .meth "Store" "copy"))
theorem Tx.g_Machine (T : Tx K mg) : mg "Machine" = some (.ref (He.ga K "Machine")) := T.glo (T.fact 70 (f := .glo "Machine"))
theorem Tx.c_Machine (T : Tx K mg) : Cls K (cMachine K) := He.cls_ok (T.fact 71 (f := .cls "Machine"))
theorem Tx.k_Machine (T : Tx K mg) : Mk K (cMachine K) (He.ma K (cMachine K) "__init__") := He.mkr_ok (T.fact 72 (f := .mkr "Machine"))
theorem Tx.n_Machine_store (T : Tx K mg) : NoAttr K (cMachine K) "store" := He.noat_ok (T.fact 73 (f := .noat "Machine" "store"))
theorem Tx.n_Machine_nodes_given (T : Tx K mg) : NoAttr K (cMachine K) "nodes_given" := He.noat_ok (T.fact 74 (f := .noat "Machine" "nodes_given"))
theorem Tx.n_Machine_built_in (T : Tx K mg) : NoAttr K (cMachine K) "built_in" := He.noat_ok (T.fact 75 (f := .noat "Machine" "built_in"))
theorem Tx.n_Machine_atoms (T : Tx K mg) : NoAttr K (cMachine K) "atoms" := He.noat_ok (T.fact 76 (f := .noat "Machine" "atoms"))
theorem Tx.n_Machine_rows (T : Tx K mg) : NoAttr K (cMachine K) "rows" := He.noat_ok (T.fact 77 (f := .noat "Machine" "rows"))
theorem Tx.n_Machine_procedures (T : Tx K mg) : NoAttr K (cMachine K) "procedures" := He.noat_ok (T.fact 78 (f := .noat "Machine" "procedures"))
theorem Tx.n_Machine_cells (T : Tx K mg) : NoAttr K (cMachine K) "cells" := He.noat_ok (T.fact 79 (f := .noat "Machine" "cells"))
theorem Tx.n_Machine_ports (T : Tx K mg) : NoAttr K (cMachine K) "ports" := He.noat_ok (T.fact 80 (f := .noat "Machine" "ports"))
theorem Tx.n_Machine_triggers (T : Tx K mg) : NoAttr K (cMachine K) "triggers" := He.noat_ok (T.fact 81 (f := .noat "Machine" "triggers"))
theorem Tx.n_Machine_taken (T : Tx K mg) : NoAttr K (cMachine K) "taken" := He.noat_ok (T.fact 82 (f := .noat "Machine" "taken"))
theorem Tx.m_Machine_threads (T : Tx K mg) : Meth K (cMachine K) "threads" (He.ma K (cMachine K) "threads") := He.meth_ok (T.fact 83 (f := .meth "Machine" "threads"))
theorem Tx.m_Machine_status (T : Tx K mg) : Meth K (cMachine K) "status" (He.ma K (cMachine K) "status") := He.meth_ok (T.fact 84 (f := .meth "Machine" "status"))
theorem Tx.m_Machine_ready (T : Tx K mg) : Meth K (cMachine K) "ready" (He.ma K (cMachine K) "ready") := He.meth_ok (T.fact 85 (f := .meth "Machine" "ready"))
theorem Tx.m_Machine_waits_for (T : Tx K mg) : Meth K (cMachine K) "waits_for" (He.ma K (cMachine K) "waits_for") := He.meth_ok (T.fact 86 (f := .meth "Machine" "waits_for"))
theorem Tx.m_Machine_graph (T : Tx K mg) : Meth K (cMachine K) "graph" (He.ma K (cMachine K) "graph") := He.meth_ok (T.fact 87 (f := .meth "Machine" "graph"))
theorem Tx.m_Machine_step (T : Tx K mg) : Meth K (cMachine K) "step" (He.ma K (cMachine K) "step") := He.meth_ok (T.fact 88 (f := .meth "Machine" "step"))
theorem Tx.m_Machine_choose (T : Tx K mg) : Meth K (cMachine K) "choose" (He.ma K (cMachine K) "choose") := He.meth_ok (T.fact 89 (f := .meth "Machine" "choose"))
theorem Tx.m_Machine_throw (T : Tx K mg) : Meth K (cMachine K) "throw" (He.ma K (cMachine K) "throw") := He.meth_ok (T.fact 90 (f := .meth "Machine" "throw"))
theorem Tx.m_Machine_fire (T : Tx K mg) : Meth K (cMachine K) "fire" (He.ma K (cMachine K) "fire") := He.meth_ok (T.fact 91 (f := .meth "Machine" "fire"))
theorem Tx.m_Machine_room (T : Tx K mg) : Meth K (cMachine K) "room" (He.ma K (cMachine K) "room") := He.meth_ok (T.fact 92 (f := .meth "Machine" "room"))
theorem Tx.m_Machine_push (T : Tx K mg) : Meth K (cMachine K) "push" (He.ma K (cMachine K) "push") := He.meth_ok (T.fact 93 (f := .meth "Machine" "push"))
theorem Tx.m_Machine_unify (T : Tx K mg) : Meth K (cMachine K) "unify" (He.ma K (cMachine K) "unify") := He.meth_ok (T.fact 94 (f := .meth "Machine" "unify"))
theorem Tx.m_Machine_wait (T : Tx K mg) : Meth K (cMachine K) "wait" (He.ma K (cMachine K) "wait") := He.meth_ok (T.fact 95 (f := .meth "Machine" "wait"))
theorem Tx.m_Machine_put (T : Tx K mg) : Meth K (cMachine K) "put" (He.ma K (cMachine K) "put") := He.meth_ok (T.fact 96 (f := .meth "Machine" "put"))
theorem Tx.m_Machine_do (T : Tx K mg) : Meth K (cMachine K) "do" (He.ma K (cMachine K) "do") := He.meth_ok (T.fact 97 (f := .meth "Machine" "do"))
theorem Tx.m_Machine_do_value (T : Tx K mg) : Meth K (cMachine K) "do_value" (He.ma K (cMachine K) "do_value") := He.meth_ok (T.fact 98 (f := .meth "Machine" "do_value"))
theorem Tx.m_Machine_do_test (T : Tx K mg) : Meth K (cMachine K) "do_test" (He.ma K (cMachine K) "do_test") := He.meth_ok (T.fact 99 (f := .meth "Machine" "do_test"))
theorem Tx.m_Machine_do_thread (T : Tx K mg) : Meth K (cMachine K) "do_thread" (He.ma K (cMachine K) "do_thread") := He.meth_ok (T.fact 100 (f := .meth "Machine" "do_thread"))
theorem Tx.m_Machine_start (T : Tx K mg) : Meth K (cMachine K) "start" (He.ma K (cMachine K) "start") := He.meth_ok (T.fact 101 (f := .meth "Machine" "start"))
theorem Tx.m_Machine_do_operator (T : Tx K mg) : Meth K (cMachine K) "do_operator" (He.ma K (cMachine K) "do_operator") := He.meth_ok (T.fact 102 (f := .meth "Machine" "do_operator"))
theorem Tx.m_Machine_worked_out (T : Tx K mg) : Meth K (cMachine K) "worked_out" (He.ma K (cMachine K) "worked_out") := He.meth_ok (T.fact 103 (f := .meth "Machine" "worked_out"))
theorem Tx.m_Machine_outcome (T : Tx K mg) : Meth K (cMachine K) "outcome" (He.ma K (cMachine K) "outcome") := He.meth_ok (T.fact 104 (f := .meth "Machine" "outcome"))
theorem Tx.m_Machine_copy (T : Tx K mg) : Meth K (cMachine K) "copy" (He.ma K (cMachine K) "copy") := He.meth_ok (T.fact 105 (f := .meth "Machine" "copy"))
theorem Tx.g_Space (T : Tx K mg) : mg "Space" = some (.ref (He.ga K "Space")) := T.glo (T.fact 106 (f := .glo "Space"))
theorem Tx.c_Space (T : Tx K mg) : Cls K (cSpace K) := He.cls_ok (T.fact 107 (f := .cls "Space"))
theorem Tx.k_Space (T : Tx K mg) : Mk K (cSpace K) (He.ma K (cSpace K) "__init__") := He.mkr_ok (T.fact 108 (f := .mkr "Space"))
theorem Tx.n_Space_machine (T : Tx K mg) : NoAttr K (cSpace K) "machine" := He.noat_ok (T.fact 109 (f := .noat "Space" "machine"))
theorem Tx.m_Space_statuses (T : Tx K mg) : Meth K (cSpace K) "statuses" (He.ma K (cSpace K) "statuses") := He.meth_ok (T.fact 110 (f := .meth "Space" "statuses"))
theorem Tx.m_Space_ask (T : Tx K mg) : Meth K (cSpace K) "ask" (He.ma K (cSpace K) "ask") := He.meth_ok (T.fact 111 (f := .meth "Space" "ask"))
theorem Tx.m_Space_commit (T : Tx K mg) : Meth K (cSpace K) "commit" (He.ma K (cSpace K) "commit") := He.meth_ok (T.fact 112 (f := .meth "Space" "commit"))
theorem Tx.m_Space_outcome (T : Tx K mg) : Meth K (cSpace K) "outcome" (He.ma K (cSpace K) "outcome") := He.meth_ok (T.fact 113 (f := .meth "Space" "outcome"))
theorem Tx.m_Space_copy (T : Tx K mg) : Meth K (cSpace K) "copy" (He.ma K (cSpace K) "copy") := He.meth_ok (T.fact 114 (f := .meth "Space" "copy"))
theorem Tx.g_Search (T : Tx K mg) : mg "Search" = some (.ref (He.ga K "Search")) := T.glo (T.fact 115 (f := .glo "Search"))
theorem Tx.c_Search (T : Tx K mg) : Cls K (cSearch K) := He.cls_ok (T.fact 116 (f := .cls "Search"))
theorem Tx.k_Search (T : Tx K mg) : Mk K (cSearch K) (He.ma K (cSearch K) "__init__") := He.mkr_ok (T.fact 117 (f := .mkr "Search"))
theorem Tx.n_Search_waiting (T : Tx K mg) : NoAttr K (cSearch K) "waiting" := He.noat_ok (T.fact 118 (f := .noat "Search" "waiting"))
theorem Tx.n_Search_count (T : Tx K mg) : NoAttr K (cSearch K) "count" := He.noat_ok (T.fact 119 (f := .noat "Search" "count"))
theorem Tx.m_Search_step (T : Tx K mg) : Meth K (cSearch K) "step" (He.ma K (cSearch K) "step") := He.meth_ok (T.fact 120 (f := .meth "Search" "step"))
theorem Tx.g_Failed (T : Tx K mg) : mg "Failed" = some (.ref (He.ga K "Failed")) := T.glo (T.fact 121 (f := .glo "Failed"))
theorem Tx.g_BUILT_IN (T : Tx K mg) : mg "BUILT_IN" = some (.ref (He.ga K "BUILT_IN")) := T.glo (T.fact 122 (f := .glo "BUILT_IN"))
theorem Tx.g_RAISED (T : Tx K mg) : mg "RAISED" = some (.ref (He.ga K "RAISED")) := T.glo (T.fact 123 (f := .glo "RAISED"))
theorem Tx.z_len (T : Tx K mg) : mg "len" = none := T.free (T.fact 124 (f := .free "len"))
theorem Tx.z_dict (T : Tx K mg) : mg "dict" = none := T.free (T.fact 125 (f := .free "dict"))
theorem Tx.z_zip (T : Tx K mg) : mg "zip" = none := T.free (T.fact 126 (f := .free "zip"))
theorem Tx.z_enumerate (T : Tx K mg) : mg "enumerate" = none := T.free (T.fact 127 (f := .free "enumerate"))
theorem Tx.z_range (T : Tx K mg) : mg "range" = none := T.free (T.fact 128 (f := .free "range"))
theorem Tx.z_tuple (T : Tx K mg) : mg "tuple" = none := T.free (T.fact 129 (f := .free "tuple"))
theorem Tx.z_list (T : Tx K mg) : mg "list" = none := T.free (T.fact 130 (f := .free "list"))
theorem Tx.z_set (T : Tx K mg) : mg "set" = none := T.free (T.fact 131 (f := .free "set"))
theorem Tx.z_str (T : Tx K mg) : mg "str" = none := T.free (T.fact 132 (f := .free "str"))
theorem Tx.z_int (T : Tx K mg) : mg "int" = none := T.free (T.fact 133 (f := .free "int"))
theorem Tx.z_abs (T : Tx K mg) : mg "abs" = none := T.free (T.fact 134 (f := .free "abs"))
theorem Tx.z_max (T : Tx K mg) : mg "max" = none := T.free (T.fact 135 (f := .free "max"))
theorem Tx.z_min (T : Tx K mg) : mg "min" = none := T.free (T.fact 136 (f := .free "min"))
theorem Tx.z_sorted (T : Tx K mg) : mg "sorted" = none := T.free (T.fact 137 (f := .free "sorted"))
theorem Tx.z_sum (T : Tx K mg) : mg "sum" = none := T.free (T.fact 138 (f := .free "sum"))
theorem Tx.i_MOST_NODES (T : Tx K mg) : ∃ t, mg "MOST_NODES" = some (.int 400 t) := T.int (T.fact 139 (f := .int "MOST_NODES" 400))
theorem Tx.i_MOST_NUMBER (T : Tx K mg) : ∃ t, mg "MOST_NUMBER" = some (.int 1000000000 t) := T.int (T.fact 140 (f := .int "MOST_NUMBER" 1000000000))
theorem Tx.i_MOST_TEXT (T : Tx K mg) : ∃ t, mg "MOST_TEXT" = some (.int 20000 t) := T.int (T.fact 141 (f := .int "MOST_TEXT" 20000))
theorem Tx.i_MOST_STORE (T : Tx K mg) : ∃ t, mg "MOST_STORE" = some (.int 2000 t) := T.int (T.fact 142 (f := .int "MOST_STORE" 2000))
theorem Tx.i_MOST_THREADS (T : Tx K mg) : ∃ t, mg "MOST_THREADS" = some (.int 60 t) := T.int (T.fact 143 (f := .int "MOST_THREADS" 60))
theorem Tx.i_MOST_STACK (T : Tx K mg) : ∃ t, mg "MOST_STACK" = some (.int 200 t) := T.int (T.fact 144 (f := .int "MOST_STACK" 200))
theorem Tx.i_MOST_STEPS (T : Tx K mg) : ∃ t, mg "MOST_STEPS" = some (.int 3000 t) := T.int (T.fact 145 (f := .int "MOST_STEPS" 3000))
theorem Tx.i_MOST_KNOTS (T : Tx K mg) : ∃ t, mg "MOST_KNOTS" = some (.int 200 t) := T.int (T.fact 146 (f := .int "MOST_KNOTS" 200))
theorem Tx.e_Waits_Waits (T : Tx K mg) : PySem.W.exmOne K (.ref (cWaits K)) (.ref (cWaits K)) = some true := He.exm_ok (T.fact 147 (f := .exm "Waits" "Waits" true))
theorem Tx.e_Raises_Waits (T : Tx K mg) : PySem.W.exmOne K (.ref (cRaises K)) (.ref (cWaits K)) = some false := He.exm_ok (T.fact 148 (f := .exm "Raises" "Waits" false))
theorem Tx.e_Raises_Raises (T : Tx K mg) : PySem.W.exmOne K (.ref (cRaises K)) (.ref (cRaises K)) = some true := He.exm_ok (T.fact 149 (f := .exm "Raises" "Raises" true))
/-- a def of the text as it stands behind the top -/
abbrev FnP (K : PySem.W.Frag) (a : Str × Option Str) (name qual : Str) (st : Stmt) (fd : FuncData) : Prop := FunD K name qual (defArgs st) (defBody st) (defScope st) [] [] (He.fAd K a) fd
theorem Tx.f_with_node (T : Tx K mg) : ∃ fd, FnP K ("with_node", none) "with_node" "with_node" s_with_node fd := T.def_ 0 (d := d_with_node)
theorem Tx.f_with_nodes (T : Tx K mg) : ∃ fd, FnP K ("with_nodes", none) "with_nodes" "with_nodes" s_with_nodes fd := T.def_ 1 (d := d_with_nodes)
theorem Tx.f_parts_of (T : Tx K mg) : ∃ fd, FnP K ("parts_of", none) "parts_of" "parts_of" s_parts_of fd := T.def_ 2 (d := d_parts_of)
theorem Tx.f_head_of (T : Tx K mg) : ∃ fd, FnP K ("head_of", none) "head_of" "head_of" s_head_of fd := T.def_ 3 (d := d_head_of)
theorem Tx.f_numbered (T : Tx K mg) : ∃ fd, FnP K ("numbered", none) "numbered" "numbered" s_numbered fd := T.def_ 4 (d := d_numbered)
theorem Tx.f_classes (T : Tx K mg) : ∃ fd, FnP K ("classes", none) "classes" "classes" s_classes fd := T.def_ 5 (d := d_classes)
theorem Tx.f_least (T : Tx K mg) : ∃ fd, FnP K ("least", none) "least" "least" s_least fd := T.def_ 6 (d := d_least)
theorem Tx.f_checked (T : Tx K mg) : ∃ fd, FnP K ("checked", none) "checked" "checked" s_checked fd := T.def_ 7 (d := d_checked)
theorem Tx.f_leaf_text (T : Tx K mg) : ∃ fd, FnP K ("leaf_text", none) "leaf_text" "leaf_text" s_leaf_text fd := T.def_ 8 (d := d_leaf_text)
theorem Tx.f_graph_text (T : Tx K mg) : ∃ fd, FnP K ("graph_text", none) "graph_text" "graph_text" s_graph_text fd := T.def_ 9 (d := d_graph_text)
theorem Tx.f_outcome_of (T : Tx K mg) : ∃ fd, FnP K ("outcome_of", none) "outcome_of" "outcome_of" s_outcome_of fd := T.def_ 10 (d := d_outcome_of)
theorem Tx.f_run (T : Tx K mg) : ∃ fd, FnP K ("run", none) "run" "run" s_run fd := T.def_ 11 (d := d_run)
theorem Tx.f_solutions (T : Tx K mg) : ∃ fd, FnP K ("solutions", none) "solutions" "solutions" s_solutions fd := T.def_ 12 (d := d_solutions)
theorem Tx.f_shape (T : Tx K mg) : ∃ fd, FnP K ("shape", none) "shape" "shape" s_shape fd := T.def_ 13 (d := d_shape)
theorem Tx.f_law_stream (T : Tx K mg) : ∃ fd, FnP K ("_law_stream", none) "_law_stream" "_law_stream" s_law_stream fd := T.def_ 14 (d := d_law_stream)
theorem Tx.f_law_draw (T : Tx K mg) : ∃ fd, FnP K ("_law_draw", none) "_law_draw" "_law_draw" s_law_draw fd := T.def_ 15 (d := d_law_draw)
theorem Tx.f_law_chain (T : Tx K mg) : ∃ fd, FnP K ("_law_chain", none) "_law_chain" "_law_chain" s_law_chain fd := T.def_ 16 (d := d_law_chain)
theorem Tx.f_law_paths (T : Tx K mg) : ∃ fd, FnP K ("_law_paths", none) "_law_paths" "_law_paths" s_law_paths fd := T.def_ 17 (d := d_law_paths)
theorem Tx.f_law_sum (T : Tx K mg) : ∃ fd, FnP K ("_law_sum", none) "_law_sum" "_law_sum" s_law_sum fd := T.def_ 18 (d := d_law_sum)
theorem Tx.f_law (T : Tx K mg) : ∃ fd, FnP K ("law", none) "law" "law" s_law fd := T.def_ 19 (d := d_law)
theorem Tx.f_Frame_init (T : Tx K mg) : ∃ fd, FnP K ("Frame", some "__init__") "__init__" "Frame.__init__" s_Frame_init fd := T.def_ 20 (d := d_Frame_init)
theorem Tx.f_Thread_init (T : Tx K mg) : ∃ fd, FnP K ("Thread", some "__init__") "__init__" "Thread.__init__" s_Threas_init fd := T.def_ 21 (d := d_Thread_init)
theorem Tx.f_Thread_copy (T : Tx K mg) : ∃ fd, FnP K ("Thread", some "copy") "copy" "Thread.copy" s_Threas_copy fd := T.def_ 22 (d := d_Thread_copy)
theorem Tx.f_Printer_init (T : Tx K mg) : ∃ fd, FnP K ("Printer", some "__init__") "__init__" "Printer.__init__" s_Printer_init fd := T.def_ 23 (d := d_Printer_init)
theorem Tx.f_Printer_put (T : Tx K mg) : ∃ fd, FnP K ("Printer", some "put") "put" "Printer.put" s_Printer_put fd := T.def_ 24 (d := d_Printer_put)
theorem Tx.f_Printer_write (T : Tx K mg) : ∃ fd, FnP K ("Printer", some "write") "write" "Printer.write" s_Printer_write fd := T.def_ 25 (d := d_Printer_write)
theorem Tx.f_Numbers_init (T : Tx K mg) : ∃ fd, FnP K ("Numbers", some "__init__") "__init__" "Numbers.__init__" s_Numbers_init fd := T.def_ 26 (d := d_Numbers_init)
theorem Tx.f_Numbers_renumbered (T : Tx K mg) : ∃ fd, FnP K ("Numbers", some "renumbered") "renumbered" "Numbers.renumbered" s_Numbers_renumbered fd := T.def_ 27 (d := d_Numbers_renumbered)
theorem Tx.f_Waits_init (T : Tx K mg) : ∃ fd, FnP K ("Waits", some "__init__") "__init__" "Waits.__init__" s_Waits_init fd := T.def_ 28 (d := d_Waits_init)
theorem Tx.f_Raises_init (T : Tx K mg) : ∃ fd, FnP K ("Raises", some "__init__") "__init__" "Raises.__init__" s_Raises_init fd := T.def_ 29 (d := d_Raises_init)
theorem Tx.f_Store_init (T : Tx K mg) : ∃ fd, FnP K ("Store", some "__init__") "__init__" "Store.__init__" s_Store_init fd := T.def_ 30 (d := d_Store_init)
theorem Tx.f_Store_make (T : Tx K mg) : ∃ fd, FnP K ("Store", some "make") "make" "Store.make" s_Store_make fd := T.def_ 31 (d := d_Store_make)
theorem Tx.f_Store_variable (T : Tx K mg) : ∃ fd, FnP K ("Store", some "variable") "variable" "Store.variable" s_Store_variable fd := T.def_ 32 (d := d_Store_variable)
theorem Tx.f_Store_integer (T : Tx K mg) : ∃ fd, FnP K ("Store", some "integer") "integer" "Store.integer" s_Store_integer fd := T.def_ 33 (d := d_Store_integer)
theorem Tx.f_Store_atom (T : Tx K mg) : ∃ fd, FnP K ("Store", some "atom") "atom" "Store.atom" s_Store_atom fd := T.def_ 34 (d := d_Store_atom)
theorem Tx.f_Store_name (T : Tx K mg) : ∃ fd, FnP K ("Store", some "name") "name" "Store.name" s_Store_name fd := T.def_ 35 (d := d_Store_name)
theorem Tx.f_Store_representative (T : Tx K mg) : ∃ fd, FnP K ("Store", some "representative") "representative" "Store.representative" s_Store_representative fd := T.def_ 36 (d := d_Store_representative)
theorem Tx.f_Store_is_bound (T : Tx K mg) : ∃ fd, FnP K ("Store", some "is_bound") "is_bound" "Store.is_bound" s_Store_is_bound fd := T.def_ 37 (d := d_Store_is_bound)
theorem Tx.f_Store_joined (T : Tx K mg) : ∃ fd, FnP K ("Store", some "joined") "joined" "Store.joined" s_Store_joined fd := T.def_ 38 (d := d_Store_joined)
theorem Tx.f_Store_merge (T : Tx K mg) : ∃ fd, FnP K ("Store", some "merge") "merge" "Store.merge" s_Store_merge fd := T.def_ 39 (d := d_Store_merge)
theorem Tx.f_Store_freed (T : Tx K mg) : ∃ fd, FnP K ("Store", some "freed") "freed" "Store.freed" s_Store_freed fd := T.def_ 40 (d := d_Store_freed)
theorem Tx.f_Store_unify (T : Tx K mg) : ∃ fd, FnP K ("Store", some "unify") "unify" "Store.unify" s_Store_unify fd := T.def_ 41 (d := d_Store_unify)
theorem Tx.f_Store_value (T : Tx K mg) : ∃ fd, FnP K ("Store", some "value") "value" "Store.value" s_Store_value fd := T.def_ 42 (d := d_Store_value)
theorem Tx.f_Store_graph (T : Tx K mg) : ∃ fd, FnP K ("Store", some "graph") "graph" "Store.graph" s_Store_graph fd := T.def_ 43 (d := d_Store_graph)
theorem Tx.f_Store_size (T : Tx K mg) : ∃ fd, FnP K ("Store", some "size") "size" "Store.size" s_Store_size fd := T.def_ 44 (d := d_Store_size)
theorem Tx.f_Store_copy (T : Tx K mg) : ∃ fd, FnP K ("Store", some "copy") "copy" "Store.copy" s_Store_copy fd := T.def_ 45 (d := d_Store_copy)
theorem Tx.f_Machine_init (T : Tx K mg) : ∃ fd, FnP K ("Machine", some "__init__") "__init__" "Machine.__init__" s_Machine_init fd := T.def_ 46 (d := d_Machine_init)
theorem Tx.f_Machine_threads (T : Tx K mg) : ∃ fd, FnP K ("Machine", some "threads") "threads" "Machine.threads" s_Machine_threads fd := T.def_ 47 (d := d_Machine_threads)
theorem Tx.f_Machine_status (T : Tx K mg) : ∃ fd, FnP K ("Machine", some "status") "status" "Machine.status" s_Machine_status fd := T.def_ 48 (d := d_Machine_status)
theorem Tx.f_Machine_ready (T : Tx K mg) : ∃ fd, FnP K ("Machine", some "ready") "ready" "Machine.ready" s_Machine_ready fd := T.def_ 49 (d := d_Machine_ready)
theorem Tx.f_Machine_waits_for (T : Tx K mg) : ∃ fd, FnP K ("Machine", some "waits_for") "waits_for" "Machine.waits_for" s_Machine_waits_for fd := T.def_ 50 (d := d_Machine_waits_for)
theorem Tx.f_Machine_graph (T : Tx K mg) : ∃ fd, FnP K ("Machine", some "graph") "graph" "Machine.graph" s_Machine_graph fd := T.def_ 51 (d := d_Machine_graph)
theorem Tx.f_Machine_step (T : Tx K mg) : ∃ fd, FnP K ("Machine", some "step") "step" "Machine.step" s_Machine_step fd := T.def_ 52 (d := d_Machine_step)
theorem Tx.f_Machine_choose (T : Tx K mg) : ∃ fd, FnP K ("Machine", some "choose") "choose" "Machine.choose" s_Machine_choose fd := T.def_ 53 (d := d_Machine_choose)
theorem Tx.f_Machine_throw (T : Tx K mg) : ∃ fd, FnP K ("Machine", some "throw") "throw" "Machine.throw" s_Machine_throw fd := T.def_ 54 (d := d_Machine_throw)
theorem Tx.f_Machine_fire (T : Tx K mg) : ∃ fd, FnP K ("Machine", some "fire") "fire" "Machine.fire" s_Machine_fire fd := T.def_ 55 (d := d_Machine_fire)
theorem Tx.f_Machine_room (T : Tx K mg) : ∃ fd, FnP K ("Machine", some "room") "room" "Machine.room" s_Machine_room fd := T.def_ 56 (d := d_Machine_room)
theorem Tx.f_Machine_push (T : Tx K mg) : ∃ fd, FnP K ("Machine", some "push") "push" "Machine.push" s_Machine_push fd := T.def_ 57 (d := d_Machine_push)
theorem Tx.f_Machine_unify (T : Tx K mg) : ∃ fd, FnP K ("Machine", some "unify") "unify" "Machine.unify" s_Machine_unify fd := T.def_ 58 (d := d_Machine_unify)
theorem Tx.f_Machine_wait (T : Tx K mg) : ∃ fd, FnP K ("Machine", some "wait") "wait" "Machine.wait" s_Machine_wait fd := T.def_ 59 (d := d_Machine_wait)
theorem Tx.f_Machine_put (T : Tx K mg) : ∃ fd, FnP K ("Machine", some "put") "put" "Machine.put" s_Machine_put fd := T.def_ 60 (d := d_Machine_put)
theorem Tx.f_Machine_do (T : Tx K mg) : ∃ fd, FnP K ("Machine", some "do") "do" "Machine.do" s_Machine_do fd := T.def_ 61 (d := d_Machine_do)
theorem Tx.f_Machine_do_value (T : Tx K mg) : ∃ fd, FnP K ("Machine", some "do_value") "do_value" "Machine.do_value" s_Machine_do_value fd := T.def_ 62 (d := d_Machine_do_value)
theorem Tx.f_Machine_do_test (T : Tx K mg) : ∃ fd, FnP K ("Machine", some "do_test") "do_test" "Machine.do_test" s_Machine_do_test fd := T.def_ 63 (d := d_Machine_do_test)
theorem Tx.f_Machine_do_thread (T : Tx K mg) : ∃ fd, FnP K ("Machine", some "do_thread") "do_thread" "Machine.do_thread" s_Machine_do_thread fd := T.def_ 64 (d := d_Machine_do_thread)
theorem Tx.f_Machine_start (T : Tx K mg) : ∃ fd, FnP K ("Machine", some "start") "start" "Machine.start" s_Machine_start fd := T.def_ 65 (d := d_Machine_start)
theorem Tx.f_Machine_do_operator (T : Tx K mg) : ∃ fd, FnP K ("Machine", some "do_operator") "do_operator" "Machine.do_operator" s_Machine_do_operator fd := T.def_ 66 (d := d_Machine_do_operator)
theorem Tx.f_Machine_worked_out (T : Tx K mg) : ∃ fd, FnP K ("Machine", some "worked_out") "worked_out" "Machine.worked_out" s_Machine_workes_out fd := T.def_ 67 (d := d_Machine_worked_out)
theorem Tx.f_Machine_outcome (T : Tx K mg) : ∃ fd, FnP K ("Machine", some "outcome") "outcome" "Machine.outcome" s_Machine_outcome fd := T.def_ 68 (d := d_Machine_outcome)
theorem Tx.f_Machine_copy (T : Tx K mg) : ∃ fd, FnP K ("Machine", some "copy") "copy" "Machine.copy" s_Machine_copy fd := T.def_ 69 (d := d_Machine_copy)
theorem Tx.f_Space_init (T : Tx K mg) : ∃ fd, FnP K ("Space", some "__init__") "__init__" "Space.__init__" s_Space_init fd := T.def_ 70 (d := d_Space_init)
theorem Tx.f_Space_statuses (T : Tx K mg) : ∃ fd, FnP K ("Space", some "statuses") "statuses" "Space.statuses" s_Space_statuses fd := T.def_ 71 (d := d_Space_statuses)
theorem Tx.f_Space_ask (T : Tx K mg) : ∃ fd, FnP K ("Space", some "ask") "ask" "Space.ask" s_Space_ask fd := T.def_ 72 (d := d_Space_ask)
theorem Tx.f_Space_commit (T : Tx K mg) : ∃ fd, FnP K ("Space", some "commit") "commit" "Space.commit" s_Space_commit fd := T.def_ 73 (d := d_Space_commit)
theorem Tx.f_Space_outcome (T : Tx K mg) : ∃ fd, FnP K ("Space", some "outcome") "outcome" "Space.outcome" s_Space_outcome fd := T.def_ 74 (d := d_Space_outcome)
theorem Tx.f_Space_copy (T : Tx K mg) : ∃ fd, FnP K ("Space", some "copy") "copy" "Space.copy" s_Space_copy fd := T.def_ 75 (d := d_Space_copy)
theorem Tx.f_Search_init (T : Tx K mg) : ∃ fd, FnP K ("Search", some "__init__") "__init__" "Search.__init__" s_Search_init fd := T.def_ 76 (d := d_Search_init)
theorem Tx.f_Search_step (T : Tx K mg) : ∃ fd, FnP K ("Search", some "step") "step" "Search.step" s_Search_step fd := T.def_ 77 (d := d_Search_step)

/-! ### promises by name, their calls -/
/-- a method | a def | a class that may be made, that lets nothing out -/
structure Met (P : Program) (w : World) (K : PySem.W.Frag) (mg : Str → Option Value) (base : Heap) (k : Nat) (C : Addr) (m : Str) (sp : Sp) : Prop where
  ex : ∃ (f : Addr) (fd : FuncData) (ps : List Str), Cls K C ∧ Meth K C m f ∧ FnOk P w K mg base CX0 k f fd ps sp ∧ Binds K fd ps []
structure Cal (P : Program) (w : World) (K : PySem.W.Frag) (mg : Str → Option Value) (base : Heap) (k : Nat) (x : Str) (sp : Sp) : Prop where
  ex : ∃ (f : Addr) (fd : FuncData) (ps : List Str), FnOk P w K mg base CX0 k f fd ps sp ∧ mg x = some (.ref f) ∧ PySem.W.keepIn K (.ref f) = true ∧ Binds K fd ps []
structure Mak (P : Program) (w : World) (K : PySem.W.Frag) (mg : Str → Option Value) (base : Heap) (k : Nat) (x : Str) (C : Addr) (sp : Sp) : Prop where
  ex : ∃ (f : Addr) (fd : FuncData) (ps : List Str), Mk K C f ∧ FnOk P w K mg base CX0 k f fd ps sp ∧ mg x = some (.ref C) ∧ Binds K fd ps []
def tMt (C : Addr) (m : Str) (sp : Sp) (ta : TE) (t : TA) : TE := fun σ H Q => ta σ H fun x H1 => ∃ a dx fs, x = .ref a ∧ H1 a = some (.ins C dx fs) ∧ fs.lookup m = none ∧ t σ H1 fun vs H2 => sp (x :: vs) H2 Q E0
def tCl (sp : Sp) (t : TA) : TE := fun σ H Q => t σ H fun vs H1 => sp vs H1 Q E0
def tMk (C : Addr) (sp : Sp) (t : TA) : TE := fun σ H Q => t σ H fun vs H1 => ∀ x dx, H1 x = none → H1 dx = none → dx ≠ x → sp (.ref x :: vs) (upd (upd H1 dx (.own x)) x (.ins C dx [])) (fun v H2 => v = .non ∧ Q (.ref x) H2) E0
theorem tMt_eq {C : Addr} {m : Str} {sp : Sp} {ta : TE} {t : TA} : tMeth C m sp [] E0 ta t = tMt C m sp ta t := by
  funext σ H Q
  unfold tMeth tMt
  simp only [List.append_nil]
theorem tCl_eq {sp : Sp} {t : TA} : tCall sp [] E0 t = tCl sp t := by
  funext σ H Q
  unfold tCall tCl
  simp only [List.append_nil]
theorem tMk_eq {C : Addr} {sp : Sp} {t : TA} : tMake C sp [] E0 t = tMk C sp t := by
  funext σ H Q
  unfold tMake tMk
  simp only [List.append_nil]
section
variable {X : Cx} {k j : Nat} {C : Addr} {x m : Str} {sp : Sp} {p pos apos : Pos} {e o : Expr} {es : List Expr} {ta : TE} {t : TA}
theorem pe_c (c : Cal X.prog X.w X.K X.mg X.base k x sp) (hr : Room j X.A) (ha : PA X (e :: es) t) (hk : k ≤ j := by decide) (hg : Gl X x := by rfl)
    (hdb : (x == ("__debug__" : Str)) = false := by decide) (he : starEach (e :: es) X.env = (false, eval e X.env) :: starEach es X.env := by rfl) (hpl : (backTo pos (starEach es X.env)).any (·.1) = false := by rfl) :
    PE X (.Call (.Name x p) (e :: es) [] pos) (tCl sp t) := by
  obtain ⟨f, fd, ps, F, hm, kp, b⟩ := c.ex
  exact tCl_eq ▸ pe_call F (hr.mono hk) hg hm kp b .nil pass0 ha hdb he hpl
theorem pe_mk (c : Mak X.prog X.w X.K X.mg X.base k x C sp) (hr : Room j X.A) (ha : PA X (e :: es) t) (hk : k + 1 ≤ j := by decide) (hg : Gl X x := by rfl)
    (hdb : (x == ("__debug__" : Str)) = false := by decide) (he : starEach (e :: es) X.env = (false, eval e X.env) :: starEach es X.env := by rfl) (hpl : (backTo pos (starEach es X.env)).any (·.1) = false := by rfl) :
    PE X (.Call (.Name x p) (e :: es) [] pos) (tMk C sp t) := by
  obtain ⟨f, fd, ps, M, F, hm, b⟩ := c.ex
  exact tMk_eq ▸ pe_make M F (hr.mono hk) hg hm b .nil pass0 ha hdb he hpl
theorem pe_mk0 (c : Mak X.prog X.w X.K X.mg X.base k x C sp) (hr : Room j X.A) (hk : k + 1 ≤ j := by decide) (hg : Gl X x := by rfl)
    (hdb : (x == ("__debug__" : Str)) = false := by decide) : PE X (.Call (.Name x p) [] [] pos) (tMk C sp tNil) := by
  obtain ⟨f, fd, ps, M, F, hm, b⟩ := c.ex
  exact tMk_eq ▸ pe_make0 M F (hr.mono hk) hg hm b .nil pass0 hdb
theorem pe_mt {pl : Sem Bool} (c : Met X.prog X.w X.K X.mg X.base k C m sp) (hr : Room j X.A) (he : PE X o ta) (ha : PA X (e :: es) t) (hk : k ≤ j := by decide)
    (hst : starEach (e :: es) X.env = (false, eval e X.env) :: starEach es X.env := by rfl) (hpl : (backTo pos (starEach es X.env)).any (·.1) = false := by rfl)
    (ht : eval (.Call (.Attribute o m apos) (e :: es) [] pos) X.env = (do
      let ov ← eval o X.env
      standAt apos.atName
      let (f, first) ← holding [ov] (getMethod ov m pl)
      callWith pos f first (backTo pos (starEach (e :: es) X.env)) (backToKw pos (keywordEach [] X.env))) := by rfl) :
    PE X (.Call (.Attribute o m apos) (e :: es) [] pos) (tMt C m sp ta t) := by
  obtain ⟨f, fd, ps, hc, hm, F, b⟩ := c.ex
  exact tMt_eq ▸ pe_meth (pl := pl) he hc hm F (hr.mono hk) b .nil pass0 ha hst hpl ht
theorem pe_mt0 {pl : Sem Bool} (c : Met X.prog X.w X.K X.mg X.base k C m sp) (hr : Room j X.A) (he : PE X o ta) (hk : k ≤ j := by decide)
    (ht : eval (.Call (.Attribute o m apos) [] [] pos) X.env = (do
      let ov ← eval o X.env
      standAt apos.atName
      let (f, first) ← holding [ov] (getMethod ov m pl)
      callWith pos f first (backTo pos (starEach [] X.env)) (backToKw pos (keywordEach [] X.env))) := by rfl) :
    PE X (.Call (.Attribute o m apos) [] [] pos) (tMt C m sp ta tNil) := by
  obtain ⟨f, fd, ps, hc, hm, F, b⟩ := c.ex
  exact tMt_eq ▸ pe_meth0 (pl := pl) he hc hm F (hr.mono hk) b .nil pass0 ht
end
/-! ### the makers of promises -/
/-- how the arguments bind: no defaults, every parameter is written -/
abbrev BindsAll (name qual : Str) (st : Stmt) (ps : List Str) : Prop := ∀ (kV doc pm : Value) (an : Option Addr) (cdv ct : Value) (us : List Value), us.length = ps.length → bindArgs (PySem.W.fnOf name qual (defArgs st) (defBody st) (defScope st) .none kV doc pm an cdv ct) ⟨us, []⟩ = pure (ps.zip us)
/-- the body of a def that lets nothing out keeps the promise -/
abbrev Body0 (P : Program) (w : World) (K : PySem.W.Frag) (mg : Str → Option Value) (base : Heap) (a : Str × Option Str) (qual : Str) (st : Stmt) (N : List Str) (k : Nat) (sp : Sp) : Prop :=
  ∀ (cdv : Value) (A : Around) (outer : List Env) (s : Shared) (H : Hp) (vs : List V) (Q : VK) (E : XK), Room k (A.deeper (envOfC qual (defScope st) s.heap.objs.size (He.fAd K a) cdv)) → sp vs H Q E →
      ∃ t, PSs (cxOf CX0 P w K mg base N qual (defScope st) (He.fAd K a) cdv A outer s H E).nox (defBody st) t ∧ t { nx := fun _ H' => Q .non H', rt := Q } (start N vs) H
theorem met_ {c m qual : Str} {st : Stmt} {N ps : List Str} {k : Nat} {sp : Sp} (hc : Cls K (He.ga K c)) (hm : Meth K (He.ga K c) m (He.ma K (He.ga K c) m)) (F : ∃ fd, FnP K (c, some m) m qual st fd) (S : FnScope N ps (defScope st))
    (b : BindsAll m qual st ps) (len : ∀ vs H Q E, sp vs H Q E → vs.length = ps.length) (body : Body0 P w K mg base (c, some m) qual st N k sp) : Met P w K mg base (k + 1) (He.ga K c) m sp := by
  obtain ⟨fd, F⟩ := F
  refine ⟨_, fd, ps, hc, hm, F.ok S len fun cdv A outer s H vs Q E hr h => ?_, F.bindsN b⟩
  obtain ⟨t, h1, h2⟩ := body cdv A outer s H vs Q E hr h
  exact ⟨t, h1.nox, h2⟩
theorem cal_ {x qual : Str} {st : Stmt} {N ps : List Str} {k : Nat} {sp : Sp} (hm : mg x = some (.ref (He.ga K x))) (F : ∃ fd, FnP K (x, none) x qual st fd) (S : FnScope N ps (defScope st))
    (b : BindsAll x qual st ps) (len : ∀ vs H Q E, sp vs H Q E → vs.length = ps.length) (body : Body0 P w K mg base (x, none) qual st N k sp) : Cal P w K mg base (k + 1) x sp := by
  obtain ⟨fd, F⟩ := F
  refine ⟨_, fd, ps, F.ok S len fun cdv A outer s H vs Q E hr h => ?_, hm, F.kp, F.bindsN b⟩
  obtain ⟨t, h1, h2⟩ := body cdv A outer s H vs Q E hr h
  exact ⟨t, h1.nox, h2⟩
theorem mak_ {c qual : Str} {st : Stmt} {N ps : List Str} {k : Nat} {sp : Sp} (M : Mk K (He.ga K c) (He.ma K (He.ga K c) "__init__")) (hm : mg c = some (.ref (He.ga K c))) (F : ∃ fd, FnP K (c, some "__init__") "__init__" qual st fd) (S : FnScope N ps (defScope st))
    (b : BindsAll "__init__" qual st ps) (len : ∀ vs H Q E, sp vs H Q E → vs.length = ps.length) (body : Body0 P w K mg base (c, some "__init__") qual st N k sp) : Mak P w K mg base (k + 1) c (He.ga K c) sp := by
  obtain ⟨fd, F⟩ := F
  refine ⟨_, fd, ps, M, F.ok S len fun cdv A outer s H vs Q E hr h => ?_, hm, F.bindsN b⟩
  obtain ⟨t, h1, h2⟩ := body cdv A outer s H vs Q E hr h
  exact ⟨t, h1.nox, h2⟩
end
end Lw
/-! The mirror: stores, statements, threads, machines as plain data. -/
namespace Lw
open PySem
inductive Nd where
  | var | int (n : Int) | oth
  deriving DecidableEq
inductive Sm where
  | skip | seq (a b : Sm) | loc (x : Str) (a : Sm) | bind (x y : Str) | int (x : Str) (n : Int) | case (x : Str) (n : Int) (a b : Sm)
  | add (x y z : Str) | thr (a : Sm) | rai (x : Str) | cho (a b : Sm)
abbrev Ev := List (Str × Nat)
/-- the store: its nodes, each one's parent -/
structure So where
  nd : List Nd
  pa : List Nat
structure Th where
  fr : List (Sm × Ev)
  wt : Option Nat
  ra : Option Nat
structure Mm where
  so : So
  gv : List Nat
  rows : List Th
  tk : Nat
def Ev.get (e : Ev) (x : Str) : Option Nat := e.lookup x
def Ev.put (e : Ev) (x : Str) (n : Nat) : Ev := if (e.any fun p => decide (p.1 = x)) = true then e.map (fun p => if p.1 = x then (p.1, n) else p) else e ++ [(x, n)]
def Ev.puts : Ev → List Str → List Nat → Ev
  | e, x :: xs, n :: ns => Ev.puts (e.put x n) xs ns
  | e, _, _ => e
namespace So
def isV (S : So) (i : Nat) : Bool := S.nd[i]? == some Nd.var
/-- up the parents, k steps at most -/
def up (S : So) : Nat → Nat → Nat
  | 0, i => i
  | k + 1, i => match S.pa[i]? with
    | some j => if j = i then i else S.up k j
    | none => i
/-- a bound of the way up: a variable's place, none from other nodes -/
def rk (S : So) (i : Nat) : Nat := if S.isV i then i + 1 else 0
def rep (S : So) (i : Nat) : Nat := S.up (S.rk i) i
structure Wf (S : So) : Prop where
  len : S.pa.length = S.nd.length
  par : ∀ i j, S.pa[i]? = some j → j ≠ i → S.isV i = true ∧ j < S.nd.length ∧ (S.isV j = false ∨ j < i)
section
variable {S : So}
theorem up_zero (i : Nat) : S.up 0 i = i := rfl
theorem up_root {i : Nat} (h : S.pa[i]? = some i) : ∀ k, S.up k i = i
  | 0 => rfl
  | k + 1 => by simp [up, h]
theorem up_step {i j k : Nat} (h : S.pa[i]? = some j) (n : j ≠ i) : S.up (k + 1) i = S.up k j := by simp [up, h, n]
theorem Wf.rk_lt (w : S.Wf) {i j : Nat} (h : S.pa[i]? = some j) (n : j ≠ i) : S.rk j < S.rk i := by
  obtain ⟨a, b, c⟩ := w.par i j h n
  unfold rk
  rw [if_pos a]
  rcases c with c | c
  · rw [if_neg (by rw [c]; decide)]; omega
  · split <;> omega
/-- where no variable stands, a node is its own parent -/
theorem Wf.fix (w : S.Wf) {i : Nat} (hi : i < S.nd.length) (hv : S.isV i = false) : S.pa[i]? = some i := by
  have hl : i < S.pa.length := by rw [w.len]; exact hi
  have e : S.pa[i]? = some S.pa[i] := List.getElem?_eq_getElem hl
  by_cases h : S.pa[i] = i
  · rw [e, h]
  · have := (w.par i _ e h).1
    rw [hv] at this
    cases this
theorem Wf.at (w : S.Wf) {i : Nat} (hi : i < S.nd.length) : ∃ j, S.pa[i]? = some j ∧ j < S.nd.length := by
  have hl : i < S.pa.length := by rw [w.len]; exact hi
  have e : S.pa[i]? = some S.pa[i] := List.getElem?_eq_getElem hl
  by_cases h : S.pa[i] = i
  · exact ⟨i, by rw [e, h], hi⟩
  · exact ⟨_, e, (w.par i _ e h).2.1⟩
theorem Wf.up_more (w : S.Wf) : ∀ (k i : Nat), i < S.nd.length → S.rk i ≤ k → S.up k i = S.up (S.rk i) i
  | 0, i, _, h => by
    have : S.rk i = 0 := by omega
    rw [this]
  | k + 1, i, hi, h => by
    obtain ⟨j, e, hj⟩ := w.at hi
    by_cases q : j = i
    · subst q
      rw [up_root e, up_root e]
    · have l := w.rk_lt e q
      rw [up_step e q, w.up_more k j hj (by omega)]
      obtain ⟨m, hm⟩ : ∃ m, S.rk i = m + 1 := ⟨S.rk i - 1, by omega⟩
      rw [hm, up_step e q, w.up_more m j hj (by omega)]
theorem Wf.rep_root (w : S.Wf) {i : Nat} (h : S.pa[i]? = some i) : S.rep i = i := up_root h _
theorem Wf.rep_step (w : S.Wf) {i j : Nat} (h : S.pa[i]? = some j) : S.rep i = S.rep j := by
  by_cases q : j = i
  · rw [q]
  · have l := w.rk_lt h q
    obtain ⟨m, hm⟩ : ∃ m, S.rk i = m + 1 := ⟨S.rk i - 1, by omega⟩
    unfold rep
    rw [hm, up_step h q, w.up_more m j (w.par i j h q).2.1 (by omega)]
theorem Wf.ind (w : S.Wf) {p : Nat → Prop} (h0 : ∀ i, S.pa[i]? = some i → p i) (h1 : ∀ i j, S.pa[i]? = some j → j ≠ i → p j → p i) : ∀ i, i < S.nd.length → p i := by
  have z : ∀ n i, S.rk i ≤ n → i < S.nd.length → p i := by
    intro n
    induction n with
    | zero =>
      intro i hn hi
      obtain ⟨j, e, hj⟩ := w.at hi
      by_cases q : j = i
      · exact h0 i (by rw [e, q])
      · have := w.rk_lt e q; omega
    | succ n ih =>
      intro i hn hi
      obtain ⟨j, e, hj⟩ := w.at hi
      by_cases q : j = i
      · exact h0 i (by rw [e, q])
      · have := w.rk_lt e q
        exact h1 i j e q (ih j (by omega) hj)
  exact fun i hi => z _ i (Nat.le_refl _) hi
theorem Wf.rep_fix (w : S.Wf) : ∀ i, i < S.nd.length → S.pa[S.rep i]? = some (S.rep i) :=
  w.ind (fun i e => by rw [w.rep_root e, e]) fun i j e q h => by rw [w.rep_step e]; exact h
theorem Wf.rep_lt (w : S.Wf) : ∀ i, i < S.nd.length → S.rep i < S.nd.length :=
  w.ind (fun i e => by rw [w.rep_root e]; have := (List.getElem?_eq_some_iff.mp e).1; rw [w.len] at this; exact this) fun i j e q h => by rw [w.rep_step e]; exact h
theorem Wf.rep_rep (w : S.Wf) {i : Nat} (hi : i < S.nd.length) : S.rep (S.rep i) = S.rep i := w.rep_root (w.rep_fix i hi)
end
/-! ### what the store's methods do -/
def add (S : So) (d : Nd) : So := ⟨S.nd ++ [d], S.pa ++ [S.pa.length]⟩
/-- of two representatives: the one that stays, the other -/
def join (S : So) (a b : Nat) : Nat × Nat := if S.isV a = S.isV b then (min a b, max a b) else if S.isV a = true then (b, a) else (a, b)
def uni (S : So) (a b : Nat) : So := if S.rep a = S.rep b then S else { S with pa := S.pa.set (S.join (S.rep a) (S.rep b)).2 (S.join (S.rep a) (S.rep b)).1 }
def chg (S : So) (a b : Nat) : List Nat := if S.rep a = S.rep b then [] else [(S.join (S.rep a) (S.rep b)).2]
/-- no two nodes that stand for something are made equal -/
def Free (S : So) (a b : Nat) : Prop := S.rep a = S.rep b ∨ S.isV (S.rep a) = true ∨ S.isV (S.rep b) = true
end So
/-! ### machines -/
inductive Ss where
  | broken | done | choosing | waiting | ready
  deriving DecidableEq
def Ss.str : Ss → Str
  | .broken => "broken"
  | .done => "done"
  | .choosing => "choosing"
  | .waiting => "waiting"
  | .ready => "ready"
def Sm.isCho : Sm → Bool
  | .cho _ _ => true
  | _ => false
namespace Mm
/-- the thread waits for what is not bound -/
def stuck (S : So) (T : Th) : Bool := match T.wt with
  | some n => S.isV (S.rep n)
  | none => false
def stat (S : So) (T : Th) : Ss := match T.ra with
  | some _ => .broken
  | none => match T.fr with
    | [] => .done
    | f :: _ => if f.1.isCho then .choosing else if stuck S T then .waiting else .ready
def readyL (M : Mm) : List Nat := (List.range M.rows.length).filter fun t => match M.rows[t]? with
  | some T => stat M.so T == .ready
  | none => false
def row (M : Mm) (t : Nat) (T : Th) : Mm := { M with rows := M.rows.set t T }
/-- what a statement ends with -/
inductive Res where
  | ok (M : Mm) | wait (n : Nat) | rai (n : Nat)
/-- a node that stands -/
def node (S : So) (e : Ev) (x : Str) : Option Nat := match e.get x with
  | some n => if n < S.nd.length then some n else none
  | none => none
/-- the int that a bound node stands for -/
def val (S : So) (n : Nat) : Option Int := match S.nd[S.rep n]? with
  | some (.int v) => some v
  | _ => none
def room (S : So) : Bool := decide (S.nd.length + 1 ≤ 2000)
def freeB (S : So) (a b : Nat) : Bool := decide (S.rep a = S.rep b) || (S.isV (S.rep a) || S.isV (S.rep b))
/-- more frames on thread t, the last one on top -/
def push (M : Mm) (t : Nat) (T : Th) (fs : List (Sm × Ev)) : Option Res := if T.fr.length + fs.length ≤ 200 then some (.ok (M.row t { T with fr := fs ++ T.fr })) else none
/-- a new node is made and unified with the node a -/
def give (M : Mm) (a : Nat) (d : Nd) : Option Res := if room M.so && freeB (M.so.add d) a M.so.nd.length then some (.ok { M with so := (M.so.add d).uni a M.so.nd.length }) else none
def addM (M : Mm) (r a b : Nat) : Option Res := if M.so.isV (M.so.rep a) then some (.wait a) else match val M.so a with
  | some v => if M.so.isV (M.so.rep b) then some (.wait b) else match val M.so b with
    | some u => if v.natAbs ≤ 1000000 ∧ u.natAbs ≤ 1000000 then give M r (.int (v + u)) else none
    | none => none
  | none => none
def doM (M : Mm) (t : Nat) (T : Th) (s : Sm) (e : Ev) : Option Res := match s with
  | .seq a b => push M t T [(a, e), (b, e)]
  | .loc x a => if room M.so && decide (e.length ≤ 100) then push { M with so := M.so.add .var } t T [(a, e.put x M.so.nd.length)] else none
  | .bind x y => match node M.so e x, node M.so e y with
    | some a, some b => if freeB M.so a b then some (.ok { M with so := M.so.uni a b }) else none
    | _, _ => none
  | .int x n => match node M.so e x with
    | some a => give M a (.int n)
    | none => none
  | .case x n a b => match node M.so e x with
    | some c => if M.so.isV (M.so.rep c) then some (.wait c) else match val M.so c with
      | some v => push M t T [(if v = n then a else b, e)]
      | none => none
    | none => none
  | .add x y z => match node M.so e x, node M.so e y, node M.so e z with
    | some r, some a, some b => addM M r a b
    | _, _, _ => none
  | .thr a => if M.rows.length < 60 then some (.ok { M with rows := M.rows ++ [⟨[(a, e)], none, none⟩] }) else none
  | .rai x => match node M.so e x with
    | some a => some (.rai a)
    | none => none
  | _ => none
def stepM (M : Mm) (t : Nat) : Option Mm := match M.rows[t]? with
  | some T => if stat M.so T = .ready then (match T.fr with
    | f :: fr => (match doM { M with tk := M.tk + 1, rows := M.rows.set t ⟨fr, none, none⟩ } t ⟨fr, none, none⟩ f.1 f.2 with
      | some (.ok M') => some M'
      | some (.wait n) => some { M with tk := M.tk + 1, rows := M.rows.set t ⟨f :: fr, some n, none⟩ }
      | some (.rai n) => some { M with tk := M.tk + 1, rows := M.rows.set t ⟨[], none, some n⟩ }
      | none => none)
    | [] => none) else none
  | none => none
/-- a part in the place of a choose -/
def choM (M : Mm) (t : Nat) (b : Bool) : Option Mm := match M.rows[t]? with
  | some T => match T.ra, T.fr with
    | none, (.cho p q, e) :: fr => some (M.row t { T with fr := (if b then q else p, e) :: fr })
    | _, _ => none
  | none => none
/-- so many steps of the least ready thread, then none is ready -/
inductive Runs : Nat → Mm → Mm → Prop
  | done {M : Mm} : M.readyL = [] → Runs 0 M M
  | step {k t : Nat} {r : List Nat} {M M1 M2 : Mm} : M.readyL = t :: r → M.stepM t = some M1 → Runs k M1 M2 → Runs (k + 1) M M2
/-- the store is well formed, who waits waits for a node that stands -/
structure Ok (M : Mm) : Prop where
  wf : M.so.Wf
  wt : ∀ T ∈ M.rows, ∀ n, T.wt = some n → n < M.so.nd.length
  sz : M.so.nd.length ≤ 2000
  th : M.rows.length ≤ 60
  fr : ∀ T ∈ M.rows, T.fr.length ≤ 200
end Mm
end Lw
/-! ### what stands in the heap for the mirror's data -/
namespace Lw
open PySem PySem.Spec PyProof.Rows L2
abbrev nV (n : Nat) : V := .int (n : Int)
def oV : Option Nat → V
  | none => .non
  | some n => nV n
/-- all that was known is as it was -/
def Ex (H H' : Hp) : Prop := ∀ a o, H a = some o → H' a = some o
theorem Ex.refl (H : Hp) : Ex H H := fun _ _ h => h
theorem Ex.trans {H H1 H2 : Hp} (a : Ex H H1) (b : Ex H1 H2) : Ex H H2 := fun x o h => b x o (a x o h)
theorem Ex.new {H : Hp} {p : Addr} {o : HO} (h : H p = none) : Ex H (upd H p o) := fun a u e => by
  have n : a ≠ p := fun z => by rw [z, h] at e; cases e
  rw [upd_ne n]; exact e
theorem Ex.free {H H' : Hp} {p : Addr} (e : Ex H H') (h : H' p = none) : H p = none := by
  cases q : H p with
  | none => rfl
  | some o => rw [e _ _ q] at h; cases h
/-- what never changes once it is made -/
def imm : HO → Prop
  | .tup _ => True
  | .dK _ => True
  | .ins _ _ fs => (fs.map (·.1)).head? = some "statement"
  | _ => False
def Imm (H H' : Hp) : Prop := ∀ a o, H a = some o → imm o → H' a = some o
theorem Ex.imm {H H' : Hp} (e : Ex H H') : Imm H H' := fun a o h _ => e a o h
theorem Imm.trans {H H1 H2 : Hp} (a : Imm H H1) (b : Imm H1 H2) : Imm H H2 := fun x o h i => b x o (a x o h i) i
theorem Imm.set {H : Hp} {p : Addr} {o u : HO} (h : H p = some o) (n : ¬ imm o) : Imm H (upd H p u) := fun a v e i => by
  have q : a ≠ p := fun z => by subst z; rw [h] at e; cases e; exact n i
  rw [upd_ne q]; exact e
/-- all but F is as it was -/
def But (F : List Addr) (H H' : Hp) : Prop := ∀ a o, H a = some o → a ∉ F → H' a = some o
theorem But.refl {F : List Addr} (H : Hp) : But F H H := fun _ _ h _ => h
theorem Ex.but {F : List Addr} {H H' : Hp} (e : Ex H H') : But F H H' := fun a o h _ => e a o h
theorem But.ex {H H' : Hp} (e : But [] H H') : Ex H H' := fun a o h => e a o h (by simp)
theorem But.trans {F : List Addr} {H H1 H2 : Hp} (a : But F H H1) (b : But F H1 H2) : But F H H2 := fun x o h n => b x o (a x o h n) n
theorem But.mono {F G : List Addr} {H H1 : Hp} (a : But F H H1) (s : ∀ x ∈ F, x ∈ G) : But G H H1 := fun x o h n => a x o h fun m => n (s x m)
theorem But.set {F : List Addr} {H : Hp} {p : Addr} {u : HO} (m : p ∈ F) : But F H (upd H p u) := fun a o h n => by
  rw [upd_ne (fun z => n (by rw [z]; exact m))]; exact h
/-- what changes does not matter where it was not known -/
theorem But.drop {F : List Addr} {H H1 H2 : Hp} {p : Addr} (a : But F H H1) (b : But (p :: F) H1 H2) (n : H p = none) : But F H H2 := fun x o h m =>
  b x o (a x o h m) fun q => by
    rcases List.mem_cons.mp q with q | q
    · rw [q, n] at h; cases h
    · exact m q
/-- where nothing of F was known, all is as it was -/
theorem But.exN {F : List Addr} {H H' : Hp} (b : But F H H') (n : ∀ x ∈ F, H x = none) : Ex H H' := fun a o h => b a o h fun m => by
  rw [n a m] at h
  cases h
theorem none1 {H : Hp} {p : Addr} (h : H p = none) : ∀ x ∈ [p], H x = none := fun x m => by rw [List.mem_singleton.mp m]; exact h
theorem none2 {H : Hp} {p q : Addr} (h : H p = none) (g : H q = none) : ∀ x ∈ [p, q], H x = none := fun x m => by
  rcases List.mem_cons.mp m with m | m
  · rw [m]; exact h
  · rw [List.mem_singleton.mp m]; exact g
theorem pr_at {α β : Type} {R : α → β → Prop} : ∀ {xs : List α} {ys : List β} {i : Nat} {y : β}, Paired R xs ys → ys[i]? = some y → ∃ x, xs[i]? = some x ∧ R x y
  | _, _, _, _, .nil, e => by simp at e
  | _, _, 0, _, .cons r _, e => by simp at e; subst e; exact ⟨_, rfl, r⟩
  | _, _, i + 1, y, .cons _ t, e => by
    obtain ⟨u, h1, h2⟩ := pr_at (i := i) (y := y) t (by simpa using e)
    exact ⟨u, by simpa using h1, h2⟩
theorem pr_imp {α β : Type} {R R' : α → β → Prop} (h : ∀ a b, R a b → R' a b) : ∀ {xs : List α} {ys : List β}, Paired R xs ys → Paired R' xs ys
  | _, _, .nil => .nil
  | _, _, .cons r t => .cons (h _ _ r) (pr_imp h t)
theorem pr_app {α β : Type} {R : α → β → Prop} : ∀ {xs xs' : List α} {ys ys' : List β}, Paired R xs ys → Paired R xs' ys' → Paired R (xs ++ xs') (ys ++ ys')
  | _, _, _, _, .nil, s => s
  | _, _, _, _, .cons r t, s => .cons r (pr_app t s)
theorem pr_put {α β : Type} {R : α → β → Prop} {x : α} {y : β} (r : R x y) : ∀ {xs : List α} {ys : List β} (i : Nat), Paired R xs ys → Paired R (xs.set i x) (ys.set i y)
  | _, _, _, .nil => .nil
  | _, _, 0, .cons _ t => .cons r t
  | _, _, i + 1, .cons q t => .cons q (pr_put r i t)
theorem pr_len {α β : Type} {R : α → β → Prop} : ∀ {xs : List α} {ys : List β}, Paired R xs ys → xs.length = ys.length
  | _, _, .nil => rfl
  | _, _, .cons _ t => by simp [pr_len t]
/-- a whole number of the module's -/
theorem pe_gi {X : Cx} {x : Str} {i : Int} {t : Tok} {pos : Pos} (hm : X.mg x = some (.int i t)) (hg : Gl X x := by rfl) (hd : (x == ("__debug__" : Str)) = false := by decide) : PE X (.Name x pos) (tC (.int i)) := pe_glob (v := .int i) hg hm ⟨_, rfl⟩ hd
/-- what is never asked -/
def tNev : TE := fun _ _ _ => False
def tNevT : TT := fun _ _ _ => False
theorem pe_nev {X : Cx} {e : Expr} : PE X e tNev := ⟨fun _ _ _ _ _ _ h => h.elim⟩
theorem pt_nev {X : Cx} {e : Expr} : PT X e tNevT := ⟨fun _ _ _ _ _ _ h => h.elim⟩
/-! ### a test's answer -/
theorem ifF {c A B : Prop} [Decidable c] (h : ¬ c) (b : B) : if decide c = true then A else B := by rw [decide_eq_false h]; exact iteF b
theorem ifT {c A B : Prop} [Decidable c] (h : c) (a : A) : if decide c = true then A else B := by rw [decide_eq_true h]; exact iteT a
theorem ifnF {c A B : Prop} [Decidable c] (h : c) (b : B) : if (!decide c) = true then A else B := by rw [decide_eq_true h]; exact iteF b
theorem ifnT {c A B : Prop} [Decidable c] (h : ¬ c) (a : A) : if (!decide c) = true then A else B := by rw [decide_eq_false h]; exact iteT a
theorem sz {n : Nat} (h : n ≤ 100000) : n ≤ sizeLine := Nat.le_trans h (by decide)
theorem szl {n : Nat} (h : n < 100000) : n < sizeLine := Nat.lt_of_lt_of_le h (by decide)
def NdAt (H : Hp) : V → Nd → Prop
  | v, .var => ∃ p, v = .ref p ∧ H p = some (.tup [.str "var"])
  | v, .int n => ∃ p, v = .ref p ∧ H p = some (.tup [.str "int", .int n])
  | v, .oth => ∃ p z r, v = .ref p ∧ H p = some (.tup (.str z :: r)) ∧ z ≠ "var" ∧ z ≠ "tuple"
theorem NdAt.imm {H H' : Hp} (e : Imm H H') : ∀ {v : V} {d : Nd}, NdAt H v d → NdAt H' v d
  | _, .var, ⟨p, a, b⟩ => ⟨p, a, e _ _ b trivial⟩
  | _, .int _, ⟨p, a, b⟩ => ⟨p, a, e _ _ b trivial⟩
  | _, .oth, ⟨p, z, r, a, b, c⟩ => ⟨p, z, r, a, e _ _ b trivial, c⟩
def SmAt (H : Hp) : V → Sm → Prop
  | v, .skip => ∃ p, v = .ref p ∧ H p = some (.tup [.str "skip"])
  | v, .seq a b => ∃ p x y, v = .ref p ∧ H p = some (.tup [.str "seq", x, y]) ∧ SmAt H x a ∧ SmAt H y b
  | v, .loc z a => ∃ p x, v = .ref p ∧ H p = some (.tup [.str "local", .str z, x]) ∧ SmAt H x a
  | v, .bind x y => ∃ p, v = .ref p ∧ H p = some (.tup [.str "bind", .str x, .str y])
  | v, .int x n => ∃ p, v = .ref p ∧ H p = some (.tup [.str "int", .str x, .int n])
  | v, .case z n a b => ∃ p q x y, v = .ref p ∧ H p = some (.tup [.str "case", .str z, .ref q, x, y]) ∧ H q = some (.tup [.str "int", .int n]) ∧ SmAt H x a ∧ SmAt H y b
  | v, .add x y z => ∃ p, v = .ref p ∧ H p = some (.tup [.str "op", .str "+", .str x, .str y, .str z])
  | v, .thr a => ∃ p x, v = .ref p ∧ H p = some (.tup [.str "thread", x]) ∧ SmAt H x a
  | v, .rai x => ∃ p, v = .ref p ∧ H p = some (.tup [.str "raise", .str x])
  | v, .cho a b => ∃ p x y, v = .ref p ∧ H p = some (.tup [.str "choose", x, y]) ∧ SmAt H x a ∧ SmAt H y b
theorem SmAt.imm {H H' : Hp} (e : Imm H H') : ∀ {s : Sm} {v : V}, SmAt H v s → SmAt H' v s
  | .skip, _, ⟨p, a, b⟩ => ⟨p, a, e _ _ b trivial⟩
  | .seq _ _, _, ⟨p, x, y, a, b, c, d⟩ => ⟨p, x, y, a, e _ _ b trivial, c.imm e, d.imm e⟩
  | .loc _ _, _, ⟨p, x, a, b, c⟩ => ⟨p, x, a, e _ _ b trivial, c.imm e⟩
  | .bind _ _, _, ⟨p, a, b⟩ => ⟨p, a, e _ _ b trivial⟩
  | .int _ _, _, ⟨p, a, b⟩ => ⟨p, a, e _ _ b trivial⟩
  | .case _ _ _ _, _, ⟨p, q, x, y, a, b, b', c, d⟩ => ⟨p, q, x, y, a, e _ _ b trivial, e _ _ b' trivial, c.imm e, d.imm e⟩
  | .add _ _ _, _, ⟨p, a, b⟩ => ⟨p, a, e _ _ b trivial⟩
  | .thr _, _, ⟨p, x, a, b, c⟩ => ⟨p, x, a, e _ _ b trivial, c.imm e⟩
  | .rai _, _, ⟨p, a, b⟩ => ⟨p, a, e _ _ b trivial⟩
  | .cho _ _, _, ⟨p, x, y, a, b, c, d⟩ => ⟨p, x, y, a, e _ _ b trivial, c.imm e, d.imm e⟩
/-- the nodes of identifiers -/
def kv (e : Ev) : List (Key × V) := e.map fun p => (Sum.inr p.1, nV p.2)
def EvAt (H : Hp) (a : Addr) (e : Ev) : Prop := H a = some (.dK (kv e))
/-! ### the store -/
abbrev fS (ln lp : Addr) : List (Str × V) := [("nodes", .ref ln), ("parents", .ref lp)]
structure SoAt (K : PySem.W.Frag) (H : Hp) (s ln lp : Addr) (S : So) : Prop where
  ob : ∃ dx, H s = some (.ins (cStore K) dx (fS ln lp))
  ns : ∃ vs, H ln = some (.lst vs) ∧ Paired (NdAt H) vs S.nd
  ps : H lp = some (.lst (S.pa.map nV))
  ne : ln ≠ lp
theorem NdAt.head {H : Hp} : ∀ {v : V} {d : Nd}, NdAt H v d → ∃ p z r, v = .ref p ∧ H p = some (.tup (.str z :: r)) ∧ (z = "var" ↔ d = .var) ∧ z ≠ "tuple"
  | _, .var, ⟨p, a, b⟩ => ⟨p, _, _, a, b, ⟨fun _ => rfl, fun _ => rfl⟩, by decide +kernel⟩
  | _, .int _, ⟨p, a, b⟩ => ⟨p, _, _, a, b, ⟨fun h => absurd h (by decide +kernel), fun h => nomatch h⟩, by decide +kernel⟩
  | _, .oth, ⟨p, z, r, a, b, c, d⟩ => ⟨p, z, r, a, b, ⟨fun h => absurd h c, fun h => nomatch h⟩, d⟩
theorem SoAt.node {K : PySem.W.Frag} {H : Hp} {s ln lp : Addr} {S : So} (h : SoAt K H s ln lp S) {i : Nat} (hi : i < S.nd.length) :
    ∃ vs p z r, H ln = some (.lst vs) ∧ vs[i]? = some (.ref p) ∧ H p = some (.tup (.str z :: r)) ∧ (z = "var" ↔ S.isV i = true) ∧ z ≠ "tuple" := by
  obtain ⟨vs, h1, h2⟩ := h.ns
  have e : S.nd[i]? = some S.nd[i] := List.getElem?_eq_getElem hi
  obtain ⟨v, e1, e2⟩ := pr_at h2 e
  obtain ⟨p, z, r, rfl, a, b, c⟩ := e2.head
  refine ⟨vs, p, z, r, h1, e1, a, b.trans ?_, c⟩
  unfold So.isV
  rw [e]
  constructor
  · intro h; rw [h]; decide
  · intro h; simpa using h
/-- the store's own list, tuple, instance stand apart from what changes elsewhere -/
theorem SoAt.ex {K : PySem.W.Frag} {H H' : Hp} {s ln lp : Addr} {S : So} (h : SoAt K H s ln lp S) (e : Ex H H') : SoAt K H' s ln lp S := by
  obtain ⟨dx, h1⟩ := h.ob
  obtain ⟨vs, h2, h3⟩ := h.ns
  exact ⟨⟨dx, e _ _ h1⟩, ⟨vs, e _ _ h2, pr_imp (fun _ _ q => q.imm e.imm) h3⟩, e _ _ h.ps, h.ne⟩
end Lw
namespace Lw
open PySem PySem.Spec PyProof.Rows L2
section
variable {P : Program} {w : World} {K : PySem.W.Frag} {mg : Str → Option Value} {base : Heap}
theorem pa_at {S : So} {i j : Nat} (h : S.pa[i]? = some j) : atI (S.pa.map nV) (i : Int) = some (nV j) := atI_nat (by rw [List.getElem?_map, h]; rfl)
def spRep (K : PySem.W.Frag) : Sp := fun vs H Q _ => ∃ (s ln lp : Addr) (S : So) (n : Nat), vs = [.ref s, nV n] ∧ SoAt K H s ln lp S ∧ S.Wf ∧ n < S.nd.length ∧ Q (nV (S.rep n)) H
theorem m_rep (T : Tx K mg) : Met P w K mg base 1 (cStore K) "representative" (spRep K) := by
  have sc : FnScope ["self", "node"] ["self", "node"] (defScope s_Store_representative) := ⟨rfl, rfl, rfl, by decide +kernel, rfl, by decide +kernel, by decide +kernel⟩
  refine met_ T.c_Store T.m_Store_representative T.f_Store_representative sc (fun _ _ _ _ _ _ us hl => match us, hl with | [_, _], _ => rfl) (fun vs H Q E h => ?_) (fun cdv A outer s H vs Q E hr h => ?_)
  · obtain ⟨_, _, _, _, _, rfl, _⟩ := h
    rfl
  · obtain ⟨s, ln, lp, S, n, rfl, hS, wf, hn, k⟩ := h
    obtain ⟨dx, ho⟩ := hS.ob
    refine ⟨_, pss_cons (ps_while PassesOwn.never (pt_cmpR op_ne (pe_ix ix_list (pe_fld (pv 0) rfl) (pv 1) (fun _ _ => rfl)) (pv 1) (nomark _))
        (pss_one (ps_set (i := 1) sc.nd rfl (Or.inl rfl) (pe_ix ix_list (pe_fld (pv 0) rfl) (pv 1) (fun _ _ => rfl)))))
      (pss_one (ps_ret (pv 1))), ?_⟩
    let W : Nat → L2.St → Hp → Prop := fun c σ H' => H' = H ∧ ∃ m, σ = [some (.ref s), some (nV m)] ∧ m < S.nd.length ∧ S.rep m = S.rep n ∧ c = S.rk m
    refine ⟨W, ⟨_, rfl, n, rfl, hn, rfl, rfl⟩, ?_⟩
    rintro c σ H' ⟨rfl, m, rfl, hm, er, rfl⟩
    obtain ⟨j, ej, hj⟩ := wf.at hm
    refine ⟨_, rfl, _, _, _, _, _, rfl, ho, T.c_Store, T.n_Store_parents, rfl, _, rfl, _, _, _, _, rfl, rfl, SqL.of hS.ps, pa_at ej, _, rfl, rfl, _, rfl, ?_⟩
    by_cases q : j = m
    · subst q
      rw [decide_eq_true rfl]
      refine iteF ⟨_, rfl, ?_⟩
      rw [← wf.rep_root ej, er]
      exact k
    · have q2 : ¬ nV j = nV m := fun z => q (by injection z with z; omega)
      rw [decide_eq_false q2]
      refine iteT ⟨fun σ' H' => ∃ c', c' < S.rk m ∧ W c' σ' H', fun _ _ h => h, _, rfl, _, _, _, _, _, rfl, ho, T.c_Store, T.n_Store_parents, rfl, _, rfl, _, _, _, _, rfl, rfl, SqL.of hS.ps, pa_at ej, ?_⟩
      exact ⟨_, wf.rk_lt ej q, rfl, j, rfl, hj, by rw [← wf.rep_step ej, er], rfl⟩
end
end Lw
namespace Lw
open PySem PySem.Spec PyProof.Rows L2
section
variable {P : Program} {w : World} {K : PySem.W.Frag} {mg : Str → Option Value} {base : Heap}
/-! ### size, is_bound -/
def spSize (K : PySem.W.Frag) : Sp := fun vs H Q _ => ∃ (s ln lp : Addr) (S : So), vs = [.ref s] ∧ SoAt K H s ln lp S ∧ Q (nV S.nd.length) H
theorem m_size (T : Tx K mg) : Met P w K mg base 1 (cStore K) "size" (spSize K) := by
  have sc : FnScope ["self"] ["self"] (defScope s_Store_size) := ⟨rfl, rfl, rfl, by decide +kernel, rfl, by decide +kernel, by decide +kernel⟩
  refine met_ T.c_Store T.m_Store_size T.f_Store_size sc (fun _ _ _ _ _ _ us hl => match us, hl with | [_], _ => rfl) (fun vs H Q E h => ?_) (fun cdv A outer s H vs Q E hr h => ?_)
  · obtain ⟨_, _, _, _, rfl, _⟩ := h
    rfl
  · obtain ⟨s, ln, lp, S, rfl, hS, k⟩ := h
    obtain ⟨dx, ho⟩ := hS.ob
    obtain ⟨xs, h1, h2⟩ := hS.ns
    refine ⟨_, pss_one (ps_ret (pe_callB call_len_seq (by rfl) T.z_len PySem.boot_len (pa_cons (pe_fld (pv 0) rfl) pa_nil))), ?_⟩
    refine ⟨_, rfl, _, _, _, _, _, rfl, ho, T.c_Store, T.n_Store_nodes, rfl, _, _, rfl, .inl (SqL.of h1), ?_⟩
    rw [pr_len h2]
    exact k
def spIsB (K : PySem.W.Frag) : Sp := fun vs H Q _ => ∃ (s ln lp : Addr) (S : So) (n : Nat), vs = [.ref s, nV n] ∧ SoAt K H s ln lp S ∧ S.Wf ∧ n < S.nd.length ∧ Q (.bl (!S.isV (S.rep n))) H
theorem m_isb (T : Tx K mg) : Met P w K mg base 2 (cStore K) "is_bound" (spIsB K) := by
  have sc : FnScope ["self", "node"] ["self", "node"] (defScope s_Store_is_bound) := ⟨rfl, rfl, rfl, by decide +kernel, rfl, by decide +kernel, by decide +kernel⟩
  refine met_ T.c_Store T.m_Store_is_bound T.f_Store_is_bound sc (fun _ _ _ _ _ _ us hl => match us, hl with | [_, _], _ => rfl) (fun vs H Q E h => ?_) (fun cdv A outer s H vs Q E hr h => ?_)
  · obtain ⟨_, _, _, _, _, rfl, _⟩ := h
    rfl
  · obtain ⟨s, ln, lp, S, n, rfl, hS, wf, hn, k⟩ := h
    obtain ⟨dx, ho⟩ := hS.ob
    obtain ⟨xs, p, z, r, h1, h2, h3, h4, h5⟩ := hS.node (wf.rep_lt n hn)
    refine ⟨_, pss_one (ps_ret (pe_cmpR op_ne (pe_ix ix_tup (pe_ix ix_list (pe_fld (pv 0) rfl) (pe_mt (m_rep T) hr (pv 0) (pa_cons (pv 1) pa_nil)) (fun _ _ => rfl)) pe_int (fun _ _ => rfl)) pe_str (nomark _))), ?_⟩
    refine ⟨_, rfl, _, _, _, _, _, rfl, ho, T.c_Store, T.n_Store_nodes, rfl, _, rfl, _, _, _, rfl, ho, rfl, _, rfl, s, ln, lp, S, n, rfl, hS, wf, hn, _, _, _, _, rfl, rfl, SqL.of h1, atI_nat h2,
      _, _, _, _, rfl, rfl, SqT.of h3, atI_nat (j := 0) rfl, rfl, ?_⟩
    have e : (!decide (V.str z = V.str "var")) = !S.isV (S.rep n) := by
      by_cases q : z = "var"
      · rw [h4.mp q, q]; simp
      · have q2 : S.isV (S.rep n) = false := by
          cases q3 : S.isV (S.rep n)
          · rfl
          · exact absurd (h4.mpr q3) q
        have q4 : ¬ V.str z = V.str "var" := fun y => q (V.str.inj y)
        rw [q2, decide_eq_false q4]
    rw [e]
    exact k
/-! ### make and its kin -/
def spMake (K : PySem.W.Frag) : Sp := fun vs H Q _ => ∃ (s ln lp : Addr) (S : So) (v : V) (d : Nd), vs = [.ref s, v] ∧ SoAt K H s ln lp S ∧ NdAt H v d ∧ S.nd.length < 2000 ∧ S.pa.length = S.nd.length ∧
  ∀ H', SoAt K H' s ln lp (S.add d) → But [ln, lp] H H' → Q (nV S.nd.length) H'
theorem m_make (T : Tx K mg) : Met P w K mg base 1 (cStore K) "make" (spMake K) := by
  have sc : FnScope ["self", "node"] ["self", "node"] (defScope s_Store_make) := ⟨rfl, rfl, rfl, by decide +kernel, rfl, by decide +kernel, by decide +kernel⟩
  refine met_ T.c_Store T.m_Store_make T.f_Store_make sc (fun _ _ _ _ _ _ us hl => match us, hl with | [_, _], _ => rfl) (fun vs H Q E h => ?_) (fun cdv A outer s H vs Q E hr h => ?_)
  · obtain ⟨_, _, _, _, _, _, rfl, _⟩ := h
    rfl
  · obtain ⟨s, ln, lp, S, v, d, rfl, hS, hd, hl, hp, k⟩ := h
    obtain ⟨dx, ho⟩ := hS.ob
    obtain ⟨xs, h1, h2⟩ := hS.ns
    obtain ⟨t, mS⟩ := T.i_MOST_STORE
    have l1 := pr_len h2
    have sn : s ≠ ln := ne_of ho h1 (fun z => nomatch z)
    have sp : s ≠ lp := ne_of ho hS.ps (fun z => nomatch z)
    refine ⟨_, pss_cons (ps_if (pt_cmpR op_ge (pe_callB call_len_seq (by rfl) T.z_len PySem.boot_len (pa_cons (pe_fld (pv 0) rfl) pa_nil)) (pe_gi mS) (nomark _)) (pss_one ps_never) pss_nil)
      (pss_cons (ps_expr (pe_bm PySem.F.plainAttrs_list PySem.F.slot_list_append PySem.F.type_list_append mt_append (pe_fld (pv 0) rfl) (pa_cons (pv 1) pa_nil)))
      (pss_cons (ps_expr (pe_bm PySem.F.plainAttrs_list PySem.F.slot_list_append PySem.F.type_list_append mt_append (pe_fld (pv 0) rfl) (pa_cons (pe_callB call_len_seq (by rfl) T.z_len PySem.boot_len (pa_cons (pe_fld (pv 0) rfl) pa_nil)) pa_nil)))
      (pss_one (ps_ret (pe_op op_sub (pe_callB call_len_seq (by rfl) T.z_len PySem.boot_len (pa_cons (pe_fld (pv 0) rfl) pa_nil)) pe_int))))), ?_⟩
    refine ⟨_, rfl, _, _, _, _, _, rfl, ho, T.c_Store, T.n_Store_nodes, rfl, _, _, rfl, .inl (SqL.of h1), _, _, rfl, rfl, _, rfl, ?_⟩
    refine ifF (by rw [l1]; omega) ?_
    have ho1 : ∀ u, upd H ln u s = some (.ins (cStore K) dx (fS ln lp)) := fun u => by rw [upd_ne sn]; exact ho
    have hp1 : ∀ u, upd H ln u lp = some (.lst (S.pa.map nV)) := fun u => by rw [upd_ne hS.ne.symm]; exact hS.ps
    refine ⟨_, rfl, _, _, _, _, _, rfl, ho, T.c_Store, T.n_Store_nodes, rfl, .inl ⟨rfl, _, SqL.of h1⟩, _, rfl, _, _, _, rfl, rfl, h1, szl (by omega), ?_⟩
    refine ⟨_, rfl, _, _, _, _, _, rfl, ho1 _, T.c_Store, T.n_Store_parents, rfl, .inl ⟨rfl, _, SqL.of (hp1 _)⟩, _, rfl, _, _, _, _, _, rfl, ho1 _, T.c_Store, T.n_Store_parents, rfl, _, _, rfl, .inl (SqL.of (hp1 _)),
      _, _, _, rfl, rfl, hp1 _, szl (by rw [List.length_map]; omega), ?_⟩
    have ho2 : ∀ u v, upd (upd H ln u) lp v s = some (.ins (cStore K) dx (fS ln lp)) := fun u v => by rw [upd_ne sp]; exact ho1 u
    have hn3 : ∀ ys v, upd (upd H ln (.lst ys)) lp v ln = some (.lst ys) := fun ys v => by rw [upd_ne hS.ne]; exact upd_same
    refine ⟨_, rfl, _, _, _, _, _, rfl, ho2 _ _, T.c_Store, T.n_Store_nodes, rfl, _, _, rfl, .inl (SqL.of (hn3 _ _)), _, _, rfl, rfl, ?_⟩
    have e : (((xs ++ [v]).length : Nat) : Int) - 1 = (S.nd.length : Int) := by rw [List.length_append, l1]; simp
    show Q (.int ((((xs ++ [v]).length : Nat) : Int) - 1)) _
    rw [e]
    have i : Imm H (upd (upd H ln (.lst (xs ++ [v]))) lp (.lst (S.pa.map nV ++ [nV (S.pa.map nV).length]))) := (Imm.set h1 (fun z => z)).trans (Imm.set (hp1 _) (fun z => z))
    refine k _ ⟨⟨dx, ho2 _ _⟩, ⟨_, hn3 _ _, ?_⟩, ?_, hS.ne⟩ ?_
    · exact pr_app (pr_imp (fun _ _ q => q.imm i) h2) (.cons (hd.imm i) .nil)
    · rw [upd_same]
      simp [So.add]
    · exact (But.set (by simp)).trans (But.set (by simp))
/-- variable, integer, atom, name: the node's tuple is made, then make -/
def spMk1 (K : PySem.W.Frag) (d : Nd) (r : List V) : Sp := fun vs H Q _ => ∃ (s ln lp : Addr) (S : So), vs = .ref s :: r ∧ SoAt K H s ln lp S ∧ S.nd.length < 2000 ∧ S.pa.length = S.nd.length ∧
  ∀ H', SoAt K H' s ln lp (S.add d) → But [ln, lp] H H' → Q (nV S.nd.length) H'
theorem m_variable (T : Tx K mg) : Met P w K mg base 2 (cStore K) "variable" (spMk1 K .var []) := by
  have sc : FnScope ["self"] ["self"] (defScope s_Store_variable) := ⟨rfl, rfl, rfl, by decide +kernel, rfl, by decide +kernel, by decide +kernel⟩
  refine met_ T.c_Store T.m_Store_variable T.f_Store_variable sc (fun _ _ _ _ _ _ us hl => match us, hl with | [_], _ => rfl) (fun vs H Q E h => ?_) (fun cdv A outer s H vs Q E hr h => ?_)
  · obtain ⟨_, _, _, _, rfl, _⟩ := h
    rfl
  · obtain ⟨s, ln, lp, S, rfl, hS, hl, hp, k⟩ := h
    obtain ⟨dx, ho⟩ := hS.ob
    refine ⟨_, pss_one (ps_ret (pe_mt (m_make T) hr (pv 0) (pa_cons (pe_tup (pa_cons pe_str pa_nil)) pa_nil))), ?_⟩
    refine ⟨_, rfl, _, _, _, rfl, ho, rfl, sz (by simp), fun p hn => ?_⟩
    have e := Ex.new (o := .tup [.str "var"]) hn
    exact ⟨s, ln, lp, S, _, .var, rfl, hS.ex e, ⟨p, rfl, upd_same⟩, hl, hp, fun H' h1 h2 => k H' h1 (e.but.trans h2)⟩
theorem m_integer (T : Tx K mg) (n : Int) : Met P w K mg base 2 (cStore K) "integer" (spMk1 K (.int n) [.int n]) := by
  have sc : FnScope ["self", "n"] ["self", "n"] (defScope s_Store_integer) := ⟨rfl, rfl, rfl, by decide +kernel, rfl, by decide +kernel, by decide +kernel⟩
  refine met_ T.c_Store T.m_Store_integer T.f_Store_integer sc (fun _ _ _ _ _ _ us hl => match us, hl with | [_, _], _ => rfl) (fun vs H Q E h => ?_) (fun cdv A outer s H vs Q E hr h => ?_)
  · obtain ⟨_, _, _, _, rfl, _⟩ := h
    rfl
  · obtain ⟨s, ln, lp, S, rfl, hS, hl, hp, k⟩ := h
    obtain ⟨dx, ho⟩ := hS.ob
    refine ⟨_, pss_one (ps_ret (pe_mt (m_make T) hr (pv 0) (pa_cons (pe_tup (pa_cons pe_str (pa_cons (pv 1) pa_nil))) pa_nil))), ?_⟩
    refine ⟨_, rfl, _, _, _, rfl, ho, rfl, _, rfl, sz (by simp), fun p hn => ?_⟩
    have e := Ex.new (o := .tup [.str "int", .int n]) hn
    exact ⟨s, ln, lp, S, _, .int n, rfl, hS.ex e, ⟨p, rfl, upd_same⟩, hl, hp, fun H' h1 h2 => k H' h1 (e.but.trans h2)⟩
theorem m_atom (T : Tx K mg) (z : Str) : Met P w K mg base 2 (cStore K) "atom" (spMk1 K .oth [.str z]) := by
  have sc : FnScope ["self", "a"] ["self", "a"] (defScope s_Store_atom) := ⟨rfl, rfl, rfl, by decide +kernel, rfl, by decide +kernel, by decide +kernel⟩
  refine met_ T.c_Store T.m_Store_atom T.f_Store_atom sc (fun _ _ _ _ _ _ us hl => match us, hl with | [_, _], _ => rfl) (fun vs H Q E h => ?_) (fun cdv A outer s H vs Q E hr h => ?_)
  · obtain ⟨_, _, _, _, rfl, _⟩ := h
    rfl
  · obtain ⟨s, ln, lp, S, rfl, hS, hl, hp, k⟩ := h
    obtain ⟨dx, ho⟩ := hS.ob
    refine ⟨_, pss_one (ps_ret (pe_mt (m_make T) hr (pv 0) (pa_cons (pe_tup (pa_cons pe_str (pa_cons (pv 1) pa_nil))) pa_nil))), ?_⟩
    refine ⟨_, rfl, _, _, _, rfl, ho, rfl, _, rfl, sz (by simp), fun p hn => ?_⟩
    have e := Ex.new (o := .tup [.str "atom", .str z]) hn
    exact ⟨s, ln, lp, S, _, .oth, rfl, hS.ex e, ⟨p, _, _, rfl, upd_same, by decide +kernel, by decide +kernel⟩, hl, hp, fun H' h1 h2 => k H' h1 (e.but.trans h2)⟩
theorem m_name (T : Tx K mg) (z : Str) (n : Int) : Met P w K mg base 2 (cStore K) "name" (spMk1 K .oth [.str z, .int n]) := by
  have sc : FnScope ["self", "a", "n"] ["self", "a", "n"] (defScope s_Store_name) := ⟨rfl, rfl, rfl, by decide +kernel, rfl, by decide +kernel, by decide +kernel⟩
  refine met_ T.c_Store T.m_Store_name T.f_Store_name sc (fun _ _ _ _ _ _ us hl => match us, hl with | [_, _, _], _ => rfl) (fun vs H Q E h => ?_) (fun cdv A outer s H vs Q E hr h => ?_)
  · obtain ⟨_, _, _, _, rfl, _⟩ := h
    rfl
  · obtain ⟨s, ln, lp, S, rfl, hS, hl, hp, k⟩ := h
    obtain ⟨dx, ho⟩ := hS.ob
    refine ⟨_, pss_one (ps_ret (pe_mt (m_make T) hr (pv 0) (pa_cons (pe_tup (pa_cons pe_str (pa_cons (pv 1) (pa_cons (pv 2) pa_nil)))) pa_nil))), ?_⟩
    refine ⟨_, rfl, _, _, _, rfl, ho, rfl, _, rfl, _, rfl, sz (by simp), fun p hn => ?_⟩
    have e := Ex.new (o := .tup [.str "name", .str z, .int n]) hn
    exact ⟨s, ln, lp, S, _, .oth, rfl, hS.ex e, ⟨p, _, _, rfl, upd_same, by decide +kernel, by decide +kernel⟩, hl, hp, fun H' h1 h2 => k H' h1 (e.but.trans h2)⟩
end
end Lw
namespace Lw
open PySem PySem.Spec PyProof.Rows L2
section
variable {P : Program} {w : World} {K : PySem.W.Frag} {mg : Str → Option Value} {base : Heap}
theorem isV_of {S : So} {z : Str} {i : Nat} (h : z = "var" ↔ S.isV i = true) : decide (V.str z = V.str "var") = S.isV i := by
  by_cases q : z = "var"
  · rw [h.mp q, q]; simp
  · have q2 : S.isV i = false := by
      cases q3 : S.isV i
      · rfl
      · exact absurd (h.mpr q3) q
    have q4 : ¬ V.str z = V.str "var" := fun y => q (V.str.inj y)
    rw [q2, decide_eq_false q4]
theorem ixN_nat {n j : Nat} (h : j < n) : ixN n (j : Int) = some j := by
  unfold ixN
  rw [if_pos (by omega), if_pos (by omega)]
  rfl
theorem min_nat (a b : Nat) : (if (b : Int) < (a : Int) then (b : Int) else (a : Int)) = ((min a b : Nat) : Int) := by split <;> omega
theorem max_nat (a b : Nat) : (if (b : Int) > (a : Int) then (b : Int) else (a : Int)) = ((max a b : Nat) : Int) := by split <;> omega
def spJoin (K : PySem.W.Frag) : Sp := fun vs H Q _ => ∃ (s ln lp : Addr) (S : So) (a b : Nat), vs = [.ref s, nV a, nV b] ∧ SoAt K H s ln lp S ∧ a < S.nd.length ∧ b < S.nd.length ∧
  ∀ p, H p = none → Q (.ref p) (upd H p (.tup [nV (S.join a b).1, nV (S.join a b).2]))
theorem m_join (T : Tx K mg) : Met P w K mg base 1 (cStore K) "joined" (spJoin K) := by
  have sc : FnScope ["self", "first", "second", "one_free", "two_free"] ["self", "first", "second"] (defScope s_Store_joined) := ⟨rfl, rfl, rfl, by decide +kernel, rfl, by decide +kernel, by decide +kernel⟩
  refine met_ T.c_Store T.m_Store_joined T.f_Store_joined sc (fun _ _ _ _ _ _ us hl => match us, hl with | [_, _, _], _ => rfl) (fun vs H Q E h => ?_) (fun cdv A outer s H vs Q E hr h => ?_)
  · obtain ⟨_, _, _, _, _, _, rfl, _⟩ := h
    rfl
  · obtain ⟨s, ln, lp, S, a, b, rfl, hS, ha, hb, k⟩ := h
    obtain ⟨dx, ho⟩ := hS.ob
    obtain ⟨xs, p1, z1, r1, h1, h2, h3, h4, h5⟩ := hS.node ha
    obtain ⟨ys, p2, z2, r2, g1, g2, g3, g4, g5⟩ := hS.node hb
    refine ⟨_, pss_cons (ps_set (i := 3) sc.nd rfl (Or.inl rfl) (pe_cmpR op_eq (pe_ix ix_tup (pe_ix ix_list (pe_fld (pv 0) rfl) (pv 1) (fun _ _ => rfl)) pe_int (fun _ _ => rfl)) pe_str (nomark _)))
      (pss_cons (ps_set (i := 4) sc.nd rfl (Or.inl rfl) (pe_cmpR op_eq (pe_ix ix_tup (pe_ix ix_list (pe_fld (pv 0) rfl) (pv 2) (fun _ _ => rfl)) pe_int (fun _ _ => rfl)) pe_str (nomark _)))
      (pss_cons (ps_if (pt_cmpR op_eq (pv 3) (pv 4) (nomark _)) (pss_one (ps_ret (pe_tup (pa_cons (pe_callB (call_min2 rfl) (by rfl) T.z_min (by decide +kernel) (pa_cons (pv 1) (pa_cons (pv 2) pa_nil))) (pa_cons (pe_callB (call_max2 rfl) (by rfl) T.z_max (by decide +kernel) (pa_cons (pv 1) (pa_cons (pv 2) pa_nil))) pa_nil))))) pss_nil)
      (pss_cons (ps_if (pt_val (pv 3)) (pss_one (ps_ret (pe_tup (pa_cons (pv 2) (pa_cons (pv 1) pa_nil))))) pss_nil)
      (pss_one (ps_ret (pe_tup (pa_cons (pv 1) (pa_cons (pv 2) pa_nil)))))))), ?_⟩
    refine ⟨_, rfl, _, _, _, _, _, rfl, ho, T.c_Store, T.n_Store_nodes, rfl, _, rfl, _, _, _, _, rfl, rfl, SqL.of h1, atI_nat h2, _, _, _, _, rfl, rfl, SqT.of h3, atI_nat (j := 0) rfl, rfl, ?_⟩
    rw [isV_of h4]
    refine ⟨_, rfl, _, _, _, _, _, rfl, ho, T.c_Store, T.n_Store_nodes, rfl, _, rfl, _, _, _, _, rfl, rfl, SqL.of g1, atI_nat g2, _, _, _, _, rfl, rfl, SqT.of g3, atI_nat (j := 0) rfl, rfl, ?_⟩
    rw [isV_of g4]
    refine ⟨_, rfl, _, rfl, rfl, _, rfl, ?_⟩
    by_cases q : S.isV a = S.isV b
    · refine ifT (by rw [q]) ⟨_, rfl, _, rfl, _, _, rfl, _, rfl, _, rfl, _, _, rfl, sz (by simp), fun p hn => ?_⟩
      have e := k p hn
      unfold So.join at e
      rw [if_pos q] at e
      rw [min_nat, max_nat]
      exact e
    · refine ifF (fun z => q (V.bl.inj z)) ⟨_, rfl, _, rfl, ?_⟩
      refine ite2 (fun c => ?_) (fun c => ?_)
      · refine ⟨_, rfl, _, rfl, sz (by simp), fun p hn => ?_⟩
        have e := k p hn
        unfold So.join at e
        rw [if_neg q, if_pos c] at e
        exact e
      · refine ⟨_, rfl, _, rfl, sz (by simp), fun p hn => ?_⟩
        have e := k p hn
        unfold So.join at e
        rw [if_neg q, if_neg c] at e
        exact e
def spMerge (K : PySem.W.Frag) : Sp := fun vs H Q _ => ∃ (s ln lp : Addr) (S : So) (a b : Nat), vs = [.ref s, nV a, nV b] ∧ SoAt K H s ln lp S ∧ S.Wf ∧ a < S.nd.length ∧ b < S.nd.length ∧ S.nd.length ≤ 2000 ∧ S.Free a b ∧
  ∀ p c H', H' p = some (.tup [.ref c, .bl true]) → H' c = some (.lst ((S.chg a b).map nV)) → SoAt K H' s ln lp (S.uni a b) → But [lp] H H' → Q (.ref p) H'
theorem m_merge (T : Tx K mg) : Met P w K mg base 2 (cStore K) "merge" (spMerge K) := by
  have sc : FnScope ["self", "first", "second", "changed", "waiting", "one", "two", "both", "kept", "other"] ["self", "first", "second"] (defScope s_Store_merge) := ⟨rfl, rfl, rfl, by decide +kernel, rfl, by decide +kernel, by decide +kernel⟩
  refine met_ T.c_Store T.m_Store_merge T.f_Store_merge sc (fun _ _ _ _ _ _ us hl => match us, hl with | [_, _, _], _ => rfl) (fun vs H Q E h => ?_) (fun cdv A outer s H vs Q E hr h => ?_)
  · obtain ⟨_, _, _, _, _, _, rfl, _⟩ := h
    rfl
  · obtain ⟨s, ln, lp, S, a, b, rfl, hS, wf, ha, hb, hl, hF, k⟩ := h
    obtain ⟨dx, ho⟩ := hS.ob
    refine ⟨_, pss_cons (ps_set (i := 3) sc.nd rfl (Or.inl rfl) (pe_lst pa_nil))
      (pss_cons (ps_set (i := 4) sc.nd rfl (Or.inl rfl) (pe_lst (pa_cons (pe_tup (pa_cons (pv 1) (pa_cons (pv 2) pa_nil))) pa_nil)))
      (pss_cons (ps_while PassesOwn.never (pt_truth (pv 4) (by intro _; rfl))
        (pss_cons (ps_asg (pe_bm0 PySem.F.plainAttrs_list PySem.F.slot_list_pop PySem.F.type_list_pop mt_pop (pv 4)) (pg_tup rfl (pgs_cons (pg_name (i := 5) sc.nd rfl (Or.inl rfl)) (pgs_cons (pg_name (i := 6) sc.nd rfl (Or.inl rfl)) pgs_nil))))
        (pss_cons (ps_set (i := 5) sc.nd rfl (Or.inl rfl) (pe_mt (m_rep T) hr (pv 0) (pa_cons (pv 5) pa_nil)))
        (pss_cons (ps_set (i := 6) sc.nd rfl (Or.inl rfl) (pe_mt (m_rep T) hr (pv 0) (pa_cons (pv 6) pa_nil)))
        (pss_cons (ps_if (pt_cmpR op_eq (pv 5) (pv 6) (nomark _)) (pss_one ps_continue) pss_nil)
        (pss_cons (ps_set (i := 7) sc.nd rfl (Or.inl rfl) (pe_and (pe_cmpR op_ne (pe_ix ix_tup (pe_ix ix_list (pe_fld (pv 0) rfl) (pv 5) (fun _ _ => rfl)) pe_int (fun _ _ => rfl)) pe_str (nomark _))
          (pe_one (pe_cmpR op_ne (pe_ix ix_tup (pe_ix ix_list (pe_fld (pv 0) rfl) (pv 6) (fun _ _ => rfl)) pe_int (fun _ _ => rfl)) pe_str (nomark _)))))
        (pss_cons (ps_if (PW.pt (pw_and (pt_val (pv 7)) (pw_and1 pt_nev))) (pss_one ps_never) pss_nil)
        (pss_cons (ps_asg (pe_mt (m_join T) hr (pv 0) (pa_cons (pv 5) (pa_cons (pv 6) pa_nil))) (pg_tup rfl (pgs_cons (pg_name (i := 8) sc.nd rfl (Or.inl rfl)) (pgs_cons (pg_name (i := 9) sc.nd rfl (Or.inl rfl)) pgs_nil))))
        (pss_cons (ps_asg (pv 8) (pg_sub (pe_fld (pv 0) rfl) (pv 9) set_list))
        (pss_cons (ps_expr (pe_bm PySem.F.plainAttrs_list PySem.F.slot_list_append PySem.F.type_list_append mt_append (pv 3) (pa_cons (pv 9) pa_nil)))
        (pss_one (ps_if (PW.pt (pw_and (pt_val (pv 7)) (pw_and1 pt_nev))) (pss_one ps_never) pss_nil))))))))))))
      (pss_one (ps_ret (pe_tup (pa_cons (pv 3) (pa_cons pe_bl pa_nil))))))), ?_⟩
    refine ⟨by simp, fun c hc => ⟨_, rfl, _, rfl, sz (by simp), fun t ht => ⟨sz (by simp), fun wl hw => ?_⟩⟩⟩
    have e1 : Ex H (upd H c (.lst [])) := Ex.new hc
    have e2 := Ex.new (o := .tup [nV a, nV b]) ht
    have e3 := Ex.new (o := .lst [.ref t]) hw
    have e13 := (e1.trans e2).trans e3
    generalize hH3 : upd (upd (upd H c (.lst [])) t (.tup [nV a, nV b])) wl (.lst [.ref t]) = H3 at *
    have gc : H3 c = some (.lst []) := (e2.trans e3) _ _ upd_same
    have gt : H3 t = some (.tup [nV a, nV b]) := e3 _ _ upd_same
    have gw : H3 wl = some (.lst [.ref t]) := by rw [← hH3]; exact upd_same
    have hS3 := hS.ex e13
    have cw : c ≠ wl := ne_of gc gw (fun z => nomatch z)
    have cl : c ≠ lp := fun z => by rw [z] at hc; rw [hS.ps] at hc; cases hc
    have cn : c ≠ ln := fun z => by obtain ⟨_, q, _⟩ := hS.ns; rw [z, q] at hc; cases hc
    have wp : wl ≠ lp := ne_of_none ((e1.trans e2) _ _ hS.ps) hw |>.symm
    have wn : wl ≠ ln := by obtain ⟨_, q, _⟩ := hS.ns; exact (ne_of_none ((e1.trans e2) _ _ q) hw).symm
    have sc' : s ≠ c := ne_of_none ho hc
    have sw : s ≠ wl := ne_of_none ((e1.trans e2) _ _ ho) hw
    have sp : s ≠ lp := ne_of ho hS.ps (fun z => nomatch z)
    let W : Nat → L2.St → Hp → Prop := fun m σ H' => (m = 1 ∧ σ = [some (.ref s), some (nV a), some (nV b), some (.ref c), some (.ref wl), none, none, none, none, none] ∧ H' = H3) ∨
      (m = 0 ∧ (∃ x5 x6 x7 x8 x9, σ = [some (.ref s), some (nV a), some (nV b), some (.ref c), some (.ref wl), x5, x6, x7, x8, x9]) ∧ H' wl = some (.lst []) ∧ H' c = some (.lst ((S.chg a b).map nV)) ∧ SoAt K H' s ln lp (S.uni a b) ∧ But [lp] H H')
    refine ⟨W, ⟨1, .inl ⟨rfl, rfl, rfl⟩⟩, ?_⟩
    rintro m σ H' (⟨rfl, rfl, rfl⟩ | ⟨rfl, ⟨x5, x6, x7, x8, x9, rfl⟩, h1, h2, h3, h4⟩)
    · refine ⟨_, rfl, true, .inl ⟨_, SqL.of gw, rfl⟩, iteT ⟨fun σ' H' => ∃ m', m' < 1 ∧ W m' σ' H', fun _ _ h => h, ?_⟩⟩
      have gw' : ∀ u, upd H' wl u wl = some u := fun u => upd_same
      have hS4 : ∀ u, SoAt K (upd H' wl u) s ln lp S := fun u => by
        obtain ⟨xs, q1, q2⟩ := hS3.ns
        refine ⟨⟨dx, by rw [upd_ne sw]; exact e13 _ _ ho⟩, ⟨xs, by rw [upd_ne wn.symm]; exact q1, pr_imp (fun _ _ q => q.imm (Imm.set gw (fun z => z))) q2⟩, by rw [upd_ne wp.symm]; exact hS3.ps, hS.ne⟩
      have ho4 : ∀ u, upd H' wl u s = some (.ins (cStore K) dx (fS ln lp)) := fun u => by rw [upd_ne sw]; exact e13 _ _ ho
      have b4 : But [] H (upd H' wl (.lst [])) := fun x o hx _ => by
        rw [upd_ne (fun z => by rw [z] at hx; rw [(e1.trans e2).free hw] at hx; cases hx)]; exact e13 _ _ hx
      have gc4 : upd H' wl (.lst []) c = some (.lst []) := by rw [upd_ne cw]; exact gc
      refine ⟨_, rfl, .inl ⟨rfl, _, SqL.of gw⟩, _, _, _, rfl, rfl, gw, rfl, _, _, rfl, SqT.of (by rw [upd_ne (ne_of gt gw (fun z => nomatch z))]; exact gt), rfl, _, _, rfl, _, _, rfl, rfl, ?_⟩
      refine ⟨_, rfl, _, _, _, rfl, ho4 _, rfl, _, rfl, s, ln, lp, S, a, rfl, hS4 _, wf, ha, ?_⟩
      refine ⟨_, rfl, _, _, _, rfl, ho4 _, rfl, _, rfl, s, ln, lp, S, b, rfl, hS4 _, wf, hb, ?_⟩
      refine ⟨_, rfl, _, rfl, rfl, _, rfl, ?_⟩
      by_cases q : S.rep a = S.rep b
      · refine ifT (by rw [q]) ?_
        have eu : S.uni a b = S := by unfold So.uni; rw [if_pos q]
        have ec : S.chg a b = [] := by unfold So.chg; rw [if_pos q]
        exact ⟨0, by omega, .inr ⟨rfl, ⟨_, _, _, _, _, rfl⟩, gw' _, by rw [ec]; exact gc4, by rw [eu]; exact hS4 _, b4.mono (by simp)⟩⟩
      · refine ifF (fun z => q (by injection z with z; omega)) ?_
        obtain ⟨ys, p1, z1, r1, g1, g2, g3, g4, _⟩ := (hS4 (.lst [])).node (wf.rep_lt a ha)
        obtain ⟨ys', p2, z2, r2, j1, j2, j3, j4, _⟩ := (hS4 (.lst [])).node (wf.rep_lt b hb)
        have ra := wf.rep_lt a ha
        have rb := wf.rep_lt b hb
        have eu : S.uni a b = { S with pa := S.pa.set (S.join (S.rep a) (S.rep b)).2 (S.join (S.rep a) (S.rep b)).1 } := by unfold So.uni; rw [if_neg q]
        have ec : S.chg a b = [(S.join (S.rep a) (S.rep b)).2] := by unfold So.chg; rw [if_neg q]
        have jl : (S.join (S.rep a) (S.rep b)).2 < S.nd.length := by
          unfold So.join
          split
          · show max _ _ < _; omega
          · split <;> assumption
        refine ⟨_, rfl, _, _, _, _, _, rfl, ho4 _, T.c_Store, T.n_Store_nodes, rfl, _, rfl, _, _, _, _, rfl, rfl, SqL.of g1, atI_nat g2, _, _, _, _, rfl, rfl, SqT.of g3, atI_nat (j := 0) rfl, rfl, _, rfl, ?_⟩
        rw [isV_of g4]
        have alt : S.isV (S.rep a) = true ∨ (S.isV (S.rep a) = false ∧ S.isV (S.rep b) = true) := by
          rcases hF with h | h | h
          · exact absurd h q
          · exact .inl h
          · cases va : S.isV (S.rep a)
            · exact .inr ⟨rfl, h⟩
            · exact .inl rfl
        rcases alt with va | ⟨va, vb⟩
        case' inl =>
          rw [va]
          refine iteF ?_
        case' inr =>
          rw [va]
          refine iteT ⟨_, rfl, _, _, _, _, _, rfl, ho4 _, T.c_Store, T.n_Store_nodes, rfl, _, rfl, _, _, _, _, rfl, rfl, SqL.of j1, atI_nat j2, _, _, _, _, rfl, rfl, SqT.of j3, atI_nat (j := 0) rfl, rfl, ?_⟩
          rw [isV_of j4, vb]
        all_goals
          refine ⟨_, rfl, false, rfl, iteF (iteF ?_)⟩
          refine ⟨_, rfl, _, _, _, rfl, ho4 _, rfl, _, rfl, _, rfl, s, ln, lp, S, S.rep a, S.rep b, rfl, hS4 _, ra, rb, fun t2 ht2 => ?_⟩
          refine ⟨_, _, rfl, SqT.of upd_same, rfl, _, _, rfl, _, _, rfl, rfl, ?_⟩
          have e5 := Ex.new (o := .tup [nV (S.join (S.rep a) (S.rep b)).1, nV (S.join (S.rep a) (S.rep b)).2]) ht2
          have hS5 := (hS4 (.lst [])).ex e5
          refine ⟨_, rfl, _, rfl, _, _, _, _, _, rfl, e5 _ _ (ho4 _), T.c_Store, T.n_Store_parents, rfl, _, rfl, _, _, _, _, rfl, rfl, hS5.ps, ixN_nat (by rw [List.length_map, wf.len]; exact jl), ?_⟩
          have gc6 : ∀ u, upd (upd (upd H' wl (.lst [])) t2 (.tup [nV (S.join (S.rep a) (S.rep b)).1, nV (S.join (S.rep a) (S.rep b)).2])) lp u c = some (.lst []) := fun u => by rw [upd_ne cl]; exact e5 _ _ gc4
          refine ⟨_, rfl, .inl ⟨rfl, _, SqL.of (gc6 _)⟩, _, rfl, _, _, _, rfl, rfl, gc6 _, szl (by simp), ?_⟩
          refine ⟨_, rfl, false, rfl, iteF (iteF ?_)⟩
          refine ⟨0, by omega, .inr ⟨rfl, ⟨_, _, _, _, _, rfl⟩, ?_, by rw [ec]; exact upd_same, ?_, ?_⟩⟩
          · rw [upd_ne cw.symm, upd_ne wp]; exact e5 _ _ (gw' _)
          · rw [eu]
            obtain ⟨xs, q1, q2⟩ := hS5.ns
            refine ⟨⟨dx, by rw [upd_ne sc', upd_ne sp]; exact e5 _ _ (ho4 _)⟩, ⟨xs, by rw [upd_ne cn.symm, upd_ne hS.ne]; exact q1, ?_⟩, ?_, hS.ne⟩
            · exact pr_imp (fun _ _ q => q.imm ((Imm.set hS5.ps (fun z => z)).trans (Imm.set (gc6 _) (fun z => z)))) q2
            · rw [upd_ne cl.symm, upd_same, List.map_set]
          · exact But.drop (But.trans (b4.mono (by simp)) (But.trans e5.but (But.set (by simp)))) (But.set (p := c) (by simp)) hc
    · refine ⟨_, rfl, false, .inl ⟨_, SqL.of h1, rfl⟩, iteF ⟨_, rfl, sz (by simp), fun p hp => ?_⟩⟩
      have e := Ex.new (o := .tup [.ref c, .bl true]) hp
      exact k p c _ upd_same (e _ _ h2) (h3.ex e) (h4.trans e.but)
end
end Lw
namespace Lw
open PySem PySem.Spec PyProof.Rows L2
section
variable {P : Program} {w : World} {K : PySem.W.Frag} {mg : Str → Option Value} {base : Heap}
def spFreed (K : PySem.W.Frag) : Sp := fun vs H Q _ => ∃ (s ln lp : Addr) (S : So) (c : Addr) (ns : List Nat), vs = [.ref s, .ref c] ∧ SoAt K H s ln lp S ∧ H c = some (.lst (ns.map nV)) ∧ (∀ n ∈ ns, n < S.nd.length) ∧ ns.length ≤ 10 ∧
  ∀ v H', Ex H H' → Q v H'
theorem m_freed (T : Tx K mg) : Met P w K mg base 1 (cStore K) "freed" (spFreed K) := by
  have sc : FnScope ["self", "changed", "node"] ["self", "changed"] (defScope s_Store_freed) := ⟨rfl, rfl, rfl, by decide +kernel, rfl, by decide +kernel, by decide +kernel⟩
  refine met_ T.c_Store T.m_Store_freed T.f_Store_freed sc (fun _ _ _ _ _ _ us hl => match us, hl with | [_, _], _ => rfl) (fun vs H Q E h => ?_) (fun cdv A outer s H vs Q E hr h => ?_)
  · obtain ⟨_, _, _, _, _, _, rfl, _⟩ := h
    rfl
  · obtain ⟨s, ln, lp, S, c, ns, rfl, hS, hc, hb, hl, k⟩ := h
    obtain ⟨dx, ho⟩ := hS.ob
    refine ⟨_, pss_one (ps_ret (pe_callB cr_sorted (by rfl) T.z_sorted (by decide +kernel) (pa_cons (pe_lc (own := [("node", 2)]) (g := gName 2) (tt := tTest (tOp rEq (tOp (rIxT K) (tOp (rIxL K) (tFld K (tVar 0) "nodes") (tVar 2)) (tC (.int 0))) (tC (.str "var")))) rfl sc.nd (pi_list (pv 1)) (blkOk_by (N := ["self", "changed", "node"]) (sc := defScope s_Store_freed) (by decide +kernel))
      (fun _ _ _ _ _ => pg_name (i := 2) sc.nd rfl (Or.inl rfl)) (fun _ _ _ _ _ => pts_one (pt_cmpR op_eq (pe_ix ix_tup (pe_ix ix_list (pe_fld (pv 0) rfl) (pv 2) (fun _ _ => rfl)) pe_int (fun _ _ => rfl)) pe_str (nomark _))) (fun _ _ _ _ _ => pv 2)) pa_nil))), ?_⟩
    refine ⟨_, rfl, c, rfl, ⟨_, SqL.of hc⟩, fun D hD => ?_⟩
    have e0 := Ex.new (o := .lst []) hD
    refine lc_list (K := K) (a := c) (xs := ns.map nV) (fun i H' => But [D] H H' ∧ ∃ ms : List Nat, H' D = some (.lst (ms.map nV)) ∧ ms.length ≤ i) ⟨e0.but, [], upd_same, Nat.le_refl _⟩ (fun i H' _ p => SqL.of (p.1 _ _ hc (by simp; intro z; rw [z, hD] at hc; cases hc))) (fun i x H' hx p => ?_) (fun H' p => ?_)
    · refine ⟨rfl, ?_⟩
      obtain ⟨b, ms, hm, lm⟩ := p
      rw [List.getElem?_map] at hx
      obtain ⟨n, en, rfl⟩ := Option.map_eq_some_iff.mp hx
      have hn := hb n (List.mem_of_getElem? en)
      have li : i < ns.length := (List.getElem?_eq_some_iff.mp en).1
      obtain ⟨ys, p1, z1, r1, h1, h2, h3, h4, h5⟩ := hS.node hn
      have nD : ∀ {a o}, H a = some o → a ∉ [D] := fun q => by simp; intro z; rw [z, hD] at q; cases q
      refine ⟨_, rfl, _, _, _, _, _, rfl, b _ _ ho (nD ho), T.c_Store, T.n_Store_nodes, rfl, _, rfl, _, _, _, _, rfl, rfl, SqL.of (b _ _ h1 (nD h1)), atI_nat h2, _, _, _, _, rfl, rfl, SqT.of (b _ _ h3 (nD h3)), atI_nat (j := 0) rfl, rfl, _, rfl, ?_⟩
      refine ite2 (fun _ => ?_) (fun _ => ⟨b, ms, hm, Nat.le_succ_of_le lm⟩)
      exact ⟨_, rfl, _, hm, szl (by rw [List.length_map]; omega), b.trans (But.set (by simp)), ms ++ [n], by rw [upd_same, List.map_append]; rfl, by rw [List.length_append]; simp; omega⟩
    · obtain ⟨b, ms, hm, lm⟩ := p
      have e := But.ex (But.drop (F := []) (But.refl H) b hD)
      rw [List.length_map] at lm
      refine ⟨D, ms.map (fun (n : Nat) => (n : Int)), rfl, SqL.of (by rw [hm, List.map_map]; rfl), by rw [List.length_map]; omega, fun ns' p _ _ hp => ?_⟩
      exact k _ _ (e.trans (Ex.new hp))
def spUni (K : PySem.W.Frag) : Sp := fun vs H Q _ => ∃ (s ln lp : Addr) (S : So) (a b : Nat), vs = [.ref s, nV a, nV b] ∧ SoAt K H s ln lp S ∧ S.Wf ∧ a < S.nd.length ∧ b < S.nd.length ∧ S.nd.length ≤ 2000 ∧ S.Free a b ∧
  ∀ v H', SoAt K H' s ln lp (S.uni a b) → But [lp] H H' → Q v H'
theorem uni_nd {S : So} {a b : Nat} : (S.uni a b).nd = S.nd := by unfold So.uni; split <;> rfl
theorem chg_lt {S : So} (wf : S.Wf) {a b : Nat} (ha : a < S.nd.length) (hb : b < S.nd.length) : ∀ n ∈ S.chg a b, n < S.nd.length := by
  intro n hn
  unfold So.chg at hn
  split at hn
  · cases hn
  · have e := List.mem_singleton.mp hn
    have ra := wf.rep_lt a ha
    have rb := wf.rep_lt b hb
    rw [e]
    unfold So.join
    split
    · show max _ _ < _; omega
    · split <;> assumption
theorem m_unify (T : Tx K mg) : Met P w K mg base 3 (cStore K) "unify" (spUni K) := by
  have sc : FnScope ["self", "first", "second", "changed", "good"] ["self", "first", "second"] (defScope s_Store_unify) := ⟨rfl, rfl, rfl, by decide +kernel, rfl, by decide +kernel, by decide +kernel⟩
  refine met_ T.c_Store T.m_Store_unify T.f_Store_unify sc (fun _ _ _ _ _ _ us hl => match us, hl with | [_, _, _], _ => rfl) (fun vs H Q E h => ?_) (fun cdv A outer s H vs Q E hr h => ?_)
  · obtain ⟨_, _, _, _, _, _, rfl, _⟩ := h
    rfl
  · obtain ⟨s, ln, lp, S, a, b, rfl, hS, wf, ha, hb, hl, hF, k⟩ := h
    obtain ⟨dx, ho⟩ := hS.ob
    refine ⟨_, pss_cons (ps_asg (pe_mt (m_merge T) hr (pv 0) (pa_cons (pv 1) (pa_cons (pv 2) pa_nil))) (pg_tup rfl (pgs_cons (pg_name (i := 3) sc.nd rfl (Or.inl rfl)) (pgs_cons (pg_name (i := 4) sc.nd rfl (Or.inl rfl)) pgs_nil))))
      (pss_cons (ps_if (pt_not (pt_val (pv 4))) pss_never pss_nil)
      (pss_one (ps_ret (pe_mt (m_freed T) hr (pv 0) (pa_cons (pv 3) pa_nil))))), ?_⟩
    refine ⟨_, rfl, _, _, _, rfl, ho, rfl, _, rfl, _, rfl, s, ln, lp, S, a, b, rfl, hS, wf, ha, hb, hl, hF, fun p c H' h1 h2 h3 h4 => ?_⟩
    refine ⟨_, _, rfl, SqT.of h1, rfl, _, _, rfl, _, _, rfl, rfl, ?_⟩
    refine ⟨_, rfl, true, rfl, iteF ?_⟩
    obtain ⟨dx', ho'⟩ := h3.ob
    refine ⟨_, rfl, _, _, _, rfl, ho', rfl, _, rfl, s, ln, lp, _, c, _, rfl, h3, h2, ?_, ?_, fun v H2 e => k v H2 (h3.ex e) (h4.trans e.but)⟩
    · rw [uni_nd]; exact chg_lt wf ha hb
    · unfold So.chg; split <;> simp
def spVal (K : PySem.W.Frag) : Sp := fun vs H Q _ => ∃ (s ln lp : Addr) (S : So) (a : Nat) (z : Int), vs = [.ref s, nV a] ∧ SoAt K H s ln lp S ∧ S.Wf ∧ a < S.nd.length ∧ S.nd[S.rep a]? = some (.int z) ∧
  ∀ p, H p = some (.tup [.str "int", .int z]) → Q (.ref p) H
theorem m_value (T : Tx K mg) : Met P w K mg base 2 (cStore K) "value" (spVal K) := by
  have sc : FnScope ["self", "node", "at", "found"] ["self", "node"] (defScope s_Store_value) := ⟨rfl, rfl, rfl, by decide +kernel, rfl, by decide +kernel, by decide +kernel⟩
  refine met_ T.c_Store T.m_Store_value T.f_Store_value sc (fun _ _ _ _ _ _ us hl => match us, hl with | [_, _], _ => rfl) (fun vs H Q E h => ?_) (fun cdv A outer s H vs Q E hr h => ?_)
  · obtain ⟨_, _, _, _, _, _, rfl, _⟩ := h
    rfl
  · obtain ⟨s, ln, lp, S, a, z, rfl, hS, wf, ha, hz, k⟩ := h
    obtain ⟨dx, ho⟩ := hS.ob
    obtain ⟨xs, h1, h2⟩ := hS.ns
    obtain ⟨v, e1, p, rfl, e2⟩ := pr_at h2 hz
    refine ⟨_, pss_cons (ps_set (i := 2) sc.nd rfl (Or.inl rfl) (pe_mt (m_rep T) hr (pv 0) (pa_cons (pv 1) pa_nil)))
      (pss_cons (ps_set (i := 3) sc.nd rfl (Or.inl rfl) (pe_ix ix_list (pe_fld (pv 0) rfl) (pv 2) (fun _ _ => rfl)))
      (pss_cons (ps_if (pt_cmpR op_eq (pe_ix ix_tup (pv 3) pe_int (fun _ _ => rfl)) pe_str (nomark _)) pss_never pss_nil)
      (pss_cons (ps_if (pt_cmpR op_eq (pe_ix ix_tup (pv 3) pe_int (fun _ _ => rfl)) pe_str (nomark _)) pss_never pss_nil)
      (pss_one (ps_ret (pv 3)))))), ?_⟩
    refine ⟨_, rfl, _, _, _, rfl, ho, rfl, _, rfl, s, ln, lp, S, a, rfl, hS, wf, ha, ?_⟩
    refine ⟨_, rfl, _, _, _, _, _, rfl, ho, T.c_Store, T.n_Store_nodes, rfl, _, rfl, _, _, _, _, rfl, rfl, SqL.of h1, atI_nat e1, ?_⟩
    refine ⟨_, rfl, _, _, _, _, rfl, rfl, SqT.of e2, atI_nat (j := 0) rfl, rfl, _, rfl, ifF (fun y => absurd (V.str.inj y) (by decide +kernel)) ?_⟩
    refine ⟨_, rfl, _, _, _, _, rfl, rfl, SqT.of e2, atI_nat (j := 0) rfl, rfl, _, rfl, ifF (fun y => absurd (V.str.inj y) (by decide +kernel)) ?_⟩
    exact ⟨_, rfl, k p e2⟩
/-! ### a new store, a copy -/
def spS0 (K : PySem.W.Frag) : Sp := fun vs H Q _ => ∃ (s dx : Addr), vs = [.ref s] ∧ H s = some (.ins (cStore K) dx []) ∧ ∀ ln lp H', SoAt K H' s ln lp ⟨[], []⟩ → But [s] H H' → H ln = none → H lp = none → Q .non H'
theorem k_store (T : Tx K mg) : Mak P w K mg base 1 "Store" (cStore K) (spS0 K) := by
  have sc : FnScope ["self"] ["self"] (defScope s_Store_init) := ⟨rfl, rfl, rfl, by decide +kernel, rfl, by decide +kernel, by decide +kernel⟩
  refine mak_ T.k_Store T.g_Store T.f_Store_init sc (fun _ _ _ _ _ _ us hl => match us, hl with | [_], _ => rfl) (fun vs H Q E h => ?_) (fun cdv A outer s H vs Q E hr h => ?_)
  · obtain ⟨_, _, rfl, _⟩ := h
    rfl
  · obtain ⟨s, dx, rfl, hs, k⟩ := h
    refine ⟨_, pss_cons (ps_fld (pv 0) (pe_lst pa_nil) rfl) (pss_one (ps_fld (pv 0) (pe_lst pa_nil) rfl)), ?_⟩
    refine ⟨sz (by simp), fun ln hn => ⟨_, rfl, _, _, _, _, rfl, Ex.new hn _ _ hs, T.c_Store, T.n_Store_nodes, by simp, sz (by simp), fun lp hp => ?_⟩⟩
    have sn : s ≠ ln := ne_of_none hs hn
    have e1 := Ex.new (o := .lst []) hn
    have sp : s ≠ lp := fun z => by rw [← z, upd_same] at hp; cases hp
    have np : ln ≠ lp := ne_of_none (o := .lst []) (by rw [upd_ne sn.symm]; exact upd_same) hp
    refine ⟨_, rfl, _, _, _, _, rfl, Ex.new hp _ _ upd_same, T.c_Store, T.n_Store_parents, by simp [putF], ?_⟩
    refine k ln lp _ ⟨⟨dx, upd_same⟩, ⟨[], ?_, .nil⟩, ?_, np⟩ ?_ hn ?_
    · rw [upd_ne sn.symm, upd_ne np, upd_ne sn.symm]; exact upd_same
    · rw [upd_ne sp.symm]; exact upd_same
    · intro x o hx hm
      have hm : x ≠ s := by simpa using hm
      rw [upd_ne hm, upd_ne (fun z => by rw [z] at hx; rw [upd_ne (fun y => sp y.symm)] at hp; have := Ex.free e1 hp; rw [hx] at this; cases this), upd_ne hm, upd_ne (fun z => by rw [z, hn] at hx; cases hx)]
      exact hx
    · rw [upd_ne sp.symm] at hp; exact e1.free hp
end
end Lw
/-! ### further rules: what this program writes and the layer has no row of -/
namespace Lw
open PySem PySem.Spec PyProof.Rows L2
section
variable {X : Cx}
/-! #### list.extend of a tuple -/
theorem ext_lt (l : Addr) (items : Array Value) (n : Nat) (b : Addr) (items2 : Array Value) (n2 : Nat) (dd : Option Addr) (sl : Array (Option Value)) (c0 : ¬(!items.isEmpty && Builtin.List.listTooLong (items.size + items2.size)) = true) (c1 : items.size ≤ sizeLine) (c2 : items.size + items2.size ≤ sizeLine + 1) :
    Meets (Builtin.«list.extend» ⟨[.ref l, .ref b], []⟩) (fun _ R s => s.heap.get? l = some { cls := .type "list", dict := none, data := .seq items n, slots := #[] } ∧ s.heap.get? b = some { cls := .type "tuple", dict := dd, data := .seq items2 n2, slots := sl } ∧
      R (.ok (.ret Value.none)) { s with heap := s.heap.update l (Obj.mapSeq fun x => x ++ items2), toks := s.toks }) :=
  .of_wp fun prog w A R s h => by
    obtain ⟨hp, g, d, tk, os⟩ := s
    obtain ⟨hl, hb, h⟩ := h
    have f1 := AutoSeq1.idx_int
    have f2 := AutoSeq1.sub_tuple_tuple
    have f3 := AutoSeq1.sub_list_list
    have f4 := AutoSeq1.sub_tuple_list
    have f5 := AutoSeq1.sub_list_tuple
    have hz : (items ++ items2).size ≤ sizeLine + 1 := by rw [Array.size_append]; exact c2
    wp_walk using (wpAny_updateSeq hl rfl (hz := c1) (_hz' := hz)), AutoSeq1.wpAny_loadPart' hl, AutoSeq1.wpAny_loadPart' hb
    exact ⟨_, rfl, h⟩
def rExtT (K : PySem.W.Frag) : V → List V → Hp → VK → Prop := fun x vs H Q => ∃ l b xs zs, x = .ref l ∧ vs = [.ref b] ∧ H l = some (.lst xs) ∧ SqT K H b zs ∧ xs.length + zs.length ≤ sizeLine ∧ Q .non (upd H l (.lst (xs ++ zs)))
theorem mt_extT : MtM X "list.extend" (rExtT X.K) := by
  intro pins s σ H x vs v us Q I rx rv h
  obtain ⟨l, b, xs, zs, rfl, rfl, hH, hB, hz, q⟩ := h
  cases rx
  obtain ⟨u, rfl, ru⟩ := rv.one
  cases ru
  obtain ⟨z, its, n, r, hl, e⟩ := I.lstM hH
  obtain ⟨its2, r2, ⟨⟨cls, dd, data, sl⟩, ho, hc, n2, hd⟩, z2⟩ := I.tuple hB
  simp only at hc hd
  subst hc hd
  have hl2 := r2.length
  have hsz : its.toArray.size + its2.toArray.size ≤ sizeLine := by rw [List.size_toArray, List.size_toArray]; omega
  have hlong : ¬ (!its.toArray.isEmpty && Builtin.List.listTooLong (its.toArray.size + its2.toArray.size)) = true := by
    rw [notLongL hsz, Bool.and_false]
    exact Bool.false_ne_true
  refine call_meets PySem.F.slot_list_extend ⟨_, e, rfl⟩ PySem.F.entry_list_extend (PySem.F.args_list_extend_2 _ _) (ext_lt l its.toArray n b its2.toArray n2 dd sl hlong (by rw [List.size_toArray]; omega) (by omega)) ⟨e, ho, ?_⟩
  refine ⟨.non, _, I.lset (its' := its ++ its2) hH e (by simp) (r.append r2) ?_, rfl, q⟩
  rw [List.length_append]
  omega
/-! #### d.setdefault(t, x) where the keys are tuples and t is new -/
theorem d_setdT {pins : List (Addr × Obj)} {σ : L2.St} {H : Hp} {s : Shared} {a b : Addr} {r : Value} {d : V} {k : List Key} {A : Around} {E : Value → Shared → Prop} {kvs : List (List Key × V)} {Q : Value → Shared → Prop} (hu : A.units + 1 < cLine)
    (I : Inv X pins σ H s) (e : H a = some (.dT kvs)) (eb : H b = some (.tup (k.map kV))) (rd : RelV d r) (hl : kvs.length < sizeLine) (hn : valV kvs k = none)
    (h : ∀ s' : Shared, Inv X pins σ (upd H a (.dT (putK kvs k d))) s' → Q r s') : wpAny (model X.prog X.w) A (call (.builtin "dict.setdefault") [.ref a, .ref b, r]) Q E s := by
  obtain ⟨z, hd, xs, rel, dd⟩ := dt_of I.hok e
  have hz : xs.length ≤ sizeLine := by rw [← Paired.length rel]; exact z
  have hl2 : (putK kvs k d).length ≤ sizeLine := by have := length_putK kvs k d; omega
  have q0 := rel.val k
  rw [hn] at q0
  refine call_setdefault_heap (hsz := hz) (tupleKind_room_in1 hu) (key_of I.hok eb) hd dd (fun p hp => ?_) (fun _ h' dd' hs => h _ ?_)
  · rw [hp] at q0
    exact (show False from q0).elim
  · obtain ⟨q, es, ep, hq, h2, h3, h4, _, h5⟩ := dd'
    refine d_write I (by rw [e]; exact True.intro) hs ⟨q, hq⟩ ⟨hl2, hd, _, (rel.put k eb rd).keeps fun c ys ec => ?_, q, es, ep, hq, h2, h3, h4, h5⟩
    rw [upd_ne (ne_of ec e (fun z => nomatch z))]
    exact ec
def tSetdT (td ty tx : TE) : TE := fun σ H Q => td σ H fun x H1 => ∃ a, x = .ref a ∧ IsD H1 a ∧ ty σ H1 fun y H2 => tx σ H2 fun z H3 => ∃ (kvs : List (List Key × V)) (k : List Key) (b : Addr), H3 a = some (.dT kvs) ∧ y = .ref b ∧ H3 b = some (.tup (k.map kV)) ∧ kvs.length < sizeLine ∧ valV kvs k = none ∧
  Q z (upd H3 a (.dT (putK kvs k z)))
theorem pe_setdT {o e f : Expr} {td ty tx : TE} {apos cpos : Pos} (hu : X.A.units + 1 < cLine) (ho : PE X o td) (he : PE X e ty) (hf : PE X f tx) (m : M2 X o "setdefault" apos e f cpos) : PE X (.Call (.Attribute o "setdefault" apos) [e, f] [] cpos) (tSetdT td ty tx) := by
  refine ⟨fun pins s σ H Q I h => ?_⟩
  refine wpAny_Call_method m.base m.few m.line PySem.F.plainAttrs_dict PySem.F.slot_dict_setdefault PySem.F.type_dict_setdefault (thn (ho.run pins s σ H _ I h) fun u s1 ⟨x, H1, I1, rx, a, ex, d, q1⟩ => ?_)
  subst ex
  obtain rfl : u = Value.ref a := rx
  obtain ⟨t1, t2, _⟩ := isD_at I1 d
  refine ⟨t1, t2, ?_⟩
  rw [m.trees]
  refine Calls.callWith_builtin rfl (Calls.evalArgs_plain (Calls.spliced_cons (thn (he.run pins s1 σ H1 _ I1 q1) fun iv s2 ⟨y, H2, I2, ry, q2⟩ =>
    Calls.spliced_cons (thn (hf.run pins s2 σ H2 _ I2 q2) fun fv s3 ⟨z, H3, I3, rz, kvs, k, b, ea, ey, eb, hl, hn, q3⟩ => Calls.spliced_nil ?_))))
  subst ey
  obtain rfl : iv = Value.ref b := ry
  exact d_setdT hu I3 ea eb rz hl hn fun s4 I4 => ⟨z, _, I4, rz, q3⟩
end
end Lw
namespace Lw
open PySem PySem.Spec PyProof.Rows L2
section
variable {prog : Program} {w : World} {A : Around} {E : Value → Shared → Prop} {s : Shared}
/-! #### t[::-1] of an empty tuple -/
theorem sliceDown0 {sl : Addr} {vl vu vs : Value} {Q : Int × Int × Nat → Shared → Prop} (hs : s.heap.IsSliceOf sl vl vu vs) (pl : IsPart vl none) (pu : IsPart vu none) (ps : IsPart vs (some (-1)))
    (h : Q ((-1 : Int), -1, 0) s) : wpAny (model prog w) A (Builtin.Slice.sliceApplied (.ref sl) (pure ((0 : Nat) : Int))) Q E s := by
  obtain ⟨os, hos, hcs, hds⟩ := id hs
  unfold Builtin.Slice.sliceApplied Builtin.Slice.sliceFields
  refine wpAny_bind (wpAny_bind (wpAny_field hos hds (x := vl) rfl (wpAny_bind (wpAny_field hos hds (x := vu) rfl (wpAny_bind (wpAny_field hos hds (x := vs) rfl (wpAny_pure ?_)))))))
  refine wpAny_bind (HT.slicePart_ ps ?_)
  show wpAny _ _ (if ((-1 : Int) == 0) = true then _ else _) _ _ s
  rw [if_neg (by decide)]
  refine wpAny_bind (HT.slicePart_ pl (wpAny_bind (HT.slicePart_ pu (wpAny_bind (wpAny_pure ?_)))))
  show wpAny _ _ (pure ((-1 : Int), (-1 : Int), Builtin.Slice.slicePlaces (-1) (-1) (-1))) _ _ s
  exact wpAny_pure h
theorem tupDown0 {t sl : Addr} {vl vu vs : Value} {Q : Value → Shared → Prop} (ht : IsTup s.heap t #[]) (hs : s.heap.IsSliceOf sl vl vu vs) (pl : IsPart vl none) (pu : IsPart vu none) (ps : IsPart vs (some (-1)))
    (h : Q (.ref s.heap.objs.size) { s with heap := s.heap.push { cls := .type "tuple", data := .seq #[] } }) : wpAny (model prog w) A (getItem (.ref t) (.ref sl)) Q E s := by
  have hz : sizeOk (.seq (#[] : Array Value)) := by
    show (#[] : Array Value).size ≤ sizeLine
    exact Nat.zero_le _
  obtain ⟨os, hos, hcs, hds⟩ := id hs
  have hTs : s.TypeIs (.ref sl) "slice" := ⟨os, hos, hcs⟩
  unfold getItem
  try with_reducible refine wpAny_holding ?_
  first | refine wpAny_bind (wpAny_pure ?_) | skip
  refine wpAny_bind (wpAny_sequenceKey ht.typeIs (by decide) ?_)
  refine wpAny_bind (wpAny_callSpecial?_slot (name := Str.ofString "__getitem__") ht.typeIs PyProof.Rows.slot_tuple_getitem
    (wpAny_call_entry PyProof.Rows.slot_tuple_getitem ht.typeIs entry_tuple_getitem ?_ (args_tuple_getitem _ _)))
  show wpAny _ _ (Builtin.Tuple.tupleItemsOf (.ref t) >>= _) _ _ s
  refine wpAny_bind (tupleItemsOf_ ht ?_)
  refine wpAny_bind (wpAny_typeOf hTs ?_)
  rw [if_pos (by decide)]
  refine wpAny_bind (sliceDown0 hs pl pu ps ?_)
  show wpAny _ _ (if (((-1 : Int) == 0) && ((-1 : Int) == 1) && ((0 : Nat) == 0)) = true then _ else _) _ _ s
  rw [if_neg (by decide)]
  first
    | exact wpAny_bind (m := Builtin.Tuple.tupleExact _) (wpAny_newObj_type (wpAny_pure ⟨_, rfl, wpAny_pure h⟩) hz)
    | exact wpAny_bind (m := Builtin.Tuple.tupleExact _) (wpAny_newObj_type (wpAny_bind (wpAny_pure (wpAny_pure ⟨_, rfl, wpAny_pure h⟩))) hz)
    | exact wpAny_bind (wpAny_bind (m := Builtin.Tuple.tupleExact _) (wpAny_newObj_type (wpAny_pure (wpAny_pure ⟨_, rfl, wpAny_pure h⟩)) hz))
    | exact wpAny_bind (wpAny_bind (m := Builtin.Tuple.tupleExact _) (wpAny_newObj_type (wpAny_pure ⟨_, rfl, wpAny_pure h⟩) hz))
end
section
variable {X : Cx}
def tDown0 (K : PySem.W.Frag) (te : TE) : TE := fun σ H Q => te σ H fun x H1 => ∃ a, x = .ref a ∧ SqT K H1 a [] ∧ ∀ p, H1 p = none → Q (.ref p) (upd H1 p (.tup []))
theorem pe_down0 {e : Expr} {te : TE} {k : Nat} {p1 p2 p3 pos : Pos} (he : PE X e te)
    (hp : ∀ o i, subscripted (.Slice none none (some (.UnaryOp .USub (.Constant (.int 1) k p1) p2)) p3) false o i = operate [o, i] (getItem o i)) : PE X (.Subscript e (.Slice none none (some (.UnaryOp .USub (.Constant (.int 1) k p1) p2)) p3) pos) (tDown0 X.K te) := by
  refine ⟨fun pins s σ H Q I h => ?_⟩
  refine Subscript_ (thn (he.run pins s σ H _ I h) fun v s1 ⟨x, H1, I1, r1, q1⟩ => ?_)
  obtain ⟨a, ex, hx, q⟩ := q1
  subst ex
  cases r1
  have hst : PO X (some (.UnaryOp .USub (.Constant (.int 1) k p1) p2)) (tPart (tUn (rU fun i => .int (-i)) (tC (.int 1)))) := po_some (pe_un un_neg pe_int)
  refine wpAny_Slice (thn (po_none.run pins s1 σ H1 (fun o H2 => o = none ∧ H2 = H1) I1 ⟨rfl, rfl⟩) fun vl s2 ⟨l, H2, I2, pl, el, e2⟩ => ?_)
  subst el e2
  refine thn (po_none.run pins s2 σ H2 (fun o H3 => o = none ∧ H3 = H2) I2 ⟨rfl, rfl⟩) fun vu s3 ⟨u, H3, I3, pu, eu, e3⟩ => ?_
  subst eu e3
  refine thn (hst.run pins s3 σ H3 (fun o H4 => o = some (-1) ∧ H4 = H3) I3 ⟨1, rfl, -1, rfl, rfl, rfl⟩) fun vs s4 ⟨o, H4, I4, ps, eo, e4⟩ => ?_
  subst eo e4
  have I5 : Inv X pins σ H4 { s4 with heap := s4.heap.push { cls := .type "slice", data := .fields #[vl, vu, vs] } } := I4.kept (t' := s4.toks) fun b ob q => Heap.get?_push_of_some _ q
  obtain ⟨its, r, ht, hz⟩ := I5.tuple hx
  obtain rfl : its = [] := by cases r; rfl
  show wpAny (model X.prog X.w) X.A (subscriptTail e (.Slice none none (some (.UnaryOp .USub (.Constant (.int 1) k p1) p2)) p3) (.ref a) (.ref s4.heap.objs.size)) (EP X pins σ Q) X.xe { s4 with heap := s4.heap.push { cls := .type "slice", data := .fields #[vl, vu, vs] } }
  refine tail_any (ops := [.ref a, .ref s4.heap.objs.size]) ht.typeIs (PyProof.Rows.slot_tuple_getitem.lookup) ?_ (hp _ _)
  refine tupDown0 ht (Heap.IsSliceOf.new _ vl vu vs) pl pu ps ?_
  refine ⟨.ref _, _, I5.laid (t' := s4.toks) (o := .tup []) (fun b ob q => Heap.get?_push_of_some _ q) (Nat.le_refl _) ?_, rfl, q _ (I5.hok.fresh (Nat.le_refl _))⟩
  exact ⟨sz (by simp), [], .nil, ⟨_, Heap.get?_push_size _ rfl, rfl, 0, rfl⟩⟩
end
end Lw
namespace Lw
open PySem PySem.Spec PyProof.Rows L2
/-! #### for i, x in enumerate(t), t a tuple -/
theorem new_enumT (l : Addr) (items : Array Value) (n : Nat) (dct : Option Addr) (sl : Array (Option Value)) :
    Meets (Builtin.«enumerate.__new__» ⟨[.type "enumerate", .ref l], []⟩) (fun _ R s => s.heap.get? l = some { cls := .type "tuple", dict := dct, data := .seq items n, slots := sl } ∧
      R (.ok (.ret (.ref (s.heap.push { cls := .type "tuple_iterator", data := .fields #[.ref l, .int 0 0] }).objs.size)))
        { s with heap := (s.heap.push { cls := .type "tuple_iterator", data := .fields #[.ref l, .int 0 0] }).push { cls := .type "enumerate", data := .fields #[.none, .bool false, .ref s.heap.objs.size, rawInt 0, .none, .none] } }) :=
  .of_wp fun prog w A R s h => by
    obtain ⟨hp, g, d, tk, os⟩ := s
    obtain ⟨hl, h⟩ := h
    have hsub := sub_enumerate
    have hT : Heap.IsTuple (Shared.heap ⟨hp, g, d, tk, os⟩) l items := ⟨_, hl, rfl, n, rfl⟩
    wp_walk using AutoSeq1.wpAny_loadPart' hl
    refine wpAny_stack_any fun st => wpAny_pure ?_
    split
    · rename_i c _ _ _ _ _
      cases (c == Value.type "enumerate")
      · wp_walk using AutoSeq1.wpAny_loadPart' hl, wpAny_pyIter_tuple hT
        exact ⟨_, rfl, h⟩
      · wp_walk using AutoSeq1.wpAny_loadPart' hl, wpAny_pyIter_tuple hT
        exact ⟨_, rfl, h⟩
    · wp_walk using AutoSeq1.wpAny_loadPart' hl, wpAny_pyIter_tuple hT
      exact ⟨_, rfl, h⟩
section
variable {prog : Program} {w : World} {A : Around} {E : Value → Shared → Prop} {s : Shared}
theorem call_enumT {l : Addr} {items : Array Value} {Q : Value → Shared → Prop} (hL : IsTup s.heap l items)
    (h : ∀ h', IsEnum h' (s.heap.objs.size + 1) s.heap.objs.size 0 .none → h'.IsTupleIter s.heap.objs.size l 0 → h'.objs.size = s.heap.objs.size + 2 →
      (∀ b o, s.heap.get? b = some o → h'.get? b = some o) → Q (.ref (s.heap.objs.size + 1)) { s with heap := h' }) : wpAny (model prog w) A (call (.type "enumerate") [.ref l]) Q E s := by
  obtain ⟨⟨c, dct, dt, sl⟩, hl, hc, n, hd⟩ := hL
  replace hc : c = .type "tuple" := hc
  replace hd : dt = .seq items n := hd
  subst hc hd
  refine callType_new PySem.F.called_enumerate (by decide) (PySem.F.typeCall_enumerate_1 _) (PySem.F.newCall_enumerate_1 _) (fun obj => PySem.F.args_object_init_2 obj _) PySem.F.entry_enumerate_new (new_enumT l items n dct sl) ⟨hl, ?_⟩
  have hz : (s.heap.push { cls := .type "tuple_iterator", data := .fields #[.ref l, .int 0 0] }).objs.size = s.heap.objs.size + 1 := Heap.size_push ..
  show _ ∧ _
  rw [hz]
  have he : IsEnum ((s.heap.push { cls := .type "tuple_iterator", data := .fields #[.ref l, .int 0 0] }).push { cls := .type "enumerate", data := .fields #[.none, .bool false, .ref s.heap.objs.size, rawInt 0, .none, .none] }) (s.heap.objs.size + 1) s.heap.objs.size 0 .none := by
    have := Heap.get?_push_size (s.heap.push { cls := .type "tuple_iterator", data := .fields #[.ref l, .int 0 0] }) (o := { cls := .type "enumerate", data := .fields #[.none, .bool false, .ref s.heap.objs.size, rawInt 0, .none, .none] }) rfl
    rw [hz] at this
    exact this
  exact ⟨⟨_, he, rfl⟩, h _ he ⟨_, Heap.get?_push_of_some _ (Heap.get?_push_size _ rfl), rfl, rfl⟩ (by rw [Heap.size_push, hz]) fun b o x => Heap.get?_push_of_some _ (Heap.get?_push_of_some _ x)⟩
end
def IteT (K : PySem.W.Frag) (a : Addr) : It :=
  ⟨fun i H => ∃ (xs : List V) (x : V), SqT K H a xs ∧ xs[i]? = some x, fun i H v H' => ∃ T x, v = .ref T ∧ H T = none ∧ H' = upd H T (.tup [.int (i : Nat), x]) ∧ ∀ xs, SqT K H a xs → xs[i]? = some x, fun i H => ∃ xs : List V, SqT K H a xs ∧ xs.length ≤ i⟩
theorem isTuple_of {h : Heap} {a : Addr} {its : Array Value} (p : IsTup h a its) : h.IsTuple a its := let ⟨o, h1, h2, n, h3⟩ := p; ⟨o, h1, h2, n, h3⟩
theorem turn_enumT {P : Program} {w : World} {K : PySem.W.Frag} {elts : List Expr} {kk : Nat} {tpos : Pos} (a e it : Addr) :
    Turn P w K (.Tuple elts kk tpos) (IteT K a) [e, it] e (fun i h => (∃ old, IsEnum h e it ((i : Nat) : Int) old) ∧ h.IsTupleIter it a i ∧ e ≠ it ∧ a ≠ it ∧ a ≠ e) where
  mem := by simp
  obj := fun i h st b hb => by
    obtain ⟨⟨old, he⟩, ⟨o, ho, hc, hd⟩, _⟩ := st
    have e' : b = e ∨ b = it := by simpa using hb
    rcases e' with z | z
    · rw [z]; exact ⟨_, he, fun v q => nomatch q⟩
    · rw [z]; exact ⟨o, ho, fun v q => by rw [hd] at q; cases q⟩
  keep := fun i h h' st k => let ⟨⟨old, he⟩, hi, hne⟩ := st; ⟨⟨old, k e (by simp) _ he⟩, hi.at fun o q => k it (by simp) o q, hne⟩
  item := by
    intro X hP hw hK hc i pins s σ H E I hf st hg
    subst hP hw hK
    obtain ⟨⟨old, he⟩, hit, hne, hai, hae⟩ := st
    obtain ⟨xs, x, hq, hx⟩ := hg
    obtain ⟨its, rv, p, hz⟩ := I.tuple hq
    obtain ⟨u, hu, ru⟩ := rv.get hx
    have hel : e < s.heap.objs.size := Heap.lt_size he
    have hil : it < s.heap.objs.size := by obtain ⟨_, q, _⟩ := hit; exact Heap.lt_size q
    have D := Draws.tuple (prog := X.prog) (w := X.w) (A := X.A.in1) (I.ok.hd hc) it a hai its.toArray
    have ilt : i < its.toArray.size := by
      have := (List.getElem?_eq_some_iff.mp hu).1
      simpa using this
    refine wpAny_pyNext_enum_itemD D he ⟨hit, isTuple_of p⟩ ilt hne (by simp; exact ⟨hne, fun z => hae z.symm⟩) fun x' h' tk hx' ho hst' hT hsz hk => ?_
    have ex : x' = u := by
      have q : its.toArray[i]? = some x' := hx'
      rw [List.getElem?_toArray, hu] at q
      exact (Option.some.inj q).symm
    subst ex
    refine ⟨_, rfl, wpAny_letOwnedTupleGo_enum (s := { s with heap := h', toks := tk + 1 }) ho fun h'' he' sb => ?_⟩
    have hT2 : h''.get? s.heap.objs.size = some { cls := .type "tuple", data := .seq #[.int i tk, x'] } := (sb.2 _ (Nat.ne_of_gt hel)).trans hT
    have new : ObjOk X.prog X.w (upd H s.heap.objs.size (.tup [.int (i : Nat), x])) h'' s.heap.objs.size (.tup [.int (i : Nat), x]) :=
      ⟨sz (by simp), [.int i tk, x'], .cons ⟨_, rfl⟩ (.cons ru .nil), ⟨_, hT2, rfl, _, rfl⟩⟩
    have I1 : Inv X pins σ (upd H s.heap.objs.size (.tup [.int (i : Nat), x])) { s with heap := h'', toks := tk + 1 } :=
      I.turnedNew (ch := [e, it]) (fun b ob hb q => (sb.2 b (fun z => hb (by simp [z]))).trans (hk b ob (fun z => hb (by simp [z])) (fun z => hb (by simp [z])) q)) hf (Nat.le_refl _) new
    refine ⟨.ref s.heap.objs.size, _, I1, rfl, ⟨_, x, rfl, I.hok.fresh (Nat.le_refl _), rfl, fun ys hy => by rw [I.tuple_inj hy hq]; exact hx⟩, ⟨⟨x', ?_⟩, hst'.1.at fun o q => (sb.2 it (Ne.symm hne)).trans q, hne, hai, hae⟩, fun b hb => ?_⟩
    · have e1 : ((i + 1 : Nat) : Int) = (i : Int) + 1 := by omega
      rw [e1]; exact he'
    · have hb' : b < s.heap.objs.size := by
        have e' : b = e ∨ b = it := by simpa using hb
        rcases e' with z | z
        · rw [z]; exact hel
        · rw [z]; exact hil
      rw [upd_ne (Nat.ne_of_lt hb')]
      exact (hf b hb).1
  done := by
    intro X hP hw hK hc i pins s σ H E I hf st hg
    subst hP hw hK
    obtain ⟨⟨old, he⟩, hit, hne, hai, hae⟩ := st
    obtain ⟨xs, hq, hx⟩ := hg
    obtain ⟨its, rv, p, hz⟩ := I.tuple hq
    obtain ⟨f0, f1, f2, f3, f4, f5⟩ := hf it (by simp)
    have hl := rv.length
    have hT : s.TypeIs (.ref e) "enumerate" := ⟨_, he, rfl⟩
    unfold pyNext
    refine wpAny_bind (wpAny_attempt (wpAny_callSpecial?_slot (name := Str.ofString "__next__") hT PySem.F.slot_enumerate_next
      (wpAny_call_entry PySem.F.slot_enumerate_next hT PySem.F.entry_enumerate_next ?_ (PySem.F.args_enumerate_next_1 _))))
    show wpAny _ _ (field (.ref e) 2 >>= _) _ _ _
    refine wpAny_bind (wpAny_field he rfl (x := .ref it) rfl ?_)
    refine wpAny_bind (wpAny_nextOf_tuple_end (I.ok.hd hc) hit (isTuple_of p) (by simp; omega) fun h' x he' hx' => ?_)
    obtain ⟨o, ho, hco⟩ := hx'
    refine wpAny_bind (wpAny_isInstance (T := "StopIteration") (b := true) ⟨o, ho, hco⟩ isSubtype_stop ?_)
    exact wpAny_pure ⟨rfl, I.turned (t' := s.toks) (fun b o hb q => he' b o hb q) f0 f1 f3 f4 f5⟩
  self := fun A i s Q E st h => let ⟨⟨_, he⟩, _⟩ := st; wpAny_pyIter_enum he h
def iEnumT (K : PySem.W.Frag) (ta : TA) : TI := fun σ H R => ta σ H fun vs H1 => ∃ a xs, vs = [.ref a] ∧ SqT K H1 a xs ∧ R (IteT K a) H1
theorem pi_enumT {X : Cx} {e : Expr} {ta : TA} {p pos tpos : Pos} {elts : List Expr} {kk : Nat} (hm : X.mg "enumerate" = none) (ha : PA X [e] ta) (hg : Gl X "enumerate" := by rfl) (hs : starEach [e] X.env = [(false, eval e X.env)] := by rfl) :
    PI X (.Tuple elts kk tpos) (.Call (.Name "enumerate" p) [e] [] pos) (iEnumT X.K ta) := by
  refine ⟨fun pins s σ H R I h => ?_⟩
  refine Call_ (ld_blt I hg hm boot_enumerate (PyProof.Rows.callWith_type1 (thn (ha.run pos pins s σ H _ I h) fun us s1 ⟨vs, H1, I1, r1, q1⟩ => ?_) hs rfl))
  obtain ⟨a, xs, ex, hq, q⟩ := q1
  subst ex
  cases r1 with
  | cons r rr =>
    cases rr
    cases r
    obtain ⟨its, rv, p', hz⟩ := I1.tuple hq
    have hal : a < s1.heap.objs.size := by obtain ⟨o, h1, _⟩ := p'; exact Heap.lt_size h1
    refine call_enumT p' fun h' he hit hsz hk => wpAny_pyIter_enum he ?_
    have I2 : Inv X pins σ H1 { s1 with heap := h' } := I1.kept (t' := s1.toks) hk
    refine ⟨s1.heap.objs.size + 1, [s1.heap.objs.size + 1, s1.heap.objs.size], _, _, H1, rfl, I2, turn_enumT a (s1.heap.objs.size + 1) s1.heap.objs.size, ⟨⟨.none, he⟩, hit, Nat.succ_ne_self _, Nat.ne_of_lt hal, Nat.ne_of_lt (Nat.lt_succ_of_lt hal)⟩, fun b hb => ?_, q⟩
    have e' : b = s1.heap.objs.size + 1 ∨ b = s1.heap.objs.size := by simpa using hb
    rcases e' with z | z
    · rw [z]; exact I1.fpOk (by omega) (I1.hok.fresh (by omega))
    · rw [z]; exact I1.fpOk (Nat.le_refl _) (I1.hok.fresh (Nat.le_refl _))
theorem walk_enumT {K : PySem.W.Frag} {a : Addr} {xs : List V} : Walk (IteT K a) xs.length (fun H => SqT K H a xs) (YPair (fun i => some (.int (i : Nat))) (fun i => xs[i]?)) := by
  refine ⟨fun i _ hi q => ⟨xs, xs[i], q, by simp [hi]⟩, fun _ q => ⟨xs, q, Nat.le_refl _⟩, fun i H v H' _ q y => ?_⟩
  obtain ⟨T, x, h1, h2, h3, h4⟩ := y
  exact ⟨T, .int (i : Nat), x, h1, h2, h3, rfl, h4 xs q⟩
end Lw
namespace Lw
open PySem PySem.Spec PyProof.Rows L2
section
variable {P : Program} {w : World} {K : PySem.W.Frag} {mg : Str → Option Value} {base : Heap}
/-! ### graphs of one node, an int -/
/-- at q: the node of an int -/
abbrev IntAt (H : Hp) (q : Addr) (z : Int) : Prop := H q = some (.tup [.str "int", .int z])
theorem int_ne {a : Str} {z : Str} (h : z ≠ a) : ¬ V.str z = V.str a := fun y => h (V.str.inj y)
def spParts : Sp := fun vs H Q _ => ∃ (q : Addr) (z : Int), vs = [.ref q] ∧ IntAt H q z ∧ ∀ p, H p = none → Q (.ref p) (upd H p (.tup []))
theorem f_parts (T : Tx K mg) : Cal P w K mg base 1 "parts_of" spParts := by
  have sc : FnScope ["node"] ["node"] (defScope s_parts_of) := ⟨rfl, rfl, rfl, by decide +kernel, rfl, by decide +kernel, by decide +kernel⟩
  refine cal_ T.g_parts_of T.f_parts_of sc (fun _ _ _ _ _ _ us hl => match us, hl with | [_], _ => rfl) (fun vs H Q E h => ?_) (fun cdv A outer s H vs Q E hr h => ?_)
  · obtain ⟨_, _, rfl, _⟩ := h
    rfl
  · obtain ⟨q, z, rfl, hq, k⟩ := h
    refine ⟨_, pss_cons (ps_if (pt_cmpR op_eq (pe_ix ix_tup (pv 0) pe_int (fun _ _ => rfl)) pe_str (nomark _)) pss_never pss_nil) (pss_one (ps_ret (pe_tup pa_nil))), ?_⟩
    exact ⟨_, rfl, _, _, _, _, rfl, rfl, SqT.of hq, atI_nat (j := 0) rfl, rfl, _, rfl, ifF (int_ne (by decide +kernel)) ⟨sz (by simp), k⟩⟩
def spHead : Sp := fun vs H Q _ => ∃ (q : Addr) (z : Int), vs = [.ref q] ∧ IntAt H q z ∧ Q (.ref q) H
theorem f_head (T : Tx K mg) : Cal P w K mg base 1 "head_of" spHead := by
  have sc : FnScope ["node"] ["node"] (defScope s_head_of) := ⟨rfl, rfl, rfl, by decide +kernel, rfl, by decide +kernel, by decide +kernel⟩
  refine cal_ T.g_head_of T.f_head_of sc (fun _ _ _ _ _ _ us hl => match us, hl with | [_], _ => rfl) (fun vs H Q E h => ?_) (fun cdv A outer s H vs Q E hr h => ?_)
  · obtain ⟨_, _, rfl, _⟩ := h
    rfl
  · obtain ⟨q, z, rfl, hq, k⟩ := h
    refine ⟨_, pss_cons (ps_if (pt_cmpR op_eq (pe_ix ix_tup (pv 0) pe_int (fun _ _ => rfl)) pe_str (nomark _)) pss_never pss_nil) (pss_one (ps_ret (pv 0))), ?_⟩
    exact ⟨_, rfl, _, _, _, _, rfl, rfl, SqT.of hq, atI_nat (j := 0) rfl, rfl, _, rfl, ifF (int_ne (by decide +kernel)) ⟨_, rfl, k⟩⟩
/-- numbered of one key -/
def spNumb (K : PySem.W.Frag) : Sp := fun vs H Q _ => ∃ (l q : Addr) (ks : List Key), vs = [.ref l] ∧ H l = some (.lst [.ref q]) ∧ H q = some (.tup (ks.map kV)) ∧ ∀ p H', H p = none → Ex H H' → H' p = some (.lst [.int 0]) → Q (.ref p) H'
theorem f_numb (T : Tx K mg) : Cal P w K mg base 1 "numbered" (spNumb K) := by
  have sc : FnScope ["keys", "table", "key"] ["keys"] (defScope s_numbered) := ⟨rfl, rfl, rfl, by decide +kernel, rfl, by decide +kernel, by decide +kernel⟩
  refine cal_ T.g_numbered T.f_numbered sc (fun _ _ _ _ _ _ us hl => match us, hl with | [_], _ => rfl) (fun vs H Q E h => ?_) (fun cdv A outer s H vs Q E hr h => ?_)
  · obtain ⟨_, _, _, rfl, _⟩ := h
    rfl
  · obtain ⟨l, q, ks, rfl, hl, hq, k⟩ := h
    have hu := hu_of hr
    refine ⟨_, pss_cons (ps_set (i := 1) sc.nd rfl (Or.inr rfl) pe_dnewT)
      (pss_one (ps_ret (pe_lc (own := [("key", 2)]) (g := gName 2) (te := tSetdT (tVar 1) (tVar 2) (tCB rLenT (tCons (tVar 1) tNil))) rfl sc.nd (pi_list (pv 0)) (blkOk_by (N := ["keys", "table", "key"]) (sc := defScope s_numbered) (by decide +kernel))
        (fun _ _ _ _ _ => pg_name (i := 2) sc.nd rfl (Or.inl rfl)) (fun _ _ _ _ _ => pts_nil) (fun _ _ _ _ _ => pe_setdT hu (pv 1) (pv 2) (pe_callB call_len_dT (by rfl) T.z_len PySem.boot_len (pa_cons (pv 1) pa_nil)) ⟨rfl, rfl, rfl, rfl⟩)))), ?_⟩
    intro d hd
    have e1 := Ex.new (o := .dT []) hd
    refine ⟨_, rfl, l, rfl, ⟨_, SqL.of (e1 _ _ hl)⟩, fun D hD => ?_⟩
    have dD : d ≠ D := fun z => by rw [← z, upd_same] at hD; cases hD
    have hD0 := e1.free hD
    let Pv : Nat → Hp → Prop := fun i H' => But [d, D] H H' ∧ (i = 0 → H' d = some (.dT []) ∧ H' D = some (.lst [])) ∧ (i = 1 → H' D = some (.lst [.int 0]))
    have nn := none2 hd hD0
    refine lc_it (walk_list (K := K) (a := l) (xs := [V.ref q])) Pv ⟨?_, fun _ => ⟨by rw [upd_ne dD]; exact upd_same, upd_same⟩, fun h => by cases h⟩ (fun i H' _ p => SqL.of (p.1.exN nn _ _ hl)) (fun i x H' H2 hi p y => ?_) (fun H' p => ?_)
    · exact (e1.but).trans (But.set (by simp))
    · obtain ⟨rfl, hx⟩ := y
      have i0 : i = 0 := by simp at hi; exact hi
      subst i0
      obtain rfl : V.ref q = x := by simpa using hx
      obtain ⟨g1, g2⟩ := p.2.1 rfl
      have gq := p.1.exN nn _ _ hq
      refine ⟨rfl, _, rfl, d, rfl, .inr ⟨_, .inl g1⟩, _, rfl, _, rfl, d, _, rfl, g1, [], ks, q, g1, rfl, gq, szl (by simp), rfl, ?_⟩
      refine ⟨[], by rw [upd_ne dD.symm]; exact g2, szl (by simp), p.1.trans ((But.set (by simp)).trans (But.set (by simp))), (fun h => by cases h), fun _ => upd_same⟩
    · have e := p.2.2 rfl
      exact k D H' hD0 (p.1.exN nn) e
/-- classes of a graph of one int -/
def spClasses (K : PySem.W.Frag) : Sp := fun vs H Q _ => ∃ (g q : Addr) (z : Int), vs = [.ref g] ∧ H g = some (.tup [.ref q]) ∧ IntAt H q z ∧ ∀ p H', H p = none → Ex H H' → H' p = some (.lst [.int 0]) → Q (.ref p) H'
theorem f_classes (T : Tx K mg) : Cal P w K mg base 2 "classes" (spClasses K) := by
  have sc : FnScope ["graph", "found", "count", "keys", "at", "node", "part"] ["graph"] (defScope s_classes) := ⟨rfl, rfl, rfl, by decide +kernel, rfl, by decide +kernel, by decide +kernel⟩
  refine cal_ T.g_classes T.f_classes sc (fun _ _ _ _ _ _ us hl => match us, hl with | [_], _ => rfl) (fun vs H Q E h => ?_) (fun cdv A outer s H vs Q E hr h => ?_)
  · obtain ⟨_, _, _, rfl, _⟩ := h
    rfl
  · obtain ⟨g, q, z, rfl, hg, hq, k⟩ := h
    obtain ⟨t, mN⟩ := T.i_MOST_NODES
    refine ⟨_, pss_cons (ps_set (i := 1) sc.nd rfl (Or.inr rfl) (pe_c (f_numb T) hr (pa_cons (pe_lc (own := [("node", 5)]) (g := gName 5) (te := tCl spHead (tCons (tVar 5) tNil)) rfl sc.nd (pi_tup (pv 0)) (blkOk_by (N := ["graph", "found", "count", "keys", "at", "node", "part"]) (sc := defScope s_classes) (by decide +kernel))
        (fun _ _ _ _ _ => pg_name (i := 5) sc.nd rfl (Or.inl rfl)) (fun _ _ _ _ _ => pts_nil) (fun _ _ _ _ _ => pe_c (f_head T) hr (pa_cons (pv 5) pa_nil))) pa_nil)))
      (pss_cons (ps_set (i := 2) sc.nd rfl (Or.inl rfl) pe_int)
      (pss_cons (ps_while PassesOwn.never (pt_cmpR op_gt (RZ.pe_lenSetI rfl T.z_len rfl T.z_set (pv 1)) (pv 2) (nomark _))
        (pss_cons (ps_set (i := 2) sc.nd rfl (Or.inl rfl) (RZ.pe_lenSetI rfl T.z_len rfl T.z_set (pv 1)))
        (pss_cons (ps_if (pt_cmpR op_gt (pv 2) (pe_gi mN) (nomark _)) pss_never pss_nil)
        (pss_cons (ps_set (i := 3) sc.nd rfl (Or.inl rfl) (pe_lst pa_nil))
        (pss_cons (ps_for PassesOwn.never rfl (pi_enumT T.z_enumerate (pa_cons (pv 0) pa_nil)) (pg_tup rfl (pgs_cons (pg_name (i := 4) sc.nd rfl (Or.inl rfl)) (pgs_cons (pg_name (i := 5) sc.nd rfl (Or.inl rfl)) pgs_nil)))
          (pss_one (ps_expr (pe_bm PySem.F.plainAttrs_list PySem.F.slot_list_append PySem.F.type_list_append mt_append (pv 3) (pa_cons (pe_op op_catA (pe_tup (pa_cons (pe_ix ix_list (pv 1) (pv 4) (fun _ _ => rfl)) pa_nil))
            (pe_callTy call_tuple_of (by rfl) T.z_tuple (by decide +kernel) (pa_cons (pe_lc (own := [("part", 6)]) (g := gName 6) (te := tOp (rIxL K) (tVar 1) (tVar 6)) rfl sc.nd (pi_tup (pe_c (f_parts T) hr (pa_cons (pv 5) pa_nil))) (blkOk_by (N := ["graph", "found", "count", "keys", "at", "node", "part"]) (sc := defScope s_classes) (by decide +kernel))
              (fun _ _ _ _ _ => pg_name (i := 6) sc.nd rfl (Or.inl rfl)) (fun _ _ _ _ _ => pts_nil) (fun _ _ _ _ _ => pe_ix ix_list (pv 1) (pv 6) (fun _ _ => rfl))) pa_nil))) pa_nil)))))
        (pss_one (ps_set (i := 1) sc.nd rfl (Or.inr rfl) (pe_c (f_numb T) hr (pa_cons (pv 3) pa_nil)))))))))
      (pss_one (ps_ret (pv 1))))), ?_⟩
    -- [head_of(node) for node in graph]
    refine ⟨_, rfl, g, rfl, ⟨_, SqT.of hg⟩, fun D hD => ?_⟩
    have nD := none1 hD
    refine lc_it (walk_tup (K := K) (a := g) (xs := [V.ref q])) (fun i H' => But [D] H H' ∧ (i = 0 → H' D = some (.lst [])) ∧ (i = 1 → H' D = some (.lst [.ref q]))) ⟨(Ex.new hD).but, fun _ => upd_same, (fun h => by cases h)⟩ (fun i H' _ p => SqT.of (p.1.exN nD _ _ hg)) (fun i x H' H2 hi p y => ?_) (fun H1 p => ?_)
    · obtain ⟨rfl, hx⟩ := y
      have i0 : i = 0 := by simp at hi; exact hi
      subst i0
      obtain rfl : V.ref q = x := by simpa using hx
      refine ⟨rfl, _, rfl, q, z, rfl, p.1.exN nD _ _ hq, ?_⟩
      exact ⟨[], p.2.1 rfl, szl (by simp), p.1.trans (But.set (by simp)), (fun h => by cases h), fun _ => upd_same⟩
    have x1 := p.1.exN nD
    refine ⟨D, q, [.inr "int", .inl z], rfl, p.2.2 rfl, x1 _ _ hq, fun p0 H2 hp0 x2 h0 => ?_⟩
    have x12 := x1.trans x2
    -- count = 0; while ..
    let W : Nat → L2.St → Hp → Prop := fun m σ H' => Ex H H' ∧ ∃ p1 x3 x4 x5 x6, H p1 = none ∧ H' p1 = some (.lst [.int 0]) ∧ ((m = 1 ∧ σ = [some (.ref g), some (.ref p1), some (.int 0), x3, x4, x5, x6]) ∨ (m = 0 ∧ σ = [some (.ref g), some (.ref p1), some (.int 1), x3, x4, x5, x6]))
    refine ⟨W, ⟨1, x12, p0, _, _, _, _, x1.free hp0, h0, .inl ⟨rfl, rfl⟩⟩, ?_⟩
    rintro m σ H3 ⟨x3, p1, y3, y4, y5, y6, hn1, h1, (⟨rfl, rfl⟩ | ⟨rfl, rfl⟩)⟩
    · refine ⟨_, rfl, p1, [0], rfl, SqL.of h1, by simp, by simp, _, rfl, _, _, rfl, rfl, _, rfl, ifT (by decide) ⟨fun σ' H' => ∃ m', m' < 1 ∧ W m' σ' H', fun _ _ h => h, ?_⟩⟩
      refine ⟨_, rfl, p1, [0], rfl, SqL.of h1, by simp, by simp, ?_⟩
      refine ⟨_, rfl, _, _, rfl, rfl, _, rfl, ifF (by decide) ?_⟩
      refine ⟨sz (by simp), fun kl hkl => ?_⟩
      have e4 := Ex.new (o := .lst []) hkl
      have x4 := x3.trans e4
      have nk := none1 hkl
      refine ⟨_, rfl, g, [.ref q], rfl, SqT.of (x4 _ _ hg), ?_⟩
      refine for_it walk_enumT (fun i σ H' => But [kl] H3 H' ∧ ∃ z4 z5, σ = [some (.ref g), some (.ref p1), some (.int 1), some (.ref kl), z4, z5, y6] ∧ (i = 0 → H' kl = some (.lst [])) ∧ (i = 1 → ∃ t, H' kl = some (.lst [.ref t]) ∧ H' t = some (.tup [.int 0]))) ⟨e4.but, _, _, rfl, fun _ => upd_same, (fun h => by cases h)⟩ (fun i σ H' _ p => SqT.of (p.1.exN nk _ _ (x3 _ _ hg))) (fun i x σ H' H5 hi p y => ?_) (fun σ H5 p => ?_)
      · have i0 : i = 0 := by simp at hi; exact hi
        subst i0
        obtain ⟨b, z4, z5, rfl, k0, _⟩ := p
        have k0 := k0 rfl
        obtain ⟨Tn, a, b2, rfl, hT, rfl, ha, hb⟩ := y
        obtain rfl : V.int ((0 : Nat) : Int) = a := by simpa using ha
        obtain rfl : V.ref q = b2 := by simpa using hb
        have xb := x3.trans (b.exN nk)
        have a1 := Ex.new (o := .tup [.int ((0 : Nat) : Int), .ref q]) hT
        refine ⟨_, _, rfl, SqT.of upd_same, rfl, _, _, rfl, _, _, rfl, rfl, ?_⟩
        have g1 := (b.exN nk) _ _ h1
        refine ⟨_, rfl, .inl ⟨rfl, _, SqL.of (a1 _ _ k0)⟩, _, rfl, _, rfl, _, _, _, _, rfl, rfl, SqL.of (a1 _ _ g1), atI_nat (j := 0) rfl, sz (by simp), fun t1 ht1 => ?_⟩
        have a2 := Ex.new (o := .tup [.int 0]) ht1
        refine ⟨_, rfl, q, z, rfl, a2 _ _ (a1 _ _ (xb _ _ hq)), fun e0 he0 => ⟨e0, rfl, ⟨_, SqT.of upd_same⟩, fun D2 hD2 => ?_⟩⟩
        have a3 := Ex.new (o := .tup []) he0
        have a4 := Ex.new (o := .lst []) hD2
        refine lc_it (walk_tup (K := K) (a := e0) (xs := [])) (fun _ H' => H' = upd (upd (upd (upd _ Tn _) t1 _) e0 _) D2 (.lst [])) rfl (fun _ _ _ e => by rw [e]; exact SqT.of (a4 _ _ upd_same)) (fun i _ _ _ hi => absurd hi (Nat.not_lt_zero _)) (fun H' e => ?_)
        subst e
        refine ⟨D2, [], rfl, .inl ⟨SqL.of upd_same, fun l hl => ?_⟩⟩
        have a5 := Ex.new (o := .tup []) hl
        have a25 := (a3.trans a4).trans a5
        refine ⟨t1, l, [.int 0], [], rfl, rfl, SqT.of (a25 _ _ upd_same), SqT.of upd_same, sz (by simp), (fun h => by cases h), (fun _ _ => ?_), (fun _ h => absurd rfl h)⟩
        have a15 := (a1.trans a2).trans a25
        refine ⟨_, _, _, rfl, rfl, a15 _ _ k0, szl (by simp), ?_⟩
        refine ⟨b.trans (a15.but.trans (But.set (by simp))), _, _, rfl, (fun h => by cases h), fun _ => ⟨t1, upd_same, ?_⟩⟩
        rw [upd_ne (ne_of (a25 _ _ upd_same) (a15 _ _ k0) (fun y => nomatch y))]
        exact a25 _ _ upd_same
      · obtain ⟨b, z4, z5, rfl, _, k1⟩ := p
        obtain ⟨t, k2, k3⟩ := k1 rfl
        have xb := x3.trans (b.exN nk)
        refine ⟨_, rfl, kl, t, [.inl 0], rfl, k2, k3, fun p2 H6 hp2 x6 h6 => ?_⟩
        exact ⟨0, by omega, xb.trans x6, p2, _, _, _, _, xb.free hp2, h6, .inr ⟨rfl, rfl⟩⟩
    · refine ⟨_, rfl, p1, [0], rfl, SqL.of h1, by simp, by simp, _, rfl, _, _, rfl, rfl, _, rfl, ifF (by decide) ⟨_, rfl, k p1 H3 hn1 x3 h1⟩⟩
end
end Lw
namespace Lw
open PySem PySem.Spec PyProof.Rows L2
section
variable {P : Program} {w : World} {K : PySem.W.Frag} {mg : Str → Option Value} {base : Heap}
/-- least, checked of a graph of one int: a new tuple of the same node -/
def spLeast (K : PySem.W.Frag) : Sp := fun vs H Q _ => ∃ (g q : Addr) (z : Int), vs = [.ref g] ∧ H g = some (.tup [.ref q]) ∧ IntAt H q z ∧ ∀ p H', H p = none → Ex H H' → H' p = some (.tup [.ref q]) → Q (.ref p) H'
theorem f_least (T : Tx K mg) : Cal P w K mg base 3 "least" (spLeast K) := by
  have sc : FnScope ["graph", "kinds", "order", "firsts", "waiting", "at", "found", "node", "part"] ["graph"] (defScope s_least) := ⟨rfl, rfl, rfl, by decide +kernel, rfl, by decide +kernel, by decide +kernel⟩
  refine cal_ T.g_least T.f_least sc (fun _ _ _ _ _ _ us hl => match us, hl with | [_], _ => rfl) (fun vs H Q E h => ?_) (fun cdv A outer s H vs Q E hr h => ?_)
  · obtain ⟨_, _, _, rfl, _⟩ := h
    rfl
  · obtain ⟨g, q, z, rfl, hg, hq, k⟩ := h
    have hu := hu_of hr
    refine ⟨_, pss_cons (ps_set (i := 1) sc.nd rfl (Or.inr rfl) (pe_c (f_classes T) hr (pa_cons (pv 0) pa_nil)))
      (pss_cons (ps_set (i := 2) sc.nd rfl (Or.inr rfl) pe_dnewK)
      (pss_cons (ps_set (i := 3) sc.nd rfl (Or.inl rfl) (pe_lst pa_nil))
      (pss_cons (ps_set (i := 4) sc.nd rfl (Or.inl rfl) (pe_lst (pa_cons pe_int pa_nil)))
      (pss_cons (ps_while PassesOwn.never (pt_truth (pv 4) (by intro _; rfl))
        (pss_cons (ps_set (i := 5) sc.nd rfl (Or.inl rfl) (pe_bm0 PySem.F.plainAttrs_list PySem.F.slot_list_pop PySem.F.type_list_pop mt_pop (pv 4)))
        (pss_one (ps_if (pt_cmp (pc_dnotin hu (pe_ix ix_list (pv 1) (pv 5) (fun _ _ => rfl)) (pv 2)))
          (pss_cons (ps_dput hu (pv 2) (pe_ix ix_list (pv 1) (pv 5) (fun _ _ => rfl)) (pe_callB call_len_seq (by rfl) T.z_len PySem.boot_len (pa_cons (pv 3) pa_nil)) rfl)
          (pss_cons (ps_expr (pe_bm PySem.F.plainAttrs_list PySem.F.slot_list_append PySem.F.type_list_append mt_append (pv 3) (pa_cons (pv 5) pa_nil)))
          (pss_one (ps_expr (pe_bm PySem.F.plainAttrs_list PySem.F.slot_list_extend PySem.F.type_list_extend mt_extT (pv 4) (pa_cons (pe_down0 (pe_c (f_parts T) hr (pa_cons (pe_ix ix_tup (pv 0) (pv 5) (fun _ _ => rfl)) pa_nil)) (fun _ _ => rfl)) pa_nil)))))) pss_nil))))
      (pss_cons (ps_set (i := 6) sc.nd rfl (Or.inl rfl) (pe_lst pa_nil))
      (pss_cons (ps_for PassesOwn.never rfl (pi_list (pv 3)) (pg_name (i := 5) sc.nd rfl (Or.inl rfl))
        (pss_cons (ps_set (i := 7) sc.nd rfl (Or.inl rfl) (pe_ix ix_tup (pv 0) (pv 5) (fun _ _ => rfl)))
        (pss_cons (ps_if (pt_cmpR op_eq (pe_ix ix_tup (pv 7) pe_int (fun _ _ => rfl)) pe_str (nomark _)) pss_never pss_nil)
        (pss_one (ps_expr (pe_bm PySem.F.plainAttrs_list PySem.F.slot_list_append PySem.F.type_list_append mt_append (pv 6) (pa_cons (pv 7) pa_nil)))))))
      (pss_one (ps_ret (pe_callTy call_tuple_of (by rfl) T.z_tuple (by decide +kernel) (pa_cons (pv 6) pa_nil)))))))))), ?_⟩
    refine ⟨_, rfl, g, q, z, rfl, hg, hq, fun c H1 hc x1 h1 => ?_⟩
    intro d hd
    refine ⟨sz (by simp), fun f hf => ⟨sz (by simp), fun wl hwl => ?_⟩⟩
    have e1 := Ex.new (o := .dK []) hd
    have e2 := Ex.new (o := .lst []) hf
    have e3 := Ex.new (o := .lst [.int 0]) hwl
    have e13 := (e1.trans e2).trans e3
    have xw : wl ≠ f := fun y => by rw [y, upd_same] at hwl; cases hwl
    have dw : d ≠ wl := ne_of_none (e2 _ _ upd_same) hwl
    have df : d ≠ f := ne_of_none upd_same hf
    have hd1 := hd
    have hf1 := e1.free hf
    have hw1 := (e1.trans e2).free hwl
    have nn : ∀ x ∈ [d, f, wl], H1 x = none := fun x m => by
      rcases List.mem_cons.mp m with m | m
      · rw [m]; exact hd1
      · exact none2 hf1 hw1 x m
    generalize hH2 : upd (upd (upd H1 d (.dK [])) f (.lst [])) wl (.lst [.int 0]) = H2 at *
    have gd : H2 d = some (.dK []) := (e2.trans e3) _ _ upd_same
    have gf : H2 f = some (.lst []) := e3 _ _ upd_same
    have gw : H2 wl = some (.lst [.int 0]) := by rw [← hH2]; exact upd_same
    let W : Nat → L2.St → Hp → Prop := fun m σ H' => But [d, f, wl] H1 H' ∧ (∃ y5, σ = [some (.ref g), some (.ref c), some (.ref d), some (.ref f), some (.ref wl), y5, none, none, none]) ∧
      ((m = 1 ∧ H' d = some (.dK []) ∧ H' f = some (.lst []) ∧ H' wl = some (.lst [.int 0])) ∨ (m = 0 ∧ H' f = some (.lst [.int 0]) ∧ H' wl = some (.lst [])))
    refine ⟨W, ⟨1, e13.but, ⟨_, rfl⟩, .inl ⟨rfl, gd, gf, gw⟩⟩, ?_⟩
    rintro m σ H3 ⟨b3, ⟨y5, rfl⟩, (⟨rfl, k1, k2, k3⟩ | ⟨rfl, k2, k3⟩)⟩
    · have x3 := b3.exN nn
      refine ⟨_, rfl, true, .inl ⟨_, SqL.of k3, rfl⟩, iteT ⟨fun σ' H' => ∃ m', m' < 1 ∧ W m' σ' H', fun _ _ h => h, ?_⟩⟩
      have n1 : ∀ u, upd H3 wl u d = some (.dK []) := fun u => by rw [upd_ne dw]; exact k1
      have n2 : ∀ u, upd H3 wl u f = some (.lst []) := fun u => by rw [upd_ne xw.symm]; exact k2
      have n3 : ∀ {a o} u, H1 a = some o → upd H3 wl u a = some o := fun u h => by rw [upd_ne (ne_of_none h hw1)]; exact x3 _ _ h
      refine ⟨_, rfl, .inl ⟨rfl, _, SqL.of k3⟩, _, _, _, rfl, rfl, k3, rfl, ?_⟩
      refine ⟨_, rfl, _, rfl, _, _, _, _, rfl, rfl, SqL.of (n3 _ h1), atI_nat (j := 0) rfl, _, rfl, d, _, rfl, DGet.k (k := Sum.inl 0) (n1 _), _, rfl, iteT ?_⟩
      refine ⟨_, rfl, _, _, rfl, .inl (SqL.of (n2 _)), _, rfl, _, rfl, _, rfl, _, _, _, _, rfl, rfl, SqL.of (n3 _ h1), atI_nat (j := 0) rfl, d, _, rfl, DPut.k (k := Sum.inl 0) (n1 _) (szl (by simp)), ?_⟩
      have m2 : ∀ u v, upd (upd H3 wl u) d v f = some (.lst []) := fun u v => by rw [upd_ne df.symm]; exact n2 u
      refine ⟨_, rfl, .inl ⟨rfl, _, SqL.of (m2 _ _)⟩, _, rfl, _, _, _, rfl, rfl, m2 _ _, szl (by simp), ?_⟩
      have p1 : ∀ {a o} u v t, H1 a = some o → upd (upd (upd H3 wl u) d v) f t a = some o := fun u v t h => by
        rw [upd_ne (ne_of_none h hf1), upd_ne (ne_of_none h hd1)]; exact n3 u h
      have p2 : ∀ u v t, upd (upd (upd H3 wl u) d v) f t wl = some u := fun u v t => by rw [upd_ne xw, upd_ne dw.symm]; exact upd_same
      refine ⟨_, rfl, .inl ⟨rfl, _, SqL.of (p2 _ _ _)⟩, _, rfl, _, rfl, _, _, _, _, rfl, rfl, SqT.of (p1 _ _ _ (x1 _ _ hg)), atI_nat (j := 0) rfl, q, z, rfl, p1 _ _ _ (x1 _ _ hq), fun e0 he0 => ⟨e0, rfl, SqT.of upd_same, fun e9 he9 => ?_⟩⟩
      have a1 := Ex.new (o := .tup []) he0
      have a2 := Ex.new (o := .tup []) he9
      have a12 := a1.trans a2
      refine ⟨_, _, _, _, rfl, rfl, a12 _ _ (p2 _ _ _), SqT.of upd_same, sz (by simp), ?_⟩
      refine ⟨0, by omega, ?_, ⟨_, rfl⟩, .inr ⟨rfl, ?_, upd_same⟩⟩
      · exact b3.trans ((But.set (by simp)).trans ((But.set (by simp)).trans ((But.set (by simp)).trans (a12.but.trans (But.set (by simp))))))
      · rw [upd_ne xw.symm]
        exact a12 _ _ upd_same
    · have x3 := b3.exN nn
      refine ⟨_, rfl, false, .inl ⟨_, SqL.of k3, rfl⟩, iteF ?_⟩
      refine ⟨sz (by simp), fun fd hfd => ?_⟩
      have e5 := Ex.new (o := .lst []) hfd
      have nf := none1 hfd
      refine ⟨_, rfl, f, rfl, ⟨_, SqL.of (e5 _ _ k2)⟩, ?_⟩
      refine for_it (walk_list (K := K) (a := f) (xs := [V.int 0])) (fun i σ H' => But [fd] H3 H' ∧ (∃ z5 z7, σ = [some (.ref g), some (.ref c), some (.ref d), some (.ref f), some (.ref wl), z5, some (.ref fd), z7, none]) ∧ (i = 0 → H' fd = some (.lst [])) ∧ (i = 1 → H' fd = some (.lst [.ref q])))
        ⟨e5.but, ⟨_, _, rfl⟩, fun _ => upd_same, (fun h => by cases h)⟩ (fun i σ H' _ p => SqL.of (p.1.exN nf _ _ k2)) (fun i x σ H' H5 hi p y => ?_) (fun σ H5 p => ?_)
      · have i0 : i = 0 := by simp at hi; exact hi
        subst i0
        obtain ⟨b, ⟨z5, z7, rfl⟩, k0, _⟩ := p
        have k0 := k0 rfl
        obtain ⟨rfl, hx⟩ := y
        obtain rfl : V.int 0 = x := by simpa using hx
        have xb := x1.trans (x3.trans (b.exN nf))
        refine ⟨_, rfl, _, rfl, _, _, _, _, rfl, rfl, SqT.of (xb _ _ hg), atI_nat (j := 0) rfl, ?_⟩
        refine ⟨_, rfl, _, _, _, _, rfl, rfl, SqT.of (xb _ _ hq), atI_nat (j := 0) rfl, rfl, _, rfl, ifF (int_ne (by decide +kernel)) ?_⟩
        refine ⟨_, rfl, .inl ⟨rfl, _, SqL.of k0⟩, _, rfl, _, _, _, rfl, rfl, k0, szl (by simp), ?_⟩
        exact ⟨b.trans (But.set (by simp)), ⟨_, _, rfl⟩, (fun h => by cases h), fun _ => upd_same⟩
      · obtain ⟨b, ⟨z5, z7, rfl⟩, _, k9⟩ := p
        have xb := x1.trans (x3.trans (b.exN nf))
        refine ⟨_, rfl, fd, [.ref q], rfl, .inl ⟨SqL.of (k9 rfl), fun l hl => ?_⟩⟩
        exact k l _ (xb.free hl) (xb.trans (Ex.new hl)) upd_same
theorem f_checked (T : Tx K mg) : Cal P w K mg base 4 "checked" (spLeast K) := by
  have sc : FnScope ["graph", "found"] ["graph"] (defScope s_checked) := ⟨rfl, rfl, rfl, by decide +kernel, rfl, by decide +kernel, by decide +kernel⟩
  refine cal_ T.g_checked T.f_checked sc (fun _ _ _ _ _ _ us hl => match us, hl with | [_], _ => rfl) (fun vs H Q E h => ?_) (fun cdv A outer s H vs Q E hr h => ?_)
  · obtain ⟨_, _, _, rfl, _⟩ := h
    rfl
  · obtain ⟨g, q, z, rfl, hg, hq, k⟩ := h
    obtain ⟨t, mN⟩ := T.i_MOST_NODES
    refine ⟨_, pss_cons (ps_set (i := 1) sc.nd rfl (Or.inl rfl) (pe_c (f_least T) hr (pa_cons (pv 0) pa_nil)))
      (pss_cons (ps_if (pt_cmpR op_gt (pe_callB call_len_seq (by rfl) T.z_len PySem.boot_len (pa_cons (pv 1) pa_nil)) (pe_gi mN) (nomark _)) pss_never pss_nil)
      (pss_one (ps_ret (pv 1)))), ?_⟩
    refine ⟨_, rfl, g, q, z, rfl, hg, hq, fun p H' hp x1 h1 => ?_⟩
    exact ⟨_, rfl, _, _, rfl, .inr (SqT.of h1), _, _, rfl, rfl, _, rfl, ifF (by simp) ⟨_, rfl, k p H' hp x1 h1⟩⟩
/-! ### Store.graph of a bound node -/
def spGraph (K : PySem.W.Frag) : Sp := fun vs H Q _ => ∃ (s ln lp : Addr) (S : So) (a : Nat) (z : Int), vs = [.ref s, nV a] ∧ SoAt K H s ln lp S ∧ S.Wf ∧ a < S.nd.length ∧ S.nd[S.rep a]? = some (.int z) ∧
  ∀ p q H', H p = none → Ex H H' → H' p = some (.tup [.ref q]) → IntAt H' q z → Q (.ref p) H'
theorem m_graph (T : Tx K mg) : Met P w K mg base 5 (cStore K) "graph" (spGraph K) := by
  have sc : FnScope ["self", "node", "start", "order", "rows", "found", "at", "value", "numbers", "part"] ["self", "node"] (defScope s_Store_graph) := ⟨rfl, rfl, rfl, by decide +kernel, rfl, by decide +kernel, by decide +kernel⟩
  refine met_ T.c_Store T.m_Store_graph T.f_Store_graph sc (fun _ _ _ _ _ _ us hl => match us, hl with | [_, _], _ => rfl) (fun vs H Q E h => ?_) (fun cdv A outer s H vs Q E hr h => ?_)
  · obtain ⟨_, _, _, _, _, _, rfl, _⟩ := h
    rfl
  · obtain ⟨s, ln, lp, S, a, z, rfl, hS, wf, ha, hz, k⟩ := h
    obtain ⟨dx, ho⟩ := hS.ob
    have hu := hu_of hr
    refine ⟨_, pss_cons (ps_set (i := 2) sc.nd rfl (Or.inl rfl) (pe_mt (m_rep T) hr (pv 0) (pa_cons (pv 1) pa_nil)))
      (pss_cons (ps_set (i := 3) sc.nd rfl (Or.inl rfl) (pe_disp (pps_cons (pv 2) pe_int pps_nil) (by rfl) (by rfl) (fun z => by cases z) (by decide)))
      (pss_cons (ps_set (i := 4) sc.nd rfl (Or.inl rfl) (pe_lst (pa_cons (pv 2) pa_nil)))
      (pss_cons (ps_set (i := 5) sc.nd rfl (Or.inl rfl) (pe_lst pa_nil))
      (pss_cons (ps_set (i := 6) sc.nd rfl (Or.inl rfl) pe_int)
      (pss_cons (ps_while PassesOwn.never (pt_cmpR op_lt (pv 6) (pe_callB call_len_seq (by rfl) T.z_len PySem.boot_len (pa_cons (pv 4) pa_nil)) (nomark _))
        (pss_cons (ps_set (i := 7) sc.nd rfl (Or.inl rfl) (pe_mt (m_value T) hr (pv 0) (pa_cons (pe_ix ix_list (pv 4) (pv 6) (fun _ _ => rfl)) pa_nil)))
        (pss_cons (ps_aug (i := 6) sc.nd rfl (Or.inl rfl) pe_int ip_add)
        (pss_cons (ps_if (pt_cmpR op_eq (pe_ix ix_tup (pv 7) pe_int (fun _ _ => rfl)) pe_str (nomark _)) pss_never pss_nil)
        (pss_one (ps_expr (pe_bm PySem.F.plainAttrs_list PySem.F.slot_list_append PySem.F.type_list_append mt_append (pv 5) (pa_cons (pv 7) pa_nil))))))))
      (pss_one (ps_ret (pe_c (f_checked T) hr (pa_cons (pe_callTy call_tuple_of (by rfl) T.z_tuple (by decide +kernel) (pa_cons (pv 5) pa_nil)) pa_nil))))))))), ?_⟩
    refine ⟨_, rfl, _, _, _, rfl, ho, rfl, _, rfl, s, ln, lp, S, a, rfl, hS, wf, ha, ?_⟩
    intro d hd
    refine ⟨_, rfl, upd_same, [(Sum.inl ((S.rep a : Nat) : Int), V.int 0)], rfl, by simp, ?_⟩
    refine ⟨_, rfl, sz (by simp), fun rw_ hrw => ⟨sz (by simp), fun f hf => ?_⟩⟩
    have e1 : Ex H (upd (upd H d (.dK [])) d (.dK (mergeK [] [(Sum.inl ((S.rep a : Nat) : Int), V.int 0)]))) := by rw [upd_upd]; exact Ex.new hd
    have e2 := Ex.new (o := .lst [nV (S.rep a)]) hrw
    have e3 := Ex.new (o := .lst []) hf
    have x2 := (e1.trans e2).trans e3
    have nf := none1 hf
    have hf0 := (e1.trans e2).free hf
    let W : Nat → L2.St → Hp → Prop := fun m σ H' => But [f] (upd (upd (upd H d (.dK [])) d (.dK (mergeK [] [(Sum.inl ((S.rep a : Nat) : Int), V.int 0)]))) rw_ (.lst [nV (S.rep a)])) H' ∧
      (∃ y7, σ = [some (.ref s), some (nV a), some (nV (S.rep a)), some (.ref d), some (.ref rw_), some (.ref f), some (.int (1 - (m : Int))), y7, none, none]) ∧ ((m = 1 ∧ H' f = some (.lst [])) ∨ (m = 0 ∧ ∃ q, H' f = some (.lst [.ref q]) ∧ IntAt H' q z))
    refine ⟨W, ⟨1, e3.but, ⟨_, rfl⟩, .inl ⟨rfl, upd_same⟩⟩, ?_⟩
    rintro m σ H3 ⟨b3, ⟨y7, rfl⟩, (⟨rfl, k1⟩ | ⟨rfl, q, k1, k2⟩)⟩
    · have x3 := b3.exN nf
      have x03 := (e1.trans e2).trans x3
      have hS3 := hS.ex x03
      refine ⟨_, rfl, _, rfl, _, _, rfl, .inl (SqL.of (x3 _ _ upd_same)), _, _, rfl, rfl, _, rfl, ifT (by simp) ⟨fun σ' H' => ∃ m', m' < 1 ∧ W m' σ' H', fun _ _ h => h, ?_⟩⟩
      refine ⟨_, rfl, _, _, _, rfl, x03 _ _ ho, rfl, _, rfl, _, rfl, _, _, _, _, rfl, rfl, SqL.of (x3 _ _ upd_same), atI_nat (j := 0) rfl, s, ln, lp, S, S.rep a, z, rfl, hS3, wf, wf.rep_lt a ha, by rw [wf.rep_rep ha]; exact hz, fun q hq => ?_⟩
      refine ⟨_, rfl, _, _, rfl, rfl, ?_⟩
      refine ⟨_, rfl, _, _, _, _, rfl, rfl, SqT.of hq, atI_nat (j := 0) rfl, rfl, _, rfl, ifF (int_ne (by decide +kernel)) ?_⟩
      refine ⟨_, rfl, .inl ⟨rfl, _, SqL.of k1⟩, _, rfl, _, _, _, rfl, rfl, k1, szl (by simp), ?_⟩
      refine ⟨0, by omega, b3.trans (But.set (by simp)), ⟨_, rfl⟩, .inr ⟨rfl, q, upd_same, ?_⟩⟩
      show upd H3 f _ q = _
      rw [upd_ne (ne_of hq k1 (fun y => nomatch y))]
      exact hq
    · have x3 := b3.exN nf
      have x03 := (e1.trans e2).trans x3
      refine ⟨_, rfl, _, rfl, _, _, rfl, .inl (SqL.of (x3 _ _ upd_same)), _, _, rfl, rfl, _, rfl, ifF (by simp) ?_⟩
      refine ⟨_, rfl, f, [.ref q], rfl, .inl ⟨SqL.of k1, fun l hl => ?_⟩⟩
      have e5 := Ex.new (o := .tup [.ref q]) hl
      refine ⟨l, q, z, rfl, upd_same, e5 _ _ k2, fun p H' hp x5 h5 => ?_⟩
      exact k p q H' (x03.free (e5.free hp)) (x03.trans (e5.trans x5)) h5 (x5 _ _ (e5 _ _ k2))
end
end Lw
namespace Lw
open PySem PySem.Spec PyProof.Rows L2
theorem made_ex {H H2 : Hp} {x dx C : Addr} (hx : H x = none) (hd : H dx = none) (ne : dx ≠ x) (b : But [x] (upd (upd H dx (.own x)) x (.ins C dx [])) H2) : Ex H H2 := fun a o h => by
  have n1 := ne_of_none h hx
  exact b a o (by rw [upd_ne n1, upd_ne (ne_of_none h hd)]; exact h) (by simp; exact n1)
section
variable {P : Program} {w : World} {K : PySem.W.Frag} {mg : Str → Option Value} {base : Heap}
def spSCopy (K : PySem.W.Frag) : Sp := fun vs H Q _ => ∃ (s ln lp : Addr) (S : So), vs = [.ref s] ∧ SoAt K H s ln lp S ∧ S.nd.length ≤ 2000 ∧ S.pa.length ≤ 2000 ∧
  ∀ s' ln' lp' H', SoAt K H' s' ln' lp' S → Ex H H' → H s' = none → H ln' = none → H lp' = none → Q (.ref s') H'
theorem m_scopy (T : Tx K mg) : Met P w K mg base 3 (cStore K) "copy" (spSCopy K) := by
  have sc : FnScope ["self", "other"] ["self"] (defScope s_Store_copy) := ⟨rfl, rfl, rfl, by decide +kernel, rfl, by decide +kernel, by decide +kernel⟩
  refine met_ T.c_Store T.m_Store_copy T.f_Store_copy sc (fun _ _ _ _ _ _ us hl => match us, hl with | [_], _ => rfl) (fun vs H Q E h => ?_) (fun cdv A outer s H vs Q E hr h => ?_)
  · obtain ⟨_, _, _, _, rfl, _⟩ := h
    rfl
  · obtain ⟨s, ln, lp, S, rfl, hS, hl, hl2, k⟩ := h
    obtain ⟨dx, ho⟩ := hS.ob
    obtain ⟨xs, h1, h2⟩ := hS.ns
    refine ⟨_, pss_cons (ps_set (i := 1) sc.nd rfl (Or.inl rfl) (pe_mk0 (k_store T) hr))
      (pss_cons (ps_fld (pv 1) (pe_callTy call_list_of (by rfl) T.z_list (by decide +kernel) (pa_cons (pe_fld (pv 0) rfl) pa_nil)) rfl)
      (pss_cons (ps_fld (pv 1) (pe_callTy call_list_of (by rfl) T.z_list (by decide +kernel) (pa_cons (pe_fld (pv 0) rfl) pa_nil)) rfl)
      (pss_one (ps_ret (pv 1))))), ?_⟩
    refine fun x dx' hx hd ne => ⟨x, dx', rfl, upd_same, fun l1 l2 H2 hS2 b2 _ _ => ⟨rfl, ?_⟩⟩
    have x2 := made_ex hx hd ne b2
    obtain ⟨dz, g1⟩ := hS2.ob
    refine ⟨_, rfl, _, _, _, _, _, rfl, x2 _ _ ho, T.c_Store, T.n_Store_nodes, rfl, ln, xs, rfl, .inl (SqL.of (x2 _ _ h1)), fun n1 hn1 => ?_⟩
    have e3 := Ex.new (o := .lst xs) hn1
    refine ⟨_, rfl, _, _, _, _, rfl, e3 _ _ g1, T.c_Store, T.n_Store_nodes, by simp, ?_⟩
    have xn1 : x ≠ n1 := ne_of_none g1 hn1
    have xs' : s ≠ x := ne_of_none ho hx
    have h3 : ∀ {a o} u, H a = some o → upd (upd H2 n1 (.lst xs)) x u a = some o := fun u h => by rw [upd_ne (ne_of_none h hx)]; exact e3 _ _ (x2 _ _ h)
    refine ⟨_, rfl, _, _, _, _, _, rfl, h3 _ ho, T.c_Store, T.n_Store_parents, rfl, lp, _, rfl, .inl (SqL.of (h3 _ hS.ps)), fun n2 hn2 => ?_⟩
    have e4 := Ex.new (o := .lst (S.pa.map nV)) hn2
    have xn2 : x ≠ n2 := ne_of_none (o := .ins (cStore K) dz (putF "nodes" (.ref n1) (fS l1 l2))) upd_same hn2
    have n12 : n1 ≠ n2 := ne_of_none (o := .lst xs) (by rw [upd_ne xn1.symm]; exact upd_same) hn2
    refine ⟨_, rfl, _, _, _, _, rfl, e4 _ _ upd_same, T.c_Store, T.n_Store_parents, by simp [putF], ?_⟩
    have h4 : ∀ {a o} u, H a = some o → upd (upd (upd (upd H2 n1 (.lst xs)) x (.ins (cStore K) dz (putF "nodes" (.ref n1) (fS l1 l2)))) n2 (.lst (S.pa.map nV))) x u a = some o := fun u h => by
      rw [upd_ne (ne_of_none h hx)]; exact e4 _ _ (h3 _ h)
    have hn1' : H n1 = none := x2.free hn1
    have hn2' : H n2 = none := by
      cases q : H n2 with
      | none => rfl
      | some o => rw [h3 _ q] at hn2; cases hn2
    refine ⟨_, rfl, k x n1 n2 _ ⟨⟨dz, upd_same⟩, ⟨xs, ?_, ?_⟩, ?_, n12⟩ (fun a o h => h4 _ h) hx hn1' hn2'⟩
    · rw [upd_ne xn1.symm, upd_ne n12, upd_ne xn1.symm]; exact upd_same
    · exact pr_imp (fun _ _ q => q.imm (Ex.imm (fun a o h => h4 _ h))) h2
    · rw [upd_ne xn2.symm]; exact upd_same
/-! ### texts -/
def spLeaf : Sp := fun vs H Q _ => ∃ (q : Addr) (z : Int), vs = [.ref q] ∧ IntAt H q z ∧ z.natAbs.log2 < 1920 ∧ Q (.str (toString z)) H
theorem f_leaf (T : Tx K mg) : Cal P w K mg base 1 "leaf_text" spLeaf := by
  have sc : FnScope ["node"] ["node"] (defScope s_leaf_text) := ⟨rfl, rfl, rfl, by decide +kernel, rfl, by decide +kernel, by decide +kernel⟩
  refine cal_ T.g_leaf_text T.f_leaf_text sc (fun _ _ _ _ _ _ us hl => match us, hl with | [_], _ => rfl) (fun vs H Q E h => ?_) (fun cdv A outer s H vs Q E hr h => ?_)
  · obtain ⟨_, _, rfl, _⟩ := h
    rfl
  · obtain ⟨q, z, rfl, hq, hz, k⟩ := h
    refine ⟨_, pss_cons (ps_if (pt_cmpR op_eq (pe_ix ix_tup (pv 0) pe_int (fun _ _ => rfl)) pe_str (nomark _)) (pss_one (ps_ret (pe_callTy call_str_int (by rfl) T.z_str (by decide +kernel) (pa_cons (pe_ix ix_tup (pv 0) pe_int (fun _ _ => rfl)) pa_nil)))) pss_nil) pss_never, ?_⟩
    refine ⟨_, rfl, _, _, _, _, rfl, rfl, SqT.of hq, atI_nat (j := 0) rfl, rfl, _, rfl, ifT rfl ?_⟩
    exact ⟨_, rfl, _, _, _, _, rfl, rfl, SqT.of hq, atI_nat (j := 1) rfl, _, rfl, hz, k⟩
abbrev fP (g r : Addr) (n : Int) (o : Addr) : List (Str × V) := [("graph", .ref g), ("rows", .ref r), ("size", .int n), ("open_at", .ref o)]
def spP0 (K : PySem.W.Frag) : Sp := fun vs H Q _ => ∃ (p dx g : Addr), vs = [.ref p, .ref g] ∧ H p = some (.ins (cPrinter K) dx []) ∧ ∀ r o H', H' p = some (.ins (cPrinter K) dx (fP g r 0 o)) → H' r = some (.lst []) → H' o = some (.dK []) → But [p] H H' → H r = none → H o = none → Q .non H'
theorem k_printer (T : Tx K mg) : Mak P w K mg base 1 "Printer" (cPrinter K) (spP0 K) := by
  have sc : FnScope ["self", "graph"] ["self", "graph"] (defScope s_Printer_init) := ⟨rfl, rfl, rfl, by decide +kernel, rfl, by decide +kernel, by decide +kernel⟩
  refine mak_ T.k_Printer T.g_Printer T.f_Printer_init sc (fun _ _ _ _ _ _ us hl => match us, hl with | [_, _], _ => rfl) (fun vs H Q E h => ?_) (fun cdv A outer s H vs Q E hr h => ?_)
  · obtain ⟨_, _, _, rfl, _⟩ := h
    rfl
  · obtain ⟨p, dx, g, rfl, hp, k⟩ := h
    refine ⟨_, pss_cons (ps_fld (pv 0) (pv 1) rfl) (pss_cons (ps_fld (pv 0) (pe_lst pa_nil) rfl) (pss_cons (ps_fld (pv 0) pe_int rfl) (pss_one (ps_fld (pv 0) pe_dnewK rfl)))), ?_⟩
    refine ⟨_, rfl, _, rfl, _, _, _, _, rfl, hp, T.c_Printer, T.n_Printer_graph, by simp, ?_⟩
    refine ⟨sz (by simp), fun r hr => ⟨_, rfl, _, _, _, _, rfl, (Ex.new hr) _ _ upd_same, T.c_Printer, T.n_Printer_rows, (by decide : (1 : Nat) < 1000), ?_⟩⟩
    refine ⟨_, rfl, _, _, _, _, rfl, upd_same, T.c_Printer, T.n_Printer_size, (by decide : (2 : Nat) < 1000), ?_⟩
    intro o ho
    have pr : p ≠ r := fun z => by rw [← z, upd_same] at hr; cases hr
    have po : p ≠ o := fun z => by rw [← z, upd_same] at ho; cases ho
    have hr' : H r = none := by rw [upd_ne pr.symm] at hr; exact hr
    have ro : r ≠ o := fun z => by rw [← z, upd_ne pr.symm, upd_ne pr.symm, upd_same] at ho; cases ho
    have ho' : H o = none := by rw [upd_ne po.symm, upd_ne po.symm, upd_ne ro.symm, upd_ne po.symm] at ho; exact ho
    refine ⟨_, rfl, _, _, _, _, rfl, (Ex.new ho) _ _ upd_same, T.c_Printer, T.n_Printer_open_at, (by decide : (3 : Nat) < 1000), ?_⟩
    refine k r o _ upd_same ?_ ?_ ?_ hr' ho'
    · rw [upd_ne pr.symm, upd_ne ro, upd_ne pr.symm, upd_ne pr.symm]; exact upd_same
    · rw [upd_ne po.symm]; exact upd_same
    · intro a u h m
      have m : a ≠ p := by simpa using m
      rw [upd_ne m, upd_ne (ne_of_none h ho'), upd_ne m, upd_ne m, upd_ne (ne_of_none h hr'), upd_ne m]
      exact h
end
end Lw
namespace Lw
open PySem PySem.Spec PyProof.Rows L2
section
variable {P : Program} {w : World} {K : PySem.W.Frag} {mg : Str → Option Value} {base : Heap}
/-- the text of an int -/
abbrev tx (z : Int) : Str := Str.ofString (toString z)
def spPut (K : PySem.W.Frag) : Sp := fun vs H Q _ => ∃ (p dx g r o : Addr) (n : Int) (t : Str) (xs : List V), vs = [.ref p, .str t] ∧ H p = some (.ins (cPrinter K) dx (fP g r n o)) ∧ H r = some (.lst xs) ∧ xs.length ≤ 100 ∧ n + t.length ≤ 20000 ∧ 0 ≤ n ∧
  ∀ H', H' p = some (.ins (cPrinter K) dx (fP g r (n + t.length) o)) → H' r = some (.lst (xs ++ [.str t])) → But [p, r] H H' → Q .non H'
theorem m_put (T : Tx K mg) : Met P w K mg base 1 (cPrinter K) "put" (spPut K) := by
  have sc : FnScope ["self", "text"] ["self", "text"] (defScope s_Printer_put) := ⟨rfl, rfl, rfl, by decide +kernel, rfl, by decide +kernel, by decide +kernel⟩
  refine met_ T.c_Printer T.m_Printer_put T.f_Printer_put sc (fun _ _ _ _ _ _ us hl => match us, hl with | [_, _], _ => rfl) (fun vs H Q E h => ?_) (fun cdv A outer s H vs Q E hr h => ?_)
  · obtain ⟨_, _, _, _, _, _, _, _, rfl, _⟩ := h
    rfl
  · obtain ⟨p, dx, g, r, o, n, t, xs, rfl, hp, hr1, hl, hn, h0, k⟩ := h
    obtain ⟨tk, mT⟩ := T.i_MOST_TEXT
    refine ⟨_, pss_cons (ps_fldaug (pv 0) (pe_callB call_len_str (by rfl) T.z_len PySem.boot_len (pa_cons (pv 1) pa_nil)) in_add)
      (pss_cons (ps_if (pt_cmpR op_gt (pe_fld (pv 0) rfl) (pe_gi mT) (nomark _)) pss_never pss_nil)
      (pss_one (ps_expr (pe_bm PySem.F.plainAttrs_list PySem.F.slot_list_append PySem.F.type_list_append mt_append (pe_fld (pv 0) rfl) (pa_cons (pv 1) pa_nil))))), ?_⟩
    have pr : p ≠ r := ne_of hp hr1 (fun y => nomatch y)
    refine ⟨_, rfl, p, _, dx, _, _, rfl, hp, T.c_Printer, T.n_Printer_size, rfl, _, rfl, t, rfl, sz (by omega), n, _, rfl, rfl, dx, _, hp, (by decide : (4 : Nat) < 1000), ?_⟩
    have hp2 : upd H p (.ins (cPrinter K) dx (putF "size" (.int (n + t.length)) (fP g r n o))) p = some (.ins (cPrinter K) dx (fP g r (n + t.length) o)) := by rw [upd_same]; rfl
    refine ⟨_, rfl, _, _, _, _, _, rfl, hp2, T.c_Printer, T.n_Printer_size, rfl, _, _, rfl, rfl, _, rfl, ifF (by omega) ?_⟩
    have hr2 : ∀ u, upd H p u r = some (.lst xs) := fun u => by rw [upd_ne pr.symm]; exact hr1
    refine ⟨_, rfl, _, _, _, _, _, rfl, hp2, T.c_Printer, T.n_Printer_rows, rfl, .inl ⟨rfl, _, SqL.of (hr2 _)⟩, _, rfl, _, _, _, rfl, rfl, hr2 _, szl (by omega), ?_⟩
    exact k _ (by rw [upd_ne pr]; exact hp2) upd_same ((But.set (by simp)).trans (But.set (by simp)))
def spWrite (K : PySem.W.Frag) : Sp := fun vs H Q _ => ∃ (p dx g r o q : Addr) (z : Int), vs = [.ref p] ∧ H p = some (.ins (cPrinter K) dx (fP g r 0 o)) ∧ H g = some (.tup [.ref q]) ∧ IntAt H q z ∧ H r = some (.lst []) ∧ H o = some (.dK []) ∧ z.natAbs.log2 < 1920 ∧
  ∀ H', But [p, r] H H' → Q (.str (tx z)) H'
theorem m_write (T : Tx K mg) : Met P w K mg base 2 (cPrinter K) "write" (spWrite K) := by
  have sc : FnScope ["self", "waiting", "word", "what"] ["self"] (defScope s_Printer_write) := ⟨rfl, rfl, rfl, by decide +kernel, rfl, by decide +kernel, by decide +kernel⟩
  refine met_ T.c_Printer T.m_Printer_write T.f_Printer_write sc (fun _ _ _ _ _ _ us hl => match us, hl with | [_], _ => rfl) (fun vs H Q E h => ?_) (fun cdv A outer s H vs Q E hr h => ?_)
  · obtain ⟨_, _, _, _, _, _, _, rfl, _⟩ := h
    rfl
  · obtain ⟨p, dx, g, r, o, q, z, rfl, hp, hg, hq, hr1, ho, hz, k⟩ := h
    have hu := hu_of hr
    refine ⟨_, pss_cons (ps_set (i := 1) sc.nd rfl (Or.inl rfl) (pe_lst (pa_cons (pe_tup (pa_cons pe_str (pa_cons pe_int pa_nil))) pa_nil)))
      (pss_cons (ps_while PassesOwn.never (pt_truth (pv 1) (by intro _; rfl))
        (pss_cons (ps_asg (pe_bm0 PySem.F.plainAttrs_list PySem.F.slot_list_pop PySem.F.type_list_pop mt_pop (pv 1)) (pg_tup rfl (pgs_cons (pg_name (i := 2) sc.nd rfl (Or.inl rfl)) (pgs_cons (pg_name (i := 3) sc.nd rfl (Or.inl rfl)) pgs_nil))))
        (pss_one (ps_if (pt_cmpR op_eq (pv 2) pe_str (nomark _)) pss_never (pss_one (ps_if (pt_cmpR op_eq (pv 2) pe_str (nomark _)) pss_never (pss_one (ps_if (pt_cmp (pc_din hu (pv 3) (pe_fld (pv 0) rfl))) pss_never
          (pss_one (ps_if (pt_cmpR op_ne (pe_ix ix_tup (pe_ix ix_tup (pe_fld (pv 0) rfl) (pv 3) (fun _ _ => rfl)) pe_int (fun _ _ => rfl)) pe_str (nomark _))
            (pss_one (ps_expr (pe_mt (m_put T) hr (pv 0) (pa_cons (pe_c (f_leaf T) hr (pa_cons (pe_ix ix_tup (pe_fld (pv 0) rfl) (pv 3) (fun _ _ => rfl)) pa_nil)) pa_nil)))) pss_never))))))))))
      (pss_one (ps_ret (pe_join pe_str (pe_fld (pv 0) rfl))))), ?_⟩
    refine ⟨sz (by simp), fun t ht => ⟨sz (by simp), fun wl hwl => ?_⟩⟩
    have e1 := Ex.new (o := .tup [.str "node", .int 0]) ht
    have e2 := Ex.new (o := .lst [.ref t]) hwl
    have x2 := e1.trans e2
    have gt : upd (upd H t (.tup [.str "node", .int 0])) wl (.lst [.ref t]) t = some (.tup [.str "node", .int 0]) := e2 _ _ upd_same
    have gw : upd (upd H t (.tup [.str "node", .int 0])) wl (.lst [.ref t]) wl = some (.lst [.ref t]) := upd_same
    have hwl0 := e1.free hwl
    generalize upd (upd H t (.tup [.str "node", .int 0])) wl (.lst [.ref t]) = H2 at *
    have tw : t ≠ wl := ne_of gt gw (fun y => nomatch y)
    have pr : p ≠ r := ne_of hp hr1 (fun y => nomatch y)
    have wr : wl ≠ r := (ne_of_none hr1 hwl0).symm
    have wp : wl ≠ p := (ne_of_none hp hwl0).symm
    let W : Nat → L2.St → Hp → Prop := fun m σ H' => (m = 1 ∧ σ = [some (.ref p), some (.ref wl), none, none] ∧ H' = H2) ∨ (m = 0 ∧ (∃ y2 y3, σ = [some (.ref p), some (.ref wl), y2, y3]) ∧ H' wl = some (.lst []) ∧ But [p, r] H H' ∧ (∃ n, H' p = some (.ins (cPrinter K) dx (fP g r n o))) ∧ H' r = some (.lst [.str (tx z)]))
    refine ⟨W, ⟨1, .inl ⟨rfl, rfl, rfl⟩⟩, ?_⟩
    rintro m σ H3 (⟨rfl, rfl, rfl⟩ | ⟨rfl, ⟨y2, y3, rfl⟩, k1, k2, ⟨n, k3⟩, k4⟩)
    · refine ⟨_, rfl, true, .inl ⟨_, SqL.of gw, rfl⟩, iteT ⟨fun σ' H' => ∃ m', m' < 1 ∧ W m' σ' H', fun _ _ h => h, ?_⟩⟩
      have n1 : ∀ {a o} u, H a = some o → upd H3 wl u a = some o := fun u h => by rw [upd_ne (ne_of_none h hwl0)]; exact x2 _ _ h
      refine ⟨_, rfl, .inl ⟨rfl, _, SqL.of gw⟩, _, _, _, rfl, rfl, gw, rfl, _, _, rfl, SqT.of (by rw [upd_ne tw]; exact gt), rfl, _, _, rfl, _, _, rfl, rfl, ?_⟩
      refine ⟨_, rfl, rfl, _, rfl, ifF (int_ne (by decide +kernel)) ⟨_, rfl, rfl, _, rfl, ifF (int_ne (by decide +kernel)) ?_⟩⟩
      refine ⟨_, rfl, _, rfl, _, _, _, _, _, rfl, n1 _ hp, T.c_Printer, T.n_Printer_open_at, rfl, o, _, rfl, DGet.k (k := Sum.inl 0) (n1 _ ho), _, rfl, iteF ?_⟩
      refine ⟨_, rfl, _, _, _, _, _, rfl, n1 _ hp, T.c_Printer, T.n_Printer_graph, rfl, _, rfl, _, _, _, _, rfl, rfl, SqT.of (n1 _ hg), atI_nat (j := 0) rfl, _, _, _, _, rfl, rfl, SqT.of (n1 _ hq), atI_nat (j := 0) rfl, rfl, _, rfl, ifnT (int_ne (by decide +kernel)) ?_⟩
      refine ⟨_, rfl, p, dx, _, rfl, n1 _ hp, rfl, _, rfl, _, _, _, _, _, rfl, n1 _ hp, T.c_Printer, T.n_Printer_graph, rfl, _, rfl, _, _, _, _, rfl, rfl, SqT.of (n1 _ hg), atI_nat (j := 0) rfl, q, z, rfl, n1 _ hq, hz, ?_⟩
      have tl : (tx z).length ≤ 1921 := PyProof.Rows.int_text_len_1921 hz
      refine ⟨p, dx, g, r, o, 0, tx z, [], rfl, n1 _ hp, n1 _ hr1, by simp, by omega, by omega, fun H4 j0 j1 j2 => ?_⟩
      refine ⟨0, by omega, .inr ⟨rfl, ⟨_, _, rfl⟩, ?_, ?_, ⟨_, j0⟩, j1⟩⟩
      · exact j2 _ _ upd_same (by simp; exact ⟨wp, wr⟩)
      · exact But.trans (But.drop (p := wl) x2.but (But.set (by simp)) hwl0) j2
    · refine ⟨_, rfl, false, .inl ⟨_, SqL.of k1, rfl⟩, iteF ?_⟩
      have tl : (tx z).length ≤ 1921 := PyProof.Rows.int_text_len_1921 hz
      refine ⟨⟨_, rfl⟩, _, rfl, _, _, _, _, _, rfl, k3, T.c_Printer, T.n_Printer_rows, rfl, "", r, [tx z], rfl, rfl, .inl (SqL.of k4), ?_, ?_⟩
      · have l0 : (Str.ofString "").length = 0 := rfl
        simp [l0]
        omega
      · have e : Txt.join "" [tx z] = tx z := by rw [TL.join_eq]; rfl
        rw [e]
        exact k _ k2
theorem upd_none {H : Hp} {p r : Addr} {o : HO} (h : upd H p o r = none) : H r = none ∧ r ≠ p := by
  have n : r ≠ p := fun z => by rw [z, upd_same] at h; cases h
  exact ⟨by rw [upd_ne n] at h; exact h, n⟩
def spGText (K : PySem.W.Frag) : Sp := fun vs H Q _ => ∃ (g q : Addr) (z : Int), vs = [.ref g] ∧ H g = some (.tup [.ref q]) ∧ IntAt H q z ∧ z.natAbs.log2 < 1920 ∧ ∀ H', Ex H H' → Q (.str (tx z)) H'
theorem f_gtext (T : Tx K mg) : Cal P w K mg base 4 "graph_text" (spGText K) := by
  have sc : FnScope ["graph", "text"] ["graph"] (defScope s_graph_text) := ⟨rfl, rfl, rfl, by decide +kernel, rfl, by decide +kernel, by decide +kernel⟩
  refine cal_ T.g_graph_text T.f_graph_text sc (fun _ _ _ _ _ _ us hl => match us, hl with | [_], _ => rfl) (fun vs H Q E h => ?_) (fun cdv A outer s H vs Q E hr h => ?_)
  · obtain ⟨_, _, _, rfl, _⟩ := h
    rfl
  · obtain ⟨g, q, z, rfl, hg, hq, hz, k⟩ := h
    obtain ⟨tk, mT⟩ := T.i_MOST_TEXT
    refine ⟨_, pss_cons (ps_set (i := 1) sc.nd rfl (Or.inl rfl) (pe_mt0 (m_write T) hr (pe_mk (k_printer T) hr (pa_cons (pe_c (f_least T) hr (pa_cons (pv 0) pa_nil)) pa_nil))))
      (pss_cons (ps_if (pt_cmpR op_gt (pe_callB call_len_str (by rfl) T.z_len PySem.boot_len (pa_cons (pv 1) pa_nil)) (pe_gi mT) (nomark _)) pss_never pss_nil)
      (pss_one (ps_ret (pv 1)))), ?_⟩
    have tl : (tx z).length ≤ 1921 := PyProof.Rows.int_text_len_1921 hz
    refine ⟨_, rfl, g, q, z, rfl, hg, hq, fun l H1 hl x1 h1 => ?_⟩
    refine fun p dx hp hd ne => ⟨p, dx, l, rfl, upd_same, fun r o H2 j1 j2 j3 b2 hr1 _ => ⟨rfl, ?_⟩⟩
    have x2 := x1.trans (made_ex hp hd ne b2)
    have x12 := made_ex hp hd ne b2
    have hr0 := x1.free (upd_none (upd_none hr1).1).1
    refine ⟨p, dx, _, rfl, j1, rfl, p, dx, l, r, o, q, z, rfl, j1, x12 _ _ h1, x2 _ _ hq, j2, j3, hz, fun H3 b3 => ?_⟩
    refine ⟨_, rfl, _, rfl, sz (by omega), _, _, rfl, rfl, _, rfl, ifF (by omega) ⟨_, rfl, k H3 ?_⟩⟩
    exact But.exN (x2.but.trans b3) (none2 (x1.free hp) hr0)
/-! ### outcomes -/
def spN0 (K : PySem.W.Frag) : Sp := fun vs H Q _ => ∃ (p dx : Addr), vs = [.ref p] ∧ H p = some (.ins (cNumbers K) dx []) ∧ ∀ fs H', H' p = some (.ins (cNumbers K) dx fs) → fs.lookup ("renumbered" : Str) = none → But [p] H H' → Q .non H'
theorem k_numbers (T : Tx K mg) : Mak P w K mg base 1 "Numbers" (cNumbers K) (spN0 K) := by
  have sc : FnScope ["self"] ["self"] (defScope s_Numbers_init) := ⟨rfl, rfl, rfl, by decide +kernel, rfl, by decide +kernel, by decide +kernel⟩
  refine mak_ T.k_Numbers T.g_Numbers T.f_Numbers_init sc (fun _ _ _ _ _ _ us hl => match us, hl with | [_], _ => rfl) (fun vs H Q E h => ?_) (fun cdv A outer s H vs Q E hr h => ?_)
  · obtain ⟨_, _, rfl, _⟩ := h
    rfl
  · obtain ⟨p, dx, rfl, hp, k⟩ := h
    refine ⟨_, pss_cons (ps_fld (pv 0) pe_dnewK rfl) (pss_one (ps_fld (pv 0) pe_dnewK rfl)), ?_⟩
    intro a ha
    refine ⟨_, rfl, _, _, _, _, rfl, (Ex.new ha) _ _ hp, T.c_Numbers, T.n_Numbers_table, by simp, ?_⟩
    intro b hb
    refine ⟨_, rfl, _, _, _, _, rfl, (Ex.new hb) _ _ upd_same, T.c_Numbers, T.n_Numbers_counts, (by decide : (1 : Nat) < 1000), ?_⟩
    refine k _ _ upd_same rfl ?_
    obtain ⟨hb1, bp⟩ := upd_none hb
    exact ((Ex.new ha).but.trans (But.set (by simp))).trans ((Ex.new hb).but.trans (But.set (by simp)))
def spRen (K : PySem.W.Frag) : Sp := fun vs H Q _ => ∃ (p g q : Addr) (z : Int), vs = [.ref p, .ref g] ∧ H g = some (.tup [.ref q]) ∧ IntAt H q z ∧ ∀ l H', Ex H H' → H' l = some (.tup [.ref q]) → Q (.ref l) H'
theorem m_renumbered (T : Tx K mg) : Met P w K mg base 1 (cNumbers K) "renumbered" (spRen K) := by
  have sc : FnScope ["self", "graph", "found", "node"] ["self", "graph"] (defScope s_Numbers_renumbered) := ⟨rfl, rfl, rfl, by decide +kernel, rfl, by decide +kernel, by decide +kernel⟩
  refine met_ T.c_Numbers T.m_Numbers_renumbered T.f_Numbers_renumbered sc (fun _ _ _ _ _ _ us hl => match us, hl with | [_, _], _ => rfl) (fun vs H Q E h => ?_) (fun cdv A outer s H vs Q E hr h => ?_)
  · obtain ⟨_, _, _, _, rfl, _⟩ := h
    rfl
  · obtain ⟨p, g, q, z, rfl, hg, hq, k⟩ := h
    refine ⟨_, pss_cons (ps_set (i := 2) sc.nd rfl (Or.inl rfl) (pe_lst pa_nil))
      (pss_cons (ps_for PassesOwn.never rfl (pi_tup (pv 1)) (pg_name (i := 3) sc.nd rfl (Or.inl rfl))
        (pss_cons (ps_if (pt_cmpR op_eq (pe_ix ix_tup (pv 3) pe_int (fun _ _ => rfl)) pe_str (nomark _)) pss_never (pss_one (ps_if (PW.pt (pw_and (pt_cmpR op_eq (pe_ix ix_tup (pv 3) pe_int (fun _ _ => rfl)) pe_str (nomark _)) (pw_and1 pt_nev))) pss_never pss_nil)))
        (pss_one (ps_expr (pe_bm PySem.F.plainAttrs_list PySem.F.slot_list_append PySem.F.type_list_append mt_append (pv 2) (pa_cons (pv 3) pa_nil))))))
      (pss_one (ps_ret (pe_callTy call_tuple_of (by rfl) T.z_tuple (by decide +kernel) (pa_cons (pv 2) pa_nil))))), ?_⟩
    refine ⟨sz (by simp), fun fd hfd => ?_⟩
    have e5 := Ex.new (o := .lst []) hfd
    have nf := none1 hfd
    refine ⟨_, rfl, g, rfl, ⟨_, SqT.of (e5 _ _ hg)⟩, ?_⟩
    refine for_it (walk_tup (K := K) (a := g) (xs := [V.ref q])) (fun i σ H' => But [fd] H H' ∧ (∃ z3, σ = [some (.ref p), some (.ref g), some (.ref fd), z3]) ∧ (i = 0 → H' fd = some (.lst [])) ∧ (i = 1 → H' fd = some (.lst [.ref q])))
      ⟨e5.but, ⟨_, rfl⟩, fun _ => upd_same, (fun h => by cases h)⟩ (fun i σ H' _ p => SqT.of (p.1.exN nf _ _ hg)) (fun i x σ H' H5 hi p y => ?_) (fun σ H5 p => ?_)
    · have i0 : i = 0 := by simp at hi; exact hi
      subst i0
      obtain ⟨b, ⟨z3, rfl⟩, k0, _⟩ := p
      have k0 := k0 rfl
      obtain ⟨rfl, hx⟩ := y
      obtain rfl : V.ref q = x := by simpa using hx
      have xb := b.exN nf
      refine ⟨_, rfl, _, _, _, _, rfl, rfl, SqT.of (xb _ _ hq), atI_nat (j := 0) rfl, rfl, _, rfl, ifF (int_ne (by decide +kernel)) ?_⟩
      refine ⟨_, rfl, _, _, _, _, rfl, rfl, SqT.of (xb _ _ hq), atI_nat (j := 0) rfl, rfl, _, rfl, ifF (int_ne (by decide +kernel)) (iteF ?_)⟩
      refine ⟨_, rfl, .inl ⟨rfl, _, SqL.of k0⟩, _, rfl, _, _, _, rfl, rfl, k0, szl (by simp), ?_⟩
      exact ⟨b.trans (But.set (by simp)), ⟨_, rfl⟩, (fun h => by cases h), fun _ => upd_same⟩
    · obtain ⟨b, ⟨z3, rfl⟩, _, k9⟩ := p
      have xb := b.exN nf
      refine ⟨_, rfl, fd, [.ref q], rfl, .inl ⟨SqL.of (k9 rfl), fun l hl => ?_⟩⟩
      exact k l _ (xb.trans (Ex.new hl)) upd_same
end
end Lw
namespace Lw
open PySem PySem.Spec PyProof.Rows L2
section
variable {P : Program} {w : World} {K : PySem.W.Frag} {mg : Str → Option Value} {base : Heap}
/-- the graph of an int -/
def GrAt (H : Hp) (v : V) (z : Int) : Prop := ∃ g q, v = .ref g ∧ H g = some (.tup [.ref q]) ∧ IntAt H q z
theorem GrAt.ex {H H' : Hp} (e : Ex H H') {v : V} {z : Int} (h : GrAt H v z) : GrAt H' v z := let ⟨g, q, a, b, c⟩ := h; ⟨g, q, a, e _ _ b, e _ _ c⟩
def spOutc (K : PySem.W.Frag) : Sp := fun vs H Q _ => ∃ (gl sl : Addr) (gs : List V) (zs : List Int) (sts : List Str), vs = [.ref gl, .ref sl] ∧ H gl = some (.lst gs) ∧ Paired (GrAt H) gs zs ∧ zs.length ≤ 100 ∧ (∀ z ∈ zs, z.natAbs.log2 < 1920) ∧
  H sl = some (.lst (sts.map V.str)) ∧ (∀ s ∈ sts, s = "done") ∧ ∀ p a b H', Ex H H' → H' p = some (.tup [.ref a, .ref b]) → H' a = some (.tup (zs.map fun z => .str (tx z))) → H' b = some (.tup []) → Q (.ref p) H'
theorem f_outc (T : Tx K mg) : Cal P w K mg base 5 "outcome_of" (spOutc K) := by
  have sc : FnScope ["graphs", "statuses", "numbers", "texts", "counts", "status", "graph"] ["graphs", "statuses"] (defScope s_outcome_of) := ⟨rfl, rfl, rfl, by decide +kernel, rfl, by decide +kernel, by decide +kernel⟩
  refine cal_ T.g_outcome_of T.f_outcome_of sc (fun _ _ _ _ _ _ us hl => match us, hl with | [_, _], _ => rfl) (fun vs H Q E h => ?_) (fun cdv A outer s H vs Q E hr h => ?_)
  · obtain ⟨_, _, _, _, _, rfl, _⟩ := h
    rfl
  · obtain ⟨gl, sl, gs, zs, sts, rfl, hgl, hgs, hzl, hz, hsl, hst, k⟩ := h
    refine ⟨_, pss_cons (ps_set (i := 2) sc.nd rfl (Or.inr rfl) (pe_mk0 (k_numbers T) hr))
      (pss_cons (ps_setLc (i := 3) (own := [("graph", 6)]) (g := gName 6) (te := tCl (spGText K) (tCons (tMt (cNumbers K) "renumbered" (spRen K) (tVar 2) (tCons (tVar 6) tNil)) tNil)) rfl sc.nd rfl rfl (sw_true rfl rfl rfl (by decide +kernel)) (pi_list (pv 0)) (blkOk_by (N := ["graphs", "statuses", "numbers", "texts", "counts", "status", "graph"]) (sc := defScope s_outcome_of) (by decide +kernel))
        (fun _ _ _ _ _ => pg_name (i := 6) sc.nd rfl (Or.inl rfl)) (fun _ _ _ _ _ => pts_nil) (fun _ _ _ _ _ => pe_c (f_gtext T) hr (pa_cons (pe_mt (m_renumbered T) hr (pv 2) (pa_cons (pv 6) pa_nil)) pa_nil)))
      (pss_cons (ps_set (i := 4) sc.nd rfl (Or.inr rfl) pe_dnewK)
      (pss_cons (ps_for PassesOwn.never rfl (pi_list (pv 1)) (pg_name (i := 5) sc.nd rfl (Or.inl rfl))
        (pss_one (ps_if (pt_cmpR op_ne (pv 5) pe_str (nomark _)) pss_never pss_nil)))
      (pss_one (ps_ret (pe_tup (pa_cons (pe_callTy call_tuple_of (by rfl) T.z_tuple (by decide +kernel) (pa_cons (pv 3) pa_nil))
        (pa_cons (pe_callTy call_tuple_of (by rfl) T.z_tuple (by decide +kernel) (pa_cons (pe_lc (own := [("status", 5)]) (g := gName 5) (te := tNev) rfl sc.nd (pi_list (pe_callB (call_sortedD rfl) (by rfl) T.z_sorted (by decide +kernel) (pa_cons (pv 4) pa_nil)))
          (blkOk_by (N := ["graphs", "statuses", "numbers", "texts", "counts", "status", "graph"]) (sc := defScope s_outcome_of) (by decide +kernel)) (fun _ _ _ _ _ => pg_name (i := 5) sc.nd rfl (Or.inl rfl)) (fun _ _ _ _ _ => pts_nil) (fun _ _ _ _ _ => pe_nev)) pa_nil)) pa_nil)))))))), ?_⟩
    refine fun p dx hp hd ne => ⟨p, dx, rfl, upd_same, fun fs H1 j1 j2 b1 => ⟨rfl, ?_⟩⟩
    have x1 := made_ex hp hd ne b1
    have hl := pr_len hgs
    refine ⟨_, rfl, gl, rfl, ⟨_, SqL.of (x1 _ _ hgl)⟩, fun D hD => ?_⟩
    have nD := none1 hD
    refine lc_it (walk_list (K := K) (a := gl) (xs := gs)) (fun i H' => But [D] H1 H' ∧ H' D = some (.lst ((zs.take i).map fun z => .str (tx z)))) ⟨(Ex.new hD).but, upd_same⟩ (fun i H' _ p => SqL.of (p.1.exN nD _ _ (x1 _ _ hgl))) (fun i x H' H2 hi p y => ?_) (fun H2 p => ?_)
    · obtain ⟨rfl, hx⟩ := y
      obtain ⟨b, hD2⟩ := p
      have xb := b.exN nD
      have iz : i < zs.length := by omega
      have ez : zs[i]? = some zs[i] := List.getElem?_eq_getElem iz
      obtain ⟨v, ev, g, q, rfl, hg, hq⟩ := pr_at hgs ez
      rw [hx] at ev
      cases ev
      refine ⟨rfl, _, rfl, p, dx, fs, rfl, xb _ _ j1, j2, _, rfl, p, g, q, zs[i], rfl, xb _ _ (x1 _ _ hg), xb _ _ (x1 _ _ hq), fun l H3 x3 h3 => ?_⟩
      refine ⟨l, q, zs[i], rfl, h3, x3 _ _ (xb _ _ (x1 _ _ hq)), hz _ (List.getElem_mem iz), fun H4 x4 => ?_⟩
      refine ⟨_, x4 _ _ (x3 _ _ hD2), szl (by rw [List.length_map, List.length_take]; omega), b.trans (x3.but.trans (x4.but.trans (But.set (by simp)))), ?_⟩
      rw [upd_same, List.take_succ, ez, List.map_append]
      rfl
    · obtain ⟨b, hD2⟩ := p
      have xb := x1.trans (b.exN nD)
      rw [hl, List.take_length] at hD2
      intro d hd2
      have e3 := Ex.new (o := .dK []) hd2
      refine ⟨_, rfl, sl, rfl, ⟨_, SqL.of (e3 _ _ (xb _ _ hsl))⟩, ?_⟩
      refine for_it (walk_list (K := K) (a := sl) (xs := sts.map V.str)) (fun i σ H' => H' = upd H2 d (.dK []) ∧ ∃ y5 y6, σ = [some (.ref gl), some (.ref sl), some (.ref p), some (.ref D), some (.ref d), y5, y6]) ⟨rfl, _, _, rfl⟩ (fun i σ H' _ p => by rw [p.1]; exact SqL.of (e3 _ _ (xb _ _ hsl))) (fun i x σ H' H5 hi p y => ?_) (fun σ H5 p => ?_)
      · obtain ⟨rfl, y5, y6, rfl⟩ := p
        obtain ⟨rfl, hx⟩ := y
        rw [List.getElem?_map] at hx
        obtain ⟨t, et, rfl⟩ := Option.map_eq_some_iff.mp hx
        have := hst t (List.mem_of_getElem? et)
        subst this
        exact ⟨_, rfl, rfl, _, rfl, ifnF rfl ⟨rfl, _, _, rfl⟩⟩
      · obtain ⟨rfl, y5, y6, rfl⟩ := p
        refine ⟨_, rfl, D, _, rfl, .inl ⟨SqL.of (e3 _ _ hD2), fun a ha => ?_⟩⟩
        have e4 := Ex.new (o := .tup (zs.map fun z => .str (tx z))) ha
        refine ⟨_, rfl, d, [], [], rfl, .inl (e4 _ _ upd_same), rfl, by decide, fun ys s1 hys _ hs1 => ?_⟩
        obtain rfl : ys = [] := List.Perm.eq_nil hys
        have e5 := Ex.new (o := .lst []) hs1
        refine ⟨s1, rfl, ⟨_, SqL.of upd_same⟩, fun D2 hD3 => ?_⟩
        have e6 := Ex.new (o := .lst []) hD3
        refine lc_it (walk_list (K := K) (a := s1) (xs := [])) (fun _ H' => H' = upd _ D2 (.lst [])) rfl (fun _ _ _ e => by rw [e]; exact SqL.of (e6 _ _ upd_same)) (fun i _ _ _ hi => absurd hi (Nat.not_lt_zero _)) (fun H' e => ?_)
        subst e
        refine ⟨D2, [], rfl, .inl ⟨SqL.of upd_same, fun b2 hb2 => ?_⟩⟩
        have e7 := Ex.new (o := .tup []) hb2
        refine ⟨sz (by simp), fun r hr2 => ?_⟩
        have e8 := Ex.new (o := .tup [.ref a, .ref b2]) hr2
        have x48 := (e5.trans e6).trans (e7.trans e8)
        refine k r a b2 _ (xb.trans (e3.trans (e4.trans x48))) upd_same (x48 _ _ upd_same) (e8 _ _ upd_same)
end
end Lw
/-! ### what stands in the heap for threads, machines -/
namespace Lw
open PySem PySem.Spec PyProof.Rows L2
abbrev fF (sv e : V) : List (Str × V) := [("statement", sv), ("nodes", e), ("handles", .non)]
def FrAt (K : PySem.W.Frag) (H : Hp) (v : V) (f : Sm × Ev) : Prop := ∃ p dx sv a, v = .ref p ∧ H p = some (.ins (cFrame K) dx (fF sv (.ref a))) ∧ SmAt H sv f.1 ∧ EvAt H a f.2
theorem FrAt.imm {K : PySem.W.Frag} {H H' : Hp} (e : Imm H H') {v : V} {f : Sm × Ev} (h : FrAt K H v f) : FrAt K H' v f := by
  obtain ⟨p, dx, sv, a, h1, h2, h3, h4⟩ := h
  exact ⟨p, dx, sv, a, h1, e _ _ h2 rfl, h3.imm e, e _ _ h4 trivial⟩
abbrev fT (lf : Addr) (w r : V) : List (Str × V) := [("frames", .ref lf), ("waits", w), ("raised", r)]
structure ThAt (K : PySem.W.Frag) (H : Hp) (t lf : Addr) (T : Th) : Prop where
  ob : ∃ dx, H t = some (.ins (cThread K) dx (fT lf (oV T.wt) (oV T.ra)))
  fr : ∃ vs, H lf = some (.lst vs) ∧ Paired (FrAt K H) vs T.fr.reverse
theorem ThAt.same {K : PySem.W.Frag} {H H' : Hp} {t lf : Addr} {T : Th} (h : ThAt K H t lf T) (e : Imm H H') (h1 : H' t = H t) (h2 : H' lf = H lf) : ThAt K H' t lf T := by
  obtain ⟨⟨dx, a⟩, ⟨vs, b, c⟩⟩ := h
  exact ⟨⟨dx, by rw [h1]; exact a⟩, ⟨vs, by rw [h2]; exact b, pr_imp (fun _ _ q => q.imm e) c⟩⟩
structure Lay where
  a : Addr
  s : Addr
  ln : Addr
  lp : Addr
  g : Addr
  r : Addr
  pr : Addr
  ce : Addr
  po : Addr
  tr : Addr
  bi : Addr
  at_ : Addr
  ts : List (Addr × Addr)
def flat (ts : List (Addr × Addr)) : List Addr := ts.flatMap fun p => [p.1, p.2]
/-- the machine's own addresses: what its methods may change -/
def Lay.own (L : Lay) : List Addr := L.a :: L.s :: L.ln :: L.lp :: L.g :: L.r :: L.pr :: L.ce :: L.po :: L.tr :: flat L.ts
abbrev fM (L : Lay) (tk : Nat) : List (Str × V) := [("store", .ref L.s), ("nodes_given", .ref L.g), ("built_in", .ref L.bi), ("atoms", .ref L.at_), ("rows", .ref L.r), ("procedures", .ref L.pr), ("cells", .ref L.ce), ("ports", .ref L.po), ("triggers", .ref L.tr), ("taken", nV tk)]
structure MachAt (K : PySem.W.Frag) (H : Hp) (L : Lay) (M : Mm) : Prop where
  nd : L.own.Nodup
  ob : ∃ dx, H L.a = some (.ins (cMachine K) dx (fM L M.tk))
  so : SoAt K H L.s L.ln L.lp M.so
  gv : H L.g = some (.lst (M.gv.map nV))
  rw_ : H L.r = some (.lst (L.ts.map fun p => .ref p.1))
  pr : H L.pr = some (.lst [])
  ce : H L.ce = some (.lst [])
  po : H L.po = some (.lst [])
  tr : H L.tr = some (.lst [])
  bi : ∃ e, H L.bi = some (.dK e)
  at_ : ∃ e, H L.at_ = some (.dK e)
  ts : Paired (fun p T => ThAt K H p.1 p.2 T) L.ts M.rows
/-! #### its own addresses stand apart -/
theorem ne_ix {l : List Addr} (nd : l.Nodup) {i j : Nat} {x y : Addr} (hi : l[i]? = some x) (hj : l[j]? = some y) (h : i ≠ j) : x ≠ y := by
  intro e
  subst e
  obtain ⟨h1, e1⟩ := List.getElem?_eq_some_iff.mp hi
  obtain ⟨h2, e2⟩ := List.getElem?_eq_some_iff.mp hj
  exact h ((List.getElem_inj nd).mp (e1.trans e2.symm))
theorem flat_fst : ∀ {ts : List (Addr × Addr)} {i : Nat} {p : Addr × Addr}, ts[i]? = some p → (flat ts)[2 * i]? = some p.1
  | [], _, _, h => by simp at h
  | q :: r, 0, p, h => by
    obtain rfl : q = p := by simpa using h
    rfl
  | q :: r, i + 1, p, h => by
    have e : flat (q :: r) = q.1 :: q.2 :: flat r := rfl
    rw [e, show 2 * (i + 1) = 2 * i + 1 + 1 by omega, List.getElem?_cons_succ, List.getElem?_cons_succ]
    exact flat_fst (by simpa using h)
theorem flat_snd : ∀ {ts : List (Addr × Addr)} {i : Nat} {p : Addr × Addr}, ts[i]? = some p → (flat ts)[2 * i + 1]? = some p.2
  | [], _, _, h => by simp at h
  | q :: r, 0, p, h => by
    obtain rfl : q = p := by simpa using h
    rfl
  | q :: r, i + 1, p, h => by
    have e : flat (q :: r) = q.1 :: q.2 :: flat r := rfl
    rw [e, show 2 * (i + 1) + 1 = 2 * i + 1 + 1 + 1 by omega, List.getElem?_cons_succ, List.getElem?_cons_succ]
    exact flat_snd (by simpa using h)
theorem Lay.t1 {L : Lay} {i : Nat} {p : Addr × Addr} (h : L.ts[i]? = some p) : L.own[2 * i + 10]? = some p.1 := flat_fst h
theorem Lay.t2 {L : Lay} {i : Nat} {p : Addr × Addr} (h : L.ts[i]? = some p) : L.own[2 * i + 11]? = some p.2 := flat_snd h
theorem mem_ix {l : List Addr} {i : Nat} {x : Addr} (h : l[i]? = some x) : x ∈ l := List.mem_of_getElem? h
/-- outside of the places at J, of one's own all is as it was -/
theorem But.at {F : List Addr} {H H' : Hp} (b : But F H H') {x : Addr} {o : HO} (h : H x = some o) (n : x ∉ F) : H' x = H x := by rw [h]; exact b _ _ h n
theorem But.imm {F : List Addr} {H H' : Hp} (b : But F H H') (n : ∀ x ∈ F, ∀ o, H x = some o → ¬ imm o) : Imm H H' := fun a o h i => b a o h fun m => n a m o h i
theorem imm_lst {xs : List V} : ¬ imm (.lst xs) := fun h => h
theorem imm_mach {C dx : Addr} {L : Lay} {tk : Nat} : ¬ imm (.ins C dx (fM L tk)) := fun h => absurd (show ("store" : Str) = "statement" from Option.some.inj h) (by decide +kernel)
theorem imm_th {C dx lf : Addr} {a b : V} : ¬ imm (.ins C dx (fT lf a b)) := fun h => absurd (show ("frames" : Str) = "statement" from Option.some.inj h) (by decide +kernel)
theorem imm_so {C dx a b : Addr} : ¬ imm (.ins C dx (fS a b)) := fun h => absurd (show ("nodes" : Str) = "statement" from Option.some.inj h) (by decide +kernel)
section
variable {K : PySem.W.Frag} {H H' : Hp} {L : Lay} {M : Mm}
theorem MachAt.len (m : MachAt K H L M) : L.ts.length = M.rows.length := pr_len m.ts
theorem MachAt.thr (m : MachAt K H L M) {i : Nat} {T : Th} (h : M.rows[i]? = some T) : ∃ t lf, L.ts[i]? = some (t, lf) ∧ ThAt K H t lf T := by
  obtain ⟨⟨t, lf⟩, h1, h2⟩ := pr_at m.ts h
  exact ⟨t, lf, h1, h2⟩
/-- every object of its own is known -/
theorem MachAt.known (m : MachAt K H L M) : ∀ x ∈ L.own, ∃ o, H x = some o ∧ ¬ imm o := by
  intro x hx
  obtain ⟨dx, h0⟩ := m.ob
  obtain ⟨ds, h1⟩ := m.so.ob
  obtain ⟨vs, h2, _⟩ := m.so.ns
  unfold Lay.own at hx
  simp only [List.mem_cons] at hx
  rcases hx with h | h | h | h | h | h | h | h | h | h | h
  · rw [h]; exact ⟨_, h0, imm_mach⟩
  · rw [h]; exact ⟨_, h1, imm_so⟩
  · rw [h]; exact ⟨_, h2, imm_lst⟩
  · rw [h]; exact ⟨_, m.so.ps, imm_lst⟩
  · rw [h]; exact ⟨_, m.gv, imm_lst⟩
  · rw [h]; exact ⟨_, m.rw_, imm_lst⟩
  · rw [h]; exact ⟨_, m.pr, imm_lst⟩
  · rw [h]; exact ⟨_, m.ce, imm_lst⟩
  · rw [h]; exact ⟨_, m.po, imm_lst⟩
  · rw [h]; exact ⟨_, m.tr, imm_lst⟩
  · unfold flat at h
    obtain ⟨p, hp, hx⟩ := List.mem_flatMap.mp h
    obtain ⟨i, hi, ei⟩ := List.getElem_of_mem hp
    have e : L.ts[i]? = some p := by rw [← ei]; exact List.getElem?_eq_getElem hi
    have hi2 : i < M.rows.length := by rw [← m.len]; exact hi
    obtain ⟨t, lf, e2, hT⟩ := m.thr (List.getElem?_eq_getElem hi2)
    rw [e] at e2
    cases e2
    obtain ⟨⟨dt, a⟩, ⟨vs, b, _⟩⟩ := hT
    simp only [List.mem_cons, List.not_mem_nil, or_false] at hx
    rcases hx with hx | hx
    · rw [hx]; exact ⟨_, a, imm_th⟩
    · rw [hx]; exact ⟨_, b, imm_lst⟩
theorem MachAt.off (m : MachAt K H L M) {p : Addr} (h : H p = none) : p ∉ L.own := fun hp => by
  obtain ⟨o, e, _⟩ := m.known p hp
  rw [h] at e
  cases e
theorem MachAt.imm (m : MachAt K H L M) {F : List Addr} (b : But F H H') (s : ∀ x ∈ F, x ∈ L.own) : Imm H H' := b.imm fun x hx o h => by
  obtain ⟨o', e, n⟩ := m.known x (s x hx)
  rw [h] at e
  cases e
  exact n
theorem MachAt.ex (m : MachAt K H L M) (e : Ex H H') : MachAt K H' L M := by
  obtain ⟨dx, h0⟩ := m.ob
  obtain ⟨e1, h1⟩ := m.bi
  obtain ⟨e2, h2⟩ := m.at_
  refine ⟨m.nd, ⟨dx, e _ _ h0⟩, m.so.ex e, e _ _ m.gv, e _ _ m.rw_, e _ _ m.pr, e _ _ m.ce, e _ _ m.po, e _ _ m.tr, ⟨e1, e _ _ h1⟩, ⟨e2, e _ _ h2⟩, pr_imp (fun p T h => ?_) m.ts⟩
  obtain ⟨⟨dt, a⟩, ⟨vs, b, c⟩⟩ := h
  exact ⟨⟨dt, e _ _ a⟩, ⟨vs, e _ _ b, pr_imp (fun _ _ q => q.imm e.imm) c⟩⟩
/-- the threads as they were, where none of their addresses is in F -/
theorem MachAt.ths (m : MachAt K H L M) {F : List Addr} (b : But F H H') (i : Imm H H') (n : ∀ x ∈ flat L.ts, x ∉ F) : Paired (fun p T => ThAt K H' p.1 p.2 T) L.ts M.rows := by
  have z : ∀ {ts : List (Addr × Addr)} {rows : List Th}, (∀ x ∈ flat ts, x ∉ F) → Paired (fun p T => ThAt K H p.1 p.2 T) ts rows → Paired (fun p T => ThAt K H' p.1 p.2 T) ts rows := by
    intro ts rows hn h
    induction h with
    | nil => exact .nil
    | @cons p T ps Ts h t ih =>
      refine .cons (h.same i ?_ ?_) (ih fun x hx => hn x (by show x ∈ p.1 :: p.2 :: flat ps; simp [hx]))
      · obtain ⟨⟨dt, a⟩, _⟩ := h
        exact b.at a (hn _ (by show p.1 ∈ p.1 :: p.2 :: flat ps; simp))
      · obtain ⟨_, ⟨vs, c, _⟩⟩ := h
        exact b.at c (hn _ (by show p.2 ∈ p.1 :: p.2 :: flat ps; simp))
  exact z n m.ts
theorem flat_mem {ts : List (Addr × Addr)} {x : Addr} (h : x ∈ flat ts) : ∃ i : Nat, (flat ts)[i]? = some x := by
  obtain ⟨i, hi, e⟩ := List.getElem_of_mem h
  exact ⟨i, by rw [← e]; exact List.getElem?_eq_getElem hi⟩
theorem Lay.fl {L : Lay} {i : Nat} {x : Addr} (h : (flat L.ts)[i]? = some x) : L.own[i + 10]? = some x := h
/-- the store has changed -/
theorem MachAt.store (m : MachAt K H L M) {S : So} (h : SoAt K H' L.s L.ln L.lp S) (b : But [L.ln, L.lp] H H') : MachAt K H' L { M with so := S } := by
  have nd := m.nd
  have i : Imm H H' := m.imm b (by intro x hx; simp at hx; rcases hx with h | h <;> (rw [h]; simp [Lay.own]))
  have n : ∀ {k : Nat} {x : Addr}, L.own[k]? = some x → k ≠ 2 → k ≠ 3 → x ∉ [L.ln, L.lp] := fun {k x} e h2 h3 => by
    simp only [List.mem_cons, List.not_mem_nil, or_false, not_or]
    exact ⟨ne_ix nd e (j := 2) rfl h2, ne_ix nd e (j := 3) rfl h3⟩
  obtain ⟨dx, h0⟩ := m.ob
  obtain ⟨e1, h1⟩ := m.bi
  obtain ⟨e2, h2⟩ := m.at_
  refine ⟨nd, ⟨dx, b _ _ h0 (n (k := 0) rfl (by decide) (by decide))⟩, h, b _ _ m.gv (n (k := 4) rfl (by decide) (by decide)), b _ _ m.rw_ (n (k := 5) rfl (by decide) (by decide)), b _ _ m.pr (n (k := 6) rfl (by decide) (by decide)),
    b _ _ m.ce (n (k := 7) rfl (by decide) (by decide)), b _ _ m.po (n (k := 8) rfl (by decide) (by decide)), b _ _ m.tr (n (k := 9) rfl (by decide) (by decide)), ⟨e1, i _ _ h1 trivial⟩, ⟨e2, i _ _ h2 trivial⟩, m.ths b i fun x hx => ?_⟩
  obtain ⟨k, e⟩ := flat_mem hx
  exact n (Lay.fl e) (by omega) (by omega)
/-- the machine's own fields: taken, the list of triggers -/
theorem MachAt.field (m : MachAt K H L M) {dx : Addr} (h0 : H L.a = some (.ins (cMachine K) dx (fM L M.tk))) {tr : Addr} {tk : Nat} (ht : H tr = some (.lst [])) (hn : tr = L.tr ∨ tr ∉ L.own) :
    MachAt K (upd H L.a (.ins (cMachine K) dx (fM { L with tr := tr } tk))) { L with tr := tr } { M with tk := tk } := by
  have nd := m.nd
  have b : But [L.a] H (upd H L.a (.ins (cMachine K) dx (fM { L with tr := tr } tk))) := But.set (by simp)
  have i : Imm H (upd H L.a (.ins (cMachine K) dx (fM { L with tr := tr } tk))) := Imm.set h0 imm_mach
  have n : ∀ {k : Nat} {x : Addr}, L.own[k]? = some x → k ≠ 0 → x ∉ [L.a] := fun {k x} e h => by
    simp only [List.mem_cons, List.not_mem_nil, or_false]
    exact ne_ix nd e (j := 0) rfl h
  obtain ⟨e1, h1⟩ := m.bi
  obtain ⟨e2, h2⟩ := m.at_
  obtain ⟨ds, s1⟩ := m.so.ob
  obtain ⟨vs, s2, s3⟩ := m.so.ns
  have ta : tr ∉ [L.a] := by
    simp only [List.mem_cons, List.not_mem_nil, or_false]
    exact ne_of ht h0 (fun z => nomatch z)
  refine ⟨?_, ⟨dx, upd_same⟩, ⟨⟨ds, b _ _ s1 (n (k := 1) rfl (by decide))⟩, ⟨vs, b _ _ s2 (n (k := 2) rfl (by decide)), pr_imp (fun _ _ q => q.imm i) s3⟩, b _ _ m.so.ps (n (k := 3) rfl (by decide)), m.so.ne⟩, b _ _ m.gv (n (k := 4) rfl (by decide)), b _ _ m.rw_ (n (k := 5) rfl (by decide)),
    b _ _ m.pr (n (k := 6) rfl (by decide)), b _ _ m.ce (n (k := 7) rfl (by decide)), b _ _ m.po (n (k := 8) rfl (by decide)), b _ _ ht ta, ⟨e1, i _ _ h1 trivial⟩, ⟨e2, i _ _ h2 trivial⟩, m.ths b i fun x hx => ?_⟩
  · rcases hn with e | e
    · rw [e]; exact nd
    · show (L.a :: L.s :: L.ln :: L.lp :: L.g :: L.r :: L.pr :: L.ce :: L.po :: tr :: flat L.ts).Nodup
      unfold Lay.own at nd e
      simp only [List.nodup_cons, List.mem_cons, not_or] at nd e ⊢
      obtain ⟨n0, n1, n2, n3, n4, n5, n6, n7, n8, n9, n10⟩ := nd
      obtain ⟨t0, t1, t2, t3, t4, t5, t6, t7, t8, t9, t10⟩ := e
      refine ⟨⟨n0.1, n0.2.1, n0.2.2.1, n0.2.2.2.1, n0.2.2.2.2.1, n0.2.2.2.2.2.1, n0.2.2.2.2.2.2.1, n0.2.2.2.2.2.2.2.1, Ne.symm t0, n0.2.2.2.2.2.2.2.2.2⟩, ⟨n1.1, n1.2.1, n1.2.2.1, n1.2.2.2.1, n1.2.2.2.2.1, n1.2.2.2.2.2.1, n1.2.2.2.2.2.2.1, Ne.symm t1, n1.2.2.2.2.2.2.2.2⟩,
        ⟨n2.1, n2.2.1, n2.2.2.1, n2.2.2.2.1, n2.2.2.2.2.1, n2.2.2.2.2.2.1, Ne.symm t2, n2.2.2.2.2.2.2.2⟩, ⟨n3.1, n3.2.1, n3.2.2.1, n3.2.2.2.1, n3.2.2.2.2.1, Ne.symm t3, n3.2.2.2.2.2.2⟩, ⟨n4.1, n4.2.1, n4.2.2.1, n4.2.2.2.1, Ne.symm t4, n4.2.2.2.2.2⟩,
        ⟨n5.1, n5.2.1, n5.2.2.1, Ne.symm t5, n5.2.2.2.2⟩, ⟨n6.1, n6.2.1, Ne.symm t6, n6.2.2.2⟩, ⟨n7.1, Ne.symm t7, n7.2.2⟩, ⟨Ne.symm t8, n8.2⟩, t10, n10⟩
  · obtain ⟨k, e⟩ := flat_mem hx
    exact n (Lay.fl e) (by omega)
theorem pr_of {α β : Type} {R : α → β → Prop} : ∀ {xs : List α} {ys : List β}, xs.length = ys.length → (∀ (i : Nat) (x : α) (y : β), xs[i]? = some x → ys[i]? = some y → R x y) → Paired R xs ys
  | [], [], _, _ => .nil
  | [], _ :: _, h, _ => by simp at h
  | _ :: _, [], h, _ => by simp at h
  | x :: xs, y :: ys, h, r => .cons (r 0 x y rfl rfl) (pr_of (by simpa using h) fun i a b ha hb => r (i + 1) a b (by simpa using ha) (by simpa using hb))
theorem pr_2 {α β : Type} {R : α → β → Prop} {xs : List α} {ys : List β} (h : Paired R xs ys) {i : Nat} {x : α} {y : β} (hx : xs[i]? = some x) (hy : ys[i]? = some y) : R x y := by
  obtain ⟨z, h1, h2⟩ := pr_at h hy
  rw [hx] at h1
  cases h1
  exact h2
/-- a thread has changed -/
theorem MachAt.th (m : MachAt K H L M) {i : Nat} {t lf : Addr} {T' : Th} (hi : L.ts[i]? = some (t, lf)) (h : ThAt K H' t lf T') (b : But [t, lf] H H') : MachAt K H' L (M.row i T') := by
  have nd := m.nd
  have i1 := Lay.t1 hi
  have i2 := Lay.t2 hi
  have im : Imm H H' := m.imm b (by
    intro x hx
    simp only [List.mem_cons, List.not_mem_nil, or_false] at hx
    rcases hx with h | h
    · rw [h]; exact mem_ix i1
    · rw [h]; exact mem_ix i2)
  have n : ∀ {k : Nat} {x : Addr}, L.own[k]? = some x → k ≠ 2 * i + 10 → k ≠ 2 * i + 11 → x ∉ [t, lf] := fun {k x} e h2 h3 => by
    simp only [List.mem_cons, List.not_mem_nil, or_false, not_or]
    exact ⟨ne_ix nd e i1 h2, ne_ix nd e i2 h3⟩
  obtain ⟨dx, h0⟩ := m.ob
  obtain ⟨e1, h1⟩ := m.bi
  obtain ⟨e2, h2⟩ := m.at_
  obtain ⟨ds, s1⟩ := m.so.ob
  obtain ⟨vs, s2, s3⟩ := m.so.ns
  refine ⟨nd, ⟨dx, b _ _ h0 (n (k := 0) rfl (by omega) (by omega))⟩, ⟨⟨ds, b _ _ s1 (n (k := 1) rfl (by omega) (by omega))⟩, ⟨vs, b _ _ s2 (n (k := 2) rfl (by omega) (by omega)), pr_imp (fun _ _ q => q.imm im) s3⟩, b _ _ m.so.ps (n (k := 3) rfl (by omega) (by omega)), m.so.ne⟩,
    b _ _ m.gv (n (k := 4) rfl (by omega) (by omega)), b _ _ m.rw_ (n (k := 5) rfl (by omega) (by omega)), b _ _ m.pr (n (k := 6) rfl (by omega) (by omega)), b _ _ m.ce (n (k := 7) rfl (by omega) (by omega)), b _ _ m.po (n (k := 8) rfl (by omega) (by omega)), b _ _ m.tr (n (k := 9) rfl (by omega) (by omega)),
    ⟨e1, im _ _ h1 trivial⟩, ⟨e2, im _ _ h2 trivial⟩, pr_of (by show _ = (M.rows.set i T').length; rw [List.length_set]; exact m.len) fun j p T hj hT => ?_⟩
  by_cases q : j = i
  · subst q
    rw [hi] at hj
    cases hj
    have hlt : j < M.rows.length := by rw [← m.len]; exact (List.getElem?_eq_some_iff.mp hi).1
    have e : (M.rows.set j T')[j]? = some T := hT
    rw [List.getElem?_set_self hlt] at e
    cases e
    exact h
  · have e : (M.rows.set i T')[j]? = some T := hT
    rw [List.getElem?_set_ne (fun z => q z.symm)] at e
    have r := pr_2 m.ts hj e
    obtain ⟨⟨dt, a⟩, ⟨vs', c, _⟩⟩ := id r
    exact r.same im (b.at a (n (Lay.t1 hj) (by omega) (by omega))) (b.at c (n (Lay.t2 hj) (by omega) (by omega)))
theorem flat_app (ts us : List (Addr × Addr)) : flat (ts ++ us) = flat ts ++ flat us := by unfold flat; rw [List.flatMap_append]
/-- a thread more -/
theorem MachAt.app (m : MachAt K H L M) {t lf : Addr} {T : Th} (ht : t ∉ L.own) (hl : lf ∉ L.own) (ne : t ≠ lf) (h : ThAt K H' t lf T) (hr : H' L.r = some (.lst ((L.ts.map fun p => V.ref p.1) ++ [.ref t]))) (b : But [L.r] H H') :
    MachAt K H' { L with ts := L.ts ++ [(t, lf)] } { M with rows := M.rows ++ [T] } := by
  have nd := m.nd
  have im : Imm H H' := m.imm b (by intro x hx; rw [List.mem_singleton.mp hx]; exact mem_ix (i := 5) rfl)
  have n : ∀ {k : Nat} {x : Addr}, L.own[k]? = some x → k ≠ 5 → x ∉ [L.r] := fun {k x} e h => by
    simp only [List.mem_cons, List.not_mem_nil, or_false]
    exact ne_ix nd e (j := 5) rfl h
  obtain ⟨dx, h0⟩ := m.ob
  obtain ⟨e1, h1⟩ := m.bi
  obtain ⟨e2, h2⟩ := m.at_
  obtain ⟨ds, s1⟩ := m.so.ob
  obtain ⟨vs, s2, s3⟩ := m.so.ns
  have eo : ({ L with ts := L.ts ++ [(t, lf)] } : Lay).own = L.own ++ [t, lf] := by
    show _ = (L.a :: L.s :: L.ln :: L.lp :: L.g :: L.r :: L.pr :: L.ce :: L.po :: L.tr :: flat L.ts) ++ [t, lf]
    unfold Lay.own
    show L.a :: L.s :: L.ln :: L.lp :: L.g :: L.r :: L.pr :: L.ce :: L.po :: L.tr :: flat (L.ts ++ [(t, lf)]) = _
    rw [flat_app]
    rfl
  refine ⟨?_, ⟨dx, b _ _ h0 (n (k := 0) rfl (by decide))⟩, ⟨⟨ds, b _ _ s1 (n (k := 1) rfl (by decide))⟩, ⟨vs, b _ _ s2 (n (k := 2) rfl (by decide)), pr_imp (fun _ _ q => q.imm im) s3⟩, b _ _ m.so.ps (n (k := 3) rfl (by decide)), m.so.ne⟩,
    b _ _ m.gv (n (k := 4) rfl (by decide)), ?_, b _ _ m.pr (n (k := 6) rfl (by decide)), b _ _ m.ce (n (k := 7) rfl (by decide)), b _ _ m.po (n (k := 8) rfl (by decide)), b _ _ m.tr (n (k := 9) rfl (by decide)),
    ⟨e1, im _ _ h1 trivial⟩, ⟨e2, im _ _ h2 trivial⟩, pr_app (m.ths b im fun x hx => ?_) (.cons h .nil)⟩
  · rw [eo, List.nodup_append]
    refine ⟨nd, by simp [ne], fun x hx y hy => ?_⟩
    simp only [List.mem_cons, List.not_mem_nil, or_false] at hy
    rcases hy with z | z
    · rw [z]; exact fun e => ht (e ▸ hx)
    · rw [z]; exact fun e => hl (e ▸ hx)
  · show H' L.r = some (.lst ((L.ts ++ [(t, lf)]).map fun p => V.ref p.1))
    rw [hr, List.map_append]
    rfl
  · obtain ⟨k, e⟩ := flat_mem hx
    exact n (Lay.fl e) (by omega)
end
/-- from a machine to another one, at the same place -/
structure Go (K : PySem.W.Frag) (H : Hp) (L : Lay) (H' : Hp) (L' : Lay) (M' : Mm) : Prop where
  m : MachAt K H' L' M'
  a : L'.a = L.a
  but : But L.own H H'
  own : ∀ x ∈ L'.own, x ∈ L.own ∨ H x = none
  ts : ∀ (i : Nat) (p : Addr × Addr), L.ts[i]? = some p → L'.ts[i]? = some p
theorem Go.refl {K : PySem.W.Frag} {H : Hp} {L : Lay} {M : Mm} (m : MachAt K H L M) : Go K H L H L M := ⟨m, rfl, But.refl H, fun _ h => .inl h, fun _ _ h => h⟩
theorem Go.trans {K : PySem.W.Frag} {H H1 H2 : Hp} {L L1 L2 : Lay} {M1 M2 : Mm} (x : Go K H L H1 L1 M1) (y : Go K H1 L1 H2 L2 M2) : Go K H L H2 L2 M2 := by
  have own1 : ∀ z ∈ L1.own, ∀ o, H z = some o → z ∈ L.own := fun z hz o h => by
    rcases x.own z hz with q | q
    · exact q
    · rw [q] at h; cases h
  refine ⟨y.m, y.a.trans x.a, fun z o h n => y.but z o (x.but z o h n) fun q => n (own1 z q o h), fun z hz => ?_, fun i p h => y.ts i p (x.ts i p h)⟩
  rcases y.own z hz with q | q
  · exact x.own z q
  · by_cases n : z ∈ L.own
    · exact .inl n
    · refine .inr ?_
      cases e : H z with
      | none => rfl
      | some o => rw [x.but z o e n] at q; cases q
/-- .. behind what makes new objects alone -/
theorem Go.pre {K : PySem.W.Frag} {H H1 H2 : Hp} {L L2 : Lay} {M2 : Mm} (e : Ex H H1) (y : Go K H1 L H2 L2 M2) : Go K H L H2 L2 M2 :=
  ⟨y.m, y.a, e.but.trans y.but, fun z hz => (y.own z hz).imp id e.free, y.ts⟩
theorem Go.post {K : PySem.W.Frag} {H H1 H2 : Hp} {L L1 : Lay} {M1 : Mm} (x : Go K H L H1 L1 M1) (e : Ex H1 H2) : Go K H L H2 L1 M1 :=
  ⟨x.m.ex e, x.a, x.but.trans e.but, x.own, x.ts⟩
theorem Go.store {K : PySem.W.Frag} {H H' : Hp} {L : Lay} {M : Mm} (m : MachAt K H L M) {S : So} (h : SoAt K H' L.s L.ln L.lp S) (b : But [L.ln, L.lp] H H') : Go K H L H' L { M with so := S } :=
  ⟨m.store h b, rfl, b.mono (by intro x hx; simp only [List.mem_cons, List.not_mem_nil, or_false] at hx; rcases hx with e | e <;> (rw [e]; simp [Lay.own])), fun _ h => .inl h, fun _ _ h => h⟩
theorem Go.th {K : PySem.W.Frag} {H H' : Hp} {L : Lay} {M : Mm} (m : MachAt K H L M) {i : Nat} {t lf : Addr} {T' : Th} (hi : L.ts[i]? = some (t, lf)) (h : ThAt K H' t lf T') (b : But [t, lf] H H') : Go K H L H' L (M.row i T') :=
  ⟨m.th hi h b, rfl, b.mono (by
    intro x hx
    simp only [List.mem_cons, List.not_mem_nil, or_false] at hx
    rcases hx with e | e
    · rw [e]; exact mem_ix (Lay.t1 hi)
    · rw [e]; exact mem_ix (Lay.t2 hi)), fun _ h => .inl h, fun _ _ h => h⟩
end Lw
namespace Lw
open PySem PySem.Spec PyProof.Rows L2
/-! #### for x, y in zip(t, l), t a tuple, l a list -/
def ItzM (K : PySem.W.Frag) (a b : Addr) : It :=
  ⟨fun i H => ∃ (xs ys : List V) (x y : V), SqT K H a xs ∧ SqL K H b ys ∧ xs[i]? = some x ∧ ys[i]? = some y,
    fun i H v H' => ∃ T x y, v = .ref T ∧ H T = none ∧ H' = upd H T (.tup [x, y]) ∧ (∀ xs, SqT K H a xs → xs[i]? = some x) ∧ ∀ ys, SqL K H b ys → ys[i]? = some y,
    fun i H => ∃ xs ys : List V, SqT K H a xs ∧ SqL K H b ys ∧ i = xs.length ∧ i = ys.length⟩
structure ZipM (a b z TI TO i1 i2 : Addr) : Prop where
  S : ZipSep2 z TI TO i1 i2 [i1, a] [i2, b]
  n1 : a ≠ i1
  n2 : b ≠ i2
theorem zipM_of (n a b : Nat) (h1 : a < n) (h2 : b < n) : ZipM a b (n + 4) (n + 2) (n + 3) n (n + 1) where
  S := by constructor <;> simp <;> (try constructor) <;> (intro (e : (_ : Nat) = (_ : Nat)); omega)
  n1 := fun (e : (a : Nat) = n) => by omega
  n2 := fun (e : (b : Nat) = n + 1) => by omega
theorem turn_zipM {P : Program} {w : World} {K : PySem.W.Frag} {elts : List Expr} {kk : Nat} {tpos : Pos} {a b z TI TO i1 i2 : Addr} (D : ZipM a b z TI TO i1 i2) :
    Turn P w K (.Tuple elts kk tpos) (ItzM K a b) [z, TI, TO, i1, i2] z (fun i h => IsZip h z TI TO .none ∧ IsTupOf2 h TI (.ref i1) (.ref i2) ∧ (∃ x y, IsTupOf2 h TO x y) ∧ h.IsTupleIter i1 a i ∧ h.IsListIter i2 b i) where
  mem := by simp
  obj := fun i h st c hc => by
    obtain ⟨hz, hTI, ⟨x, y, hTO⟩, ⟨o1, e1, _, d1⟩, ⟨o2, e2, _, d2⟩⟩ := st
    have e' : c = z ∨ c = TI ∨ c = TO ∨ c = i1 ∨ c = i2 := by simpa using hc
    rcases e' with q | q | q | q | q
    · rw [q]; exact ⟨_, hz, fun v q => nomatch q⟩
    · rw [q]; exact ⟨_, hTI, fun v q => nomatch q⟩
    · rw [q]; exact ⟨_, hTO, fun v q => nomatch q⟩
    · rw [q]; exact ⟨o1, e1, fun v q => by rw [d1] at q; cases q⟩
    · rw [q]; exact ⟨o2, e2, fun v q => by rw [d2] at q; cases q⟩
  keep := fun i h h' st k => by
    obtain ⟨hz, hTI, ⟨x, y, hTO⟩, h1, h2⟩ := st
    exact ⟨k z (by simp) _ hz, k TI (by simp) _ hTI, ⟨x, y, k TO (by simp) _ hTO⟩, h1.at fun o q => k i1 (by simp) o q, h2.at fun o q => k i2 (by simp) o q⟩
  item := by
    intro X hP hw hK hc i pins s σ H E I hf st hg
    subst hP hw hK
    obtain ⟨hz, hTI, ⟨x0, y0, hTO⟩, h1, h2⟩ := st
    obtain ⟨xs, ys, x, y, hqx, hqy, hx, hy⟩ := hg
    obtain ⟨its, rv, p, _⟩ := I.tuple hqx
    obtain ⟨its2, rv2, p2, _⟩ := I.list hqy
    obtain ⟨u, hu, ru⟩ := rv.get hx
    obtain ⟨u2, hu2, ru2⟩ := rv2.get hy
    have hzl : z < s.heap.objs.size := Heap.lt_size hz
    have D1 := Draws.tuple (prog := X.prog) (w := X.w) (A := X.A.in1) (I.ok.hd hc) i1 a D.n1 its.toArray
    have D2 := Draws.list (prog := X.prog) (w := X.w) (A := X.A.in1) (I.ok.hd hc) i2 b D.n2 its2.toArray
    have l1 : i < its.toArray.size := by simpa using (List.getElem?_eq_some_iff.mp hu).1
    have l2 : i < its2.toArray.size := by simpa using (List.getElem?_eq_some_iff.mp hu2).1
    refine wpAny_pyNext_zipD2_item D.S D1 D2 hz hTI hTO ⟨h1, isTuple_of p⟩ ⟨h2, p2.isList⟩ l1 l2 fun x1 x2 h' tk hx1 hx2 z' TO' st1 st2 hT hsz hk => ?_
    have ex : x1 = u := by
      have q : its.toArray[i]? = some x1 := hx1
      rw [List.getElem?_toArray, hu] at q
      exact (Option.some.inj q).symm
    have ex2 : x2 = u2 := by
      have q : its2.toArray[i]? = some x2 := hx2
      rw [List.getElem?_toArray, hu2] at q
      exact (Option.some.inj q).symm
    subst ex ex2
    refine ⟨_, rfl, wpAny_letOwnedTupleGo_zip (s := { s with heap := h', toks := tk }) z' fun h'' z'' sb => ?_⟩
    have hT2 : h''.get? s.heap.objs.size = some { cls := .type "tuple", data := .seq #[x1, x2] } := (sb.2 _ (Nat.ne_of_gt hzl)).trans hT
    have new : ObjOk X.prog X.w (upd H s.heap.objs.size (.tup [x, y])) h'' s.heap.objs.size (.tup [x, y]) :=
      ⟨by show 2 ≤ sizeLine; decide, [x1, x2], .cons ru (.cons ru2 .nil), ⟨_, hT2, rfl, _, rfl⟩⟩
    have I1 : Inv X pins σ (upd H s.heap.objs.size (.tup [x, y])) { s with heap := h'', toks := tk } :=
      I.turnedNew (ch := [z, TI, TO, i1, i2]) (fun c o hb q => (sb.2 c (fun q' => hb (by simp [q']))).trans (hk c o (fun q' => hb (by simp [q'])) (fun q' => hb (by simp [q'])) (fun q' => hb (by simp [q'])) (fun q' => hb (by simp [q'])) q)) hf (Nat.le_refl _) new
    refine ⟨.ref s.heap.objs.size, _, I1, rfl, ⟨_, x, y, rfl, I.hok.fresh (Nat.le_refl _), rfl, fun l hl => by rw [I.tuple_inj hl hqx]; exact hx, fun l hl => by rw [I.list_inj hl hqy]; exact hy⟩, ⟨z'', ?_, ⟨x1, x2, ?_⟩, ?_, ?_⟩, fun c hcm => ?_⟩
    · exact (sb.2 _ D.S.TIz).trans (hk _ _ D.S.TIz D.S.TITO D.S.TIi1 D.S.TIi2 hTI)
    · exact (sb.2 _ D.S.TOz).trans TO'
    · exact st1.1.at fun o q => (sb.2 _ (Ne.symm D.S.zi1)).trans q
    · exact st2.1.at fun o q => (sb.2 _ (Ne.symm D.S.zi2)).trans q
    · have hlt : c < s.heap.objs.size := by
        have e' : c = z ∨ c = TI ∨ c = TO ∨ c = i1 ∨ c = i2 := by simpa using hcm
        rcases e' with q | q | q | q | q
        · rw [q]; exact hzl
        · rw [q]; exact Heap.lt_size hTI
        · rw [q]; exact Heap.lt_size hTO
        · rw [q]; obtain ⟨_, e1, _⟩ := h1; exact Heap.lt_size e1
        · rw [q]; obtain ⟨_, e2, _⟩ := h2; exact Heap.lt_size e2
      rw [upd_ne (Nat.ne_of_lt hlt)]
      exact (hf c hcm).1
  done := by
    intro X hP hw hK hc i pins s σ H E I hf st hg
    subst hP hw hK
    obtain ⟨hz, hTI, ⟨x0, y0, hTO⟩, h1, h2⟩ := st
    obtain ⟨xs, ys, hqx, hqy, e1, e2⟩ := hg
    obtain ⟨its, rv, p, _⟩ := I.tuple hqx
    obtain ⟨its2, rv2, p2, _⟩ := I.list hqy
    have l1 := rv.length
    have l2 := rv2.length
    have D1 := Draws.tuple (prog := X.prog) (w := X.w) (A := X.A.in1) (I.ok.hd hc) i1 a D.n1 its.toArray
    have D2 := Draws.list (prog := X.prog) (w := X.w) (A := X.A.in1) (I.ok.hd hc) i2 b D.n2 its2.toArray
    exact wpAny_pyNext_zipD2_end D.S D1 D2 hz hTI hTO ⟨h1, isTuple_of p⟩ ⟨h2, p2.isList⟩ (by simp; omega) (by simp; omega) (.inl (by simp; omega)) fun h' tk hk => ⟨rfl, I.turnedL (t' := tk) (ch := [z, TI, TO, i1, i2]) (fun c o hb q =>
      hk c o (fun q' => hb (by simp [q'])) (fun q' => hb (by simp [q'])) (fun q' => hb (by simp [q'])) (fun q' => hb (by simp [q'])) q) hf⟩
  self := fun A i s Q E st h => wpAny_pyIter_zip st.1 h
def iZipM (K : PySem.W.Frag) (ta : TA) : TI := fun σ H R => ta σ H fun vs H1 => ∃ a b xs ys, vs = [.ref a, .ref b] ∧ SqT K H1 a xs ∧ SqL K H1 b ys ∧ R (ItzM K a b) H1
theorem pi_zipM {X : Cx} {e e2 : Expr} {ta : TA} {p pos tpos : Pos} {elts : List Expr} {kk : Nat} (hm : X.mg "zip" = none) (ha : PA X [e, e2] ta) (hg : Gl X "zip" := by rfl)
    (hs : starEach [e, e2] X.env = (false, eval e X.env) :: starEach [e2] X.env := by rfl) (hpl : (backTo pos (starEach [e2] X.env)).any (·.1) = false := by rfl) :
    PI X (.Tuple elts kk tpos) (.Call (.Name "zip" p) [e, e2] [] pos) (iZipM X.K ta) := by
  refine ⟨fun pins s σ H R I h => ?_⟩
  refine Call_ (ld_blt I hg hm PyProof.Rows.boot_zip (PyProof.Rows.callWith_type1 (thn (ha.run pos pins s σ H _ I h) fun us s1 ⟨vs, H1, I1, r1, q1⟩ => ?_) hs hpl))
  obtain ⟨a, b, xs, ys, ex, hqx, hqy, q⟩ := q1
  subst ex
  cases r1 with
  | cons r rr =>
    cases rr with
    | cons r' rr =>
      cases rr
      cases r
      cases r'
      obtain ⟨its, rv, p1, _⟩ := I1.tuple hqx
      obtain ⟨its2, rv2, p2, _⟩ := I1.list hqy
      have la : a < s1.heap.objs.size := by obtain ⟨o, h1, _⟩ := id p1; exact Heap.lt_size h1
      have lb : b < s1.heap.objs.size := p2.lt
      refine zip_begins2 (begins_tuple a its.toArray) (begins_list b its2.toArray) (isTuple_of p1) p2.isList fun h' hz hTI hTO h1 h2 hsz hk => wpAny_pyIter_zip hz ?_
      have I2 : Inv X pins σ H1 { s1 with heap := h' } := I1.kept (t' := s1.toks) hk
      refine ⟨s1.heap.objs.size + 4, [s1.heap.objs.size + 4, s1.heap.objs.size + 2, s1.heap.objs.size + 3, s1.heap.objs.size, s1.heap.objs.size + 1], _, _, H1, rfl, I2, turn_zipM (zipM_of s1.heap.objs.size a b la lb), ⟨hz, hTI, ⟨_, _, hTO⟩, ⟨_, h1, rfl, rfl⟩, ⟨_, h2, rfl, rfl⟩⟩, fun c hcm => ?_, q⟩
      have e' : c = s1.heap.objs.size + 4 ∨ c = s1.heap.objs.size + 2 ∨ c = s1.heap.objs.size + 3 ∨ c = s1.heap.objs.size ∨ c = s1.heap.objs.size + 1 := by simpa using hcm
      have hle : s1.heap.objs.size ≤ c := by
        rcases e' with z | z | z | z | z
        · rw [z]; exact Nat.le_add_right _ _
        · rw [z]; exact Nat.le_add_right _ _
        · rw [z]; exact Nat.le_add_right _ _
        · rw [z]; exact Nat.le_refl _
        · rw [z]; exact Nat.le_add_right _ _
      exact I1.fpOk hle (I1.hok.fresh hle)
theorem walk_zipM {K : PySem.W.Frag} {a b : Addr} {xs ys : List V} (hl : xs.length = ys.length) : Walk (ItzM K a b) xs.length (fun H => SqT K H a xs ∧ SqL K H b ys) (YPair (fun i => xs[i]?) (fun i => ys[i]?)) := by
  refine ⟨fun i _ hi q => ⟨xs, ys, xs[i], ys[i]'(by omega), q.1, q.2, by simp [hi], by simp [show i < ys.length by omega]⟩, fun _ q => ⟨xs, ys, q.1, q.2, rfl, hl⟩, fun i H v H' _ q y => ?_⟩
  obtain ⟨T, x, y, h1, h2, h3, h4, h5⟩ := y
  exact ⟨T, x, y, h1, h2, h3, h4 xs q.1, h5 ys q.2⟩
end Lw
namespace Lw
open PySem PySem.Spec PyProof.Rows L2
theorem kv_put (e : Ev) (x : Str) (n : Nat) : putK (kv e) (Sum.inr x) (nV n) = kv (e.put x n) := by
  have h : ((kv e).any fun q => decide (q.1 = (Sum.inr x : Key))) = (e.any fun p => decide (p.1 = x)) := by
    unfold kv
    rw [List.any_map]
    congr 1
    funext p
    simp
  unfold putK Ev.put
  rw [h]
  split
  · unfold kv
    rw [List.map_map, List.map_map]
    refine List.map_congr_left fun p _ => ?_
    by_cases q : p.1 = x
    · simp [q]
    · simp [q]
  · unfold kv
    rw [List.map_append]
    rfl
theorem kv_get (e : Ev) (x : Str) : valV (kv e) (Sum.inr x) = (e.get x).map nV := by
  induction e with
  | nil => rfl
  | cons p r ih =>
    by_cases h : p.1 = x
    · have e1 : valV (kv (p :: r)) (Sum.inr x) = some (nV p.2) := valV_pos (p := ((Sum.inr p.1 : Key), nV p.2)) (by rw [h])
      rw [e1]
      unfold Ev.get
      rw [List.lookup_cons, show (x == p.1) = true by rw [h]; exact beq_self_eq_true x]
      rfl
    · have e1 : valV (kv (p :: r)) (Sum.inr x) = valV (kv r) (Sum.inr x) := valV_neg (p := ((Sum.inr p.1 : Key), nV p.2)) (fun z => h (Sum.inr.inj z))
      rw [e1, ih]
      unfold Ev.get
      rw [List.lookup_cons, show (x == p.1) = false from beq_eq_false_iff_ne.mpr (Ne.symm h)]
theorem put_len (e : Ev) (x : Str) (n : Nat) : (e.put x n).length ≤ e.length + 1 := by
  unfold Ev.put
  split
  · rw [List.length_map]; omega
  · rw [List.length_append]; simp
theorem kv_len (e : Ev) : (kv e).length = e.length := List.length_map ..
theorem puts_snoc : ∀ (e : Ev) (xs : List Str) (ns : List Nat) (x : Str) (n : Nat), xs.length = ns.length → e.puts (xs ++ [x]) (ns ++ [n]) = (e.puts xs ns).put x n
  | e, [], [], x, n, _ => rfl
  | e, [], _ :: _, x, n, h => by simp at h
  | e, _ :: _, [], x, n, h => by simp at h
  | e, y :: xs, m :: ns, x, n, h => puts_snoc (e.put y m) xs ns x n (by simpa using h)
theorem puts_len : ∀ (e : Ev) (xs : List Str) (ns : List Nat), (e.puts xs ns).length ≤ e.length + xs.length
  | e, [], _ => Nat.le_add_right _ _
  | e, _ :: _, [] => Nat.le_add_right _ _
  | e, y :: xs, m :: ns => by
    have := puts_len (e.put y m) xs ns
    have := put_len e y m
    show (Ev.puts (e.put y m) xs ns).length ≤ _
    simp only [List.length_cons]
    omega
section
variable {P : Program} {w : World} {K : PySem.W.Frag} {mg : Str → Option Value} {base : Heap}
def spF0 (K : PySem.W.Frag) : Sp := fun vs H Q _ => ∃ (p dx : Addr) (sv e : V), vs = [.ref p, sv, e, .non] ∧ H p = some (.ins (cFrame K) dx []) ∧ ∀ H', H' p = some (.ins (cFrame K) dx (fF sv e)) → But [p] H H' → Q .non H'
theorem k_frame (T : Tx K mg) : Mak P w K mg base 1 "Frame" (cFrame K) (spF0 K) := by
  have sc : FnScope ["self", "statement", "nodes", "handles"] ["self", "statement", "nodes", "handles"] (defScope s_Frame_init) := ⟨rfl, rfl, rfl, by decide +kernel, rfl, by decide +kernel, by decide +kernel⟩
  refine mak_ T.k_Frame T.g_Frame T.f_Frame_init sc (fun _ _ _ _ _ _ us hl => match us, hl with | [_, _, _, _], _ => rfl) (fun vs H Q E h => ?_) (fun cdv A outer s H vs Q E hr h => ?_)
  · obtain ⟨_, _, _, _, rfl, _⟩ := h
    rfl
  · obtain ⟨p, dx, sv, e, rfl, hp, k⟩ := h
    refine ⟨_, pss_cons (ps_fld (pv 0) (pv 1) rfl) (pss_cons (ps_fld (pv 0) (pv 2) rfl) (pss_one (ps_fld (pv 0) (pv 3) rfl))), ?_⟩
    refine ⟨_, rfl, _, rfl, _, _, _, _, rfl, hp, T.c_Frame, T.n_Frame_statement, by simp, ?_⟩
    refine ⟨_, rfl, _, rfl, _, _, _, _, rfl, upd_same, T.c_Frame, T.n_Frame_nodes, (by decide : (1 : Nat) < 1000), ?_⟩
    refine ⟨_, rfl, _, rfl, _, _, _, _, rfl, upd_same, T.c_Frame, T.n_Frame_handles, (by decide : (2 : Nat) < 1000), ?_⟩
    exact k _ upd_same (((But.set (by simp)).trans (But.set (by simp))).trans (But.set (by simp)))
def spT0 (K : PySem.W.Frag) : Sp := fun vs H Q _ => ∃ (p dx lf : Addr), vs = [.ref p, .ref lf] ∧ H p = some (.ins (cThread K) dx []) ∧ ∀ H', H' p = some (.ins (cThread K) dx (fT lf .non .non)) → But [p] H H' → Q .non H'
theorem k_thread (T : Tx K mg) : Mak P w K mg base 1 "Thread" (cThread K) (spT0 K) := by
  have sc : FnScope ["self", "frames"] ["self", "frames"] (defScope s_Threas_init) := ⟨rfl, rfl, rfl, by decide +kernel, rfl, by decide +kernel, by decide +kernel⟩
  refine mak_ T.k_Thread T.g_Thread T.f_Thread_init sc (fun _ _ _ _ _ _ us hl => match us, hl with | [_, _], _ => rfl) (fun vs H Q E h => ?_) (fun cdv A outer s H vs Q E hr h => ?_)
  · obtain ⟨_, _, _, rfl, _⟩ := h
    rfl
  · obtain ⟨p, dx, lf, rfl, hp, k⟩ := h
    refine ⟨_, pss_cons (ps_fld (pv 0) (pv 1) rfl) (pss_cons (ps_fld (pv 0) pe_non rfl) (pss_one (ps_fld (pv 0) pe_non rfl))), ?_⟩
    refine ⟨_, rfl, _, rfl, _, _, _, _, rfl, hp, T.c_Thread, T.n_Thread_frames, by simp, ?_⟩
    refine ⟨_, rfl, _, _, _, _, rfl, upd_same, T.c_Thread, T.n_Thread_waits, (by decide : (1 : Nat) < 1000), ?_⟩
    refine ⟨_, rfl, _, _, _, _, rfl, upd_same, T.c_Thread, T.n_Thread_raised, (by decide : (2 : Nat) < 1000), ?_⟩
    exact k _ upd_same (((But.set (by simp)).trans (But.set (by simp))).trans (But.set (by simp)))
def spTCopy (K : PySem.W.Frag) : Sp := fun vs H Q _ => ∃ (t lf : Addr) (T : Th), vs = [.ref t] ∧ ThAt K H t lf T ∧ T.fr.length ≤ 200 ∧ ∀ t' lf' H', ThAt K H' t' lf' T → Ex H H' → H t' = none → H lf' = none → t' ≠ lf' → Q (.ref t') H'
theorem m_tcopy (T : Tx K mg) : Met P w K mg base 3 (cThread K) "copy" (spTCopy K) := by
  have sc : FnScope ["self", "other"] ["self"] (defScope s_Threas_copy) := ⟨rfl, rfl, rfl, by decide +kernel, rfl, by decide +kernel, by decide +kernel⟩
  refine met_ T.c_Thread T.m_Thread_copy T.f_Thread_copy sc (fun _ _ _ _ _ _ us hl => match us, hl with | [_], _ => rfl) (fun vs H Q E h => ?_) (fun cdv A outer s H vs Q E hr h => ?_)
  · obtain ⟨_, _, _, rfl, _⟩ := h
    rfl
  · obtain ⟨t, lf, Th, rfl, hT, hl, k⟩ := h
    obtain ⟨⟨dx, ho⟩, ⟨xs, h1, h2⟩⟩ := hT
    refine ⟨_, pss_cons (ps_set (i := 1) sc.nd rfl (Or.inl rfl) (pe_mk (k_thread T) hr (pa_cons (pe_callTy call_list_of (by rfl) T.z_list (by decide +kernel) (pa_cons (pe_fld (pv 0) rfl) pa_nil)) pa_nil)))
      (pss_cons (ps_fld (pv 1) (pe_fld (pv 0) rfl) rfl)
      (pss_cons (ps_fld (pv 1) (pe_fld (pv 0) rfl) rfl)
      (pss_one (ps_ret (pv 1))))), ?_⟩
    refine ⟨_, rfl, _, _, _, _, _, rfl, ho, T.c_Thread, T.n_Thread_frames, rfl, lf, xs, rfl, .inl (SqL.of h1), fun n1 hn1 => ?_⟩
    have e1 := Ex.new (o := .lst xs) hn1
    intro p dp hp hd ne
    have pn : p ≠ n1 := fun z => by rw [z, upd_same] at hp; cases hp
    refine ⟨p, dp, n1, rfl, upd_same, fun H2 g1 b1 => ⟨rfl, ?_⟩⟩
    have x1 := e1.trans (made_ex hp hd ne b1)
    have hp0 := e1.free hp
    have tp : t ≠ p := ne_of_none ho hp0
    refine ⟨_, rfl, _, _, _, _, _, rfl, x1 _ _ ho, T.c_Thread, T.n_Thread_waits, rfl, _, rfl, _, _, _, _, rfl, g1, T.c_Thread, T.n_Thread_waits, (by decide : (3 : Nat) < 1000), ?_⟩
    have y1 : ∀ {a o} u, H a = some o → upd H2 p u a = some o := fun u h => by rw [upd_ne (ne_of_none h hp0)]; exact x1 _ _ h
    refine ⟨_, rfl, _, _, _, _, _, rfl, y1 _ ho, T.c_Thread, T.n_Thread_raised, rfl, _, rfl, _, _, _, _, rfl, upd_same, T.c_Thread, T.n_Thread_raised, (by decide : (3 : Nat) < 1000), ?_⟩
    have y2 : ∀ {a o} u v, H a = some o → upd (upd H2 p u) p v a = some o := fun u v h => by rw [upd_ne (ne_of_none h hp0)]; exact y1 _ h
    refine ⟨_, rfl, k p n1 _ ⟨⟨dp, upd_same⟩, ⟨xs, ?_, ?_⟩⟩ (fun a o h => y2 _ _ h) hp0 hn1 pn⟩
    · rw [upd_ne pn.symm, upd_ne pn.symm]
      exact b1 _ _ (by rw [upd_ne pn.symm, upd_ne (fun z => by rw [z] at hd; rw [← z, upd_same] at hd; cases hd)]; exact upd_same) (by simp; exact pn.symm)
    · exact pr_imp (fun _ _ q => q.imm (Ex.imm (fun a o h => y2 _ _ h))) h2
def spWN : Sp := fun vs H Q _ => ∃ (a : Addr) (e : Ev) (x : Str) (n : Nat), vs = [.ref a, .str x, nV n] ∧ EvAt H a e ∧ e.length ≤ 1000 ∧ ∀ a' H', EvAt H' a' (e.put x n) → Ex H H' → Q (.ref a') H'
theorem f_with_node (T : Tx K mg) : Cal P w K mg base 1 "with_node" spWN := by
  have sc : FnScope ["nodes", "name", "node", "found"] ["nodes", "name", "node"] (defScope s_with_node) := ⟨rfl, rfl, rfl, by decide +kernel, rfl, by decide +kernel, by decide +kernel⟩
  refine cal_ T.g_with_node T.f_with_node sc (fun _ _ _ _ _ _ us hl => match us, hl with | [_, _, _], _ => rfl) (fun vs H Q E h => ?_) (fun cdv A outer s H vs Q E hr h => ?_)
  · obtain ⟨_, _, _, _, rfl, _⟩ := h
    rfl
  · obtain ⟨a, e, x, n, rfl, ha, hl, k⟩ := h
    have hu := hu_of hr
    refine ⟨_, pss_cons (ps_set (i := 3) sc.nd rfl (Or.inl rfl) (pe_callTy call_dictD (by rfl) T.z_dict (by decide +kernel) (pa_cons (pv 0) pa_nil)))
      (pss_cons (ps_dput hu (pv 3) (pv 1) (pv 2) rfl) (pss_one (ps_ret (pv 3)))), ?_⟩
    refine ⟨_, rfl, a, _, rfl, .inl ha, fun p hp => ?_⟩
    refine ⟨_, rfl, _, rfl, _, rfl, p, _, rfl, DPut.k (k := Sum.inr x) upd_same (szl (by rw [kv_len]; omega)), ?_⟩
    rw [kv_put]
    refine ⟨_, rfl, k p _ upd_same (fun b o h => ?_)⟩
    rw [upd_ne (ne_of_none h hp)]
    exact Ex.new hp _ _ h
def spWNs : Sp := fun vs H Q _ => ∃ (a t l : Addr) (e : Ev) (xs : List Str) (ns : List Nat), vs = [.ref a, .ref t, .ref l] ∧ EvAt H a e ∧ H t = some (.tup (xs.map V.str)) ∧ H l = some (.lst (ns.map nV)) ∧ xs.length = ns.length ∧ e.length + xs.length ≤ 1000 ∧
  ∀ a' H', EvAt H' a' (e.puts xs ns) → Ex H H' → Q (.ref a') H'
theorem f_with_nodes (T : Tx K mg) : Cal P w K mg base 1 "with_nodes" spWNs := by
  have sc : FnScope ["nodes", "names", "rows", "found", "name", "node"] ["nodes", "names", "rows"] (defScope s_with_nodes) := ⟨rfl, rfl, rfl, by decide +kernel, rfl, by decide +kernel, by decide +kernel⟩
  refine cal_ T.g_with_nodes T.f_with_nodes sc (fun _ _ _ _ _ _ us hl => match us, hl with | [_, _, _], _ => rfl) (fun vs H Q E h => ?_) (fun cdv A outer s H vs Q E hr h => ?_)
  · obtain ⟨_, _, _, _, _, _, rfl, _⟩ := h
    rfl
  · obtain ⟨a, t, l, e, xs, ns, rfl, ha, ht, hl, el, hn, k⟩ := h
    have hu := hu_of hr
    refine ⟨_, pss_cons (ps_set (i := 3) sc.nd rfl (Or.inl rfl) (pe_callTy call_dictD (by rfl) T.z_dict (by decide +kernel) (pa_cons (pv 0) pa_nil)))
      (pss_cons (ps_for PassesOwn.never rfl (pi_zipM T.z_zip (pa_cons (pv 1) (pa_cons (pv 2) pa_nil))) (pg_tup rfl (pgs_cons (pg_name (i := 4) sc.nd rfl (Or.inl rfl)) (pgs_cons (pg_name (i := 5) sc.nd rfl (Or.inl rfl)) pgs_nil)))
        (pss_one (ps_dput hu (pv 3) (pv 4) (pv 5) rfl))) (pss_one (ps_ret (pv 3)))), ?_⟩
    refine ⟨_, rfl, a, _, rfl, .inl ha, fun p hp => ?_⟩
    have e1 := Ex.new (o := .dK (kv e)) hp
    have np := none1 hp
    have hm : (xs.map V.str).length = (ns.map nV).length := by rw [List.length_map, List.length_map]; exact el
    refine ⟨_, rfl, _, rfl, t, l, _, _, rfl, SqT.of (e1 _ _ ht), SqL.of (e1 _ _ hl), ?_⟩
    refine for_it (walk_zipM hm) (fun i σ H' => But [p] H H' ∧ (∃ z4 z5, σ = [some (.ref a), some (.ref t), some (.ref l), some (.ref p), z4, z5]) ∧ H' p = some (.dK (kv (e.puts (xs.take i) (ns.take i))))) ⟨e1.but, ⟨_, _, rfl⟩, upd_same⟩ (fun i σ H' _ p => ⟨SqT.of (p.1.exN np _ _ ht), SqL.of (p.1.exN np _ _ hl)⟩) (fun i x σ H' H5 hi q y => ?_) (fun σ H5 q => ?_)
    · obtain ⟨b, ⟨z4, z5, rfl⟩, k0⟩ := q
      obtain ⟨D, u, v, rfl, hD, rfl, h3, h4⟩ := y
      replace h3 : (xs.map V.str)[i]? = some u := h3
      replace h4 : (ns.map nV)[i]? = some v := h4
      rw [List.getElem?_map] at h3 h4
      obtain ⟨x, ex, rfl⟩ := Option.map_eq_some_iff.mp h3
      obtain ⟨n, en, rfl⟩ := Option.map_eq_some_iff.mp h4
      have e5 := Ex.new (o := .tup [.str x, nV n]) hD
      have hx : i < xs.length := (List.getElem?_eq_some_iff.mp ex).1
      refine ⟨_, _, rfl, SqT.of upd_same, rfl, _, _, rfl, _, _, rfl, rfl, ?_⟩
      refine ⟨_, rfl, _, rfl, _, rfl, p, _, rfl, DPut.k (k := Sum.inr x) (e5 _ _ k0) (szl (by have := puts_len e (xs.take i) (ns.take i); rw [kv_len]; simp only [List.length_take] at this; omega)), ?_⟩
      refine ⟨b.trans (e5.but.trans (But.set (by simp))), ⟨_, _, rfl⟩, ?_⟩
      rw [kv_put, upd_same, List.take_succ, List.take_succ, ex, en]
      show _ = some (HO.dK (kv (e.puts (xs.take i ++ [x]) (ns.take i ++ [n]))))
      rw [puts_snoc _ _ _ _ _ (by rw [List.length_take, List.length_take, el])]
    · obtain ⟨b, ⟨z4, z5, rfl⟩, k0⟩ := q
      rw [List.length_map, List.take_length, el, List.take_length] at k0
      exact ⟨_, rfl, k p _ k0 (b.exN np)⟩
end
end Lw
/-! ### own exceptions that bear a node; several clauses with a name; calls within a suite -/
namespace Lw
open PySem PySem.Spec PyProof.Rows L2
/-! #### C(e, ..) where nothing is handled: its context is None -/
theorem mk_endN {X : Cx} {pins : List (Addr × Obj)} {σ : L2.St} {H1 H2 : Hp} {Q : XK} {hp hp2 h2 : Heap} {g1 g2 : Array GenState} {d1 d2 : Drawn} {t1 t2 : Nat} {os1 os2 : OsState} {a C d : Addr} {fs : List (Str × V)} (T : Raises X (.ref C)) (I1 : Inv X pins σ H1 ⟨hp, g1, d1, t1, os1⟩)
    (ha : hp.objs.size ≤ a) (k : ∀ b o, hp.get? b = some o → hp2.get? b = some o) (un : Un (frs X.stack) [] (upd H1 a (exo a C none)) H2 hp2 h2) (hok : HOk X.prog X.w H2 h2) (ho : os2 = os1) (hb : AllBare g2)
    (ea : H2 a = some (exo a C (some d))) (ed : H2 d = some (exd d fs)) (hd1 : H1 d = none) (q : Q (.ref C) (some d) (upd (del H2 a) d (.xd fs))) : L2N.MkP X pins σ Q (.ref a) ⟨h2, g2, d2, t2, os2⟩ := by
  obtain ⟨t0, G, J, kG, ge, hoe, na⟩ := mk_end0 (d2 := d2) (t2 := t2) I1 ha k un hok ho hb ea ed hd1
  refine ⟨a, _, _, ⟨G, g2, d2, t2, os2⟩, _, .ref C, some d, rfl, J, kG, ge, hoe, ⟨rfl, rfl, fun vs h => ?_⟩, rfl, rfl, na, rfl, hb, T, q⟩
  cases h
  rfl
theorem pmk_oexN {X : Cx} {e : Expr} {es : List Expr} {ta : TA} {p pos : Pos} {CX : CXT} {x : Str} {C fI : Addr} {k : Nat} {fd : FuncData} {ps : List Str} {sp : Sp} {ds : List Value} {dvs : List V} (T : OexC X.K C) (iC : PySem.W.findIn X.K (.ref C) "__init__" = some (some (.ref fI))) (tI : PySem.W.typeIn X.K (.ref fI) = some (.type "function"))
    (F1 : FnOk X.prog X.w X.K X.mg X.base CX k fI fd ps sp) (hr : Room (k + 1) X.A) (hb : Binds X.K fd ps ds) (hd : Vals dvs ds) (hx : Passes CX X (fun _ _ _ => False)) (hg : Gl X x) (hm : X.mg x = some (.ref C)) (ha : PA X (e :: es) ta)
    (hdb : (x == ("__debug__" : Str)) = false := by decide) (he : starEach (e :: es) X.env = (false, eval e X.env) :: starEach es X.env := by rfl) (hpl : (backTo pos (starEach es X.env)).any (·.1) = false := by rfl) :
    L2N.PMk X (.Call (.Name x p) (e :: es) [] pos) (tMkO C sp dvs ta) := by
  intro pins s σ H Q I h
  obtain ⟨nm, q, N, bs, bm, sn, sub, ab, col, dd, k0, k1, k2, k3, k5, hC, hbm⟩ := T.cls
  refine wpAny_Call_Name_kw (ld_glob I hg hm ?_ hdb)
  refine PySem.W.callWith_K (h₀ := X.base) I.ok.mod.kin T.kC (thn (ha.run pos pins s σ H _ I h) fun us s1 ⟨vs, H1, I1, r1, hz, q1⟩ => ⟨I1.kIn, ?_⟩) he hpl
  show wpAny _ _ (call (.ref C) us) _ _ _
  obtain ⟨hp, g, dr, tk, os⟩ := s1
  have hsz : hp.objs.size ≤ hp.objs.size + 1 := Nat.le_succ _
  have hn : H1 (hp.objs.size + 1) = none := I1.hok.fresh hsz
  have hq := q1 (hp.objs.size + 1) hn
  have kk : ∀ b o, hp.get? b = some o → ((hp.push (PySem.W.kdv_tup us)).push (PySem.HandSPX.excO C hp.objs.size)).get? b = some o := fun b o e => Heap.get?_push_of_some _ (Heap.get?_push_of_some _ e)
  have hget : ((hp.push (PySem.W.kdv_tup us)).push (PySem.HandSPX.excO C hp.objs.size)).get? (hp.objs.size + 1) = some (PySem.HandSPX.excO C hp.objs.size) := by heap_get
  have I2 : Inv X pins σ (upd H1 (hp.objs.size + 1) (exo (hp.objs.size + 1) C none)) ⟨(hp.push (PySem.W.kdv_tup us)).push (PySem.HandSPX.excO C hp.objs.size), g, dr, tk, os⟩ :=
    I1.laid (t' := tk) (a := hp.objs.size + 1) (o := exo (hp.objs.size + 1) C none) (h' := (hp.push (PySem.W.kdv_tup us)).push (PySem.HandSPX.excO C hp.objs.size)) kk hsz (exo_ok hget)
  have r2 : Vals (V.ref (hp.objs.size + 1) :: (vs ++ dvs)) (Value.ref (hp.objs.size + 1) :: (us ++ ds)) := .cons rfl (r1.append hd)
  have hl : (Value.ref (hp.objs.size + 1) :: us ++ ds).length = ps.length := by
    have e := r2.length
    rw [F1.len _ _ _ _ hq] at e
    exact e.symm
  have hus : us.length ≤ sizeLine := by
    rw [← Paired.length r1, sizeLine_eq]
    omega
  refine wpAny_call (PySem.HandSPX.call_own F.excBase_ValueError (fun Y => PySem.HandSPX.refsVE_contains Y bm hbm) (I1.kIn _ _ hC) (PySem.W.looks_findIn I1.kIn iC) (fun self => PySem.W.bind_fn I1.kIn self tI) hus
    (codeAny_mono (F1.run _ X.stack _ _ ⟨Value.ref (hp.objs.size + 1) :: us, []⟩ (Value.ref (hp.objs.size + 1) :: (us ++ ds)) _ _ (fun _ _ _ => False) (hr.make C us []) (I2.env0.make C us []) (hb _ (Value.ref (hp.objs.size + 1) :: us) I2.kIn hl) r2 hq) fun r s' hq' => ?_))
  cases r with
  | error er => exact hx pins σ _ _ er s' I2 hq'
  | ok fl =>
    cases fl with
    | ret u =>
      obtain ⟨v, H2, os2, bare2, un2, hok2, rv, ev, d, fs, ea, ed, hd1, q2⟩ := hq'
      subst ev
      obtain ⟨h2, g2, d2, t2, os'⟩ := s'
      exact ⟨rv, mk_endN (raises_own T.exC T.tyC) I1 hsz kk un2 hok2 os2 bare2 ea ed hd1 q2⟩
    | next => exact False.elim hq'
    | brk => exact False.elim hq'
    | cont => exact False.elim hq'
/-! #### try: body, except x as n: suite, except y as n: suite, .. -/
def wManyAs (K : PySem.W.Frag) (i : Nat) (Wout : WX) (D : Ends) : List (Value × (Addr → Value → Option Addr → TS)) → WX
  | [] => Wout
  | (c, ts) :: r => fun cls d σ H => ∃ b, PySem.W.exmOne K cls c = some b ∧ (b = true → ∀ a, H a = none → ts a cls d { nx := fun σ' H' => D.nx (σ'.set i none) H', rt := D.rt, bk := fun σ' H' => D.bk (σ'.set i none) H', ct := fun σ' H' => D.ct (σ'.set i none) H' } (σ.set i (some (.ref a))) H) ∧
      (b = false → wManyAs K i Wout D r cls d σ H)
inductive HdsAs (X : Cx) (n : Str) : List ExceptHandler → List (Value × (Addr → Value → Option Addr → TS)) → Prop
  | nil : HdsAs X n [] []
  | cons {x : Str} {c : Value} {ts : Addr → Value → Option Addr → TS} {b₀ : Stmt} {suite : List Stmt} {np pos' : Pos} {hds : List ExceptHandler} {l : List (Value × (Addr → Value → Option Addr → TS))} (hc : Names X x c)
      (hsu : ∀ (a : Addr) (oe : Obj) (cls : Value) (d : Option Addr) (pn : List (Addr × Obj)), L2N.Zn cls d oe → (∃ vs, oe.data = .fields vs) → PSs (X.suite a ((a, oe) :: pn)) (b₀ :: suite) (ts a cls d)) (r : HdsAs X n hds l) :
      HdsAs X n (.ExceptHandler (some (.Name x np)) (some n) (b₀ :: suite) pos' :: hds) ((c, ts) :: l)
theorem ps_try_manyAs {X : Cx} {n : Str} {i : Nat} {body : List Stmt} {h₀ : ExceptHandler} {hds : List ExceptHandler} {l : List (Value × (Addr → Value → Option Addr → TS))} {pos : Pos} {tb : WX → TS} {Wout : WX}
    (hs : X.stack = X.env :: X.outer) (hf : X.env.frame = some X.env.locals) (hN : X.N.Nodup) (hi : X.N[i]? = some n) (hln : X.env.kindOf n = some .local) (tk : L2N.Takes X Wout)
    (hb : ∀ (W : WX) (pn : List (Addr × Obj)) (xe : Value → Shared → Prop), L2N.Takes (X.tr pn xe) W → PassesOwn (model X.prog X.w) X.A X.env xe → PSs (X.tr pn xe) body (tb W))
    (hh : HdsAs X n (h₀ :: hds) l) : PS X (.Try body (h₀ :: hds) [] [] pos) (fun D σ H => tb (wManyAs X.K i Wout D l) D σ H) := by
  refine ⟨fun pins s σ H D I h => ?_⟩
  have ok := I.ok
  have hfr : X.A.frames = some (X.env :: X.outer) := by rw [ok.frames, hs]
  have hloc : Loc X.env.scope n := .inl hln
  refine wpAny_Try_except ?_
  refine wpAny_mono ((hb (wManyAs X.K i Wout D l) (X.pn ++ pins) (fun e s₁ => wpAny (model X.prog X.w) X.A (noteFrame e X.env) (fun _ s₂ => wpAny (model X.prog X.w) X.A (setFlight e none) (fun _ s₃ =>
    wpAny (model X.prog X.w) X.A (handleBy e X.env (h₀ :: hds)) (SP X pins D) X.xe s₃) X.xe s₂) X.xe s₁) (fun u s' xx => ?_) PassesOwn.looking).run [] s σ H D (I.toTry _) h) (fun f s1 hsp => ?_) (fun e s1 he => he)
  · obtain ⟨a, B, sI, pins', σ', H', cls, d, rfl, J', nb, up, sky, na, os, ag, w⟩ := xx
    have J : Inv X pins σ' H' sI := J'.ofTry ok
    have sky' : Sky B (X.env :: X.outer) a (L2N.Zn cls d) X.env.locals s'.heap := by rw [← hs]; exact sky
    show wpAny (model X.prog X.w) X.A (noteFrame (.ref a) X.env) _ _ _
    refine L2N.Sky.land L2N.Zn.steady hfr hf sky' fun h3 fl3 up3 => ?_
    have J3 : Inv X pins σ' H' { s' with heap := h3 } := J.landed nb fl3.1 (up.trans up3) os ag
    obtain ⟨oe3, vs3, he3, hz3, hd3⟩ := fl3.there
    have notFr : ∀ {h : Heap} {o : Obj} {vs : Array Value}, h.FunFrames B (X.env :: X.outer) → h.get? a = some o → o.data = .fields vs → a ∉ frs (X.env :: X.outer) := fun {h o vs} ff e dd hm => by
      obtain ⟨_, o', e', hnf⟩ := ff.mem hm
      rw [e] at e'; cases e'
      exact hnf _ dd
    have nfr := notFr fl3.2.2.1 he3 hd3
    have nL : a ≠ X.env.locals := fun z => nfr (List.mem_filterMap.mpr ⟨X.env, List.mem_cons_self, by rw [hf, z]⟩)
    have nF : a ∉ X.fs := fun hm => by
      obtain ⟨e, he, q⟩ := List.mem_filterMap.mp hm
      exact nfr (List.mem_filterMap.mpr ⟨e, List.mem_cons_of_mem _ he, q⟩)
    have S3 := J3.suite he3 hd3 na nL nF
    have go : ∀ {hds' : List ExceptHandler} {l' : List (Value × (Addr → Value → Option Addr → TS))}, HdsAs X n hds' l' → wManyAs X.K i Wout D l' cls d σ' H' →
        wpAny (model X.prog X.w) X.A (handleBy (.ref a) X.env hds') (SP X pins D) X.xe { s' with heap := h3 } := by
      intro hds' l' hk
      induction hk with
      | nil =>
        intro w
        refine wpAny_handleBy_nil ?_
        obtain ⟨k1, k2, k3, oe, vs, T, oT, ts', he, hz, hd, h1, hr⟩ := id fl3
        unfold PySem.passOn
        refine wpAny_bind (wpAny_field he hd h1 ?_)
        rw [if_neg (show ¬ ((Value.ref T == Value.none) = true) from by simp)]
        have fin : wpAny (model X.prog X.w) X.A (setFlight (.ref a) X.env.frame) (fun _ s4 => wpAny (model X.prog X.w) X.A (throw (.ref a) : Sem Flow) (SP X pins D) X.xe s4) X.xe { s' with heap := h3 } := by
          rw [hf]
          refine HandSPX.setFlight_upZ fl3 fun h4 hh4 up4 => wpAny_throw (tk _ _ ?_)
          exact ⟨a, B, sI, pins, σ', H', cls, d, rfl, J, nb, (up.trans up3).trans up4, .inr (.inr (by rw [hs]; exact hh4)), na, os, ag, w⟩
        first
          | exact wpAny_bind (wpAny_pure (wpAny_bind fin))
          | exact wpAny_bind fin
      | @cons x c ts b₀ suite np pos' hds2 l2 hc hsu r ih =>
        intro w
        obtain ⟨b, hb1, hyes, hno⟩ := w
        refine wpAny_handleBy_cons (codeAny_handlers_test ?_) (by intro q; cases q)
        have LT : PySem.W.Looks (model X.prog X.w) h3 (typeOf (.ref a)) cls := fun A Q E s k q => wpAny_typeOf_ref (k _ _ he3) (by rw [hz3.1]; exact q)
        have LM := PySem.W.exm_one (M := model X.prog X.w) (J3.kIn) LT hb1
        have test : ∀ {Q : Value → Shared → Prop} {E : Value → Shared → Prop}, Q c { s' with heap := h3 } → wpAny (model X.prog X.w) (X.A.mark (some (.ref a))) (eval (.Name x np) X.env) Q E { s' with heap := h3 } := fun {Q E} q => by
          obtain ⟨hg, hdbg, hm | ⟨hm, hv, hnn⟩⟩ := hc
          · exact ld_glob (X := X.suite a ((a, oe3) :: (X.pn ++ pins))) S3 hg hm q hdbg
          · exact ld_blt (X := X.suite a ((a, oe3) :: (X.pn ++ pins))) S3 hg hm hv q hnn hdbg
        refine test (LM.here ?_)
        cases b with
        | true =>
          refine codeAny_handlers_suite_as ?_
          refine HandSPX.lands_againZ fl3 fun h4 fl4 up4 => ?_
          have J4 : Inv X pins σ' H' { s' with heap := h4 } := J.landed nb fl4.1 ((up.trans up3).trans up4) os ag
          obtain ⟨oe4, vs4, he4, hz4, hd4⟩ := fl4.there
          have S4 := J4.suite he4 hd4 na nL nF
          refine store_ok (X := X.suite a ((a, oe4) :: (X.pn ++ pins))) (v := .ref a) S4 hN hi hloc rfl (fun s5 S5 => ?_) (.inr hln)
          refine wpAny_mono ((hsu a oe4 cls d (X.pn ++ pins) hz4 ⟨_, hd4⟩).run [] s5 _ H' _ S5 (hyes rfl a na)) (fun f s6 hsp => ?_) (fun _ _ z => False.elim z)
          have end_ : ∀ {σ6 : L2.St} {H6 : Hp} {Q : Shared → Prop}, Inv (X.suite a ((a, oe4) :: (X.pn ++ pins))) [] σ6 H6 s6 → (∀ s7, Inv X pins (σ6.set i none) H6 s7 → Q s7) →
              wpAny (model X.prog X.w) X.A (do bindName X.env n .none; unbindBehindTheSuite X.env n pos') (fun _ s7 => Q s7) X.xe s6 := fun {σ6 H6 Q} S6 hq => gone_ok (S6.unsuite ok) hN hi hln hq
          cases f with
          | next =>
            obtain ⟨σ6, H6, S6, q6⟩ := hsp
            exact end_ S6 fun s7 J7 => ⟨_, _, J7, q6⟩
          | brk =>
            obtain ⟨σ6, H6, S6, q6⟩ := hsp
            exact end_ S6 fun s7 J7 => ⟨_, _, J7, q6⟩
          | cont =>
            obtain ⟨σ6, H6, S6, q6⟩ := hsp
            exact end_ S6 fun s7 J7 => ⟨_, _, J7, q6⟩
          | ret u =>
            obtain ⟨v6, σ6, H6, S6, r6, q6⟩ := hsp
            exact end_ S6 fun s7 J7 => ⟨_, _, _, J7, r6, q6⟩
        | false =>
          show wpAny _ X.A (handleBy (.ref a) X.env hds2) _ _ _
          exact ih (hno rfl)
    exact go hh w
  · cases f with
    | next =>
      obtain ⟨σ', H', J', q⟩ := hsp
      exact wpAny_execs_nil ⟨σ', H', J'.ofTry ok, q⟩
    | brk =>
      obtain ⟨σ', H', J', q⟩ := hsp
      exact ⟨σ', H', J'.ofTry ok, q⟩
    | cont =>
      obtain ⟨σ', H', J', q⟩ := hsp
      exact ⟨σ', H', J'.ofTry ok, q⟩
    | ret u =>
      obtain ⟨v, σ', H', J', r, q⟩ := hsp
      exact ⟨v, σ', H', J'.ofTry ok, r, q⟩
/-! #### promises that may let an exception out; promises kept within a suite -/
structure MetX (P : Program) (w : World) (K : PySem.W.Frag) (mg : Str → Option Value) (base : Heap) (k : Nat) (C : Addr) (m : Str) (sp : Sp) : Prop where
  ex : ∃ (f : Addr) (fd : FuncData) (ps : List Str), Cls K C ∧ Meth K C m f ∧ FnOk P w K mg base (L2N.CX P w) k f fd ps sp ∧ Binds K fd ps []
structure MetH (P : Program) (w : World) (K : PySem.W.Frag) (mg : Str → Option Value) (base : Heap) (k : Nat) (C : Addr) (m : Str) (sp : Sp) : Prop where
  ex : ∃ (f : Addr) (fd : FuncData) (ps : List Str), Cls K C ∧ Meth K C m f ∧ L2H.FnH P w K mg base CX0 k f fd ps sp ∧ Binds K fd ps []
def tMtX (C : Addr) (m : Str) (sp : Sp) (W : WX) (ta : TE) (t : TA) : TE := fun σ H Q => ta σ H fun x H1 => ∃ a dx fs, x = .ref a ∧ H1 a = some (.ins C dx fs) ∧ fs.lookup m = none ∧ t σ H1 fun vs H2 => sp (x :: vs) H2 Q (fun cls d H' => W cls d σ H')
section
variable {X : Cx} {k j : Nat} {C : Addr} {x m : Str} {sp : Sp} {p pos apos : Pos} {e o : Expr} {es : List Expr} {ta : TE} {t : TA}
theorem pe_mtX {pl : Sem Bool} {W : WX} (c : MetX X.prog X.w X.K X.mg X.base k C m sp) (tk : L2N.Takes X W) (hr : Room j X.A) (he : PE X o ta) (ha : PA X (e :: es) t) (hk : k ≤ j := by decide)
    (hst : starEach (e :: es) X.env = (false, eval e X.env) :: starEach es X.env := by rfl) (hpl : (backTo pos (starEach es X.env)).any (·.1) = false := by rfl)
    (ht : eval (.Call (.Attribute o m apos) (e :: es) [] pos) X.env = (do
      let ov ← eval o X.env
      standAt apos.atName
      let (f, first) ← holding [ov] (getMethod ov m pl)
      callWith pos f first (backTo pos (starEach (e :: es) X.env)) (backToKw pos (keywordEach [] X.env))) := by rfl) :
    PE X (.Call (.Attribute o m apos) (e :: es) [] pos) (tMtX C m sp W ta t) := by
  obtain ⟨f, fd, ps, hc, hm, F, b⟩ := c.ex
  refine ⟨fun pins s σ H Q I h => ?_⟩
  refine PySem.W.methodCall_KW (pl := pl) (thn (he.run pins s σ H _ I h) fun u s1 ⟨x, H1, I1, rx, a, dx, fs, ex, ea, l, q⟩ => ?_) ht
  subst ex
  obtain rfl : u = Value.ref a := rx
  refine getmeth_ok I1 ea hc hm l ?_
  refine PySem.W.callWith_K (first := [.ref a]) (h₀ := X.base) I.ok.mod.kin hm.kp (thn (ha.run pos pins s1 σ H1 _ I1 q) fun us s2 ⟨vs, H2, I2, r, q2⟩ => ⟨I2.kIn, ?_⟩) hst hpl
  exact run_fnS (us := .ref a :: us) (vs := .ref a :: vs) (E := WE W) F (hr.mono hk) b (L2N.passAt tk σ) I2 (.cons rfl r) q2
theorem pe_mtH {pl : Sem Bool} (c : MetH X.prog X.w X.K X.mg X.base k C m sp) (hr : L2H.RoomH j X.A) (hot : L2H.HotC X) (he : PE X o ta) (ha : PA X (e :: es) t) (hk : k ≤ j := by decide)
    (hst : starEach (e :: es) X.env = (false, eval e X.env) :: starEach es X.env := by rfl) (hpl : (backTo pos (starEach es X.env)).any (·.1) = false := by rfl)
    (ht : eval (.Call (.Attribute o m apos) (e :: es) [] pos) X.env = (do
      let ov ← eval o X.env
      standAt apos.atName
      let (f, first) ← holding [ov] (getMethod ov m pl)
      callWith pos f first (backTo pos (starEach (e :: es) X.env)) (backToKw pos (keywordEach [] X.env))) := by rfl) :
    PE X (.Call (.Attribute o m apos) (e :: es) [] pos) (tMt C m sp ta t) := by
  obtain ⟨f, fd, ps, hc, hm, F, b⟩ := c.ex
  refine ⟨fun pins s σ H Q I h => ?_⟩
  refine PySem.W.methodCall_KW (pl := pl) (thn (he.run pins s σ H _ I h) fun u s1 ⟨x, H1, I1, rx, a, dx, fs, ex, ea, l, q⟩ => ?_) ht
  subst ex
  obtain rfl : u = Value.ref a := rx
  refine getmeth_ok I1 ea hc hm l ?_
  refine PySem.W.callWith_K (first := [.ref a]) (h₀ := X.base) I.ok.mod.kin hm.kp (thn (ha.run pos pins s1 σ H1 _ I1 q) fun us s2 ⟨vs, H2, I2, r, q2⟩ => ⟨I2.kIn, ?_⟩) hst hpl
  exact L2H.run_fnH (us := .ref a :: us) (vs := .ref a :: vs) (E := fun _ => E0) F (hr.mono hk) hot b (fun _ _ _ _ _ _ h => h.elim) I2 (.cons rfl r) q2
end
section
variable {P : Program} {w : World} {K : PySem.W.Frag} {mg : Str → Option Value} {base : Heap}
abbrev BodyX (P : Program) (w : World) (K : PySem.W.Frag) (mg : Str → Option Value) (base : Heap) (a : Str × Option Str) (qual : Str) (st : Stmt) (N : List Str) (k : Nat) (sp : Sp) : Prop :=
  ∀ (cdv : Value) (A : Around) (outer : List Env) (s : Shared) (H : Hp) (vs : List V) (Q : VK) (E : XK), Room k (A.deeper (envOfC qual (defScope st) s.heap.objs.size (He.fAd K a) cdv)) → sp vs H Q E →
      L2N.Takes (cxOf (L2N.CX P w) P w K mg base N qual (defScope st) (He.fAd K a) cdv A outer s H E) (fun cls d _ H' => E cls d H') →
      ∃ t, PSs (cxOf (L2N.CX P w) P w K mg base N qual (defScope st) (He.fAd K a) cdv A outer s H E) (defBody st) t ∧ t { nx := fun _ H' => Q .non H', rt := Q } (start N vs) H
theorem metX_ {c m qual : Str} {st : Stmt} {N ps : List Str} {k : Nat} {sp : Sp} (hc : Cls K (He.ga K c)) (hm : Meth K (He.ga K c) m (He.ma K (He.ga K c) m)) (F : ∃ fd, FnP K (c, some m) m qual st fd) (S : FnScope N ps (defScope st))
    (b : BindsAll m qual st ps) (len : ∀ vs H Q E, sp vs H Q E → vs.length = ps.length) (body : BodyX P w K mg base (c, some m) qual st N k sp) : MetX P w K mg base (k + 1) (He.ga K c) m sp := by
  obtain ⟨fd, F⟩ := F
  refine ⟨_, fd, ps, hc, hm, F.ok S len fun cdv A outer s H vs Q E hr h => ?_, F.bindsN b⟩
  exact body cdv A outer s H vs Q E hr h (L2N.takes_of rfl rfl rfl rfl)
abbrev BodyH (P : Program) (w : World) (K : PySem.W.Frag) (mg : Str → Option Value) (base : Heap) (a : Str × Option Str) (qual : Str) (st : Stmt) (N : List Str) (k : Nat) (sp : Sp) : Prop :=
  ∀ (cdv : Value) (A : Around) (outer : List Env) (s : Shared) (H : Hp) (vs : List V) (Q : VK) (E : XK) (p : Addr × Obj), L2H.Hot1 A p → L2H.RoomH k (A.deeper (envOfC qual (defScope st) s.heap.objs.size (He.fAd K a) cdv)) → sp vs H Q E →
      ∃ t, PSs (L2H.cxH CX0 P w K mg base N qual (defScope st) (He.fAd K a) cdv A outer s H E p).nox (defBody st) t ∧ t { nx := fun _ H' => Q .non H', rt := Q } (start N vs) H
theorem metH_ {c m qual : Str} {st : Stmt} {N ps : List Str} {k : Nat} {sp : Sp} (hc : Cls K (He.ga K c)) (hm : Meth K (He.ga K c) m (He.ma K (He.ga K c) m)) (F : ∃ fd, FnP K (c, some m) m qual st fd) (S : FnScope N ps (defScope st))
    (b : BindsAll m qual st ps) (len : ∀ vs H Q E, sp vs H Q E → vs.length = ps.length) (body : BodyH P w K mg base (c, some m) qual st N k sp) : MetH P w K mg base (k + 1) (He.ga K c) m sp := by
  obtain ⟨fd, F⟩ := F
  have bs := F.bindsN b
  obtain ⟨oc, od, dV, kV, doc, pm, an, cdv, ct, osl, e, lk, hcd, _, _⟩ := F.ex
  subst e
  refine ⟨_, _, ps, hc, hm, L2H.fn_ofH lk hcd S len fun A outer s H vs Q E p hot hr h => ?_, bs⟩
  obtain ⟨t, h1, h2⟩ := body cdv A outer s H vs Q E p hot hr h
  exact ⟨t, h1.nox, h2⟩
end
end Lw
namespace Lw
open PySem PySem.Spec PyProof.Rows L2
theorem pr_snoc {α β : Type} {R : α → β → Prop} : ∀ {xs : List α} {ys : List β} {y : β}, Paired R xs (ys ++ [y]) → ∃ us v, xs = us ++ [v] ∧ Paired R us ys ∧ R v y
  | _, [], _, .cons r .nil => ⟨[], _, rfl, .nil, r⟩
  | _, _ :: _, _, .cons r t => by
    obtain ⟨us, v, rfl, h1, h2⟩ := pr_snoc t
    exact ⟨_ :: us, v, rfl, .cons r h1, h2⟩
theorem pr_nil {α β : Type} {R : α → β → Prop} {xs : List α} (h : Paired R xs ([] : List β)) : xs = [] := by cases h; rfl
/-- the word of a statement -/
theorem SmAt.word {H : Hp} : ∀ {v : V} {s : Sm}, SmAt H v s → ∃ p z r, v = .ref p ∧ H p = some (.tup (.str z :: r)) ∧ (z = "choose" ↔ s.isCho = true)
  | _, .skip, ⟨p, a, b⟩ => ⟨p, _, _, a, b, by decide +kernel⟩
  | _, .seq _ _, ⟨p, _, _, a, b, _⟩ => ⟨p, _, _, a, b, ⟨fun h => absurd h (by decide +kernel), fun h => nomatch h⟩⟩
  | _, .loc _ _, ⟨p, _, a, b, _⟩ => ⟨p, _, _, a, b, ⟨fun h => absurd h (by decide +kernel), fun h => nomatch h⟩⟩
  | _, .bind _ _, ⟨p, a, b⟩ => ⟨p, _, _, a, b, ⟨fun h => absurd h (by decide +kernel), fun h => nomatch h⟩⟩
  | _, .int _ _, ⟨p, a, b⟩ => ⟨p, _, _, a, b, ⟨fun h => absurd h (by decide +kernel), fun h => nomatch h⟩⟩
  | _, .case _ _ _ _, ⟨p, _, _, _, a, b, _⟩ => ⟨p, _, _, a, b, ⟨fun h => absurd h (by decide +kernel), fun h => nomatch h⟩⟩
  | _, .add _ _ _, ⟨p, a, b⟩ => ⟨p, _, _, a, b, ⟨fun h => absurd h (by decide +kernel), fun h => nomatch h⟩⟩
  | _, .thr _, ⟨p, _, a, b, _⟩ => ⟨p, _, _, a, b, ⟨fun h => absurd h (by decide +kernel), fun h => nomatch h⟩⟩
  | _, .rai _, ⟨p, a, b⟩ => ⟨p, _, _, a, b, ⟨fun h => absurd h (by decide +kernel), fun h => nomatch h⟩⟩
  | _, .cho _ _, ⟨p, _, _, a, b, _⟩ => ⟨p, _, _, a, b, ⟨fun _ => rfl, fun _ => rfl⟩⟩
section
variable {P : Program} {w : World} {K : PySem.W.Frag} {mg : Str → Option Value} {base : Heap}
/-! ### the two exceptions -/
structure ExF (K : PySem.W.Frag) (C : Addr) : Prop where
  o : OexC K C
  no : PySem.W.findIn K (.ref C) "node" = some none
  ini : PySem.W.findIn K (.ref C) "__init__" = some (some (.ref (He.ma K C "__init__")))
  ty : PySem.W.typeIn K (.ref (He.ma K C "__init__")) = some (.type "function")
  x : XfC K C
theorem excW_ok {x : Str} (h : excW K x = true) : ∃ nm q N bs bm sn sub ab col dd k0 k1 k2 k3 k5, K.lookup (He.ga K x) = some (excClassObj nm q (He.ga K x) N bs bm true sn sub ab col dd k0 k1 k2 k3 k5 "ValueError.__new__") ∧ PySem.HandSPX.refsVE bm = true := by
  unfold excW at h
  split at h
  · rename_i t dd cd sl hl
    split at h
    · rename_i C bm k0 k1 k2 k3 n k5 hm hs
      obtain ⟨h1, h⟩ := He.ba h
      obtain ⟨h2, h⟩ := He.ba h
      obtain ⟨h3, h⟩ := He.ba h
      obtain ⟨h4, h⟩ := He.ba h
      obtain ⟨h5, h6⟩ := He.ba h
      obtain ⟨nm, bs, mro, ns, q, hd, sn, sub, ab, col, del⟩ := cd
      have e1 := of_decide_eq_true h1
      have e2 := of_decide_eq_true h2
      have e5 := of_decide_eq_true h5
      replace hm : mro = .ref C :: bm := hm
      replace h3 : hd = true := h3
      replace h4 : (!del) = true := h4
      have e4 : del = false := by cases del; rfl; cases h4
      have hs' : sl = #[k0, k1, k2, k3, some (.builtin n), k5] := by rw [← hs]
      subst e1 hm h3 e4 e5 hs' e2
      exact ⟨nm, q, ns, bs, bm, sn, sub, ab, col, dd, k0, k1, k2, k3, k5, hl, h6⟩
    · cases h
  · cases h
theorem excB_ok {x : Str} (h : excB K x = true) : ExF K (He.ga K x) := by
  obtain ⟨h1, h⟩ := He.ba h
  obtain ⟨h2, h⟩ := He.ba h
  obtain ⟨h3, h⟩ := He.ba h
  obtain ⟨h4, h⟩ := He.ba h
  obtain ⟨h5, h⟩ := He.ba h
  obtain ⟨h6, h⟩ := He.ba h
  obtain ⟨h7, h⟩ := He.ba h
  obtain ⟨h8, h9⟩ := He.ba h
  exact ⟨⟨excW_ok h1, He.eqO_ok h2, of_decide_eq_true h3, of_decide_eq_true h4, h5⟩, He.eqO_ok h6, He.eqO_ok h7, of_decide_eq_true h8, xfB_ok h9⟩
theorem Tx.x_Waits (T : Tx K mg) : ExF K (cWaits K) := excB_ok (He.ba T.more_).1
theorem Tx.x_Raises (T : Tx K mg) : ExF K (cRaises K) := excB_ok (He.ba (He.ba T.more_).2).1
def spEx (C : Addr) : Sp := fun vs H Q _ => ∃ (a : Addr) (v : V), vs = [.ref a, v] ∧ H a = some (exo a C none) ∧ ∀ d, H d = none → d ≠ a → Q .non (upd (upd H d (exd d [("node", v)])) a (exo a C (some d)))
theorem w_init (T : Tx K mg) : ∃ fd, FnOk P w K mg base CX0 1 (He.ma K (cWaits K) "__init__") fd ["self", "node"] (spEx (cWaits K)) ∧ Binds K fd ["self", "node"] [] := by
  have sc : FnScope ["self", "node"] ["self", "node"] (defScope s_Waits_init) := ⟨rfl, rfl, rfl, by decide +kernel, rfl, by decide +kernel, by decide +kernel⟩
  obtain ⟨fd, F⟩ := T.f_Waits_init
  refine ⟨fd, F.ok sc (fun vs H Q E h => ?_) (fun cdv A outer s H vs Q E hr h => ?_), F.bindsN (fun _ _ _ _ _ _ us hl => match us, hl with | [_, _], _ => rfl)⟩
  · obtain ⟨_, _, rfl, _⟩ := h
    rfl
  · obtain ⟨a, v, rfl, ha, k⟩ := h
    refine ⟨_, PSs.nox (pss_one (ps_ost (pv 0) (pv 1))), ?_⟩
    exact ⟨_, rfl, _, rfl, a, _, rfl, T.x_Waits.o, T.x_Waits.no, .inl ⟨ha, fun dx h1 h2 => k dx h1 h2⟩⟩
theorem r_init (T : Tx K mg) : ∃ fd, FnOk P w K mg base CX0 1 (He.ma K (cRaises K) "__init__") fd ["self", "node"] (spEx (cRaises K)) ∧ Binds K fd ["self", "node"] [] := by
  have sc : FnScope ["self", "node"] ["self", "node"] (defScope s_Raises_init) := ⟨rfl, rfl, rfl, by decide +kernel, rfl, by decide +kernel, by decide +kernel⟩
  obtain ⟨fd, F⟩ := T.f_Raises_init
  refine ⟨fd, F.ok sc (fun vs H Q E h => ?_) (fun cdv A outer s H vs Q E hr h => ?_), F.bindsN (fun _ _ _ _ _ _ us hl => match us, hl with | [_, _], _ => rfl)⟩
  · obtain ⟨_, _, rfl, _⟩ := h
    rfl
  · obtain ⟨a, v, rfl, ha, k⟩ := h
    refine ⟨_, PSs.nox (pss_one (ps_ost (pv 0) (pv 1))), ?_⟩
    exact ⟨_, rfl, _, rfl, a, _, rfl, T.x_Raises.o, T.x_Raises.no, .inl ⟨ha, fun dx h1 h2 => k dx h1 h2⟩⟩
/-- an exception of class C with the node v is made -/
theorem ex_in {C : Addr} {v : V} {H1 : Hp} {Q : XK} (k : ∀ d H2, H1 d = none → Ex H1 H2 → H2 d = some (.xd [("node", v)]) → Q (.ref C) (some d) H2) :
    ([v] : List V).length ≤ 1000 ∧ ∀ a, H1 a = none → spEx C (.ref a :: ([v] ++ [])) (upd H1 a (exo a C none))
      (fun v H2 => v = .non ∧ ∃ (d : Addr) (fs : List (Str × V)), H2 a = some (exo a C (some d)) ∧ H2 d = some (exd d fs) ∧ H1 d = none ∧ Q (.ref C) (some d) (upd (del H2 a) d (.xd fs))) (fun _ _ _ => False) := by
  refine ⟨by show 1 ≤ 1000; decide, fun a ha => ⟨a, v, rfl, upd_same, fun d hd nd => ⟨rfl, d, [("node", v)], upd_same, ?_, ?_, ?_⟩⟩⟩
  · rw [upd_ne nd]; exact upd_same
  · rw [upd_ne nd] at hd; exact hd
  · have hd0 : H1 d = none := by rw [upd_ne nd] at hd; exact hd
    refine k d _ hd0 (fun b o hb => ?_) upd_same
    have n1 : b ≠ d := ne_of_none hb hd0
    have n2 : b ≠ a := ne_of_none hb ha
    rw [upd_ne n1, del_ne n2, upd_ne n2, upd_ne n1, upd_ne n2]
    exact hb
end
section
variable {X : Cx} {e : Expr} {te : TE} {p pos : Pos}
theorem pmk_Waits (T : Tx X.K X.mg) {j : Nat} (hr : Room j X.A) (he : PE X e te) (hj : 2 ≤ j := by decide) (hg : Gl X "Waits" := by rfl)
    (hs : starEach [e] X.env = (false, eval e X.env) :: starEach [] X.env := by rfl) : L2N.PMk X (.Call (.Name "Waits" p) [e] [] pos) (tMkO (cWaits X.K) (spEx (cWaits X.K)) [] (tCons te tNil)) := by
  obtain ⟨fd, F, b⟩ := w_init (P := X.prog) (w := X.w) (base := X.base) T
  exact pmk_oexN (k := 1) T.x_Waits.o T.x_Waits.ini T.x_Waits.ty F (hr.mono hj) b .nil pass0 hg T.g_Waits (pa_cons he pa_nil hs) (by decide) hs rfl
theorem pmk_Raises (T : Tx X.K X.mg) {j : Nat} (hr : Room j X.A) (he : PE X e te) (hj : 2 ≤ j := by decide) (hg : Gl X "Raises" := by rfl)
    (hs : starEach [e] X.env = (false, eval e X.env) :: starEach [] X.env := by rfl) : L2N.PMk X (.Call (.Name "Raises" p) [e] [] pos) (tMkO (cRaises X.K) (spEx (cRaises X.K)) [] (tCons te tNil)) := by
  obtain ⟨fd, F, b⟩ := r_init (P := X.prog) (w := X.w) (base := X.base) T
  exact pmk_oexN (k := 1) T.x_Raises.o T.x_Raises.ini T.x_Raises.ty F (hr.mono hj) b .nil pass0 hg T.g_Raises (pa_cons he pa_nil hs) (by decide) hs rfl
end
section
variable {P : Program} {w : World} {K : PySem.W.Frag} {mg : Str → Option Value} {base : Heap}
/-! ### reading a machine -/
def spThreads (K : PySem.W.Frag) : Sp := fun vs H Q _ => ∃ (L : Lay) (M : Mm), vs = [.ref L.a] ∧ MachAt K H L M ∧ Q (nV M.rows.length) H
theorem m_threads (T : Tx K mg) : Met P w K mg base 1 (cMachine K) "threads" (spThreads K) := by
  have sc : FnScope ["self"] ["self"] (defScope s_Machine_threads) := ⟨rfl, rfl, rfl, by decide +kernel, rfl, by decide +kernel, by decide +kernel⟩
  refine met_ T.c_Machine T.m_Machine_threads T.f_Machine_threads sc (fun _ _ _ _ _ _ us hl => match us, hl with | [_], _ => rfl) (fun vs H Q E h => ?_) (fun cdv A outer s H vs Q E hr h => ?_)
  · obtain ⟨_, _, rfl, _⟩ := h
    rfl
  · obtain ⟨L, M, rfl, m, k⟩ := h
    obtain ⟨dx, ho⟩ := m.ob
    refine ⟨_, pss_one (ps_ret (pe_callB call_len_seq (by rfl) T.z_len PySem.boot_len (pa_cons (pe_fld (pv 0) rfl) pa_nil))), ?_⟩
    refine ⟨_, rfl, _, _, _, _, _, rfl, ho, T.c_Machine, T.n_Machine_rows, rfl, _, _, rfl, .inl (SqL.of m.rw_), ?_⟩
    rw [List.length_map, m.len]
    exact k
def spStat (K : PySem.W.Frag) : Sp := fun vs H Q _ => ∃ (L : Lay) (M : Mm) (t : Nat) (T : Th), vs = [.ref L.a, nV t] ∧ MachAt K H L M ∧ M.Ok ∧ M.rows[t]? = some T ∧ Q (.str (Mm.stat M.so T).str) H
theorem MachAt.row (m : MachAt K H L M) {t : Nat} {T : Th} (h : M.rows[t]? = some T) : ∃ a lf, L.ts[t]? = some (a, lf) ∧ (L.ts.map fun p => V.ref p.1)[t]? = some (.ref a) ∧ ThAt K H a lf T := by
  obtain ⟨a, lf, h1, h2⟩ := m.thr h
  exact ⟨a, lf, h1, by rw [List.getElem?_map, h1]; rfl, h2⟩
theorem m_status (T : Tx K mg) : Met P w K mg base 3 (cMachine K) "status" (spStat K) := by
  have sc : FnScope ["self", "thread", "row", "top"] ["self", "thread"] (defScope s_Machine_status) := ⟨rfl, rfl, rfl, by decide +kernel, rfl, by decide +kernel, by decide +kernel⟩
  refine met_ T.c_Machine T.m_Machine_status T.f_Machine_status sc (fun _ _ _ _ _ _ us hl => match us, hl with | [_, _], _ => rfl) (fun vs H Q E h => ?_) (fun cdv A outer s H vs Q E hr h => ?_)
  · obtain ⟨_, _, _, _, rfl, _⟩ := h
    rfl
  · obtain ⟨L, M, t, ⟨fr, wt, ra⟩, rfl, m, ok, hT, k⟩ := h
    obtain ⟨dx, ho⟩ := m.ob
    obtain ⟨a, lf, h1, h2, ⟨dt, g1⟩, xs, g2, g3⟩ := m.row hT
    obtain ⟨ds, hs⟩ := m.so.ob
    refine ⟨_, pss_cons (ps_set (i := 2) sc.nd rfl (Or.inl rfl) (pe_ix ix_list (pe_fld (pv 0) rfl) (pv 1) (fun _ _ => rfl)))
      (pss_cons (ps_if (pt_cmp (pc_notN (pe_fld (pv 2) rfl))) (pss_one (ps_ret pe_str)) pss_nil)
      (pss_cons (ps_if (pt_not (pt_truth (pe_fld (pv 2) rfl) (by intro _; rfl))) (pss_one (ps_ret pe_str)) pss_nil)
      (pss_cons (ps_set (i := 3) sc.nd rfl (Or.inl rfl) (pe_ix ix_list (pe_fld (pv 2) rfl) (pe_un un_neg pe_int) (fun _ _ => rfl)))
      (pss_cons (ps_if (PW.pt (pw_and (pt_cmp (pc_isN (pe_fld (pv 3) rfl))) (pw_and1 (pt_cmpR op_eq (pe_ix ix_tup (pe_fld (pv 3) rfl) pe_int (fun _ _ => rfl)) pe_str (nomark _))))) (pss_one (ps_ret pe_str)) pss_nil)
      (pss_cons (ps_if (PW.pt (pw_and (pt_cmp (pc_notN (pe_fld (pv 2) rfl))) (pw_and1 (pt_not (pt_val (pe_mt (m_isb T) hr (pe_fld (pv 0) rfl) (pa_cons (pe_fld (pv 2) rfl) pa_nil))))))) (pss_one (ps_ret pe_str)) pss_nil)
      (pss_one (ps_ret pe_str))))))), ?_⟩
    refine ⟨_, rfl, _, _, _, _, _, rfl, ho, T.c_Machine, T.n_Machine_rows, rfl, _, rfl, _, _, _, _, rfl, rfl, SqL.of m.rw_, atI_nat h2, ?_⟩
    refine ⟨_, rfl, _, _, _, _, _, rfl, g1, T.c_Thread, T.n_Thread_raised, rfl, _, rfl, ?_⟩
    cases ra with
    | some r => exact ifnT (fun z => nomatch z) k
    | none =>
      refine ifnF rfl ?_
      cases fr with
      | nil =>
        obtain rfl := pr_nil g3
        exact ⟨_, rfl, _, _, _, _, _, rfl, g1, T.c_Thread, T.n_Thread_frames, rfl, _, .inl ⟨_, SqL.of g2, rfl⟩, iteT k⟩
      | cons f fr =>
        rw [List.reverse_cons] at g3
        obtain ⟨us, v, rfl, g4, p, dp, sv, ea, rfl, g5, g6, g7⟩ := pr_snoc g3
        obtain ⟨q, z, r, rfl, g8, g9⟩ := g6.word
        refine ⟨_, rfl, _, _, _, _, _, rfl, g1, T.c_Thread, T.n_Thread_frames, rfl, true, .inl ⟨_, SqL.of g2, by cases us <;> rfl⟩, iteF ?_⟩
        refine ⟨_, rfl, _, _, _, _, _, rfl, g1, T.c_Thread, T.n_Thread_frames, rfl, _, rfl, _, _, _, _, rfl, rfl, SqL.of g2, atI_last us _, ?_⟩
        refine ⟨_, rfl, _, _, _, _, _, rfl, g5, T.c_Frame, T.n_Frame_handles, rfl, _, rfl, iteT ?_⟩
        refine ⟨_, rfl, _, _, _, _, _, rfl, g5, T.c_Frame, T.n_Frame_statement, rfl, _, _, _, _, rfl, rfl, SqT.of g8, atI_nat (j := 0) rfl, rfl, _, rfl, ?_⟩
        by_cases hc : f.1.isCho = true
        · refine ifT (by rw [g9.mpr hc]) ?_
          have e : Mm.stat M.so ⟨f :: fr, wt, none⟩ = .choosing := by simp [Mm.stat, hc]
          rw [e] at k
          exact k
        · refine ifF (fun y => hc (g9.mp (V.str.inj y))) ?_
          refine ⟨_, rfl, _, _, _, _, _, rfl, g1, T.c_Thread, T.n_Thread_waits, rfl, _, rfl, ?_⟩
          cases wt with
          | none =>
            refine ifnF rfl (iteF ?_)
            have e : Mm.stat M.so ⟨f :: fr, none, none⟩ = .ready := by simp [Mm.stat, hc, Mm.stuck]
            rw [e] at k
            exact k
          | some n =>
            refine ifnT (fun z => nomatch z) ?_
            refine ⟨_, rfl, _, _, _, _, _, rfl, ho, T.c_Machine, T.n_Machine_store, rfl, _, _, _, rfl, hs, rfl, _, rfl, _, _, _, _, _, rfl, g1, T.c_Thread, T.n_Thread_waits, rfl, L.s, L.ln, L.lp, M.so, n, rfl, m.so, ok.wf, ok.wt _ (List.mem_of_getElem? hT) n rfl, _, rfl, ?_⟩
            cases hv : M.so.isV (M.so.rep n) with
            | true =>
              refine iteT ?_
              have e : Mm.stat M.so ⟨f :: fr, some n, none⟩ = .waiting := by simp [Mm.stat, hc, Mm.stuck, hv]
              rw [e] at k
              exact k
            | false =>
              refine iteF ?_
              have e : Mm.stat M.so ⟨f :: fr, some n, none⟩ = .ready := by simp [Mm.stat, hc, Mm.stuck, hv]
              rw [e] at k
              exact k
end
end Lw
namespace Lw
open PySem PySem.Spec PyProof.Rows L2
theorem Ss.str_inj : ∀ {a b : Ss}, a.str = b.str → a = b := by
  intro a b h
  cases a <;> cases b <;> first | rfl | exact absurd h (by decide +kernel)
def Mm.waitsFor (S : So) (T : Th) : Option Nat := match Mm.stat S T with
  | .waiting => T.wt.map S.rep
  | _ => none
theorem stat_wait {S : So} {T : Th} (h : Mm.stat S T = .waiting) : ∃ n, T.wt = some n := by
  obtain ⟨fr, wt, ra⟩ := T
  cases wt with
  | some n => exact ⟨n, rfl⟩
  | none =>
    exfalso
    cases ra with
    | some _ => simp [Mm.stat] at h
    | none =>
      cases fr with
      | nil => simp [Mm.stat] at h
      | cons f fr =>
        simp only [Mm.stat, Mm.stuck] at h
        split at h
        · cases h
        · simp at h
section
variable {K : PySem.W.Frag} {H H1 H' : Hp} {L : Lay} {M : Mm}
/-- the machine's own fields have changed, behind what makes new objects alone -/
theorem Go.field (m : MachAt K H L M) (e : Ex H H1) {dx : Addr} (h0 : H1 L.a = some (.ins (cMachine K) dx (fM L M.tk))) {tr : Addr} {tk : Nat} (ht : H1 tr = some (.lst [])) (hn : tr = L.tr ∨ H tr = none) :
    Go K H L (upd H1 L.a (.ins (cMachine K) dx (fM { L with tr := tr } tk))) { L with tr := tr } { M with tk := tk } := by
  have ho : tr = L.tr ∨ tr ∉ L.own := hn.imp id fun h => m.off h
  refine ⟨(m.ex e).field h0 ht ho, rfl, e.but.trans (But.set (by simp [Lay.own])), fun x hx => ?_, fun _ _ h => h⟩
  show x ∈ L.own ∨ H x = none
  have hx : x ∈ L.a :: L.s :: L.ln :: L.lp :: L.g :: L.r :: L.pr :: L.ce :: L.po :: tr :: flat L.ts := hx
  simp only [List.mem_cons] at hx
  unfold Lay.own
  simp only [List.mem_cons]
  rcases hx with h | h | h | h | h | h | h | h | h | h | h
  · simp [h]
  · simp [h]
  · simp [h]
  · simp [h]
  · simp [h]
  · simp [h]
  · simp [h]
  · simp [h]
  · simp [h]
  · rcases hn with z | z
    · rw [h, z]; simp
    · rw [h]; exact .inr z
  · exact .inl (by simp [h])
end
section
variable {P : Program} {w : World} {K : PySem.W.Frag} {mg : Str → Option Value} {base : Heap}
def spWF (K : PySem.W.Frag) : Sp := fun vs H Q _ => ∃ (L : Lay) (M : Mm) (t : Nat) (T : Th), vs = [.ref L.a, nV t] ∧ MachAt K H L M ∧ M.Ok ∧ M.rows[t]? = some T ∧ Q (oV (Mm.waitsFor M.so T)) H
theorem m_waits_for (T : Tx K mg) : Met P w K mg base 4 (cMachine K) "waits_for" (spWF K) := by
  have sc : FnScope ["self", "thread"] ["self", "thread"] (defScope s_Machine_waits_for) := ⟨rfl, rfl, rfl, by decide +kernel, rfl, by decide +kernel, by decide +kernel⟩
  refine met_ T.c_Machine T.m_Machine_waits_for T.f_Machine_waits_for sc (fun _ _ _ _ _ _ us hl => match us, hl with | [_, _], _ => rfl) (fun vs H Q E h => ?_) (fun cdv A outer s H vs Q E hr h => ?_)
  · obtain ⟨_, _, _, _, rfl, _⟩ := h
    rfl
  · obtain ⟨L, M, t, Th, rfl, m, ok, hT, k⟩ := h
    obtain ⟨dx, ho⟩ := m.ob
    obtain ⟨a, lf, h1, h2, ⟨dt, g1⟩, xs, g2, g3⟩ := m.row hT
    obtain ⟨ds, hs⟩ := m.so.ob
    refine ⟨_, pss_cons (ps_if (pt_cmpR op_ne (pe_mt (m_status T) hr (pv 0) (pa_cons (pv 1) pa_nil)) pe_str (nomark _)) (pss_one (ps_ret pe_non)) pss_nil)
      (pss_one (ps_ret (pe_mt (m_rep T) hr (pe_fld (pv 0) rfl) (pa_cons (pe_fld (pe_ix ix_list (pe_fld (pv 0) rfl) (pv 1) (fun _ _ => rfl)) rfl) pa_nil)))), ?_⟩
    refine ⟨_, rfl, _, _, _, rfl, ho, rfl, _, rfl, L, M, t, Th, rfl, m, ok, hT, rfl, _, rfl, ?_⟩
    by_cases hw : Mm.stat M.so Th = .waiting
    · refine ifnF (by rw [hw]; rfl) ?_
      obtain ⟨n, en⟩ := stat_wait hw
      rw [en] at g1
      refine ⟨_, rfl, _, _, _, _, _, rfl, ho, T.c_Machine, T.n_Machine_store, rfl, _, _, _, rfl, hs, rfl, ?_⟩
      refine ⟨_, rfl, _, _, _, _, _, rfl, ho, T.c_Machine, T.n_Machine_rows, rfl, _, rfl, _, _, _, _, rfl, rfl, SqL.of m.rw_, atI_nat h2, _, _, _, _, _, rfl, g1, T.c_Thread, T.n_Thread_waits, rfl, ?_⟩
      refine ⟨L.s, L.ln, L.lp, M.so, n, rfl, m.so, ok.wf, ok.wt _ (List.mem_of_getElem? hT) n en, ?_⟩
      have e : Mm.waitsFor M.so Th = some (M.so.rep n) := by simp [Mm.waitsFor, hw, en]
      rw [e] at k
      exact k
    · refine ifnT (fun z => hw (Ss.str_inj (a := Mm.stat M.so Th) (b := .waiting) (V.str.inj z))) ?_
      have e : Mm.waitsFor M.so Th = none := by
        unfold Mm.waitsFor
        split
        · exact absurd ‹_› hw
        · rfl
      rw [e] at k
      exact k
def spReady (K : PySem.W.Frag) : Sp := fun vs H Q _ => ∃ (L : Lay) (M : Mm), vs = [.ref L.a] ∧ MachAt K H L M ∧ M.Ok ∧ ∀ p H', Ex H H' → H' p = some (.lst (M.readyL.map nV)) → Q (.ref p) H'
theorem m_ready (T : Tx K mg) : Met P w K mg base 4 (cMachine K) "ready" (spReady K) := by
  have sc : FnScope ["self", "thread"] ["self"] (defScope s_Machine_ready) := ⟨rfl, rfl, rfl, by decide +kernel, rfl, by decide +kernel, by decide +kernel⟩
  refine met_ T.c_Machine T.m_Machine_ready T.f_Machine_ready sc (fun _ _ _ _ _ _ us hl => match us, hl with | [_], _ => rfl) (fun vs H Q E h => ?_) (fun cdv A outer s H vs Q E hr h => ?_)
  · obtain ⟨_, _, rfl, _⟩ := h
    rfl
  · obtain ⟨L, M, rfl, m, ok, k⟩ := h
    obtain ⟨dx, ho⟩ := m.ob
    refine ⟨_, pss_one (ps_ret (pe_lc (own := [("thread", 1)]) (g := gName 1) (tt := tTest (tOp rEq (tMt (cMachine K) "status" (spStat K) (tVar 0) (tCons (tVar 1) tNil)) (tC (.str "ready")))) (te := tVar 1) rfl sc.nd
      (pi_range1 (by rfl) T.z_range (pa_cons (pe_callB call_len_seq (by rfl) T.z_len PySem.boot_len (pa_cons (pe_fld (pv 0) rfl) pa_nil)) pa_nil))
      (blkOk_by (N := ["self", "thread"]) (sc := defScope s_Machine_ready) (by decide +kernel)) (fun _ _ _ _ _ => pg_name (i := 1) sc.nd rfl (Or.inl rfl))
      (fun _ _ _ _ _ => pts_one (pt_cmpR op_eq (pe_mt (m_status T) hr (pv 0) (pa_cons (pv 1) pa_nil)) pe_str (nomark _))) (fun _ _ _ _ _ => pv 1))), ?_⟩
    have hl : (L.ts.map fun p => V.ref p.1).length = M.rows.length := by rw [List.length_map, m.len]
    have ht := ok.th
    refine ⟨_, rfl, _, _, _, _, _, rfl, ho, T.c_Machine, T.n_Machine_rows, rfl, _, _, rfl, .inl (SqL.of m.rw_), _, rfl, by omega, by omega, fun D hD => ?_⟩
    rw [hl, Int.toNat_natCast]
    have nD := none1 hD
    refine lc_it (walk_range (lo := 0) (n := M.rows.length)) (fun i H' => But [D] H H' ∧ H' D = some (.lst (((List.range i).filter fun t => match M.rows[t]? with
      | some T => Mm.stat M.so T == .ready
      | none => false).map nV))) ⟨(Ex.new hD).but, upd_same⟩ (fun _ _ _ _ => trivial) (fun i x H' H2 hi p y => ?_) (fun H2 p => ?_)
    · obtain ⟨rfl, rfl⟩ := y
      obtain ⟨b, hD2⟩ := p
      have xb := b.exN nD
      have m2 := m.ex xb
      have eT : M.rows[i]? = some M.rows[i] := List.getElem?_eq_getElem hi
      have e0 : (0 : Int) + (i : Int) = (i : Int) := Int.zero_add _
      refine ⟨rfl, ?_⟩
      refine ⟨_, rfl, _, _, _, rfl, xb _ _ ho, rfl, _, rfl, L, M, i, _, by show [V.ref L.a, V.int (0 + (i : Int))] = _; rw [e0], m2, ok, eT, rfl, _, rfl, ?_⟩
      refine ite2 (fun hc => ?_) (fun hc => ?_)
      · refine ⟨_, rfl, _, hD2, szl ?_, b.trans (But.set (by simp)), ?_⟩
        · rw [List.length_map]
          have := List.length_filter_le (fun t => match M.rows[t]? with
            | some T => Mm.stat M.so T == .ready
            | none => false) (List.range i)
          rw [List.length_range] at this
          omega
        · have hc : Mm.stat M.so M.rows[i] = .ready := Ss.str_inj (a := Mm.stat M.so M.rows[i]) (b := .ready) (V.str.inj (of_decide_eq_true hc))
          rw [upd_same, List.range_succ, List.filter_append, List.map_append]
          simp only [List.filter_cons, List.filter_nil, eT, hc, beq_self_eq_true, if_true, List.map_cons, List.map_nil, e0]
      · refine ⟨b, ?_⟩
        have hc : ¬ Mm.stat M.so M.rows[i] = .ready := fun z => hc (by rw [z]; exact decide_eq_true rfl)
        rw [hD2, List.range_succ, List.filter_append]
        have e : ((Mm.stat M.so M.rows[i] == Ss.ready) = true) = False := by simp [hc]
        simp only [List.filter_cons, List.filter_nil, eT, e, if_false, List.append_nil]
    · obtain ⟨b, hD2⟩ := p
      exact k D H2 (b.exN nD) hD2
/-! ### small ones -/
def spRoom (K : PySem.W.Frag) : Sp := fun vs H Q _ => ∃ (L : Lay) (M : Mm), vs = [.ref L.a, .int 1] ∧ MachAt K H L M ∧ M.so.nd.length + 1 ≤ 2000 ∧ Q .non H
theorem m_room (T : Tx K mg) : Met P w K mg base 2 (cMachine K) "room" (spRoom K) := by
  have sc : FnScope ["self", "count"] ["self", "count"] (defScope s_Machine_room) := ⟨rfl, rfl, rfl, by decide +kernel, rfl, by decide +kernel, by decide +kernel⟩
  refine met_ T.c_Machine T.m_Machine_room T.f_Machine_room sc (fun _ _ _ _ _ _ us hl => match us, hl with | [_, _], _ => rfl) (fun vs H Q E h => ?_) (fun cdv A outer s H vs Q E hr h => ?_)
  · obtain ⟨_, _, rfl, _⟩ := h
    rfl
  · obtain ⟨L, M, rfl, m, hl, k⟩ := h
    obtain ⟨dx, ho⟩ := m.ob
    obtain ⟨ds, hs⟩ := m.so.ob
    obtain ⟨t, mS⟩ := T.i_MOST_STORE
    refine ⟨_, pss_one (ps_if (pt_cmpR op_gt (pe_op op_add (pe_mt0 (m_size T) hr (pe_fld (pv 0) rfl)) (pv 1)) (pe_gi mS) (nomark _)) pss_never pss_nil), ?_⟩
    refine ⟨_, rfl, _, _, _, _, _, rfl, ho, T.c_Machine, T.n_Machine_store, rfl, _, _, _, rfl, hs, rfl, L.s, L.ln, L.lp, M.so, rfl, m.so, _, rfl, _, _, rfl, rfl, _, _, rfl, rfl, _, rfl, ifF (by omega) k⟩
def spPush (K : PySem.W.Frag) : Sp := fun vs H Q _ => ∃ (a t dt lf fl : Addr) (wv rv : V) (xs ys : List V), vs = [.ref a, .ref t, .ref fl] ∧ H t = some (.ins (cThread K) dt (fT lf wv rv)) ∧ H lf = some (.lst xs) ∧ H fl = some (.lst ys) ∧ xs.length + ys.length ≤ 200 ∧ Q .non (upd H lf (.lst (xs ++ ys)))
theorem m_push (T : Tx K mg) : Met P w K mg base 1 (cMachine K) "push" (spPush K) := by
  have sc : FnScope ["self", "row", "frames"] ["self", "row", "frames"] (defScope s_Machine_push) := ⟨rfl, rfl, rfl, by decide +kernel, rfl, by decide +kernel, by decide +kernel⟩
  refine met_ T.c_Machine T.m_Machine_push T.f_Machine_push sc (fun _ _ _ _ _ _ us hl => match us, hl with | [_, _, _], _ => rfl) (fun vs H Q E h => ?_) (fun cdv A outer s H vs Q E hr h => ?_)
  · obtain ⟨_, _, _, _, _, _, _, _, _, rfl, _⟩ := h
    rfl
  · obtain ⟨a, t, dt, lf, fl, wv, rv, xs, ys, rfl, ht, h1, h2, hl, k⟩ := h
    obtain ⟨tk, mS⟩ := T.i_MOST_STACK
    refine ⟨_, pss_cons (ps_if (pt_cmpR op_gt (pe_op op_add (pe_callB call_len_seq (by rfl) T.z_len PySem.boot_len (pa_cons (pe_fld (pv 1) rfl) pa_nil)) (pe_callB call_len_seq (by rfl) T.z_len PySem.boot_len (pa_cons (pv 2) pa_nil))) (pe_gi mS) (nomark _)) pss_never pss_nil)
      (pss_one (ps_expr (pe_bm PySem.F.plainAttrs_list PySem.F.slot_list_extend PySem.F.type_list_extend mt_extend (pe_fld (pv 1) rfl) (pa_cons (pv 2) pa_nil)))), ?_⟩
    refine ⟨_, rfl, _, _, _, _, _, rfl, ht, T.c_Thread, T.n_Thread_frames, rfl, _, _, rfl, .inl (SqL.of h1), _, rfl, _, _, rfl, .inl (SqL.of h2), _, _, rfl, rfl, _, _, rfl, rfl, _, rfl, ifF (by omega) ?_⟩
    refine ⟨_, rfl, _, _, _, _, _, rfl, ht, T.c_Thread, T.n_Thread_frames, rfl, .inl ⟨rfl, _, SqL.of h1⟩, _, rfl, lf, fl, xs, ys, rfl, rfl, h1, h2, sz (by omega), k⟩
def spMPut (K : PySem.W.Frag) : Sp := fun vs H Q _ => ∃ (L : Lay) (M : Mm) (t dt lf ea : Addr) (wv rv sv : V) (xs : List V), vs = [.ref L.a, .ref t, sv, .ref ea] ∧ MachAt K H L M ∧ H t = some (.ins (cThread K) dt (fT lf wv rv)) ∧ H lf = some (.lst xs) ∧ xs.length + 1 ≤ 200 ∧
  ∀ p dp H', H' p = some (.ins (cFrame K) dp (fF sv (.ref ea))) → H' lf = some (.lst (xs ++ [.ref p])) → But [lf] H H' → Q .non H'
theorem m_mput (T : Tx K mg) : Met P w K mg base 3 (cMachine K) "put" (spMPut K) := by
  have sc : FnScope ["self", "row", "statement", "nodes"] ["self", "row", "statement", "nodes"] (defScope s_Machine_put) := ⟨rfl, rfl, rfl, by decide +kernel, rfl, by decide +kernel, by decide +kernel⟩
  refine met_ T.c_Machine T.m_Machine_put T.f_Machine_put sc (fun _ _ _ _ _ _ us hl => match us, hl with | [_, _, _, _], _ => rfl) (fun vs H Q E h => ?_) (fun cdv A outer s H vs Q E hr h => ?_)
  · obtain ⟨_, _, _, _, _, _, _, _, _, _, rfl, _⟩ := h
    rfl
  · obtain ⟨L, M, t, dt, lf, ea, wv, rv, sv, xs, rfl, m, ht, h1, hl, k⟩ := h
    obtain ⟨dx, ho⟩ := m.ob
    refine ⟨_, pss_one (ps_expr (pe_mt (m_push T) hr (pv 0) (pa_cons (pv 1) (pa_cons (pe_lst (pa_cons (pe_mk (k_frame T) hr (pa_cons (pv 2) (pa_cons (pv 3) (pa_cons pe_non pa_nil)))) pa_nil)) pa_nil)))), ?_⟩
    refine ⟨_, rfl, _, _, _, rfl, ho, rfl, _, rfl, _, rfl, _, rfl, ?_⟩
    intro p dp hp hd ne
    refine ⟨p, dp, sv, .ref ea, rfl, upd_same, fun H2 g1 b1 => ⟨rfl, sz (by simp), fun fl hfl => ?_⟩⟩
    have x1 := made_ex hp hd ne b1
    have e2 := Ex.new (o := .lst [.ref p]) hfl
    have x2 := x1.trans e2
    refine ⟨L.a, t, dt, lf, fl, wv, rv, xs, [.ref p], rfl, x2 _ _ ht, x2 _ _ h1, upd_same, hl, ?_⟩
    have plf : p ≠ lf := fun z => by rw [← z, hp] at h1; cases h1
    refine k p dp _ ?_ upd_same (x2.but.trans (But.set (by simp)))
    rw [upd_ne plf]
    exact e2 _ _ g1
def spMUni (K : PySem.W.Frag) : Sp := fun vs H Q _ => ∃ (L : Lay) (M : Mm) (a b : Nat), vs = [.ref L.a, nV a, nV b] ∧ MachAt K H L M ∧ M.so.Wf ∧ M.so.nd.length ≤ 2000 ∧ a < M.so.nd.length ∧ b < M.so.nd.length ∧ M.so.Free a b ∧ ∀ H', Go K H L H' L { M with so := M.so.uni a b } → Q .non H'
theorem m_muni (T : Tx K mg) : Met P w K mg base 4 (cMachine K) "unify" (spMUni K) := by
  have sc : FnScope ["self", "first", "second"] ["self", "first", "second"] (defScope s_Machine_unify) := ⟨rfl, rfl, rfl, by decide +kernel, rfl, by decide +kernel, by decide +kernel⟩
  refine met_ T.c_Machine T.m_Machine_unify T.f_Machine_unify sc (fun _ _ _ _ _ _ us hl => match us, hl with | [_, _, _], _ => rfl) (fun vs H Q E h => ?_) (fun cdv A outer s H vs Q E hr h => ?_)
  · obtain ⟨_, _, _, _, rfl, _⟩ := h
    rfl
  · obtain ⟨L, M, a, b, rfl, m, wf, hl, ha, hb, hF, k⟩ := h
    obtain ⟨dx, ho⟩ := m.ob
    obtain ⟨ds, hs⟩ := m.so.ob
    refine ⟨_, pss_one (ps_try_only (tb := fun _ => tDrop (tMt (cStore K) "unify" (spUni K) (tFld K (tVar 0) "store") (tCons (tVar 1) (tCons (tVar 2) tNil)))) rfl rfl ⟨by rfl, by decide, Or.inl T.g_Failed⟩ takes0 (fun W pn xe tk hp => pss_one (ps_expr (pe_mt (m_unify T) hr (pe_fld (pv 0) rfl) (pa_cons (pv 1) (pa_cons (pv 2) pa_nil))))) (fun a oe cls d pn hz hf => pss_never)), ?_⟩
    refine ⟨_, rfl, _, _, _, _, _, rfl, ho, T.c_Machine, T.n_Machine_store, rfl, _, _, _, rfl, hs, rfl, _, rfl, _, rfl, L.s, L.ln, L.lp, M.so, a, b, rfl, m.so, wf, ha, hb, hl, hF, fun v H' h1 h2 => ?_⟩
    exact k H' (Go.store m h1 (h2.mono (by simp)))
end
end Lw
namespace Lw
open PySem PySem.Spec PyProof.Rows L2
/-! ### what a statement may end with -/
def Xs (C : Addr) (H : Hp) (n : Nat) (E : XK) : Prop := ∀ d H', H d = none → Ex H H' → H' d = some (.xd [("node", nV n)]) → E (.ref C) (some d) H'
def DoRes (K : PySem.W.Frag) (H : Hp) (L : Lay) (Q : VK) (E : XK) : Mm.Res → Prop
  | .ok M' => ∀ L' H', Go K H L H' L' M' → Q .non H'
  | .wait n => Xs (cWaits K) H n E
  | .rai n => Xs (cRaises K) H n E
theorem Xs.pre {C : Addr} {H H1 : Hp} {n : Nat} {E : XK} (e : Ex H H1) (x : Xs C H n E) : Xs C H1 n E := fun d H' h1 h2 h3 => x d H' (e.free h1) (e.trans h2) h3
theorem DoRes.pre {K : PySem.W.Frag} {H H1 : Hp} {L : Lay} {Q : VK} {E : XK} (e : Ex H H1) : ∀ {r : Mm.Res}, DoRes K H L Q E r → DoRes K H1 L Q E r
  | .ok _, h => fun L' H' g => h L' H' (g.pre e)
  | .wait _, h => Xs.pre e h
  | .rai _, h => Xs.pre e h
theorem So.Wf.add {S : So} (w : S.Wf) (d : Nd) : (S.add d).Wf := by
  have lp := w.len
  have old : ∀ i, i < S.nd.length → (S.add d).isV i = S.isV i := fun i hi => by
    unfold So.isV So.add
    show ((S.nd ++ [d])[i]? == some Nd.var) = _
    rw [List.getElem?_append_left hi]
  refine ⟨by show (S.pa ++ [_]).length = (S.nd ++ [d]).length; simp [lp], fun i j e n => ?_⟩
  replace e : (S.pa ++ [S.pa.length])[i]? = some j := e
  by_cases hi : i < S.pa.length
  · rw [List.getElem?_append_left hi] at e
    obtain ⟨a, b, c⟩ := w.par i j e n
    refine ⟨by rw [old i (by omega)]; exact a, by show j < (S.nd ++ [d]).length; simp; omega, ?_⟩
    rw [old j b]
    exact c
  · rw [List.getElem?_append_right (by omega)] at e
    have h0 : i - S.pa.length = 0 := by
      by_cases q : i - S.pa.length = 0
      · exact q
      · rw [List.getElem?_eq_none (by simp; omega)] at e; cases e
    rw [h0] at e
    have : S.pa.length = j := by simpa using e
    omega
theorem So.add_len {S : So} {d : Nd} : (S.add d).nd.length = S.nd.length + 1 := by show (S.nd ++ [d]).length = _; simp
theorem freeB_ok {S : So} {a b : Nat} (h : Mm.freeB S a b = true) : S.Free a b := by
  unfold Mm.freeB at h
  rcases Bool.or_eq_true_iff.mp h with h | h
  · exact .inl (of_decide_eq_true h)
  · rcases Bool.or_eq_true_iff.mp h with h | h
    · exact .inr (.inl h)
    · exact .inr (.inr h)
theorem node_ok {S : So} {e : Ev} {x : Str} {a : Nat} (h : Mm.node S e x = some a) : e.get x = some a ∧ a < S.nd.length := by
  unfold Mm.node at h
  split at h
  · rename_i n hn
    split at h
    · cases h; exact ⟨hn, ‹_›⟩
    · cases h
  · cases h
theorem val_ok {S : So} {n : Nat} {z : Int} (h : Mm.val S n = some z) : S.nd[S.rep n]? = some (.int z) := by
  unfold Mm.val at h
  split at h
  · rename_i v hv
    cases h
    exact hv
  · cases h
theorem ev_get {H : Hp} {a : Addr} {e : Ev} (h : EvAt H a e) {x : Str} {n : Nat} (g : e.get x = some n) : DGet H a (.str x) (some (nV n)) := by
  have q := DGet.k (k := Sum.inr x) h
  rw [kv_get, g] at q
  exact q
section
variable {P : Program} {w : World} {K : PySem.W.Frag} {mg : Str → Option Value} {base : Heap}
def spMWait (K : PySem.W.Frag) : Sp := fun vs H Q E => ∃ (L : Lay) (M : Mm) (n : Nat), vs = [.ref L.a, nV n] ∧ MachAt K H L M ∧ M.so.Wf ∧ n < M.so.nd.length ∧
  ((M.so.isV (M.so.rep n) = true ∧ Xs (cWaits K) H n E) ∨ (M.so.isV (M.so.rep n) = false ∧ ∃ z, M.so.nd[M.so.rep n]? = some (.int z) ∧ ∀ p, H p = some (.tup [.str "int", .int z]) → Q (.ref p) H))
theorem m_wait (T : Tx K mg) : MetX P w K mg base 3 (cMachine K) "wait" (spMWait K) := by
  have sc : FnScope ["self", "node"] ["self", "node"] (defScope s_Machine_wait) := ⟨rfl, rfl, rfl, by decide +kernel, rfl, by decide +kernel, by decide +kernel⟩
  refine metX_ T.c_Machine T.m_Machine_wait T.f_Machine_wait sc (fun _ _ _ _ _ _ us hl => match us, hl with | [_, _], _ => rfl) (fun vs H Q E h => ?_) (fun cdv A outer s H vs Q E hr h tk => ?_)
  · obtain ⟨_, _, _, rfl, _⟩ := h
    rfl
  · obtain ⟨L, M, n, rfl, m, wf, hn, k⟩ := h
    obtain ⟨dx, ho⟩ := m.ob
    obtain ⟨ds, hs⟩ := m.so.ob
    refine ⟨_, pss_cons (ps_if (pt_not (pt_val (pe_mt (m_isb T) hr (pe_fld (pv 0) rfl) (pa_cons (pv 1) pa_nil)))) (pss_one (L2N.ps_raise rfl tk (pmk_Waits T hr (pv 1)))) pss_nil)
      (pss_one (ps_ret (pe_mt (m_value T) hr (pe_fld (pv 0) rfl) (pa_cons (pv 1) pa_nil)))), ?_⟩
    refine ⟨_, rfl, _, _, _, _, _, rfl, ho, T.c_Machine, T.n_Machine_store, rfl, _, _, _, rfl, hs, rfl, _, rfl, L.s, L.ln, L.lp, M.so, n, rfl, m.so, wf, hn, _, rfl, ?_⟩
    rcases k with ⟨hv, k⟩ | ⟨hv, z, hz, k⟩
    · rw [hv]
      exact iteT ⟨_, rfl, ex_in k⟩
    · rw [hv]
      refine iteF ⟨_, rfl, _, _, _, _, _, rfl, ho, T.c_Machine, T.n_Machine_store, rfl, _, _, _, rfl, hs, rfl, _, rfl, L.s, L.ln, L.lp, M.so, n, z, rfl, m.so, wf, hn, hz, k⟩
def spDoV (K : PySem.W.Frag) : Sp := fun vs H Q E => ∃ (L : Lay) (M : Mm) (ea : Addr) (sv : V) (x : Str) (n : Int) (e : Ev) (a : Nat) (r : Mm.Res), vs = [.ref L.a, sv, .ref ea] ∧ MachAt K H L M ∧ M.so.Wf ∧ M.so.nd.length ≤ 2000 ∧ SmAt H sv (.int x n) ∧ EvAt H ea e ∧ Mm.node M.so e x = some a ∧ Mm.give M a (.int n) = some r ∧ DoRes K H L Q E r
theorem give_ok {M : Mm} {a : Nat} {d : Nd} {r : Mm.Res} (h : Mm.give M a d = some r) : M.so.nd.length + 1 ≤ 2000 ∧ (M.so.add d).Free a M.so.nd.length ∧ r = .ok { M with so := (M.so.add d).uni a M.so.nd.length } := by
  unfold Mm.give at h
  split at h
  · rename_i c
    cases h
    obtain ⟨h1, h2⟩ := Bool.and_eq_true_iff.mp c
    exact ⟨of_decide_eq_true h1, freeB_ok h2, rfl⟩
  · cases h
theorem m_do_value (T : Tx K mg) : Met P w K mg base 5 (cMachine K) "do_value" (spDoV K) := by
  have sc : FnScope ["self", "statement", "nodes", "word", "made"] ["self", "statement", "nodes"] (defScope s_Machine_do_value) := ⟨rfl, rfl, rfl, by decide +kernel, rfl, by decide +kernel, by decide +kernel⟩
  refine met_ T.c_Machine T.m_Machine_do_value T.f_Machine_do_value sc (fun _ _ _ _ _ _ us hl => match us, hl with | [_, _, _], _ => rfl) (fun vs H Q E h => ?_) (fun cdv A outer s H vs Q E hr h => ?_)
  · obtain ⟨_, _, _, _, _, _, _, _, _, rfl, _⟩ := h
    rfl
  · obtain ⟨L, M, ea, sv, x, n, e, a, r, rfl, m, wf, hl, ⟨q, rfl, hq⟩, he, hn, hg, k⟩ := h
    obtain ⟨g1, g2, rfl⟩ := give_ok hg
    obtain ⟨n1, n2⟩ := node_ok hn
    obtain ⟨dx, ho⟩ := m.ob
    obtain ⟨ds, hs⟩ := m.so.ob
    have hu := hu_of hr
    refine ⟨_, pss_cons (ps_expr (pe_mt (m_room T) hr (pv 0) (pa_cons pe_int pa_nil)))
      (pss_cons (ps_set (i := 3) sc.nd rfl (Or.inl rfl) (pe_ix ix_tup (pv 1) pe_int (fun _ _ => rfl)))
      (pss_cons (ps_if (pt_cmpR op_eq (pv 3) pe_str (nomark _)) (pss_one (ps_set (i := 4) sc.nd rfl (Or.inl rfl) (pe_mt (m_integer T n) hr (pe_fld (pv 0) rfl) (pa_cons (pe_ix ix_tup (pv 1) pe_int (fun _ _ => rfl)) pa_nil)))) pss_never)
      (pss_one (ps_expr (pe_mt (m_muni T) hr (pv 0) (pa_cons (pe_dget hu (pv 2) (pe_ix ix_tup (pv 1) pe_int (fun _ _ => rfl)) (fun _ _ => rfl)) (pa_cons (pv 4) pa_nil))))))), ?_⟩
    refine ⟨_, rfl, _, _, _, rfl, ho, rfl, L, M, rfl, m, g1, ?_⟩
    refine ⟨_, rfl, _, _, _, _, rfl, rfl, SqT.of hq, atI_nat (j := 0) rfl, ?_⟩
    refine ⟨_, rfl, rfl, _, rfl, ifT rfl ?_⟩
    refine ⟨_, rfl, _, _, _, _, _, rfl, ho, T.c_Machine, T.n_Machine_store, rfl, _, _, _, rfl, hs, rfl, _, rfl, _, _, _, _, rfl, rfl, SqT.of hq, atI_nat (j := 2) rfl, ?_⟩
    refine ⟨L.s, L.ln, L.lp, M.so, rfl, m.so, by omega, wf.len, fun H1 s1 b1 => ?_⟩
    have G1 := Go.store m s1 b1
    have i1 : Imm H H1 := m.imm b1 (by intro x hx; simp at hx; rcases hx with h | h <;> (rw [h]; simp [Lay.own]))
    obtain ⟨dx1, ho1⟩ := G1.m.ob
    refine ⟨_, rfl, _, _, _, rfl, ho1, rfl, _, rfl, _, rfl, _, _, _, _, rfl, rfl, SqT.of (i1 _ _ hq trivial), atI_nat (j := 1) rfl, ea, _, rfl, ev_get (i1 _ _ he trivial) n1, _, rfl, ?_⟩
    refine ⟨L, _, a, M.so.nd.length, rfl, G1.m, wf.add _, ?_, ?_, ?_, g2, fun H2 G2 => ?_⟩
    · show (M.so.add _).nd.length ≤ 2000; rw [So.add_len]; omega
    · show _ < (M.so.add _).nd.length; rw [So.add_len]; omega
    · show _ < (M.so.add _).nd.length; rw [So.add_len]; omega
    exact k L H2 (G1.trans G2)
/-! ### starting a thread -/
def spStart (K : PySem.W.Frag) : Sp := fun vs H Q E => ∃ (L : Lay) (M : Mm) (ea : Addr) (sv : V) (s : Sm) (e : Ev), vs = [.ref L.a, sv, .ref ea] ∧ MachAt K H L M ∧ SmAt H sv s ∧ EvAt H ea e ∧ M.rows.length < 60 ∧ ∀ L' H', Go K H L H' L' { M with rows := M.rows ++ [⟨[(s, e)], none, none⟩] } → Q .non H'
theorem m_start (T : Tx K mg) : Met P w K mg base 3 (cMachine K) "start" (spStart K) := by
  have sc : FnScope ["self", "statement", "nodes"] ["self", "statement", "nodes"] (defScope s_Machine_start) := ⟨rfl, rfl, rfl, by decide +kernel, rfl, by decide +kernel, by decide +kernel⟩
  refine met_ T.c_Machine T.m_Machine_start T.f_Machine_start sc (fun _ _ _ _ _ _ us hl => match us, hl with | [_, _, _], _ => rfl) (fun vs H Q E h => ?_) (fun cdv A outer s H vs Q E hr h => ?_)
  · obtain ⟨_, _, _, _, _, _, rfl, _⟩ := h
    rfl
  · obtain ⟨L, M, ea, sv, st, e, rfl, m, hs, he, hl, k⟩ := h
    obtain ⟨dx, ho⟩ := m.ob
    obtain ⟨tk, mS⟩ := T.i_MOST_THREADS
    have hl' : (L.ts.map fun p => V.ref p.1).length = M.rows.length := by rw [List.length_map, m.len]
    refine ⟨_, pss_cons (ps_if (pt_cmpR op_ge (pe_callB call_len_seq (by rfl) T.z_len PySem.boot_len (pa_cons (pe_fld (pv 0) rfl) pa_nil)) (pe_gi mS) (nomark _)) pss_never pss_nil)
      (pss_one (ps_expr (pe_bm PySem.F.plainAttrs_list PySem.F.slot_list_append PySem.F.type_list_append mt_append (pe_fld (pv 0) rfl) (pa_cons (pe_mk (k_thread T) hr (pa_cons (pe_lst (pa_cons (pe_mk (k_frame T) hr (pa_cons (pv 1) (pa_cons (pv 2) (pa_cons pe_non pa_nil)))) pa_nil)) pa_nil)) pa_nil)))), ?_⟩
    refine ⟨_, rfl, _, _, _, _, _, rfl, ho, T.c_Machine, T.n_Machine_rows, rfl, _, _, rfl, .inl (SqL.of m.rw_), _, _, rfl, rfl, _, rfl, ifF (by rw [hl']; omega) ?_⟩
    refine ⟨_, rfl, _, _, _, _, _, rfl, ho, T.c_Machine, T.n_Machine_rows, rfl, .inl ⟨rfl, _, SqL.of m.rw_⟩, ?_⟩
    refine ⟨_, rfl, _, rfl, ?_⟩
    intro p dp hp hd ne
    refine ⟨p, dp, sv, .ref ea, rfl, upd_same, fun H1 g1 b1 => ⟨rfl, sz (by simp), fun fl hfl => ?_⟩⟩
    have x1 := made_ex hp hd ne b1
    have e2 := Ex.new (o := .lst [.ref p]) hfl
    have x2 := x1.trans e2
    intro t dt ht hdt ne2
    refine ⟨t, dt, fl, rfl, upd_same, fun H3 g3 b3 => ⟨rfl, ?_⟩⟩
    have x3 := made_ex ht hdt ne2 b3
    have x23 := x2.trans x3
    have hfl3 := x3 _ _ (upd_same : upd H1 fl (HO.lst [.ref p]) fl = some _)
    have hp3 := x3 _ _ (e2 _ _ g1)
    have ht0 := x2.free ht
    have hfl0 := x1.free hfl
    have ntl : t ≠ fl := fun z => by rw [z, upd_same] at ht; cases ht
    have b : But [L.r] H3 (upd H3 L.r (.lst ((L.ts.map fun p => V.ref p.1) ++ [.ref t]))) := But.set (by simp)
    have i : Imm H3 (upd H3 L.r (.lst ((L.ts.map fun p => V.ref p.1) ++ [.ref t]))) := Imm.set (x23 _ _ m.rw_) imm_lst
    have nr : ∀ {a : Addr} {o : HO}, H a = none → H3 a = some o → upd H3 L.r (.lst ((L.ts.map fun p => V.ref p.1) ++ [.ref t])) a = some o := fun {a o} h0 h => by
      rw [upd_ne (fun z => by rw [z, m.rw_] at h0; cases h0)]; exact h
    refine ⟨_, _, _, rfl, rfl, x23 _ _ m.rw_, szl (by rw [hl']; omega), ?_⟩
    have mm := (m.ex x23).app (t := t) (lf := fl) (T := ⟨[(st, e)], none, none⟩) (m.off ht0) (m.off hfl0) ntl ⟨⟨dt, nr ht0 g3⟩, ⟨_, nr hfl0 hfl3, .cons ⟨p, dp, sv, ea, rfl, nr hp (x3 _ _ (e2 _ _ g1)), (hs.imm x23.imm).imm i, i _ _ (x23 _ _ he) trivial⟩ .nil⟩⟩ upd_same b
    refine k _ _ ⟨mm, rfl, x23.but.trans (b.mono (by intro x hx; rw [List.mem_singleton.mp hx]; simp [Lay.own])), fun x hx => ?_, fun j q hj => ?_⟩
    · have eo : ({ L with ts := L.ts ++ [(t, fl)] } : Lay).own = L.own ++ [t, fl] := by
        show L.a :: L.s :: L.ln :: L.lp :: L.g :: L.r :: L.pr :: L.ce :: L.po :: L.tr :: flat (L.ts ++ [(t, fl)]) = _
        rw [flat_app]
        rfl
      rw [eo, List.mem_append] at hx
      rcases hx with h | h
      · exact .inl h
      · simp only [List.mem_cons, List.not_mem_nil, or_false] at h
        rcases h with h | h
        · rw [h]; exact .inr ht0
        · rw [h]; exact .inr hfl0
    · show (L.ts ++ [(t, fl)])[j]? = some q
      rw [List.getElem?_append_left (List.getElem?_eq_some_iff.mp hj).1]
      exact hj
end
end Lw
namespace Lw
open PySem PySem.Spec PyProof.Rows L2
theorem push_ok {M : Mm} {i : Nat} {T : Th} {fs : List (Sm × Ev)} {r : Mm.Res} (h : Mm.push M i T fs = some r) : T.fr.length + fs.length ≤ 200 ∧ r = .ok (M.row i { T with fr := fs ++ T.fr }) := by
  unfold Mm.push at h
  split at h
  · cases h; exact ⟨‹_›, rfl⟩
  · cases h
theorem eqv_int (v n : Int) : PyData.eqv (.tuple [.str "int", .int v]) (.tuple [.str "int", .int n]) = decide (v = n) := by
  by_cases h : v = n <;> simp [PyData.eqv, PyData.eqvAll, h]
theorem shaped_int (v : Int) : SeqAt.shaped (.tuple [.str "int", .int v]) = true := by
  simp [SeqAt.shaped, PyData.canLay0, PyData.canLayAll0, PyData.depth, PyData.depthAll]
  decide +kernel
section
variable {K : PySem.W.Frag} {H H' : Hp} {L : Lay} {M : Mm}
/-- frames more on a thread -/
theorem Go.push (m : MachAt K H L M) {i : Nat} {t lf : Addr} {T : Th} (hi : L.ts[i]? = some (t, lf)) {dt : Addr} (h1 : H t = some (.ins (cThread K) dt (fT lf (oV T.wt) (oV T.ra)))) {xs us : List V} {fs : List (Sm × Ev)} (h3 : Paired (FrAt K H) xs T.fr.reverse)
    (b : But [lf] H H') (hl : H' lf = some (.lst (xs ++ us))) (hu : Paired (FrAt K H') us fs.reverse) : Go K H L H' L (M.row i { T with fr := fs ++ T.fr }) := by
  have ne : t ≠ lf := ne_ix m.nd (Lay.t1 hi) (Lay.t2 hi) (by omega)
  have im : Imm H H' := m.imm b (by intro x hx; rw [List.mem_singleton.mp hx]; exact mem_ix (Lay.t2 hi))
  refine Go.th m hi ⟨⟨dt, b _ _ h1 (by simp; exact ne)⟩, ⟨_, hl, ?_⟩⟩ (b.mono (by intro x hx; rw [List.mem_singleton.mp hx]; simp))
  show Paired (FrAt K H') (xs ++ us) (fs ++ T.fr).reverse
  rw [List.reverse_append]
  exact pr_app (pr_imp (fun _ _ q => q.imm im) h3) hu
end
section
variable {P : Program} {w : World} {K : PySem.W.Frag} {mg : Str → Option Value} {base : Heap}
def spDoT (K : PySem.W.Frag) : Sp := fun vs H Q E => ∃ (L : Lay) (M : Mm) (i : Nat) (ta lf : Addr) (T : Th) (sv : V) (ea : Addr) (x : Str) (n : Int) (sa sb : Sm) (e : Ev) (r : Mm.Res), vs = [.ref L.a, .ref ta, sv, .ref ea] ∧ MachAt K H L M ∧ M.so.Wf ∧ L.ts[i]? = some (ta, lf) ∧ M.rows[i]? = some T ∧
  SmAt H sv (.case x n sa sb) ∧ EvAt H ea e ∧ Mm.doM M i T (.case x n sa sb) e = some r ∧ DoRes K H L Q E r
theorem m_do_test (T : Tx K mg) : MetX P w K mg base 4 (cMachine K) "do_test" (spDoT K) := by
  have sc : FnScope ["self", "row", "statement", "nodes", "value", "pattern"] ["self", "row", "statement", "nodes"] (defScope s_Machine_do_test) := ⟨rfl, rfl, rfl, by decide +kernel, rfl, by decide +kernel, by decide +kernel⟩
  refine metX_ T.c_Machine T.m_Machine_do_test T.f_Machine_do_test sc (fun _ _ _ _ _ _ us hl => match us, hl with | [_, _, _, _], _ => rfl) (fun vs H Q E h => ?_) (fun cdv A outer s H vs Q E hr h tk => ?_)
  · obtain ⟨_, _, _, _, _, _, _, _, _, _, _, _, _, _, rfl, _⟩ := h
    rfl
  · obtain ⟨L, M, i, ta, lf, Th, sv, ea, x, n, sa, sb, e, r, rfl, m, wf, hi, hT, hS, he, hd, k⟩ := h
    have hS' := hS
    obtain ⟨q, q2, xa, xb, rfl, hq, hq2, hsa, hsb⟩ := hS
    obtain ⟨dx, ho⟩ := m.ob
    obtain ⟨_, _, hi', ⟨dt, g1⟩, xs, g2, g3⟩ := m.thr hT
    rw [hi] at hi'
    cases hi'
    have hu := hu_of hr
    have hu2 := hr.units
    refine ⟨_, pss_cons (ps_set (i := 4) sc.nd rfl (Or.inl rfl) (pe_mtX (m_wait T) tk hr (pv 0) (pa_cons (pe_dget hu (pv 3) (pe_ix ix_tup (pv 2) pe_int (fun _ _ => rfl)) (fun _ _ => rfl)) pa_nil)))
      (pss_cons (ps_if (pt_cmpR op_eq (pe_ix ix_tup (pv 2) pe_int (fun _ _ => rfl)) pe_str (nomark _)) pss_never pss_nil)
      (pss_cons (ps_set (i := 5) sc.nd rfl (Or.inl rfl) (pe_ix ix_tup (pv 2) pe_int (fun _ _ => rfl)))
      (pss_one (ps_if (pt_cmpR op_ne (pe_ix ix_tup (pv 5) pe_int (fun _ _ => rfl)) pe_str (nomark _))
        (pss_one (ps_expr (pe_mt (m_mput T) hr (pv 0) (pa_cons (pv 1) (pa_cons (pe_ix ix_tup (pv 2) (pe_op op_add pe_int (pe_callTy call_int1 (by rfl) T.z_int (by decide +kernel) (pa_cons (pe_cmpR (op_neD hu2) (pv 4) (pv 5) (nomark _)) pa_nil))) (fun _ _ => rfl)) (pa_cons (pv 3) pa_nil)))))) pss_never)))), ?_⟩
    simp only [Mm.doM] at hd
    split at hd
    · rename_i c hc
      obtain ⟨n1, n2⟩ := node_ok hc
      refine ⟨_, rfl, _, _, _, rfl, ho, rfl, _, rfl, _, rfl, _, _, _, _, rfl, rfl, SqT.of hq, atI_nat (j := 1) rfl, ea, _, rfl, ev_get he n1, L, M, c, rfl, m, wf, n2, ?_⟩
      split at hd
      · cases hd
        exact .inl ⟨‹_›, k⟩
      · rename_i hv
        split at hd
        · rename_i v hv2
          obtain ⟨p1, rfl⟩ := push_ok hd
          refine .inr ⟨by simpa using hv, v, val_ok hv2, fun p hp => ?_⟩
          refine ⟨_, rfl, _, _, _, _, rfl, rfl, SqT.of hq, atI_nat (j := 0) rfl, rfl, _, rfl, ifF (fun y => absurd (V.str.inj y) (by decide +kernel)) ?_⟩
          refine ⟨_, rfl, _, _, _, _, rfl, rfl, SqT.of hq, atI_nat (j := 2) rfl, ?_⟩
          refine ⟨_, rfl, _, _, _, _, rfl, rfl, SqT.of hq2, atI_nat (j := 0) rfl, rfl, _, rfl, ifnT (fun y => absurd (V.str.inj y) (by decide +kernel)) ?_⟩
          refine ⟨_, rfl, _, _, _, rfl, ho, rfl, _, rfl, _, rfl, _, rfl, _, rfl, _, _, .tup (SqT.of hp) (.cons (.str _) (.cons (.int v) .nil)), .tup (SqT.of hq2) (.cons (.str _) (.cons (.int n) .nil)), shaped_int v, shaped_int n, .inr ⟨_, rfl, _, _, rfl, rfl, ?_⟩⟩
          rw [eqv_int]
          have lx : xs.length = Th.fr.length := by rw [pr_len g3, List.length_reverse]
          have fin : ∀ (sw : V) (s2 : Sm) (j : Nat), [V.str "case", .str x, .ref q2, xa, xb][j]? = some sw → SmAt H sw s2 → (if v = n then sa else sb) = s2 → ∀ (p' dp : Addr) (H' : Hp), H' p' = some (.ins (cFrame K) dp (fF sw (.ref ea))) → H' lf = some (.lst (xs ++ [.ref p'])) → But [lf] H H' → Q .non H' := fun sw s2 j _ hs2 es p' dp H' j1 j2 j3 => by
            have im : Imm H H' := m.imm j3 (by intro x hx; rw [List.mem_singleton.mp hx]; exact mem_ix (Lay.t2 hi))
            refine k L H' (Go.push m hi g1 g3 j3 j2 ?_)
            rw [es]
            exact .cons ⟨p', dp, sw, ea, rfl, j1, hs2.imm im, im _ _ he trivial⟩ .nil
          by_cases hvn : v = n
          · exact ⟨q, _, 3, xa, rfl, by simp [hvn], SqT.of hq, rfl, _, rfl, L, M, ta, dt, lf, ea, _, _, xa, xs, rfl, m, g1, g2, by simp at p1; omega, fin xa sa 3 rfl hsa (if_pos hvn)⟩
          · exact ⟨q, _, 4, xb, rfl, by simp [hvn], SqT.of hq, rfl, _, rfl, L, M, ta, dt, lf, ea, _, _, xb, xs, rfl, m, g1, g2, by simp at p1; omega, fin xb sb 4 rfl hsb (if_neg hvn)⟩
        · cases hd
    · cases hd
end
end Lw
namespace Lw
open PySem PySem.Spec PyProof.Rows L2
theorem iteTb {c : Bool} {A B : Prop} (h : c = true) (a : A) : if c = true then A else B := by rw [if_pos h]; exact a
theorem iteFb {c : Bool} {A B : Prop} (h : c = false) (b : B) : if c = true then A else B := by rw [h]; exact iteF b
section
variable {P : Program} {w : World} {K : PySem.W.Frag} {mg : Str → Option Value} {base : Heap}
def spWk : Sp := fun vs H Q _ => ∃ (a : Addr) (v u : Int), vs = [.ref a, .str "+", .int v, .int u] ∧ v.natAbs ≤ 1000000 ∧ u.natAbs ≤ 1000000 ∧ ∀ p, H p = none → Q (.ref p) (upd H p (.tup [.str "int", .int (v + u)]))
theorem m_worked (T : Tx K mg) : Met P w K mg base 1 (cMachine K) "worked_out" spWk := by
  have sc : FnScope ["self", "sign", "one", "two", "number"] ["self", "sign", "one", "two"] (defScope s_Machine_workes_out) := ⟨rfl, rfl, rfl, by decide +kernel, rfl, by decide +kernel, by decide +kernel⟩
  refine met_ T.c_Machine T.m_Machine_worked_out T.f_Machine_worked_out sc (fun _ _ _ _ _ _ us hl => match us, hl with | [_, _, _, _], _ => rfl) (fun vs H Q E h => ?_) (fun cdv A outer s H vs Q E hr h => ?_)
  · obtain ⟨_, _, _, rfl, _⟩ := h
    rfl
  · obtain ⟨a, v, u, rfl, h1, h2, k⟩ := h
    obtain ⟨tk, mN⟩ := T.i_MOST_NUMBER
    refine ⟨_, pss_cons (ps_if (pt_cmpR op_eq (pv 1) pe_str (nomark _)) pss_never pss_nil)
      (pss_cons (ps_set (i := 4) sc.nd rfl (Or.inl rfl) (pe_op op_mul (pv 2) (pv 3)))
      (pss_cons (ps_if (pt_cmpR op_eq (pv 1) pe_str (nomark _)) (pss_one (ps_set (i := 4) sc.nd rfl (Or.inl rfl) (pe_op op_add (pv 2) (pv 3)))) pss_never)
      (pss_cons (ps_if (pt_cmpR op_gt (pe_callB call_abs (by rfl) T.z_abs (by kernel_rfl) (pa_cons (pv 4) pa_nil)) (pe_gi mN) (nomark _)) pss_never pss_nil)
      (pss_one (ps_ret (pe_tup (pa_cons pe_str (pa_cons (pv 4) pa_nil)))))))), ?_⟩
    refine ⟨_, rfl, rfl, _, rfl, ifF (fun y => absurd (V.str.inj y) (by decide +kernel)) ?_⟩
    refine ⟨_, rfl, _, rfl, _, _, rfl, rfl, .inl ⟨by omega, by omega⟩, ?_⟩
    refine ⟨_, rfl, rfl, _, rfl, ifT rfl ⟨_, rfl, _, rfl, _, _, rfl, rfl, ?_⟩⟩
    refine ⟨_, rfl, _, rfl, _, _, rfl, rfl, _, rfl, ifF (by split <;> omega) ?_⟩
    exact ⟨_, rfl, sz (by simp), k⟩
def spDoO (K : PySem.W.Frag) : Sp := fun vs H Q E => ∃ (L : Lay) (M : Mm) (rl : Addr) (c a b : Nat) (r : Mm.Res), vs = [.ref L.a, .str "+", .ref rl] ∧ MachAt K H L M ∧ M.so.Wf ∧ M.so.nd.length ≤ 2000 ∧ H rl = some (.lst [nV c, nV a, nV b]) ∧ c < M.so.nd.length ∧ a < M.so.nd.length ∧ b < M.so.nd.length ∧
  Mm.addM M c a b = some r ∧ DoRes K H L Q E r
theorem m_do_operator (T : Tx K mg) : MetX P w K mg base 5 (cMachine K) "do_operator" (spDoO K) := by
  have sc : FnScope ["self", "sign", "rows", "result", "first", "second", "made", "one", "two"] ["self", "sign", "rows"] (defScope s_Machine_do_operator) := ⟨rfl, rfl, rfl, by decide +kernel, rfl, by decide +kernel, by decide +kernel⟩
  refine metX_ T.c_Machine T.m_Machine_do_operator T.f_Machine_do_operator sc (fun _ _ _ _ _ _ us hl => match us, hl with | [_, _, _], _ => rfl) (fun vs H Q E h => ?_) (fun cdv A outer s H vs Q E hr h tk => ?_)
  · obtain ⟨_, _, _, _, _, _, _, rfl, _⟩ := h
    rfl
  · obtain ⟨L, M, rl, c, a, b, r, rfl, m, wf, hl, hrl, hc, ha, hb, hd, k⟩ := h
    obtain ⟨dx, ho⟩ := m.ob
    obtain ⟨ds, hs⟩ := m.so.ob
    refine ⟨_, pss_cons (ps_asg (pv 2) (pg_unl rfl (pgs_cons (pg_name (i := 3) sc.nd rfl (Or.inl rfl)) (pgs_cons (pg_name (i := 4) sc.nd rfl (Or.inl rfl)) (pgs_cons (pg_name (i := 5) sc.nd rfl (Or.inl rfl)) pgs_nil)))))
      (pss_cons (ps_if (pt_cmpR op_eq (pv 1) pe_str (nomark _)) pss_never
        (pss_cons (ps_set (i := 7) sc.nd rfl (Or.inl rfl) (pe_mtX (m_wait T) tk hr (pv 0) (pa_cons (pv 4) pa_nil)))
        (pss_cons (ps_set (i := 8) sc.nd rfl (Or.inl rfl) (pe_mtX (m_wait T) tk hr (pv 0) (pa_cons (pv 5) pa_nil)))
        (pss_cons (ps_if (PW.pt (pw_or (pt_cmpR op_ne (pe_ix ix_tup (pv 7) pe_int (fun _ _ => rfl)) pe_str (nomark _)) (pw_or1 (pt_cmpR op_ne (pe_ix ix_tup (pv 8) pe_int (fun _ _ => rfl)) pe_str (nomark _))))) pss_never pss_nil)
        (pss_one (ps_set (i := 6) sc.nd rfl (Or.inl rfl) (pe_mt (m_worked T) hr (pv 0) (pa_cons (pv 1) (pa_cons (pe_ix ix_tup (pv 7) pe_int (fun _ _ => rfl)) (pa_cons (pe_ix ix_tup (pv 8) pe_int (fun _ _ => rfl)) pa_nil))))))))))
      (pss_cons (ps_expr (pe_mt (m_room T) hr (pv 0) (pa_cons pe_int pa_nil)))
      (pss_one (ps_expr (pe_mt (m_muni T) hr (pv 0) (pa_cons (pv 3) (pa_cons (pe_mt (m_make T) hr (pe_fld (pv 0) rfl) (pa_cons (pv 6) pa_nil)) pa_nil))))))), ?_⟩
    refine ⟨_, rfl, _, _, rfl, SqL.of hrl, rfl, _, _, rfl, _, _, rfl, _, _, rfl, rfl, ?_⟩
    refine ⟨_, rfl, rfl, _, rfl, ifF (fun y => absurd (V.str.inj y) (by decide +kernel)) ?_⟩
    refine ⟨_, rfl, _, _, _, rfl, ho, rfl, _, rfl, L, M, a, rfl, m, wf, ha, ?_⟩
    unfold Mm.addM at hd
    by_cases va : M.so.isV (M.so.rep a) = true
    · rw [if_pos va] at hd
      cases hd
      exact .inl ⟨va, k⟩
    rw [if_neg va] at hd
    split at hd
    · rename_i v ev
      refine .inr ⟨by simpa using va, v, val_ok ev, fun p hp => ?_⟩
      refine ⟨_, rfl, _, _, _, rfl, ho, rfl, _, rfl, L, M, b, rfl, m, wf, hb, ?_⟩
      by_cases vb : M.so.isV (M.so.rep b) = true
      · rw [if_pos vb] at hd
        cases hd
        exact .inl ⟨vb, k⟩
      rw [if_neg vb] at hd
      split at hd
      · rename_i u eu
        split at hd
        · rename_i hbd
          obtain ⟨g1, g2, rfl⟩ := give_ok hd
          refine .inr ⟨by simpa using vb, u, val_ok eu, fun p2 hp2 => ?_⟩
          refine ⟨_, rfl, _, _, _, _, rfl, rfl, SqT.of hp, atI_nat (j := 0) rfl, rfl, _, rfl, iteFb (by simp) ?_⟩
          refine ⟨_, rfl, _, _, _, _, rfl, rfl, SqT.of hp2, atI_nat (j := 0) rfl, rfl, _, rfl, iteFb (by simp) ?_⟩
          refine ⟨_, rfl, _, _, _, rfl, ho, rfl, _, rfl, _, rfl, _, _, _, _, rfl, rfl, SqT.of hp, atI_nat (j := 1) rfl, _, rfl, _, _, _, _, rfl, rfl, SqT.of hp2, atI_nat (j := 1) rfl, ?_⟩
          refine ⟨L.a, v, u, rfl, hbd.1, hbd.2, fun q hq => ?_⟩
          have e1 := Ex.new (o := .tup [.str "int", .int (v + u)]) hq
          have m1 := m.ex e1
          refine ⟨_, rfl, _, _, _, rfl, e1 _ _ ho, rfl, L, M, rfl, m1, g1, ?_⟩
          refine ⟨_, rfl, _, _, _, rfl, e1 _ _ ho, rfl, _, rfl, _, rfl, _, _, _, _, _, rfl, e1 _ _ ho, T.c_Machine, T.n_Machine_store, rfl, _, _, _, rfl, e1 _ _ hs, rfl, _, rfl, ?_⟩
          refine ⟨L.s, L.ln, L.lp, M.so, _, .int (v + u), rfl, m1.so, ⟨q, rfl, upd_same⟩, by omega, wf.len, fun H1 s1 b1 => ?_⟩
          have G1 := (Go.store m1 s1 b1).pre e1
          refine ⟨L, _, c, M.so.nd.length, rfl, G1.m, wf.add _, ?_, ?_, ?_, g2, fun H2 G2 => ?_⟩
          · show (M.so.add _).nd.length ≤ 2000; rw [So.add_len]; omega
          · show _ < (M.so.add _).nd.length; rw [So.add_len]; omega
          · show _ < (M.so.add _).nd.length; rw [So.add_len]; omega
          exact k L H2 (G1.trans G2)
        · cases hd
      · cases hd
    · cases hd
/-! ### thread, raise -/
def spDoTh (K : PySem.W.Frag) : Sp := fun vs H Q E => ∃ (L : Lay) (M : Mm) (i : Nat) (ta : Addr) (T : Th) (sv : V) (ea : Addr) (s : Sm) (e : Ev) (r : Mm.Res), vs = [.ref L.a, .ref ta, sv, .ref ea] ∧ MachAt K H L M ∧ ((∃ a, s = .thr a) ∨ ∃ x, s = .rai x) ∧
  SmAt H sv s ∧ EvAt H ea e ∧ Mm.doM M i T s e = some r ∧ DoRes K H L Q E r
theorem m_do_thread (T : Tx K mg) : MetX P w K mg base 4 (cMachine K) "do_thread" (spDoTh K) := by
  have sc : FnScope ["self", "row", "statement", "nodes", "word", "handler"] ["self", "row", "statement", "nodes"] (defScope s_Machine_do_thread) := ⟨rfl, rfl, rfl, by decide +kernel, rfl, by decide +kernel, by decide +kernel⟩
  refine metX_ T.c_Machine T.m_Machine_do_thread T.f_Machine_do_thread sc (fun _ _ _ _ _ _ us hl => match us, hl with | [_, _, _, _], _ => rfl) (fun vs H Q E h => ?_) (fun cdv A outer s H vs Q E hr h tk => ?_)
  · obtain ⟨_, _, _, _, _, _, _, _, _, _, rfl, _⟩ := h
    rfl
  · obtain ⟨L, M, i, ta, Th, sv, ea, st, e, r, rfl, m, hst, hS, he, hd, k⟩ := h
    obtain ⟨dx, ho⟩ := m.ob
    have hu := hu_of hr
    refine ⟨_, pss_cons (ps_set (i := 4) sc.nd rfl (Or.inl rfl) (pe_ix ix_tup (pv 2) pe_int (fun _ _ => rfl)))
      (pss_one (ps_if (pt_cmpR op_eq (pv 4) pe_str (nomark _)) (pss_one (ps_expr (pe_mt (m_start T) hr (pv 0) (pa_cons (pe_ix ix_tup (pv 2) pe_int (fun _ _ => rfl)) (pa_cons (pv 3) pa_nil)))))
        (pss_one (ps_if (pt_cmpR op_eq (pv 4) pe_str (nomark _)) pss_never
        (pss_one (ps_if (pt_cmpR op_eq (pv 4) pe_str (nomark _)) pss_never
        (pss_one (ps_if (pt_cmpR op_eq (pv 4) pe_str (nomark _)) (pss_one (L2N.ps_raise rfl tk (pmk_Raises T hr (pe_dget hu (pv 3) (pe_ix ix_tup (pv 2) pe_int (fun _ _ => rfl)) (fun _ _ => rfl))))) pss_nil)))))))), ?_⟩
    rcases hst with ⟨a, rfl⟩ | ⟨x, rfl⟩
    · obtain ⟨q, xa, rfl, hq, hs⟩ := hS
      simp only [Mm.doM] at hd
      split at hd
      · cases hd
        refine ⟨_, rfl, _, _, _, _, rfl, rfl, SqT.of hq, atI_nat (j := 0) rfl, ?_⟩
        refine ⟨_, rfl, rfl, _, rfl, ifT rfl ?_⟩
        exact ⟨_, rfl, _, _, _, rfl, ho, rfl, _, rfl, _, _, _, _, rfl, rfl, SqT.of hq, atI_nat (j := 1) rfl, _, rfl, L, M, ea, xa, a, e, rfl, m, hs, he, ‹_›, k⟩
      · cases hd
    · obtain ⟨q, rfl, hq⟩ := hS
      simp only [Mm.doM] at hd
      split at hd
      · rename_i n hn
        cases hd
        obtain ⟨n1, n2⟩ := node_ok hn
        refine ⟨_, rfl, _, _, _, _, rfl, rfl, SqT.of hq, atI_nat (j := 0) rfl, ?_⟩
        refine ⟨_, rfl, rfl, _, rfl, ifF (fun y => absurd (V.str.inj y) (by decide +kernel)) ?_⟩
        refine ⟨_, rfl, rfl, _, rfl, ifF (fun y => absurd (V.str.inj y) (by decide +kernel)) ?_⟩
        refine ⟨_, rfl, rfl, _, rfl, ifF (fun y => absurd (V.str.inj y) (by decide +kernel)) ?_⟩
        refine ⟨_, rfl, rfl, _, rfl, ifT rfl ?_⟩
        exact ⟨_, rfl, _, rfl, _, _, _, _, rfl, rfl, SqT.of hq, atI_nat (j := 1) rfl, ea, _, rfl, ev_get he n1, ex_in k⟩
      · cases hd
end
end Lw
namespace Lw
open PySem PySem.Spec PyProof.Rows L2
section
variable {P : Program} {w : World} {K : PySem.W.Frag} {mg : Str → Option Value} {base : Heap}
def spDo (K : PySem.W.Frag) : Sp := fun vs H Q E => ∃ (L : Lay) (M : Mm) (i : Nat) (ta lf fa : Addr) (T : Th) (s : Sm) (e : Ev) (r : Mm.Res), vs = [.ref L.a, .ref ta, .ref fa] ∧ MachAt K H L M ∧ M.so.Wf ∧ M.so.nd.length ≤ 2000 ∧ L.ts[i]? = some (ta, lf) ∧ M.rows[i]? = some T ∧
  FrAt K H (.ref fa) (s, e) ∧ Mm.doM M i T s e = some r ∧ DoRes K H L Q E r
theorem DoRes.imp {K : PySem.W.Frag} {H : Hp} {L : Lay} {Q Q' : VK} {E E' : XK} (hq : ∀ H', Q .non H' → Q' .non H') (he : ∀ c d H', E c d H' → E' c d H') : ∀ {r : Mm.Res}, DoRes K H L Q E r → DoRes K H L Q' E' r
  | .ok _, h => fun L' H' g => hq _ (h L' H' g)
  | .wait _, h => fun d H' h1 h2 h3 => he _ _ _ (h d H' h1 h2 h3)
  | .rai _, h => fun d H' h1 h2 h3 => he _ _ _ (h d H' h1 h2 h3)
theorem sne {a b : Str} (h : a ≠ b) : ¬ (V.str a = V.str b) := fun y => h (V.str.inj y)
theorem m_do (T : Tx K mg) : MetX P w K mg base 6 (cMachine K) "do" (spDo K) := by
  have sc : FnScope ["self", "row", "frame", "statement", "nodes", "word", "name"] ["self", "row", "frame"] (defScope s_Machine_do) := ⟨rfl, rfl, rfl, by decide +kernel, rfl, by decide +kernel, by decide +kernel⟩
  refine metX_ T.c_Machine T.m_Machine_do T.f_Machine_do sc (fun _ _ _ _ _ _ us hl => match us, hl with | [_, _, _], _ => rfl) (fun vs H Q E h => ?_) (fun cdv A outer s H vs Q E hr h tk => ?_)
  · obtain ⟨_, _, _, _, _, _, _, _, _, _, rfl, _⟩ := h
    rfl
  · obtain ⟨L, M, i, ta, lf, fa, Th, st, e, r, rfl, m, wf, hl, hi, hT, hF, hd, k⟩ := h
    obtain ⟨fa', df, sv, ea, hfa, g5, hS, he⟩ := hF
    cases hfa
    obtain ⟨dx, ho⟩ := m.ob
    obtain ⟨ds, hs⟩ := m.so.ob
    obtain ⟨_, _, hi', ⟨dt, g1⟩, xs, g2, g3⟩ := m.thr hT
    rw [hi] at hi'
    cases hi'
    have lx : xs.length = Th.fr.length := by rw [pr_len g3, List.length_reverse]
    have hu := hu_of hr
    refine ⟨_, pss_cons (ps_set (i := 3) sc.nd rfl (Or.inl rfl) (pe_fld (pv 2) rfl))
      (pss_cons (ps_set (i := 4) sc.nd rfl (Or.inr rfl) (pe_fld (pv 2) rfl))
      (pss_cons (ps_set (i := 5) sc.nd rfl (Or.inl rfl) (pe_ix ix_tup (pv 3) pe_int (fun _ _ => rfl)))
      (pss_one (ps_if (pt_cmpR op_eq (pv 5) pe_str (nomark _))
        (pss_one (ps_expr (pe_mt (m_push T) hr (pv 0) (pa_cons (pv 1) (pa_cons (pe_lst (pa_cons (pe_mk (k_frame T) hr (pa_cons (pe_ix ix_tup (pv 3) pe_int (fun _ _ => rfl)) (pa_cons (pv 4) (pa_cons pe_non pa_nil))))
          (pa_cons (pe_mk (k_frame T) hr (pa_cons (pe_ix ix_tup (pv 3) pe_int (fun _ _ => rfl)) (pa_cons (pv 4) (pa_cons pe_non pa_nil)))) pa_nil))) pa_nil)))))
        (pss_one (ps_if (pt_cmpR op_eq (pv 5) pe_str (nomark _))
          (pss_cons (ps_expr (pe_mt (m_room T) hr (pv 0) (pa_cons pe_int pa_nil)))
          (pss_one (ps_expr (pe_mt (m_mput T) hr (pv 0) (pa_cons (pv 1) (pa_cons (pe_ix ix_tup (pv 3) pe_int (fun _ _ => rfl)) (pa_cons (pe_c (f_with_node T) hr (pa_cons (pv 4) (pa_cons (pe_ix ix_tup (pv 3) pe_int (fun _ _ => rfl)) (pa_cons (pe_mt0 (m_variable T) hr (pe_fld (pv 0) rfl)) pa_nil)))) pa_nil)))))))
        (pss_one (ps_if (pt_cmpR op_eq (pv 5) pe_str (nomark _))
          (pss_one (ps_expr (pe_mt (m_muni T) hr (pv 0) (pa_cons (pe_dget hu (pv 4) (pe_ix ix_tup (pv 3) pe_int (fun _ _ => rfl)) (fun _ _ => rfl)) (pa_cons (pe_dget hu (pv 4) (pe_ix ix_tup (pv 3) pe_int (fun _ _ => rfl)) (fun _ _ => rfl)) pa_nil)))))
        (pss_one (ps_if (pt_cmpR op_in_seq (pv 5) (pe_tup (pa_cons pe_str (pa_cons pe_str (pa_cons pe_str (pa_cons pe_str pa_nil))))) rfl)
          (pss_one (ps_expr (pe_mt (m_do_value T) hr (pv 0) (pa_cons (pv 3) (pa_cons (pv 4) pa_nil)))))
        (pss_one (ps_if (pt_cmpR op_in_seq (pv 5) (pe_tup (pa_cons pe_str (pa_cons pe_str pa_nil))) rfl)
          (pss_one (ps_expr (pe_mtX (m_do_test T) tk hr (pv 0) (pa_cons (pv 1) (pa_cons (pv 3) (pa_cons (pv 4) pa_nil))))))
        (pss_one (ps_if (pt_cmpR op_eq (pv 5) pe_str (nomark _)) pss_never
        (pss_one (ps_if (pt_cmpR op_eq (pv 5) pe_str (nomark _))
          (pss_one (ps_expr (pe_mtX (m_do_operator T) tk hr (pv 0) (pa_cons (pe_ix ix_tup (pv 3) pe_int (fun _ _ => rfl)) (pa_cons
            (pe_lc (own := [("name", 6)]) (g := gName 6) (tt := tYes) (te := tDGet (tVar 4) (tVar 6)) rfl sc.nd (pi_tup (pe_slice sl_tup (pv 3) (po_some pe_int) po_none))
              (blkOk_by (N := ["self", "row", "frame", "statement", "nodes", "word", "name"]) (sc := defScope s_Machine_do) (by decide +kernel)) (fun _ _ _ _ _ => pg_name (i := 6) sc.nd rfl (Or.inl rfl)) (fun _ _ _ _ _ => pts_nil)
              (fun _ _ _ _ _ => pe_dget hu (pv 4) (pv 6) (fun _ _ => rfl))) pa_nil)))))
          (pss_one (ps_expr (pe_mtX (m_do_thread T) tk hr (pv 0) (pa_cons (pv 1) (pa_cons (pv 3) (pa_cons (pv 4) pa_nil)))))))))))))))))))))), ?_⟩
    refine ⟨_, rfl, _, _, _, _, _, rfl, g5, T.c_Frame, T.n_Frame_statement, rfl, _, rfl, _, _, _, _, _, rfl, g5, T.c_Frame, T.n_Frame_nodes, rfl, ?_⟩
    have dk : decide (V.str (Str.ofString "seq") = V.str (Str.ofString "seq")) = true := decide_eq_true rfl
    cases st with
    | skip => simp [Mm.doM] at hd
    | cho a b => simp [Mm.doM] at hd
    | seq a b =>
      obtain ⟨q, xa, xb, rfl, hq, hsa, hsb⟩ := hS
      simp only [Mm.doM] at hd
      obtain ⟨p1, rfl⟩ := push_ok hd
      simp only [List.length_cons, List.length_nil] at p1
      refine ⟨_, rfl, _, _, _, _, rfl, rfl, SqT.of hq, atI_nat (j := 0) rfl, ?_⟩
      refine ⟨_, rfl, rfl, _, rfl, ifT rfl ?_⟩
      refine ⟨_, rfl, _, _, _, rfl, ho, rfl, _, rfl, ?_⟩
      refine ⟨_, rfl, _, _, _, _, rfl, rfl, SqT.of hq, atI_nat (j := 2) rfl, _, rfl, ?_⟩
      intro f2 d2 hf2 hd2 ne2
      refine ⟨f2, d2, xb, .ref ea, rfl, upd_same, fun H2 j2 b2 => ⟨rfl, ?_⟩⟩
      have x2 := made_ex hf2 hd2 ne2 b2
      refine ⟨_, rfl, _, _, _, _, rfl, rfl, SqT.of (x2 _ _ hq), atI_nat (j := 1) rfl, _, rfl, ?_⟩
      intro f1 d1 hf1 hd1 ne1
      refine ⟨f1, d1, xa, .ref ea, rfl, upd_same, fun H3 j3 b3 => ⟨rfl, sz (by simp), fun fl hfl => ?_⟩⟩
      have x3 := made_ex hf1 hd1 ne1 b3
      have e4 := Ex.new (o := .lst [.ref f2, .ref f1]) hfl
      have x4 := (x2.trans x3).trans e4
      refine ⟨L.a, ta, dt, lf, fl, _, _, xs, [.ref f2, .ref f1], rfl, x4 _ _ g1, x4 _ _ g2, upd_same, by simp; omega, ?_⟩
      have im : Imm H (upd (upd H3 fl (.lst [.ref f2, .ref f1])) lf (.lst (xs ++ [.ref f2, .ref f1]))) := x4.imm.trans (Imm.set (x4 _ _ g2) imm_lst)
      refine k L _ (Go.push m hi g1 g3 (x4.but.trans (But.set (by simp))) upd_same ?_)
      refine .cons ⟨f2, d2, xb, ea, rfl, ?_, hsb.imm im, im _ _ he trivial⟩ (.cons ⟨f1, d1, xa, ea, rfl, ?_, hsa.imm im, im _ _ he trivial⟩ .nil)
      · rw [upd_ne (fun z => by rw [z, g2] at hf2; cases hf2)]
        exact e4 _ _ (x3 _ _ j2)
      · rw [upd_ne (fun z => by rw [z, x2 _ _ g2] at hf1; cases hf1)]
        exact e4 _ _ j3
    | loc z a =>
      obtain ⟨q, xa, rfl, hq, hsa⟩ := hS
      simp only [Mm.doM] at hd
      split at hd
      · rename_i hc
        obtain ⟨c1, c2⟩ := Bool.and_eq_true_iff.mp hc
        replace c1 : M.so.nd.length + 1 ≤ 2000 := of_decide_eq_true c1
        replace c2 := of_decide_eq_true c2
        obtain ⟨p1, rfl⟩ := push_ok hd
        simp only [List.length_cons, List.length_nil] at p1
        refine ⟨_, rfl, _, _, _, _, rfl, rfl, SqT.of hq, atI_nat (j := 0) rfl, ?_⟩
        refine ⟨_, rfl, rfl, _, rfl, ifF (sne (by decide +kernel)) ?_⟩
        refine ⟨_, rfl, rfl, _, rfl, ifT rfl ?_⟩
        refine ⟨_, rfl, _, _, _, rfl, ho, rfl, L, M, rfl, m, c1, ?_⟩
        refine ⟨_, rfl, _, _, _, rfl, ho, rfl, _, rfl, _, rfl, _, _, _, _, rfl, rfl, SqT.of hq, atI_nat (j := 2) rfl, _, rfl, _, rfl, _, _, _, _, rfl, rfl, SqT.of hq, atI_nat (j := 1) rfl, ?_⟩
        refine ⟨_, rfl, _, _, _, _, _, rfl, ho, T.c_Machine, T.n_Machine_store, rfl, _, _, _, rfl, hs, rfl, ?_⟩
        refine ⟨L.s, L.ln, L.lp, M.so, rfl, m.so, by omega, wf.len, fun H1 s1 b1 => ?_⟩
        have G1 := Go.store m s1 b1
        have i1 : Imm H H1 := m.imm b1 (by intro x hx; simp at hx; rcases hx with h | h <;> (rw [h]; simp [Lay.own]))
        refine ⟨ea, e, z, M.so.nd.length, rfl, i1 _ _ he trivial, by omega, fun ea2 H2 he2 x2 => ?_⟩
        have m2 := G1.m.ex x2
        obtain ⟨_, _, hi2, ⟨dt2, k1⟩, xs2, k2, k3⟩ := m2.thr (i := i) (T := Th) hT
        rw [hi] at hi2
        cases hi2
        have lx2 : xs2.length = Th.fr.length := by rw [pr_len k3, List.length_reverse]
        refine ⟨L, _, ta, dt2, lf, ea2, _, _, xa, xs2, rfl, m2, k1, k2, by omega, fun p' dp H' j1 j2 j3 => ?_⟩
        have im : Imm H2 H' := m2.imm j3 (by intro x hx; rw [List.mem_singleton.mp hx]; exact mem_ix (Lay.t2 hi))
        exact k L H' ((G1.post x2).trans (Go.push m2 hi k1 k3 j3 j2 (.cons ⟨p', dp, xa, ea2, rfl, j1, ((hsa.imm i1).imm x2.imm).imm im, im _ _ he2 trivial⟩ .nil)))
      · cases hd
    | bind x y =>
      obtain ⟨q, rfl, hq⟩ := hS
      simp only [Mm.doM] at hd
      split at hd
      · rename_i a b ha hb
        split at hd
        · rename_i hf
          cases hd
          obtain ⟨a1, a2⟩ := node_ok ha
          obtain ⟨b1, b2⟩ := node_ok hb
          refine ⟨_, rfl, _, _, _, _, rfl, rfl, SqT.of hq, atI_nat (j := 0) rfl, ?_⟩
          refine ⟨_, rfl, rfl, _, rfl, ifF (sne (by decide +kernel)) ?_⟩
          refine ⟨_, rfl, rfl, _, rfl, ifF (sne (by decide +kernel)) ?_⟩
          refine ⟨_, rfl, rfl, _, rfl, ifT rfl ?_⟩
          refine ⟨_, rfl, _, _, _, rfl, ho, rfl, _, rfl, _, rfl, _, _, _, _, rfl, rfl, SqT.of hq, atI_nat (j := 1) rfl, ea, _, rfl, ev_get he a1, _, rfl, _, rfl, _, _, _, _, rfl, rfl, SqT.of hq, atI_nat (j := 2) rfl, ea, _, rfl, ev_get he b1, ?_⟩
          exact ⟨L, M, a, b, rfl, m, wf, hl, a2, b2, freeB_ok hf, fun H' g => k L H' g⟩
        · cases hd
      · cases hd
    | int x n =>
      have hS' := hS
      obtain ⟨q, rfl, hq⟩ := hS
      simp only [Mm.doM] at hd
      split at hd
      · rename_i a ha
        refine ⟨_, rfl, _, _, _, _, rfl, rfl, SqT.of hq, atI_nat (j := 0) rfl, ?_⟩
        refine ⟨_, rfl, rfl, _, rfl, ifF (sne (by decide +kernel)) ?_⟩
        refine ⟨_, rfl, rfl, _, rfl, ifF (sne (by decide +kernel)) ?_⟩
        refine ⟨_, rfl, rfl, _, rfl, ifF (sne (by decide +kernel)) ?_⟩
        refine ⟨_, rfl, sz (by simp), fun u1 hu1 => ⟨_, _, rfl, .inr (SqT.of upd_same), rfl, rfl, _, rfl, iteTb (by decide +kernel) ?_⟩⟩
        have e1 := Ex.new (o := .tup [.str "int", .str "atom", .str "tuple", .str "proc"]) hu1
        obtain ⟨g1', g2', rfl⟩ := give_ok hd
        exact ⟨_, rfl, _, _, _, rfl, e1 _ _ ho, rfl, _, rfl, _, rfl, L, M, ea, _, x, n, e, a, _, rfl, m.ex e1, wf, hl, hS'.imm e1.imm, e1 _ _ he, ha, hd, fun L' H' g => k L' H' (Go.pre e1 g)⟩
      · cases hd
    | case x n sa sb =>
      have hS' := hS
      obtain ⟨q, q2, xa, xb, rfl, hq, _⟩ := hS
      refine ⟨_, rfl, _, _, _, _, rfl, rfl, SqT.of hq, atI_nat (j := 0) rfl, ?_⟩
      refine ⟨_, rfl, rfl, _, rfl, ifF (sne (by decide +kernel)) ?_⟩
      refine ⟨_, rfl, rfl, _, rfl, ifF (sne (by decide +kernel)) ?_⟩
      refine ⟨_, rfl, rfl, _, rfl, ifF (sne (by decide +kernel)) ?_⟩
      refine ⟨_, rfl, sz (by simp), fun u1 hu1 => ⟨_, _, rfl, .inr (SqT.of upd_same), rfl, rfl, _, rfl, iteFb (by decide +kernel) ?_⟩⟩
      have e1 := Ex.new (o := .tup [.str "int", .str "atom", .str "tuple", .str "proc"]) hu1
      refine ⟨_, rfl, sz (by simp), fun u2 hu2 => ⟨_, _, rfl, .inr (SqT.of upd_same), rfl, rfl, _, rfl, iteTb (by decide +kernel) ?_⟩⟩
      have e2 := e1.trans (Ex.new (o := .tup [.str "if", .str "case"]) hu2)
      exact ⟨_, rfl, _, _, _, rfl, e2 _ _ ho, rfl, _, rfl, _, rfl, _, rfl, L, M, i, ta, lf, Th, _, ea, x, n, sa, sb, e, r, rfl, m.ex e2, wf, hi, hT, hS'.imm e2.imm, e2 _ _ he, hd, (k.pre e2).imp (fun _ h => h) (fun _ _ _ h => h)⟩
    | add x y z =>
      obtain ⟨q, rfl, hq⟩ := hS
      simp only [Mm.doM] at hd
      split at hd
      · rename_i c a b hc ha hb
        obtain ⟨c1, c2⟩ := node_ok hc
        obtain ⟨a1, a2⟩ := node_ok ha
        obtain ⟨b1, b2⟩ := node_ok hb
        refine ⟨_, rfl, _, _, _, _, rfl, rfl, SqT.of hq, atI_nat (j := 0) rfl, ?_⟩
        refine ⟨_, rfl, rfl, _, rfl, ifF (sne (by decide +kernel)) ?_⟩
        refine ⟨_, rfl, rfl, _, rfl, ifF (sne (by decide +kernel)) ?_⟩
        refine ⟨_, rfl, rfl, _, rfl, ifF (sne (by decide +kernel)) ?_⟩
        refine ⟨_, rfl, sz (by simp), fun u1 hu1 => ⟨_, _, rfl, .inr (SqT.of upd_same), rfl, rfl, _, rfl, iteFb (by decide +kernel) ?_⟩⟩
        have e1 := Ex.new (o := .tup [.str "int", .str "atom", .str "tuple", .str "proc"]) hu1
        refine ⟨_, rfl, sz (by simp), fun u2 hu2 => ⟨_, _, rfl, .inr (SqT.of upd_same), rfl, rfl, _, rfl, iteFb (by decide +kernel) ?_⟩⟩
        have e2 := e1.trans (Ex.new (o := .tup [.str "if", .str "case"]) hu2)
        refine ⟨_, rfl, rfl, _, rfl, ifF (sne (by decide +kernel)) ?_⟩
        refine ⟨_, rfl, rfl, _, rfl, ifT rfl ?_⟩
        refine ⟨_, rfl, _, _, _, rfl, e2 _ _ ho, rfl, _, rfl, _, _, _, _, rfl, rfl, SqT.of (e2 _ _ hq), atI_nat (j := 1) rfl, ?_⟩
        refine ⟨_, rfl, _, rfl, _, _, rfl, SqT.of (e2 _ _ hq), ?_, fun u3 hu3 => ?_⟩
        · exact fun h => absurd (show (2 : Nat) = 0 from h.1) (by decide)
        have e3 := e2.trans (Ex.new (o := .tup (cutV [V.str "op", .str "+", .str x, .str y, .str z] (some 2) none)) hu3)
        refine ⟨u3, rfl, ⟨_, SqT.of upd_same⟩, fun D hD => ?_⟩
        have nD := none1 hD
        have cv : cutV [V.str "op", .str "+", .str x, .str y, .str z] (some 2) none = [V.str x, .str y, .str z] := rfl
        rw [cv]
        refine lc_it (walk_tup (K := K) (a := u3) (xs := [V.str x, .str y, .str z])) (fun i H' => But [D] (upd (upd (upd H u1 _) u2 _) u3 _) H' ∧ H' D = some (.lst ([nV c, nV a, nV b].take i))) ⟨(Ex.new hD).but, upd_same⟩ (fun i H' _ p => SqT.of (p.1.exN nD _ _ upd_same)) (fun i w H' H2 hi p y => ?_) (fun H2 p => ?_)
        · obtain ⟨rfl, hx⟩ := y
          obtain ⟨b', hD2⟩ := p
          have xb := b'.exN nD
          have hi' : i < 3 := hi
          have he3 : EvAt H2 ea e := xb _ _ (e3 _ _ he)
          match i, hi', hx, hD2 with
          | 0, _, hx, hD2 =>
            cases hx
            exact ⟨rfl, _, rfl, _, rfl, ea, _, rfl, ev_get he3 c1, _, hD2, szl (by simp), b'.trans (But.set (by simp)), upd_same⟩
          | 1, _, hx, hD2 =>
            cases hx
            exact ⟨rfl, _, rfl, _, rfl, ea, _, rfl, ev_get he3 a1, _, hD2, szl (by simp), b'.trans (But.set (by simp)), upd_same⟩
          | 2, _, hx, hD2 =>
            cases hx
            exact ⟨rfl, _, rfl, _, rfl, ea, _, rfl, ev_get he3 b1, _, hD2, szl (by simp), b'.trans (But.set (by simp)), upd_same⟩
        · obtain ⟨b', hD2⟩ := p
          have xb := e3.trans (b'.exN nD)
          refine ⟨L, M, D, c, a, b, r, rfl, m.ex xb, wf, hl, hD2, c2, a2, b2, hd, (k.pre xb).imp (fun _ h => h) (fun _ _ _ h => h)⟩
      · cases hd
    | thr a =>
      have hS' := hS
      obtain ⟨q, xa, rfl, hq, _⟩ := hS
      refine ⟨_, rfl, _, _, _, _, rfl, rfl, SqT.of hq, atI_nat (j := 0) rfl, ?_⟩
      refine ⟨_, rfl, rfl, _, rfl, ifF (sne (by decide +kernel)) ?_⟩
      refine ⟨_, rfl, rfl, _, rfl, ifF (sne (by decide +kernel)) ?_⟩
      refine ⟨_, rfl, rfl, _, rfl, ifF (sne (by decide +kernel)) ?_⟩
      refine ⟨_, rfl, sz (by simp), fun u1 hu1 => ⟨_, _, rfl, .inr (SqT.of upd_same), rfl, rfl, _, rfl, iteFb (by decide +kernel) ?_⟩⟩
      have e1 := Ex.new (o := .tup [.str "int", .str "atom", .str "tuple", .str "proc"]) hu1
      refine ⟨_, rfl, sz (by simp), fun u2 hu2 => ⟨_, _, rfl, .inr (SqT.of upd_same), rfl, rfl, _, rfl, iteFb (by decide +kernel) ?_⟩⟩
      have e2 := e1.trans (Ex.new (o := .tup [.str "if", .str "case"]) hu2)
      refine ⟨_, rfl, rfl, _, rfl, ifF (sne (by decide +kernel)) ?_⟩
      refine ⟨_, rfl, rfl, _, rfl, ifF (sne (by decide +kernel)) ?_⟩
      exact ⟨_, rfl, _, _, _, rfl, e2 _ _ ho, rfl, _, rfl, _, rfl, _, rfl, L, M, i, ta, Th, _, ea, .thr a, e, r, rfl, m.ex e2, .inl ⟨_, rfl⟩, hS'.imm e2.imm, e2 _ _ he, hd, (k.pre e2).imp (fun _ h => h) (fun _ _ _ h => h)⟩
    | rai x =>
      have hS' := hS
      obtain ⟨q, rfl, hq⟩ := hS
      refine ⟨_, rfl, _, _, _, _, rfl, rfl, SqT.of hq, atI_nat (j := 0) rfl, ?_⟩
      refine ⟨_, rfl, rfl, _, rfl, ifF (sne (by decide +kernel)) ?_⟩
      refine ⟨_, rfl, rfl, _, rfl, ifF (sne (by decide +kernel)) ?_⟩
      refine ⟨_, rfl, rfl, _, rfl, ifF (sne (by decide +kernel)) ?_⟩
      refine ⟨_, rfl, sz (by simp), fun u1 hu1 => ⟨_, _, rfl, .inr (SqT.of upd_same), rfl, rfl, _, rfl, iteFb (by decide +kernel) ?_⟩⟩
      have e1 := Ex.new (o := .tup [.str "int", .str "atom", .str "tuple", .str "proc"]) hu1
      refine ⟨_, rfl, sz (by simp), fun u2 hu2 => ⟨_, _, rfl, .inr (SqT.of upd_same), rfl, rfl, _, rfl, iteFb (by decide +kernel) ?_⟩⟩
      have e2 := e1.trans (Ex.new (o := .tup [.str "if", .str "case"]) hu2)
      refine ⟨_, rfl, rfl, _, rfl, ifF (sne (by decide +kernel)) ?_⟩
      refine ⟨_, rfl, rfl, _, rfl, ifF (sne (by decide +kernel)) ?_⟩
      exact ⟨_, rfl, _, _, _, rfl, e2 _ _ ho, rfl, _, rfl, _, rfl, _, rfl, L, M, i, ta, Th, _, ea, .rai x, e, r, rfl, m.ex e2, .inr ⟨_, rfl⟩, hS'.imm e2.imm, e2 _ _ he, hd, (k.pre e2).imp (fun _ h => h) (fun _ _ _ h => h)⟩
end
end Lw
namespace Lw
open PySem PySem.Spec PyProof.Rows L2
theorem last_snoc {us : List V} {v : V} : (us ++ [v])[(us ++ [v]).length - 1]? = some v := by
  rw [List.length_append]
  simp
theorem drop_snoc {us : List V} {v : V} : (us ++ [v]).dropLast = us := by simp
theorem snoc_of {us : List V} (h : us ≠ []) : ∃ ws v, us = ws ++ [v] := ⟨us.dropLast, us.getLast h, (List.dropLast_concat_getLast h).symm⟩
section
variable {P : Program} {w : World} {K : PySem.W.Frag} {mg : Str → Option Value} {base : Heap}
def spThrow (K : PySem.W.Frag) : Sp := fun vs H Q _ => ∃ (L : Lay) (M : Mm) (i : Nat) (ta lf : Addr) (T : Th) (n : Nat), vs = [.ref L.a, .ref ta, nV n] ∧ MachAt K H L M ∧ L.ts[i]? = some (ta, lf) ∧ M.rows[i]? = some T ∧ ∀ H', Go K H L H' L (M.row i ⟨[], T.wt, some n⟩) → Q .non H'
theorem m_throw (T : Tx K mg) : MetH P w K mg base 1 (cMachine K) "throw" (spThrow K) := by
  have sc : FnScope ["self", "row", "node", "frame", "nodes"] ["self", "row", "node"] (defScope s_Machine_throw) := ⟨rfl, rfl, rfl, by decide +kernel, rfl, by decide +kernel, by decide +kernel⟩
  refine metH_ T.c_Machine T.m_Machine_throw T.f_Machine_throw sc (fun _ _ _ _ _ _ us hl => match us, hl with | [_, _, _], _ => rfl) (fun vs H Q E h => ?_) (fun cdv A outer s H vs Q E p hot hr h => ?_)
  · obtain ⟨_, _, _, _, _, _, _, rfl, _⟩ := h
    rfl
  · obtain ⟨L, M, i, ta, lf, Th, n, rfl, m, hi, hT, k⟩ := h
    obtain ⟨_, _, hi', ⟨dt, g1⟩, xs, g2, g3⟩ := m.thr hT
    rw [hi] at hi'
    cases hi'
    have ne : ta ≠ lf := ne_ix m.nd (Lay.t1 hi) (Lay.t2 hi) (by omega)
    refine ⟨_, pss_cons (ps_while PassesOwn.never (pt_truth (pe_fld (pv 1) rfl) (by intro _; rfl))
        (pss_cons (ps_set (i := 3) sc.nd rfl (Or.inl rfl) (pe_bm0 PySem.F.plainAttrs_list PySem.F.slot_list_pop PySem.F.type_list_pop mt_pop (pe_fld (pv 1) rfl)))
        (pss_one (ps_if (pt_cmp (pc_notN (pe_fld (pv 3) rfl))) pss_never pss_nil))))
      (pss_one (ps_fld (pv 1) (pv 2) rfl)), ?_⟩
    let W : Nat → L2.St → Hp → Prop := fun m σ H' => But [lf] H H' ∧ (∃ y3 y4, σ = [some (.ref L.a), some (.ref ta), some (nV n), y3, y4]) ∧ ∃ us, us.length = m ∧ H' lf = some (.lst us) ∧ ∀ v ∈ us, ∃ f, FrAt K H v f
    have inF : ∀ v ∈ xs, ∃ f, FrAt K H v f := fun v hv => by
      obtain ⟨j, hj, e⟩ := List.getElem_of_mem hv
      have hj2 : j < Th.fr.reverse.length := by rw [← pr_len g3]; exact hj
      obtain ⟨u, h1, h2⟩ := pr_at g3 (List.getElem?_eq_getElem hj2)
      rw [List.getElem?_eq_getElem hj, e] at h1
      cases h1
      exact ⟨_, h2⟩
    refine ⟨W, ⟨xs.length, But.refl H, ⟨_, _, rfl⟩, xs, rfl, g2, inF⟩, ?_⟩
    rintro j σ H1 ⟨b, ⟨y3, y4, rfl⟩, us, hl, h1, hf⟩
    have t1 := b _ _ g1 (by simp; exact ne)
    have im : Imm H H1 := m.imm b (by intro x hx; rw [List.mem_singleton.mp hx]; exact mem_ix (Lay.t2 hi))
    by_cases he : us = []
    · subst he
      refine ⟨_, rfl, _, _, _, _, _, rfl, t1, T.c_Thread, T.n_Thread_frames, rfl, false, .inl ⟨_, SqL.of h1, rfl⟩, iteF ?_⟩
      refine ⟨_, rfl, _, rfl, _, _, _, _, rfl, t1, T.c_Thread, T.n_Thread_raised, (by decide : (3 : Nat) < 1000), ?_⟩
      refine k _ (Go.th m hi ⟨⟨dt, by rw [upd_same]; rfl⟩, ⟨[], by rw [upd_ne ne.symm]; exact h1, .nil⟩⟩ ((b.mono (by simp)).trans (But.set (by simp))))
    · obtain ⟨ws, v, rfl⟩ := snoc_of he
      obtain ⟨f, p', df, sv, ea, rfl, f1, _⟩ := hf v (by simp)
      have f2 := im _ _ f1 rfl
      refine ⟨_, rfl, _, _, _, _, _, rfl, t1, T.c_Thread, T.n_Thread_frames, rfl, true, .inl ⟨_, SqL.of h1, by cases ws <;> rfl⟩, iteT ⟨fun σ' H' => ∃ m', m' < j ∧ W m' σ' H', fun _ _ h => h, ?_⟩⟩
      refine ⟨_, rfl, _, _, _, _, _, rfl, t1, T.c_Thread, T.n_Thread_frames, rfl, .inl ⟨rfl, _, SqL.of h1⟩, _, _, _, rfl, rfl, h1, last_snoc, ?_⟩
      rw [drop_snoc]
      have nl : p' ≠ lf := ne_of f2 h1 (fun z => nomatch z)
      refine ⟨_, rfl, _, _, _, _, _, rfl, by rw [upd_ne nl]; exact f2, T.c_Frame, T.n_Frame_handles, rfl, _, rfl, ifnF rfl ?_⟩
      refine ⟨ws.length, by rw [← hl]; simp, b.trans (But.set (by simp)), ⟨_, _, rfl⟩, ws, rfl, upd_same, fun v hv => hf v (by simp [hv])⟩
def spFire (K : PySem.W.Frag) : Sp := fun vs H Q _ => ∃ (L : Lay) (M : Mm), vs = [.ref L.a] ∧ MachAt K H L M ∧ M.Ok ∧ ∀ L' H', Go K H L H' L' M → Q (.bl false) H'
theorem m_fire (T : Tx K mg) : Met P w K mg base 5 (cMachine K) "fire" (spFire K) := by
  have sc : FnScope ["self", "wanted", "thread", "node", "kept", "full", "trigger"] ["self"] (defScope s_Machine_fire) := ⟨rfl, rfl, rfl, by decide +kernel, rfl, by decide +kernel, by decide +kernel⟩
  refine met_ T.c_Machine T.m_Machine_fire T.f_Machine_fire sc (fun _ _ _ _ _ _ us hl => match us, hl with | [_], _ => rfl) (fun vs H Q E h => ?_) (fun cdv A outer s H vs Q E hr h => ?_)
  · obtain ⟨_, _, rfl, _⟩ := h
    rfl
  · obtain ⟨L, M, rfl, m, ok, k⟩ := h
    obtain ⟨dx, ho⟩ := m.ob
    have hu := hu_of hr
    refine ⟨_, pss_cons (ps_set (i := 1) sc.nd rfl (Or.inl rfl) pe_dnewK)
      (pss_cons (ps_for PassesOwn.never rfl (pi_range1 (by rfl) T.z_range (pa_cons (pe_callB call_len_seq (by rfl) T.z_len PySem.boot_len (pa_cons (pe_fld (pv 0) rfl) pa_nil)) pa_nil)) (pg_name (i := 2) sc.nd rfl (Or.inl rfl))
        (pss_cons (ps_set (i := 3) sc.nd rfl (Or.inl rfl) (pe_mt (m_waits_for T) hr (pv 0) (pa_cons (pv 2) pa_nil)))
        (pss_one (ps_if (pt_cmp (pc_notN (pv 3))) (pss_one (ps_dput hu (pv 1) (pv 3) pe_bl rfl)) pss_nil))))
      (pss_cons (ps_set (i := 4) sc.nd rfl (Or.inl rfl) (pe_lst pa_nil))
      (pss_cons (ps_set (i := 5) sc.nd rfl (Or.inl rfl) pe_bl)
      (pss_cons (ps_for PassesOwn.never rfl (pi_list (pe_fld (pv 0) rfl)) (pg_name (i := 6) sc.nd rfl (Or.inl rfl)) pss_never)
      (pss_cons (ps_fld (pv 0) (pv 4) rfl)
      (pss_one (ps_ret (pv 5)))))))), ?_⟩
    have hl : (L.ts.map fun p => V.ref p.1).length = M.rows.length := by rw [List.length_map, m.len]
    have ht := ok.th
    intro D hD
    have nD := none1 hD
    have e0 := Ex.new (o := .dK []) hD
    refine ⟨_, rfl, _, _, _, _, _, rfl, e0 _ _ ho, T.c_Machine, T.n_Machine_rows, rfl, _, _, rfl, .inl (SqL.of (e0 _ _ m.rw_)), _, rfl, by omega, by omega, ?_⟩
    rw [hl, Int.toNat_natCast]
    refine for_it (walk_range (lo := 0) (n := M.rows.length)) (fun i σ H' => But [D] H H' ∧ (∃ y2 y3 y4 y5 y6, σ = [some (.ref L.a), some (.ref D), y2, y3, y4, y5, y6]) ∧ ∃ kvs, H' D = some (.dK kvs) ∧ kvs.length ≤ i)
      ⟨e0.but, ⟨_, _, _, _, _, rfl⟩, [], upd_same, Nat.le_refl _⟩ (fun _ _ _ _ _ => trivial) (fun i x σ H' H5 hi q y => ?_) (fun σ H5 q => ?_)
    · obtain ⟨b, ⟨y2, y3, y4, y5, y6, rfl⟩, kvs, hk, lk⟩ := q
      obtain ⟨rfl, rfl⟩ := y
      have xb := b.exN nD
      have eT : M.rows[i]? = some M.rows[i] := List.getElem?_eq_getElem hi
      refine ⟨_, rfl, _, _, _, rfl, xb _ _ ho, rfl, _, rfl, L, M, i, _, by show [V.ref L.a, V.int (0 + (i : Int))] = _; rw [Int.zero_add], m.ex xb, ok, eT, ?_⟩
      cases hw : Mm.waitsFor M.so M.rows[i] with
      | none => exact ⟨_, rfl, _, rfl, iteF ⟨b, ⟨_, _, _, _, _, rfl⟩, kvs, hk, Nat.le_succ_of_le lk⟩⟩
      | some n =>
        refine ⟨_, rfl, _, rfl, iteT ?_⟩
        refine ⟨_, rfl, _, rfl, D, _, rfl, DPut.k (k := Sum.inl (n : Int)) hk (szl (by omega)), ?_⟩
        exact ⟨b.trans (But.set (by simp)), ⟨_, _, _, _, _, rfl⟩, _, upd_same, Nat.le_trans (length_putK _ _ _) (by omega)⟩
    · obtain ⟨b, ⟨y2, y3, y4, y5, y6, rfl⟩, _⟩ := q
      have xb := b.exN nD
      refine ⟨sz (by simp), fun kp hkp => ?_⟩
      have e1 := Ex.new (o := .lst []) hkp
      have x1 := xb.trans e1
      refine ⟨_, rfl, _, _, _, _, _, rfl, x1 _ _ ho, T.c_Machine, T.n_Machine_triggers, rfl, L.tr, rfl, ⟨_, SqL.of (x1 _ _ m.tr)⟩, ?_⟩
      refine for_it (walk_list (K := K) (a := L.tr) (xs := [])) (fun i σ H' => H' = upd H5 kp (.lst []) ∧ ∃ z2 z3 z6, σ = [some (.ref L.a), some (.ref D), z2, z3, some (.ref kp), some (.bl false), z6]) ⟨rfl, _, _, _, rfl⟩ (fun i σ H' _ p => by rw [p.1]; exact SqL.of (x1 _ _ m.tr)) (fun i x σ H' H5 hi => absurd hi (Nat.not_lt_zero _)) (fun σ H6 q => ?_)
      obtain ⟨rfl, z2, z3, z6, rfl⟩ := q
      refine ⟨_, rfl, _, rfl, _, _, _, _, rfl, x1 _ _ ho, T.c_Machine, T.n_Machine_triggers, (by decide : (10 : Nat) < 1000), ?_⟩
      exact ⟨_, rfl, k _ _ (Go.field (tk := M.tk) m x1 (x1 _ _ ho) upd_same (.inr (xb.free hkp)))⟩
end
end Lw
namespace Lw
open PySem PySem.Spec PyProof.Rows L2
section
variable {P : Program} {w : World} {K : PySem.W.Frag} {mg : Str → Option Value} {base : Heap}
theorem hot_suite {X : Cx} {a : Addr} {oe : Obj} {cls : Value} {d : Option Addr} {pn : List (Addr × Obj)} (hz : L2N.Zn cls d oe) (hf : ∃ vs, oe.data = .fields vs) : L2H.HotC (X.suite a ((a, oe) :: pn)) := by
  obtain ⟨vs, hv⟩ := hf
  exact ⟨(a, oe), ⟨rfl, vs, hv, hz.2.2 vs hv⟩, List.mem_cons_self⟩
theorem stat_ready {S : So} {T : Th} (h : Mm.stat S T = .ready) : T.ra = none ∧ ∃ f fr, T.fr = f :: fr := by
  obtain ⟨fr, wt, ra⟩ := T
  cases ra with
  | some _ => simp [Mm.stat] at h
  | none =>
    cases fr with
    | nil => simp [Mm.stat] at h
    | cons f fr => exact ⟨rfl, f, fr, rfl⟩
/-- the machine while a statement of thread t is done -/
def Mm.pop (M : Mm) (t : Nat) (fr : List (Sm × Ev)) : Mm := { M with tk := M.tk + 1, rows := M.rows.set t ⟨fr, none, none⟩ }
def Mm.aft (M : Mm) (t : Nat) (f : Sm × Ev) (fr : List (Sm × Ev)) : Mm.Res → Mm
  | .ok M' => M'
  | .wait n => { M with tk := M.tk + 1, rows := M.rows.set t ⟨f :: fr, some n, none⟩ }
  | .rai n => { M with tk := M.tk + 1, rows := M.rows.set t ⟨[], none, some n⟩ }
theorem step_ok {M M' : Mm} {t : Nat} (h : M.stepM t = some M') : ∃ T f fr r, M.rows[t]? = some T ∧ Mm.stat M.so T = .ready ∧ T.fr = f :: fr ∧ Mm.doM (M.pop t fr) t ⟨fr, none, none⟩ f.1 f.2 = some r ∧ M' = M.aft t f fr r := by
  unfold Mm.stepM at h
  split at h
  · rename_i T hT
    split at h
    · rename_i hs
      split at h
      · rename_i f fr hfr
        split at h
        · rename_i M1 h1; cases h; exact ⟨T, f, fr, _, hT, hs, hfr, h1, rfl⟩
        · rename_i n h1; cases h; exact ⟨T, f, fr, _, hT, hs, hfr, h1, rfl⟩
        · rename_i n h1; cases h; exact ⟨T, f, fr, _, hT, hs, hfr, h1, rfl⟩
        · cases h
      · cases h
    · cases h
  · cases h
def spStep (K : PySem.W.Frag) : Sp := fun vs H Q _ => ∃ (L : Lay) (M : Mm) (t : Nat) (M' : Mm), vs = [.ref L.a, nV t] ∧ MachAt K H L M ∧ M.Ok ∧ Mm.stepM M t = some M' ∧ M'.Ok ∧ ∀ L' H', Go K H L H' L' M' → Q .non H'
/-- what the first clause's suite reads, the second's -/
def tsW (K : PySem.W.Frag) : Addr → Value → Option Addr → TS := fun a cls d => tSeq (tDrop (tBM K "list" rAppend (tFld K (tVar 2) "frames") (tCons (tVar 3) tNil))) (sFld K (tVar 2) (tXf a cls d (cWaits K) "node" (tVar 4)) "waits")
def tsR (K : PySem.W.Frag) : Addr → Value → Option Addr → TS := fun a cls d => tDrop (tMt (cMachine K) "throw" (spThrow K) (tVar 0) (tCons (tVar 2) (tCons (tXf a cls d (cRaises K) "node" (tVar 4)) tNil)))
theorem m_step (T : Tx K mg) : Met P w K mg base 7 (cMachine K) "step" (spStep K) := by
  have sc : FnScope ["self", "thread", "row", "frame", "e"] ["self", "thread"] (defScope s_Machine_step) := ⟨rfl, rfl, rfl, by decide +kernel, rfl, by decide +kernel, by decide +kernel⟩
  refine met_ T.c_Machine T.m_Machine_step T.f_Machine_step sc (fun _ _ _ _ _ _ us hl => match us, hl with | [_, _], _ => rfl) (fun vs H Q E h => ?_) (fun cdv A outer s H vs Q E hr h => ?_)
  · obtain ⟨_, _, _, _, rfl, _⟩ := h
    rfl
  · obtain ⟨L, M, t, M', rfl, m, ok, hst, ok', k⟩ := h
    obtain ⟨dx, ho⟩ := m.ob
    refine ⟨_, pss_cons (ps_if (pt_cmpR op_ne (pe_mt (m_status T) hr (pv 0) (pa_cons (pv 1) pa_nil)) pe_str (nomark _)) pss_never pss_nil)
      (pss_cons (ps_fldaug (pv 0) pe_int in_add)
      (pss_cons (ps_set (i := 2) sc.nd rfl (Or.inl rfl) (pe_ix ix_list (pe_fld (pv 0) rfl) (pv 1) (fun _ _ => rfl)))
      (pss_cons (ps_fld (pv 2) pe_non rfl)
      (pss_cons (ps_set (i := 3) sc.nd rfl (Or.inl rfl) (pe_bm0 PySem.F.plainAttrs_list PySem.F.slot_list_pop PySem.F.type_list_pop mt_pop (pe_fld (pv 2) rfl)))
      (pss_cons (ps_if (pt_cmp (pc_isN (pe_fld (pv 3) rfl)))
        (pss_one (ps_try_manyAs (i := 4) (Wout := fun _ _ _ _ => False) (l := [(.ref (cWaits K), tsW K), (.ref (cRaises K), tsR K)]) (tb := fun W => tDrop (tMtX (cMachine K) "do" (spDo K) W (tVar 0) (tCons (tVar 2) (tCons (tVar 3) tNil)))) rfl rfl sc.nd rfl rfl
          (fun u s' x => by obtain ⟨_, _, _, _, _, _, _, _, _, _, _, _, _, _, _, _, z⟩ := x; exact z)
          (fun W pn xe tk hp => pss_one (ps_expr (pe_mtX (m_do T) tk hr (pv 0) (pa_cons (pv 2) (pa_cons (pv 3) pa_nil)))))
          (.cons ⟨by rfl, by decide, Or.inl T.g_Waits⟩ (fun a oe cls d pn hz hf => pss_cons (ps_expr (pe_bm PySem.F.plainAttrs_list PySem.F.slot_list_append PySem.F.type_list_append mt_append (pe_fld (pv 2) rfl) (pa_cons (pv 3) pa_nil)))
              (pss_one (ps_fld (pv 2) (pe_xf T.x_Waits.x T.x_Waits.no hz.zc hf (pv 4)) rfl)))
          (.cons ⟨by rfl, by decide, Or.inl T.g_Raises⟩ (fun a oe cls d pn hz hf => pss_one (ps_expr (pe_mtH (m_throw T) (L2H.roomH_mark hr _) (hot_suite hz hf) (pv 0) (pa_cons (pv 2) (pa_cons (pe_xf T.x_Raises.x T.x_Raises.no hz.zc hf (pv 4)) pa_nil))))) .nil)))) pss_nil)
      (pss_one (ps_if (pt_val (pe_mt0 (m_fire T) hr (pv 0))) pss_never pss_nil))))))), ?_⟩
    obtain ⟨⟨Tfr, wt, ra⟩, f, fr, r, hT, hs, hfr, hd, rfl⟩ := step_ok hst
    obtain ⟨e1, _⟩ := stat_ready hs
    replace e1 : ra = none := e1
    replace hfr : Tfr = f :: fr := hfr
    subst e1 hfr
    refine ⟨_, rfl, _, _, _, rfl, ho, rfl, _, rfl, L, M, t, _, rfl, m, ok, hT, rfl, _, rfl, ifnF (by rw [hs]; rfl) ?_⟩
    refine ⟨_, rfl, L.a, _, dx, _, _, rfl, ho, T.c_Machine, T.n_Machine_taken, rfl, _, _, rfl, rfl, dx, _, ho, (by decide : (10 : Nat) < 1000), ?_⟩
    have G1 : Go K H L (upd H L.a (.ins (cMachine K) dx (putF "taken" (.int ((M.tk : Int) + 1)) (fM L M.tk)))) L { M with tk := M.tk + 1 } := Go.field (tk := M.tk + 1) m (Ex.refl H) ho m.tr (.inl rfl)
    generalize upd H L.a (.ins (cMachine K) dx (putF "taken" (.int ((M.tk : Int) + 1)) (fM L M.tk))) = H1 at G1 ⊢
    have m1 := G1.m
    obtain ⟨dx1, ho1⟩ := m1.ob
    obtain ⟨ta, lf, hi, hi2, ⟨dt, g1⟩, xs, g2, g3⟩ := m1.row (t := t) hT
    have ne : ta ≠ lf := ne_ix m.nd (Lay.t1 hi) (Lay.t2 hi) (by omega)
    have nta : ta ≠ L.a := ne_ix m.nd (Lay.t1 hi) (j := 0) rfl (by omega)
    have nlf : lf ≠ L.a := ne_ix m.nd (Lay.t2 hi) (j := 0) rfl (by omega)
    refine ⟨_, rfl, _, _, _, _, _, rfl, ho1, T.c_Machine, T.n_Machine_rows, rfl, _, rfl, _, _, _, _, rfl, rfl, SqL.of m1.rw_, atI_nat hi2, ?_⟩
    refine ⟨_, rfl, _, _, _, _, rfl, g1, T.c_Thread, T.n_Thread_waits, (by decide : (3 : Nat) < 1000), ?_⟩
    rw [List.reverse_cons] at g3
    obtain ⟨us, v, rfl, g4, g5⟩ := pr_snoc g3
    have t2 : ∀ u, upd H1 ta u lf = some (.lst (us ++ [v])) := fun u => by rw [upd_ne ne.symm]; exact g2
    refine ⟨_, rfl, _, _, _, _, _, rfl, upd_same, T.c_Thread, T.n_Thread_frames, rfl, .inl ⟨rfl, _, SqL.of (t2 _)⟩, _, _, _, rfl, rfl, t2 _, last_snoc, ?_⟩
    rw [drop_snoc]
    have b2 : But [ta, lf] H1 (upd (upd H1 ta (.ins (cThread K) dt (putF "waits" .non (fT lf (oV wt) (oV none))))) lf (.lst us)) := (But.set (by simp)).trans (But.set (by simp))
    have im2 : Imm H1 (upd (upd H1 ta (.ins (cThread K) dt (putF "waits" .non (fT lf (oV wt) (oV none))))) lf (.lst us)) := m1.imm b2 (by
      intro x hx
      simp only [List.mem_cons, List.not_mem_nil, or_false] at hx
      rcases hx with h | h
      · rw [h]; exact mem_ix (Lay.t1 hi)
      · rw [h]; exact mem_ix (Lay.t2 hi))
    have th2 : ThAt K (upd (upd H1 ta (.ins (cThread K) dt (putF "waits" .non (fT lf (oV wt) (oV none))))) lf (.lst us)) ta lf ⟨fr, none, none⟩ :=
      ⟨⟨dt, by rw [upd_ne ne]; exact upd_same⟩, ⟨us, upd_same, pr_imp (fun _ _ q => q.imm im2) g4⟩⟩
    have G2 := G1.trans (Go.th m1 hi th2 b2)
    have g6 := g5.imm im2
    have ho2 := b2 _ _ ho1 (by simp; exact ⟨nta.symm, nlf.symm⟩)
    generalize upd (upd H1 ta (.ins (cThread K) dt (putF "waits" .non (fT lf (oV wt) (oV none))))) lf (.lst us) = H2 at G2 g6 th2 ho2 ⊢
    have hT2 : (M.pop t fr).rows[t]? = some ⟨fr, none, none⟩ := List.getElem?_set_self (List.getElem?_eq_some_iff.mp hT).1
    have m2 : MachAt K H2 L (M.pop t fr) := G2.m
    obtain ⟨p, df, sv, ea, rfl, f1, f2, f3⟩ := id g6
    obtain ⟨⟨dt2, r1⟩, xs2, r2, r3⟩ := th2
    refine ⟨_, rfl, _, _, _, _, _, rfl, f1, T.c_Frame, T.n_Frame_handles, rfl, _, rfl, iteT ?_⟩
    refine ⟨_, rfl, _, _, _, rfl, ho2, rfl, _, rfl, _, rfl, L, M.pop t fr, t, ta, lf, p, _, f.1, f.2, r, rfl, m2, ok.wf, ok.sz, hi, hT2, g6, hd, ?_⟩
    have nta2 : ∀ {o}, H2 lf = some o → lf ≠ ta := fun _ => ne.symm
    cases r with
    | ok M1 =>
      intro L' H' G
      obtain ⟨dx3, ho3⟩ := G.m.ob
      rw [G.a] at ho3
      exact ⟨_, rfl, _, _, _, rfl, ho3, rfl, L', _, by rw [G.a], G.m, ok', fun L3 H3 g3 => ⟨_, rfl, iteF (k L3 H3 (G2.trans (G.trans g3)))⟩⟩
    | wait n =>
      intro d H' hd1 hx hxd
      refine ⟨true, T.e_Waits_Waits, fun _ a ha => ?_, (fun h => by cases h)⟩
      have mx := m2.ex hx
      have r1' := hx _ _ r1
      have r2' := hx _ _ r2
      refine ⟨_, rfl, _, _, _, _, _, rfl, r1', T.c_Thread, T.n_Thread_frames, rfl, .inl ⟨rfl, _, SqL.of r2'⟩, _, rfl, _, _, _, rfl, rfl, r2', szl ?_, ?_⟩
      · have h1 := pr_len r3
        have h2 := ok.fr _ (List.mem_of_getElem? hT)
        rw [List.length_reverse] at h1
        simp only [List.length_cons] at h2
        replace h1 : xs2.length = fr.length := h1
        omega
      have dl : d ≠ lf := ne_of hxd r2' (fun z => nomatch z)
      have b3 : But [ta, lf] H' (upd (upd H' lf (.lst (xs2 ++ [.ref p]))) ta (.ins (cThread K) dt2 (putF "waits" (nV n) (fT lf (oV none) (oV none))))) := (But.set (by simp)).trans (But.set (by simp))
      have im3 : Imm H' (upd (upd H' lf (.lst (xs2 ++ [.ref p]))) ta (.ins (cThread K) dt2 (putF "waits" (nV n) (fT lf (oV none) (oV none))))) := mx.imm b3 (by
        intro x hx
        simp only [List.mem_cons, List.not_mem_nil, or_false] at hx
        rcases hx with h | h
        · rw [h]; exact mem_ix (Lay.t1 hi)
        · rw [h]; exact mem_ix (Lay.t2 hi))
      have th3 : ThAt K (upd (upd H' lf (.lst (xs2 ++ [.ref p]))) ta (.ins (cThread K) dt2 (putF "waits" (nV n) (fT lf (oV none) (oV none))))) ta lf ⟨f :: fr, some n, none⟩ :=
        ⟨⟨dt2, upd_same⟩, ⟨xs2 ++ [.ref p], by rw [upd_ne ne.symm]; exact upd_same, by
          show Paired _ _ (f :: fr).reverse
          rw [List.reverse_cons]
          exact pr_app (pr_imp (fun _ _ q => (q.imm hx.imm).imm im3) r3) (.cons ((g6.imm hx.imm).imm im3) .nil)⟩⟩
      have G3 := (Go.th mx hi th3 b3).pre hx
      have eM : (M.pop t fr).row t ⟨f :: fr, some n, none⟩ = M.aft t f fr (.wait n) := by
        show ({ M with tk := M.tk + 1, rows := (M.rows.set t _).set t _ } : Mm) = _
        rw [List.set_set]
        rfl
      rw [eM] at G3
      refine ⟨_, rfl, rfl, rfl, d, _, _, rfl, (upd_ne dl).trans hxd, rfl, _, rfl, _, _, _, _, rfl, (upd_ne ne).trans r1', T.c_Thread, T.n_Thread_waits, (by decide : (3 : Nat) < 1000), ?_⟩
      obtain ⟨dx3, ho3⟩ := G3.m.ob
      exact ⟨_, rfl, _, _, _, rfl, ho3, rfl, L, _, rfl, G3.m, ok', fun L3 H3 g3 => ⟨_, rfl, iteF (k L3 H3 (G2.trans (G3.trans g3)))⟩⟩
    | rai n =>
      intro d H' hd1 hx hxd
      refine ⟨false, T.e_Raises_Waits, (fun h => by cases h), fun _ => ⟨true, T.e_Raises_Raises, fun _ a ha => ?_, (fun h => by cases h)⟩⟩
      have mx := m2.ex hx
      obtain ⟨dx3, ho3⟩ := mx.ob
      refine ⟨_, rfl, _, _, _, rfl, ho3, rfl, _, rfl, _, rfl, rfl, rfl, d, _, _, rfl, hxd, rfl, L, M.pop t fr, t, ta, lf, ⟨fr, none, none⟩, n, rfl, mx, hi, hT2, fun H3 g => ?_⟩
      have eM : (M.pop t fr).row t ⟨[], none, some n⟩ = M.aft t f fr (.rai n) := by
        show ({ M with tk := M.tk + 1, rows := (M.rows.set t _).set t _ } : Mm) = _
        rw [List.set_set]
        rfl
      have G3 := g.pre hx
      rw [eM] at G3
      obtain ⟨dx4, ho4⟩ := G3.m.ob
      exact ⟨_, rfl, _, _, _, rfl, ho4, rfl, L, _, rfl, G3.m, ok', fun L3 H3 g3 => ⟨_, rfl, iteF (k L3 H3 (G2.trans (G3.trans g3)))⟩⟩
end
end Lw
namespace Lw
open PySem PySem.Spec PyProof.Rows L2
section
variable {P : Program} {w : World} {K : PySem.W.Frag} {mg : Str → Option Value} {base : Heap}
theorem cho_ok {M M' : Mm} {t : Nat} {b : Bool} (h : M.choM t b = some M') : ∃ T p q e fr, M.rows[t]? = some T ∧ Mm.stat M.so T = .choosing ∧ T.fr = (.cho p q, e) :: fr ∧ M' = M.row t { T with fr := (if b then q else p, e) :: fr } := by
  unfold Mm.choM at h
  split at h
  · rename_i T hT
    split at h
    · rename_i p q e fr h1 h2
      cases h
      refine ⟨T, p, q, e, fr, hT, ?_, h2, rfl⟩
      obtain ⟨tf, wt, ra⟩ := T
      replace h1 : ra = none := h1
      replace h2 : tf = (.cho p q, e) :: fr := h2
      subst h1 h2
      simp [Mm.stat, Sm.isCho]
    · cases h
  · cases h
def spChoose (K : PySem.W.Frag) : Sp := fun vs H Q _ => ∃ (L : Lay) (M : Mm) (t : Nat) (b : Bool) (M' : Mm), vs = [.ref L.a, nV t, .bl b] ∧ MachAt K H L M ∧ M.Ok ∧ M.choM t b = some M' ∧ ∀ H', Go K H L H' L M' → Q .non H'
theorem m_choose (T : Tx K mg) : Met P w K mg base 4 (cMachine K) "choose" (spChoose K) := by
  have sc : FnScope ["self", "thread", "second", "frame", "part"] ["self", "thread", "second"] (defScope s_Machine_choose) := ⟨rfl, rfl, rfl, by decide +kernel, rfl, by decide +kernel, by decide +kernel⟩
  refine met_ T.c_Machine T.m_Machine_choose T.f_Machine_choose sc (fun _ _ _ _ _ _ us hl => match us, hl with | [_, _, _], _ => rfl) (fun vs H Q E h => ?_) (fun cdv A outer s H vs Q E hr h => ?_)
  · obtain ⟨_, _, _, _, _, rfl, _⟩ := h
    rfl
  · obtain ⟨L, M, t, b, M', rfl, m, ok, hc, k⟩ := h
    obtain ⟨⟨Tfr, wt, ra⟩, p1, q1, e, fr, hT, hs, hfr, rfl⟩ := cho_ok hc
    replace hfr : Tfr = (.cho p1 q1, e) :: fr := hfr
    subst hfr
    obtain ⟨dx, ho⟩ := m.ob
    obtain ⟨ta, lf, hi, hi2, ⟨dt, g1⟩, xs, g2, g3⟩ := m.row (t := t) hT
    have ne : ta ≠ lf := ne_ix m.nd (Lay.t1 hi) (Lay.t2 hi) (by omega)
    have nlf : lf ≠ L.a := ne_ix m.nd (Lay.t2 hi) (j := 0) rfl (by omega)
    have nlr : lf ≠ L.r := ne_ix m.nd (Lay.t2 hi) (j := 5) rfl (by omega)
    refine ⟨_, pss_cons (ps_if (pt_cmpR op_ne (pe_mt (m_status T) hr (pv 0) (pa_cons (pv 1) pa_nil)) pe_str (nomark _)) pss_never pss_nil)
      (pss_cons (ps_set (i := 3) sc.nd rfl (Or.inl rfl) (pe_bm0 PySem.F.plainAttrs_list PySem.F.slot_list_pop PySem.F.type_list_pop mt_pop (pe_fld (pe_ix ix_list (pe_fld (pv 0) rfl) (pv 1) (fun _ _ => rfl)) rfl)))
      (pss_cons (ps_set (i := 4) sc.nd rfl (Or.inl rfl) pe_int)
      (pss_cons (ps_if (pt_val (pv 2)) (pss_one (ps_set (i := 4) sc.nd rfl (Or.inl rfl) pe_int)) pss_nil)
      (pss_one (ps_expr (pe_bm PySem.F.plainAttrs_list PySem.F.slot_list_append PySem.F.type_list_append mt_append (pe_fld (pe_ix ix_list (pe_fld (pv 0) rfl) (pv 1) (fun _ _ => rfl)) rfl)
        (pa_cons (pe_mk (k_frame T) hr (pa_cons (pe_ix ix_tup (pe_fld (pv 3) rfl) (pv 4) (fun _ _ => rfl)) (pa_cons (pe_fld (pv 3) rfl) (pa_cons pe_non pa_nil)))) pa_nil))))))), ?_⟩
    refine ⟨_, rfl, _, _, _, rfl, ho, rfl, _, rfl, L, M, t, _, rfl, m, ok, hT, rfl, _, rfl, ifnF (by rw [hs]; rfl) ?_⟩
    rw [List.reverse_cons] at g3
    obtain ⟨us, v, rfl, g4, g5⟩ := pr_snoc g3
    refine ⟨_, rfl, _, _, _, _, _, rfl, ho, T.c_Machine, T.n_Machine_rows, rfl, _, rfl, _, _, _, _, rfl, rfl, SqL.of m.rw_, atI_nat hi2, _, _, _, _, _, rfl, g1, T.c_Thread, T.n_Thread_frames, rfl, .inl ⟨rfl, _, SqL.of g2⟩, _, _, _, rfl, rfl, g2, last_snoc, ?_⟩
    rw [drop_snoc]
    have im1 : Imm H (upd H lf (.lst us)) := Imm.set g2 imm_lst
    obtain ⟨p, df, sv, ea, rfl, f1, f2, f3⟩ := g5.imm im1
    obtain ⟨q, xa, xb, rfl, hq, hsa, hsb⟩ := f2
    have ho1 : upd H lf (.lst us) L.a = some (.ins (cMachine K) dx (fM L M.tk)) := (upd_ne nlf.symm).trans ho
    have hr1 : upd H lf (.lst us) L.r = some (.lst (L.ts.map fun p => .ref p.1)) := (upd_ne nlr.symm).trans m.rw_
    have ht1 : upd H lf (.lst us) ta = some (.ins (cThread K) dt (fT lf (oV wt) (oV ra))) := (upd_ne ne).trans g1
    have gl1 : upd H lf (.lst us) lf = some (.lst us) := upd_same
    have lu : us.length + 1 ≤ 200 := by
      have h1 := pr_len g4
      have h2 := ok.fr _ (List.mem_of_getElem? hT)
      rw [List.length_reverse] at h1
      simp only [List.length_cons] at h2
      omega
    have bb : But [ta, lf] H (upd H lf (.lst us)) := But.set (by simp)
    have g4' := pr_imp (fun _ _ q => q.imm im1) g4
    have nn : ∀ {a}, upd H lf (.lst us) a = none → H a = none := fun {a} h => (upd_none h).1
    generalize upd H lf (.lst us) = H1 at *
    have fin : ∀ (sw : V) (s2 : Sm), SmAt H1 sw s2 → (if b then q1 else p1) = s2 → ∀ f df2 H3, H1 f = none → Ex H1 H3 → H3 f = some (.ins (cFrame K) df2 (fF sw (.ref ea))) → Q .non (upd H3 lf (.lst (us ++ [.ref f]))) := fun sw s2 hs2 es f df2 H3 hf x3 h3 => by
      have im3 : Imm H3 (upd H3 lf (.lst (us ++ [.ref f]))) := Imm.set (x3 _ _ gl1) imm_lst
      have nf : f ≠ lf := fun z => by rw [z, gl1] at hf; cases hf
      refine k _ (Go.th m hi ⟨⟨dt, (upd_ne ne).trans (x3 _ _ ht1)⟩, ⟨us ++ [.ref f], upd_same, ?_⟩⟩ (bb.trans (x3.but.trans (But.set (by simp)))))
      show Paired _ _ ((if b then q1 else p1, e) :: fr).reverse
      rw [List.reverse_cons, es]
      exact pr_app (pr_imp (fun _ _ q => (q.imm x3.imm).imm im3) g4') (.cons ⟨f, df2, sw, ea, rfl, (upd_ne nf).trans h3, (hs2.imm x3.imm).imm im3, im3 _ _ (x3 _ _ f3) trivial⟩ .nil)
    cases b with
    | true =>
      refine ⟨_, rfl, true, rfl, iteT ?_⟩
      refine ⟨_, rfl, _, _, _, _, _, rfl, ho1, T.c_Machine, T.n_Machine_rows, rfl, _, rfl, _, _, _, _, rfl, rfl, SqL.of hr1, atI_nat hi2, _, _, _, _, _, rfl, ht1, T.c_Thread, T.n_Thread_frames, rfl, .inl ⟨rfl, _, SqL.of gl1⟩, ?_⟩
      refine ⟨_, rfl, _, _, _, _, _, rfl, f1, T.c_Frame, T.n_Frame_statement, rfl, _, rfl, _, _, _, _, rfl, rfl, SqT.of hq, atI_nat (j := 2) rfl, _, rfl, _, _, _, _, _, rfl, f1, T.c_Frame, T.n_Frame_nodes, rfl, ?_⟩
      intro f d2 hf hd ne2
      refine ⟨f, d2, xb, .ref ea, rfl, upd_same, fun H3 j3 b3 => ⟨rfl, ?_⟩⟩
      have x3 := made_ex hf hd ne2 b3
      exact ⟨_, _, _, rfl, rfl, x3 _ _ gl1, szl (by omega), fin xb q1 hsb rfl f d2 H3 hf x3 j3⟩
    | false =>
      refine ⟨_, rfl, false, rfl, iteF ?_⟩
      refine ⟨_, rfl, _, _, _, _, _, rfl, ho1, T.c_Machine, T.n_Machine_rows, rfl, _, rfl, _, _, _, _, rfl, rfl, SqL.of hr1, atI_nat hi2, _, _, _, _, _, rfl, ht1, T.c_Thread, T.n_Thread_frames, rfl, .inl ⟨rfl, _, SqL.of gl1⟩, ?_⟩
      refine ⟨_, rfl, _, _, _, _, _, rfl, f1, T.c_Frame, T.n_Frame_statement, rfl, _, rfl, _, _, _, _, rfl, rfl, SqT.of hq, atI_nat (j := 1) rfl, _, rfl, _, _, _, _, _, rfl, f1, T.c_Frame, T.n_Frame_nodes, rfl, ?_⟩
      intro f d2 hf hd ne2
      refine ⟨f, d2, xa, .ref ea, rfl, upd_same, fun H3 j3 b3 => ⟨rfl, ?_⟩⟩
      have x3 := made_ex hf hd ne2 b3
      exact ⟨_, _, _, rfl, rfl, x3 _ _ gl1, szl (by omega), fin xa p1 hsa rfl f d2 H3 hf x3 j3⟩
/-! ### outcome -/
def spMGraph (K : PySem.W.Frag) : Sp := fun vs H Q _ => ∃ (L : Lay) (M : Mm) (a : Nat) (z : Int), vs = [.ref L.a, nV a] ∧ MachAt K H L M ∧ M.so.Wf ∧ a < M.so.nd.length ∧ M.so.nd[M.so.rep a]? = some (.int z) ∧ ∀ v H', Ex H H' → GrAt H' v z → Q v H'
theorem m_mgraph (T : Tx K mg) : Met P w K mg base 6 (cMachine K) "graph" (spMGraph K) := by
  have sc : FnScope ["self", "node"] ["self", "node"] (defScope s_Machine_graph) := ⟨rfl, rfl, rfl, by decide +kernel, rfl, by decide +kernel, by decide +kernel⟩
  refine met_ T.c_Machine T.m_Machine_graph T.f_Machine_graph sc (fun _ _ _ _ _ _ us hl => match us, hl with | [_, _], _ => rfl) (fun vs H Q E h => ?_) (fun cdv A outer s H vs Q E hr h => ?_)
  · obtain ⟨_, _, _, _, rfl, _⟩ := h
    rfl
  · obtain ⟨L, M, a, z, rfl, m, wf, ha, hz, k⟩ := h
    obtain ⟨dx, ho⟩ := m.ob
    obtain ⟨ds, hs⟩ := m.so.ob
    refine ⟨_, pss_one (ps_ret (pe_mt (m_graph T) hr (pe_fld (pv 0) rfl) (pa_cons (pv 1) pa_nil))), ?_⟩
    exact ⟨_, rfl, _, _, _, _, _, rfl, ho, T.c_Machine, T.n_Machine_store, rfl, _, _, _, rfl, hs, rfl, _, rfl, L.s, L.ln, L.lp, M.so, a, z, rfl, m.so, wf, ha, hz, fun p q H' _ x h1 h2 => k _ H' x ⟨p, q, rfl, h1, h2⟩⟩
/-- the ints that the given nodes stand for -/
def Mm.vals (M : Mm) (zs : List Int) : Prop := M.gv.length = zs.length ∧ ∀ (i : Nat) (n : Nat) (z : Int), M.gv[i]? = some n → zs[i]? = some z → n < M.so.nd.length ∧ M.so.nd[M.so.rep n]? = some (.int z)
/-- an outcome where every thread is done -/
def OutAt (H : Hp) (v : V) (zs : List Int) : Prop := ∃ p a b, v = .ref p ∧ H p = some (.tup [.ref a, .ref b]) ∧ H a = some (.tup (zs.map fun z => .str (tx z))) ∧ H b = some (.tup [])
theorem OutAt.ex {H H' : Hp} (e : Ex H H') {v : V} {zs : List Int} (h : OutAt H v zs) : OutAt H' v zs := let ⟨p, a, b, h1, h2, h3, h4⟩ := h; ⟨p, a, b, h1, e _ _ h2, e _ _ h3, e _ _ h4⟩
def spMOut (K : PySem.W.Frag) : Sp := fun vs H Q _ => ∃ (L : Lay) (M : Mm) (zs : List Int), vs = [.ref L.a] ∧ MachAt K H L M ∧ M.Ok ∧ (∀ T ∈ M.rows, Mm.stat M.so T = .done) ∧ M.vals zs ∧ zs.length ≤ 100 ∧ (∀ z ∈ zs, z.natAbs.log2 < 1920) ∧ ∀ v H', Ex H H' → OutAt H' v zs → Q v H'
theorem m_moutc (T : Tx K mg) : Met P w K mg base 7 (cMachine K) "outcome" (spMOut K) := by
  have sc : FnScope ["self", "statuses", "thread", "node"] ["self"] (defScope s_Machine_outcome) := ⟨rfl, rfl, rfl, by decide +kernel, rfl, by decide +kernel, by decide +kernel⟩
  refine met_ T.c_Machine T.m_Machine_outcome T.f_Machine_outcome sc (fun _ _ _ _ _ _ us hl => match us, hl with | [_], _ => rfl) (fun vs H Q E h => ?_) (fun cdv A outer s H vs Q E hr h => ?_)
  · obtain ⟨_, _, _, rfl, _⟩ := h
    rfl
  · obtain ⟨L, M, zs, rfl, m, ok, hd, ⟨hv1, hv2⟩, hz1, hz2, k⟩ := h
    obtain ⟨dx, ho⟩ := m.ob
    refine ⟨_, pss_cons (ps_setLc (i := 1) (own := [("thread", 2)]) (g := gName 2) (te := tMt (cMachine K) "status" (spStat K) (tVar 0) (tCons (tVar 2) tNil)) rfl sc.nd rfl rfl (sw_true rfl rfl rfl (by decide +kernel)) (pi_range1 (by rfl) T.z_range (pa_cons (pe_callB call_len_seq (by rfl) T.z_len PySem.boot_len (pa_cons (pe_fld (pv 0) rfl) pa_nil)) pa_nil))
        (blkOk_by (N := ["self", "statuses", "thread", "node"]) (sc := defScope s_Machine_outcome) (by decide +kernel)) (fun _ _ _ _ _ => pg_name (i := 2) sc.nd rfl (Or.inl rfl)) (fun _ _ _ _ _ => pts_nil) (fun _ _ _ _ _ => pe_mt (m_status T) hr (pv 0) (pa_cons (pv 2) pa_nil)))
      (pss_one (ps_ret (pe_c (f_outc T) hr (pa_cons (pe_lc (own := [("node", 3)]) (g := gName 3) (te := tMt (cMachine K) "graph" (spMGraph K) (tVar 0) (tCons (tVar 3) tNil)) rfl sc.nd (pi_list (pe_fld (pv 0) rfl))
        (blkOk_by (N := ["self", "statuses", "thread", "node"]) (sc := defScope s_Machine_outcome) (by decide +kernel)) (fun _ _ _ _ _ => pg_name (i := 3) sc.nd rfl (Or.inl rfl)) (fun _ _ _ _ _ => pts_nil) (fun _ _ _ _ _ => pe_mt (m_mgraph T) hr (pv 0) (pa_cons (pv 3) pa_nil)))
        (pa_cons (pv 1) pa_nil))))), ?_⟩
    have hl : (L.ts.map fun p => V.ref p.1).length = M.rows.length := by rw [List.length_map, m.len]
    have ht := ok.th
    refine ⟨_, rfl, _, _, _, _, _, rfl, ho, T.c_Machine, T.n_Machine_rows, rfl, _, _, rfl, .inl (SqL.of m.rw_), _, rfl, by omega, by omega, fun D hD => ?_⟩
    rw [hl, Int.toNat_natCast]
    have nD := none1 hD
    refine lc_it (walk_range (lo := 0) (n := M.rows.length)) (fun i H' => But [D] H H' ∧ H' D = some (.lst ((List.replicate i ("done" : Str)).map V.str))) ⟨(Ex.new hD).but, upd_same⟩ (fun _ _ _ _ => trivial) (fun i x H' H2 hi p y => ?_) (fun H2 p => ?_)
    · obtain ⟨rfl, rfl⟩ := y
      obtain ⟨b, hD2⟩ := p
      have xb := b.exN nD
      have eT : M.rows[i]? = some M.rows[i] := List.getElem?_eq_getElem hi
      refine ⟨rfl, _, rfl, _, _, _, rfl, xb _ _ ho, rfl, _, rfl, L, M, i, _, by show [V.ref L.a, V.int (0 + (i : Int))] = _; rw [Int.zero_add], m.ex xb, ok, eT, ?_⟩
      refine ⟨_, hD2, szl (by rw [List.length_map, List.length_replicate]; omega), b.trans (But.set (by simp)), ?_⟩
      rw [upd_same, hd _ (List.getElem_mem hi), List.replicate_succ', List.map_append]
      rfl
    · obtain ⟨b, hD2⟩ := p
      have x1 := b.exN nD
      refine ⟨_, rfl, _, _, _, _, _, rfl, x1 _ _ ho, T.c_Machine, T.n_Machine_nodes_given, rfl, L.g, rfl, ⟨_, SqL.of (x1 _ _ m.gv)⟩, fun D2 hD3 => ?_⟩
      have nD2 := none1 hD3
      refine lc_it (walk_list (K := K) (a := L.g) (xs := M.gv.map nV)) (fun i H' => But [D2] H2 H' ∧ ∃ gs, H' D2 = some (.lst gs) ∧ Paired (GrAt H') gs (zs.take i)) ⟨(Ex.new hD3).but, [], upd_same, .nil⟩ (fun i H' _ p => SqL.of (p.1.exN nD2 _ _ (x1 _ _ m.gv))) (fun i x H' H3 hi p y => ?_) (fun H3 p => ?_)
      · obtain ⟨rfl, hx⟩ := y
        obtain ⟨b2, gs, hg1, hg2⟩ := p
        have x2 := x1.trans (b2.exN nD2)
        rw [List.getElem?_map] at hx
        obtain ⟨n, en, rfl⟩ := Option.map_eq_some_iff.mp hx
        have hi2 : i < zs.length := by rw [← hv1]; simpa using hi
        have ez : zs[i]? = some zs[i] := List.getElem?_eq_getElem hi2
        obtain ⟨n1, n2⟩ := hv2 i n _ en ez
        refine ⟨rfl, _, rfl, _, _, _, rfl, x2 _ _ ho, rfl, _, rfl, L, M, n, zs[i], rfl, m.ex x2, ok.wf, n1, n2, fun v H4 x4 hg => ?_⟩
        have lg := pr_len hg2
        rw [List.length_take] at lg
        refine ⟨gs, x4 _ _ hg1, szl (by omega), b2.trans (x4.but.trans (But.set (by simp))), gs ++ [v], upd_same, ?_⟩
        have xu : ∀ {u z}, GrAt H4 u z → GrAt (upd H4 D2 (.lst (gs ++ [v]))) u z := fun {u z} h => by
          obtain ⟨g, q, h1, h2, h3⟩ := h
          exact ⟨g, q, h1, (upd_ne (ne_of h2 (x4 _ _ hg1) (fun z => nomatch z))).trans h2, (upd_ne (ne_of h3 (x4 _ _ hg1) (fun z => nomatch z))).trans h3⟩
        rw [List.take_succ, ez]
        exact pr_app (pr_imp (fun _ _ q => xu (q.ex x4)) hg2) (.cons (xu hg) .nil)
      · obtain ⟨b2, gs, hg1, hg2⟩ := p
        rw [List.length_map, hv1, List.take_length] at hg2
        have x2 := b2.exN nD2
        refine ⟨_, rfl, D2, D, gs, zs, List.replicate M.rows.length "done", rfl, hg1, hg2, hz1, hz2, x2 _ _ hD2, fun s hs => (List.mem_replicate.mp hs).2, fun p a b H' x h1 h2 h3 => ?_⟩
        exact k _ H' (x1.trans (x2.trans x)) ⟨p, a, b, rfl, h1, h2, h3⟩
end
end Lw
namespace Lw
open PySem PySem.Spec PyProof.Rows L2
/-! ### a new machine -/
/-- addresses that stand apart, all known -/
structure Kn (H : Hp) (l : List Addr) : Prop where
  nd : l.Nodup
  kn : ∀ y ∈ l, H y ≠ none
theorem upd_some {H : Hp} {p y : Addr} {o : HO} (h : H y ≠ none) : upd H p o y ≠ none := by
  by_cases e : y = p
  · rw [e, upd_same]; exact fun z => nomatch z
  · rw [upd_ne e]; exact h
theorem Kn.up {H : Hp} {l : List Addr} (k : Kn H l) (p : Addr) (o : HO) : Kn (upd H p o) l := ⟨k.nd, fun y hy => upd_some (k.kn y hy)⟩
theorem Kn.new {H : Hp} {l : List Addr} (k : Kn H l) {p : Addr} (h : H p = none) (o : HO) : Kn (upd H p o) (p :: l) :=
  ⟨List.nodup_cons.mpr ⟨fun m => k.kn p m h, k.nd⟩, fun y hy => by
    rcases List.mem_cons.mp hy with e | e
    · rw [e, upd_same]; exact fun z => nomatch z
    · exact upd_some (k.kn y e)⟩
theorem Kn.add {H H' : Hp} {l : List Addr} (k : Kn H l) {p : Addr} (h : H p = none) (h' : H' p ≠ none) (x : ∀ y ∈ l, H' y ≠ none) : Kn H' (p :: l) :=
  ⟨List.nodup_cons.mpr ⟨fun m => k.kn p m h, k.nd⟩, fun y hy => by
    rcases List.mem_cons.mp hy with e | e
    · rw [e]; exact h'
    · exact x y e⟩
theorem Kn.ex {H H' : Hp} {l : List Addr} (k : Kn H l) (e : Ex H H') : Kn H' l := ⟨k.nd, fun y hy => by
  cases q : H y with
  | none => exact absurd q (k.kn y hy)
  | some o => rw [e _ _ q]; exact fun z => nomatch z⟩
theorem SoAt.but {K : PySem.W.Frag} {H H' : Hp} {s ln lp : Addr} {S : So} (h : SoAt K H s ln lp S) {F : List Addr} (b : But F H H') (i : Imm H H') (h1 : s ∉ F) (h2 : ln ∉ F) (h3 : lp ∉ F) : SoAt K H' s ln lp S := by
  obtain ⟨dx, a⟩ := h.ob
  obtain ⟨vs, c, d⟩ := h.ns
  exact ⟨⟨dx, b _ _ a h1⟩, ⟨vs, b _ _ c h2, pr_imp (fun _ _ q => q.imm i) d⟩, b _ _ h.ps h3, h.ne⟩
/-- every tuple is as it was -/
def Tp (H H' : Hp) : Prop := ∀ a xs, H a = some (.tup xs) → H' a = some (.tup xs)
theorem Imm.tp {H H' : Hp} (i : Imm H H') : Tp H H' := fun a _ h => i a _ h trivial
theorem Tp.trans {H H1 H2 : Hp} (a : Tp H H1) (b : Tp H1 H2) : Tp H H2 := fun x xs h => b x xs (a x xs h)
theorem Tp.set {H : Hp} {p : Addr} {o u : HO} (h : H p = some o) (n : ∀ xs, o ≠ .tup xs) : Tp H (upd H p u) := fun a xs e => by
  have q : a ≠ p := fun z => by rw [z, h] at e; exact n xs (Option.some.inj e)
  rw [upd_ne q]; exact e
theorem But.tp {F : List Addr} {H H' : Hp} (b : But F H H') (n : ∀ x ∈ F, ∀ xs, H x ≠ some (.tup xs)) : Tp H H' := fun a xs h => b a _ h fun m => n a m xs h
theorem NdAt.tp {H H' : Hp} (e : Tp H H') : ∀ {v : V} {d : Nd}, NdAt H v d → NdAt H' v d
  | _, .var, ⟨p, a, b⟩ => ⟨p, a, e _ _ b⟩
  | _, .int _, ⟨p, a, b⟩ => ⟨p, a, e _ _ b⟩
  | _, .oth, ⟨p, z, r, a, b, c⟩ => ⟨p, z, r, a, e _ _ b, c⟩
theorem SmAt.tp {H H' : Hp} (e : Tp H H') : ∀ {s : Sm} {v : V}, SmAt H v s → SmAt H' v s
  | .skip, _, ⟨p, a, b⟩ => ⟨p, a, e _ _ b⟩
  | .seq _ _, _, ⟨p, x, y, a, b, c, d⟩ => ⟨p, x, y, a, e _ _ b, c.tp e, d.tp e⟩
  | .loc _ _, _, ⟨p, x, a, b, c⟩ => ⟨p, x, a, e _ _ b, c.tp e⟩
  | .bind _ _, _, ⟨p, a, b⟩ => ⟨p, a, e _ _ b⟩
  | .int _ _, _, ⟨p, a, b⟩ => ⟨p, a, e _ _ b⟩
  | .case _ _ _ _, _, ⟨p, q, x, y, a, b, b', c, d⟩ => ⟨p, q, x, y, a, e _ _ b, e _ _ b', c.tp e, d.tp e⟩
  | .add _ _ _, _, ⟨p, a, b⟩ => ⟨p, a, e _ _ b⟩
  | .thr _, _, ⟨p, x, a, b, c⟩ => ⟨p, x, a, e _ _ b, c.tp e⟩
  | .rai _, _, ⟨p, a, b⟩ => ⟨p, a, e _ _ b⟩
  | .cho _ _, _, ⟨p, x, y, a, b, c, d⟩ => ⟨p, x, y, a, e _ _ b, c.tp e, d.tp e⟩
theorem SoAt.bt {K : PySem.W.Frag} {H H' : Hp} {s ln lp : Addr} {S : So} (h : SoAt K H s ln lp S) {F : List Addr} (b : But F H H') (i : Tp H H') (h1 : s ∉ F) (h2 : ln ∉ F) (h3 : lp ∉ F) : SoAt K H' s ln lp S := by
  obtain ⟨dx, a⟩ := h.ob
  obtain ⟨vs, c, d⟩ := h.ns
  exact ⟨⟨dx, b _ _ a h1⟩, ⟨vs, b _ _ c h2, pr_imp (fun _ _ q => q.tp i) d⟩, b _ _ h.ps h3, h.ne⟩
def So.plain (ds : List Nd) : So := ⟨ds, List.range ds.length⟩
theorem So.plain_add (ds : List Nd) (d : Nd) : (So.plain ds).add d = So.plain (ds ++ [d]) := by
  show (⟨ds ++ [d], List.range ds.length ++ [(List.range ds.length).length]⟩ : So) = ⟨ds ++ [d], List.range (ds ++ [d]).length⟩
  rw [List.length_range, List.length_append, List.length_singleton, List.range_succ]
def bI : List Str := ["Wait", "IsDet", "NewCell", "Exchange", "NewPort", "Send", "Label", "Width", "Part"]
def rA : List Str := ["failure", "type", "arity", "range", "threads", "memory", "stack"]
def iniEv (names : List Str) : Ev := Ev.puts (Ev.puts [] bI ((List.range 9).map (names.length + ·))) names (List.range names.length)
def iniM (names : List Str) (s : Sm) : Mm := ⟨So.plain (List.replicate names.length .var ++ List.replicate 16 .oth), List.range names.length, [⟨[(s, iniEv names)], none, none⟩], 0⟩
section
variable {P : Program} {w : World} {K : PySem.W.Frag} {mg : Str → Option Value} {base : Heap}
theorem stp {H : Hp} {a p : Addr} {o u : HO} (ha : H a = some o) (ni : ¬ imm o) (hp : H p = none) : But [a] H (upd (upd H p (.lst [])) a u) ∧ Imm H (upd (upd H p (.lst [])) a u) ∧ upd (upd H p (.lst [])) a u p = some (.lst []) := by
  have e := Ex.new (o := .lst []) hp
  have n : p ≠ a := fun z => by rw [z, ha] at hp; cases hp
  exact ⟨e.but.trans (But.set (by simp)), e.imm.trans (Imm.set (e _ _ ha) ni), (upd_ne n).trans upd_same⟩
def spAtom (K : PySem.W.Frag) : Sp := fun vs H Q E => ∃ z : Str, spMk1 K .oth [.str z] vs H Q E
def spName (K : PySem.W.Frag) : Sp := fun vs H Q E => ∃ (z : Str) (n : Int), spMk1 K .oth [.str z, .int n] vs H Q E
theorem m_atomE (T : Tx K mg) : Met P w K mg base 2 (cStore K) "atom" (spAtom K) := by
  have sc : FnScope ["self", "a"] ["self", "a"] (defScope s_Store_atom) := ⟨rfl, rfl, rfl, by decide +kernel, rfl, by decide +kernel, by decide +kernel⟩
  refine met_ T.c_Store T.m_Store_atom T.f_Store_atom sc (fun _ _ _ _ _ _ us hl => match us, hl with | [_, _], _ => rfl) (fun vs H Q E h => ?_) (fun cdv A outer s H vs Q E hr h => ?_)
  · obtain ⟨_, _, _, _, _, rfl, _⟩ := h
    rfl
  · obtain ⟨z, s, ln, lp, S, rfl, hS, hl, hp, k⟩ := h
    obtain ⟨dx, ho⟩ := hS.ob
    refine ⟨_, pss_one (ps_ret (pe_mt (m_make T) hr (pv 0) (pa_cons (pe_tup (pa_cons pe_str (pa_cons (pv 1) pa_nil))) pa_nil))), ?_⟩
    refine ⟨_, rfl, _, _, _, rfl, ho, rfl, _, rfl, sz (by simp), fun p hn => ?_⟩
    have e := Ex.new (o := .tup [.str "atom", .str z]) hn
    exact ⟨s, ln, lp, S, _, .oth, rfl, hS.ex e, ⟨p, _, _, rfl, upd_same, by decide +kernel, by decide +kernel⟩, hl, hp, fun H' h1 h2 => k H' h1 (e.but.trans h2)⟩
theorem m_nameE (T : Tx K mg) : Met P w K mg base 2 (cStore K) "name" (spName K) := by
  have sc : FnScope ["self", "a", "n"] ["self", "a", "n"] (defScope s_Store_name) := ⟨rfl, rfl, rfl, by decide +kernel, rfl, by decide +kernel, by decide +kernel⟩
  refine met_ T.c_Store T.m_Store_name T.f_Store_name sc (fun _ _ _ _ _ _ us hl => match us, hl with | [_, _, _], _ => rfl) (fun vs H Q E h => ?_) (fun cdv A outer s H vs Q E hr h => ?_)
  · obtain ⟨_, _, _, _, _, _, rfl, _⟩ := h
    rfl
  · obtain ⟨z, n, s, ln, lp, S, rfl, hS, hl, hp, k⟩ := h
    obtain ⟨dx, ho⟩ := hS.ob
    refine ⟨_, pss_one (ps_ret (pe_mt (m_make T) hr (pv 0) (pa_cons (pe_tup (pa_cons pe_str (pa_cons (pv 1) (pa_cons (pv 2) pa_nil)))) pa_nil))), ?_⟩
    refine ⟨_, rfl, _, _, _, rfl, ho, rfl, _, rfl, _, rfl, sz (by simp), fun p hn => ?_⟩
    have e := Ex.new (o := .tup [.str "name", .str z, .int n]) hn
    exact ⟨s, ln, lp, S, _, .oth, rfl, hS.ex e, ⟨p, _, _, rfl, upd_same, by decide +kernel, by decide +kernel⟩, hl, hp, fun H' h1 h2 => k H' h1 (e.but.trans h2)⟩
theorem Tx.b_BI (T : Tx K mg) (H : Hp) : SqT K H (He.ga K "BUILT_IN") (bI.map V.str) := He.tupB_ok (vs := tabBI) (He.ba (He.ba (He.ba T.more_).2).2).1 H
theorem Tx.b_RA (T : Tx K mg) (H : Hp) : SqT K H (He.ga K "RAISED") (rA.map V.str) := He.tupB_ok (vs := tabRA) (He.ba (He.ba (He.ba T.more_).2).2).2 H
def spMIni (K : PySem.W.Frag) : Sp := fun vs H Q _ => ∃ (a dx pt g : Addr) (names : List Str) (sv : V) (s : Sm), vs = [.ref a, .ref pt] ∧ H a = some (.ins (cMachine K) dx []) ∧ H pt = some (.tup [.ref g, sv]) ∧ H g = some (.tup (names.map V.str)) ∧ SmAt H sv s ∧ names.length ≤ 12 ∧
  ∀ L H', MachAt K H' L (iniM names s) → L.a = a → But [a] H H' → (∀ x ∈ L.own, x = a ∨ H x = none) → Q .non H'
theorem k_machine (T : Tx K mg) : Mak P w K mg base 4 "Machine" (cMachine K) (spMIni K) := by
  have sc : FnScope ["self", "program", "given", "statement", "_", "k", "name", "atom", "nodes"] ["self", "program"] (defScope s_Machine_init) := ⟨rfl, rfl, rfl, by decide +kernel, rfl, by decide +kernel, by decide +kernel⟩
  refine mak_ T.k_Machine T.g_Machine T.f_Machine_init sc (fun _ _ _ _ _ _ us hl => match us, hl with | [_, _], _ => rfl) (fun vs H Q E h => ?_) (fun cdv A outer s H vs Q E hr h => ?_)
  · obtain ⟨_, _, _, _, _, _, _, rfl, _⟩ := h
    rfl
  · obtain ⟨a, dx, pt, gt, names, sv, st, rfl, ha, hpt, hgt, hs, hn, k⟩ := h
    have hu := hu_of hr
    refine ⟨_, pss_cons (ps_fld (pv 0) (pe_mk0 (k_store T) hr) rfl)
      (pss_cons (ps_asg (pv 1) (pg_tup rfl (pgs_cons (pg_name (i := 2) sc.nd rfl (Or.inl rfl)) (pgs_cons (pg_name (i := 3) sc.nd rfl (Or.inl rfl)) pgs_nil))))
      (pss_cons (ps_fld (pv 0) (pe_lc (own := [("_", 4)]) (g := gName 4) (te := tMt (cStore K) "variable" (spMk1 K .var []) (tFld K (tVar 0) "store") tNil) rfl sc.nd (pi_tup (pv 2))
        (blkOk_by (N := ["self", "program", "given", "statement", "_", "k", "name", "atom", "nodes"]) (sc := defScope s_Machine_init) (by decide +kernel)) (fun _ _ _ _ _ => pg_name (i := 4) sc.nd rfl (Or.inl rfl)) (fun _ _ _ _ _ => pts_nil) (fun _ _ _ _ _ => pe_mt0 (m_variable T) hr (pe_fld (pv 0) rfl))) rfl)
      (pss_cons (ps_fld (pv 0) pe_dnewK rfl)
      (pss_cons (ps_for PassesOwn.never rfl (pi_enumT T.z_enumerate (pa_cons (pe_glob (v := .ref (He.ga K "BUILT_IN")) (by rfl) T.g_BUILT_IN rfl) pa_nil)) (pg_tup rfl (pgs_cons (pg_name (i := 5) sc.nd rfl (Or.inl rfl)) (pgs_cons (pg_name (i := 6) sc.nd rfl (Or.inl rfl)) pgs_nil)))
        (pss_one (ps_dput hu (pe_fld (pv 0) rfl) (pv 6) (pe_mt (m_nameE T) hr (pe_fld (pv 0) rfl) (pa_cons pe_str (pa_cons (pv 5) pa_nil))) rfl)))
      (pss_cons (ps_fld (pv 0) (pe_dc (own := [("atom", 7)]) (g := gName 7) (tk := tVar 7) (tv := tMt (cStore K) "atom" (spAtom K) (tFld K (tVar 0) "store") (tCons (tVar 7) tNil)) rfl sc.nd (pi_tup (pe_glob (v := .ref (He.ga K "RAISED")) (by rfl) T.g_RAISED rfl))
        (blkOk_by (N := ["self", "program", "given", "statement", "_", "k", "name", "atom", "nodes"]) (sc := defScope s_Machine_init) (by decide +kernel)) (fun _ _ _ _ _ => pg_name (i := 7) sc.nd rfl (Or.inl rfl)) (fun _ _ _ _ _ => pts_nil) (fun _ _ _ _ _ => pv 7) (fun _ _ _ _ _ => pe_mt (m_atomE T) hr (pe_fld (pv 0) rfl) (pa_cons (pv 7) pa_nil))) rfl)
      (pss_cons (ps_set (i := 8) sc.nd rfl (Or.inl rfl) (pe_c (f_with_nodes T) hr (pa_cons (pe_fld (pv 0) rfl) (pa_cons (pv 2) (pa_cons (pe_fld (pv 0) rfl) pa_nil)))))
      (pss_cons (ps_fld (pv 0) (pe_lst (pa_cons (pe_mk (k_thread T) hr (pa_cons (pe_lst (pa_cons (pe_mk (k_frame T) hr (pa_cons (pv 3) (pa_cons (pv 8) (pa_cons pe_non pa_nil)))) pa_nil)) pa_nil)) pa_nil)) rfl)
      (pss_cons (ps_fld (pv 0) (pe_lst pa_nil) rfl)
      (pss_cons (ps_fld (pv 0) (pe_lst pa_nil) rfl)
      (pss_cons (ps_fld (pv 0) (pe_lst pa_nil) rfl)
      (pss_cons (ps_fld (pv 0) (pe_lst pa_nil) rfl)
      (pss_one (ps_fld (pv 0) pe_int rfl))))))))))))), ?_⟩
    have kn0 : Kn H [a] := ⟨by simp, fun y hy => by rw [List.mem_singleton.mp hy, ha]; exact fun z => nomatch z⟩
    -- the store
    intro s ds hsn hdn ne
    refine ⟨s, ds, rfl, upd_same, fun ln lp H1 s1 b1 n1 n2 => ⟨rfl, ?_⟩⟩
    have x1 := made_ex hsn hdn ne b1
    have n1' : H ln = none := (upd_none (upd_none n1).1).1
    have n2' : H lp = none := (upd_none (upd_none n2).1).1
    obtain ⟨dx1, o1⟩ := s1.ob
    obtain ⟨vs1, o2, _⟩ := s1.ns
    have nls : ln ≠ s := (upd_none n1).2
    have nps : lp ≠ s := (upd_none n2).2
    have kn1 : Kn H1 [lp, ln, s, a] := by
      refine ⟨?_, fun y hy => ?_⟩
      · have h1 : s ≠ a := fun z => by rw [z, ha] at hsn; cases hsn
        have h2 : ln ≠ a := fun z => by rw [z, ha] at n1'; cases n1'
        have h3 : lp ≠ a := fun z => by rw [z, ha] at n2'; cases n2'
        simp [h1, h2, h3, nls, nps, s1.ne.symm]
      · simp only [List.mem_cons, List.not_mem_nil, or_false] at hy
        rcases hy with e | e | e | e
        · rw [e, s1.ps]; exact fun z => nomatch z
        · rw [e, o2]; exact fun z => nomatch z
        · rw [e, o1]; exact fun z => nomatch z
        · rw [e, x1 _ _ ha]; exact fun z => nomatch z
    have imA : ∀ {fs : List (Str × V)}, fs = [] ∨ (fs.map (·.1)).head? = some "store" → ¬ imm (.ins (cMachine K) dx fs) := fun {fs} h z => by
      rcases h with h | h
      · rw [h] at z; exact absurd z (fun z => nomatch z)
      · exact absurd ((Option.some.inj (h.symm.trans z)) : ("store" : Str) = "statement") (by decide +kernel)
    refine ⟨_, rfl, _, _, _, _, rfl, x1 _ _ ha, T.c_Machine, T.n_Machine_store, by simp, ?_⟩
    have i2 : Imm H1 (upd H1 a (.ins (cMachine K) dx (putF "store" (.ref s) []))) := Imm.set (x1 _ _ ha) (imA (.inl rfl))
    have kn2 := kn1.up a (.ins (cMachine K) dx (putF "store" (.ref s) []))
    have b2 : But [a] H (upd H1 a (.ins (cMachine K) dx (putF "store" (.ref s) []))) := x1.but.trans (But.set (by simp))
    have s2 := s1.but (F := [a]) (But.set (by simp)) i2 (by simp; exact ne_ix kn1.nd (i := 2) (j := 3) rfl rfl (by decide)) (by simp; exact ne_ix kn1.nd (i := 1) (j := 3) rfl rfl (by decide)) (by simp; exact ne_ix kn1.nd (i := 0) (j := 3) rfl rfl (by decide))
    have a2 : upd H1 a (.ins (cMachine K) dx (putF "store" (.ref s) [])) a = some (.ins (cMachine K) dx [("store", .ref s)]) := upd_same
    have i02 := x1.imm.trans i2
    have f2 : ∀ y ∈ [lp, ln, s, a], y = a ∨ H y = none := fun y hy => by
      simp only [List.mem_cons, List.not_mem_nil, or_false] at hy
      rcases hy with e | e | e | e
      · rw [e]; exact .inr n2'
      · rw [e]; exact .inr n1'
      · rw [e]; exact .inr hsn
      · exact .inl e
    clear o2 kn1 n1 n2 nls nps i2 o1 dx1 s1 b1
    generalize upd H1 a (.ins (cMachine K) dx (putF "store" (.ref s) [])) = H2 at *
    clear x1
    -- the nodes given
    refine ⟨_, rfl, pt, _, rfl, SqT.of (i02 _ _ hpt trivial), rfl, _, _, rfl, _, _, rfl, rfl, ?_⟩
    refine ⟨_, rfl, gt, rfl, ⟨_, SqT.of (i02 _ _ hgt trivial)⟩, fun g hg => ?_⟩
    have kn3 := kn2.new hg (.lst [])
    have nga : g ≠ a := ne_ix kn3.nd (i := 0) (j := 4) rfl rfl (by decide)
    have ngs : g ≠ s := ne_ix kn3.nd (i := 0) (j := 3) rfl rfl (by decide)
    have ngn : g ≠ ln := ne_ix kn3.nd (i := 0) (j := 2) rfl rfl (by decide)
    have ngp : g ≠ lp := ne_ix kn3.nd (i := 0) (j := 1) rfl rfl (by decide)
    have nal : a ≠ ln := (ne_ix kn3.nd (i := 2) (j := 4) rfl rfl (by decide)).symm
    have nap : a ≠ lp := (ne_ix kn3.nd (i := 1) (j := 4) rfl rfl (by decide)).symm
    have nas : a ≠ s := (ne_ix kn3.nd (i := 3) (j := 4) rfl rfl (by decide)).symm
    have nsl : s ≠ ln := (ne_ix kn3.nd (i := 2) (j := 3) rfl rfl (by decide)).symm
    have nsp : s ≠ lp := (ne_ix kn3.nd (i := 1) (j := 3) rfl rfl (by decide)).symm
    have immS : ∀ {H' : Hp}, But [g, ln, lp] H2 H' → Imm H2 H' := fun {H'} b => b.imm fun x hx o ho => by
      obtain ⟨vs, q1, _⟩ := s2.ns
      simp only [List.mem_cons, List.not_mem_nil, or_false] at hx
      rcases hx with e | e | e
      · rw [e, hg] at ho; cases ho
      · rw [e, q1] at ho; cases ho; exact imm_lst
      · rw [e, s2.ps] at ho; cases ho; exact imm_lst
    refine lc_it (walk_tup (K := K) (a := gt) (xs := names.map V.str)) (fun i H' => But [g, ln, lp] H2 H' ∧ SoAt K H' s ln lp (So.plain (List.replicate i .var)) ∧ H' g = some (.lst ((List.range i).map nV)))
      ⟨(Ex.new hg).but, s2.ex (Ex.new hg), upd_same⟩ (fun i H' _ p => SqT.of (immS p.1 _ _ (i02 _ _ hgt trivial) trivial)) (fun i x H' H3 hi p y => ?_) (fun H3 p => ?_)
    · obtain ⟨rfl, hx⟩ := y
      obtain ⟨b, h1, h2⟩ := p
      obtain ⟨ds', o1⟩ := h1.ob
      have hi : i < 12 := by rw [List.length_map] at hi; omega
      have li : (So.plain (List.replicate i .var)).nd.length = i := by show (List.replicate i _).length = i; simp
      refine ⟨rfl, _, rfl, _, _, _, _, _, rfl, b _ _ a2 (by simp; exact ⟨nga.symm, nal, nap⟩), T.c_Machine, T.n_Machine_store, rfl, _, _, _, rfl, o1, rfl, s, ln, lp, _, rfl, h1, by rw [li]; omega, by show (List.range _).length = _; simp [So.plain], fun H4 s4 b4 => ?_⟩
      rw [So.plain_add, ← List.replicate_succ'] at s4
      have h2' := b4 _ _ h2 (by simp; exact ⟨ngn, ngp⟩)
      refine ⟨_, h2', szl (by simp; omega), b.trans ((b4.mono (by simp)).trans (But.set (by simp))), s4.but (F := [g]) (But.set (by simp)) (Imm.set h2' imm_lst) (by simp; exact ngs.symm) (by simp; exact ngn.symm) (by simp; exact ngp.symm), ?_⟩
      rw [upd_same, li, List.range_succ, List.map_append]
      rfl
    obtain ⟨b3, s3, g3⟩ := p
    rw [List.length_map] at s3 g3
    have kn3' : Kn H3 [g, lp, ln, s, a] := by
      refine ⟨kn3.nd, fun y hy => ?_⟩
      obtain ⟨vs, q1, _⟩ := s3.ns
      obtain ⟨ds', o1⟩ := s3.ob
      simp only [List.mem_cons, List.not_mem_nil, or_false] at hy
      rcases hy with e | e | e | e | e
      · rw [e, g3]; exact fun z => nomatch z
      · rw [e, s3.ps]; exact fun z => nomatch z
      · rw [e, q1]; exact fun z => nomatch z
      · rw [e, o1]; exact fun z => nomatch z
      · rw [e, b3 _ _ a2 (by simp; exact ⟨nga.symm, nal, nap⟩)]; exact fun z => nomatch z
    have a3 := b3 _ _ a2 (by simp; exact ⟨nga.symm, nal, nap⟩)
    have i03 := i02.trans (immS b3)
    have hg0 : H g = none := by
      cases q : H g with
      | none => rfl
      | some o => rw [b2 _ _ q (by simp; exact nga)] at hg; cases hg
    have c3 : But [a] H H3 := fun y o hy hn => by
      have hn : y ≠ a := by simpa using hn
      refine b3 _ _ (b2 _ _ hy (by simpa using hn)) ?_
      have h1 := f2 ln (by simp)
      have h2 := f2 lp (by simp)
      simp only [List.mem_cons, List.not_mem_nil, or_false, not_or]
      refine ⟨fun e => ?_, fun e => ?_, fun e => ?_⟩
      · rw [e, hg0] at hy; cases hy
      · rcases h1 with h | h
        · exact nal h.symm
        · rw [e, h] at hy; cases hy
      · rcases h2 with h | h
        · exact nap h.symm
        · rw [e, h] at hy; cases hy
    clear b3 immS kn3 kn2 b2 a2 s2 i02
    have immA : ∀ {H' H'' : Hp} {fs : List (Str × V)} {u : HO}, H' a = some (.ins (cMachine K) dx (("store", .ref s) :: fs)) → H'' = upd H' a u → Imm H' H'' := fun {H' H'' fs u} h e => by
      subst e
      exact Imm.set h (imA (.inr rfl))
    -- built_in
    refine ⟨_, rfl, _, _, _, _, rfl, a3, T.c_Machine, T.n_Machine_nodes_given, (by decide : (1 : Nat) < 1000), ?_⟩
    have i4 := immA a3 rfl (u := .ins (cMachine K) dx (putF "nodes_given" (.ref g) [("store", .ref s)]))
    have s4 := s3.but (F := [a]) (But.set (u := .ins (cMachine K) dx (putF "nodes_given" (.ref g) [("store", .ref s)])) (by simp)) i4 (by simp; exact nas.symm) (by simp; exact nal.symm) (by simp; exact nap.symm)
    have g4 : upd H3 a (.ins (cMachine K) dx (putF "nodes_given" (.ref g) [("store", .ref s)])) g = some _ := (upd_ne nga).trans g3
    have a4 : upd H3 a (.ins (cMachine K) dx (putF "nodes_given" (.ref g) [("store", .ref s)])) a = some (.ins (cMachine K) dx [("store", .ref s), ("nodes_given", .ref g)]) := upd_same
    have kn4 := kn3'.up a (.ins (cMachine K) dx (putF "nodes_given" (.ref g) [("store", .ref s)]))
    have c4 : But [a] H (upd H3 a (.ins (cMachine K) dx (putF "nodes_given" (.ref g) [("store", .ref s)]))) := c3.trans (But.set (by simp))
    have i04 := i03.trans i4
    generalize upd H3 a (.ins (cMachine K) dx (putF "nodes_given" (.ref g) [("store", .ref s)])) = H4 at *
    clear i4 c3 i03 s3 a3 g3 kn3'
    intro bi hbi
    have kn5 := kn4.new hbi (.dK [])
    have e5 := Ex.new (o := .dK []) hbi
    have nba : bi ≠ a := ne_ix kn5.nd (i := 0) (j := 5) rfl rfl (by decide)
    have nbs : bi ≠ s := ne_ix kn5.nd (i := 0) (j := 4) rfl rfl (by decide)
    have nbn : bi ≠ ln := ne_ix kn5.nd (i := 0) (j := 3) rfl rfl (by decide)
    have nbp : bi ≠ lp := ne_ix kn5.nd (i := 0) (j := 2) rfl rfl (by decide)
    have nbg : bi ≠ g := ne_ix kn5.nd (i := 0) (j := 1) rfl rfl (by decide)
    have hbi0 : H bi = none := by
      cases q : H bi with
      | none => rfl
      | some o => rw [c4 _ _ q (by simp; exact nba)] at hbi; cases hbi
    refine ⟨_, rfl, _, _, _, _, rfl, e5 _ _ a4, T.c_Machine, T.n_Machine_built_in, (by decide : (2 : Nat) < 1000), ?_⟩
    have i5 := immA (e5 _ _ a4) rfl (u := .ins (cMachine K) dx (putF "built_in" (.ref bi) [("store", .ref s), ("nodes_given", .ref g)]))
    have s5 := (s4.ex e5).but (F := [a]) (But.set (u := .ins (cMachine K) dx (putF "built_in" (.ref bi) [("store", .ref s), ("nodes_given", .ref g)])) (by simp)) i5 (by simp; exact nas.symm) (by simp; exact nal.symm) (by simp; exact nap.symm)
    have g5 : upd (upd H4 bi (.dK [])) a (.ins (cMachine K) dx (putF "built_in" (.ref bi) [("store", .ref s), ("nodes_given", .ref g)])) g = some _ := (upd_ne nga).trans (e5 _ _ g4)
    have d5 : upd (upd H4 bi (.dK [])) a (.ins (cMachine K) dx (putF "built_in" (.ref bi) [("store", .ref s), ("nodes_given", .ref g)])) bi = some (.dK []) := (upd_ne nba).trans upd_same
    have a5 : upd (upd H4 bi (.dK [])) a (.ins (cMachine K) dx (putF "built_in" (.ref bi) [("store", .ref s), ("nodes_given", .ref g)])) a = some (.ins (cMachine K) dx [("store", .ref s), ("nodes_given", .ref g), ("built_in", .ref bi)]) := upd_same
    have kn5' := kn5.up a (.ins (cMachine K) dx (putF "built_in" (.ref bi) [("store", .ref s), ("nodes_given", .ref g)]))
    have c5 : But [a] H (upd (upd H4 bi (.dK [])) a (.ins (cMachine K) dx (putF "built_in" (.ref bi) [("store", .ref s), ("nodes_given", .ref g)]))) := (c4.trans e5.but).trans (But.set (by simp))
    have i05 := (i04.trans e5.imm).trans i5
    generalize upd (upd H4 bi (.dK [])) a (.ins (cMachine K) dx (putF "built_in" (.ref bi) [("store", .ref s), ("nodes_given", .ref g)])) = H5 at *
    clear i5 c4 i04 s4 a4 g4 kn4 kn5 e5
    refine ⟨_, _, rfl, T.b_BI _, ?_⟩
    have n16 : ∀ i : Nat, (So.plain (List.replicate names.length .var ++ List.replicate i .oth)).nd.length = names.length + i := fun i => by show (List.replicate _ _ ++ List.replicate _ _).length = _; simp
    refine for_it walk_enumT (fun i σ H' => But [bi, ln, lp] H5 H' ∧ SoAt K H' s ln lp (So.plain (List.replicate names.length .var ++ List.replicate i .oth)) ∧ H' bi = some (.dK (kv (Ev.puts [] (bI.take i) ((List.range i).map (names.length + ·))))) ∧
      ∃ y4 y5 y6 y7 y8, σ = [some (.ref a), some (.ref pt), some (.ref gt), some sv, y4, y5, y6, y7, y8]) ⟨But.refl _, by simpa using s5, d5, _, _, _, _, _, rfl⟩ (fun i σ H' _ p => T.b_BI _) (fun i x σ H' H6 hi p y => ?_) (fun σ H6 p => ?_)
    · obtain ⟨b, h1, h2, y4, y5, y6, y7, y8, rfl⟩ := p
      obtain ⟨D, u, v, rfl, hD, rfl, h3, h4⟩ := y
      have e6 := Ex.new (o := .tup [u, v]) hD
      replace h3 : some (V.int (i : Nat)) = some u := h3
      cases h3
      replace h4 : (bI.map V.str)[i]? = some v := h4
      rw [List.getElem?_map] at h4
      obtain ⟨nm, enm, rfl⟩ := Option.map_eq_some_iff.mp h4
      have hi : i < 9 := hi
      obtain ⟨ds', o1⟩ := (h1.ex e6).ob
      have a6 := e6 _ _ (b _ _ a5 (by simp; exact ⟨nba.symm, nal, nap⟩))
      refine ⟨_, _, rfl, SqT.of upd_same, rfl, _, _, rfl, _, _, rfl, rfl, ?_⟩
      refine ⟨_, rfl, _, _, _, _, _, rfl, a6, T.c_Machine, T.n_Machine_store, rfl, _, _, _, rfl, o1, rfl, _, rfl, "builtin", _, s, ln, lp, _, rfl, h1.ex e6, by rw [n16]; omega, by simp [So.plain], fun H7 s7 b7 => ?_⟩
      have a7 := b7 _ _ a6 (by simp; exact ⟨nal, nap⟩)
      have d7 := b7 _ _ (e6 _ _ h2) (by simp; exact ⟨nbn, nbp⟩)
      rw [So.plain_add, List.append_assoc, ← List.replicate_succ'] at s7
      refine ⟨_, rfl, _, _, _, _, _, rfl, a7, T.c_Machine, T.n_Machine_built_in, rfl, _, rfl, bi, _, rfl, DPut.k (k := Sum.inr nm) d7 (szl ?_), ?_⟩
      · rw [kv_len]
        have := puts_len [] (bI.take i) ((List.range i).map (names.length + ·))
        simp only [List.length_take, List.length_nil] at this
        omega
      · rw [n16, kv_put, ← puts_snoc _ _ _ _ _ (by rw [List.length_take, List.length_map, List.length_range]; show min i 9 = i; omega)]
        have tk : bI.take (i + 1) = bI.take i ++ [nm] := by rw [List.take_succ, enm]; rfl
        have tr : (List.range (i + 1)).map (names.length + ·) = (List.range i).map (names.length + ·) ++ [names.length + i] := by rw [List.range_succ, List.map_append]; rfl
        refine ⟨b.trans (e6.but.trans ((b7.mono (by simp)).trans (But.set (by simp)))), s7.bt (F := [bi]) (But.set (by simp)) (Tp.set d7 (fun _ z => nomatch z)) (by simp; exact nbs.symm) (by simp; exact nbn.symm) (by simp; exact nbp.symm), by rw [upd_same, tk, tr], _, _, _, _, _, rfl⟩
    obtain ⟨b6, s6, d6, y4, y5, y6, y7, y8, rfl⟩ := p
    have e9 : (bI.map V.str).length = 9 := rfl
    rw [e9] at s6 d6
    have e9' : bI.take 9 = bI := rfl
    rw [e9'] at d6
    have a6 := b6 _ _ a5 (by simp; exact ⟨nba.symm, nal, nap⟩)
    have g6 := b6 _ _ g5 (by simp; exact ⟨nbg.symm, ngn, ngp⟩)
    have t56 : Tp H5 H6 := b6.tp fun x hx xs h => by
      obtain ⟨vs, q1, _⟩ := s5.ns
      simp only [List.mem_cons, List.not_mem_nil, or_false] at hx
      rcases hx with e | e | e
      · rw [e, d5] at h; cases h
      · rw [e, q1] at h; cases h
      · rw [e, s5.ps] at h; cases h
    have t06 := i05.tp.trans t56
    have kn6 : Kn H6 [bi, g, lp, ln, s, a] := by
      refine ⟨kn5'.nd, fun y hy => ?_⟩
      obtain ⟨vs, q1, _⟩ := s6.ns
      obtain ⟨ds', o1⟩ := s6.ob
      simp only [List.mem_cons, List.not_mem_nil, or_false] at hy
      rcases hy with e | e | e | e | e | e
      · rw [e, d6]; exact fun z => nomatch z
      · rw [e, g6]; exact fun z => nomatch z
      · rw [e, s6.ps]; exact fun z => nomatch z
      · rw [e, q1]; exact fun z => nomatch z
      · rw [e, o1]; exact fun z => nomatch z
      · rw [e, a6]; exact fun z => nomatch z
    have f3 : H ln = none ∧ H lp = none := ⟨n1', n2'⟩
    have c6 : But [a] H H6 := fun y o hy hn => by
      refine b6 _ _ (c5 _ _ hy hn) ?_
      simp only [List.mem_cons, List.not_mem_nil, or_false, not_or]
      refine ⟨fun e => ?_, fun e => ?_, fun e => ?_⟩
      · rw [e, hbi0] at hy; cases hy
      · rw [e, f3.1] at hy; cases hy
      · rw [e, f3.2] at hy; cases hy
    clear kn5' c5 i05 s5 a5 g5 d5
    -- atoms
    refine ⟨_, rfl, ⟨_, T.b_RA _⟩, fun at_ hat => ?_⟩
    have kn7 := kn6.new hat (.dK [])
    have nta : at_ ≠ a := ne_ix kn7.nd (i := 0) (j := 6) rfl rfl (by decide)
    have nts : at_ ≠ s := ne_ix kn7.nd (i := 0) (j := 5) rfl rfl (by decide)
    have ntn : at_ ≠ ln := ne_ix kn7.nd (i := 0) (j := 4) rfl rfl (by decide)
    have ntp : at_ ≠ lp := ne_ix kn7.nd (i := 0) (j := 3) rfl rfl (by decide)
    have ntg : at_ ≠ g := ne_ix kn7.nd (i := 0) (j := 2) rfl rfl (by decide)
    have ntb : at_ ≠ bi := ne_ix kn7.nd (i := 0) (j := 1) rfl rfl (by decide)
    have hat0 : H at_ = none := by
      cases q : H at_ with
      | none => rfl
      | some o => rw [c6 _ _ q (by simp; exact nta)] at hat; cases hat
    have e7 := Ex.new (o := .dK []) hat
    have n9 : ∀ i : Nat, (So.plain (List.replicate names.length .var ++ List.replicate (9 + i) .oth)).nd.length = names.length + (9 + i) := fun i => n16 (9 + i)
    refine dc_tup (K := K) (a := He.ga K "RAISED") (xs := rA.map V.str) (fun i H' => But [at_, ln, lp] H6 H' ∧ SoAt K H' s ln lp (So.plain (List.replicate names.length .var ++ List.replicate (9 + i) .oth)) ∧ ∃ kvs, H' at_ = some (.dK kvs) ∧ kvs.length ≤ i)
      ⟨e7.but, s6.ex e7, [], upd_same, Nat.le_refl _⟩ (fun i H' _ _ => T.b_RA _) (fun i x H7 hx p => ?_) (fun H7 p => ?_)
    · obtain ⟨b, h1, kvs, hk, lk⟩ := p
      rw [List.getElem?_map] at hx
      obtain ⟨z, ez, rfl⟩ := Option.map_eq_some_iff.mp hx
      have hi : i < 7 := (List.getElem?_eq_some_iff.mp ez).1
      have a7 := b _ _ a6 (by simp; exact ⟨nta.symm, nal, nap⟩)
      obtain ⟨ds', o1⟩ := h1.ob
      refine ⟨rfl, _, rfl, _, rfl, _, _, _, _, _, rfl, a7, T.c_Machine, T.n_Machine_store, rfl, _, _, _, rfl, o1, rfl, _, rfl, z, s, ln, lp, _, rfl, h1, by rw [n9]; omega, by simp [So.plain], fun H8 s8 b8 => ?_⟩
      have d8 := b8 _ _ hk (by simp; exact ⟨ntn, ntp⟩)
      rw [So.plain_add, List.append_assoc, ← List.replicate_succ'] at s8
      exact ⟨kvs, Sum.inr z, rfl, d8, szl (by omega), b.trans ((b8.mono (by simp)).trans (But.set (by simp))), s8.bt (F := [at_]) (But.set (by simp)) (Tp.set d8 (fun _ z => nomatch z)) (by simp; exact nts.symm) (by simp; exact ntn.symm) (by simp; exact ntp.symm), _, upd_same, Nat.le_trans (length_putK _ _ _) (by omega)⟩
    obtain ⟨b7, s7, kvs, k7, _⟩ := p
    have e7' : (rA.map V.str).length = 7 := rfl
    rw [e7'] at s7
    have a7 := b7 _ _ a6 (by simp; exact ⟨nta.symm, nal, nap⟩)
    have g7 := b7 _ _ g6 (by simp; exact ⟨ntg.symm, ngn, ngp⟩)
    have d7 := b7 _ _ d6 (by simp; exact ⟨ntb.symm, nbn, nbp⟩)
    have t67 : Tp H6 H7 := b7.tp fun x hx xs h => by
      obtain ⟨vs, q1, _⟩ := s6.ns
      simp only [List.mem_cons, List.not_mem_nil, or_false] at hx
      rcases hx with e | e | e
      · rw [e, hat] at h; cases h
      · rw [e, q1] at h; cases h
      · rw [e, s6.ps] at h; cases h
    have t07 := t06.trans t67
    have kn8 : Kn H7 [g, lp, ln, s, a] := by
      refine ⟨(List.nodup_cons.mp kn6.nd).2, fun y hy => ?_⟩
      obtain ⟨vs, q1, _⟩ := s7.ns
      obtain ⟨ds', o1⟩ := s7.ob
      simp only [List.mem_cons, List.not_mem_nil, or_false] at hy
      rcases hy with e | e | e | e | e
      · rw [e, g7]; exact fun z => nomatch z
      · rw [e, s7.ps]; exact fun z => nomatch z
      · rw [e, q1]; exact fun z => nomatch z
      · rw [e, o1]; exact fun z => nomatch z
      · rw [e, a7]; exact fun z => nomatch z
    have c7 : But [a] H H7 := fun y o hy hn => by
      refine b7 _ _ (c6 _ _ hy hn) ?_
      simp only [List.mem_cons, List.not_mem_nil, or_false, not_or]
      refine ⟨fun e => ?_, fun e => ?_, fun e => ?_⟩
      · rw [e, hat0] at hy; cases hy
      · rw [e, f3.1] at hy; cases hy
      · rw [e, f3.2] at hy; cases hy
    clear t06 t56 b6 kn6 kn7 s6 a6 g6 d6 c6 e7 b7 t67
    refine ⟨_, rfl, _, _, _, _, rfl, a7, T.c_Machine, T.n_Machine_atoms, (by decide : (3 : Nat) < 1000), ?_⟩
    have i8 := immA a7 rfl (u := .ins (cMachine K) dx (putF "atoms" (.ref at_) [("store", .ref s), ("nodes_given", .ref g), ("built_in", .ref bi)]))
    have B8 : But [a] H7 (upd H7 a (.ins (cMachine K) dx (putF "atoms" (.ref at_) [("store", .ref s), ("nodes_given", .ref g), ("built_in", .ref bi)]))) := But.set (by simp)
    have a8 : upd H7 a (.ins (cMachine K) dx (putF "atoms" (.ref at_) [("store", .ref s), ("nodes_given", .ref g), ("built_in", .ref bi)])) a = some (.ins (cMachine K) dx [("store", .ref s), ("nodes_given", .ref g), ("built_in", .ref bi), ("atoms", .ref at_)]) := upd_same
    have kn9 := kn8.up a (.ins (cMachine K) dx (putF "atoms" (.ref at_) [("store", .ref s), ("nodes_given", .ref g), ("built_in", .ref bi)]))
    generalize upd H7 a (.ins (cMachine K) dx (putF "atoms" (.ref at_) [("store", .ref s), ("nodes_given", .ref g), ("built_in", .ref bi)])) = H8 at *
    have s8 := s7.but B8 i8 (by simp; exact nas.symm) (by simp; exact nal.symm) (by simp; exact nap.symm)
    have g8 := B8 _ _ g7 (by simp; exact nga)
    have d8 := B8 _ _ d7 (by simp; exact nba)
    have k8 := B8 _ _ k7 (by simp; exact nta)
    have t08 := t07.trans i8.tp
    have c8 := c7.trans B8
    clear B8 i8 a7 s7 g7 d7 k7 kn8 t07 c7
    refine ⟨_, rfl, _, _, _, _, _, rfl, a8, T.c_Machine, T.n_Machine_built_in, rfl, _, rfl, _, rfl, _, _, _, _, _, rfl, a8, T.c_Machine, T.n_Machine_nodes_given, rfl, bi, gt, g, _, names, List.range names.length, rfl, d8, t08 _ _ hgt, g8, by simp, ?_, fun ea H9 he x9 => ?_⟩
    · have := puts_len [] bI ((List.range 9).map (names.length + ·))
      have e : bI.length = 9 := rfl
      simp only [e, List.length_nil] at this
      omega
    -- rows
    refine ⟨_, rfl, _, rfl, ?_⟩
    intro fp df hfp hdf ne1
    refine ⟨fp, df, sv, .ref ea, rfl, upd_same, fun H10 j1 b10 => ⟨rfl, sz (by simp), fun lf hlf => ?_⟩⟩
    have x10 := made_ex hfp hdf ne1 b10
    have e11 := Ex.new (o := .lst [.ref fp]) hlf
    have x11 := (x9.trans x10).trans e11
    have kn11 := (kn9.ex (x9.trans x10)).new hlf (.lst [.ref fp])
    intro t dt ht hdt ne2
    refine ⟨t, dt, lf, rfl, upd_same, fun H12 j2 b12 => ⟨rfl, sz (by simp), fun r hr0 => ?_⟩⟩
    have x12 := made_ex ht hdt ne2 b12
    have kn12 : Kn H12 [t, lf, g, lp, ln, s, a] := kn11.add ht (by rw [j2]; exact fun z => nomatch z) (kn11.ex x12).kn
    have kn13 := kn12.new hr0 (.lst [.ref t])
    have e13 := Ex.new (o := .lst [.ref t]) hr0
    have x13 := (x11.trans x12).trans e13
    have q1 := (x12.trans e13) _ _ (e11 _ _ j1)
    have q2 := (x12.trans e13) _ _ (upd_same : upd H10 lf (HO.lst [.ref fp]) lf = some _)
    have q3 := e13 _ _ j2
    have q4 : upd H12 r (HO.lst [.ref t]) r = some (.lst [.ref t]) := upd_same
    have a13 := x13 _ _ a8
    have hex : ∀ {x : Addr} {H' : Hp}, Ex H8 H' → x ≠ a → H' x = none → H x = none := fun {x H'} ex n h => by
      cases q : H x with
      | none => rfl
      | some o => rw [ex _ _ (c8 _ _ q (by simp; exact n))] at h; cases h
    have nlfa : lf ≠ a := ne_ix kn13.nd (i := 2) (j := 7) rfl rfl (by decide)
    have nta' : t ≠ a := ne_ix kn13.nd (i := 1) (j := 7) rfl rfl (by decide)
    have nra : r ≠ a := ne_ix kn13.nd (i := 0) (j := 7) rfl rfl (by decide)
    have z1 := hex (x9.trans x10) nlfa hlf
    have z2 := hex x11 nta' ht
    have z3 := hex (x11.trans x12) nra hr0
    have ea13 := x13 _ _ (show H8 at_ = _ from k8)
    have ev13 := (x10.trans (e11.trans (x12.trans e13))) _ _ he
    have s13 := s8.ex x13
    have g13 := x13 _ _ g8
    have d13 := x13 _ _ d8
    have hs13 := (hs.tp t08).imm x13.imm
    have c13 := c8.trans x13.but
    clear x9 he j1 b10 x10 e11 x11 kn11 ht hdt ne2 j2 b12 x12 kn12 hr0 e13 x13 a8 t08 hex k8 s8 g8 d8 kn9 c8 hfp hdf ne1 hlf
    generalize upd H12 r (HO.lst [.ref t]) = H13 at *
    refine ⟨_, rfl, _, _, _, _, rfl, a13, T.c_Machine, T.n_Machine_rows, (by decide : (4 : Nat) < 1000), ?_⟩
    have i14 := immA a13 rfl (u := .ins (cMachine K) dx (putF "rows" (.ref r) [("store", .ref s), ("nodes_given", .ref g), ("built_in", .ref bi), ("atoms", .ref at_)]))
    have B14 : But [a] H13 (upd H13 a (.ins (cMachine K) dx (putF "rows" (.ref r) [("store", .ref s), ("nodes_given", .ref g), ("built_in", .ref bi), ("atoms", .ref at_)]))) := But.set (by simp)
    have a14 : upd H13 a (.ins (cMachine K) dx (putF "rows" (.ref r) [("store", .ref s), ("nodes_given", .ref g), ("built_in", .ref bi), ("atoms", .ref at_)])) a = some (.ins (cMachine K) dx [("store", .ref s), ("nodes_given", .ref g), ("built_in", .ref bi), ("atoms", .ref at_), ("rows", .ref r)]) := upd_same
    have kn14 := kn13.up a (.ins (cMachine K) dx (putF "rows" (.ref r) [("store", .ref s), ("nodes_given", .ref g), ("built_in", .ref bi), ("atoms", .ref at_)]))
    generalize upd H13 a (.ins (cMachine K) dx (putF "rows" (.ref r) [("store", .ref s), ("nodes_given", .ref g), ("built_in", .ref bi), ("atoms", .ref at_)])) = H14 at *
    refine ⟨sz (by simp), fun pr hpr => ⟨_, rfl, _, _, _, _, rfl, Ex.new hpr _ _ a14, T.c_Machine, T.n_Machine_procedures, (by decide : (5 : Nat) < 1000), ?_⟩⟩
    obtain ⟨B15, i15, r15⟩ := stp (u := .ins (cMachine K) dx (putF "procedures" (.ref pr) [("store", .ref s), ("nodes_given", .ref g), ("built_in", .ref bi), ("atoms", .ref at_), ("rows", .ref r)])) a14 (imA (.inr rfl)) hpr
    have kn15 := (kn14.new hpr (.lst [])).up a (.ins (cMachine K) dx (putF "procedures" (.ref pr) [("store", .ref s), ("nodes_given", .ref g), ("built_in", .ref bi), ("atoms", .ref at_), ("rows", .ref r)]))
    have a15 : upd (upd H14 pr (.lst [])) a (.ins (cMachine K) dx (putF "procedures" (.ref pr) [("store", .ref s), ("nodes_given", .ref g), ("built_in", .ref bi), ("atoms", .ref at_), ("rows", .ref r)])) a = some (.ins (cMachine K) dx [("store", .ref s), ("nodes_given", .ref g), ("built_in", .ref bi), ("atoms", .ref at_), ("rows", .ref r), ("procedures", .ref pr)]) := upd_same
    generalize upd (upd H14 pr (.lst [])) a (.ins (cMachine K) dx (putF "procedures" (.ref pr) [("store", .ref s), ("nodes_given", .ref g), ("built_in", .ref bi), ("atoms", .ref at_), ("rows", .ref r)])) = H15 at *
    refine ⟨sz (by simp), fun ce hce => ⟨_, rfl, _, _, _, _, rfl, Ex.new hce _ _ a15, T.c_Machine, T.n_Machine_cells, (by decide : (6 : Nat) < 1000), ?_⟩⟩
    obtain ⟨B16, i16, r16⟩ := stp (u := .ins (cMachine K) dx (putF "cells" (.ref ce) [("store", .ref s), ("nodes_given", .ref g), ("built_in", .ref bi), ("atoms", .ref at_), ("rows", .ref r), ("procedures", .ref pr)])) a15 (imA (.inr rfl)) hce
    have kn16 := (kn15.new hce (.lst [])).up a (.ins (cMachine K) dx (putF "cells" (.ref ce) [("store", .ref s), ("nodes_given", .ref g), ("built_in", .ref bi), ("atoms", .ref at_), ("rows", .ref r), ("procedures", .ref pr)]))
    have a16 : upd (upd H15 ce (.lst [])) a (.ins (cMachine K) dx (putF "cells" (.ref ce) [("store", .ref s), ("nodes_given", .ref g), ("built_in", .ref bi), ("atoms", .ref at_), ("rows", .ref r), ("procedures", .ref pr)])) a = some (.ins (cMachine K) dx [("store", .ref s), ("nodes_given", .ref g), ("built_in", .ref bi), ("atoms", .ref at_), ("rows", .ref r), ("procedures", .ref pr), ("cells", .ref ce)]) := upd_same
    generalize upd (upd H15 ce (.lst [])) a (.ins (cMachine K) dx (putF "cells" (.ref ce) [("store", .ref s), ("nodes_given", .ref g), ("built_in", .ref bi), ("atoms", .ref at_), ("rows", .ref r), ("procedures", .ref pr)])) = H16 at *
    refine ⟨sz (by simp), fun po hpo => ⟨_, rfl, _, _, _, _, rfl, Ex.new hpo _ _ a16, T.c_Machine, T.n_Machine_ports, (by decide : (7 : Nat) < 1000), ?_⟩⟩
    obtain ⟨B17, i17, r17⟩ := stp (u := .ins (cMachine K) dx (putF "ports" (.ref po) [("store", .ref s), ("nodes_given", .ref g), ("built_in", .ref bi), ("atoms", .ref at_), ("rows", .ref r), ("procedures", .ref pr), ("cells", .ref ce)])) a16 (imA (.inr rfl)) hpo
    have kn17 := (kn16.new hpo (.lst [])).up a (.ins (cMachine K) dx (putF "ports" (.ref po) [("store", .ref s), ("nodes_given", .ref g), ("built_in", .ref bi), ("atoms", .ref at_), ("rows", .ref r), ("procedures", .ref pr), ("cells", .ref ce)]))
    have a17 : upd (upd H16 po (.lst [])) a (.ins (cMachine K) dx (putF "ports" (.ref po) [("store", .ref s), ("nodes_given", .ref g), ("built_in", .ref bi), ("atoms", .ref at_), ("rows", .ref r), ("procedures", .ref pr), ("cells", .ref ce)])) a = some (.ins (cMachine K) dx [("store", .ref s), ("nodes_given", .ref g), ("built_in", .ref bi), ("atoms", .ref at_), ("rows", .ref r), ("procedures", .ref pr), ("cells", .ref ce), ("ports", .ref po)]) := upd_same
    generalize upd (upd H16 po (.lst [])) a (.ins (cMachine K) dx (putF "ports" (.ref po) [("store", .ref s), ("nodes_given", .ref g), ("built_in", .ref bi), ("atoms", .ref at_), ("rows", .ref r), ("procedures", .ref pr), ("cells", .ref ce)])) = H17 at *
    refine ⟨sz (by simp), fun tr htr => ⟨_, rfl, _, _, _, _, rfl, Ex.new htr _ _ a17, T.c_Machine, T.n_Machine_triggers, (by decide : (8 : Nat) < 1000), ?_⟩⟩
    obtain ⟨B18, i18, r18⟩ := stp (u := .ins (cMachine K) dx (putF "triggers" (.ref tr) [("store", .ref s), ("nodes_given", .ref g), ("built_in", .ref bi), ("atoms", .ref at_), ("rows", .ref r), ("procedures", .ref pr), ("cells", .ref ce), ("ports", .ref po)])) a17 (imA (.inr rfl)) htr
    have kn18 := (kn17.new htr (.lst [])).up a (.ins (cMachine K) dx (putF "triggers" (.ref tr) [("store", .ref s), ("nodes_given", .ref g), ("built_in", .ref bi), ("atoms", .ref at_), ("rows", .ref r), ("procedures", .ref pr), ("cells", .ref ce), ("ports", .ref po)]))
    have a18 : upd (upd H17 tr (.lst [])) a (.ins (cMachine K) dx (putF "triggers" (.ref tr) [("store", .ref s), ("nodes_given", .ref g), ("built_in", .ref bi), ("atoms", .ref at_), ("rows", .ref r), ("procedures", .ref pr), ("cells", .ref ce), ("ports", .ref po)])) a = some (.ins (cMachine K) dx [("store", .ref s), ("nodes_given", .ref g), ("built_in", .ref bi), ("atoms", .ref at_), ("rows", .ref r), ("procedures", .ref pr), ("cells", .ref ce), ("ports", .ref po), ("triggers", .ref tr)]) := upd_same
    generalize upd (upd H17 tr (.lst [])) a (.ins (cMachine K) dx (putF "triggers" (.ref tr) [("store", .ref s), ("nodes_given", .ref g), ("built_in", .ref bi), ("atoms", .ref at_), ("rows", .ref r), ("procedures", .ref pr), ("cells", .ref ce), ("ports", .ref po)])) = H18 at *
    refine ⟨_, rfl, _, _, _, _, rfl, a18, T.c_Machine, T.n_Machine_taken, (by decide : (9 : Nat) < 1000), ?_⟩
    let L : Lay := ⟨a, s, ln, lp, g, r, pr, ce, po, tr, bi, at_, [(t, lf)]⟩
    have B19 : But [a] H18 (upd H18 a (.ins (cMachine K) dx (fM L 0))) := But.set (by simp)
    have i19 : Imm H18 (upd H18 a (.ins (cMachine K) dx (fM L 0))) := Imm.set a18 (imA (.inr rfl))
    show Q .non (upd H18 a (.ins (cMachine K) dx (fM L 0)))
    have a19 : upd H18 a (.ins (cMachine K) dx (fM L 0)) a = some (.ins (cMachine K) dx (fM L 0)) := upd_same
    have knF := kn18
    generalize upd H18 a (.ins (cMachine K) dx (fM L 0)) = H19 at *
    have B5 := B18.trans B19
    have B4 := B17.trans B5
    have B3 := B16.trans B4
    have B2 := B15.trans B3
    have B1 := B14.trans B2
    have iF := i14.trans (i15.trans (i16.trans (i17.trans (i18.trans i19))))
    have npr : pr ≠ a := ne_ix knF.nd (i := 3) (j := 11) rfl rfl (by decide)
    have nce : ce ≠ a := ne_ix knF.nd (i := 2) (j := 11) rfl rfl (by decide)
    have npo : po ≠ a := ne_ix knF.nd (i := 1) (j := 11) rfl rfl (by decide)
    have ntr : tr ≠ a := ne_ix knF.nd (i := 0) (j := 11) rfl rfl (by decide)
    have back : ∀ {x : Addr} {H' : Hp}, But [a] H13 H' → x ≠ a → H' x = none → H x = none := fun {x H'} b n h => by
      cases q : H x with
      | none => rfl
      | some o => rw [b _ _ (c13 _ _ q (by simp; exact n)) (by simp; exact n)] at h; cases h
    refine k L H19 ⟨?_, ⟨dx, a19⟩, s13.but B1 iF (by simp; exact nas.symm) (by simp; exact nal.symm) (by simp; exact nap.symm), B1 _ _ g13 (by simp; exact nga), B1 _ _ q4 (by simp; exact nra), B3 _ _ r15 (by simp; exact npr), B4 _ _ r16 (by simp; exact nce), B5 _ _ r17 (by simp; exact npo), B19 _ _ r18 (by simp; exact ntr),
      ⟨_, B1 _ _ d13 (by simp; exact nba)⟩, ⟨_, B1 _ _ ea13 (by simp; exact nta)⟩, .cons ⟨⟨dt, B1 _ _ q3 (by simp; exact nta')⟩, ⟨[.ref fp], B1 _ _ q2 (by simp; exact nlfa), .cons ⟨fp, df, sv, ea, rfl, iF _ _ q1 rfl, hs13.imm iF, iF _ _ ev13 trivial⟩ .nil⟩⟩ .nil⟩ rfl (c13.trans B1) (fun x hx => ?_)
    · have e : [tr, po, ce, pr, r, t, lf, g, lp, ln, s, a].Perm L.own := by
        show [tr, po, ce, pr, r, t, lf, g, lp, ln, s, a].Perm [a, s, ln, lp, g, r, pr, ce, po, tr, t, lf]
        refine List.perm_iff_count.mpr fun x => ?_
        simp only [List.count_cons, List.count_nil]
        omega
      exact e.nodup_iff.mp knF.nd
    · have hx : x ∈ [a, s, ln, lp, g, r, pr, ce, po, tr, t, lf] := hx
      simp only [List.mem_cons, List.not_mem_nil, or_false] at hx
      rcases hx with e | e | e | e | e | e | e | e | e | e | e | e
      · exact .inl e
      · rw [e]; exact .inr hsn
      · rw [e]; exact .inr n1'
      · rw [e]; exact .inr n2'
      · rw [e]; exact .inr hg0
      · rw [e]; exact .inr z3
      · rw [e]; exact .inr (back B14 npr hpr)
      · rw [e]; exact .inr (back (B14.trans B15) nce hce)
      · rw [e]; exact .inr (back (B14.trans (B15.trans B16)) npo hpo)
      · rw [e]; exact .inr (back (B14.trans (B15.trans (B16.trans B17))) ntr htr)
      · rw [e]; exact .inr z2
      · rw [e]; exact .inr z1
end
end Lw
namespace Lw
open PySem PySem.Spec PyProof.Rows L2
theorem Kn.snoc {H H' : Hp} {l : List Addr} (k : Kn H l) {p : Addr} (h : H p = none) (h' : H' p ≠ none) (x : ∀ y ∈ l, H' y ≠ none) : Kn H' (l ++ [p]) :=
  ⟨by
    rw [List.nodup_append]
    refine ⟨k.nd, by simp, fun a ha b hb e => ?_⟩
    rw [List.mem_singleton.mp hb] at e
    exact k.kn a ha (by rw [e]; exact h), fun y hy => by
    rcases List.mem_append.mp hy with e | e
    · exact x y e
    · rw [List.mem_singleton.mp e]; exact h'⟩
theorem some_ne {H : Hp} {a : Addr} {o : HO} (h : H a = some o) : H a ≠ none := by rw [h]; exact fun z => nomatch z
abbrev fm (s g bi at_ r pr ce po tr : Addr) (tk : Nat) : List (Str × V) := [("store", .ref s), ("nodes_given", .ref g), ("built_in", .ref bi), ("atoms", .ref at_), ("rows", .ref r), ("procedures", .ref pr), ("cells", .ref ce), ("ports", .ref po), ("triggers", .ref tr), ("taken", nV tk)]
theorem imm_fm {C dx s g bi at_ r pr ce po tr : Addr} {tk : Nat} : ¬ imm (.ins C dx (fm s g bi at_ r pr ce po tr tk)) := fun h => absurd (show ("store" : Str) = "statement" from Option.some.inj h) (by decide +kernel)
/-- what new objects leave, then the object x is changed -/
structure Stg (H : Hp) (x : Addr) (H1 : Hp) : Prop where
  b : But [x] H H1
  i : Imm H H1
theorem stg {H Hm : Hp} {x : Addr} {o u : HO} (hx : H x = some o) (ni : ¬ imm o) (e : Ex H Hm) : Stg H x (upd Hm x u) := ⟨e.but.trans (But.set (by simp)), e.imm.trans (Imm.set (e _ _ hx) ni)⟩
theorem Stg.trans {H H1 H2 : Hp} {x : Addr} (a : Stg H x H1) (b : Stg H1 x H2) : Stg H x H2 := ⟨a.b.trans b.b, a.i.trans b.i⟩
theorem exx {H Hk Hm : Hp} {x : Addr} {u : HO} (hxH : H x = none) (E : Ex H Hk) (e : Ex Hk Hm) : Ex H (upd Hm x u) := fun a o h => by
  rw [upd_ne (ne_of_none h hxH)]
  exact e _ _ (E _ _ h)
theorem stl {H Hk : Hp} {x n : Addr} {o u v : HO} {l : List Addr} (hxH : H x = none) (E : Ex H Hk) (ob : Hk x = some o) (ni : ¬ imm o) (hn : Hk n = none) (kn : Kn Hk l) :
    Ex H (upd (upd Hk n v) x u) ∧ Stg Hk x (upd (upd Hk n v) x u) ∧ upd (upd Hk n v) x u x = some u ∧ upd (upd Hk n v) x u n = some v ∧ Kn (upd (upd Hk n v) x u) (l ++ [n]) ∧ Kn (upd (upd Hk n v) x u) l ∧ H n = none ∧ n ≠ x := by
  have nx : n ≠ x := fun z => by rw [z, ob] at hn; cases hn
  have q : upd (upd Hk n v) x u n = some v := (upd_ne nx).trans upd_same
  have kl : ∀ y ∈ l, upd (upd Hk n v) x u y ≠ none := fun y hy => upd_some (upd_some (kn.kn y hy))
  exact ⟨exx hxH E (Ex.new hn), stg ob ni (Ex.new hn), upd_same, q, kn.snoc hn (some_ne q) kl, ⟨kn.nd, kl⟩, E.free hn, nx⟩
section
variable {P : Program} {w : World} {K : PySem.W.Frag} {mg : Str → Option Value} {base : Heap}
def spMCopy (K : PySem.W.Frag) : Sp := fun vs H Q _ => ∃ (L : Lay) (M : Mm), vs = [.ref L.a] ∧ MachAt K H L M ∧ M.Ok ∧ M.gv.length ≤ 100 ∧ ∀ L' H', MachAt K H' L' M → Ex H H' → (∀ x ∈ L'.own, H x = none) → Q (.ref L'.a) H'
theorem m_mcopy (T : Tx K mg) : Met P w K mg base 6 (cMachine K) "copy" (spMCopy K) := by
  have sc : FnScope ["self", "other", "row"] ["self"] (defScope s_Machine_copy) := ⟨rfl, rfl, rfl, by decide +kernel, rfl, by decide +kernel, by decide +kernel⟩
  refine met_ T.c_Machine T.m_Machine_copy T.f_Machine_copy sc (fun _ _ _ _ _ _ us hl => match us, hl with | [_], _ => rfl) (fun vs H Q E h => ?_) (fun cdv A outer s H vs Q E hr h => ?_)
  · obtain ⟨_, _, rfl, _⟩ := h
    rfl
  · obtain ⟨L, M, rfl, m, ok, hgl, k⟩ := h
    obtain ⟨dx, ho⟩ := m.ob
    obtain ⟨ds, hs⟩ := m.so.ob
    obtain ⟨vb, hbi⟩ := m.bi
    obtain ⟨va, hat⟩ := m.at_
    refine ⟨_, pss_cons (ps_set (i := 1) sc.nd rfl (Or.inl rfl) (pe_mk (k_machine T) hr (pa_cons (pe_tup (pa_cons (pe_tup pa_nil) (pa_cons (pe_tup (pa_cons pe_str pa_nil)) pa_nil))) pa_nil)))
      (pss_cons (ps_fld (pv 1) (pe_mt0 (m_scopy T) hr (pe_fld (pv 0) rfl)) rfl)
      (pss_cons (ps_fld (pv 1) (pe_callTy call_list_of (by rfl) T.z_list (by decide +kernel) (pa_cons (pe_fld (pv 0) rfl) pa_nil)) rfl)
      (pss_cons (ps_fld (pv 1) (pe_callTy call_dictD (by rfl) T.z_dict (by decide +kernel) (pa_cons (pe_fld (pv 0) rfl) pa_nil)) rfl)
      (pss_cons (ps_fld (pv 1) (pe_callTy call_dictD (by rfl) T.z_dict (by decide +kernel) (pa_cons (pe_fld (pv 0) rfl) pa_nil)) rfl)
      (pss_cons (ps_fld (pv 1) (pe_lc (own := [("row", 2)]) (g := gName 2) (te := tMt (cThread K) "copy" (spTCopy K) (tVar 2) tNil) rfl sc.nd (pi_list (pe_fld (pv 0) rfl))
        (blkOk_by (N := ["self", "other", "row"]) (sc := defScope s_Machine_copy) (by decide +kernel)) (fun _ _ _ _ _ => pg_name (i := 2) sc.nd rfl (Or.inl rfl)) (fun _ _ _ _ _ => pts_nil) (fun _ _ _ _ _ => pe_mt0 (m_tcopy T) hr (pv 2))) rfl)
      (pss_cons (ps_fld (pv 1) (pe_callTy call_list_of (by rfl) T.z_list (by decide +kernel) (pa_cons (pe_fld (pv 0) rfl) pa_nil)) rfl)
      (pss_cons (ps_fld (pv 1) (pe_callTy call_list_of (by rfl) T.z_list (by decide +kernel) (pa_cons (pe_fld (pv 0) rfl) pa_nil)) rfl)
      (pss_cons (ps_fld (pv 1) (pe_callTy call_list_of (by rfl) T.z_list (by decide +kernel) (pa_cons (pe_fld (pv 0) rfl) pa_nil)) rfl)
      (pss_cons (ps_fld (pv 1) (pe_callTy call_list_of (by rfl) T.z_list (by decide +kernel) (pa_cons (pe_fld (pv 0) rfl) pa_nil)) rfl)
      (pss_cons (ps_fld (pv 1) (pe_fld (pv 0) rfl) rfl)
      (pss_one (ps_ret (pv 1))))))))))))), ?_⟩
    refine ⟨sz (by simp), fun u1 hu1 => ⟨sz (by simp), fun u2 hu2 => ⟨sz (by simp), fun u3 hu3 => ?_⟩⟩⟩
    have e1 := Ex.new (o := .tup []) hu1
    have e2 := Ex.new (o := .tup [.str "skip"]) hu2
    have e3 := Ex.new (o := .tup [.ref u1, .ref u2]) hu3
    have x3 := e1.trans (e2.trans e3)
    have q1 := (e2.trans e3) _ _ (upd_same : upd H u1 (HO.tup []) u1 = some _)
    have q2 := e3 _ _ (upd_same : upd (upd H u1 (HO.tup [])) u2 (HO.tup [.str "skip"]) u2 = some _)
    have q3 : upd (upd (upd H u1 (HO.tup [])) u2 (HO.tup [.str "skip"])) u3 (HO.tup [.ref u1, .ref u2]) u3 = some _ := upd_same
    clear e1 e2 e3
    generalize upd (upd (upd H u1 (HO.tup [])) u2 (HO.tup [.str "skip"])) u3 (HO.tup [.ref u1, .ref u2]) = H0 at *
    intro x dx0 hx hdx ne
    have w1 : ∀ {a o}, H0 a = some o → upd (upd H0 dx0 (.own x)) x (.ins (cMachine K) dx0 []) a = some o := fun {a o} h => by
      rw [upd_ne (ne_of_none h hx), upd_ne (ne_of_none h hdx)]; exact h
    refine ⟨x, dx0, u3, u1, [], .ref u2, .skip, rfl, upd_same, w1 q3, w1 q1, ⟨u2, rfl, w1 q2⟩, by simp, fun L0 H1 m0 eL b1 fr1 => ⟨rfl, ?_⟩⟩
    have x01 := made_ex hx hdx ne b1
    have X1 := x3.trans x01
    have hxH : H x = none := x3.free hx
    obtain ⟨dz, ob0⟩ := m0.ob
    rw [eL] at ob0
    replace ob0 : H1 x = some (.ins (cMachine K) dz (fm L0.s L0.g L0.bi L0.at_ L0.r L0.pr L0.ce L0.po L0.tr 0)) := ob0
    clear w1 q1 q2 q3 b1 fr1 m0 x01 x3 eL
    -- store
    refine ⟨_, rfl, _, _, _, _, _, rfl, X1 _ _ ho, T.c_Machine, T.n_Machine_store, rfl, _, _, _, rfl, X1 _ _ hs, rfl, L.s, L.ln, L.lp, M.so, rfl, m.so.ex X1, by have := ok.sz; omega, by rw [ok.wf.len]; exact ok.sz, fun s' ln' lp' H2 s2 x2 n1 n2 n3 => ?_⟩
    refine ⟨_, rfl, _, _, _, _, rfl, x2 _ _ ob0, T.c_Machine, T.n_Machine_store, (by decide : (10 : Nat) < 1000), ?_⟩
    have S3 := stg (u := .ins (cMachine K) dz (putF "store" (.ref s') (fm L0.s L0.g L0.bi L0.at_ L0.r L0.pr L0.ce L0.po L0.tr 0))) ob0 imm_fm x2
    have E3 : Ex H (upd H2 x (.ins (cMachine K) dz (putF "store" (.ref s') (fm L0.s L0.g L0.bi L0.at_ L0.r L0.pr L0.ce L0.po L0.tr 0)))) := exx hxH X1 x2
    have ob3 : upd H2 x (.ins (cMachine K) dz (putF "store" (.ref s') (fm L0.s L0.g L0.bi L0.at_ L0.r L0.pr L0.ce L0.po L0.tr 0))) x = some (.ins (cMachine K) dz (fm s' L0.g L0.bi L0.at_ L0.r L0.pr L0.ce L0.po L0.tr 0)) := upd_same
    have nx1 : s' ≠ x := fun z => by rw [z, ob0] at n1; cases n1
    have nx2 : ln' ≠ x := fun z => by rw [z, ob0] at n2; cases n2
    have nx3 : lp' ≠ x := fun z => by rw [z, ob0] at n3; cases n3
    obtain ⟨dS, oS⟩ := s2.ob
    obtain ⟨vS, oN, oN2⟩ := s2.ns
    have kn3 : Kn (upd H2 x (.ins (cMachine K) dz (putF "store" (.ref s') (fm L0.s L0.g L0.bi L0.at_ L0.r L0.pr L0.ce L0.po L0.tr 0)))) [x, s', ln', lp'] := by
      refine ⟨?_, fun y hy => ?_⟩
      · have h1 : s' ≠ ln' := ne_of oS oN (fun z => nomatch z)
        have h2 : s' ≠ lp' := ne_of oS s2.ps (fun z => nomatch z)
        simp [nx1.symm, nx2.symm, nx3.symm, h1, h2, s2.ne]
      · simp only [List.mem_cons, List.not_mem_nil, or_false] at hy
        rcases hy with e | e | e | e
        · rw [e]; exact some_ne ob3
        · rw [e]; exact upd_some (some_ne oS)
        · rw [e]; exact upd_some (some_ne oN)
        · rw [e]; exact upd_some (some_ne s2.ps)
    have s3 : SoAt K (upd H2 x (.ins (cMachine K) dz (putF "store" (.ref s') (fm L0.s L0.g L0.bi L0.at_ L0.r L0.pr L0.ce L0.po L0.tr 0)))) s' ln' lp' M.so := s2.but (F := [x]) (But.set (by simp)) (Imm.set (x2 _ _ ob0) imm_fm) (by simp; exact nx1) (by simp; exact nx2) (by simp; exact nx3)
    have z1 := X1.free n1
    have z2 := X1.free n2
    have z3 := X1.free n3
    clear S3 oN2 oN oS vS dS s2 x2 n1 n2 n3 ob0
    generalize upd H2 x (.ins (cMachine K) dz (putF "store" (.ref s') (fm L0.s L0.g L0.bi L0.at_ L0.r L0.pr L0.ce L0.po L0.tr 0))) = H3 at *
    refine ⟨_, rfl, _, _, _, _, _, rfl, E3 _ _ ho, T.c_Machine, T.n_Machine_nodes_given, rfl, L.g, _, rfl, .inl (SqL.of (E3 _ _ m.gv)), fun g' hn3 => ?_⟩
    refine ⟨_, rfl, _, _, _, _, rfl, Ex.new hn3 _ _ ob3, T.c_Machine, T.n_Machine_nodes_given, (by decide : (10 : Nat) < 1000), ?_⟩
    obtain ⟨E4, S4, ob4, q_g, kt4, ku4, z_g, nx_g⟩ := stl (u := .ins (cMachine K) dz (putF "nodes_given" (.ref g') (fm s' L0.g L0.bi L0.at_ L0.r L0.pr L0.ce L0.po L0.tr 0))) (v := (.lst (M.gv.map nV))) hxH E3 ob3 imm_fm hn3 kn3
    have kn4 := kt4
    generalize upd (upd H3 g' (.lst (M.gv.map nV))) x (.ins (cMachine K) dz (putF "nodes_given" (.ref g') (fm s' L0.g L0.bi L0.at_ L0.r L0.pr L0.ce L0.po L0.tr 0))) = H4 at *
    replace ob4 : H4 x = some (.ins (cMachine K) dz (fm s' g' L0.bi L0.at_ L0.r L0.pr L0.ce L0.po L0.tr 0)) := ob4
    clear kt4 ku4
    refine ⟨_, rfl, _, _, _, _, _, rfl, E4 _ _ ho, T.c_Machine, T.n_Machine_built_in, rfl, L.bi, _, rfl, .inl (E4 _ _ hbi), fun bi' hn4 => ?_⟩
    refine ⟨_, rfl, _, _, _, _, rfl, Ex.new hn4 _ _ ob4, T.c_Machine, T.n_Machine_built_in, (by decide : (10 : Nat) < 1000), ?_⟩
    obtain ⟨E5, S5, ob5, q_bi, kt5, ku5, z_bi, nx_bi⟩ := stl (u := .ins (cMachine K) dz (putF "built_in" (.ref bi') (fm s' g' L0.bi L0.at_ L0.r L0.pr L0.ce L0.po L0.tr 0))) (v := (.dK vb)) hxH E4 ob4 imm_fm hn4 kn4
    have kn5 := ku5
    generalize upd (upd H4 bi' (.dK vb)) x (.ins (cMachine K) dz (putF "built_in" (.ref bi') (fm s' g' L0.bi L0.at_ L0.r L0.pr L0.ce L0.po L0.tr 0))) = H5 at *
    replace ob5 : H5 x = some (.ins (cMachine K) dz (fm s' g' bi' L0.at_ L0.r L0.pr L0.ce L0.po L0.tr 0)) := ob5
    clear kt5 ku5
    refine ⟨_, rfl, _, _, _, _, _, rfl, E5 _ _ ho, T.c_Machine, T.n_Machine_atoms, rfl, L.at_, _, rfl, .inl (E5 _ _ hat), fun at' hn5 => ?_⟩
    refine ⟨_, rfl, _, _, _, _, rfl, Ex.new hn5 _ _ ob5, T.c_Machine, T.n_Machine_atoms, (by decide : (10 : Nat) < 1000), ?_⟩
    obtain ⟨E6, S6, ob6, q_at_, kt6, ku6, z_at_, nx_at_⟩ := stl (u := .ins (cMachine K) dz (putF "atoms" (.ref at') (fm s' g' bi' L0.at_ L0.r L0.pr L0.ce L0.po L0.tr 0))) (v := (.dK va)) hxH E5 ob5 imm_fm hn5 kn5
    have kn6 := ku6
    generalize upd (upd H5 at' (.dK va)) x (.ins (cMachine K) dz (putF "atoms" (.ref at') (fm s' g' bi' L0.at_ L0.r L0.pr L0.ce L0.po L0.tr 0))) = H6 at *
    replace ob6 : H6 x = some (.ins (cMachine K) dz (fm s' g' bi' at' L0.r L0.pr L0.ce L0.po L0.tr 0)) := ob6
    clear kt6 ku6
    -- rows
    refine ⟨_, rfl, _, _, _, _, _, rfl, E6 _ _ ho, T.c_Machine, T.n_Machine_rows, rfl, L.r, rfl, ⟨_, SqL.of (E6 _ _ m.rw_)⟩, fun r' hr0 => ?_⟩
    have e0 := Ex.new (o := .lst []) hr0
    have kr0 := kn6.snoc hr0 (some_ne (upd_same : upd H6 r' (HO.lst []) r' = some _)) (fun y hy => upd_some (kn6.kn y hy))
    have zr := E6.free hr0
    refine lc_it (walk_list (K := K) (a := L.r) (xs := L.ts.map fun p => V.ref p.1)) (fun i H' => But [r'] H6 H' ∧ ∃ ts : List (Addr × Addr), H' r' = some (.lst (ts.map fun p => V.ref p.1)) ∧ Paired (fun p T => ThAt K H' p.1 p.2 T) ts (M.rows.take i) ∧ Kn H' ([x, s', ln', lp', g', r'] ++ flat ts) ∧ ∀ y ∈ flat ts, H y = none)
      ⟨e0.but, [], upd_same, .nil, by simpa [flat] using kr0, by simp [flat]⟩ (fun i H' _ p => SqL.of (p.1.exN (none1 hr0) _ _ (E6 _ _ m.rw_))) (fun i v H' H'' hi p y => ?_) (fun H' p => ?_)
    · obtain ⟨rfl, hv⟩ := y
      obtain ⟨b, ts, c1, c2, c3, c4⟩ := p
      have xb := b.exN (none1 hr0)
      have XX := E6.trans xb
      rw [List.getElem?_map] at hv
      obtain ⟨⟨ta, lf⟩, et, rfl⟩ := Option.map_eq_some_iff.mp hv
      have hi2 : i < M.rows.length := by rw [← m.len]; simpa using hi
      have eT : M.rows[i]? = some M.rows[i] := List.getElem?_eq_getElem hi2
      have hT := pr_2 m.ts et eT
      obtain ⟨⟨dt, o1⟩, us, o2, o3⟩ := hT
      have mT : ThAt K H'' ta lf M.rows[i] := ⟨⟨dt, XX _ _ o1⟩, ⟨us, XX _ _ o2, pr_imp (fun _ _ q => q.imm XX.imm) o3⟩⟩
      refine ⟨rfl, _, rfl, _, _, _, rfl, XX _ _ o1, rfl, ta, lf, M.rows[i], rfl, mT, ok.fr _ (List.getElem_mem hi2), fun t2 l2 H4 th4 x4 y1 y2 y3 => ?_⟩
      have lt := pr_len c2
      rw [List.length_take] at lt
      have ht := ok.th
      obtain ⟨⟨d4, p1⟩, us4, p2, p3⟩ := th4
      have nr1 : t2 ≠ r' := fun z => by rw [z, c1] at y1; cases y1
      have nr2 : l2 ≠ r' := fun z => by rw [z, c1] at y2; cases y2
      have st : Imm H4 (upd H4 r' (.lst ((ts.map fun p => V.ref p.1) ++ [.ref t2]))) := Imm.set (x4 _ _ c1) imm_lst
      refine ⟨_, x4 _ _ c1, szl (by rw [List.length_map]; omega), b.trans (x4.but.trans (But.set (by simp))), ts ++ [(t2, l2)], by rw [upd_same, List.map_append]; rfl, ?_, ?_, ?_⟩
      · rw [List.take_succ, eT]
        refine pr_app (pr_of ?_ fun j q T hq hTj => ?_) (.cons ⟨⟨d4, (upd_ne nr1).trans p1⟩, ⟨us4, (upd_ne nr2).trans p2, pr_imp (fun _ _ q => q.imm st) p3⟩⟩ .nil)
        · exact pr_len c2
        · have c5 := pr_2 c2 hq hTj
          obtain ⟨⟨d6, g1⟩, us6, g2, g3⟩ := c5
          have m1 : q.1 ∈ flat ts := mem_ix (flat_fst hq)
          have m2 : q.2 ∈ flat ts := mem_ix (flat_snd hq)
          have nd := c3.nd
          rw [List.nodup_append] at nd
          have k1 : q.1 ≠ r' := fun z => nd.2.2 r' (by simp) q.1 m1 z.symm
          have k2 : q.2 ≠ r' := fun z => nd.2.2 r' (by simp) q.2 m2 z.symm
          exact ⟨⟨d6, (upd_ne k1).trans (x4 _ _ g1)⟩, ⟨us6, (upd_ne k2).trans (x4 _ _ g2), pr_imp (fun _ _ q => (q.imm x4.imm).imm st) g3⟩⟩
      · rw [flat_app, ← List.append_assoc]
        have k1 := c3.snoc y1 (some_ne p1) ((c3.ex x4).kn)
        have k2 : Kn H4 (([x, s', ln', lp', g', r'] ++ flat ts ++ [t2]) ++ [l2]) := ⟨by
          rw [List.nodup_append]
          refine ⟨k1.nd, by simp, fun a ha c hc e => ?_⟩
          rw [List.mem_singleton.mp hc] at e
          rcases List.mem_append.mp ha with h | h
          · exact c3.kn a h (by rw [e]; exact y2)
          · exact y3 ((List.mem_singleton.mp h).symm.trans e), fun y hy => by
          rcases List.mem_append.mp hy with h | h
          · exact k1.kn y h
          · rw [List.mem_singleton.mp h]; exact some_ne p2⟩
        have k3 := k2.up r' (.lst ((ts.map fun p => V.ref p.1) ++ [.ref t2]))
        simpa [flat] using k3
      · intro y hy
        rw [flat_app, List.mem_append] at hy
        rcases hy with h | h
        · exact c4 y h
        · have h : y ∈ [t2, l2] := h
          simp only [List.mem_cons, List.not_mem_nil, or_false] at h
          rcases h with h | h
          · rw [h]; exact XX.free y1
          · rw [h]; exact XX.free y2
    obtain ⟨b, ts, c1, c2, c3, c4⟩ := p
    rw [List.length_map, m.len, List.take_length] at c2
    have xb := b.exN (none1 hr0)
    have nd := c3.nd
    have kr := c3.kn r' (by simp)
    have nrx : r' ≠ x := ne_ix nd (i := 5) (j := 0) rfl rfl (by decide)
    have nts : ∀ y ∈ flat ts, y ≠ x := fun y hy e => by
      rw [List.nodup_append] at nd
      exact nd.2.2 x (by simp) y hy e.symm
    refine ⟨_, rfl, _, _, _, _, rfl, xb _ _ ob6, T.c_Machine, T.n_Machine_rows, (by decide : (10 : Nat) < 1000), ?_⟩
    have S7 := stg (u := .ins (cMachine K) dz (putF "rows" (.ref r') (fm s' g' bi' at' L0.r L0.pr L0.ce L0.po L0.tr 0))) ob6 imm_fm xb
    have E7 : Ex H (upd H' x (.ins (cMachine K) dz (putF "rows" (.ref r') (fm s' g' bi' at' L0.r L0.pr L0.ce L0.po L0.tr 0)))) := exx hxH E6 xb
    have q_r : upd H' x (.ins (cMachine K) dz (putF "rows" (.ref r') (fm s' g' bi' at' L0.r L0.pr L0.ce L0.po L0.tr 0))) r' = some (.lst (ts.map fun p => V.ref p.1)) := (upd_ne nrx).trans c1
    have it7 : Imm H' (upd H' x (.ins (cMachine K) dz (putF "rows" (.ref r') (fm s' g' bi' at' L0.r L0.pr L0.ce L0.po L0.tr 0)))) := Imm.set (xb _ _ ob6) imm_fm
    have th7 : Paired (fun p T => ThAt K (upd H' x (.ins (cMachine K) dz (putF "rows" (.ref r') (fm s' g' bi' at' L0.r L0.pr L0.ce L0.po L0.tr 0)))) p.1 p.2 T) ts M.rows := pr_of (pr_len c2) fun j q T hq hTj => by
      obtain ⟨⟨d6, g1⟩, us6, g2, g3⟩ := pr_2 c2 hq hTj
      exact ⟨⟨d6, (upd_ne (nts _ (mem_ix (flat_fst hq)))).trans g1⟩, ⟨us6, (upd_ne (nts _ (mem_ix (flat_snd hq)))).trans g2, pr_imp (fun _ _ q => q.imm it7) g3⟩⟩
    have kn7 := c3.up x (.ins (cMachine K) dz (putF "rows" (.ref r') (fm s' g' bi' at' L0.r L0.pr L0.ce L0.po L0.tr 0)))
    have ob7 : upd H' x (.ins (cMachine K) dz (putF "rows" (.ref r') (fm s' g' bi' at' L0.r L0.pr L0.ce L0.po L0.tr 0))) x = some (.ins (cMachine K) dz (fm s' g' bi' at' r' L0.pr L0.ce L0.po L0.tr 0)) := upd_same
    generalize upd H' x (.ins (cMachine K) dz (putF "rows" (.ref r') (fm s' g' bi' at' L0.r L0.pr L0.ce L0.po L0.tr 0))) = H7 at *
    clear it7 c1 c2 c3
    refine ⟨_, rfl, _, _, _, _, _, rfl, E7 _ _ ho, T.c_Machine, T.n_Machine_procedures, rfl, L.pr, _, rfl, .inl (SqL.of (E7 _ _ m.pr)), fun pr' hn7 => ?_⟩
    refine ⟨_, rfl, _, _, _, _, rfl, Ex.new hn7 _ _ ob7, T.c_Machine, T.n_Machine_procedures, (by decide : (10 : Nat) < 1000), ?_⟩
    obtain ⟨E8, S8, ob8, q_pr, kt8, ku8, z_pr, nx_pr⟩ := stl (u := .ins (cMachine K) dz (putF "procedures" (.ref pr') (fm s' g' bi' at' r' L0.pr L0.ce L0.po L0.tr 0))) (v := (.lst [])) hxH E7 ob7 imm_fm hn7 kn7
    have kn8 := kt8
    generalize upd (upd H7 pr' (.lst [])) x (.ins (cMachine K) dz (putF "procedures" (.ref pr') (fm s' g' bi' at' r' L0.pr L0.ce L0.po L0.tr 0))) = H8 at *
    replace ob8 : H8 x = some (.ins (cMachine K) dz (fm s' g' bi' at' r' pr' L0.ce L0.po L0.tr 0)) := ob8
    clear kt8 ku8
    refine ⟨_, rfl, _, _, _, _, _, rfl, E8 _ _ ho, T.c_Machine, T.n_Machine_cells, rfl, L.ce, _, rfl, .inl (SqL.of (E8 _ _ m.ce)), fun ce' hn8 => ?_⟩
    refine ⟨_, rfl, _, _, _, _, rfl, Ex.new hn8 _ _ ob8, T.c_Machine, T.n_Machine_cells, (by decide : (10 : Nat) < 1000), ?_⟩
    obtain ⟨E9, S9, ob9, q_ce, kt9, ku9, z_ce, nx_ce⟩ := stl (u := .ins (cMachine K) dz (putF "cells" (.ref ce') (fm s' g' bi' at' r' pr' L0.ce L0.po L0.tr 0))) (v := (.lst [])) hxH E8 ob8 imm_fm hn8 kn8
    have kn9 := kt9
    generalize upd (upd H8 ce' (.lst [])) x (.ins (cMachine K) dz (putF "cells" (.ref ce') (fm s' g' bi' at' r' pr' L0.ce L0.po L0.tr 0))) = H9 at *
    replace ob9 : H9 x = some (.ins (cMachine K) dz (fm s' g' bi' at' r' pr' ce' L0.po L0.tr 0)) := ob9
    clear kt9 ku9
    refine ⟨_, rfl, _, _, _, _, _, rfl, E9 _ _ ho, T.c_Machine, T.n_Machine_ports, rfl, L.po, _, rfl, .inl (SqL.of (E9 _ _ m.po)), fun po' hn9 => ?_⟩
    refine ⟨_, rfl, _, _, _, _, rfl, Ex.new hn9 _ _ ob9, T.c_Machine, T.n_Machine_ports, (by decide : (10 : Nat) < 1000), ?_⟩
    obtain ⟨E10, S10, ob10, q_po, kt10, ku10, z_po, nx_po⟩ := stl (u := .ins (cMachine K) dz (putF "ports" (.ref po') (fm s' g' bi' at' r' pr' ce' L0.po L0.tr 0))) (v := (.lst [])) hxH E9 ob9 imm_fm hn9 kn9
    have kn10 := kt10
    generalize upd (upd H9 po' (.lst [])) x (.ins (cMachine K) dz (putF "ports" (.ref po') (fm s' g' bi' at' r' pr' ce' L0.po L0.tr 0))) = H10 at *
    replace ob10 : H10 x = some (.ins (cMachine K) dz (fm s' g' bi' at' r' pr' ce' po' L0.tr 0)) := ob10
    clear kt10 ku10
    refine ⟨_, rfl, _, _, _, _, _, rfl, E10 _ _ ho, T.c_Machine, T.n_Machine_triggers, rfl, L.tr, _, rfl, .inl (SqL.of (E10 _ _ m.tr)), fun tr' hn10 => ?_⟩
    refine ⟨_, rfl, _, _, _, _, rfl, Ex.new hn10 _ _ ob10, T.c_Machine, T.n_Machine_triggers, (by decide : (10 : Nat) < 1000), ?_⟩
    obtain ⟨E11, S11, ob11, q_tr, kt11, ku11, z_tr, nx_tr⟩ := stl (u := .ins (cMachine K) dz (putF "triggers" (.ref tr') (fm s' g' bi' at' r' pr' ce' po' L0.tr 0))) (v := (.lst [])) hxH E10 ob10 imm_fm hn10 kn10
    have kn11 := kt11
    generalize upd (upd H10 tr' (.lst [])) x (.ins (cMachine K) dz (putF "triggers" (.ref tr') (fm s' g' bi' at' r' pr' ce' po' L0.tr 0))) = H11 at *
    replace ob11 : H11 x = some (.ins (cMachine K) dz (fm s' g' bi' at' r' pr' ce' po' tr' 0)) := ob11
    clear kt11 ku11
    refine ⟨_, rfl, _, _, _, _, _, rfl, E11 _ _ ho, T.c_Machine, T.n_Machine_taken, rfl, _, rfl, _, _, _, _, rfl, ob11, T.c_Machine, T.n_Machine_taken, (by decide : (10 : Nat) < 1000), ?_⟩
    have S12 := stg (u := .ins (cMachine K) dz (putF "taken" (nV M.tk) (fm s' g' bi' at' r' pr' ce' po' tr' 0))) ob11 imm_fm (Ex.refl _)
    have E12 : Ex H (upd H11 x (.ins (cMachine K) dz (putF "taken" (nV M.tk) (fm s' g' bi' at' r' pr' ce' po' tr' 0)))) := exx hxH E11 (Ex.refl _)
    have ob12 : upd H11 x (.ins (cMachine K) dz (putF "taken" (nV M.tk) (fm s' g' bi' at' r' pr' ce' po' tr' 0))) x = some (.ins (cMachine K) dz (fm s' g' bi' at' r' pr' ce' po' tr' M.tk)) := upd_same
    generalize upd H11 x (.ins (cMachine K) dz (putF "taken" (nV M.tk) (fm s' g' bi' at' r' pr' ce' po' tr' 0))) = H12 at *
    have R11 := S12
    have R10 := S11.trans R11
    have R9 := S10.trans R10
    have R8 := S9.trans R9
    have R7 := S8.trans R8
    have R6 := S7.trans R7
    have R5 := S6.trans R6
    have R4 := S5.trans R5
    have R3 := S4.trans R4
    refine ⟨_, rfl, k ⟨x, s', ln', lp', g', r', pr', ce', po', tr', bi', at', ts⟩ H12 ⟨?_, ⟨dz, ob12⟩, s3.but R3.b R3.i (by simp; exact nx1) (by simp; exact nx2) (by simp; exact nx3), R4.b _ _ q_g (by simp; exact nx_g), R7.b _ _ q_r (by simp; exact nrx), R8.b _ _ q_pr (by simp; exact nx_pr), R9.b _ _ q_ce (by simp; exact nx_ce), R10.b _ _ q_po (by simp; exact nx_po), R11.b _ _ q_tr (by simp; exact nx_tr),
      ⟨_, R5.b _ _ q_bi (by simp; exact nx_bi)⟩, ⟨_, R6.b _ _ q_at_ (by simp; exact nx_at_)⟩, pr_of (pr_len th7) fun j q T hq hTj => ?_⟩ E12 fun y hy => ?_⟩
    · refine (List.Perm.nodup_iff (List.perm_iff_count.mpr fun y => ?_)).mp kn11.nd
      show _ = List.count y (x :: s' :: ln' :: lp' :: g' :: r' :: pr' :: ce' :: po' :: tr' :: flat ts)
      simp only [List.count_cons, List.count_append, List.count_nil]
      omega
    · obtain ⟨⟨d6, g1⟩, us6, g2, g3⟩ := pr_2 th7 hq hTj
      exact ⟨⟨d6, R7.b _ _ g1 (by simp; exact nts _ (mem_ix (flat_fst hq)))⟩, ⟨us6, R7.b _ _ g2 (by simp; exact nts _ (mem_ix (flat_snd hq))), pr_imp (fun _ _ q => q.imm R7.i) g3⟩⟩
    · have hy : y ∈ x :: s' :: ln' :: lp' :: g' :: r' :: pr' :: ce' :: po' :: tr' :: flat ts := hy
      simp only [List.mem_cons] at hy
      rcases hy with e | e | e | e | e | e | e | e | e | e | e
      · rw [e]; exact hxH
      · rw [e]; exact z1
      · rw [e]; exact z2
      · rw [e]; exact z3
      · rw [e]; exact z_g
      · rw [e]; exact zr
      · rw [e]; exact z_pr
      · rw [e]; exact z_ce
      · rw [e]; exact z_po
      · rw [e]; exact z_tr
      · exact c4 y e
end
end Lw
/-! ### the mirror: a step keeps what must hold -/
namespace Lw
open PySem
namespace So
variable {S : So}
theorem uni_isV (a b i : Nat) : (S.uni a b).isV i = S.isV i := by
  unfold So.isV
  have h : (S.uni a b).nd = S.nd := by unfold So.uni; split <;> rfl
  rw [h]
theorem join_ok {a b : Nat} (hf : a = b ∨ S.isV a = true ∨ S.isV b = true) (ne : a ≠ b) : S.isV (S.join a b).2 = true ∧ (S.isV (S.join a b).1 = false ∨ (S.join a b).1 < (S.join a b).2) ∧ (S.join a b).1 ≠ (S.join a b).2 ∧
    ((S.join a b).1 = a ∧ (S.join a b).2 = b ∨ (S.join a b).1 = b ∧ (S.join a b).2 = a) := by
  unfold So.join
  have hv : S.isV a = true ∨ S.isV b = true := hf.resolve_left ne
  by_cases e : S.isV a = S.isV b
  · have h1 : S.isV a = true := by
      rcases hv with h | h
      · exact h
      · rw [e]; exact h
    have h2 : S.isV b = true := by rw [← e]; exact h1
    rw [if_pos e]
    by_cases l : a ≤ b
    · have m1 : min a b = a := Nat.min_eq_left l
      have m2 : max a b = b := Nat.max_eq_right l
      exact ⟨by show S.isV (max a b) = true; rw [m2]; exact h2, .inr (by show min a b < max a b; omega), by show min a b ≠ max a b; omega, .inl ⟨m1, m2⟩⟩
    · have m1 : min a b = b := Nat.min_eq_right (by omega)
      have m2 : max a b = a := Nat.max_eq_left (by omega)
      exact ⟨by show S.isV (max a b) = true; rw [m2]; exact h1, .inr (by show min a b < max a b; omega), by show min a b ≠ max a b; omega, .inr ⟨m1, m2⟩⟩
  · rw [if_neg e]
    by_cases h1 : S.isV a = true
    · rw [if_pos h1]
      have h2 : S.isV b = false := by
        cases q : S.isV b
        · rfl
        · exact absurd (h1.trans q.symm) e
      exact ⟨h1, .inl h2, Ne.symm ne, .inr ⟨rfl, rfl⟩⟩
    · rw [if_neg h1]
      have h2 : S.isV b = true := hv.resolve_left h1
      exact ⟨h2, .inl (by simpa using h1), ne, .inl ⟨rfl, rfl⟩⟩
theorem Wf.uni (w : S.Wf) {a b : Nat} (ha : a < S.nd.length) (hb : b < S.nd.length) (hf : S.Free a b) : (S.uni a b).Wf := by
  have hnd : (S.uni a b).nd = S.nd := by unfold So.uni; split <;> rfl
  by_cases e : S.rep a = S.rep b
  · have : S.uni a b = S := by unfold So.uni; rw [if_pos e]
    rw [this]; exact w
  · obtain ⟨j1, j2, j3, j4⟩ := join_ok (a := S.rep a) (b := S.rep b) hf e
    have hpa : (S.uni a b).pa = S.pa.set (S.join (S.rep a) (S.rep b)).2 (S.join (S.rep a) (S.rep b)).1 := by unfold So.uni; rw [if_neg e]
    have l1 := w.rep_lt a ha
    have l2 := w.rep_lt b hb
    have k1 : (S.join (S.rep a) (S.rep b)).1 < S.nd.length := by rcases j4 with ⟨h, _⟩ | ⟨h, _⟩ <;> rw [h] <;> assumption
    refine ⟨by rw [hpa, hnd, List.length_set]; exact w.len, fun i j h n => ?_⟩
    rw [hpa] at h
    rw [uni_isV, uni_isV, hnd]
    by_cases q : (S.join (S.rep a) (S.rep b)).2 = i
    · subst q
      have hl : (S.join (S.rep a) (S.rep b)).2 < S.pa.length := by rw [w.len]; rcases j4 with ⟨_, h⟩ | ⟨_, h⟩ <;> rw [h] <;> assumption
      rw [List.getElem?_set_self hl] at h
      cases h
      exact ⟨j1, k1, j2⟩
    · rw [List.getElem?_set_ne q] at h
      exact w.par i j h n
end So
namespace Mm
theorem give_Ok {M : Mm} {a : Nat} {d : Nd} {r : Res} (ok : M.Ok) (ha : a < M.so.nd.length) (h : give M a d = some r) : ∃ M', r = .ok M' ∧ M'.Ok ∧ M'.rows = M.rows ∧ M'.gv = M.gv := by
  obtain ⟨h1, h2, rfl⟩ := give_ok h
  have hn : ((M.so.add d).uni a M.so.nd.length).nd = M.so.nd ++ [d] := by
    have : ((M.so.add d).uni a M.so.nd.length).nd = (M.so.add d).nd := by unfold So.uni; split <;> rfl
    rw [this]; rfl
  have wf := (ok.wf.add d).uni (a := a) (b := M.so.nd.length) (by rw [So.add_len]; omega) (by rw [So.add_len]; omega) h2
  refine ⟨_, rfl, ⟨wf, fun T hT n hn2 => ?_, ?_, ok.th, ok.fr⟩, rfl, rfl⟩
  · have := ok.wt T hT n hn2
    show n < ((M.so.add d).uni a M.so.nd.length).nd.length
    rw [hn, List.length_append]; simp; omega
  · show ((M.so.add d).uni a M.so.nd.length).nd.length ≤ 2000
    rw [hn, List.length_append]; simp; omega
theorem row_Ok {M : Mm} (ok : M.Ok) {t : Nat} {T : Th} (h1 : ∀ n, T.wt = some n → n < M.so.nd.length) (h2 : T.fr.length ≤ 200) : (M.row t T).Ok :=
  ⟨ok.wf, fun T' hT n hn => by
    rcases List.mem_or_eq_of_mem_set hT with h | h
    · exact ok.wt T' h n hn
    · rw [h] at hn; exact h1 n hn, ok.sz, by show (M.rows.set t T).length ≤ 60; rw [List.length_set]; exact ok.th, fun T' hT => by
    rcases List.mem_or_eq_of_mem_set hT with h | h
    · exact ok.fr T' h
    · rw [h]; exact h2⟩
theorem push_Ok {M : Mm} {t : Nat} {T : Th} {fs : List (Sm × Ev)} {r : Res} (ok : M.Ok) (hw : T.wt = none) (h : push M t T fs = some r) : ∃ M', r = .ok M' ∧ M'.Ok := by
  obtain ⟨h1, rfl⟩ := push_ok h
  refine ⟨_, rfl, row_Ok ok (fun n hn => ?_) ?_⟩
  · rw [show ({ T with fr := fs ++ T.fr } : Th).wt = T.wt from rfl, hw] at hn; cases hn
  · show (fs ++ T.fr).length ≤ 200
    rw [List.length_append]; omega
/-- nodes that a result names stand -/
theorem do_Ok {M : Mm} {t : Nat} {T : Th} {s : Sm} {e : Ev} {r : Res} (ok : M.Ok) (hw : T.wt = none) (h : doM M t T s e = some r) : match r with
    | .ok M' => M'.Ok
    | .wait n => n < M.so.nd.length
    | .rai n => n < M.so.nd.length := by
  cases s with
  | skip => simp [doM] at h
  | cho a b => simp [doM] at h
  | seq a b =>
    simp only [doM] at h
    obtain ⟨M', rfl, o⟩ := push_Ok ok hw h
    exact o
  | loc z a =>
    simp only [doM] at h
    split at h
    · rename_i hc
      obtain ⟨c1, c2⟩ := Bool.and_eq_true_iff.mp hc
      replace c1 : M.so.nd.length + 1 ≤ 2000 := of_decide_eq_true c1
      have ok2 : ({ M with so := M.so.add .var } : Mm).Ok := ⟨ok.wf.add _, fun T hT n hn => by
        have := ok.wt T hT n hn
        show n < (M.so.add .var).nd.length
        rw [So.add_len]; omega, by show (M.so.add .var).nd.length ≤ 2000; rw [So.add_len]; omega, ok.th, ok.fr⟩
      obtain ⟨M', rfl, o⟩ := push_Ok ok2 hw h
      exact o
    · cases h
  | bind x y =>
    simp only [doM] at h
    split at h
    · rename_i a b ha hb
      split at h
      · rename_i hf
        cases h
        have hn : (M.so.uni a b).nd = M.so.nd := by unfold So.uni; split <;> rfl
        refine ⟨ok.wf.uni (node_ok ha).2 (node_ok hb).2 (freeB_ok hf), fun T hT n hn2 => ?_, ?_, ok.th, ok.fr⟩
        · show n < (M.so.uni a b).nd.length
          rw [hn]; exact ok.wt T hT n hn2
        · show (M.so.uni a b).nd.length ≤ 2000
          rw [hn]; exact ok.sz
      · cases h
    · cases h
  | int x n =>
    simp only [doM] at h
    split at h
    · rename_i a ha
      obtain ⟨M', rfl, o, _⟩ := give_Ok ok (node_ok ha).2 h
      exact o
    · cases h
  | case x n a b =>
    simp only [doM] at h
    split at h
    · rename_i c hc
      split at h
      · cases h; exact (node_ok hc).2
      · split at h
        · obtain ⟨M', rfl, o⟩ := push_Ok ok hw h
          exact o
        · cases h
    · cases h
  | add x y z =>
    simp only [doM] at h
    split at h
    · rename_i c a b hc ha hb
      unfold addM at h
      split at h
      · cases h; exact (node_ok ha).2
      · split at h
        · split at h
          · cases h; exact (node_ok hb).2
          · split at h
            · split at h
              · obtain ⟨M', rfl, o, _⟩ := give_Ok ok (node_ok hc).2 h
                exact o
              · cases h
            · cases h
        · cases h
    · cases h
  | thr a =>
    simp only [doM] at h
    split at h
    · rename_i hl
      cases h
      refine ⟨ok.wf, fun T hT n hn => ?_, ok.sz, by show (M.rows ++ [_]).length ≤ 60; simp; omega, fun T hT => ?_⟩
      · rcases List.mem_append.mp hT with h | h
        · exact ok.wt T h n hn
        · rw [List.mem_singleton.mp h] at hn; cases hn
      · rcases List.mem_append.mp hT with h | h
        · exact ok.fr T h
        · rw [List.mem_singleton.mp h]; simp
    · cases h
  | rai x =>
    simp only [doM] at h
    split at h
    · rename_i a ha
      cases h
      exact (node_ok ha).2
    · cases h
theorem step_Ok {M M' : Mm} {t : Nat} (ok : M.Ok) (h : M.stepM t = some M') : M'.Ok := by
  obtain ⟨T, f, fr, r, hT, hs, hfr, hd, rfl⟩ := step_ok h
  have hf := ok.fr T (List.mem_of_getElem? hT)
  rw [hfr, List.length_cons] at hf
  have ok1 : (M.pop t fr).Ok := by
    have := row_Ok ok (t := t) (T := ⟨fr, none, none⟩) (fun n hn => nomatch hn) (by show fr.length ≤ 200; omega)
    exact ⟨this.wf, this.wt, this.sz, this.th, this.fr⟩
  have q := do_Ok ok1 rfl hd
  cases r with
  | ok M1 => exact q
  | wait n =>
    have := row_Ok ok (t := t) (T := ⟨f :: fr, some n, none⟩) (fun k hk => by cases hk; exact q) (by show (f :: fr).length ≤ 200; simp; omega)
    exact ⟨this.wf, this.wt, this.sz, this.th, this.fr⟩
  | rai n =>
    have := row_Ok ok (t := t) (T := ⟨[], none, some n⟩) (fun k hk => nomatch hk) (by show (0 : Nat) ≤ 200; omega)
    exact ⟨this.wf, this.wt, this.sz, this.th, this.fr⟩
theorem Runs.Ok {k : Nat} {M M' : Mm} (h : Runs k M M') (ok : M.Ok) : M'.Ok := by
  induction h with
  | done _ => exact ok
  | step _ h2 _ ih => exact ih (step_Ok ok h2)
theorem cho_Ok {M M' : Mm} {t : Nat} {b : Bool} (ok : M.Ok) (h : M.choM t b = some M') : M'.Ok := by
  obtain ⟨T, p, q, e, fr, hT, _, hfr, rfl⟩ := cho_ok h
  have hf := ok.fr T (List.mem_of_getElem? hT)
  rw [hfr, List.length_cons] at hf
  exact row_Ok ok (fun n hn => ok.wt T (List.mem_of_getElem? hT) n hn) (by show (_ :: fr).length ≤ 200; simp; omega)
theorem Runs.gv {k : Nat} {M M' : Mm} (h : Runs k M M') : True := trivial
end Mm
end Lw
namespace Lw
open PySem PySem.Spec PyProof.Rows L2
section
variable {K : PySem.W.Frag} {H H' : Hp} {L : Lay} {M : Mm}
/-- a machine where what changed stands apart -/
theorem MachAt.mv (m : MachAt K H L M) {F : List Addr} (b : But F H H') (i : Imm H H') (d : ∀ x ∈ L.own, x ∉ F) : MachAt K H' L M := by
  obtain ⟨dx, h0⟩ := m.ob
  obtain ⟨e1, h1⟩ := m.bi
  obtain ⟨e2, h2⟩ := m.at_
  have n : ∀ {k : Nat} {x : Addr}, L.own[k]? = some x → x ∉ F := fun {k x} e => d x (mem_ix e)
  refine ⟨m.nd, ⟨dx, b _ _ h0 (n (k := 0) rfl)⟩, m.so.but b i (n (k := 1) rfl) (n (k := 2) rfl) (n (k := 3) rfl), b _ _ m.gv (n (k := 4) rfl), b _ _ m.rw_ (n (k := 5) rfl), b _ _ m.pr (n (k := 6) rfl), b _ _ m.ce (n (k := 7) rfl), b _ _ m.po (n (k := 8) rfl), b _ _ m.tr (n (k := 9) rfl),
    ⟨e1, i _ _ h1 trivial⟩, ⟨e2, i _ _ h2 trivial⟩, m.ths b i fun x hx => ?_⟩
  obtain ⟨k, e⟩ := flat_mem hx
  exact n (Lay.fl e)
theorem Go.imm {M' : Mm} {L' : Lay} (m : MachAt K H L M) (g : Go K H L H' L' M') : Imm H H' := m.imm g.but fun _ h => h
end
section
variable {P : Program} {w : World} {K : PySem.W.Frag} {mg : Str → Option Value} {base : Heap}
theorem runs0 {k : Nat} {M M' : Mm} (h : Mm.Runs k M M') (e : M.readyL = []) : k = 0 ∧ M' = M := by
  cases h with
  | done _ => exact ⟨rfl, rfl⟩
  | step e2 _ _ => rw [e] at e2; cases e2
theorem runs1 {k t : Nat} {r : List Nat} {M M' : Mm} (h : Mm.Runs k M M') (e : M.readyL = t :: r) : ∃ k' M1, k = k' + 1 ∧ M.stepM t = some M1 ∧ Mm.Runs k' M1 M' := by
  cases h with
  | done e2 => rw [e] at e2; cases e2
  | step e2 h1 h2 =>
    rw [e] at e2
    cases e2
    exact ⟨_, _, rfl, h1, h2⟩
def spRun (K : PySem.W.Frag) : Sp := fun vs H Q _ => ∃ (L : Lay) (M : Mm) (sl : Addr) (k : Nat) (M' : Mm), vs = [.ref L.a, .ref sl] ∧ H sl = some (.lst []) ∧ sl ∉ L.own ∧ MachAt K H L M ∧ M.Ok ∧ Mm.Runs k M M' ∧ k ≤ 2999 ∧ ∀ L' H' v, Go K H L H' L' M' → Q v H'
theorem f_run (T : Tx K mg) : Cal P w K mg base 8 "run" (spRun K) := by
  have sc : FnScope ["machine", "schedule", "count", "ready", "number"] ["machine", "schedule"] (defScope s_run) := ⟨rfl, rfl, rfl, by decide +kernel, rfl, by decide +kernel, by decide +kernel⟩
  refine cal_ T.g_run T.f_run sc (fun _ _ _ _ _ _ us hl => match us, hl with | [_, _], _ => rfl) (fun vs H Q E h => ?_) (fun cdv A outer s H vs Q E hr h => ?_)
  · obtain ⟨_, _, _, _, _, rfl, _⟩ := h
    rfl
  · obtain ⟨L, M, sl, k, M', rfl, hsl, off, m, ok, hR, hk, kq⟩ := h
    obtain ⟨tk, mS⟩ := T.i_MOST_STEPS
    obtain ⟨dx, ho⟩ := m.ob
    refine ⟨_, pss_cons (ps_set (i := 2) sc.nd rfl (Or.inl rfl) pe_int)
      (pss_cons (ps_set (i := 3) sc.nd rfl (Or.inl rfl) (pe_mt0 (m_ready T) hr (pv 0)))
      (pss_cons (ps_while PassesOwn.never (PW.pt (pw_and (pt_truth (pv 3) (by intro _; rfl)) (pw_and1 (pt_cmpR op_lt (pv 2) (pe_gi mS) (nomark _)))))
        (pss_cons (ps_set (i := 4) sc.nd rfl (Or.inl rfl) pe_int)
        (pss_cons (ps_if (pt_cmpR op_lt (pv 2) (pe_callB call_len_seq (by rfl) T.z_len PySem.boot_len (pa_cons (pv 1) pa_nil)) (nomark _)) pss_never pss_nil)
        (pss_cons (ps_expr (pe_mt (m_step T) hr (pv 0) (pa_cons (pe_ix ix_list (pv 3) (pe_op op_mod (pv 4) (pe_callB call_len_seq (by rfl) T.z_len PySem.boot_len (pa_cons (pv 3) pa_nil))) (fun _ _ => rfl)) pa_nil)))
        (pss_cons (ps_aug (i := 2) sc.nd rfl (Or.inl rfl) pe_int ip_add)
        (pss_one (ps_set (i := 3) sc.nd rfl (Or.inl rfl) (pe_mt0 (m_ready T) hr (pv 0)))))))))
      (pss_one (ps_ret (pv 2))))), ?_⟩
    refine ⟨_, rfl, _, _, _, rfl, ho, rfl, L, M, rfl, m, ok, fun p H1 x1 h1 => ?_⟩
    let W : Nat → L2.St → Hp → Prop := fun n σ H' => ∃ Lc Mc p j y4, Go K H L H' Lc Mc ∧ Mc.Ok ∧ Mm.Runs n Mc M' ∧ j + n = k ∧ H' p = some (.lst (Mc.readyL.map nV)) ∧ σ = [some (.ref L.a), some (.ref sl), some (nV j), some (.ref p), y4]
    refine ⟨W, ⟨k, L, M, p, 0, _, (Go.refl m).post x1, ok, hR, by omega, h1, rfl⟩, ?_⟩
    rintro n σ H2 ⟨Lc, Mc, p, j, y4, g, okc, hr', hj, hp, rfl⟩
    obtain ⟨dc, hoc⟩ := g.m.ob
    rw [g.a] at hoc
    cases e : Mc.readyL with
    | nil =>
      rw [e] at hp
      obtain ⟨rfl, rfl⟩ := runs0 hr' e
      refine ⟨_, rfl, false, .inl ⟨_, SqL.of hp, rfl⟩, iteF (iteF ⟨_, rfl, kq Lc H2 _ g⟩)⟩
    | cons t r =>
      rw [e] at hp
      obtain ⟨n', M1, rfl, hst, hR'⟩ := runs1 hr' e
      refine ⟨_, rfl, true, .inl ⟨_, SqL.of hp, rfl⟩, iteT ⟨_, rfl, _, _, rfl, rfl, _, rfl, ifT (by omega) ⟨fun σ' H' => ∃ m', m' < n' + 1 ∧ W m' σ' H', fun _ _ h => h, ?_⟩⟩⟩
      have hsl2 := g.but _ _ hsl off
      refine ⟨_, rfl, _, rfl, _, _, rfl, .inl (SqL.of hsl2), _, _, rfl, rfl, _, rfl, ifF (by simp) ?_⟩
      have okm := Mm.step_Ok okc hst
      refine ⟨_, rfl, _, _, _, rfl, hoc, rfl, _, rfl, _, rfl, _, rfl, _, _, rfl, .inl (SqL.of hp), _, _, rfl, rfl, by simp, _, _, _, _, rfl, rfl, SqL.of hp, by rw [Int.zero_emod]; exact atI_nat (j := 0) rfl, ?_⟩
      refine ⟨Lc, Mc, t, M1, by rw [g.a], g.m, okc, hst, okm, fun L4 H4 g4 => ?_⟩
      have g5 := g.trans g4
      obtain ⟨d5, ho5⟩ := g5.m.ob
      rw [g5.a] at ho5
      refine ⟨_, rfl, _, _, rfl, rfl, ?_⟩
      refine ⟨_, rfl, _, _, _, rfl, ho5, rfl, L4, M1, by rw [g5.a], g5.m, okm, fun p6 H6 x6 h6 => ?_⟩
      exact ⟨n', by omega, L4, M1, p6, j + 1, _, g5.post x6, okm, hR', by omega, h6, rfl⟩
end
end Lw
namespace Lw
open PySem PySem.Spec PyProof.Rows L2
section
variable {P : Program} {w : World} {K : PySem.W.Frag} {mg : Str → Option Value} {base : Heap}
abbrev fSp (a : Addr) : List (Str × V) := [("machine", .ref a)]
structure SpAt (K : PySem.W.Frag) (H : Hp) (sp : Addr) (L : Lay) (M : Mm) : Prop where
  ob : ∃ dx, H sp = some (.ins (cSpace K) dx (fSp L.a))
  m : MachAt K H L M
theorem imm_sp {C dx a : Addr} : ¬ imm (.ins C dx (fSp a)) := fun h => absurd (show ("machine" : Str) = "statement" from Option.some.inj h) (by decide +kernel)
/-- a space's own object is none of a machine's -/
theorem MachAt.nsp {H : Hp} {L : Lay} {M : Mm} (m : MachAt K H L M) {sp C dx a : Addr} (h : H sp = some (.ins C dx (fSp a))) : sp ∉ L.own := by
  intro hx
  obtain ⟨d0, h0⟩ := m.ob
  obtain ⟨ds, h1⟩ := m.so.ob
  obtain ⟨vs, h2, _⟩ := m.so.ns
  unfold Lay.own at hx
  simp only [List.mem_cons] at hx
  rcases hx with e | e | e | e | e | e | e | e | e | e | e
  · rw [e, h0] at h; have := congrArg (fun o : Option HO => match o with | some (.ins _ _ fs) => fs.length | _ => 0) h; exact absurd (show (10 : Nat) = 1 from this) (by decide)
  · rw [e, h1] at h; have := congrArg (fun o : Option HO => match o with | some (.ins _ _ fs) => fs.length | _ => 0) h; exact absurd (show (2 : Nat) = 1 from this) (by decide)
  · rw [e, h2] at h; cases h
  · rw [e, m.so.ps] at h; cases h
  · rw [e, m.gv] at h; cases h
  · rw [e, m.rw_] at h; cases h
  · rw [e, m.pr] at h; cases h
  · rw [e, m.ce] at h; cases h
  · rw [e, m.po] at h; cases h
  · rw [e, m.tr] at h; cases h
  · unfold flat at e
    obtain ⟨p, hp, hx⟩ := List.mem_flatMap.mp e
    obtain ⟨i, hi, ei⟩ := List.getElem_of_mem hp
    have e3 : L.ts[i]? = some p := by rw [← ei]; exact List.getElem?_eq_getElem hi
    have hi2 : i < M.rows.length := by rw [← m.len]; exact hi
    obtain ⟨t, lf, e2, hT⟩ := m.thr (List.getElem?_eq_getElem hi2)
    rw [e3] at e2
    cases e2
    obtain ⟨⟨dt, q1⟩, ⟨us, q2, _⟩⟩ := hT
    simp only [List.mem_cons, List.not_mem_nil, or_false] at hx
    rcases hx with e | e
    · rw [e, q1] at h; have := congrArg (fun o : Option HO => match o with | some (.ins _ _ fs) => fs.length | _ => 0) h; exact absurd (show (3 : Nat) = 1 from this) (by decide)
    · rw [e, q2] at h; cases h
theorem SpAt.ex {H H' : Hp} {sp : Addr} {L : Lay} {M : Mm} (s : SpAt K H sp L M) (e : Ex H H') : SpAt K H' sp L M := let ⟨⟨dx, h⟩, m⟩ := s; ⟨⟨dx, e _ _ h⟩, m.ex e⟩
theorem SpAt.go {H H' : Hp} {sp : Addr} {L L' : Lay} {M M' : Mm} (s : SpAt K H sp L M) (g : Go K H L H' L' M') : SpAt K H' sp L' M' := by
  obtain ⟨dx, h⟩ := s.ob
  exact ⟨⟨dx, by rw [g.a]; exact g.but _ _ h (s.m.nsp h)⟩, g.m⟩
def spSIni (K : PySem.W.Frag) : Sp := fun vs H Q _ => ∃ (a dx pt g : Addr) (names : List Str) (sv : V) (s : Sm), vs = [.ref a, .ref pt] ∧ H a = some (.ins (cSpace K) dx []) ∧ H pt = some (.tup [.ref g, sv]) ∧ H g = some (.tup (names.map V.str)) ∧ SmAt H sv s ∧ names.length ≤ 12 ∧
  ∀ L H', SpAt K H' a L (iniM names s) → But [a] H H' → (∀ x ∈ L.own, H x = none) → Q .non H'
theorem k_space (T : Tx K mg) : Mak P w K mg base 6 "Space" (cSpace K) (spSIni K) := by
  have sc : FnScope ["self", "program"] ["self", "program"] (defScope s_Space_init) := ⟨rfl, rfl, rfl, by decide +kernel, rfl, by decide +kernel, by decide +kernel⟩
  refine mak_ T.k_Space T.g_Space T.f_Space_init sc (fun _ _ _ _ _ _ us hl => match us, hl with | [_, _], _ => rfl) (fun vs H Q E h => ?_) (fun cdv A outer s H vs Q E hr h => ?_)
  · obtain ⟨_, _, _, _, _, _, _, rfl, _⟩ := h
    rfl
  · obtain ⟨a, dx, pt, g, names, sv, st, rfl, ha, hpt, hgt, hs, hn, k⟩ := h
    refine ⟨_, pss_one (ps_fld (pv 0) (pe_mk (k_machine T) hr (pa_cons (pv 1) pa_nil)) rfl), ?_⟩
    refine ⟨_, rfl, ?_⟩
    intro x dx0 hx hdx ne
    have w1 : ∀ {a o}, H a = some o → upd (upd H dx0 (.own x)) x (.ins (cMachine K) dx0 []) a = some o := fun {a o} h => by
      rw [upd_ne (ne_of_none h hx), upd_ne (ne_of_none h hdx)]; exact h
    have wE : Ex H (upd (upd H dx0 (.own x)) x (.ins (cMachine K) dx0 [])) := fun _ _ h => w1 h
    refine ⟨x, dx0, pt, g, names, sv, st, rfl, upd_same, w1 hpt, w1 hgt, hs.imm wE.imm, hn, fun L H1 m0 eL b1 fr1 => ⟨rfl, ?_⟩⟩
    have x1 := made_ex hx hdx ne b1
    have fr : ∀ y ∈ L.own, H y = none := fun y hy => by
      rcases fr1 y hy with e | e
      · rw [e]; exact hx
      · exact wE.free e
    have na : a ∉ L.own := fun h => by rw [fr a h] at ha; cases ha
    refine ⟨_, rfl, _, _, _, _, rfl, x1 _ _ ha, T.c_Space, T.n_Space_machine, by simp, ?_⟩
    have b2 : But [a] H1 (upd H1 a (.ins (cSpace K) dx (putF "machine" (.ref x) []))) := But.set (by simp)
    have i2 : Imm H1 (upd H1 a (.ins (cSpace K) dx (putF "machine" (.ref x) []))) := Imm.set (x1 _ _ ha) (fun z => nomatch z)
    exact k L _ ⟨⟨dx, by rw [upd_same, eL]; rfl⟩, m0.mv b2 i2 fun y hy => by simp; intro e; exact na (e ▸ hy)⟩ (x1.but.trans b2) fr
def stS (M : Mm) : List V := M.rows.map fun T => V.str (Mm.stat M.so T).str
def spSts (K : PySem.W.Frag) : Sp := fun vs H Q _ => ∃ (sp : Addr) (L : Lay) (M : Mm), vs = [.ref sp] ∧ SpAt K H sp L M ∧ M.Ok ∧ ∀ p H', Ex H H' → H' p = some (.lst (stS M)) → Q (.ref p) H'
theorem m_statuses (T : Tx K mg) : Met P w K mg base 4 (cSpace K) "statuses" (spSts K) := by
  have sc : FnScope ["self", "thread"] ["self"] (defScope s_Space_statuses) := ⟨rfl, rfl, rfl, by decide +kernel, rfl, by decide +kernel, by decide +kernel⟩
  refine met_ T.c_Space T.m_Space_statuses T.f_Space_statuses sc (fun _ _ _ _ _ _ us hl => match us, hl with | [_], _ => rfl) (fun vs H Q E h => ?_) (fun cdv A outer s H vs Q E hr h => ?_)
  · obtain ⟨_, _, _, rfl, _⟩ := h
    rfl
  · obtain ⟨sp, L, M, rfl, ⟨⟨dx, ho⟩, m⟩, ok, k⟩ := h
    obtain ⟨dm, hm⟩ := m.ob
    have ht := ok.th
    refine ⟨_, pss_one (ps_ret (pe_lc (own := [("thread", 1)]) (g := gName 1) (te := tMt (cMachine K) "status" (spStat K) (tFld K (tVar 0) "machine") (tCons (tVar 1) tNil)) rfl sc.nd
      (pi_range1 (by rfl) T.z_range (pa_cons (pe_mt0 (m_threads T) hr (pe_fld (pv 0) rfl)) pa_nil))
      (blkOk_by (N := ["self", "thread"]) (sc := defScope s_Space_statuses) (by decide +kernel)) (fun _ _ _ _ _ => pg_name (i := 1) sc.nd rfl (Or.inl rfl))
      (fun _ _ _ _ _ => pts_nil) (fun _ _ _ _ _ => pe_mt (m_status T) hr (pe_fld (pv 0) rfl) (pa_cons (pv 1) pa_nil)))), ?_⟩
    refine ⟨_, rfl, _, _, _, _, _, rfl, ho, T.c_Space, T.n_Space_machine, rfl, _, _, _, rfl, hm, rfl, L, M, rfl, m, _, rfl, by omega, by omega, fun D hD => ?_⟩
    rw [Int.toNat_natCast]
    have nD := none1 hD
    refine lc_it (walk_range (lo := 0) (n := M.rows.length)) (fun i H' => But [D] H H' ∧ H' D = some (.lst ((stS M).take i))) ⟨(Ex.new hD).but, upd_same⟩ (fun _ _ _ _ => trivial) (fun i x H' H2 hi p y => ?_) (fun H2 p => ?_)
    · obtain ⟨rfl, rfl⟩ := y
      obtain ⟨b, hD2⟩ := p
      have xb := b.exN nD
      have eT : M.rows[i]? = some M.rows[i] := List.getElem?_eq_getElem hi
      refine ⟨rfl, _, rfl, _, _, _, _, _, rfl, xb _ _ ho, T.c_Space, T.n_Space_machine, rfl, _, _, _, rfl, xb _ _ hm, rfl, _, rfl, L, M, i, _, by show [V.ref L.a, V.int (0 + (i : Int))] = _; rw [Int.zero_add], m.ex xb, ok, eT, ?_⟩
      refine ⟨_, hD2, szl (by rw [List.length_take]; omega), b.trans (But.set (by simp)), ?_⟩
      rw [upd_same, List.take_succ, stS, List.getElem?_map, eT]
      rfl
    · obtain ⟨b, hD2⟩ := p
      rw [List.take_of_length_le (by simp [stS])] at hD2
      exact k D H2 (b.exN nD) hD2
/-- what Space.ask answers -/
def Mm.has (M : Mm) (s : Str) : Bool := inV (.str s) (stS M)
def Mm.ask (M : Mm) : Str := if M.has "ready" = true then "limit" else if M.has "broken" = true then "failed" else if M.has "choosing" = true then "choosing" else if M.has "waiting" = true then "waiting" else "done"
theorem stS_flat {M : Mm} : (stS M).all flatV = true := by
  rw [List.all_eq_true]
  intro v hv
  obtain ⟨T, _, rfl⟩ := List.mem_map.mp hv
  rfl
def spAsk (K : PySem.W.Frag) : Sp := fun vs H Q _ => ∃ (sp : Addr) (L : Lay) (M : Mm) (k : Nat) (M' : Mm), vs = [.ref sp] ∧ SpAt K H sp L M ∧ M.Ok ∧ Mm.Runs k M M' ∧ k ≤ 2999 ∧ ∀ L' H', Go K H L H' L' M' → Q (.str M'.ask) H'
theorem m_ask (T : Tx K mg) : Met P w K mg base 9 (cSpace K) "ask" (spAsk K) := by
  have sc : FnScope ["self", "found", "word"] ["self"] (defScope s_Space_ask) := ⟨rfl, rfl, rfl, by decide +kernel, rfl, by decide +kernel, by decide +kernel⟩
  refine met_ T.c_Space T.m_Space_ask T.f_Space_ask sc (fun _ _ _ _ _ _ us hl => match us, hl with | [_], _ => rfl) (fun vs H Q E h => ?_) (fun cdv A outer s H vs Q E hr h => ?_)
  · obtain ⟨_, _, _, _, _, rfl, _⟩ := h
    rfl
  · obtain ⟨sp, L, M, kk, M', rfl, hS, ok, hR, hk, k⟩ := h
    obtain ⟨⟨dx, ho⟩, m⟩ := id hS
    refine ⟨_, pss_cons (ps_expr (pe_c (f_run T) hr (pa_cons (pe_fld (pv 0) rfl) (pa_cons (pe_lst pa_nil) pa_nil))))
      (pss_cons (ps_set (i := 1) sc.nd rfl (Or.inl rfl) (pe_mt0 (m_statuses T) hr (pv 0)))
      (pss_cons (ps_if (pt_cmpR op_in_seq pe_str (pv 1) rfl) (pss_one (ps_ret pe_str)) pss_nil)
      (pss_cons (ps_if (pt_cmpR op_in_seq pe_str (pv 1) rfl) (pss_one (ps_ret pe_str)) pss_nil)
      (pss_cons (ps_for PassesOwn.never rfl (pi_tup (pe_tup (pa_cons pe_str (pa_cons pe_str pa_nil)))) (pg_name (i := 2) sc.nd rfl (Or.inl rfl)) (pss_one (ps_if (pt_cmpR op_in_seq (pv 2) (pv 1) rfl) (pss_one (ps_ret (pv 2))) pss_nil)))
      (pss_one (ps_ret pe_str)))))), ?_⟩
    refine ⟨_, rfl, _, _, _, _, _, rfl, ho, T.c_Space, T.n_Space_machine, rfl, sz (by simp), fun sl hsl => ?_⟩
    have e1 := Ex.new (o := .lst []) hsl
    refine ⟨L, M, sl, kk, M', rfl, upd_same, m.off hsl, m.ex e1, ok, hR, hk, fun L' H1 v g1 => ?_⟩
    have g := g1.pre e1
    have S1 := hS.go g
    obtain ⟨⟨dx1, ho1⟩, m1⟩ := id S1
    have ok' := hR.Ok ok
    refine ⟨_, rfl, _, _, _, rfl, ho1, rfl, sp, L', M', rfl, S1, ok', fun p H2 x2 h2 => ?_⟩
    have fin : Q (.str M'.ask) H2 := k L' H2 (g.post x2)
    unfold Mm.ask at fin
    refine ⟨_, rfl, p, _, rfl, .inl (SqL.of h2), rfl, stS_flat, _, rfl, ?_⟩
    show if M'.has "ready" = true then _ else _
    cases q1 : M'.has "ready" with
    | true =>
      rw [q1] at fin
      exact iteT fin
    | false =>
      rw [q1] at fin
      refine iteF ⟨_, rfl, p, _, rfl, .inl (SqL.of h2), rfl, stS_flat, _, rfl, ?_⟩
      show if M'.has "broken" = true then _ else _
      cases q2 : M'.has "broken" with
      | true =>
        rw [q2] at fin
        exact iteT fin
      | false =>
        rw [q2] at fin
        refine iteF ⟨sz (by simp), fun u hu => ⟨u, rfl, ⟨_, SqT.of upd_same⟩, ?_⟩⟩
        have e3 := Ex.new (o := .tup [.str "choosing", .str "waiting"]) hu
        have fin' : Q (.str (if M'.has "choosing" = true then "choosing" else if M'.has "waiting" = true then "waiting" else "done")) (upd H2 u (.tup [.str "choosing", .str "waiting"])) := by
          have := k L' _ (g.post (x2.trans e3))
          unfold Mm.ask at this
          rw [q1, q2] at this
          exact this
        refine for_it (walk_tup (K := K) (a := u) (xs := [V.str "choosing", .str "waiting"])) (fun i σ H' => H' = upd H2 u (.tup [.str "choosing", .str "waiting"]) ∧ (∃ y, σ = [some (.ref sp), some (.ref p), y]) ∧ (1 ≤ i → M'.has "choosing" = false) ∧ (2 ≤ i → M'.has "waiting" = false)) ⟨rfl, ⟨_, rfl⟩, fun h => absurd h (by decide), fun h => absurd h (by decide)⟩ (fun i σ H' _ p => by rw [p.1]; exact SqT.of upd_same) (fun i x σ H' H5 hi q y => ?_) (fun σ H5 q => ?_)
        · obtain ⟨rfl, ⟨y2, rfl⟩, c1, c2⟩ := q
          obtain ⟨rfl, hx⟩ := y
          have hi' : i < 2 := hi
          match i, hi', hx, c1, c2 with
          | 0, _, hx, c1, c2 =>
            cases hx
            refine ⟨_, rfl, _, rfl, p, _, rfl, .inl (SqL.of (e3 _ _ h2)), rfl, stS_flat, _, rfl, ?_⟩
            show if M'.has "choosing" = true then _ else _
            cases q3 : M'.has "choosing" with
            | true =>
              rw [q3] at fin'
              exact iteT ⟨_, rfl, fin'⟩
            | false => exact iteF ⟨rfl, ⟨_, rfl⟩, fun _ => rfl, fun h => absurd h (by decide)⟩
          | 1, _, hx, c1, c2 =>
            cases hx
            refine ⟨_, rfl, _, rfl, p, _, rfl, .inl (SqL.of (e3 _ _ h2)), rfl, stS_flat, _, rfl, ?_⟩
            show if M'.has "waiting" = true then _ else _
            cases q3 : M'.has "waiting" with
            | true =>
              rw [c1 (by decide), q3] at fin'
              exact iteT ⟨_, rfl, fin'⟩
            | false => exact iteF ⟨rfl, ⟨_, rfl⟩, fun _ => c1 (by decide), fun _ => rfl⟩
        · obtain ⟨rfl, ⟨y2, rfl⟩, c1, c2⟩ := q
          rw [c1 (by simp), c2 (by simp)] at fin'
          exact fin'
def spCommit (K : PySem.W.Frag) : Sp := fun vs H Q _ => ∃ (sp : Addr) (L : Lay) (M : Mm) (b : Bool) (t : Nat) (M' : Mm), vs = [.ref sp, .bl b] ∧ SpAt K H sp L M ∧ M.Ok ∧ M.readyL = [] ∧ M.ask = "choosing" ∧ (stS M)[t]? = some (.str "choosing") ∧ (∀ j < t, (stS M)[j]? ≠ some (.str "choosing")) ∧ M.choM t b = some M' ∧
  ∀ L' H', Go K H L H' L' M' → Q .non H'
theorem eqV_str {a b : Str} : eqV (.str a) (.str b) = decide (a = b) := by
  by_cases h : a = b <;> simp [eqV, h]
theorem m_commit (T : Tx K mg) : Met P w K mg base 10 (cSpace K) "commit" (spCommit K) := by
  have sc : FnScope ["self", "second"] ["self", "second"] (defScope s_Space_commit) := ⟨rfl, rfl, rfl, by decide +kernel, rfl, by decide +kernel, by decide +kernel⟩
  refine met_ T.c_Space T.m_Space_commit T.f_Space_commit sc (fun _ _ _ _ _ _ us hl => match us, hl with | [_, _], _ => rfl) (fun vs H Q E h => ?_) (fun cdv A outer s H vs Q E hr h => ?_)
  · obtain ⟨_, _, _, _, _, _, rfl, _⟩ := h
    rfl
  · obtain ⟨sp, L, M, b, t, M', rfl, hS, ok, hN, ha, ht1, ht2, hc, k⟩ := h
    obtain ⟨⟨dx, ho⟩, m⟩ := id hS
    refine ⟨_, pss_cons (ps_if (pt_cmpR op_ne (pe_mt0 (m_ask T) hr (pv 0)) pe_str (nomark _)) pss_never pss_nil)
      (pss_one (ps_expr (pe_mt (m_choose T) hr (pe_fld (pv 0) rfl) (pa_cons (pe_bm PySem.F.plainAttrs_list PySem.F.slot_list_index PySem.F.type_list_index mt_index (pe_mt0 (m_statuses T) hr (pv 0)) (pa_cons pe_str pa_nil)) (pa_cons (pv 1) pa_nil))))), ?_⟩
    refine ⟨_, rfl, _, _, _, rfl, ho, rfl, sp, L, M, 0, M, rfl, hS, ok, .done hN, by decide, fun L1 H1 g1 => ?_⟩
    have S1 := hS.go g1
    obtain ⟨⟨dx1, ho1⟩, m1⟩ := id S1
    obtain ⟨dm, hm⟩ := m1.ob
    refine ⟨rfl, _, rfl, ifnF (by rw [ha]) ?_⟩
    refine ⟨_, rfl, _, _, _, _, _, rfl, ho1, T.c_Space, T.n_Space_machine, rfl, _, _, _, rfl, hm, rfl, ?_⟩
    refine ⟨_, rfl, _, _, _, rfl, ho1, rfl, sp, L1, M, rfl, S1, ok, fun p H2 x2 h2 => ?_⟩
    refine ⟨.inl ⟨rfl, _, SqL.of h2⟩, p, _, _, t, _, rfl, rfl, SqL.of h2, rfl, stS_flat, ht1, by rw [eqV_str]; simp, fun j z hj hz => ?_, ?_⟩
    · obtain ⟨T', hT', rfl⟩ := List.mem_map.mp (List.mem_of_getElem? hz)
      rw [eqV_str]
      refine decide_eq_false fun e => ht2 j hj ?_
      rw [hz, e]
    · exact ⟨_, rfl, L1, M, t, b, M', rfl, m1.ex x2, ok, hc, fun H3 g3 => k L1 H3 ((g1.post x2).trans g3)⟩
def spSOut (K : PySem.W.Frag) : Sp := fun vs H Q _ => ∃ (sp : Addr) (L : Lay) (M : Mm) (zs : List Int), vs = [.ref sp] ∧ SpAt K H sp L M ∧ M.Ok ∧ (∀ T ∈ M.rows, Mm.stat M.so T = .done) ∧ M.vals zs ∧ zs.length ≤ 100 ∧ (∀ z ∈ zs, z.natAbs.log2 < 1920) ∧ ∀ v H', Ex H H' → OutAt H' v zs → Q v H'
theorem m_spout (T : Tx K mg) : Met P w K mg base 8 (cSpace K) "outcome" (spSOut K) := by
  have sc : FnScope ["self"] ["self"] (defScope s_Space_outcome) := ⟨rfl, rfl, rfl, by decide +kernel, rfl, by decide +kernel, by decide +kernel⟩
  refine met_ T.c_Space T.m_Space_outcome T.f_Space_outcome sc (fun _ _ _ _ _ _ us hl => match us, hl with | [_], _ => rfl) (fun vs H Q E h => ?_) (fun cdv A outer s H vs Q E hr h => ?_)
  · obtain ⟨_, _, _, _, rfl, _⟩ := h
    rfl
  · obtain ⟨sp, L, M, zs, rfl, ⟨⟨dx, ho⟩, m⟩, ok, hd, hv, h1, h2, k⟩ := h
    obtain ⟨dm, hm⟩ := m.ob
    refine ⟨_, pss_one (ps_ret (pe_mt0 (m_moutc T) hr (pe_fld (pv 0) rfl))), ?_⟩
    exact ⟨_, rfl, _, _, _, _, _, rfl, ho, T.c_Space, T.n_Space_machine, rfl, _, _, _, rfl, hm, rfl, L, M, zs, rfl, m, ok, hd, hv, h1, h2, k⟩
def spSCp (K : PySem.W.Frag) : Sp := fun vs H Q _ => ∃ (sp : Addr) (L : Lay) (M : Mm), vs = [.ref sp] ∧ SpAt K H sp L M ∧ M.Ok ∧ M.gv.length ≤ 100 ∧ ∀ sp' L' H', SpAt K H' sp' L' M → Ex H H' → H sp' = none → (∀ x ∈ L'.own, H x = none) → Q (.ref sp') H'
theorem m_spcopy (T : Tx K mg) : Met P w K mg base 8 (cSpace K) "copy" (spSCp K) := by
  have sc : FnScope ["self", "other"] ["self"] (defScope s_Space_copy) := ⟨rfl, rfl, rfl, by decide +kernel, rfl, by decide +kernel, by decide +kernel⟩
  refine met_ T.c_Space T.m_Space_copy T.f_Space_copy sc (fun _ _ _ _ _ _ us hl => match us, hl with | [_], _ => rfl) (fun vs H Q E h => ?_) (fun cdv A outer s H vs Q E hr h => ?_)
  · obtain ⟨_, _, _, rfl, _⟩ := h
    rfl
  · obtain ⟨sp, L, M, rfl, hS, ok, hg, k⟩ := h
    obtain ⟨⟨dx, ho⟩, m⟩ := id hS
    obtain ⟨dm, hm⟩ := m.ob
    refine ⟨_, pss_cons (ps_set (i := 1) sc.nd rfl (Or.inl rfl) (pe_mk (k_space T) hr (pa_cons (pe_tup (pa_cons (pe_tup pa_nil) (pa_cons (pe_tup (pa_cons pe_str pa_nil)) pa_nil))) pa_nil)))
      (pss_cons (ps_fld (pv 1) (pe_mt0 (m_mcopy T) hr (pe_fld (pv 0) rfl)) rfl) (pss_one (ps_ret (pv 1)))), ?_⟩
    refine ⟨sz (by simp), fun u1 hu1 => ⟨sz (by simp), fun u2 hu2 => ⟨sz (by simp), fun u3 hu3 => ?_⟩⟩⟩
    have e1 := Ex.new (o := .tup []) hu1
    have e2 := Ex.new (o := .tup [.str "skip"]) hu2
    have e3 := Ex.new (o := .tup [.ref u1, .ref u2]) hu3
    have x3 := e1.trans (e2.trans e3)
    have q1 := (e2.trans e3) _ _ (upd_same : upd H u1 (HO.tup []) u1 = some _)
    have q2 := e3 _ _ (upd_same : upd (upd H u1 (HO.tup [])) u2 (HO.tup [.str "skip"]) u2 = some _)
    have q3 : upd (upd (upd H u1 (HO.tup [])) u2 (HO.tup [.str "skip"])) u3 (HO.tup [.ref u1, .ref u2]) u3 = some _ := upd_same
    clear e1 e2 e3
    generalize upd (upd (upd H u1 (HO.tup [])) u2 (HO.tup [.str "skip"])) u3 (HO.tup [.ref u1, .ref u2]) = H0 at *
    intro x dx0 hx hdx ne
    have w1 : ∀ {a o}, H0 a = some o → upd (upd H0 dx0 (.own x)) x (.ins (cSpace K) dx0 []) a = some o := fun {a o} h => by
      rw [upd_ne (ne_of_none h hx), upd_ne (ne_of_none h hdx)]; exact h
    refine ⟨x, dx0, u3, u1, [], .ref u2, .skip, rfl, upd_same, w1 q3, w1 q1, ⟨u2, rfl, w1 q2⟩, by simp, fun L0 H1 s0 b1 fr1 => ⟨rfl, ?_⟩⟩
    have x01 := made_ex hx hdx ne b1
    have X1 := x3.trans x01
    have hxH : H x = none := x3.free hx
    obtain ⟨dz, oz⟩ := s0.ob
    refine ⟨_, rfl, _, _, _, _, _, rfl, X1 _ _ ho, T.c_Space, T.n_Space_machine, rfl, _, _, _, rfl, X1 _ _ hm, rfl, L, M, rfl, m.ex X1, ok, hg, fun L' H2 m2 x2 fr2 => ?_⟩
    refine ⟨_, rfl, _, _, _, _, rfl, x2 _ _ oz, T.c_Space, T.n_Space_machine, by simp, ?_⟩
    have nx : x ∉ L'.own := m2.nsp (x2 _ _ oz)
    have b3 : But [x] H2 (upd H2 x (.ins (cSpace K) dz (putF "machine" (.ref L'.a) (fSp L0.a)))) := But.set (by simp)
    have i3 : Imm H2 (upd H2 x (.ins (cSpace K) dz (putF "machine" (.ref L'.a) (fSp L0.a)))) := Imm.set (x2 _ _ oz) imm_sp
    exact ⟨_, rfl, k x L' _ ⟨⟨dz, upd_same⟩, m2.mv b3 i3 fun y hy => by simp; intro e; exact nx (e ▸ hy)⟩ (exx hxH X1 x2) hxH (fun y hy => X1.free (fr2 y hy))⟩
end
end Lw
namespace Lw
open PySem PySem.Spec PyProof.Rows L2
theorem Mm.do_gv {M M' : Mm} {t : Nat} {T : Th} {s : Sm} {e : Ev} (h : doM M t T s e = some (.ok M')) : M'.gv = M.gv := by
  have pu : ∀ {M M' : Mm} {T fs}, push M t T fs = some (.ok M') → M'.gv = M.gv := fun {M M' T fs} h => by
    obtain ⟨_, h⟩ := push_ok h
    cases h
    rfl
  have gi : ∀ {M M' : Mm} {a d}, give M a d = some (.ok M') → M'.gv = M.gv := fun {M M' a d} h => by
    obtain ⟨_, _, h⟩ := give_ok h
    cases h
    rfl
  cases s with
  | skip => simp [doM] at h
  | cho a b => simp [doM] at h
  | seq a b => simp only [doM] at h; exact pu h
  | loc z a =>
    simp only [doM] at h
    split at h
    · have := pu h; exact this
    · cases h
  | bind x y =>
    simp only [doM] at h
    split at h
    · split at h
      · cases h; rfl
      · cases h
    · cases h
  | int x n =>
    simp only [doM] at h
    split at h
    · exact gi h
    · cases h
  | case x n a b =>
    simp only [doM] at h
    split at h
    · split at h
      · cases h
      · split at h
        · exact pu h
        · cases h
    · cases h
  | add x y z =>
    simp only [doM, addM] at h
    split at h
    · split at h
      · cases h
      · split at h
        · split at h
          · cases h
          · split at h
            · split at h
              · exact gi h
              · cases h
            · cases h
        · cases h
    · cases h
  | thr a =>
    simp only [doM] at h
    split at h
    · cases h; rfl
    · cases h
  | rai x =>
    simp only [doM] at h
    split at h
    · cases h
    · cases h
theorem Mm.step_gv {M M' : Mm} {t : Nat} (h : M.stepM t = some M') : M'.gv = M.gv := by
  obtain ⟨T, f, fr, r, hT, hs, hfr, hd, rfl⟩ := step_ok h
  cases r with
  | ok M1 =>
    have := Mm.do_gv hd
    exact this
  | wait n => rfl
  | rai n => rfl
theorem Mm.Runs.gvE {k : Nat} {M M' : Mm} (h : Runs k M M') : M'.gv = M.gv := by
  induction h with
  | done _ => rfl
  | step _ h2 _ ih => rw [ih, Mm.step_gv h2]
theorem Mm.Runs.end_ {k : Nat} {M M' : Mm} (h : Runs k M M') : M'.readyL = [] := by
  induction h with
  | done h => exact h
  | step _ _ _ ih => exact ih
theorem Mm.cho_gv {M M' : Mm} {t : Nat} {b : Bool} (h : M.choM t b = some M') : M'.gv = M.gv := by
  obtain ⟨T, p, q, e, fr, hT, _, hfr, rfl⟩ := cho_ok h
  rfl
/-- t is the least choosing thread -/
def Mm.First (M : Mm) (t : Nat) : Prop := (stS M)[t]? = some (.str "choosing") ∧ ∀ j < t, (stS M)[j]? ≠ some (.str "choosing")
structure En where
  tp : Addr
  pa : Addr
  sp : Addr
  L : Lay
structure EnAt (K : PySem.W.Frag) (H : Hp) (e : En) (n : List Bool × Mm) : Prop where
  tp : H e.tp = some (.tup [.ref e.pa, .ref e.sp])
  pa : H e.pa = some (.tup (n.1.map V.bl))
  s : SpAt K H e.sp e.L n.2
  ok : n.2.Ok
  gv : n.2.gv.length ≤ 100
abbrev fSe (wl : Addr) (c : Nat) : List (Str × V) := [("waiting", .ref wl), ("count", nV c)]
structure StkAt (K : PySem.W.Frag) (H : Hp) (se wl : Addr) (c : Nat) (es : List En) (ns : List (List Bool × Mm)) : Prop where
  ob : ∃ dx, H se = some (.ins (cSearch K) dx (fSe wl c))
  wa : H wl = some (.lst (es.map fun e => .ref e.tp))
  en : Paired (EnAt K H) es ns
  pw : es.Pairwise fun e f => ∀ x ∈ e.L.own, x ∉ f.L.own
  nw : ∀ e ∈ es, se ∉ e.L.own ∧ wl ∉ e.L.own
def foot (se wl : Addr) (es : List En) : List Addr := se :: wl :: es.flatMap fun e => e.L.own
theorem imm_se {C dx wl : Addr} {c : Nat} : ¬ imm (.ins C dx (fSe wl c)) := fun h => absurd (show ("waiting" : Str) = "statement" from Option.some.inj h) (by decide +kernel)
section
variable {K : PySem.W.Frag} {H H' : Hp}
theorem EnAt.ex {e : En} {n : List Bool × Mm} (h : EnAt K H e n) (x : Ex H H') : EnAt K H' e n := ⟨x _ _ h.tp, x _ _ h.pa, h.s.ex x, h.ok, h.gv⟩
theorem EnAt.mv {e : En} {n : List Bool × Mm} (h : EnAt K H e n) {F : List Addr} (b : But F H H') (i : Imm H H') (d : ∀ x ∈ e.L.own, x ∉ F) (ns : e.sp ∉ F) : EnAt K H' e n := by
  obtain ⟨⟨dx, ho⟩, m⟩ := h.s
  exact ⟨i _ _ h.tp trivial, i _ _ h.pa trivial, ⟨⟨dx, b _ _ ho ns⟩, m.mv b i d⟩, h.ok, h.gv⟩
theorem StkAt.ex {se wl : Addr} {c : Nat} {es : List En} {ns : List (List Bool × Mm)} (s : StkAt K H se wl c es ns) (x : Ex H H') : StkAt K H' se wl c es ns := by
  obtain ⟨dx, h⟩ := s.ob
  exact ⟨⟨dx, x _ _ h⟩, x _ _ s.wa, pr_imp (fun _ _ q => q.ex x) s.en, s.pw, s.nw⟩
theorem pr_mem {α β : Type} {R : α → β → Prop} : ∀ {xs : List α} {ys : List β} {x : α}, Paired R xs ys → x ∈ xs → ∃ y ∈ ys, R x y
  | _, _, _, .nil, h => by cases h
  | _, _, x, .cons r t, h => by
    rcases List.mem_cons.mp h with e | e
    · subst e; exact ⟨_, by simp, r⟩
    · obtain ⟨y, h1, h2⟩ := pr_mem t e
      exact ⟨y, by simp [h1], h2⟩
theorem pr_impm {α β : Type} {R R' : α → β → Prop} : ∀ {xs : List α} {ys : List β}, (∀ a b, a ∈ xs → R a b → R' a b) → Paired R xs ys → Paired R' xs ys
  | _, _, _, .nil => .nil
  | _, _, h, .cons r t => .cons (h _ _ (by simp) r) (pr_impm (fun a b m => h a b (by simp [m])) t)
/-- an entry more -/
theorem StkAt.push {se wl : Addr} {c : Nat} {es : List En} {ns : List (List Bool × Mm)} (s : StkAt K H se wl c es ns) {e : En} {n : List Bool × Mm} (h : EnAt K H e n) (d : ∀ f ∈ es, ∀ x ∈ f.L.own, x ∉ e.L.own) (h1 : se ∉ e.L.own) (h2 : wl ∉ e.L.own) :
    StkAt K (upd H wl (.lst ((es.map fun e => V.ref e.tp) ++ [.ref e.tp]))) se wl c (es ++ [e]) (ns ++ [n]) := by
  obtain ⟨dx, ho⟩ := s.ob
  have nsw : se ≠ wl := ne_of ho s.wa (fun z => nomatch z)
  have b : But [wl] H (upd H wl (.lst ((es.map fun e => V.ref e.tp) ++ [.ref e.tp]))) := But.set (by simp)
  have i : Imm H (upd H wl (.lst ((es.map fun e => V.ref e.tp) ++ [.ref e.tp]))) := Imm.set s.wa imm_lst
  have mv : ∀ {f : En} {n : List Bool × Mm}, EnAt K H f n → wl ∉ f.L.own → EnAt K (upd H wl (.lst ((es.map fun e => V.ref e.tp) ++ [.ref e.tp]))) f n := fun {f n} q hw => by
    obtain ⟨⟨d2, o2⟩, _⟩ := q.s
    exact q.mv b i (fun x hx => by simp; intro z; exact hw (z ▸ hx)) (by simp; exact ne_of o2 s.wa (fun z => nomatch z))
  refine ⟨⟨dx, (upd_ne nsw).trans ho⟩, by rw [upd_same, List.map_append]; rfl, pr_app (pr_impm (fun f n hf q => mv q (s.nw f hf).2) s.en) (.cons (mv h h2) .nil), ?_, fun f hf => ?_⟩
  · rw [List.pairwise_append]
    exact ⟨s.pw, by simp, fun f hf g hg => by rw [List.mem_singleton.mp hg]; exact d f hf⟩
  · rcases List.mem_append.mp hf with z | z
    · exact s.nw f z
    · rw [List.mem_singleton.mp z]; exact ⟨h1, h2⟩
/-- the last entry goes, the count grows -/
theorem StkAt.pop {se wl dx : Addr} {c : Nat} {es : List En} {e : En} {ns : List (List Bool × Mm)} {n : List Bool × Mm} (s : StkAt K H se wl c (es ++ [e]) (ns ++ [n])) (ho : H se = some (.ins (cSearch K) dx (fSe wl c))) :
    StkAt K (upd (upd H se (.ins (cSearch K) dx (fSe wl (c + 1)))) wl (.lst (es.map fun e => V.ref e.tp))) se wl (c + 1) es ns ∧ EnAt K (upd (upd H se (.ins (cSearch K) dx (fSe wl (c + 1)))) wl (.lst (es.map fun e => V.ref e.tp))) e n := by
  have nsw : se ≠ wl := ne_of ho s.wa (fun z => nomatch z)
  have b : But [se, wl] H (upd (upd H se (.ins (cSearch K) dx (fSe wl (c + 1)))) wl (.lst (es.map fun e => V.ref e.tp))) := (But.set (by simp)).trans (But.set (by simp))
  have i : Imm H (upd (upd H se (.ins (cSearch K) dx (fSe wl (c + 1)))) wl (.lst (es.map fun e => V.ref e.tp))) := (Imm.set ho imm_se).trans (Imm.set ((upd_ne nsw.symm).trans s.wa) imm_lst)
  have mv : ∀ {f : En} {n : List Bool × Mm}, EnAt K H f n → se ∉ f.L.own ∧ wl ∉ f.L.own → EnAt K (upd (upd H se (.ins (cSearch K) dx (fSe wl (c + 1)))) wl (.lst (es.map fun e => V.ref e.tp))) f n := fun {f n} q hw => by
    obtain ⟨⟨d2, o2⟩, _⟩ := q.s
    refine q.mv b i (fun x hx => ?_) ?_
    · simp only [List.mem_cons, List.not_mem_nil, or_false, not_or]
      exact ⟨fun z => hw.1 (z ▸ hx), fun z => hw.2 (z ▸ hx)⟩
    · simp only [List.mem_cons, List.not_mem_nil, or_false, not_or]
      refine ⟨fun z => ?_, ne_of o2 s.wa (fun z => nomatch z)⟩
      rw [z, ho] at o2
      have := congrArg (fun o : Option HO => match o with | some (.ins _ _ fs) => fs.length | _ => 0) o2
      exact absurd (show (2 : Nat) = 1 from this) (by decide)
  have en := s.en
  obtain ⟨us, v, e1, e2, e3⟩ := pr_snoc en
  have e4 := List.append_inj' e1 rfl
  obtain ⟨rfl, e5⟩ := e4
  cases e5
  have pw := List.pairwise_append.mp s.pw
  refine ⟨⟨⟨dx, (upd_ne nsw).trans upd_same⟩, upd_same, pr_impm (fun f n hf q => mv q (s.nw f (by simp [hf]))) e2, pw.1, fun f hf => s.nw f (by simp [hf])⟩, mv e3 (s.nw _ (by simp))⟩
end
end Lw
namespace Lw
open PySem PySem.Spec PyProof.Rows L2
theorem ini_Ok {names : List Str} (s : Sm) (h : names.length ≤ 12) : (iniM names s).Ok := by
  have hn : (iniM names s).so.nd.length = names.length + 16 := by show (List.replicate _ _ ++ List.replicate _ _).length = _; simp
  refine ⟨⟨by show (List.range _).length = _; simp [So.plain, iniM], fun i j e n => ?_⟩, fun T hT n hn => ?_, by rw [hn]; omega, by show (1 : Nat) ≤ 60; decide, fun T hT => ?_⟩
  · exfalso
    obtain ⟨h1, h2⟩ := List.getElem?_eq_some_iff.mp (show (List.range _)[i]? = some j from e)
    simp at h2
    exact n h2.symm
  · rw [List.mem_singleton.mp hT] at hn; cases hn
  · rw [List.mem_singleton.mp hT]; show (1 : Nat) ≤ 200; decide
section
variable {P : Program} {w : World} {K : PySem.W.Frag} {mg : Str → Option Value} {base : Heap}
def spSeIni (K : PySem.W.Frag) : Sp := fun vs H Q _ => ∃ (a dx pt g : Addr) (names : List Str) (sv : V) (s : Sm), vs = [.ref a, .ref pt] ∧ H a = some (.ins (cSearch K) dx []) ∧ H pt = some (.tup [.ref g, sv]) ∧ H g = some (.tup (names.map V.str)) ∧ SmAt H sv s ∧ names.length ≤ 12 ∧
  ∀ wl es H', StkAt K H' a wl 0 es [([], iniM names s)] → But [a] H H' → (∀ x ∈ foot a wl es, x = a ∨ H x = none) → Q .non H'
theorem k_search (T : Tx K mg) : Mak P w K mg base 8 "Search" (cSearch K) (spSeIni K) := by
  have sc : FnScope ["self", "program"] ["self", "program"] (defScope s_Search_init) := ⟨rfl, rfl, rfl, by decide +kernel, rfl, by decide +kernel, by decide +kernel⟩
  refine mak_ T.k_Search T.g_Search T.f_Search_init sc (fun _ _ _ _ _ _ us hl => match us, hl with | [_, _], _ => rfl) (fun vs H Q E h => ?_) (fun cdv A outer s H vs Q E hr h => ?_)
  · obtain ⟨_, _, _, _, _, _, _, rfl, _⟩ := h
    rfl
  · obtain ⟨a, dx, pt, g, names, sv, st, rfl, ha, hpt, hgt, hs, hn, k⟩ := h
    refine ⟨_, pss_cons (ps_fld (pv 0) (pe_lst (pa_cons (pe_tup (pa_cons (pe_tup pa_nil) (pa_cons (pe_mk (k_space T) hr (pa_cons (pv 1) pa_nil)) pa_nil))) pa_nil)) rfl) (pss_one (ps_fld (pv 0) pe_int rfl)), ?_⟩
    refine ⟨sz (by simp), fun u hu => ⟨_, rfl, ?_⟩⟩
    have e0 := Ex.new (o := .tup []) hu
    have hu0 : upd H u (.tup []) u = some (.tup []) := upd_same
    generalize upd H u (.tup []) = H0 at *
    intro x dx0 hx hdx ne
    have w1 : ∀ {a o}, H0 a = some o → upd (upd H0 dx0 (.own x)) x (.ins (cSpace K) dx0 []) a = some o := fun {a o} h => by
      rw [upd_ne (ne_of_none h hx), upd_ne (ne_of_none h hdx)]; exact h
    have wE : Ex H0 (upd (upd H0 dx0 (.own x)) x (.ins (cSpace K) dx0 [])) := fun _ _ h => w1 h
    refine ⟨x, dx0, pt, g, names, sv, st, rfl, upd_same, w1 (e0 _ _ hpt), w1 (e0 _ _ hgt), (hs.imm e0.imm).imm wE.imm, hn, fun L H1 s1 b1 fr1 => ⟨rfl, ?_⟩⟩
    have x1 := made_ex hx hdx ne b1
    have fr : ∀ y ∈ L.own, H y = none := fun y hy => e0.free (wE.free (fr1 y hy))
    have hxH := e0.free hx
    refine ⟨sz (by simp), fun tp htp => ⟨sz (by simp), fun wl hwl => ?_⟩⟩
    have e2 := Ex.new (o := .tup [.ref u, .ref x]) htp
    have e3 := Ex.new (o := .lst [.ref tp]) hwl
    have X := (e0.trans x1).trans (e2.trans e3)
    have htp0 := (e0.trans x1).free htp
    have hwl0 := ((e0.trans x1).trans e2).free hwl
    have qt := e3 _ _ (upd_same : upd H1 tp (HO.tup [.ref u, .ref x]) tp = some _)
    have qw : upd (upd H1 tp (HO.tup [.ref u, .ref x])) wl (HO.lst [.ref tp]) wl = some (.lst [.ref tp]) := upd_same
    have qu := (e2.trans e3) _ _ (x1 _ _ hu0)
    have sX := s1.ex (e2.trans e3)
    have nwl : wl ∉ L.own := (s1.ex e2).m.off hwl
    generalize upd (upd H1 tp (HO.tup [.ref u, .ref x])) wl (HO.lst [.ref tp]) = H3 at *
    have na : a ∉ L.own := fun h => by rw [fr a h] at ha; cases ha
    have nax : x ≠ a := fun z => by rw [z, ha] at hxH; cases hxH
    have naw : wl ≠ a := fun z => by rw [z, ha] at hwl0; cases hwl0
    refine ⟨_, rfl, _, _, _, _, rfl, X _ _ ha, T.c_Search, T.n_Search_waiting, by simp, ?_⟩
    refine ⟨_, rfl, _, _, _, _, rfl, upd_same, T.c_Search, T.n_Search_count, (by decide : (1 : Nat) < 1000), ?_⟩
    have b4 : But [a] H3 (upd (upd H3 a (.ins (cSearch K) dx (putF "waiting" (.ref wl) []))) a (.ins (cSearch K) dx (putF "count" (.int 0) (putF "waiting" (.ref wl) [])))) := (But.set (by simp)).trans (But.set (by simp))
    have i4 : Imm H3 (upd (upd H3 a (.ins (cSearch K) dx (putF "waiting" (.ref wl) []))) a (.ins (cSearch K) dx (putF "count" (.int 0) (putF "waiting" (.ref wl) [])))) :=
      (Imm.set (X _ _ ha) (fun z => nomatch z)).trans (Imm.set upd_same (fun z => absurd (show ("waiting" : Str) = "statement" from Option.some.inj z) (by decide +kernel)))
    have en : EnAt K H3 ⟨tp, u, x, L⟩ ([], iniM names st) := ⟨qt, qu, sX, ini_Ok st hn, by show (List.range _).length ≤ 100; simp; omega⟩
    refine k wl [⟨tp, u, x, L⟩] _ ⟨⟨dx, upd_same⟩, b4 _ _ qw (by simp; exact naw), .cons (en.mv b4 i4 (fun y hy => by simp; intro e; exact na (e ▸ hy)) (by simp; exact nax)) .nil, by simp, fun e he => by rw [List.mem_singleton.mp he]; exact ⟨na, nwl⟩⟩ (X.but.trans b4) fun y hy => ?_
    unfold foot at hy
    simp only [List.mem_cons, List.flatMap_cons, List.flatMap_nil, List.append_nil] at hy
    rcases hy with e | e | e
    · exact .inl e
    · rw [e]; exact .inr hwl0
    · exact .inr (fr y e)
theorem StkAt.mv {H H' : Hp} {se wl : Addr} {c : Nat} {es : List En} {ns : List (List Bool × Mm)} (s : StkAt K H se wl c es ns) {F : List Addr} (b : But F H H') (i : Imm H H') (h1 : se ∉ F) (h2 : wl ∉ F) (d : ∀ f ∈ es, (∀ x ∈ f.L.own, x ∉ F) ∧ f.sp ∉ F) : StkAt K H' se wl c es ns := by
  obtain ⟨dx, h⟩ := s.ob
  exact ⟨⟨dx, b _ _ h h1⟩, b _ _ s.wa h2, pr_impm (fun f n hf q => q.mv b i (d f hf).1 (d f hf).2) s.en, s.pw, s.nw⟩
def Kids (M' : Mm) (path : List Bool) (kids : List (List Bool × Mm)) : Prop := (M'.ask ≠ "choosing" ∧ kids = []) ∨ (M'.ask = "choosing" ∧ ∃ t MT MF, M'.First t ∧ M'.choM t true = some MT ∧ M'.choM t false = some MF ∧ kids = [(path ++ [true], MT), (path ++ [false], MF)])
def spSStep (K : PySem.W.Frag) : Sp := fun vs H Q _ => ∃ (se wl : Addr) (c : Nat) (es : List En) (ns : List (List Bool × Mm)), vs = [.ref se] ∧ StkAt K H se wl c es ns ∧
  ((ns = [] ∧ Q .non H) ∨ ∃ (ns0 : List (List Bool × Mm)) (path : List Bool) (M : Mm) (kk : Nat) (M' : Mm) (kids : List (List Bool × Mm)), ns = ns0 ++ [(path, M)] ∧ c < 200 ∧ path.length ≤ 100 ∧ ns.length ≤ 1000 ∧ Mm.Runs kk M M' ∧ kk ≤ 2999 ∧ Kids M' path kids ∧
    ∀ p pa sp L es' H', StkAt K H' se wl (c + 1) es' (ns0 ++ kids) → H' p = some (.tup [.ref pa, .ref sp, .str M'.ask]) → H' pa = some (.tup (path.map V.bl)) → SpAt K H' sp L M' → M'.Ok → But (foot se wl es) H H' → (∀ x ∈ foot se wl es', x ∈ foot se wl es ∨ H x = none) → Q (.ref p) H')
theorem m_sstep (T : Tx K mg) : Met P w K mg base 11 (cSearch K) "step" (spSStep K) := by
  have sc : FnScope ["self", "path", "space", "status", "second", "other"] ["self"] (defScope s_Search_step) := ⟨rfl, rfl, rfl, by decide +kernel, rfl, by decide +kernel, by decide +kernel⟩
  refine met_ T.c_Search T.m_Search_step T.f_Search_step sc (fun _ _ _ _ _ _ us hl => match us, hl with | [_], _ => rfl) (fun vs H Q E h => ?_) (fun cdv A outer s H vs Q E hr h => ?_)
  · obtain ⟨_, _, _, _, _, rfl, _⟩ := h
    rfl
  · obtain ⟨se, wl, c, es, ns, rfl, S, k⟩ := h
    obtain ⟨tk, mK⟩ := T.i_MOST_KNOTS
    obtain ⟨dx, ho⟩ := S.ob
    refine ⟨_, pss_cons (ps_if (pt_not (pt_truth (pe_fld (pv 0) rfl) (by intro _; rfl))) (pss_one (ps_ret pe_non)) pss_nil)
      (pss_cons (ps_if (pt_cmpR op_eq (pe_fld (pv 0) rfl) (pe_gi mK) (nomark _)) pss_never pss_nil)
      (pss_cons (ps_fldaug (pv 0) pe_int in_add)
      (pss_cons (ps_asg (pe_bm0 PySem.F.plainAttrs_list PySem.F.slot_list_pop PySem.F.type_list_pop mt_pop (pe_fld (pv 0) rfl)) (pg_tup rfl (pgs_cons (pg_name (i := 1) sc.nd rfl (Or.inl rfl)) (pgs_cons (pg_name (i := 2) sc.nd rfl (Or.inl rfl)) pgs_nil))))
      (pss_cons (ps_set (i := 3) sc.nd rfl (Or.inl rfl) (pe_mt0 (m_ask T) hr (pv 2)))
      (pss_cons (ps_if (pt_cmpR op_eq (pv 3) pe_str (nomark _))
        (pss_one (ps_for PassesOwn.never rfl (pi_tup (pe_tup (pa_cons pe_bl (pa_cons pe_bl pa_nil)))) (pg_name (i := 4) sc.nd rfl (Or.inl rfl))
          (pss_cons (ps_set (i := 5) sc.nd rfl (Or.inl rfl) (pe_mt0 (m_spcopy T) hr (pv 2)))
          (pss_cons (ps_expr (pe_mt (m_commit T) hr (pv 5) (pa_cons (pv 4) pa_nil)))
          (pss_one (ps_expr (pe_bm PySem.F.plainAttrs_list PySem.F.slot_list_append PySem.F.type_list_append mt_append (pe_fld (pv 0) rfl) (pa_cons (pe_tup (pa_cons (pe_op op_catA (pv 1) (pe_tup (pa_cons (pv 4) pa_nil))) (pa_cons (pv 5) pa_nil))) pa_nil))))))) ) pss_nil)
      (pss_one (ps_ret (pe_tup (pa_cons (pv 1) (pa_cons (pv 2) (pa_cons (pv 3) pa_nil))))))))))), ?_⟩
    rcases k with ⟨rfl, k⟩ | ⟨ns0, path, M, kk, M', kids, rfl, hc, hpl, hnl, hR, hk, hK, k⟩
    · obtain rfl := pr_nil S.en
      exact ⟨_, rfl, _, _, _, _, _, rfl, ho, T.c_Search, T.n_Search_waiting, rfl, false, .inl ⟨_, SqL.of S.wa, rfl⟩, iteT k⟩
    obtain ⟨es0, e, rfl, _, _⟩ := pr_snoc S.en
    have hw := S.wa
    rw [List.map_append] at hw
    have lns : es0.length = ns0.length := by have := pr_len S.en; simpa using this
    have lns2 : ns0.length < 1000 := by simp at hnl; omega
    have nsw : se ≠ wl := ne_of ho hw (fun z => nomatch z)
    refine ⟨_, rfl, _, _, _, _, _, rfl, ho, T.c_Search, T.n_Search_waiting, rfl, true, .inl ⟨_, SqL.of hw, by cases es0 <;> rfl⟩, iteF ?_⟩
    refine ⟨_, rfl, _, _, _, _, _, rfl, ho, T.c_Search, T.n_Search_count, rfl, rfl, _, rfl, ifF (fun y => by have := V.int.inj y; omega) ?_⟩
    refine ⟨_, rfl, se, _, dx, _, _, rfl, ho, T.c_Search, T.n_Search_count, rfl, _, _, rfl, rfl, dx, _, ho, (by decide : (2 : Nat) < 1000), ?_⟩
    obtain ⟨S2, en⟩ := S.pop ho
    have hw1 : upd H se (.ins (cSearch K) dx (putF "count" (.int ((c : Int) + 1)) (fSe wl c))) wl = some (.lst (es0.map (fun e => V.ref e.tp) ++ [V.ref e.tp])) := (upd_ne nsw.symm).trans hw
    refine ⟨_, rfl, _, _, _, _, _, rfl, upd_same, T.c_Search, T.n_Search_waiting, rfl, .inl ⟨rfl, _, SqL.of hw1⟩, _, _, _, rfl, rfl, hw1, last_snoc, ?_⟩
    rw [drop_snoc]
    have b2 : But [se, wl] H (upd (upd H se (.ins (cSearch K) dx (putF "count" (.int ((c : Int) + 1)) (fSe wl c)))) wl (.lst (es0.map fun e => V.ref e.tp))) := (But.set (by simp)).trans (But.set (by simp))
    replace S2 : StkAt K (upd (upd H se (.ins (cSearch K) dx (putF "count" (.int ((c : Int) + 1)) (fSe wl c)))) wl (.lst (es0.map fun e => V.ref e.tp))) se wl (c + 1) es0 ns0 := S2
    replace en : EnAt K (upd (upd H se (.ins (cSearch K) dx (putF "count" (.int ((c : Int) + 1)) (fSe wl c)))) wl (.lst (es0.map fun e => V.ref e.tp))) e (path, M) := en
    generalize upd (upd H se (.ins (cSearch K) dx (putF "count" (.int ((c : Int) + 1)) (fSe wl c)))) wl (.lst (es0.map fun e => V.ref e.tp)) = H2 at *
    refine ⟨_, _, rfl, SqT.of en.tp, rfl, _, _, rfl, _, _, rfl, rfl, ?_⟩
    obtain ⟨ds, oS⟩ := en.s.ob
    have pw := List.pairwise_append.mp S.pw
    have nwe := S.nw e (by simp)
    refine ⟨_, rfl, _, _, _, rfl, oS, rfl, e.sp, e.L, M, kk, M', rfl, en.s, en.ok, hR, hk, fun L1 H3 g => ?_⟩
    have ok' := hR.Ok en.ok
    have gv' : M'.gv.length ≤ 100 := by rw [hR.gvE]; exact en.gv
    have i3 := Go.imm en.s.m g
    have S3 : StkAt K H3 se wl (c + 1) es0 ns0 := S2.mv g.but i3 nwe.1 nwe.2 fun f hf => ⟨fun x hx => pw.2.2 f hf e (by simp) x hx, by
      obtain ⟨n, _, q⟩ := pr_mem S2.en hf
      obtain ⟨d2, o2⟩ := q.s.ob
      exact en.s.m.nsp o2⟩
    have P3 := en.s.go g
    have hpa := i3 _ _ en.pa trivial
    have kn2 : ∀ f ∈ es0, ∀ x ∈ f.L.own, H2 x ≠ none := fun f hf x hx => by
      obtain ⟨n, _, q⟩ := pr_mem S2.en hf
      obtain ⟨o, h, _⟩ := q.s.m.known x hx
      exact some_ne h
    obtain ⟨d2, o2⟩ := S2.ob
    have dL : ∀ f ∈ es0, ∀ x ∈ f.L.own, x ∉ L1.own := fun f hf x hx h => by
      rcases g.own x h with z | z
      · exact pw.2.2 f hf e (by simp) x hx z
      · exact kn2 f hf x hx z
    have dse : se ∉ L1.own := fun h => by
      rcases g.own se h with z | z
      · exact nwe.1 z
      · exact some_ne o2 z
    have dwl : wl ∉ L1.own := fun h => by
      rcases g.own wl h with z | z
      · exact nwe.2 z
      · exact some_ne S2.wa z
    have B3 : But (foot se wl (es0 ++ [e])) H H3 := (b2.mono (by intro x hx; simp only [List.mem_cons, List.not_mem_nil, or_false] at hx; rcases hx with h | h <;> (rw [h]; simp [foot]))).trans (g.but.mono (by intro x hx; simp [foot, hx]))
    have none3 : ∀ {x : Addr}, H3 x = none → x ∈ foot se wl (es0 ++ [e]) ∨ H x = none := fun {x} h => by
      by_cases m : x ∈ foot se wl (es0 ++ [e])
      · exact .inl m
      · refine .inr ?_
        cases q : H x with
        | none => rfl
        | some o => rw [B3 _ _ q m] at h; cases h
    have old3 : ∀ f ∈ es0, ∀ x ∈ f.L.own, x ∈ foot se wl (es0 ++ [e]) := fun f hf x hx => by
      unfold foot
      simp only [List.mem_cons, List.mem_flatMap]
      exact .inr (.inr ⟨f, by simp [hf], hx⟩)
    let Pv : Nat → L2.St → Hp → Prop := fun i σ H' => ∃ es' : List En, StkAt K H' se wl (c + 1) (es0 ++ es') (ns0 ++ kids.take i) ∧ SpAt K H' e.sp L1 M' ∧ (∀ f ∈ es0 ++ es', ∀ x ∈ f.L.own, x ∉ L1.own) ∧ H' e.pa = some (.tup (path.map V.bl)) ∧ But [wl] H3 H' ∧ (∀ f ∈ es', ∀ x ∈ f.L.own, H3 x = none) ∧
      ∃ y4 y5, σ = [some (.ref se), some (.ref e.pa), some (.ref e.sp), some (.str M'.ask), y4, y5]
    have fin : ∀ (y4 y5 : Option V) (es' : List En) (H' : Hp), StkAt K H' se wl (c + 1) (es0 ++ es') (ns0 ++ kids) → SpAt K H' e.sp L1 M' → H' e.pa = some (.tup (path.map V.bl)) → But [wl] H3 H' → (∀ f ∈ es', ∀ x ∈ f.L.own, H3 x = none) → ∀ p, H' p = none → Q (.ref p) (upd H' p (.tup [.ref e.pa, .ref e.sp, .str M'.ask])) := fun _ _ es' H' c1 c2 c3 c4 c5 p hp => by
      have ex := Ex.new (o := .tup [.ref e.pa, .ref e.sp, .str M'.ask]) hp
      refine k p e.pa e.sp L1 _ _ (c1.ex ex) upd_same (ex _ _ c3) (c2.ex ex) ok' (B3.trans ((c4.mono (by simp [foot])).trans ex.but)) fun x hx => ?_
      unfold foot at hx
      simp only [List.mem_cons, List.mem_flatMap] at hx
      rcases hx with h | h | ⟨f, hf, hx⟩
      · rw [h]; exact .inl (by simp [foot])
      · rw [h]; exact .inl (by simp [foot])
      · rcases List.mem_append.mp hf with z | z
        · exact .inl (old3 f z x hx)
        · exact none3 (c5 f z x hx)
    refine ⟨_, rfl, rfl, _, rfl, ?_⟩
    by_cases ha : M'.ask = "choosing"
    · refine ifT (by rw [ha]) ?_
      rcases hK with ⟨h, _⟩ | ⟨_, t, MT, MF, ht, hT, hF, rfl⟩
      · exact absurd ha h
      refine ⟨sz (by simp), fun u hu => ⟨u, rfl, ⟨_, SqT.of upd_same⟩, ?_⟩⟩
      have eu := Ex.new (o := .tup [.bl true, .bl false]) hu
      refine for_it (walk_tup (K := K) (a := u) (xs := [V.bl true, .bl false])) (fun i σ H' => Pv i σ H' ∧ H' u = some (.tup [.bl true, .bl false])) ⟨⟨[], by simpa using S3.ex eu, P3.ex eu, by simpa using dL, eu _ _ hpa, eu.but, (fun f hf => by cases hf), _, _, rfl⟩, upd_same⟩ (fun i σ H' _ p => SqT.of p.2) (fun i x σ H' H'' hi q y => ?_) (fun σ H' q => ?_)
      · obtain ⟨⟨es', c1, c2, c3, c4, c5, c6, y4, y5, rfl⟩, c7⟩ := q
        obtain ⟨rfl, hx⟩ := y
        have hi' : i < 2 := hi
        match i, hi', hx, c1 with
        | 0, _, hx, c1 =>
          cases hx
          obtain ⟨⟨dsp, osp⟩, msp⟩ := id c2
          refine ⟨_, rfl, _, _, _, rfl, osp, rfl, e.sp, L1, M', rfl, c2, ok', gv', fun so Lo H5 so5 x5 n5 fo5 => ?_⟩
          obtain ⟨d5, o5⟩ := so5.ob
          refine ⟨_, rfl, _, _, _, rfl, o5, rfl, _, rfl, so, Lo, M', true, t, MT, rfl, so5, ok', hR.end_, ha, ht.1, ht.2, hT, fun L6 H6 g6 => ?_⟩
          have x6 : Ex H'' H6 := But.exN (x5.but.trans g6.but) fo5
          have so6 := so5.go g6
          have n6 : ∀ y ∈ L6.own, H'' y = none := fun y hy => by
            rcases g6.own y hy with z | z
            · exact fo5 y z
            · exact x5.free z
          have s6 := c1.ex x6
          obtain ⟨d6, o6⟩ := s6.ob
          have fin2 : ∀ (pa' : Addr) (H8 : Hp), Ex H6 H8 → H8 pa' = some (.tup ((path ++ [true]).map V.bl)) → ∀ tp, H8 tp = none → ∀ y4' y5', ((fun (i : Nat) σ H' => Pv i σ H' ∧ H' u = some (.tup [.bl true, .bl false])) (0 + 1) [some (.ref se), some (.ref e.pa), some (.ref e.sp), some (.str M'.ask), y4', y5'] (upd (upd H8 tp (.tup [.ref pa', .ref so])) wl (.lst ((es0 ++ es').map (fun e => V.ref e.tp) ++ [.ref tp])))) := fun pa' H8 x8 h8 tp htp y4' y5' => by
            have e9 := Ex.new (o := .tup [.ref pa', .ref so]) htp
            have x69 := x8.trans e9
            have X9 := x6.trans x69
            have s9 := s6.ex x69
            have en9 : EnAt K (upd H8 tp (.tup [.ref pa', .ref so])) ⟨tp, pa', so, L6⟩ (path ++ [true], MT) := ⟨upd_same, e9 _ _ h8, so6.ex x69, Mm.cho_Ok ok' hT, by rw [Mm.cho_gv hT]; exact gv'⟩
            have kn' : ∀ f ∈ es0 ++ es', ∀ x ∈ f.L.own, H'' x ≠ none := fun f hf x hx => by
              obtain ⟨n, _, q⟩ := pr_mem c1.en hf
              obtain ⟨o, h, _⟩ := q.s.m.known x hx
              exact some_ne h
            obtain ⟨dq, oq⟩ := c1.ob
            have s10 := s9.push en9 (fun f hf x hx h => kn' f hf x hx (n6 x h)) (fun h => some_ne oq (n6 se h)) (fun h => some_ne c1.wa (n6 wl h))
            have b10 : But [wl] (upd H8 tp (.tup [.ref pa', .ref so])) (upd (upd H8 tp (.tup [.ref pa', .ref so])) wl (.lst ((es0 ++ es').map (fun e => V.ref e.tp) ++ [.ref tp]))) := But.set (by simp)
            have i10 : Imm (upd H8 tp (.tup [.ref pa', .ref so])) (upd (upd H8 tp (.tup [.ref pa', .ref so])) wl (.lst ((es0 ++ es').map (fun e => V.ref e.tp) ++ [.ref tp]))) := Imm.set (X9 _ _ c1.wa) imm_lst
            have p9 := c2.ex X9
            obtain ⟨⟨dp9, op9⟩, mp9⟩ := p9
            refine ⟨⟨es' ++ [⟨tp, pa', so, L6⟩], by rw [← List.append_assoc]; rw [List.append_assoc ns0] at s10; exact s10, ⟨⟨dp9, b10 _ _ op9 (by simp; exact ne_of op9 (X9 _ _ c1.wa) (fun z => nomatch z))⟩, mp9.mv b10 i10 fun y hy => by simp; intro z; exact dwl (z ▸ hy)⟩, fun f hf x hx => ?_, i10 _ _ (X9 _ _ c4) trivial, c5.trans (X9.but.trans b10), fun f hf x hx => ?_, _, _, rfl⟩, i10 _ _ (X9 _ _ c7) trivial⟩
            · rw [← List.append_assoc] at hf
              rcases List.mem_append.mp hf with z | z
              · exact c3 f z x hx
              · rw [List.mem_singleton.mp z] at hx
                intro h
                obtain ⟨o, h1, _⟩ := msp.known x h
                exact some_ne h1 (n6 x hx)
            · rcases List.mem_append.mp hf with z | z
              · exact c6 f z x hx
              · rw [List.mem_singleton.mp z] at hx
                have h0 := n6 x hx
                cases q : H3 x with
                | none => rfl
                | some o =>
                  have h1 := c5 _ _ q (by simp; intro z2; rw [z2] at hx; exact some_ne c1.wa (n6 wl hx))
                  rw [h1] at h0; cases h0
          have lw : ((es0 ++ es').map fun e => V.ref e.tp).length < 100000 := by
            have h1 := pr_len c1.en
            rw [List.length_map, h1, List.length_append, List.length_take]
            simp
            omega
          refine ⟨_, rfl, _, _, _, _, _, rfl, o6, T.c_Search, T.n_Search_waiting, rfl, .inl ⟨rfl, _, SqL.of s6.wa⟩, _, rfl, _, rfl, sz (by simp), fun u1 hu1 => ?_⟩
          have e7 := Ex.new (o := .tup [.bl true]) hu1
          have pa6 := x6 _ _ c4
          refine ⟨e.pa, u1, _, _, rfl, rfl, SqT.of (e7 _ _ pa6), SqT.of upd_same, sz (by simp; omega), fun hp => ?_, fun _ h => absurd h (by simp), fun hp _ q hq => ?_⟩
          · have hp : path = [] := by simpa using hp
            refine ⟨_, rfl, sz (by simp), fun tp htp => ⟨_, _, _, rfl, rfl, Ex.new htp _ _ (e7 _ _ s6.wa), szl lw, fin2 u1 _ e7 (by rw [hp]; exact upd_same) tp htp _ _⟩⟩
          · have e8 := Ex.new (o := .tup (path.map V.bl ++ [.bl true])) hq
            refine ⟨_, rfl, sz (by simp), fun tp htp => ⟨_, _, _, rfl, rfl, Ex.new htp _ _ (e8 _ _ (e7 _ _ s6.wa)), szl lw, fin2 q _ (e7.trans e8) (by rw [List.map_append]; exact upd_same) tp htp _ _⟩⟩
        | 1, _, hx, c1 =>
          cases hx
          obtain ⟨⟨dsp, osp⟩, msp⟩ := id c2
          refine ⟨_, rfl, _, _, _, rfl, osp, rfl, e.sp, L1, M', rfl, c2, ok', gv', fun so Lo H5 so5 x5 n5 fo5 => ?_⟩
          obtain ⟨d5, o5⟩ := so5.ob
          refine ⟨_, rfl, _, _, _, rfl, o5, rfl, _, rfl, so, Lo, M', false, t, MF, rfl, so5, ok', hR.end_, ha, ht.1, ht.2, hF, fun L6 H6 g6 => ?_⟩
          have x6 : Ex H'' H6 := But.exN (x5.but.trans g6.but) fo5
          have so6 := so5.go g6
          have n6 : ∀ y ∈ L6.own, H'' y = none := fun y hy => by
            rcases g6.own y hy with z | z
            · exact fo5 y z
            · exact x5.free z
          have s6 := c1.ex x6
          obtain ⟨d6, o6⟩ := s6.ob
          have fin2 : ∀ (pa' : Addr) (H8 : Hp), Ex H6 H8 → H8 pa' = some (.tup ((path ++ [false]).map V.bl)) → ∀ tp, H8 tp = none → ∀ y4' y5', ((fun (i : Nat) σ H' => Pv i σ H' ∧ H' u = some (.tup [.bl true, .bl false])) (1 + 1) [some (.ref se), some (.ref e.pa), some (.ref e.sp), some (.str M'.ask), y4', y5'] (upd (upd H8 tp (.tup [.ref pa', .ref so])) wl (.lst ((es0 ++ es').map (fun e => V.ref e.tp) ++ [.ref tp])))) := fun pa' H8 x8 h8 tp htp y4' y5' => by
            have e9 := Ex.new (o := .tup [.ref pa', .ref so]) htp
            have x69 := x8.trans e9
            have X9 := x6.trans x69
            have s9 := s6.ex x69
            have en9 : EnAt K (upd H8 tp (.tup [.ref pa', .ref so])) ⟨tp, pa', so, L6⟩ (path ++ [false], MF) := ⟨upd_same, e9 _ _ h8, so6.ex x69, Mm.cho_Ok ok' hF, by rw [Mm.cho_gv hF]; exact gv'⟩
            have kn' : ∀ f ∈ es0 ++ es', ∀ x ∈ f.L.own, H'' x ≠ none := fun f hf x hx => by
              obtain ⟨n, _, q⟩ := pr_mem c1.en hf
              obtain ⟨o, h, _⟩ := q.s.m.known x hx
              exact some_ne h
            obtain ⟨dq, oq⟩ := c1.ob
            have s10 := s9.push en9 (fun f hf x hx h => kn' f hf x hx (n6 x h)) (fun h => some_ne oq (n6 se h)) (fun h => some_ne c1.wa (n6 wl h))
            have b10 : But [wl] (upd H8 tp (.tup [.ref pa', .ref so])) (upd (upd H8 tp (.tup [.ref pa', .ref so])) wl (.lst ((es0 ++ es').map (fun e => V.ref e.tp) ++ [.ref tp]))) := But.set (by simp)
            have i10 : Imm (upd H8 tp (.tup [.ref pa', .ref so])) (upd (upd H8 tp (.tup [.ref pa', .ref so])) wl (.lst ((es0 ++ es').map (fun e => V.ref e.tp) ++ [.ref tp]))) := Imm.set (X9 _ _ c1.wa) imm_lst
            have p9 := c2.ex X9
            obtain ⟨⟨dp9, op9⟩, mp9⟩ := p9
            refine ⟨⟨es' ++ [⟨tp, pa', so, L6⟩], by rw [← List.append_assoc]; rw [List.append_assoc ns0] at s10; exact s10, ⟨⟨dp9, b10 _ _ op9 (by simp; exact ne_of op9 (X9 _ _ c1.wa) (fun z => nomatch z))⟩, mp9.mv b10 i10 fun y hy => by simp; intro z; exact dwl (z ▸ hy)⟩, fun f hf x hx => ?_, i10 _ _ (X9 _ _ c4) trivial, c5.trans (X9.but.trans b10), fun f hf x hx => ?_, _, _, rfl⟩, i10 _ _ (X9 _ _ c7) trivial⟩
            · rw [← List.append_assoc] at hf
              rcases List.mem_append.mp hf with z | z
              · exact c3 f z x hx
              · rw [List.mem_singleton.mp z] at hx
                intro h
                obtain ⟨o, h1, _⟩ := msp.known x h
                exact some_ne h1 (n6 x hx)
            · rcases List.mem_append.mp hf with z | z
              · exact c6 f z x hx
              · rw [List.mem_singleton.mp z] at hx
                have h0 := n6 x hx
                cases q : H3 x with
                | none => rfl
                | some o =>
                  have h1 := c5 _ _ q (by simp; intro z2; rw [z2] at hx; exact some_ne c1.wa (n6 wl hx))
                  rw [h1] at h0; cases h0
          have lw : ((es0 ++ es').map fun e => V.ref e.tp).length < 100000 := by
            have h1 := pr_len c1.en
            rw [List.length_map, h1, List.length_append, List.length_take]
            simp
            omega
          refine ⟨_, rfl, _, _, _, _, _, rfl, o6, T.c_Search, T.n_Search_waiting, rfl, .inl ⟨rfl, _, SqL.of s6.wa⟩, _, rfl, _, rfl, sz (by simp), fun u1 hu1 => ?_⟩
          have e7 := Ex.new (o := .tup [.bl false]) hu1
          have pa6 := x6 _ _ c4
          refine ⟨e.pa, u1, _, _, rfl, rfl, SqT.of (e7 _ _ pa6), SqT.of upd_same, sz (by simp; omega), fun hp => ?_, fun _ h => absurd h (by simp), fun hp _ q hq => ?_⟩
          · have hp : path = [] := by simpa using hp
            refine ⟨_, rfl, sz (by simp), fun tp htp => ⟨_, _, _, rfl, rfl, Ex.new htp _ _ (e7 _ _ s6.wa), szl lw, fin2 u1 _ e7 (by rw [hp]; exact upd_same) tp htp _ _⟩⟩
          · have e8 := Ex.new (o := .tup (path.map V.bl ++ [.bl false])) hq
            refine ⟨_, rfl, sz (by simp), fun tp htp => ⟨_, _, _, rfl, rfl, Ex.new htp _ _ (e8 _ _ (e7 _ _ s6.wa)), szl lw, fin2 q _ (e7.trans e8) (by rw [List.map_append]; exact upd_same) tp htp _ _⟩⟩
      · obtain ⟨⟨es', c1, c2, c3, c4, c5, c6, y4, y5, rfl⟩, c7⟩ := q
        refine ⟨_, rfl, _, rfl, _, rfl, sz (by simp), fun p hp => ?_⟩
        exact fin none none es' H' c1 c2 c4 c5 c6 p hp
    · refine ifF (fun y => ha (V.str.inj y)) ?_
      rcases hK with ⟨_, rfl⟩ | ⟨h, _⟩
      · refine ⟨_, rfl, _, rfl, _, rfl, sz (by simp), fun p hp => ?_⟩
        exact fin none none [] H3 (by simpa using S3) P3 hpa (But.refl H3) (fun f hf => by cases hf) p hp
      · exact absurd h ha
end
end Lw
namespace Lw
open PySem PySem.Spec PyProof.Rows L2
abbrev Nod := List Bool × Mm
/-- what the search's steps give, one row a step -/
inductive Srch : Nat → List Nod → List Nod → Prop
  | nil (c : Nat) : Srch c [] []
  | cons {c kk : Nat} {ns0 kids rows : List Nod} {path : List Bool} {M M' : Mm} : c < 200 → path.length ≤ 100 → (ns0 ++ [(path, M)]).length ≤ 1000 → Mm.Runs kk M M' → kk ≤ 2999 → Kids M' path kids → Srch (c + 1) (ns0 ++ kids) rows → Srch c (ns0 ++ [(path, M)]) ((path, M') :: rows)
def isDone (r : Nod) : Bool := decide (r.2.ask = "done")
def sols (rows : List Nod) (zf : Nod → List Int) : List (List Bool × List Int) := (rows.filter isDone).map fun r => (r.1, zf r)
def SolAt (H : Hp) (v : V) (s : List Bool × List Int) : Prop := ∃ p pa ov, v = .ref p ∧ H p = some (.tup [.ref pa, ov]) ∧ H pa = some (.tup (s.1.map V.bl)) ∧ OutAt H ov s.2
theorem SolAt.imm {H H' : Hp} (e : Imm H H') {v : V} {s : List Bool × List Int} (h : SolAt H v s) : SolAt H' v s := by
  obtain ⟨p, pa, ov, h1, h2, h3, q, a, b, h4, h5, h6, h7⟩ := h
  exact ⟨p, pa, ov, h1, e _ _ h2 trivial, e _ _ h3 trivial, q, a, b, h4, e _ _ h5 trivial, e _ _ h6 trivial, e _ _ h7 trivial⟩
theorem StkAt.imm {K : PySem.W.Frag} {H H' : Hp} {se wl : Addr} {c : Nat} {es : List En} {ns : List Nod} (s : StkAt K H se wl c es ns) (b : But (foot se wl es) H H') : Imm H H' := b.imm fun x hx o ho => by
  unfold foot at hx
  simp only [List.mem_cons, List.mem_flatMap] at hx
  obtain ⟨dx, h⟩ := s.ob
  rcases hx with e | e | ⟨f, hf, hx⟩
  · rw [e, h] at ho; cases ho; exact imm_se
  · rw [e, s.wa] at ho; cases ho; exact imm_lst
  · obtain ⟨n, _, q⟩ := pr_mem s.en hf
    obtain ⟨o', h1, h2⟩ := q.s.m.known x hx
    rw [h1] at ho; cases ho; exact h2
def Fine (zf : Nod → List Int) (r : Nod) : Prop := r.2.ask = "done" → (∀ T ∈ r.2.rows, Mm.stat r.2.so T = .done) ∧ r.2.vals (zf r) ∧ (zf r).length ≤ 100 ∧ ∀ z ∈ zf r, z.natAbs.log2 < 1920
section
variable {P : Program} {w : World} {K : PySem.W.Frag} {mg : Str → Option Value} {base : Heap}
theorem nil_app {σ : L2.St} {H : Hp} {f : List V → Hp → Prop} (h : f [] H) : tNil σ H f := h
theorem sstep_mono {vs : List V} {H : Hp} {Q Q' : VK} (h : ∀ v H', Q v H' → Q' v H') (s : spSStep K vs H Q E0) : spSStep K vs H Q' E0 := by
  obtain ⟨se, wl, c, es, ns, e, S, k⟩ := s
  refine ⟨se, wl, c, es, ns, e, S, ?_⟩
  rcases k with ⟨e, k⟩ | ⟨ns0, path, M, kk, M', kids, h1, h2, h3, h4, h5, h6, h7, k⟩
  · exact .inl ⟨e, h _ _ k⟩
  · exact .inr ⟨ns0, path, M, kk, M', kids, h1, h2, h3, h4, h5, h6, h7, fun p pa sp L es' H' a b c d e f g => h _ _ (k p pa sp L es' H' a b c d e f g)⟩
def spSol (K : PySem.W.Frag) : Sp := fun vs H Q _ => ∃ (pt g : Addr) (names : List Str) (sv : V) (s : Sm) (rows : List Nod) (zf : Nod → List Int), vs = [.ref pt] ∧ H pt = some (.tup [.ref g, sv]) ∧ H g = some (.tup (names.map V.str)) ∧ SmAt H sv s ∧ names.length ≤ 12 ∧
  Srch 0 [([], iniM names s)] rows ∧ (∀ r ∈ rows, Fine zf r) ∧ rows.length ≤ 1000 ∧ ∀ fd fs H', H' fd = some (.lst fs) → Paired (SolAt H') fs (sols rows zf) → Ex H H' → H fd = none → Q (.ref fd) H'
/-- the row that the search has given last -/
def RowAt (K : PySem.W.Frag) (H : Hp) (v : V) (r : Nod) : Prop := ∃ p pa sp L, v = .ref p ∧ H p = some (.tup [.ref pa, .ref sp, .str r.2.ask]) ∧ H pa = some (.tup (r.1.map V.bl)) ∧ SpAt K H sp L r.2 ∧ r.2.Ok
theorem f_solutions (T : Tx K mg) : Cal P w K mg base 12 "solutions" (spSol K) := by
  have sc : FnScope ["program", "search", "found", "row", "path", "space", "status"] ["program"] (defScope s_solutions) := ⟨rfl, rfl, rfl, by decide +kernel, rfl, by decide +kernel, by decide +kernel⟩
  refine cal_ T.g_solutions T.f_solutions sc (fun _ _ _ _ _ _ us hl => match us, hl with | [_], _ => rfl) (fun vs H Q E h => ?_) (fun cdv A outer s H vs Q E hr h => ?_)
  · obtain ⟨_, _, _, _, _, _, _, rfl, _⟩ := h
    rfl
  · obtain ⟨pt, g, names, sv, st, rows, zf, rfl, hpt, hg, hs, hn, hSr, hF, hl, k⟩ := h
    refine ⟨_, pss_cons (ps_set (i := 1) sc.nd rfl (Or.inl rfl) (pe_mk (k_search T) hr (pa_cons (pv 0) pa_nil)))
      (pss_cons (ps_set (i := 2) sc.nd rfl (Or.inl rfl) (pe_lst pa_nil))
      (pss_cons (ps_set (i := 3) sc.nd rfl (Or.inl rfl) (pe_mt0 (m_sstep T) hr (pv 1)))
      (pss_cons (ps_while PassesOwn.never (pt_cmp (pc_notN (pv 3)))
        (pss_cons (ps_asg (pv 3) (pg_tup rfl (pgs_cons (pg_name (i := 4) sc.nd rfl (Or.inl rfl)) (pgs_cons (pg_name (i := 5) sc.nd rfl (Or.inl rfl)) (pgs_cons (pg_name (i := 6) sc.nd rfl (Or.inl rfl)) pgs_nil)))))
        (pss_cons (ps_if (pt_cmpR op_eq (pv 6) pe_str (nomark _)) (pss_one (ps_expr (pe_bm PySem.F.plainAttrs_list PySem.F.slot_list_append PySem.F.type_list_append mt_append (pv 2) (pa_cons (pe_tup (pa_cons (pv 4) (pa_cons (pe_mt0 (m_spout T) hr (pv 5)) pa_nil))) pa_nil)))) pss_nil)
        (pss_one (ps_set (i := 3) sc.nd rfl (Or.inl rfl) (pe_mt0 (m_sstep T) hr (pv 1)))))))
      (pss_one (ps_ret (pv 2)))))), ?_⟩
    refine ⟨_, rfl, ?_⟩
    intro se ds hse hds ne
    have w1 : ∀ {a o}, H a = some o → upd (upd H ds (.own se)) se (.ins (cSearch K) ds []) a = some o := fun {a o} h => by
      rw [upd_ne (ne_of_none h hse), upd_ne (ne_of_none h hds)]; exact h
    have wE : Ex H (upd (upd H ds (.own se)) se (.ins (cSearch K) ds [])) := fun _ _ h => w1 h
    refine ⟨se, ds, pt, g, names, sv, st, rfl, upd_same, w1 hpt, w1 hg, hs.imm wE.imm, hn, fun wl es H1 S1 b1 fr1 => ⟨rfl, sz (by simp), fun fd hfd => ?_⟩⟩
    have x1 := made_ex hse hds ne b1
    have e2 := Ex.new (o := .lst []) hfd
    have S2 := S1.ex e2
    have q2 : upd H1 fd (.lst []) fd = some (.lst []) := upd_same
    have X2 := x1.trans e2
    have hfd0 := x1.free hfd
    have nfd : fd ∉ foot se wl es := fun h => by
      unfold foot at h
      simp only [List.mem_cons, List.mem_flatMap] at h
      obtain ⟨d1, o1⟩ := S1.ob
      rcases h with e | e | ⟨f, hf, hx⟩
      · rw [e, o1] at hfd; cases hfd
      · rw [e, S1.wa] at hfd; cases hfd
      · obtain ⟨n, _, q⟩ := pr_mem S1.en hf
        obtain ⟨o, h, _⟩ := q.s.m.known _ hx
        rw [h] at hfd; cases hfd
    have fr2 : ∀ x ∈ foot se wl es, H x = none := fun x hx => by
      rcases fr1 x hx with e | e
      · rw [e]; exact hse
      · exact wE.free e
    clear w1 wE b1 fr1 ne hds hfd
    generalize upd H1 fd (.lst []) = H2 at *
    -- rem: the rows that are still to come, acc: what is found
    let Inv0 : Nat → List En → List Nod → List Nod → List (List Bool × List Int) → Hp → Prop := fun c es ns rem acc H' => StkAt K H' se wl c es ns ∧ Srch c ns rem ∧ (∀ r ∈ rem, Fine zf r) ∧ acc.length + rem.length ≤ 1000 ∧
      Ex H H' ∧ fd ∉ foot se wl es ∧ (∀ x ∈ foot se wl es, H x = none) ∧ ∃ fs, H' fd = some (.lst fs) ∧ Paired (SolAt H') fs acc
    let W : Nat → L2.St → Hp → Prop := fun m σ H' => ∃ y4 y5 y6, (m = 0 ∧ σ = [some (.ref pt), some (.ref se), some (.ref fd), some .non, y4, y5, y6] ∧ Ex H H' ∧ ∃ fs, H' fd = some (.lst fs) ∧ Paired (SolAt H') fs (sols rows zf)) ∨
      ∃ v r c es ns rem acc, m = rem.length + 1 ∧ σ = [some (.ref pt), some (.ref se), some (.ref fd), some v, y4, y5, y6] ∧ RowAt K H' v r ∧ Fine zf r ∧ acc ++ sols (r :: rem) zf = sols rows zf ∧ acc.length + rem.length + 1 ≤ 1000 ∧ Inv0 c es ns rem acc H'
    have go : ∀ (c : Nat) (es : List En) (ns rem : List Nod) (acc : List (List Bool × List Int)) (H' : Hp) (y4 y5 y6 : Option V), Inv0 c es ns rem acc H' → acc ++ sols rem zf = sols rows zf → spSStep K [.ref se] H' (fun v H'' => W rem.length [some (.ref pt), some (.ref se), some (.ref fd), some v, y4, y5, y6] H'') E0 := fun c es ns rem acc H' y4 y5 y6 ⟨S, hR, hf, hL, hE, hnf, hfr, fs, hfd, hP⟩ ha => by
      refine ⟨se, wl, c, es, ns, rfl, S, ?_⟩
      cases hR with
      | nil => exact .inl ⟨rfl, y4, y5, y6, .inl ⟨rfl, rfl, hE, fs, hfd, by rw [← ha]; simpa [sols] using hP⟩⟩
      | @cons _ kk ns0 kids rem' path M M' h1 h2 h3 h4 h5 h6 h7 =>
        refine .inr ⟨ns0, path, M, kk, M', kids, rfl, h1, h2, h3, h4, h5, h6, fun p pa sp L es' H'' S' j1 j2 j3 jo j4 j5 => ?_⟩
        have im := S.imm j4
        have E' : Ex H H'' := fun a o h => j4 _ _ (hE _ _ h) fun m => by rw [hfr a m] at h; cases h
        refine ⟨y4, y5, y6, .inr ⟨_, (path, M'), c + 1, es', ns0 ++ kids, rem', acc, rfl, rfl, ⟨p, pa, sp, L, rfl, j1, j2, j3, jo⟩, hf _ (by simp), ha, by simp at hL; omega, S', h7, fun r hr => hf r (by simp [hr]), by simp at hL; omega, E', fun m => ?_, fun x hx => ?_, fs, j4 _ _ hfd hnf, pr_imp (fun _ _ q => q.imm im) hP⟩⟩
        · rcases j5 fd m with z | z
          · exact hnf z
          · rw [hfd] at z; cases z
        · rcases j5 x hx with z | z
          · exact hfr x z
          · exact hE.free z
    obtain ⟨d2, o2⟩ := S2.ob
    refine ⟨_, rfl, _, _, _, rfl, o2, rfl, ?_⟩
    have start := go 0 es _ rows [] H2 none none none ⟨S2, hSr, hF, by simpa using hl, X2, nfd, fr2, [], q2, .nil⟩ rfl
    refine nil_app ?_
    refine sstep_mono (fun v H3 hW => ⟨W, ⟨_, hW⟩, ?_⟩) start
    rintro m σ H4 ⟨y4, y5, y6, ⟨rfl, rfl, hE, fs, hfd, hP⟩ | ⟨v, r, c, es, ns, rem, acc, rfl, rfl, ⟨p, pa, sp, L, rfl, r1, r2, r3, r4⟩, hFr, ha, hL, S, hR, hf, hL2, hE, hnf, hfr, fs, hfd, hP⟩⟩
    · exact ⟨_, rfl, _, rfl, iteF ⟨_, rfl, k fd fs H4 hfd hP hE hfd0⟩⟩
    · refine ⟨_, rfl, _, rfl, iteT ⟨fun σ' H' => ∃ m', m' < rem.length + 1 ∧ W m' σ' H', fun _ _ h => h, ?_⟩⟩
      refine ⟨_, rfl, _, _, rfl, SqT.of r1, rfl, _, _, rfl, _, _, rfl, _, _, rfl, rfl, ?_⟩
      obtain ⟨ds4, os4⟩ := r3.ob
      refine ⟨_, rfl, rfl, _, rfl, ?_⟩
      by_cases hd : r.2.ask = "done"
      · refine ifT (by rw [hd]) ?_
        obtain ⟨f1, f2, f3, f4⟩ := hFr hd
        refine ⟨_, rfl, .inl ⟨rfl, _, SqL.of hfd⟩, _, rfl, _, rfl, _, _, _, rfl, os4, rfl, sp, L, r.2, zf r, rfl, r3, r4, f1, f2, f3, f4, fun ov H5 x5 h5 => ?_⟩
        refine ⟨sz (by simp), fun q hq => ⟨_, _, _, rfl, rfl, (x5.trans (Ex.new hq)) _ _ hfd, szl ?_, ?_⟩⟩
        · rw [pr_len hP]; omega
        · have e6 := Ex.new (o := .tup [.ref pa, ov]) hq
          have X6 := x5.trans e6
          have fd6 := X6 _ _ hfd
          have i7 : Imm (upd H5 q (.tup [.ref pa, ov])) (upd (upd H5 q (.tup [.ref pa, ov])) fd (.lst (fs ++ [.ref q]))) := Imm.set fd6 imm_lst
          have b7 : But [fd] (upd H5 q (.tup [.ref pa, ov])) (upd (upd H5 q (.tup [.ref pa, ov])) fd (.lst (fs ++ [.ref q]))) := But.set (by simp)
          have S7 : StkAt K (upd (upd H5 q (.tup [.ref pa, ov])) fd (.lst (fs ++ [.ref q]))) se wl c es ns := (S.ex X6).mv b7 i7 (by simp; intro z; exact hnf (by rw [← z]; simp [foot])) (by simp; intro z; exact hnf (by rw [← z]; simp [foot])) fun f hf2 => by
            obtain ⟨n, _, qq⟩ := pr_mem (S.ex X6).en hf2
            obtain ⟨dq, oq⟩ := qq.s.ob
            exact ⟨fun x hx => by simp; intro z; exact hnf (by rw [← z]; simp only [foot, List.mem_cons, List.mem_flatMap]; exact .inr (.inr ⟨f, hf2, hx⟩)), by simp; exact ne_of oq fd6 (fun z => nomatch z)⟩
          obtain ⟨d7, o7⟩ := S7.ob
          have ns7 : SolAt (upd (upd H5 q (.tup [.ref pa, ov])) fd (.lst (fs ++ [.ref q]))) (.ref q) (r.1, zf r) := by
            obtain ⟨p9, a9, b9, k1, k2, k3, k4⟩ := h5
            exact ⟨q, pa, ov, rfl, i7 _ _ upd_same trivial, i7 _ _ (X6 _ _ r2) trivial, p9, a9, b9, k1, i7 _ _ (e6 _ _ k2) trivial, i7 _ _ (e6 _ _ k3) trivial, i7 _ _ (e6 _ _ k4) trivial⟩
          have hE7 : Ex H (upd (upd H5 q (.tup [.ref pa, ov])) fd (.lst (fs ++ [.ref q]))) := fun a o h => by
            rw [upd_ne (ne_of_none h hfd0)]
            exact X6 _ _ (hE _ _ h)
          refine ⟨_, rfl, _, _, _, rfl, o7, rfl, ?_⟩
          refine nil_app ?_
          refine sstep_mono (fun v H8 hW => ⟨_, Nat.lt_succ_self _, hW⟩) (go c es ns rem (acc ++ [(r.1, zf r)]) _ _ _ _ ⟨S7, hR, hf, by rw [List.length_append]; simp; omega, hE7, hnf, hfr, fs ++ [.ref q], upd_same, pr_app (pr_imp (fun _ _ z => (z.imm X6.imm).imm i7) hP) (.cons ns7 .nil)⟩ ?_)
          rw [← ha, List.append_assoc]
          have e : isDone r = true := decide_eq_true hd
          simp [sols, e]
      · refine ifF (fun y => hd (V.str.inj y)) ?_
        obtain ⟨d7, o7⟩ := S.ob
        refine ⟨_, rfl, _, _, _, rfl, o7, rfl, ?_⟩
        refine nil_app ?_
        refine sstep_mono (fun v H8 hW => ⟨_, Nat.lt_succ_self _, hW⟩) (go c es ns rem acc _ _ _ _ ⟨S, hR, hf, by omega, hE, hnf, hfr, fs, hfd, hP⟩ ?_)
        rw [← ha]
        have e : isDone r = false := decide_eq_false hd
        simp [sols, e]
end
end Lw
namespace Lw
open PySem PySem.Spec PyProof.Rows L2
/-- a text so many times -/
def repS (z : Str) (n : Nat) : Str := ⟨(List.replicate n z.cps).foldl (· ++ ·) #[]⟩
theorem fold_size (a : Array Nat) : ∀ (n : Nat) (acc : Array Nat), ((List.replicate n a).foldl (· ++ ·) acc).size = acc.size + n * a.size
  | 0, acc => by simp
  | n + 1, acc => by
    rw [List.replicate_succ, List.foldl_cons, fold_size a n, Array.size_append, Nat.succ_mul]
    omega
theorem fold_toList (a : Array Nat) : ∀ (n : Nat) (acc : Array Nat), ((List.replicate n a).foldl (· ++ ·) acc).toList = acc.toList ++ (List.replicate n a.toList).flatten
  | 0, acc => by simp
  | n + 1, acc => by
    rw [List.replicate_succ, List.foldl_cons, fold_toList a n, List.replicate_succ, List.flatten_cons, Array.toList_append, List.append_assoc]
theorem repS_len (z : Str) (n : Nat) : (repS z n).length = n * z.length := by
  show (repS z n).cps.size = n * z.cps.size
  unfold repS
  rw [fold_size]
  simp
def rMulS : R2 := fun x y H Q => ∃ (z : Str) (k : Int), x = .str z ∧ y = .int k ∧ k ≤ 1000 ∧ -1000 ≤ k ∧ z.length = 1 ∧ Q (.str (repS z k.toNat)) H
theorem op_mulS {X : Cx} : OpR X (binaryOp .Mult) rMulS := by
  intro pins s σ H x y v u Q I rx ry h
  obtain ⟨z, k, rfl, rfl, h1, h2, h3, q⟩ := h
  obtain ⟨t, rfl⟩ := rx
  obtain ⟨t', rfl⟩ := ry
  refine P.mul_str ?_ (fun g1 g2 => ?_) (fun g1 g2 => ?_) ?_
  · have a1 : ¬ k < -(2 ^ 63 : Int) := by omega
    have a2 : ¬ k ≥ 2 ^ 63 := by omega
    rw [decide_eq_false a1, decide_eq_false a2]; rfl
  · have hk : 0 < k := by omega
    rw [h3]
    have : (1 : Int) ≤ (2 ^ 63 - 1) / k := by
      rw [Int.le_ediv_iff_mul_le hk]
      omega
    show ¬ ((1 : Nat) : Int) > _
    omega
  · rw [h3]
    refine decide_eq_false ?_
    rw [sizeLine_eq]
    omega
  · by_cases g1 : k < 1
    · rw [if_pos g1]
      have e : k.toNat = 0 := by omega
      rw [e] at q
      exact ⟨by decide, .str Str.empty, H, I.tok _, ⟨_, rfl⟩, q⟩
    · rw [if_neg g1]
      by_cases g2 : (k == 1 || z.length == 0) = true
      · rw [if_pos g2]
        have e : k = 1 := by
          rw [h3] at g2
          simpa using g2
        rw [e] at q
        have e2 : repS z 1 = z := by
          unfold repS
          simp
        rw [show (1 : Int).toNat = 1 from rfl, e2] at q
        exact ⟨.str z, H, I, ⟨_, rfl⟩, q⟩
      · rw [if_neg g2]
        refine ⟨?_, .str (repS z k.toNat), H, I.tok _, ⟨_, rfl⟩, q⟩
        show (repS z k.toNat).length ≤ sizeLine
        rw [repS_len, h3, sizeLine_eq]
        omega
end Lw
namespace Lw
open PySem PySem.Spec PyProof.Rows L2
def ltr (r : Nod) : Str := if r.2.ask = "done" then "d" else "f"
/-- the pieces of the shape, the depth behind them -/
def shp : List Nod → Nat → List Str × Nat
  | [], d => ([], d)
  | r :: rs, d => if r.2.ask = "choosing" then (repS ")" (d - r.1.length) :: "(" :: (shp rs (r.1.length + 1)).1, (shp rs (r.1.length + 1)).2)
    else (repS ")" (d - r.1.length) :: ltr r :: (shp rs r.1.length).1, (shp rs r.1.length).2)
def AskOk (r : Nod) : Prop := r.2.ask = "choosing" ∨ r.2.ask = "done" ∨ r.2.ask = "failed"
theorem joinL_nil : ∀ (ls : List (List Nat)), TL.joinL [] ls = ls.flatten
  | [] => rfl
  | [p] => by simp [TL.joinL]
  | p :: q :: r => by
    show p ++ ([] ++ TL.joinL [] (q :: r)) = _
    rw [joinL_nil (q :: r)]
    simp
theorem tl_joinE (ps : List Str) : TL.tl (Txt.join "" ps) = (ps.map TL.tl).flatten := by
  rw [TL.join_eq, TL.tl_join]
  exact joinL_nil _
theorem tl_len (z : Str) : (TL.tl z).length = z.length := by
  show z.cps.toList.length = z.cps.size
  simp
theorem join_len (ps : List Str) : (Txt.join "" ps).length = (ps.map (·.length)).sum := by
  rw [← tl_len, tl_joinE, List.length_flatten, List.map_map]
  congr 1
theorem sum_le : ∀ (ps : List Str), (∀ p ∈ ps, p.length ≤ 101) → (ps.map (·.length)).sum ≤ ps.length * 101
  | [], _ => by simp
  | p :: ps, h => by
    have h1 := sum_le ps fun q hq => h q (by simp [hq])
    have h2 := h p (by simp)
    simp only [List.map_cons, List.sum_cons, List.length_cons]
    omega
section
variable {P : Program} {w : World} {K : PySem.W.Frag} {mg : Str → Option Value} {base : Heap}
def spShape (K : PySem.W.Frag) : Sp := fun vs H Q _ => ∃ (pt g : Addr) (names : List Str) (sv : V) (s : Sm) (rows : List Nod), vs = [.ref pt] ∧ H pt = some (.tup [.ref g, sv]) ∧ H g = some (.tup (names.map V.str)) ∧ SmAt H sv s ∧ names.length ≤ 12 ∧
  Srch 0 [([], iniM names s)] rows ∧ (∀ r ∈ rows, AskOk r) ∧ rows.length ≤ 1000 ∧ ∀ H', Ex H H' → Q (.str (Txt.join "" (shp rows 0).1 ++ repS ")" (shp rows 0).2)) H'
theorem f_shape (T : Tx K mg) : Cal P w K mg base 12 "shape" (spShape K) := by
  have sc : FnScope ["program", "search", "found", "depth", "row", "path", "_", "status"] ["program"] (defScope s_shape) := ⟨rfl, rfl, rfl, by decide +kernel, rfl, by decide +kernel, by decide +kernel⟩
  refine cal_ T.g_shape T.f_shape sc (fun _ _ _ _ _ _ us hl => match us, hl with | [_], _ => rfl) (fun vs H Q E h => ?_) (fun cdv A outer s H vs Q E hr h => ?_)
  · obtain ⟨_, _, _, _, _, _, rfl, _⟩ := h
    rfl
  · obtain ⟨pt, g, names, sv, st, rows, rfl, hpt, hg, hs, hn, hSr, hA, hl, k⟩ := h
    refine ⟨_, pss_cons (ps_set (i := 1) sc.nd rfl (Or.inl rfl) (pe_mk (k_search T) hr (pa_cons (pv 0) pa_nil)))
      (pss_cons (ps_set (i := 2) sc.nd rfl (Or.inl rfl) (pe_lst pa_nil))
      (pss_cons (ps_set (i := 3) sc.nd rfl (Or.inl rfl) pe_int)
      (pss_cons (ps_set (i := 4) sc.nd rfl (Or.inl rfl) (pe_mt0 (m_sstep T) hr (pv 1)))
      (pss_cons (ps_while PassesOwn.never (pt_cmp (pc_notN (pv 4)))
        (pss_cons (ps_asg (pv 4) (pg_tup rfl (pgs_cons (pg_name (i := 5) sc.nd rfl (Or.inl rfl)) (pgs_cons (pg_name (i := 6) sc.nd rfl (Or.inl rfl)) (pgs_cons (pg_name (i := 7) sc.nd rfl (Or.inl rfl)) pgs_nil)))))
        (pss_cons (ps_expr (pe_bm PySem.F.plainAttrs_list PySem.F.slot_list_append PySem.F.type_list_append mt_append (pv 2) (pa_cons (pe_op op_mulS pe_str (pe_callB (call_max2 rfl) (by rfl) T.z_max (by decide +kernel) (pa_cons pe_int (pa_cons (pe_op op_sub (pv 3) (pe_callB call_len_seq (by rfl) T.z_len PySem.boot_len (pa_cons (pv 5) pa_nil))) pa_nil)))) pa_nil)))
        (pss_cons (ps_set (i := 3) sc.nd rfl (Or.inl rfl) (pe_callB call_len_seq (by rfl) T.z_len PySem.boot_len (pa_cons (pv 5) pa_nil)))
        (pss_cons (ps_if (pt_cmpR op_eq (pv 7) pe_str (nomark _))
          (pss_cons (ps_expr (pe_bm PySem.F.plainAttrs_list PySem.F.slot_list_append PySem.F.type_list_append mt_append (pv 2) (pa_cons pe_str pa_nil))) (pss_one (ps_aug (i := 3) sc.nd rfl (Or.inl rfl) pe_int ip_add)))
          (pss_one (ps_expr (pe_bm PySem.F.plainAttrs_list PySem.F.slot_list_append PySem.F.type_list_append mt_append (pv 2) (pa_cons (pe_ix ix_str (pv 7) pe_int (fun _ _ => rfl)) pa_nil)))))
        (pss_one (ps_set (i := 4) sc.nd rfl (Or.inl rfl) (pe_mt0 (m_sstep T) hr (pv 1)))))))))
      (pss_one (ps_ret (pe_op op_add_str (pe_join pe_str (pv 2)) (pe_op op_mulS pe_str (pv 3))))))))), ?_⟩
    refine ⟨_, rfl, ?_⟩
    intro se ds hse hds ne
    have w1 : ∀ {a o}, H a = some o → upd (upd H ds (.own se)) se (.ins (cSearch K) ds []) a = some o := fun {a o} h => by
      rw [upd_ne (ne_of_none h hse), upd_ne (ne_of_none h hds)]; exact h
    have wE : Ex H (upd (upd H ds (.own se)) se (.ins (cSearch K) ds [])) := fun _ _ h => w1 h
    refine ⟨se, ds, pt, g, names, sv, st, rfl, upd_same, w1 hpt, w1 hg, hs.imm wE.imm, hn, fun wl es H1 S1 b1 fr1 => ⟨rfl, sz (by simp), fun fd hfd => ?_⟩⟩
    have x1 := made_ex hse hds ne b1
    have e2 := Ex.new (o := .lst []) hfd
    have S2 := S1.ex e2
    have q2 : upd H1 fd (.lst []) fd = some (.lst []) := upd_same
    have X2 := x1.trans e2
    have hfd0 := x1.free hfd
    have nfd : fd ∉ foot se wl es := fun h => by
      unfold foot at h
      simp only [List.mem_cons, List.mem_flatMap] at h
      obtain ⟨d1, o1⟩ := S1.ob
      rcases h with e | e | ⟨f, hf, hx⟩
      · rw [e, o1] at hfd; cases hfd
      · rw [e, S1.wa] at hfd; cases hfd
      · obtain ⟨n, _, q⟩ := pr_mem S1.en hf
        obtain ⟨o, h, _⟩ := q.s.m.known _ hx
        rw [h] at hfd; cases hfd
    have fr2 : ∀ x ∈ foot se wl es, H x = none := fun x hx => by
      rcases fr1 x hx with e | e
      · rw [e]; exact hse
      · exact wE.free e
    clear w1 wE b1 fr1 ne hds hfd
    generalize upd H1 fd (.lst []) = H2 at *
    let Inv0 : Nat → List En → List Nod → List Nod → List Str → Nat → Hp → Prop := fun c es ns rem ps d H' => StkAt K H' se wl c es ns ∧ Srch c ns rem ∧ (∀ r ∈ rem, AskOk r) ∧ ps.length + 2 * rem.length ≤ 2000 ∧ (∀ p ∈ ps, p.length ≤ 101) ∧ d ≤ 101 ∧
      Ex H H' ∧ fd ∉ foot se wl es ∧ (∀ x ∈ foot se wl es, H x = none) ∧ H' fd = some (.lst (ps.map V.str))
    let W : Nat → L2.St → Hp → Prop := fun m σ H' => ∃ y5 y6 y7, (m = 0 ∧ Ex H H' ∧ ∃ ps d, σ = [some (.ref pt), some (.ref se), some (.ref fd), some (nV d), some .non, y5, y6, y7] ∧ H' fd = some (.lst (ps.map V.str)) ∧ ps = (shp rows 0).1 ∧ d = (shp rows 0).2 ∧ ps.length ≤ 2000 ∧ (∀ p ∈ ps, p.length ≤ 101) ∧ d ≤ 101) ∨
      ∃ v r c es ns rem ps d, m = rem.length + 1 ∧ σ = [some (.ref pt), some (.ref se), some (.ref fd), some (nV d), some v, y5, y6, y7] ∧ RowAt K H' v r ∧ AskOk r ∧ r.1.length ≤ 100 ∧ ps ++ (shp (r :: rem) d).1 = (shp rows 0).1 ∧ (shp (r :: rem) d).2 = (shp rows 0).2 ∧ ps.length + 2 * rem.length + 2 ≤ 2000 ∧ Inv0 c es ns rem ps d H'
    have go : ∀ (c : Nat) (es : List En) (ns rem : List Nod) (ps : List Str) (d : Nat) (H' : Hp) (y5 y6 y7 : Option V), Inv0 c es ns rem ps d H' → ps ++ (shp rem d).1 = (shp rows 0).1 → (shp rem d).2 = (shp rows 0).2 → spSStep K [.ref se] H' (fun v H'' => W rem.length [some (.ref pt), some (.ref se), some (.ref fd), some (nV d), some v, y5, y6, y7] H'') E0 := fun c es ns rem ps d H' y5 y6 y7 ⟨S, hR, hf, hL, hps, hd, hE, hnf, hfr, hfd⟩ ha hb => by
      refine ⟨se, wl, c, es, ns, rfl, S, ?_⟩
      cases hR with
      | nil => exact .inl ⟨rfl, y5, y6, y7, .inl ⟨rfl, hE, ps, d, rfl, hfd, by rw [← ha]; simp [shp], by rw [← hb]; rfl, by omega, hps, hd⟩⟩
      | @cons _ kk ns0 kids rem' path M M' h1 h2 h3 h4 h5 h6 h7 =>
        refine .inr ⟨ns0, path, M, kk, M', kids, rfl, h1, h2, h3, h4, h5, h6, fun p pa sp L es' H'' S' j1 j2 j3 jo j4 j5 => ?_⟩
        have E' : Ex H H'' := fun a o h => j4 _ _ (hE _ _ h) fun m => by rw [hfr a m] at h; cases h
        refine ⟨y5, y6, y7, .inr ⟨_, (path, M'), c + 1, es', ns0 ++ kids, rem', ps, d, rfl, rfl, ⟨p, pa, sp, L, rfl, j1, j2, j3, jo⟩, hf _ (by simp), h2, ha, hb, by simp at hL; omega, S', h7, fun r hr => hf r (by simp [hr]), by simp at hL; omega, hps, hd, E', fun m => ?_, fun x hx => ?_, j4 _ _ hfd hnf⟩⟩
        · rcases j5 fd m with z | z
          · exact hnf z
          · rw [hfd] at z; cases z
        · rcases j5 x hx with z | z
          · exact hfr x z
          · exact hE.free z
    obtain ⟨d2, o2⟩ := S2.ob
    refine ⟨_, rfl, _, _, _, rfl, o2, rfl, ?_⟩
    have start := go 0 es _ rows [] 0 H2 none none none ⟨S2, hSr, hA, by simp; omega, (fun p hp => by cases hp), by decide, X2, nfd, fr2, q2⟩ rfl rfl
    refine nil_app ?_
    refine sstep_mono (fun v H3 hW => ⟨W, ⟨_, hW⟩, ?_⟩) start
    rintro m σ H4 ⟨y5, y6, y7, ⟨rfl, hE, ps, d, rfl, hfd, e1, e2, hL, hps, hd⟩ | ⟨v, r, c, es, ns, rem, ps, d, rfl, rfl, ⟨p, pa, sp, L, rfl, r1, r2, r3, r4⟩, hAr, hpl, ha, hb, hL, S, hR, hf, hL2, hps, hd, hE, hnf, hfr, hfd⟩⟩
    · refine ⟨_, rfl, _, rfl, iteF ?_⟩
      have hsum := sum_le ps hps
      refine ⟨⟨_, rfl⟩, _, rfl, "", fd, ps, rfl, rfl, .inl (SqL.of hfd), ?_, ?_⟩
      · have l0 : (Str.ofString "").length = 0 := rfl
        simp only [l0]
        omega
      · refine ⟨_, rfl, ")", d, rfl, rfl, by omega, by omega, rfl, _, _, rfl, rfl, ?_, ?_⟩
        · rw [join_len, repS_len, sizeLine_eq]
          have : (Str.ofString ")").length = 1 := rfl
          rw [this, Int.toNat_natCast]
          omega
        · rw [Int.toNat_natCast]
          rw [e1, e2]
          exact k H4 hE
    · refine ⟨_, rfl, _, rfl, iteT ⟨fun σ' H' => ∃ m', m' < rem.length + 1 ∧ W m' σ' H', fun _ _ h => h, ?_⟩⟩
      refine ⟨_, rfl, _, _, rfl, SqT.of r1, rfl, _, _, rfl, _, _, rfl, _, _, rfl, rfl, ?_⟩
      have eL : (r.1.map V.bl).length = r.1.length := List.length_map ..
      refine ⟨_, rfl, .inl ⟨rfl, _, SqL.of hfd⟩, _, rfl, _, rfl, _, _, rfl, .inr (SqT.of r2), _, _, rfl, rfl, _, _, rfl, ?_⟩
      have eI : (if ((d : Int) - ((r.1.map V.bl).length : Nat) > 0) then ((d : Int) - ((r.1.map V.bl).length : Nat)) else 0) = (((d - r.1.length : Nat)) : Int) := by
        rw [eL]
        split <;> omega
      rw [eI]
      refine ⟨")", _, rfl, rfl, by omega, by omega, rfl, ?_⟩
      rw [Int.toNat_natCast]
      refine ⟨_, _, _, rfl, rfl, hfd, szl (by rw [List.length_map]; omega), ?_⟩
      have rep1 : (repS ")" (d - r.1.length)).length ≤ 101 := by
        rw [repS_len]
        have : (Str.ofString ")").length = 1 := rfl
        rw [this]
        omega
      have mvS : ∀ {H5 : Hp} {xs ys : List V}, StkAt K H5 se wl c es ns → H5 fd = some (.lst xs) → StkAt K (upd H5 fd (.lst ys)) se wl c es ns := fun {H5 xs ys} S hfd => S.mv (But.set (F := [fd]) (by simp)) (Imm.set hfd imm_lst) (by simp; intro z; exact hnf (by rw [← z]; simp [foot])) (by simp; intro z; exact hnf (by rw [← z]; simp [foot])) fun f hf2 => by
        obtain ⟨n, _, qq⟩ := pr_mem S.en hf2
        obtain ⟨dq, oq⟩ := qq.s.ob
        exact ⟨fun x hx => by simp; intro z; exact hnf (by rw [← z]; simp only [foot, List.mem_cons, List.mem_flatMap]; exact .inr (.inr ⟨f, hf2, hx⟩)), by simp; exact ne_of oq hfd (fun z => nomatch z)⟩
      have S5 := mvS (ys := ps.map V.str ++ [.str (repS ")" (d - r.1.length))]) S hfd
      have hE5 : Ex H (upd H4 fd (.lst (ps.map V.str ++ [.str (repS ")" (d - r.1.length))]))) := fun a o h => by
        rw [upd_ne (ne_of_none h hfd0)]
        exact hE _ _ h
      have r25 : upd H4 fd (.lst (ps.map V.str ++ [.str (repS ")" (d - r.1.length))])) pa = some (.tup (r.1.map V.bl)) := (upd_ne (ne_of r2 hfd (fun z => nomatch z))).trans r2
      have fd5 : upd H4 fd (.lst (ps.map V.str ++ [.str (repS ")" (d - r.1.length))])) fd = some (.lst (ps.map V.str ++ [.str (repS ")" (d - r.1.length))])) := upd_same
      generalize upd H4 fd (.lst (ps.map V.str ++ [.str (repS ")" (d - r.1.length))])) = H5 at *
      refine ⟨_, rfl, _, _, rfl, .inr (SqT.of r25), ?_⟩
      refine ⟨_, rfl, rfl, _, rfl, ?_⟩
      have last : ∀ (z : Str) (d' : Nat) (H6 : Hp) (y5 y6 y7 : Option V), z.length ≤ 101 → d' ≤ 101 → H6 = upd H5 fd (.lst ((ps.map V.str ++ [.str (repS ")" (d - r.1.length))]) ++ [.str z])) → shp (r :: rem) d = (repS ")" (d - r.1.length) :: z :: (shp rem d').1, (shp rem d').2) →
          spSStep K [.ref se] H6 (fun v H'' => W rem.length [some (.ref pt), some (.ref se), some (.ref fd), some (nV d'), some v, y5, y6, y7] H'') E0 ∧ ∃ dx, H6 se = some (.ins (cSearch K) dx (fSe wl c)) := fun z d' H6 y5 y6 y7 hz hd' e6 esh => by
        have S6 := mvS (ys := (ps.map V.str ++ [.str (repS ")" (d - r.1.length))]) ++ [.str z]) S5 fd5
        rw [← e6] at S6
        refine ⟨go c es ns rem (ps ++ [repS ")" (d - r.1.length), z]) d' H6 y5 y6 y7 ⟨S6, hR, hf, by rw [List.length_append]; simp; omega, fun p hp => ?_, hd', ?_, hnf, hfr, by rw [e6, upd_same]; simp⟩ ?_ ?_, S6.ob⟩
        · rcases List.mem_append.mp hp with h | h
          · exact hps p h
          · simp only [List.mem_cons, List.not_mem_nil, or_false] at h
            rcases h with h | h
            · rw [h]; exact rep1
            · rw [h]; exact hz
        · intro a o h
          rw [e6, upd_ne (ne_of_none h hfd0)]
          exact hE5 _ _ h
        · rw [← ha, esh]; simp
        · rw [← hb, esh]
      rcases hAr with hc | hc
      · refine ifT (by rw [hc]) ?_
        refine ⟨_, rfl, .inl ⟨rfl, _, SqL.of fd5⟩, _, _, _, rfl, rfl, fd5, szl (by simp; omega), ?_⟩
        refine ⟨_, rfl, _, _, rfl, rfl, ?_⟩
        rw [eL]
        have eN : (V.int ((r.1.length : Int) + 1)) = nV (r.1.length + 1) := by show _ = V.int ((r.1.length + 1 : Nat) : Int); congr 1
        rw [eN]
        obtain ⟨l1, dx6, l2⟩ := last "(" (r.1.length + 1) _ (some (.ref pa)) (some (.ref sp)) (some (.str r.2.ask)) (by decide) (by omega) rfl (by simp [shp, hc])
        refine ⟨_, rfl, _, _, _, rfl, l2, rfl, ?_⟩
        refine nil_app ?_
        exact sstep_mono (fun v H8 hW => ⟨_, Nat.lt_succ_self _, hW⟩) l1
      · have hc' : ¬ r.2.ask = "choosing" := by
          rcases hc with h | h <;> (rw [h]; decide +kernel)
        refine ifF (fun y => hc' (V.str.inj y)) ?_
        have hix : ∃ cc, atI r.2.ask.cps.toList 0 = some cc ∧ (⟨#[cc]⟩ : Str) = ltr r ∧ r.2.ask.length ≤ 10 := by
          rcases hc with h | h
          · refine ⟨100, by rw [h]; decide +kernel, ?_, by rw [h]; decide +kernel⟩
            unfold ltr
            rw [if_pos h]
            decide +kernel
          · refine ⟨102, by rw [h]; decide +kernel, ?_, by rw [h]; decide +kernel⟩
            unfold ltr
            rw [if_neg (by rw [h]; decide +kernel)]
            decide +kernel
        obtain ⟨cc, i1, i2, i3⟩ := hix
        refine ⟨_, rfl, .inl ⟨rfl, _, SqL.of fd5⟩, _, rfl, _, _, _, rfl, rfl, sz (by omega), i1, ?_⟩
        rw [i2]
        refine ⟨_, _, _, rfl, rfl, fd5, szl (by simp; omega), ?_⟩
        have lz : (ltr r).length ≤ 101 := by
          unfold ltr
          split <;> decide
        obtain ⟨l1, dx6, l2⟩ := last (ltr r) r.1.length _ (some (.ref pa)) (some (.ref sp)) (some (.str r.2.ask)) lz (by omega) rfl (by simp [shp, hc'])
        refine ⟨_, rfl, _, _, _, rfl, l2, rfl, ?_⟩
        refine nil_app ?_
        rw [eL]
        exact sstep_mono (fun v H8 hW => ⟨_, Nat.lt_succ_self _, hW⟩) l1
end
end Lw
namespace Lw
open PySem PySem.Spec PyProof.Rows L2
/-! ### the law's stream -/
def mix1 (m c : Int) : Int := (m * 48271 + c % 65521 + 1) % 2147483647
structure St4 where
  cs : List Int
  v : Int
  i : Nat
  m : Int
structure St4.Ok (s : St4) : Prop where
  v : 0 ≤ s.v
  m0 : 0 ≤ s.m
  m1 : s.m < 2147483647
  n : s.cs.length ≤ 1000
def iniS (cs : List Int) : St4 := ⟨cs, 0, 0, cs.foldl mix1 17⟩
def StAt (H : Hp) (a l : Addr) (s : St4) : Prop := H a = some (.lst [.ref l, .int s.v, nV s.i, .int s.m]) ∧ H l = some (.lst (s.cs.map V.int)) ∧ l ≠ a
/-- the cell that is read next, where none is at hand -/
def St4.load (s : St4) : St4 := if s.v = 0 then (match s.cs[s.i]? with
  | some c => ⟨s.cs, (c.natAbs : Int), s.i + 1, s.m⟩
  | none => s) else s
def drw (k : Nat) (s : St4) : Nat × St4 := if s.load.v = 0 then ((((s.load.m * 48271 + 11) % 2147483647 / 97) % k).toNat, { s.load with m := (s.load.m * 48271 + 11) % 2147483647 })
  else ((s.load.v % k).toNat, { s.load with v := s.load.v / k })
theorem St4.Ok.load {s : St4} (h : s.Ok) : s.load.Ok := by
  unfold St4.load
  split
  · split
    · exact ⟨by show (0 : Int) ≤ ((_ : Nat) : Int); omega, h.m0, h.m1, h.n⟩
    · exact h
  · exact h
theorem drw_Ok {s : St4} (h : s.Ok) (k : Nat) (hk : 0 < k) : (drw k s).2.Ok ∧ (drw k s).1 < k := by
  have hl := h.load
  unfold drw
  split
  · refine ⟨⟨hl.v, by show 0 ≤ _ % _; omega, by show _ % _ < _; omega, hl.n⟩, ?_⟩
    show (((s.load.m * 48271 + 11) % 2147483647 / 97) % (k : Int)).toNat < k
    have h1 := Int.emod_nonneg ((s.load.m * 48271 + 11) % 2147483647 / 97) (b := (k : Int)) (by omega)
    have h2 := Int.emod_lt_of_pos ((s.load.m * 48271 + 11) % 2147483647 / 97) (b := (k : Int)) (by omega)
    omega
  · refine ⟨⟨Int.ediv_nonneg hl.v (by omega), hl.m0, hl.m1, hl.n⟩, ?_⟩
    show (s.load.v % (k : Int)).toNat < k
    have h1 := Int.emod_nonneg s.load.v (b := (k : Int)) (by omega)
    have h2 := Int.emod_lt_of_pos s.load.v (b := (k : Int)) (by omega)
    omega
theorem mix1_bd (m c : Int) : 0 ≤ mix1 m c ∧ mix1 m c < 2147483647 := by
  unfold mix1
  omega
theorem fold_bd : ∀ (cs : List Int) (m : Int), 0 ≤ m → m < 2147483647 → 0 ≤ cs.foldl mix1 m ∧ cs.foldl mix1 m < 2147483647
  | [], m, h1, h2 => ⟨h1, h2⟩
  | c :: cs, m, _, _ => fold_bd cs _ (mix1_bd m c).1 (mix1_bd m c).2
theorem iniS_Ok {cs : List Int} (h : cs.length ≤ 1000) : (iniS cs).Ok := ⟨Int.le_refl 0, (fold_bd cs 17 (by decide) (by decide)).1, (fold_bd cs 17 (by decide) (by decide)).2, h⟩
section
variable {P : Program} {w : World} {K : PySem.W.Frag} {mg : Str → Option Value} {base : Heap}
def spStream (K : PySem.W.Frag) : Sp := fun vs H Q _ => ∃ (a : Addr) (ns : List Int), vs = [.ref a] ∧ SqL K H a (ns.map V.int) ∧ ns.length ≤ 1000 ∧ ∀ p l H', Ex H H' → H p = none → StAt H' p l (iniS ns) → Q (.ref p) H'
theorem f_stream (T : Tx K mg) : Cal P w K mg base 1 "_law_stream" (spStream K) := by
  have sc : FnScope ["_law_script", "_law_mixed", "_law_cell"] ["_law_script"] (defScope s_law_stream) := ⟨rfl, rfl, rfl, by decide +kernel, rfl, by decide +kernel, by decide +kernel⟩
  refine cal_ T.g_law_stream T.f_law_stream sc (fun _ _ _ _ _ _ us hl => match us, hl with | [_], _ => rfl) (fun vs H Q E h => ?_) (fun cdv A outer s H vs Q E hr h => ?_)
  · obtain ⟨_, _, rfl, _⟩ := h
    rfl
  · obtain ⟨a, ns, rfl, ha, hl, k⟩ := h
    refine ⟨_, pss_cons (ps_set (i := 1) sc.nd rfl (Or.inl rfl) pe_int)
      (pss_cons (ps_for PassesOwn.never rfl (pi_list (pv 0)) (pg_name (i := 2) sc.nd rfl (Or.inl rfl))
        (pss_one (ps_set (i := 1) sc.nd rfl (Or.inl rfl) (pe_op op_mod (pe_callTy call_int1 (by rfl) T.z_int (by decide +kernel) (pa_cons (pe_op op_add (pe_op op_add (pe_op op_mul (pv 1) pe_int) (pe_op op_mod (pe_callTy call_int1 (by rfl) T.z_int (by decide +kernel) (pa_cons (pv 2) pa_nil)) pe_int)) pe_int) pa_nil)) pe_int))))
      (pss_one (ps_ret (pe_lst (pa_cons (pe_callTy call_list_of (by rfl) T.z_list (by decide +kernel) (pa_cons (pv 0) pa_nil)) (pa_cons pe_int (pa_cons pe_int (pa_cons (pv 1) pa_nil)))))))), ?_⟩
    refine ⟨_, rfl, a, rfl, ⟨_, ha⟩, ?_⟩
    refine for_it (walk_list (K := K) (a := a) (xs := ns.map V.int)) (fun i σ H' => H' = H ∧ ∃ y2, σ = [some (.ref a), some (.int ((ns.take i).foldl mix1 17)), y2]) ⟨rfl, _, rfl⟩ (fun i σ H' _ p => by rw [p.1]; exact ha) (fun i x σ H' H5 hi p y => ?_) (fun σ H5 p => ?_)
    · obtain ⟨rfl, y2, rfl⟩ := p
      obtain ⟨rfl, hx⟩ := y
      rw [List.getElem?_map] at hx
      obtain ⟨c, ec, rfl⟩ := Option.map_eq_some_iff.mp hx
      have hb := fold_bd (ns.take i) 17 (by decide) (by decide)
      refine ⟨_, rfl, _, _, rfl, rfl, .inl ⟨by omega, by omega⟩, _, rfl, .inl ⟨_, rfl, _, _, rfl, rfl, (show (0 : Int) < 65521 by decide), _, _, rfl, rfl, _, _, rfl, rfl, .inl ⟨_, rfl, _, _, rfl, rfl, (show (0 : Int) < 2147483647 by decide), ?_⟩⟩⟩
      have e : (ns.take (i + 1)).foldl mix1 17 = mix1 ((ns.take i).foldl mix1 17) c := by rw [List.take_succ, ec]; simp only [Option.toList, List.foldl_append, List.foldl_cons, List.foldl_nil]
      refine ⟨rfl, some (.int c), ?_⟩
      rw [e]
      rfl
    · obtain ⟨rfl, y2, rfl⟩ := p
      rw [List.length_map, List.take_length]
      refine ⟨_, rfl, a, _, rfl, .inl ha, fun l hl2 => ⟨_, rfl, sz (by simp), fun p hp => ?_⟩⟩
      have e1 := Ex.new (o := .lst (ns.map V.int)) hl2
      have e2 := Ex.new (o := .lst [.ref l, .int 0, .int 0, .int (ns.foldl mix1 17)]) hp
      refine k p l _ (e1.trans e2) (e1.free hp) ⟨upd_same, e2 _ _ upd_same, fun z => ?_⟩
      rw [← z, upd_same] at hp
      cases hp
def spDraw : Sp := fun vs H Q _ => ∃ (a l : Addr) (s : St4) (k : Nat), vs = [.ref a, nV k] ∧ StAt H a l s ∧ s.Ok ∧ 0 < k ∧ k ≤ 1000 ∧ ∀ H', StAt H' a l (drw k s).2 → But [a] H H' → Q (nV (drw k s).1) H'
theorem f_draw (T : Tx K mg) : Cal P w K mg base 1 "_law_draw" spDraw := by
  have sc : FnScope ["_law_stream_here", "_law_many", "_law_value"] ["_law_stream_here", "_law_many"] (defScope s_law_draw) := ⟨rfl, rfl, rfl, by decide +kernel, rfl, by decide +kernel, by decide +kernel⟩
  refine cal_ T.g_law_draw T.f_law_draw sc (fun _ _ _ _ _ _ us hl => match us, hl with | [_, _], _ => rfl) (fun vs H Q E h => ?_) (fun cdv A outer s H vs Q E hr h => ?_)
  · obtain ⟨_, _, _, _, rfl, _⟩ := h
    rfl
  · obtain ⟨a, l, st, kk, rfl, ⟨ha, hl, hne⟩, ok, hk0, hk1, k⟩ := h
    have ix : ∀ (j : Int), True := fun _ => trivial
    refine ⟨_, pss_cons (ps_if (PW.pt (pw_and (pt_cmpR op_eq (pe_ix ix_list (pv 0) pe_int (fun _ _ => rfl)) pe_int (nomark _)) (pw_and1 (pt_cmpR op_lt (pe_ix ix_list (pv 0) pe_int (fun _ _ => rfl)) (pe_callB call_len_seq (by rfl) T.z_len PySem.boot_len (pa_cons (pe_ix ix_list (pv 0) pe_int (fun _ _ => rfl)) pa_nil)) (nomark _)))))
        (pss_cons (ps_asg (pe_callB call_abs (by rfl) T.z_abs (by decide +kernel) (pa_cons (pe_callTy call_int1 (by rfl) T.z_int (by decide +kernel) (pa_cons (pe_ix ix_list (pe_ix ix_list (pv 0) pe_int (fun _ _ => rfl)) (pe_ix ix_list (pv 0) pe_int (fun _ _ => rfl)) (fun _ _ => rfl)) pa_nil)) pa_nil)) (pg_sub (pv 0) pe_int set_list))
        (pss_one (ps_asg (pe_op op_add (pe_ix ix_list (pv 0) pe_int (fun _ _ => rfl)) pe_int) (pg_sub (pv 0) pe_int set_list)))) pss_nil)
      (pss_cons (ps_if (pt_cmpR op_eq (pe_ix ix_list (pv 0) pe_int (fun _ _ => rfl)) pe_int (nomark _))
        (pss_cons (ps_asg (pe_op op_mod (pe_callTy call_int1 (by rfl) T.z_int (by decide +kernel) (pa_cons (pe_op op_add (pe_op op_mul (pe_ix ix_list (pv 0) pe_int (fun _ _ => rfl)) pe_int) pe_int) pa_nil)) pe_int) (pg_sub (pv 0) pe_int set_list))
        (pss_one (ps_ret (pe_op op_mod (pe_callTy call_int1 (by rfl) T.z_int (by decide +kernel) (pa_cons (pe_op op_fdiv (pe_ix ix_list (pv 0) pe_int (fun _ _ => rfl)) pe_int) pa_nil)) (pv 1))))) pss_nil)
      (pss_cons (ps_set (i := 2) sc.nd rfl (Or.inl rfl) (pe_op op_mod (pe_callTy call_int1 (by rfl) T.z_int (by decide +kernel) (pa_cons (pe_ix ix_list (pv 0) pe_int (fun _ _ => rfl)) pa_nil)) (pv 1)))
      (pss_cons (ps_asg (pe_op op_fdiv (pe_ix ix_list (pv 0) pe_int (fun _ _ => rfl)) (pv 1)) (pg_sub (pv 0) pe_int set_list))
      (pss_one (ps_ret (pv 2)))))), ?_⟩
    -- READING
    have nn : ∀ (x : Int), (V.int (x % (kk : Int))) = nV ((x % (kk : Int)).toNat) := fun x => by
      have h1 := Int.emod_nonneg x (b := (kk : Int)) (by omega)
      show V.int _ = V.int (((x % (kk : Int)).toNat : Nat) : Int)
      rw [Int.toNat_of_nonneg h1]
    by_cases hv : st.v = 0
    · refine ⟨_, rfl, _, _, _, _, rfl, rfl, SqL.of ha, atI_nat (j := 1) rfl, rfl, _, rfl, ifT (by rw [hv]) ?_⟩
      refine ⟨_, rfl, _, _, _, _, rfl, rfl, SqL.of ha, atI_nat (j := 2) rfl, _, rfl, _, _, _, _, rfl, rfl, SqL.of ha, atI_nat (j := 0) rfl, _, _, rfl, .inl (SqL.of hl), _, _, rfl, rfl, _, rfl, ?_⟩
      by_cases hi : st.i < st.cs.length
      · refine ifT (by rw [List.length_map]; omega) ?_
        have ec : st.cs[st.i]? = some st.cs[st.i] := List.getElem?_eq_getElem hi
        have el : st.load = ⟨st.cs, (st.cs[st.i].natAbs : Int), st.i + 1, st.m⟩ := by unfold St4.load; rw [if_pos hv, ec]
        refine ⟨_, rfl, _, _, _, _, rfl, rfl, SqL.of ha, atI_nat (j := 0) rfl, _, rfl, _, _, _, _, rfl, rfl, SqL.of ha, atI_nat (j := 2) rfl, _, _, _, _, rfl, rfl, SqL.of hl, atI_nat (by rw [List.getElem?_map, ec]; rfl), .inl ⟨_, rfl, _, rfl, ?_⟩⟩
        have eA : (if st.cs[st.i] < 0 then -st.cs[st.i] else st.cs[st.i]) = (st.cs[st.i].natAbs : Int) := by split <;> omega
        rw [eA]
        refine ⟨_, rfl, _, _, _, _, rfl, rfl, ha, rfl, ?_⟩
        refine ⟨_, rfl, _, _, _, _, rfl, rfl, SqL.of upd_same, atI_nat (j := 2) rfl, _, _, rfl, rfl, _, rfl, _, _, _, _, rfl, rfl, upd_same, rfl, ?_⟩
        have b1 : But [a] H (upd (upd H a (.lst [.ref l, .int (st.cs[st.i].natAbs : Int), nV st.i, .int st.m])) a (.lst [.ref l, .int (st.cs[st.i].natAbs : Int), .int ((st.i : Int) + 1), .int st.m])) := (But.set (by simp)).trans (But.set (by simp))
        have ha1 : upd (upd H a (.lst [.ref l, .int (st.cs[st.i].natAbs : Int), nV st.i, .int st.m])) a (.lst [.ref l, .int (st.cs[st.i].natAbs : Int), .int ((st.i : Int) + 1), .int st.m]) a = some (.lst [.ref l, .int (st.cs[st.i].natAbs : Int), .int ((st.i : Int) + 1), .int st.m]) := upd_same
        have hl1 := b1 _ _ hl (by simp; exact hne)
        by_cases h0 : (st.cs[st.i].natAbs : Int) = 0
        · have e : drw kk st = ((((st.m * 48271 + 11) % 2147483647 / 97) % kk).toNat, ⟨st.cs, (st.cs[st.i].natAbs : Int), st.i + 1, (st.m * 48271 + 11) % 2147483647⟩) := by unfold drw; rw [el, if_pos h0]
          refine ⟨_, rfl, _, _, _, _, rfl, rfl, SqL.of upd_same, atI_nat (j := 1) rfl, rfl, _, rfl, ifT (by rw [h0]) ?_⟩
          refine ⟨_, rfl, _, _, _, _, rfl, rfl, SqL.of upd_same, atI_nat (j := 3) rfl, _, _, rfl, rfl, .inl ⟨by have := ok.m0; have := ok.m1; omega, by have := ok.m0; have := ok.m1; omega⟩, _, _, rfl, rfl, .inl ⟨_, rfl, _, _, rfl, rfl, (show (0 : Int) < 2147483647 by decide), ?_⟩⟩
          refine ⟨_, rfl, _, _, _, _, rfl, rfl, upd_same, rfl, ?_⟩
          refine ⟨_, rfl, _, _, _, _, rfl, rfl, SqL.of upd_same, atI_nat (j := 3) rfl, _, _, rfl, rfl, ⟨by decide, by decide⟩, .inl ⟨_, rfl, _, rfl, _, _, rfl, rfl, (by show (0 : Int) < (kk : Int); omega), ?_⟩⟩
          show Q (.int (((st.m * 48271 + 11) % 2147483647 / 97) % (kk : Int))) (upd (upd (upd H a (.lst [.ref l, .int (st.cs[st.i].natAbs : Int), nV st.i, .int st.m])) a (.lst [.ref l, .int (st.cs[st.i].natAbs : Int), .int ((st.i : Int) + 1), .int st.m])) a (.lst [.ref l, .int (st.cs[st.i].natAbs : Int), .int ((st.i : Int) + 1), .int ((st.m * 48271 + 11) % 2147483647)]))
          rw [nn]
          have := k (upd (upd (upd H a (.lst [.ref l, .int (st.cs[st.i].natAbs : Int), nV st.i, .int st.m])) a (.lst [.ref l, .int (st.cs[st.i].natAbs : Int), .int ((st.i : Int) + 1), .int st.m])) a (.lst [.ref l, .int (st.cs[st.i].natAbs : Int), .int ((st.i : Int) + 1), .int ((st.m * 48271 + 11) % 2147483647)])) (by rw [e]; exact ⟨upd_same, (upd_ne hne).trans hl1, hne⟩) (b1.trans (But.set (by simp)))
          rw [e] at this
          exact this
        · have e : drw kk st = (((st.cs[st.i].natAbs : Int) % kk).toNat, ⟨st.cs, (st.cs[st.i].natAbs : Int) / kk, st.i + 1, st.m⟩) := by unfold drw; rw [el, if_neg h0]
          refine ⟨_, rfl, _, _, _, _, rfl, rfl, SqL.of upd_same, atI_nat (j := 1) rfl, rfl, _, rfl, ifF (fun y => h0 (V.int.inj y)) ?_⟩
          refine ⟨_, rfl, _, _, _, _, rfl, rfl, SqL.of upd_same, atI_nat (j := 1) rfl, .inl ⟨_, rfl, _, rfl, _, _, rfl, rfl, (by show (0 : Int) < (kk : Int); omega), ?_⟩⟩
          refine ⟨_, rfl, _, _, _, _, rfl, rfl, SqL.of upd_same, atI_nat (j := 1) rfl, _, rfl, _, _, rfl, rfl, ⟨by omega, by omega⟩, ?_⟩
          refine ⟨_, rfl, _, _, _, _, rfl, rfl, upd_same, rfl, ?_⟩
          refine ⟨_, rfl, ?_⟩
          show Q (.int ((st.cs[st.i].natAbs : Int) % (kk : Int))) (upd (upd (upd H a (.lst [.ref l, .int (st.cs[st.i].natAbs : Int), nV st.i, .int st.m])) a (.lst [.ref l, .int (st.cs[st.i].natAbs : Int), .int ((st.i : Int) + 1), .int st.m])) a (.lst [.ref l, .int ((st.cs[st.i].natAbs : Int) / kk), .int ((st.i : Int) + 1), .int st.m]))
          rw [nn]
          have := k (upd (upd (upd H a (.lst [.ref l, .int (st.cs[st.i].natAbs : Int), nV st.i, .int st.m])) a (.lst [.ref l, .int (st.cs[st.i].natAbs : Int), .int ((st.i : Int) + 1), .int st.m])) a (.lst [.ref l, .int ((st.cs[st.i].natAbs : Int) / kk), .int ((st.i : Int) + 1), .int st.m])) (by rw [e]; exact ⟨upd_same, (upd_ne hne).trans hl1, hne⟩) (b1.trans (But.set (by simp)))
          rw [e] at this
          exact this
      · refine ifF (by rw [List.length_map]; omega) ?_
        have el : st.load = st := by unfold St4.load; rw [if_pos hv, List.getElem?_eq_none (by omega)]
        refine ⟨_, rfl, _, _, _, _, rfl, rfl, SqL.of ha, atI_nat (j := 1) rfl, rfl, _, rfl, ifT (by rw [hv]) ?_⟩
        refine ⟨_, rfl, _, _, _, _, rfl, rfl, SqL.of ha, atI_nat (j := 3) rfl, _, _, rfl, rfl, .inl ⟨by have := ok.m0; have := ok.m1; omega, by have := ok.m0; have := ok.m1; omega⟩, _, _, rfl, rfl, .inl ⟨_, rfl, _, _, rfl, rfl, (show (0 : Int) < 2147483647 by decide), ?_⟩⟩
        refine ⟨_, rfl, _, _, _, _, rfl, rfl, ha, rfl, ?_⟩
        refine ⟨_, rfl, _, _, _, _, rfl, rfl, SqL.of upd_same, atI_nat (j := 3) rfl, _, _, rfl, rfl, ⟨by decide, by decide⟩, .inl ⟨_, rfl, _, rfl, _, _, rfl, rfl, (by show (0 : Int) < (kk : Int); omega), ?_⟩⟩
        show Q (.int (((st.m * 48271 + 11) % 2147483647 / 97) % (kk : Int))) (upd H a (.lst [.ref l, .int st.v, nV st.i, .int ((st.m * 48271 + 11) % 2147483647)]))
        rw [nn]
        have e : drw kk st = ((((st.m * 48271 + 11) % 2147483647 / 97) % kk).toNat, { st with m := (st.m * 48271 + 11) % 2147483647 }) := by unfold drw; rw [el, if_pos hv]
        have := k (upd H a (.lst [.ref l, .int st.v, nV st.i, .int ((st.m * 48271 + 11) % 2147483647)])) (by rw [e]; exact ⟨upd_same, (upd_ne hne).trans hl, hne⟩) (But.set (by simp))
        rw [e] at this
        exact this
    · refine ⟨_, rfl, _, _, _, _, rfl, rfl, SqL.of ha, atI_nat (j := 1) rfl, rfl, _, rfl, ifF (fun y => hv (V.int.inj y)) ?_⟩
      have el : st.load = st := by unfold St4.load; rw [if_neg hv]
      refine iteF ?_
      refine ⟨_, rfl, _, _, _, _, rfl, rfl, SqL.of ha, atI_nat (j := 1) rfl, rfl, _, rfl, ifF (fun y => hv (V.int.inj y)) ?_⟩
      refine ⟨_, rfl, _, _, _, _, rfl, rfl, SqL.of ha, atI_nat (j := 1) rfl, .inl ⟨_, rfl, _, rfl, _, _, rfl, rfl, (by show (0 : Int) < (kk : Int); omega), ?_⟩⟩
      refine ⟨_, rfl, _, _, _, _, rfl, rfl, SqL.of ha, atI_nat (j := 1) rfl, _, rfl, _, _, rfl, rfl, ⟨by omega, by omega⟩, ?_⟩
      refine ⟨_, rfl, _, _, _, _, rfl, rfl, ha, rfl, ?_⟩
      refine ⟨_, rfl, ?_⟩
      show Q (.int (st.v % (kk : Int))) (upd H a (.lst [.ref l, .int (st.v / kk), nV st.i, .int st.m]))
      rw [nn]
      have e : drw kk st = ((st.v % kk).toNat, { st with v := st.v / kk }) := by unfold drw; rw [el, if_neg hv]
      have := k (upd H a (.lst [.ref l, .int (st.v / kk), nV st.i, .int st.m])) (by rw [e]; exact ⟨upd_same, (upd_ne hne).trans hl, hne⟩) (But.set (by simp))
      rw [e] at this
      exact this
end
end Lw
namespace Lw
open PySem PySem.Spec PyProof.Rows L2
/-! #### xs[-2::-1] -/
theorem sl2_bounds (n : Nat) : sliceBounds (some (-2)) none (some (-1)) n = (((n - 1 : Nat) : Int) - 1, -1, -1) := by
  unfold sliceBounds
  simp
  omega
theorem sl2_pick (items : Array Value) : slicePick items (some (-2)) none (some (-1)) = items.toList.dropLast.reverse.toArray := by
  unfold slicePick
  rw [sl2_bounds]
  show ((sliceRange (((items.size - 1 : Nat) : Int) - 1) (-1) (-1)).filterMap (items[·]?)).toArray = _
  rw [PySem.W.krv_sliceRange, PySem.W.krv_range, List.filterMap_reverse]
  have h := pick_run items 0 (items.size - 1)
  have e : (List.range (items.size - 1)).map (0 + ·) = List.range (items.size - 1) := by
    rw [show ((0 + ·) : Nat → Nat) = id from funext fun k => Nat.zero_add k, List.map_id]
  rw [e, List.drop_zero] at h
  rw [h, List.dropLast_eq_take]
  simp
def tSl2 (K : PySem.W.Frag) (te : TE) : TE := fun σ H Q => te σ H fun x H1 => ∃ a xs, x = .ref a ∧ SqL K H1 a xs ∧ ∀ p, H1 p = none → Q (.ref p) (upd H1 p (.lst xs.dropLast.reverse))
theorem rel_drop {xs : List V} {its : List Value} (r : Vals xs its) : Vals xs.dropLast its.dropLast := by
  induction r with
  | nil => exact .nil
  | @cons x u xs its h t ih =>
    cases t with
    | nil => exact .nil
    | cons h2 t2 => exact .cons h ih
theorem pe_sl2 {X : Cx} {e : Expr} {te : TE} {k k2 : Nat} {p1 p2 p3 q1 q2 pos : Pos} (he : PE X e te) : PE X (.Subscript e (.Slice (some (.UnaryOp .USub (.Constant (.int 2) k2 q1) q2)) none (some (.UnaryOp .USub (.Constant (.int 1) k p1) p2)) p3) pos) (tSl2 X.K te) := by
  refine ⟨fun pins s σ H Q I h => ?_⟩
  refine Subscript_ (thn (he.run pins s σ H _ I h) fun v s1 ⟨x, H1, I1, r1, q1⟩ => ?_)
  obtain ⟨a, xs, ex, hx, q⟩ := q1
  subst ex
  cases r1
  have hst : PO X (some (.UnaryOp .USub (.Constant (.int 1) k p1) p2)) (tPart (tUn (rU fun i => .int (-i)) (tC (.int 1)))) := po_some (pe_un un_neg pe_int)
  have hlo : PO X (some (.UnaryOp .USub (.Constant (.int 2) k2 q1) q2)) (tPart (tUn (rU fun i => .int (-i)) (tC (.int 2)))) := po_some (pe_un un_neg pe_int)
  refine wpAny_Slice (thn (hlo.run pins s1 σ H1 (fun o H2 => o = some (-2) ∧ H2 = H1) I1 ⟨2, rfl, -2, rfl, rfl, rfl⟩) fun vl s2 ⟨l, H2, I2, pl, el, e2⟩ => ?_)
  subst el e2
  refine thn (po_none.run pins s2 σ H2 (fun o H3 => o = none ∧ H3 = H2) I2 ⟨rfl, rfl⟩) fun vu s3 ⟨u, H3, I3, pu, eu, e3⟩ => ?_
  subst eu e3
  refine thn (hst.run pins s3 σ H3 (fun o H4 => o = some (-1) ∧ H4 = H3) I3 ⟨1, rfl, -1, rfl, rfl, rfl⟩) fun vs s4 ⟨o, H4, I4, ps, eo, e4⟩ => ?_
  subst eo e4
  have I5 : Inv X pins σ H4 { s4 with heap := s4.heap.push { cls := .type "slice", data := .fields #[vl, vu, vs] } } := I4.kept (t' := s4.toks) fun b ob q => Heap.get?_push_of_some _ q
  obtain ⟨its, r, ht, hz⟩ := I5.list hx
  have hlen := r.length
  show wpAny (model X.prog X.w) X.A (subscriptTail e (.Slice (some (.UnaryOp .USub (.Constant (.int 2) k2 q1) q2)) none (some (.UnaryOp .USub (.Constant (.int 1) k p1) p2)) p3) (.ref a) (.ref s4.heap.objs.size)) (EP X pins σ Q) X.xe { s4 with heap := s4.heap.push { cls := .type "slice", data := .fields #[vl, vu, vs] } }
  refine tail_any (ops := [.ref a, .ref s4.heap.objs.size]) ht.isList.typeIs (PySem.slot_list_getitem.lookup) ?_ (by with_unfolding_all rfl)
  refine wpAny_getItem_list_slice ht.isList (Heap.IsSliceOf.new _ vl vu vs) pl pu ps (by decide) ?_ (by rw [List.size_toArray]; omega)
  rw [sl2_pick]
  refine ⟨.ref _, _, I5.laid (t' := s4.toks) (o := .lst xs.dropLast.reverse) (fun b ob q => Heap.get?_push_of_some _ q) (Nat.le_refl _) ?_, rfl, q _ (I5.hok.fresh (Nat.le_refl _))⟩
  exact ⟨by rw [List.length_reverse, List.length_dropLast]; omega, _, 0, (rel_drop r).reverse, Heap.get?_push_size _ rfl⟩
/-! #### a tuple 0 times, 1 time -/
theorem tuple_mul1 (l : Addr) (items : Array Value) (n : Nat) (dd : Option Addr) (sl : Array (Option Value)) (u : Tok) (c1 : items.isEmpty = false) :
    Meets (Builtin.«tuple.__mul__» ⟨[.ref l, .int 1 u], []⟩) (fun _ R s => s.heap.get? l = some { cls := .type "tuple", dict := dd, data := .seq items n, slots := sl } ∧ R (.ok (.ret (Value.ref l))) s) :=
  .of_wp fun prog w A R s h => by
    obtain ⟨hp, g, d, tk, os⟩ := s
    obtain ⟨hl, h⟩ := h
    have f1 := AutoSeq1.idx_int
    wp_walk using wpAny_loadPart' hl
    exact ⟨_, rfl, h⟩
theorem tuple_mul0 (l : Addr) (items : Array Value) (n : Nat) (dd : Option Addr) (sl : Array (Option Value)) (u : Tok) (c1 : items.isEmpty = false) :
    Meets (Builtin.«tuple.__mul__» ⟨[.ref l, .int 0 u], []⟩) (fun _ R s => s.heap.get? l = some { cls := .type "tuple", dict := dd, data := .seq items n, slots := sl } ∧
      R (.ok (.ret (Value.ref s.heap.objs.size))) { s with heap := s.heap.push { cls := Value.type "tuple", data := Data.seq #[] } }) :=
  .of_wp fun prog w A R s h => by
    obtain ⟨hp, g, d, tk, os⟩ := s
    obtain ⟨hl, h⟩ := h
    have f1 := AutoSeq1.idx_int
    wp_walk using wpAny_loadPart' hl
    exact ⟨_, rfl, h⟩
def rRep01 (K : PySem.W.Frag) : R2 := fun x y H Q => ∃ l k xs, x = .ref l ∧ y = .int k ∧ SqT K H l xs ∧ xs ≠ [] ∧ (k = 0 ∨ k = 1) ∧ (k = 1 → Q (.ref l) H) ∧ (k = 0 → ∀ p, H p = none → Q (.ref p) (upd H p (.tup [])))
theorem op_rep01 {X : Cx} : OpR X (binaryOp .Mult) (rRep01 X.K) := by
  intro pins s σ H x y v u Q I rx ry h
  obtain ⟨l, k, xs, rfl, rfl, hT, hne, hk, q1, q0⟩ := h
  cases rx
  obtain ⟨t, rfl⟩ := ry
  obtain ⟨its, r, ⟨⟨cls, dd, data, sl⟩, ho, hc, n, hd⟩, hs⟩ := I.tuple hT
  simp only at hc hd
  subst hc hd
  have hle : its.length = xs.length := r.length.symm
  have hn : its ≠ [] := fun e => hne (by
    rw [e] at hle
    exact List.eq_nil_of_length_eq_zero hle.symm)
  have hi : its.toArray.isEmpty = false := by
    cases its with
    | nil => exact absurd rfl hn
    | cons a b => rfl
  rcases hk with rfl | rfl
  · refine wpAny_binaryOp_repeat_ref (T := "tuple") (U := "int") (by decide) ⟨_, ho, rfl⟩ (fun s' => typeIs_int s' 0 t) noFill_tuple_mul F.fills_int_mul F.slot_int_rmul repeat_tuple F.slot_int_index.lookup
      (call_meets F.slot_int_rmul (typeIs_int s 0 t) F.entry_int_rmul (F.args_int_rmul_2 _ _) (int_rmul_tuple 0 t l its.toArray n dd sl)
        ⟨ho, rfl, ⟨_, ho, rfl⟩, call_meets F.slot_tuple_mul ⟨_, ho, rfl⟩ F.entry_tuple_mul (F.args_tuple_mul_2 _ _) (tuple_mul0 l its.toArray n dd sl t hi) ⟨ho, ?_⟩⟩)
    refine ⟨.ref s.heap.objs.size, _, I.laid (t' := s.toks) (o := .tup []) (fun b ob q => Heap.get?_push_of_some _ q) (Nat.le_refl _) ?_, rfl, q0 rfl _ (I.hok.fresh (Nat.le_refl _))⟩
    exact ⟨by simp, [], .nil, IsTup.new _ _⟩
  · refine wpAny_binaryOp_repeat_ref (T := "tuple") (U := "int") (by decide) ⟨_, ho, rfl⟩ (fun s' => typeIs_int s' 1 t) noFill_tuple_mul F.fills_int_mul F.slot_int_rmul repeat_tuple F.slot_int_index.lookup
      (call_meets F.slot_int_rmul (typeIs_int s 1 t) F.entry_int_rmul (F.args_int_rmul_2 _ _) (int_rmul_tuple 1 t l its.toArray n dd sl)
        ⟨ho, rfl, ⟨_, ho, rfl⟩, call_meets F.slot_tuple_mul ⟨_, ho, rfl⟩ F.entry_tuple_mul (F.args_tuple_mul_2 _ _) (tuple_mul1 l its.toArray n dd sl t hi) ⟨ho, ?_⟩⟩)
    exact ⟨.ref l, H, I, rfl, q1 rfl⟩
/-- a tuple so many times -/
def rRepA (K : PySem.W.Frag) : R2 := fun x y H Q => ∃ l k xs, x = .ref l ∧ y = .int k ∧ SqT K H l xs ∧ xs ≠ [] ∧ 0 ≤ k ∧ k ≤ 1000 ∧ xs.length ≤ 1000 ∧ (k = 1 → Q (.ref l) H) ∧ (k ≠ 1 → ∀ p, H p = none → Q (.ref p) (upd H p (.tup (List.replicate k.toNat xs).flatten)))
theorem op_repA {X : Cx} : OpR X (binaryOp .Mult) (rRepA X.K) := by
  intro pins s σ H x y v u Q I rx ry h
  obtain ⟨l, k, xs, rfl, rfl, hT, hne, h0, h1, hz, q1, q2⟩ := h
  by_cases hk : 2 ≤ k
  · exact op_repT pins s σ H _ _ _ _ Q I rx ry ⟨l, k, xs, rfl, rfl, hT, hne, hk, h1, hz, q2 (by omega)⟩
  · refine op_rep01 pins s σ H _ _ _ _ Q I rx ry ⟨l, k, xs, rfl, rfl, hT, hne, by omega, q1, fun e => ?_⟩
    have := q2 (by omega)
    rw [e] at this
    exact this
end Lw
namespace Lw
open PySem PySem.Spec PyProof.Rows L2
/-- a chain of choices -/
def chn (x : Str) : List Int → Sm
  | [] => .skip
  | [z] => .int x z
  | z :: y :: r => .cho (.int x z) (chn x (y :: r))
theorem chn_cons (x : Str) (z : Int) {r : List Int} (h : r ≠ []) : chn x (z :: r) = .cho (.int x z) (chn x r) := by
  cases r with
  | nil => exact absurd rfl h
  | cons y r => rfl
def pths (zs : List Int) : List (List Bool × Int) := (List.range zs.length).map fun i => (List.replicate i true ++ List.replicate (if i + 1 < zs.length then 1 else 0) false, zs.getD i 0)
def PthAt (H : Hp) (v : V) (q : List Bool × Int) : Prop := ∃ t pa, v = .ref t ∧ H t = some (.tup [.ref pa, .int q.2]) ∧ H pa = some (.tup (q.1.map V.bl))
theorem PthAt.ex {H H' : Hp} (e : Tp H H') {v : V} {q : List Bool × Int} (h : PthAt H v q) : PthAt H' v q := let ⟨t, pa, h1, h2, h3⟩ := h; ⟨t, pa, h1, e _ _ h2, e _ _ h3⟩
theorem flat1 {α : Type} (x : α) : ∀ n : Nat, (List.replicate n [x]).flatten = List.replicate n x
  | 0 => rfl
  | n + 1 => by rw [List.replicate_succ, List.flatten_cons, flat1 x n, List.replicate_succ]; rfl
/-- the same, whatever object it is -/
def rRepU : R2 := fun x y H Q => ∃ (l : Addr) (k : Int) (xs : List V), x = .ref l ∧ y = .int k ∧ H l = some (.tup xs) ∧ xs ≠ [] ∧ 0 ≤ k ∧ k ≤ 1000 ∧ xs.length ≤ 1000 ∧ ∀ p H', Ex H H' → H' p = some (.tup (List.replicate k.toNat xs).flatten) → Q (.ref p) H'
theorem op_repU {X : Cx} : OpR X (binaryOp .Mult) rRepU := by
  intro pins s σ H x y v u Q I rx ry h
  obtain ⟨l, k, xs, rfl, rfl, hT, hne, h0, h1, hz, q⟩ := h
  refine op_repA pins s σ H _ _ _ _ Q I rx ry ⟨l, k, xs, rfl, rfl, SqT.of hT, hne, h0, h1, hz, fun e => q l H (Ex.refl H) ?_, fun _ p hp => q p _ (Ex.new hp) upd_same⟩
  rw [e, hT]
  simp
def rCatU : R2 := fun x y H Q => ∃ (a b : Addr) (xs ys : List V), x = .ref a ∧ y = .ref b ∧ H a = some (.tup xs) ∧ H b = some (.tup ys) ∧ xs.length + ys.length ≤ 100000 ∧ ∀ p H', Ex H H' → H' p = some (.tup (xs ++ ys)) → Q (.ref p) H'
theorem op_catU {X : Cx} : OpR X (binaryOp .Add) rCatU := by
  intro pins s σ H x y v u Q I rx ry h
  obtain ⟨a, b, xs, ys, rfl, rfl, ha, hb, hz, q⟩ := h
  refine op_catA pins s σ H _ _ _ _ Q I rx ry ⟨a, b, xs, ys, rfl, rfl, SqT.of ha, SqT.of hb, sz hz, fun e => q b H (Ex.refl H) (by rw [e]; exact hb), fun _ e => q a H (Ex.refl H) (by rw [e, List.append_nil]; exact ha), fun _ _ p hp => q p _ (Ex.new hp) upd_same⟩
section
variable {P : Program} {w : World} {K : PySem.W.Frag} {mg : Str → Option Value} {base : Heap}
def spChain : Sp := fun vs H Q _ => ∃ (nm : Str) (a : Addr) (zs : List Int), vs = [.str nm, .ref a] ∧ H a = some (.lst (zs.map V.int)) ∧ zs ≠ [] ∧ zs.length ≤ 100 ∧ ∀ v H', Ex H H' → SmAt H' v (chn nm zs) → Q v H'
theorem f_chain (T : Tx K mg) : Cal P w K mg base 1 "_law_chain" spChain := by
  have sc : FnScope ["_law_name", "_law_values", "_law_found", "_law_value"] ["_law_name", "_law_values"] (defScope s_law_chain) := ⟨rfl, rfl, rfl, by decide +kernel, rfl, by decide +kernel, by decide +kernel⟩
  refine cal_ T.g_law_chain T.f_law_chain sc (fun _ _ _ _ _ _ us hl => match us, hl with | [_, _], _ => rfl) (fun vs H Q E h => ?_) (fun cdv A outer s H vs Q E hr h => ?_)
  · obtain ⟨_, _, _, rfl, _⟩ := h
    rfl
  · obtain ⟨nm, a, zs, rfl, ha, hne, hl, k⟩ := h
    refine ⟨_, pss_cons (ps_set (i := 2) sc.nd rfl (Or.inl rfl) (pe_tup (pa_cons pe_str (pa_cons (pv 0) (pa_cons (pe_ix ix_list (pv 1) (pe_un un_neg pe_int) (fun _ _ => rfl)) pa_nil)))))
      (pss_cons (ps_for PassesOwn.never rfl (pi_list (pe_sl2 (pv 1))) (pg_name (i := 3) sc.nd rfl (Or.inl rfl))
        (pss_one (ps_set (i := 2) sc.nd rfl (Or.inl rfl) (pe_tup (pa_cons pe_str (pa_cons (pe_tup (pa_cons pe_str (pa_cons (pv 0) (pa_cons (pv 3) pa_nil)))) (pa_cons (pv 2) pa_nil)))))))
      (pss_one (ps_ret (pv 2)))), ?_⟩
    have hz : zs = zs.dropLast ++ [zs.getLast hne] := (List.dropLast_concat_getLast hne).symm
    have hm : zs.map V.int = zs.dropLast.map V.int ++ [V.int (zs.getLast hne)] := by
      rw [show zs.map V.int = (zs.dropLast ++ [zs.getLast hne]).map V.int from congrArg _ hz, List.map_append]
      rfl
    refine ⟨_, rfl, _, rfl, _, rfl, _, _, _, _, rfl, rfl, SqL.of ha, by rw [hm]; exact atI_last _ _, sz (by simp), fun t ht => ?_⟩
    have e1 := Ex.new (o := .tup [.str "int", .str nm, .int (zs.getLast hne)]) ht
    refine ⟨_, rfl, a, _, rfl, SqL.of (e1 _ _ ha), fun p hp => ⟨p, rfl, ⟨_, SqL.of upd_same⟩, ?_⟩⟩
    have e2 := Ex.new (o := .lst (zs.map V.int).dropLast.reverse) hp
    have ld : (zs.map V.int).dropLast.reverse = zs.dropLast.reverse.map V.int := by rw [← List.map_dropLast, List.map_reverse]
    rw [ld] at e2 ⊢
    have t1 := e2 _ _ (upd_same : upd H t (HO.tup [.str "int", .str nm, .int (zs.getLast hne)]) t = some _)
    have X2 := e1.trans e2
    have p2 : upd (upd H t (HO.tup [.str "int", .str nm, .int (zs.getLast hne)])) p (HO.lst (zs.dropLast.reverse.map V.int)) p = some (.lst (zs.dropLast.reverse.map V.int)) := upd_same
    generalize upd (upd H t (HO.tup [.str "int", .str nm, .int (zs.getLast hne)])) p (HO.lst (zs.dropLast.reverse.map V.int)) = H2 at *
    have n1 : 1 ≤ zs.length := by cases zs with | nil => exact absurd rfl hne | cons _ _ => simp
    refine for_it (walk_list (K := K) (a := p) (xs := zs.dropLast.reverse.map V.int)) (fun i σ H' => Ex H2 H' ∧ ∃ v y3, σ = [some (.str nm), some (.ref a), some v, y3] ∧ SmAt H' v (chn nm (zs.drop (zs.length - 1 - i)))) ⟨Ex.refl _, _, _, rfl, ?_⟩ (fun i σ H' _ q => SqL.of (q.1 _ _ p2)) (fun i x σ H' H5 hi q y => ?_) (fun σ H5 q => ?_)
    · have e : zs.drop (zs.length - 1 - 0) = [zs.getLast hne] := by
        have h1 : (zs.dropLast ++ [zs.getLast hne]).drop zs.dropLast.length = [zs.getLast hne] := List.drop_left
        rw [← hz, List.length_dropLast] at h1
        exact h1
      rw [e]
      exact ⟨t, rfl, t1⟩
    · obtain ⟨x5, v, y3, rfl, hv⟩ := q
      obtain ⟨rfl, hx⟩ := y
      have hi' : i < zs.length - 1 := by simpa using hi
      have ei : zs.dropLast.reverse[i]? = some (zs[zs.length - 2 - i]'(by omega)) := by
        rw [List.getElem?_reverse (by simpa using hi'), List.length_dropLast, List.getElem?_dropLast, if_pos (by omega)]
        rw [show zs.length - 1 - 1 - i = zs.length - 2 - i by omega]
        exact List.getElem?_eq_getElem _
      rw [List.getElem?_map, ei] at hx
      cases hx
      refine ⟨_, rfl, _, rfl, sz (by simp), fun u hu => ⟨_, rfl, sz (by simp), fun q hq => ?_⟩⟩
      have e6 := Ex.new (o := .tup [.str "int", .str nm, .int (zs[zs.length - 2 - i]'(by omega))]) hu
      have e7 := Ex.new (o := .tup [.str "choose", .ref u, v]) hq
      refine ⟨x5.trans (e6.trans e7), _, _, rfl, ?_⟩
      have ed : zs.drop (zs.length - 1 - (i + 1)) = zs[zs.length - 2 - i]'(by omega) :: zs.drop (zs.length - 1 - i) := by
        rw [show zs.length - 1 - (i + 1) = zs.length - 2 - i by omega, List.drop_eq_getElem_cons (by omega), show zs.length - 2 - i + 1 = zs.length - 1 - i by omega]
      rw [ed, chn_cons _ _ (by intro z; have := congrArg List.length z; simp at this; omega)]
      exact ⟨q, _, v, rfl, upd_same, ⟨u, rfl, e7 _ _ upd_same⟩, hv.imm (e6.trans e7).imm⟩
    · obtain ⟨x5, v, y3, rfl, hv⟩ := q
      have e : zs.length - 1 - (zs.dropLast.reverse.map V.int).length = 0 := by simp
      rw [e] at hv
      exact ⟨_, rfl, k v H5 (X2.trans x5) (by simpa using hv)⟩
def spPaths : Sp := fun vs H Q _ => ∃ (a : Addr) (zs : List Int), vs = [.ref a] ∧ H a = some (.lst (zs.map V.int)) ∧ zs.length ≤ 100 ∧ ∀ p ps H', Ex H H' → H p = none → H' p = some (.lst ps) → Paired (PthAt H') ps (pths zs) → Q (.ref p) H'
theorem f_paths (T : Tx K mg) : Cal P w K mg base 1 "_law_paths" spPaths := by
  have sc : FnScope ["_law_values", "_law_found", "_law_at"] ["_law_values"] (defScope s_law_paths) := ⟨rfl, rfl, rfl, by decide +kernel, rfl, by decide +kernel, by decide +kernel⟩
  refine cal_ T.g_law_paths T.f_law_paths sc (fun _ _ _ _ _ _ us hl => match us, hl with | [_], _ => rfl) (fun vs H Q E h => ?_) (fun cdv A outer s H vs Q E hr h => ?_)
  · obtain ⟨_, _, rfl, _⟩ := h
    rfl
  · obtain ⟨a, zs, rfl, ha, hl, k⟩ := h
    refine ⟨_, pss_cons (ps_set (i := 1) sc.nd rfl (Or.inl rfl) (pe_lst pa_nil))
      (pss_cons (ps_for PassesOwn.never rfl (pi_range1 (by rfl) T.z_range (pa_cons (pe_callB call_len_seq (by rfl) T.z_len PySem.boot_len (pa_cons (pv 0) pa_nil)) pa_nil)) (pg_name (i := 2) sc.nd rfl (Or.inl rfl))
        (pss_one (ps_expr (pe_bm PySem.F.plainAttrs_list PySem.F.slot_list_append PySem.F.type_list_append mt_append (pv 1) (pa_cons (pe_tup (pa_cons (pe_op op_catU (pe_op op_repU (pe_tup (pa_cons pe_bl pa_nil)) (pv 2))
          (pe_op op_repU (pe_tup (pa_cons pe_bl pa_nil)) (pe_callTy call_int1 (by rfl) T.z_int (by decide +kernel) (pa_cons (pe_cmpR op_lt (pv 2) (pe_op op_sub (pe_callB call_len_seq (by rfl) T.z_len PySem.boot_len (pa_cons (pv 0) pa_nil)) pe_int) (nomark _)) pa_nil))))
          (pa_cons (pe_ix ix_list (pv 0) (pv 2) (fun _ _ => rfl)) pa_nil))) pa_nil)))))
      (pss_one (ps_ret (pv 1)))), ?_⟩
    refine ⟨sz (by simp), fun fd hfd => ?_⟩
    have nf := none1 hfd
    have e0 := Ex.new (o := .lst []) hfd
    refine ⟨_, rfl, _, _, rfl, .inl (SqL.of (e0 _ _ ha)), _, rfl, by rw [List.length_map]; omega, by rw [List.length_map]; omega, ?_⟩
    rw [List.length_map, Int.toNat_natCast]
    refine for_it (walk_range (lo := 0) (n := zs.length)) (fun i σ H' => But [fd] H H' ∧ (∃ y2, σ = [some (.ref a), some (.ref fd), y2]) ∧ ∃ ps, H' fd = some (.lst ps) ∧ Paired (PthAt H') ps ((pths zs).take i)) ⟨e0.but, ⟨_, rfl⟩, [], upd_same, .nil⟩ (fun _ _ _ _ _ => trivial) (fun i x σ H' H5 hi q y => ?_) (fun σ H5 q => ?_)
    · obtain ⟨b, ⟨y2, rfl⟩, ps, h1, h2⟩ := q
      obtain ⟨rfl, rfl⟩ := y
      have xb := b.exN nf
      have ha1 := xb _ _ ha
      have ez : zs[i]? = some zs[i] := List.getElem?_eq_getElem hi
      have e00 : (0 : Int) + (i : Int) = (i : Int) := Int.zero_add _
      refine ⟨_, rfl, .inl ⟨rfl, _, SqL.of h1⟩, sz (by simp), fun u1 hu1 => ⟨_, rfl, u1, _, _, rfl, rfl, upd_same, by simp, by omega, by omega, by simp, fun r1 H1 x1 k1 => ?_⟩⟩
      have X1 := (Ex.new (o := .tup [.bl true]) hu1).trans x1
      refine ⟨sz (by simp), fun u2 hu2 => ⟨_, rfl, _, rfl, _, _, rfl, .inl (SqL.of ((X1.trans (Ex.new hu2)) _ _ ha1)), _, _, rfl, rfl, _, _, rfl, rfl, .inr ⟨_, rfl, u2, _, _, rfl, rfl, upd_same, by simp, by split <;> decide, by split <;> decide, by simp, fun r2 H2 x2 k2 => ?_⟩⟩⟩
      have X2 := (Ex.new (o := .tup [.bl false]) hu2).trans x2
      have q1 : (List.replicate ((0 : Int) + (i : Int)).toNat [V.bl true]).flatten = (List.replicate i true).map V.bl := by
        rw [flat1, List.map_replicate, e00, Int.toNat_natCast]
      have q2 : (List.replicate (if decide ((0 : Int) + (i : Int) < ((zs.map V.int).length : Nat) - 1) = true then (1 : Int) else 0).toNat [V.bl false]).flatten = (List.replicate (if i + 1 < zs.length then 1 else 0) false).map V.bl := by
        rw [flat1, List.map_replicate]
        congr 1
        rw [List.length_map]
        by_cases c : i + 1 < zs.length
        · rw [if_pos c, if_pos (decide_eq_true (by omega))]; rfl
        · rw [if_neg c, if_neg (by simp; omega)]; rfl
      rw [q1] at k1
      rw [q2] at k2
      refine ⟨r1, r2, _, _, rfl, rfl, X2 _ _ k1, k2, ?_, fun r3 H3 x3 k3 => ?_⟩
      · simp only [List.length_map, List.length_replicate]
        split <;> omega
      have X3 := X1.trans (X2.trans x3)
      refine ⟨_, rfl, _, rfl, _, _, _, _, rfl, rfl, SqL.of (X3 _ _ ha1), atI_nat (by rw [List.getElem?_map, Nat.zero_add, ez]; rfl), sz (by simp), fun r4 hr4 => ?_⟩
      have e4 := Ex.new (o := .tup [.ref r3, .int zs[i]]) hr4
      have X4 := X3.trans e4
      have lp : ps.length ≤ 100 := by
        have := pr_len h2
        rw [this, List.length_take]; omega
      refine ⟨_, _, _, rfl, rfl, X4 _ _ h1, szl (by omega), b.trans (X4.but.trans (But.set (by simp))), ⟨_, rfl⟩, ps ++ [.ref r4], upd_same, ?_⟩
      have tp : Tp (upd H3 r4 (.tup [.ref r3, .int zs[i]])) (upd (upd H3 r4 (.tup [.ref r3, .int zs[i]])) fd (.lst (ps ++ [.ref r4]))) := Tp.set (X4 _ _ h1) (fun _ z => nomatch z)
      have ep : (pths zs)[i]? = some (List.replicate i true ++ List.replicate (if i + 1 < zs.length then 1 else 0) false, zs[i]) := by
        unfold pths
        rw [List.getElem?_map, List.getElem?_range hi]
        simp [List.getD_eq_getElem?_getD, ez]
      rw [List.take_succ, ep]
      refine pr_app (pr_imp (fun _ _ q => (q.ex X4.imm.tp).ex tp) h2) (.cons ⟨r4, r3, rfl, tp _ _ upd_same, tp _ _ (e4 _ _ ?_)⟩ .nil)
      rw [k3, List.map_append]
    · obtain ⟨b, ⟨y2, rfl⟩, ps, h1, h2⟩ := q
      rw [List.take_of_length_le (by simp [pths])] at h2
      exact ⟨_, rfl, k fd ps H5 (b.exN nf) hfd h1 h2⟩
end
end Lw
namespace Lw
open PySem PySem.Spec PyProof.Rows L2
def aN (k : Int) : Str := "A" ++ tx k
def sum0 (n : Nat) : Option Int → Sm
  | none => .bind "S" (aN ((n : Int) - 1))
  | some b => .case (aN ((n : Int) - 1)) b (.seq (.bind "S" (aN ((n : Int) - 1))) (.rai "S")) (.bind "S" (aN ((n : Int) - 1)))
def sumF (names : List Str) (f0 : Sm) : Nat → Sm
  | 0 => f0
  | j + 1 => .loc (aN ((names.length - 1 - j : Nat) : Int)) (.seq (.add (aN ((names.length - 1 - j : Nat) : Int)) (aN (((names.length - 1 - j : Nat) : Int) - 1)) (names.getD (names.length - 1 - j) "")) (sumF names f0 j))
def sumS (names : List Str) (bad : Option Int) : Sm := .loc "A0" (.seq (.bind "A0" (names.getD 0 "")) (sumF names (sum0 names.length bad) (names.length - 1)))
def oI : Option Int → V
  | none => .non
  | some b => .int b
section
variable {P : Program} {w : World} {K : PySem.W.Frag} {mg : Str → Option Value} {base : Heap}
theorem log_small {i : Int} (h : i.natAbs ≤ 1000000) : i.natAbs.log2 < 1920 := by
  by_cases e : i.natAbs = 0
  · rw [e]; decide
  · have h1 : i.natAbs < 2 ^ 20 := by
      have : (2 : Nat) ^ 20 = 1048576 := by decide
      omega
    have := (Nat.log2_lt e).mpr h1
    omega
theorem tx_len {i : Int} (h : i.natAbs ≤ 1000000) : (tx i).length ≤ 1921 := PyProof.Rows.int_text_len_1921 (log_small h)
theorem lenA {i : Int} (h : i.natAbs ≤ 1000000) : (Str.ofString "A").length + (tx i).length ≤ sizeLine := by
  have h1 := tx_len h
  have h2 : (Str.ofString "A").length = 1 := rfl
  rw [h2, sizeLine_eq]
  omega
def spSum : Sp := fun vs H Q _ => ∃ (a : Addr) (names : List Str) (bad : Option Int), vs = [.ref a, oI bad] ∧ H a = some (.lst (names.map V.str)) ∧ names ≠ [] ∧ names.length ≤ 100 ∧ ∀ v H', Ex H H' → SmAt H' v (sumS names bad) → Q v H'
theorem f_sum (T : Tx K mg) : Cal P w K mg base 1 "_law_sum" spSum := by
  have sc : FnScope ["_law_names", "_law_bad", "_law_found", "_law_wrong", "_law_at", "_law_add"] ["_law_names", "_law_bad"] (defScope s_law_sum) := ⟨rfl, rfl, rfl, by decide +kernel, rfl, by decide +kernel, by decide +kernel⟩
  refine cal_ T.g_law_sum T.f_law_sum sc (fun _ _ _ _ _ _ us hl => match us, hl with | [_, _], _ => rfl) (fun vs H Q E h => ?_) (fun cdv A outer s H vs Q E hr h => ?_)
  · obtain ⟨_, _, _, rfl, _⟩ := h
    rfl
  · obtain ⟨a, names, bad, rfl, ha, hne, hl, k⟩ := h
    refine ⟨_, pss_cons (ps_set (i := 2) sc.nd rfl (Or.inl rfl) (pe_tup (pa_cons pe_str (pa_cons pe_str (pa_cons (pe_op op_add_str pe_str (pe_callTy call_str_int (by rfl) T.z_str (by decide +kernel) (pa_cons (pe_op op_sub (pe_callB call_len_seq (by rfl) T.z_len PySem.boot_len (pa_cons (pv 0) pa_nil)) pe_int) pa_nil))) pa_nil)))))
      (pss_cons (ps_if (pt_cmp (pc_notN (pv 1)))
        (pss_cons (ps_set (i := 3) sc.nd rfl (Or.inl rfl) (pe_tup (pa_cons pe_str (pa_cons (pv 2) (pa_cons (pe_tup (pa_cons pe_str (pa_cons pe_str pa_nil))) pa_nil)))))
        (pss_one (ps_set (i := 2) sc.nd rfl (Or.inl rfl) (pe_tup (pa_cons pe_str (pa_cons (pe_op op_add_str pe_str (pe_callTy call_str_int (by rfl) T.z_str (by decide +kernel) (pa_cons (pe_op op_sub (pe_callB call_len_seq (by rfl) T.z_len PySem.boot_len (pa_cons (pv 0) pa_nil)) pe_int) pa_nil)))
          (pa_cons (pe_tup (pa_cons pe_str (pa_cons (pv 1) pa_nil))) (pa_cons (pv 3) (pa_cons (pv 2) pa_nil)))))))) ) pss_nil)
      (pss_cons (ps_for PassesOwn.never rfl (pi_range3 (by rfl) T.z_range (pa_cons (pe_op op_sub (pe_callB call_len_seq (by rfl) T.z_len PySem.boot_len (pa_cons (pv 0) pa_nil)) pe_int) (pa_cons pe_int (pa_cons (pe_un un_neg pe_int) pa_nil)))) (pg_name (i := 4) sc.nd rfl (Or.inl rfl))
        (pss_cons (ps_set (i := 5) sc.nd rfl (Or.inl rfl) (pe_tup (pa_cons pe_str (pa_cons pe_str (pa_cons (pe_op op_add_str pe_str (pe_callTy call_str_int (by rfl) T.z_str (by decide +kernel) (pa_cons (pv 4) pa_nil)))
          (pa_cons (pe_op op_add_str pe_str (pe_callTy call_str_int (by rfl) T.z_str (by decide +kernel) (pa_cons (pe_op op_sub (pv 4) pe_int) pa_nil))) (pa_cons (pe_ix ix_list (pv 0) (pv 4) (fun _ _ => rfl)) pa_nil)))))))
        (pss_one (ps_set (i := 2) sc.nd rfl (Or.inl rfl) (pe_tup (pa_cons pe_str (pa_cons (pe_op op_add_str pe_str (pe_callTy call_str_int (by rfl) T.z_str (by decide +kernel) (pa_cons (pv 4) pa_nil))) (pa_cons (pe_tup (pa_cons pe_str (pa_cons (pv 5) (pa_cons (pv 2) pa_nil)))) pa_nil))))))))
      (pss_one (ps_ret (pe_tup (pa_cons pe_str (pa_cons pe_str (pa_cons (pe_tup (pa_cons pe_str (pa_cons (pe_tup (pa_cons pe_str (pa_cons pe_str (pa_cons (pe_ix ix_list (pv 0) pe_int (fun _ _ => rfl)) pa_nil)))) (pa_cons (pv 2) pa_nil)))) pa_nil)))))))), ?_⟩
    have lm : (names.map V.str).length = names.length := List.length_map ..
    have n1 : 1 ≤ names.length := by cases names with | nil => exact absurd rfl hne | cons _ _ => simp
    have bd : (((names.map V.str).length : Nat) - 1 : Int).natAbs ≤ 1000000 := by rw [lm]; omega
    refine ⟨_, rfl, _, _, rfl, .inl (SqL.of ha), _, _, rfl, rfl, _, rfl, log_small bd, _, _, rfl, rfl, lenA bd, sz (by simp), fun b hb => ?_⟩
    have eb := Ex.new (o := .tup [.str "bind", .str "S", .str ("A" ++ tx (((names.map V.str).length : Nat) - 1 : Int))]) hb
    have sb : SmAt (upd H b (.tup [.str "bind", .str "S", .str ("A" ++ tx (((names.map V.str).length : Nat) - 1 : Int))])) (.ref b) (.bind "S" (aN ((names.length : Int) - 1))) := ⟨b, rfl, by rw [upd_same, lm]; rfl⟩
    cases bad with
    | none =>
      refine ⟨_, rfl, _, rfl, ifnF rfl ?_⟩
      refine ⟨_, rfl, _, _, rfl, .inl (SqL.of (eb _ _ ha)), _, _, rfl, rfl, _, rfl, _, _, _, _, rfl, RgC.neg (by rw [lm]; omega) (by rw [lm]; omega) (by decide) (by decide), ?_⟩
      have en : (((names.map V.str).length : Nat) - 1 - 0 : Int).toNat = names.length - 1 := by rw [lm]; omega
      rw [en]
      refine for_it (walk_rangeC (lo := (((names.map V.str).length : Nat) - 1 : Int)) (c := -1) (n := names.length - 1)) (fun i σ H' => Ex H H' ∧ ∃ v y3 y4 y5, σ = [some (.ref a), some (oI none), some v, y3, y4, y5] ∧ SmAt H' v (sumF names (sum0 names.length none) i)) ⟨eb, _, _, _, _, rfl, sb⟩ (fun _ _ _ _ _ => trivial) (fun i x σ H' H5 hi q y => ?_) (fun σ H5 q => ?_)
      · obtain ⟨xb, v, y3, y4, y5, rfl, hv⟩ := q
        obtain ⟨rfl, rfl⟩ := y
        have ha1 := xb _ _ ha
        have eI : ((((names.map V.str).length : Nat) - 1 : Int) + (i : Nat) * (-1)) = ((names.length - 1 - i : Nat) : Int) := by rw [lm]; omega
        have ez : names[names.length - 1 - i]? = some (names.getD (names.length - 1 - i) "") := by
          rw [List.getD_eq_getElem?_getD, List.getElem?_eq_getElem (by omega)]
          rfl
        have bdI : (((names.length - 1 - i : Nat) : Int)).natAbs ≤ 1000000 := by omega
        have bdJ : (((names.length - 1 - i : Nat) : Int) - 1).natAbs ≤ 1000000 := by omega
        refine ⟨_, rfl, _, rfl, by rw [eI]; exact log_small bdI, _, _, rfl, rfl, by rw [eI]; exact lenA bdI, _, rfl, _, _, rfl, rfl, _, rfl, by rw [eI]; exact log_small bdJ, _, _, rfl, rfl, by rw [eI]; exact lenA bdJ, _, rfl, _, rfl, _, _, _, _, rfl, rfl, SqL.of ha1, by rw [eI]; exact atI_nat (by rw [List.getElem?_map, ez]; rfl), sz (by simp), fun u hu => ?_⟩
        have e6 := Ex.new (o := .tup [.str "op", .str "+", .str ("A" ++ tx ((((names.map V.str).length : Nat) - 1 : Int) + (i : Nat) * (-1))), .str ("A" ++ tx ((((names.map V.str).length : Nat) - 1 : Int) + (i : Nat) * (-1) - 1)), .str (names.getD (names.length - 1 - i) "")]) hu
        refine ⟨_, rfl, _, rfl, by rw [eI]; exact log_small bdI, _, _, rfl, rfl, by rw [eI]; exact lenA bdI, _, rfl, _, rfl, sz (by simp), fun s1 hs1 => ⟨sz (by simp), fun s2 hs2 => ?_⟩⟩
        have e7 := Ex.new (o := .tup [.str "seq", .ref u, v]) hs1
        have e8 := Ex.new (o := .tup [.str "local", .str ("A" ++ tx ((((names.map V.str).length : Nat) - 1 : Int) + (i : Nat) * (-1))), .ref s1]) hs2
        refine ⟨xb.trans (e6.trans (e7.trans e8)), .ref s2, _, _, _, rfl, ?_⟩
        refine ⟨s2, .ref s1, rfl, ?_, s1, .ref u, v, rfl, e8 _ _ upd_same, ⟨u, rfl, ?_⟩, (hv.imm e6.imm).imm (e7.trans e8).imm⟩
        · rw [upd_same, eI]; rfl
        · rw [(e7.trans e8) _ _ upd_same, eI]; rfl
      · obtain ⟨xb, v, y3, y4, y5, rfl, hv⟩ := q
        have ha1 := xb _ _ ha
        have ez : names[0]? = some (names.getD 0 "") := by
          rw [List.getD_eq_getElem?_getD, List.getElem?_eq_getElem (by omega)]
          rfl
        refine ⟨_, rfl, _, _, _, _, rfl, rfl, SqL.of ha1, atI_nat (j := 0) (by rw [List.getElem?_map, ez]; rfl), sz (by simp), fun u hu => ⟨_, rfl, sz (by simp), fun s1 hs1 => ⟨sz (by simp), fun s2 hs2 => ?_⟩⟩⟩
        have e6 := Ex.new (o := .tup [.str "bind", .str "A0", .str (names.getD 0 "")]) hu
        have e7 := Ex.new (o := .tup [.str "seq", .ref u, v]) hs1
        have e8 := Ex.new (o := .tup [.str "local", .str "A0", .ref s1]) hs2
        exact k _ _ (xb.trans (e6.trans (e7.trans e8))) ⟨s2, .ref s1, rfl, upd_same, s1, .ref u, v, rfl, e8 _ _ upd_same, ⟨u, rfl, (e7.trans e8) _ _ upd_same⟩, (hv.imm e6.imm).imm (e7.trans e8).imm⟩
    | some bd0 =>
      refine ⟨_, rfl, _, rfl, ifnT (fun z => nomatch z) ?_⟩
      refine ⟨_, rfl, sz (by simp), fun r1 hr1 => ⟨sz (by simp), fun w1 hw1 => ?_⟩⟩
      have er := Ex.new (o := .tup [.str "raise", .str "S"]) hr1
      have ew := Ex.new (o := .tup [.str "seq", .ref b, .ref r1]) hw1
      have xa := eb.trans (er.trans ew)
      refine ⟨_, rfl, _, _, rfl, .inl (SqL.of (xa _ _ ha)), _, _, rfl, rfl, _, rfl, log_small bd, _, _, rfl, rfl, lenA bd, _, rfl, sz (by simp), fun i1 hi1 => ⟨_, rfl, _, rfl, sz (by simp), fun c1 hc1 => ?_⟩⟩
      have ei := Ex.new (o := .tup [.str "int", .int bd0]) hi1
      have ec := Ex.new (o := .tup [.str "case", .str ("A" ++ tx (((names.map V.str).length : Nat) - 1 : Int)), .ref i1, .ref w1, .ref b]) hc1
      have X1 := xa.trans (ei.trans ec)
      have sb1 := sb.imm (er.trans (ew.trans (ei.trans ec))).imm
      have sm1 : SmAt (upd _ c1 (.tup [.str "case", .str ("A" ++ tx (((names.map V.str).length : Nat) - 1 : Int)), .ref i1, .ref w1, .ref b])) (.ref c1) (sum0 names.length (some bd0)) :=
        ⟨c1, i1, .ref w1, .ref b, rfl, by rw [upd_same, lm]; rfl, ec _ _ upd_same, ⟨w1, .ref b, .ref r1, rfl, (ei.trans ec) _ _ upd_same, sb1, ⟨r1, rfl, (ew.trans (ei.trans ec)) _ _ upd_same⟩⟩, sb1⟩
      refine ⟨_, rfl, _, _, rfl, .inl (SqL.of (X1 _ _ ha)), _, _, rfl, rfl, _, rfl, _, _, _, _, rfl, RgC.neg (by rw [lm]; omega) (by rw [lm]; omega) (by decide) (by decide), ?_⟩
      have en : (((names.map V.str).length : Nat) - 1 - 0 : Int).toNat = names.length - 1 := by rw [lm]; omega
      rw [en]
      refine for_it (walk_rangeC (lo := (((names.map V.str).length : Nat) - 1 : Int)) (c := -1) (n := names.length - 1)) (fun i σ H' => Ex H H' ∧ ∃ v y3 y4 y5, σ = [some (.ref a), some (oI (some bd0)), some v, y3, y4, y5] ∧ SmAt H' v (sumF names (sum0 names.length (some bd0)) i)) ⟨X1, _, _, _, _, rfl, sm1⟩ (fun _ _ _ _ _ => trivial) (fun i x σ H' H5 hi q y => ?_) (fun σ H5 q => ?_)
      · obtain ⟨xb, v, y3, y4, y5, rfl, hv⟩ := q
        obtain ⟨rfl, rfl⟩ := y
        have ha1 := xb _ _ ha
        have eI : ((((names.map V.str).length : Nat) - 1 : Int) + (i : Nat) * (-1)) = ((names.length - 1 - i : Nat) : Int) := by rw [lm]; omega
        have ez : names[names.length - 1 - i]? = some (names.getD (names.length - 1 - i) "") := by
          rw [List.getD_eq_getElem?_getD, List.getElem?_eq_getElem (by omega)]
          rfl
        have bdI : (((names.length - 1 - i : Nat) : Int)).natAbs ≤ 1000000 := by omega
        have bdJ : (((names.length - 1 - i : Nat) : Int) - 1).natAbs ≤ 1000000 := by omega
        refine ⟨_, rfl, _, rfl, by rw [eI]; exact log_small bdI, _, _, rfl, rfl, by rw [eI]; exact lenA bdI, _, rfl, _, _, rfl, rfl, _, rfl, by rw [eI]; exact log_small bdJ, _, _, rfl, rfl, by rw [eI]; exact lenA bdJ, _, rfl, _, rfl, _, _, _, _, rfl, rfl, SqL.of ha1, by rw [eI]; exact atI_nat (by rw [List.getElem?_map, ez]; rfl), sz (by simp), fun u hu => ?_⟩
        have e6 := Ex.new (o := .tup [.str "op", .str "+", .str ("A" ++ tx ((((names.map V.str).length : Nat) - 1 : Int) + (i : Nat) * (-1))), .str ("A" ++ tx ((((names.map V.str).length : Nat) - 1 : Int) + (i : Nat) * (-1) - 1)), .str (names.getD (names.length - 1 - i) "")]) hu
        refine ⟨_, rfl, _, rfl, by rw [eI]; exact log_small bdI, _, _, rfl, rfl, by rw [eI]; exact lenA bdI, _, rfl, _, rfl, sz (by simp), fun s1 hs1 => ⟨sz (by simp), fun s2 hs2 => ?_⟩⟩
        have e7 := Ex.new (o := .tup [.str "seq", .ref u, v]) hs1
        have e8 := Ex.new (o := .tup [.str "local", .str ("A" ++ tx ((((names.map V.str).length : Nat) - 1 : Int) + (i : Nat) * (-1))), .ref s1]) hs2
        refine ⟨xb.trans (e6.trans (e7.trans e8)), .ref s2, _, _, _, rfl, ?_⟩
        refine ⟨s2, .ref s1, rfl, ?_, s1, .ref u, v, rfl, e8 _ _ upd_same, ⟨u, rfl, ?_⟩, (hv.imm e6.imm).imm (e7.trans e8).imm⟩
        · rw [upd_same, eI]; rfl
        · rw [(e7.trans e8) _ _ upd_same, eI]; rfl
      · obtain ⟨xb, v, y3, y4, y5, rfl, hv⟩ := q
        have ha1 := xb _ _ ha
        have ez : names[0]? = some (names.getD 0 "") := by
          rw [List.getD_eq_getElem?_getD, List.getElem?_eq_getElem (by omega)]
          rfl
        refine ⟨_, rfl, _, _, _, _, rfl, rfl, SqL.of ha1, atI_nat (j := 0) (by rw [List.getElem?_map, ez]; rfl), sz (by simp), fun u hu => ⟨_, rfl, sz (by simp), fun s1 hs1 => ⟨sz (by simp), fun s2 hs2 => ?_⟩⟩⟩
        have e6 := Ex.new (o := .tup [.str "bind", .str "A0", .str (names.getD 0 "")]) hu
        have e7 := Ex.new (o := .tup [.str "seq", .ref u, v]) hs1
        have e8 := Ex.new (o := .tup [.str "local", .str "A0", .ref s1]) hs2
        exact k _ _ (xb.trans (e6.trans (e7.trans e8))) ⟨s2, .ref s1, rfl, upd_same, s1, .ref u, v, rfl, e8 _ _ upd_same, ⟨u, rfl, (e7.trans e8) _ _ upd_same⟩, (hv.imm e6.imm).imm (e7.trans e8).imm⟩
end
end Lw
/-! ### the store, seen from afar -/
namespace Lw
open PySem
namespace So
variable {S : So}
theorem add_isV {d : Nd} {i : Nat} (hi : i < S.nd.length) : (S.add d).isV i = S.isV i := by
  unfold So.isV So.add
  show ((S.nd ++ [d])[i]? == some Nd.var) = _
  rw [List.getElem?_append_left hi]
theorem add_rep (w : S.Wf) (d : Nd) : ∀ i, i < S.nd.length → (S.add d).rep i = S.rep i := by
  have w' := w.add d
  have pa : ∀ i, i < S.nd.length → (S.add d).pa[i]? = S.pa[i]? := fun i hi => by
    show (S.pa ++ [S.pa.length])[i]? = _
    rw [List.getElem?_append_left (by rw [w.len]; exact hi)]
  refine w.ind (p := fun i => (S.add d).rep i = S.rep i) (fun i e => ?_) (fun i j e n ih => ?_)
  · have hi : i < S.nd.length := by rw [← w.len]; exact (List.getElem?_eq_some_iff.mp e).1
    rw [w.rep_root e, w'.rep_root (by rw [pa i hi]; exact e)]
  · have hi : i < S.nd.length := by rw [← w.len]; exact (List.getElem?_eq_some_iff.mp e).1
    rw [w.rep_step e, w'.rep_step (by rw [pa i hi]; exact e)]
    exact ih
theorem add_new (w : S.Wf) (d : Nd) : (S.add d).rep S.nd.length = S.nd.length := by
  refine (w.add d).rep_root ?_
  show (S.pa ++ [S.pa.length])[S.nd.length]? = some S.nd.length
  rw [← w.len]
  simp
theorem uni_nd' (a b : Nat) : (S.uni a b).nd = S.nd := by unfold So.uni; split <;> rfl
theorem uni_rep (w : S.Wf) {a b : Nat} (ha : a < S.nd.length) (hb : b < S.nd.length) (hf : S.Free a b) (ne : S.rep a ≠ S.rep b) :
    ∀ i, i < S.nd.length → (S.uni a b).rep i = if S.rep i = (S.join (S.rep a) (S.rep b)).2 then (S.join (S.rep a) (S.rep b)).1 else S.rep i := by
  have w' := w.uni ha hb hf
  obtain ⟨j1, j2, j3, j4⟩ := join_ok (a := S.rep a) (b := S.rep b) hf ne
  have hpa : (S.uni a b).pa = S.pa.set (S.join (S.rep a) (S.rep b)).2 (S.join (S.rep a) (S.rep b)).1 := by unfold So.uni; rw [if_neg ne]
  have ra := w.rep_fix a ha
  have rb := w.rep_fix b hb
  have f1 : S.pa[(S.join (S.rep a) (S.rep b)).1]? = some (S.join (S.rep a) (S.rep b)).1 := by rcases j4 with ⟨h, _⟩ | ⟨h, _⟩ <;> rw [h] <;> assumption
  have f2 : S.pa[(S.join (S.rep a) (S.rep b)).2]? = some (S.join (S.rep a) (S.rep b)).2 := by rcases j4 with ⟨_, h⟩ | ⟨_, h⟩ <;> rw [h] <;> assumption
  generalize (S.join (S.rep a) (S.rep b)).1 = x at *
  generalize (S.join (S.rep a) (S.rep b)).2 = y at *
  have hy : y < S.pa.length := (List.getElem?_eq_some_iff.mp f2).1
  have rx : (S.uni a b).rep x = x := w'.rep_root (by rw [hpa, List.getElem?_set_ne (Ne.symm j3)]; exact f1)
  refine w.ind (p := fun i => (S.uni a b).rep i = if S.rep i = y then x else S.rep i) (fun i e => ?_) (fun i j e n ih => ?_)
  · rw [w.rep_root e]
    by_cases q : i = y
    · rw [if_pos q, q, w'.rep_step (j := x) (by rw [hpa, List.getElem?_set_self hy]), rx]
    · rw [if_neg q, w'.rep_root (by rw [hpa, List.getElem?_set_ne (Ne.symm q)]; exact e)]
  · have q : i ≠ y := fun z => by rw [z, f2] at e; cases e; exact n z.symm
    rw [w.rep_step e, w'.rep_step (j := j) (by rw [hpa, List.getElem?_set_ne (Ne.symm q)]; exact e)]
    exact ih
end So
/-- tracked nodes with a tag each; a tag's value -/
structure AbsS (S : So) (T : List (Nat × Nat)) (vals : Nat → Option Int) : Prop where
  wf : S.Wf
  lt : ∀ p ∈ T, p.1 < S.nd.length
  bd : ∀ p ∈ T, ∀ v, vals p.2 = some v → S.nd[S.rep p.1]? = some (.int v)
  ub : ∀ p ∈ T, vals p.2 = none → S.isV (S.rep p.1) = true
  eq : ∀ p ∈ T, ∀ q ∈ T, vals p.2 = none → vals q.2 = none → (S.rep p.1 = S.rep q.1 ↔ p.2 = q.2)
def upv (vals : Nat → Option Int) (t : Nat) (v : Int) : Nat → Option Int := fun u => if u = t then some v else vals u
theorem upv_same {vals : Nat → Option Int} {t : Nat} {v : Int} : upv vals t v t = some v := if_pos rfl
theorem upv_ne {vals : Nat → Option Int} {t u : Nat} {v : Int} (h : u ≠ t) : upv vals t v u = vals u := if_neg h
section
variable {S : So} {T : List (Nat × Nat)} {vals : Nat → Option Int}
theorem isV_int {i : Nat} {v : Int} (h : S.nd[i]? = some (.int v)) : S.isV i = false := by
  unfold So.isV
  rw [h]
  rfl
theorem AbsS.isV (A : AbsS S T vals) {p : Nat × Nat} (h : p ∈ T) : S.isV (S.rep p.1) = (vals p.2).isNone := by
  cases e : vals p.2 with
  | none => rw [A.ub p h e]; rfl
  | some v => rw [isV_int (A.bd p h v e)]; rfl
theorem AbsS.val (A : AbsS S T vals) {p : Nat × Nat} (h : p ∈ T) : Mm.val S p.1 = vals p.2 := by
  unfold Mm.val
  cases e : vals p.2 with
  | some v => rw [A.bd p h v e]
  | none =>
    have := A.ub p h e
    unfold So.isV at this
    rw [beq_iff_eq] at this
    rw [this]
theorem AbsS.addVar (A : AbsS S T vals) {t : Nat} (ht : ∀ p ∈ T, p.2 ≠ t) (hv : vals t = none) : AbsS (S.add .var) ((S.nd.length, t) :: T) vals := by
  have rn := So.add_new A.wf .var
  have ro := So.add_rep A.wf .var
  have nd : (S.add .var).nd = S.nd ++ [.var] := rfl
  refine ⟨A.wf.add _, fun p hp => ?_, fun p hp v e => ?_, fun p hp e => ?_, fun p hp q hq e1 e2 => ?_⟩
  · rw [So.add_len]
    rcases List.mem_cons.mp hp with z | z
    · rw [z]; exact Nat.lt_succ_self _
    · have := A.lt p z; omega
  · rcases List.mem_cons.mp hp with z | z
    · rw [z] at e; rw [hv] at e; cases e
    · rw [ro _ (A.lt p z), nd, List.getElem?_append_left (A.wf.rep_lt _ (A.lt p z))]
      exact A.bd p z v e
  · rcases List.mem_cons.mp hp with z | z
    · rw [z, rn]
      unfold So.isV
      rw [nd]
      simp
    · rw [ro _ (A.lt p z), So.add_isV (A.wf.rep_lt _ (A.lt p z))]
      exact A.ub p z e
  · rcases List.mem_cons.mp hp with z | z <;> rcases List.mem_cons.mp hq with y | y
    · rw [z, y]; simp
    · rw [z, rn, ro _ (A.lt q y)]
      constructor
      · intro h; have := A.wf.rep_lt _ (A.lt q y); omega
      · intro h; exact absurd h.symm (ht q y)
    · rw [y, rn, ro _ (A.lt p z)]
      constructor
      · intro h; have := A.wf.rep_lt _ (A.lt p z); omega
      · intro h; exact absurd h (ht p z)
    · rw [ro _ (A.lt p z), ro _ (A.lt q y)]
      exact A.eq p z q y e1 e2
/-- a new int is made, unified with the unbound node n -/
theorem AbsS.give (A : AbsS S T vals) {n t : Nat} {v : Int} (hn : (n, t) ∈ T) (hv : vals t = none) : Mm.freeB (S.add (.int v)) n S.nd.length = true ∧ AbsS ((S.add (.int v)).uni n S.nd.length) T (upv vals t v) := by
  have rn := So.add_new A.wf (.int v)
  have ro := So.add_rep A.wf (.int v)
  have wa := A.wf.add (.int v)
  have ln := A.lt _ hn
  have ll : (S.add (.int v)).nd.length = S.nd.length + 1 := So.add_len
  have nd : (S.add (.int v)).nd = S.nd ++ [.int v] := rfl
  have un := A.ub _ hn hv
  have un' : (S.add (.int v)).isV ((S.add (.int v)).rep n) = true := by rw [ro n ln, So.add_isV (A.wf.rep_lt _ ln)]; exact un
  have nl : (S.add (.int v)).isV S.nd.length = false := isV_int (v := v) (by rw [nd]; simp)
  have hf : (S.add (.int v)).Free n S.nd.length := .inr (.inl un')
  have rl : S.rep n < S.nd.length := A.wf.rep_lt _ ln
  have ne : (S.add (.int v)).rep n ≠ (S.add (.int v)).rep S.nd.length := by rw [rn, ro n ln]; omega
  have hj : (S.add (.int v)).join ((S.add (.int v)).rep n) ((S.add (.int v)).rep S.nd.length) = (S.nd.length, S.rep n) := by
    unfold So.join
    rw [if_neg (by rw [un', rn, nl]; simp), if_pos un', rn, ro n ln]
  have ru := So.uni_rep wa (a := n) (b := S.nd.length) (by omega) (by omega) hf ne
  rw [hj] at ru
  have rp : ∀ p ∈ T, ((S.add (.int v)).uni n S.nd.length).rep p.1 = if S.rep p.1 = S.rep n then S.nd.length else S.rep p.1 := fun p hp => by
    have := A.lt p hp
    rw [ru p.1 (by omega), ro _ this]
  have hne : ∀ p ∈ T, p.2 ≠ t → S.rep p.1 ≠ S.rep n := fun p hp h e => by
    cases q : vals p.2 with
    | none => exact h ((A.eq p hp _ hn q hv).mp e)
    | some w =>
      have h1 := isV_int (A.bd p hp w q)
      rw [e] at h1
      rw [h1] at un
      cases un
  have nd2 : ((S.add (.int v)).uni n S.nd.length).nd = S.nd ++ [.int v] := by rw [So.uni_nd']; rfl
  refine ⟨?_, wa.uni (by omega) (by omega) hf, fun p hp => ?_, fun p hp w e => ?_, fun p hp e => ?_, fun p hp q hq e1 e2 => ?_⟩
  · unfold Mm.freeB
    rw [un']
    simp
  · rw [nd2, List.length_append]; have := A.lt p hp; simp; omega
  · rw [rp p hp, nd2]
    by_cases h : p.2 = t
    · rw [h, upv_same] at e
      cases e
      have : S.rep p.1 = S.rep n := (A.eq p hp _ hn (by rw [h]; exact hv) hv).mpr h
      rw [if_pos this]
      simp
    · rw [upv_ne h] at e
      rw [if_neg (hne p hp h), List.getElem?_append_left (A.wf.rep_lt _ (A.lt p hp))]
      exact A.bd p hp w e
  · have h : p.2 ≠ t := fun h => by rw [h, upv_same] at e; cases e
    rw [upv_ne h] at e
    rw [rp p hp, if_neg (hne p hp h), So.uni_isV, So.add_isV (A.wf.rep_lt _ (A.lt p hp))]
    exact A.ub p hp e
  · have h1 : p.2 ≠ t := fun h => by rw [h, upv_same] at e1; cases e1
    have h2 : q.2 ≠ t := fun h => by rw [h, upv_same] at e2; cases e2
    rw [upv_ne h1] at e1
    rw [upv_ne h2] at e2
    rw [rp p hp, rp q hq, if_neg (hne p hp h1), if_neg (hne q hq h2)]
    exact A.eq p hp q hq e1 e2
theorem AbsS.free (A : AbsS S T vals) {a t : Nat} (ha : (a, t) ∈ T) (hv : vals t = none) (b : Nat) : Mm.freeB S a b = true ∧ S.Free a b := by
  have ua := A.ub _ ha hv
  refine ⟨?_, .inr (.inl ua)⟩
  unfold Mm.freeB
  rw [ua]
  simp
theorem AbsS.uniB (A : AbsS S T vals) {a b t u : Nat} {v : Int} (ha : (a, t) ∈ T) (hb : (b, u) ∈ T) (hv : vals t = none) (hu : vals u = some v) : AbsS (S.uni a b) T (upv vals t v) := by
  have la := A.lt _ ha
  have lb := A.lt _ hb
  have ua := A.ub _ ha hv
  have bb := A.bd _ hb v hu
  have ub : S.isV (S.rep b) = false := isV_int bb
  have hf := (A.free ha hv b).2
  have ne : S.rep a ≠ S.rep b := fun e => by have ua' := ua; rw [e, ub] at ua'; cases ua'
  have hj : S.join (S.rep a) (S.rep b) = (S.rep b, S.rep a) := by
    unfold So.join
    rw [if_neg (by rw [show S.isV (S.rep a) = true from ua, ub]; simp), if_pos ua]
  have ru := So.uni_rep A.wf la lb hf ne
  rw [hj] at ru
  have nd : (S.uni a b).nd = S.nd := So.uni_nd' a b
  have hne : ∀ p ∈ T, p.2 ≠ t → S.rep p.1 ≠ S.rep a := fun p hp h e => by
    cases q : vals p.2 with
    | none => exact h ((A.eq p hp _ ha q hv).mp e)
    | some w =>
      have h1 := isV_int (A.bd p hp w q)
      rw [e] at h1
      have ua' := ua
      rw [h1] at ua'
      cases ua'
  refine ⟨A.wf.uni la lb hf, fun p hp => by rw [nd]; exact A.lt p hp, fun p hp w e => ?_, fun p hp e => ?_, fun p hp q hq e1 e2 => ?_⟩
  · rw [ru _ (A.lt p hp), nd]
    by_cases h : p.2 = t
    · rw [h, upv_same] at e
      cases e
      have : S.rep p.1 = S.rep a := (A.eq p hp _ ha (by rw [h]; exact hv) hv).mpr h
      rw [if_pos this]
      exact bb
    · rw [upv_ne h] at e
      rw [if_neg (hne p hp h)]
      exact A.bd p hp w e
  · have h : p.2 ≠ t := fun h => by rw [h, upv_same] at e; cases e
    rw [upv_ne h] at e
    rw [ru _ (A.lt p hp), if_neg (hne p hp h), So.uni_isV]
    exact A.ub p hp e
  · have h1 : p.2 ≠ t := fun h => by rw [h, upv_same] at e1; cases e1
    have h2 : q.2 ≠ t := fun h => by rw [h, upv_same] at e2; cases e2
    rw [upv_ne h1] at e1
    rw [upv_ne h2] at e2
    rw [ru _ (A.lt p hp), ru _ (A.lt q hq), if_neg (hne p hp h1), if_neg (hne q hq h2)]
    exact A.eq p hp q hq e1 e2
/-- the tag t becomes the tag u -/
def reT (t u : Nat) (T : List (Nat × Nat)) : List (Nat × Nat) := T.map fun p => if p.2 = t then (p.1, u) else p
theorem AbsS.uniV (A : AbsS S T vals) {a b t u : Nat} (ha : (a, t) ∈ T) (hb : (b, u) ∈ T) (hv : vals t = none) (hu : vals u = none) (tu : t ≠ u) : AbsS (S.uni a b) (reT t u T) vals := by
  have la := A.lt _ ha
  have lb := A.lt _ hb
  have ua := A.ub _ ha hv
  have ub := A.ub _ hb hu
  have hf := (A.free ha hv b).2
  have ne : S.rep a ≠ S.rep b := fun e => tu ((A.eq _ ha _ hb hv hu).mp e)
  obtain ⟨j1, j2, j3, j4⟩ := So.join_ok (a := S.rep a) (b := S.rep b) hf ne
  have ru := So.uni_rep A.wf la lb hf ne
  generalize (S.join (S.rep a) (S.rep b)).1 = x at *
  generalize (S.join (S.rep a) (S.rep b)).2 = y at *
  have nd : (S.uni a b).nd = S.nd := So.uni_nd' a b
  have xv : S.isV x = true := by rcases j4 with ⟨h, _⟩ | ⟨h, _⟩ <;> rw [h] <;> assumption
  -- where a tracked node stands
  have rep1 : ∀ p ∈ T, vals p.2 = none → (S.uni a b).rep p.1 = if p.2 = t ∨ p.2 = u then x else S.rep p.1 := fun p hp e => by
    rw [ru _ (A.lt p hp)]
    have e1 := A.eq p hp _ ha e hv
    have e2 := A.eq p hp _ hb e hu
    by_cases h1 : p.2 = t
    · rw [if_pos (Or.inl h1)]
      have h := e1.mpr h1
      replace h : S.rep p.1 = S.rep a := h
      rcases j4 with ⟨hx, hy⟩ | ⟨hx, hy⟩
      · by_cases z : S.rep p.1 = y
        · rw [if_pos z]
        · rw [if_neg z, h, hx]
      · rw [if_pos (by rw [h, hy])]
    · by_cases h2 : p.2 = u
      · rw [if_pos (Or.inr h2)]
        have h := e2.mpr h2
        replace h : S.rep p.1 = S.rep b := h
        rcases j4 with ⟨hx, hy⟩ | ⟨hx, hy⟩
        · rw [if_pos (by rw [h, hy])]
        · by_cases z : S.rep p.1 = y
          · rw [if_pos z]
          · rw [if_neg z, h, hx]
      · have c : ¬ (p.2 = t ∨ p.2 = u) := by rintro (h | h); exact h1 h; exact h2 h
        rw [if_neg c]
        have n1 : S.rep p.1 ≠ S.rep a := fun z => h1 (e1.mp z)
        have n2 : S.rep p.1 ≠ S.rep b := fun z => h2 (e2.mp z)
        rw [if_neg (by rcases j4 with ⟨_, hy⟩ | ⟨_, hy⟩ <;> rw [hy] <;> assumption)]
  have notx : ∀ p ∈ T, vals p.2 = none → ¬ (p.2 = t ∨ p.2 = u) → S.rep p.1 ≠ x := fun p hp e h => by
    have e1 := A.eq p hp _ ha e hv
    have e2 := A.eq p hp _ hb e hu
    rcases j4 with ⟨hx, _⟩ | ⟨hx, _⟩
    · rw [hx]; exact fun z => h (.inl (e1.mp z))
    · rw [hx]; exact fun z => h (.inr (e2.mp z))
  have back : ∀ q ∈ reT t u T, ∃ p ∈ T, q.1 = p.1 ∧ vals q.2 = vals p.2 ∧ q.2 = if p.2 = t then u else p.2 := fun q hq => by
    obtain ⟨p, hp, rfl⟩ := List.mem_map.mp hq
    refine ⟨p, hp, ?_⟩
    by_cases h : p.2 = t
    · rw [if_pos h, if_pos h]
      exact ⟨rfl, by show vals u = vals p.2; rw [h, hu, hv], rfl⟩
    · rw [if_neg h, if_neg h]
      exact ⟨rfl, rfl, rfl⟩
  refine ⟨A.wf.uni la lb hf, fun q hq => ?_, fun q hq w e => ?_, fun q hq e => ?_, fun q hq q' hq' e1 e2 => ?_⟩
  · obtain ⟨p, hp, h1, _⟩ := back q hq
    rw [nd, h1]; exact A.lt p hp
  · obtain ⟨p, hp, h1, h2, _⟩ := back q hq
    rw [h2] at e
    have b1 := A.bd p hp w e
    have n1 : S.rep p.1 ≠ y := fun z => by
      have := isV_int b1
      rw [z, j1] at this
      cases this
    rw [h1, ru _ (A.lt p hp), if_neg n1, nd]
    exact b1
  · obtain ⟨p, hp, h1, h2, _⟩ := back q hq
    rw [h2] at e
    rw [h1, rep1 p hp e, So.uni_isV]
    split
    · exact xv
    · exact A.ub p hp e
  · obtain ⟨p, hp, h1, h2, h3⟩ := back q hq
    obtain ⟨p', hp', h1', h2', h3'⟩ := back q' hq'
    rw [h2] at e1
    rw [h2'] at e2
    rw [h1, h1', rep1 p hp e1, rep1 p' hp' e2, h3, h3']
    have eq := A.eq p hp p' hp' e1 e2
    by_cases c : p.2 = t ∨ p.2 = u <;> by_cases c' : p'.2 = t ∨ p'.2 = u
    · rw [if_pos c, if_pos c']
      have z1 : (if p.2 = t then u else p.2) = u := by rcases c with h | h <;> simp [h]
      have z2 : (if p'.2 = t then u else p'.2) = u := by rcases c' with h | h <;> simp [h]
      rw [z1, z2]
      simp
    · rw [if_pos c, if_neg c']
      have z1 : (if p.2 = t then u else p.2) = u := by rcases c with h | h <;> simp [h]
      have z2 : (if p'.2 = t then u else p'.2) = p'.2 := if_neg (fun h => c' (.inl h))
      rw [z1, z2]
      constructor
      · intro h; exact absurd h.symm (notx p' hp' e2 c')
      · intro h; exact absurd (Or.inr h.symm) c'
    · rw [if_neg c, if_pos c']
      have z1 : (if p'.2 = t then u else p'.2) = u := by rcases c' with h | h <;> simp [h]
      have z2 : (if p.2 = t then u else p.2) = p.2 := if_neg (fun h => c (.inl h))
      rw [z1, z2]
      constructor
      · intro h; exact absurd h (notx p hp e1 c)
      · intro h; exact absurd (Or.inr h) c
    · rw [if_neg c, if_neg c', if_neg (fun h => c (.inl h)), if_neg (fun h => c' (.inl h))]
      exact eq
end
end Lw
/-! ### the law's machine, once its threads are there -/
namespace Lw
open PySem
theorem Ev.get_nil (x : Str) : Ev.get [] x = none := rfl
theorem Ev.get_cons (p : Str × Nat) (r : Ev) (x : Str) : Ev.get (p :: r) x = if p.1 = x then some p.2 else Ev.get r x := by
  unfold Ev.get
  rw [List.lookup_cons]
  by_cases h : p.1 = x
  · rw [if_pos h, show (x == p.1) = true by rw [h]; exact beq_self_eq_true x]
  · rw [if_neg h, show (x == p.1) = false from beq_eq_false_iff_ne.mpr (Ne.symm h)]
theorem Ev.get_put (e : Ev) (x y : Str) (n : Nat) : (e.put x n).get y = if y = x then some n else e.get y := by
  unfold Ev.put
  by_cases c : (e.any fun p => decide (p.1 = x)) = true
  · rw [if_pos c]
    induction e with
    | nil => simp at c
    | cons p r ih =>
      rw [List.map_cons, Ev.get_cons, Ev.get_cons]
      by_cases h : p.1 = x
      · rw [if_pos h]
        by_cases q : y = x
        · rw [if_pos q, if_pos (by show p.1 = y; rw [h, q])]
        · have q' : ¬ p.1 = y := fun z => q (by rw [← z, h])
          rw [if_neg q, if_neg (by exact q'), if_neg q']
          by_cases c2 : (r.any fun p => decide (p.1 = x)) = true
          · rw [ih c2, if_neg q]
          · have : r.map (fun p => if p.1 = x then (p.1, n) else p) = r := by
              refine (List.map_congr_left fun s hs => ?_).trans (List.map_id _)
              rw [if_neg]
              · rfl
              · intro z
                exact c2 (List.any_eq_true.mpr ⟨s, hs, decide_eq_true z⟩)
            rw [this]
      · have c2 : (r.any fun p => decide (p.1 = x)) = true := by
          rw [List.any_cons, decide_eq_false h, Bool.false_or] at c
          exact c
        rw [if_neg h, ih c2]
        by_cases q : y = x
        · rw [if_pos q, if_pos q, if_neg (fun z => h (by rw [z, q]))]
        · rw [if_neg q, if_neg q]
  · rw [if_neg c]
    induction e with
    | nil =>
      show Ev.get [(x, n)] y = _
      rw [Ev.get_cons]
      by_cases q : y = x
      · rw [if_pos q, if_pos q.symm]
      · rw [if_neg q, if_neg (Ne.symm q)]
    | cons p r ih =>
      rw [List.any_cons, Bool.or_eq_true, not_or] at c
      rw [List.cons_append, Ev.get_cons, Ev.get_cons, ih c.2]
      by_cases q : y = x
      · rw [if_pos q, if_pos q, if_neg (fun z => c.1 (decide_eq_true (by rw [z, q])))]
      · rw [if_neg q, if_neg q]
/-- the sum of the first values, where all are there -/
def psum (vals : Nat → Option Int) : Nat → Option Int
  | 0 => none
  | 1 => vals 0
  | a + 2 => match psum vals (a + 1), vals (a + 1) with
    | some x, some y => some (x + y)
    | _, _ => none
theorem psum_succ (vals : Nat → Option Int) {a : Nat} (h : 1 ≤ a) : psum vals (a + 1) = match psum vals a, vals a with
    | some x, some y => some (x + y)
    | _, _ => none := by
  obtain ⟨b, rfl⟩ : ∃ b, a = b + 1 := ⟨a - 1, by omega⟩
  rfl
theorem psum_some (vals : Nat → Option Int) : ∀ a, 1 ≤ a → (psum vals a).isSome = true → ∀ i < a, (vals i).isSome = true
  | 1, _, h, i, hi => by
    have : i = 0 := by omega
    rw [this]; exact h
  | a + 2, _, h, i, hi => by
    rw [psum_succ vals (a := a + 1) (by omega)] at h
    cases e1 : psum vals (a + 1) with
    | none => rw [e1] at h; cases h
    | some x =>
      cases e2 : vals (a + 1) with
      | none => rw [e1, e2] at h; cases h
      | some y =>
        by_cases q : i = a + 1
        · rw [q, e2]; rfl
        · exact psum_some vals (a + 1) (by omega) (by rw [e1]; rfl) i (by omega)
theorem psum_all (vals : Nat → Option Int) : ∀ a, 1 ≤ a → (∀ i < a, (vals i).isSome = true) → (psum vals a).isSome = true
  | 1, _, h => h 0 (by decide)
  | a + 2, _, h => by
    have h1 := psum_all vals (a + 1) (by omega) fun i hi => h i (by omega)
    have h2 := h (a + 1) (by omega)
    rw [psum_succ vals (a := a + 1) (by omega)]
    obtain ⟨x, hx⟩ := Option.isSome_iff_exists.mp h1
    obtain ⟨y, hy⟩ := Option.isSome_iff_exists.mp h2
    rw [hx, hy]
    rfl
theorem psum_congr {vals vals' : Nat → Option Int} : ∀ a, (∀ i < a, vals i = vals' i) → psum vals a = psum vals' a
  | 0, _ => rfl
  | 1, h => h 0 (by decide)
  | a + 2, h => by
    rw [psum_succ vals (a := a + 1) (by omega), psum_succ vals' (a := a + 1) (by omega), psum_congr (a + 1) fun i hi => h i (by omega), h (a + 1) (by omega)]
theorem psum_bd {vals : Nat → Option Int} : ∀ a, (∀ i < a, ∀ v, vals i = some v → 0 ≤ v ∧ v ≤ 5) → ∀ s, psum vals a = some s → 0 ≤ s ∧ s ≤ 5 * a
  | 0, _, s, e => by cases e
  | 1, h, s, e => by have := h 0 (by decide) s e; omega
  | a + 2, h, s, e => by
    rw [psum_succ vals (a := a + 1) (by omega)] at e
    cases e1 : psum vals (a + 1) with
    | none => rw [e1] at e; cases e
    | some x =>
      cases e2 : vals (a + 1) with
      | none => rw [e1, e2] at e; cases e
      | some y =>
        rw [e1, e2] at e
        cases e
        have h1 := psum_bd (a + 1) (fun i hi => h i (by omega)) x e1
        have h2 := h (a + 1) (by omega) y e2
        omega
end Lw
namespace Lw
open PySem
/-- the names of the law: all different, none is S or an A -/
structure NmOk (names : List Str) : Prop where
  n1 : 1 ≤ names.length
  n3 : names.length ≤ 3
  nd : names.Nodup
  ns : ∀ x ∈ names, x ≠ "S"
  na : ∀ x ∈ names, ∀ k : Nat, k < 3 → x ≠ aN (k : Int)
theorem aN0 : aN ((0 : Nat) : Int) = "A0" := by decide +kernel
theorem aN_S {k : Nat} (h : k < 3) : aN (k : Int) ≠ "S" := by
  match k, h with
  | 0, _ => decide +kernel
  | 1, _ => decide +kernel
  | 2, _ => decide +kernel
theorem aN_inj {j k : Nat} (hj : j < 3) (hk : k < 3) (h : aN (j : Int) = aN (k : Int)) : j = k := by
  match j, k, hj, hk with
  | 0, 0, _, _ => rfl
  | 1, 1, _, _ => rfl
  | 2, 2, _, _ => rfl
  | 0, 1, _, _ => exact absurd h (by decide +kernel)
  | 0, 2, _, _ => exact absurd h (by decide +kernel)
  | 1, 0, _, _ => exact absurd h (by decide +kernel)
  | 1, 2, _, _ => exact absurd h (by decide +kernel)
  | 2, 0, _, _ => exact absurd h (by decide +kernel)
  | 2, 1, _, _ => exact absurd h (by decide +kernel)
section
variable (names : List Str) (bad : Option Int)
/-- what is left of the sum's statement when the first a are summed -/
def sF (a : Nat) : Sm := sumF names (sum0 names.length bad) (names.length - a)
def nmx (a : Nat) : Str := names.getD a ""
theorem sF_step {a : Nat} (h1 : 1 ≤ a) (h2 : a < names.length) : sF names bad a = .loc (aN (a : Int)) (.seq (.add (aN (a : Int)) (aN ((a - 1 : Nat) : Int)) (nmx names a)) (sF names bad (a + 1))) := by
  unfold sF nmx
  obtain ⟨j, hj⟩ : ∃ j, names.length - a = j + 1 := ⟨names.length - a - 1, by omega⟩
  have e : names.length - (a + 1) = j := by omega
  rw [hj, e]
  show Sm.loc (aN ((names.length - 1 - j : Nat) : Int)) _ = _
  rw [show names.length - 1 - j = a by omega, show ((a : Nat) : Int) - 1 = ((a - 1 : Nat) : Int) by omega]
theorem sF_end : sF names bad names.length = sum0 names.length bad := by
  unfold sF
  rw [Nat.sub_self]
  rfl
/-- before S is bound -/
structure Pre (T : List (Nat × Nat)) (vals : Nat → Option Int) (w : Nat) (e : Ev) : Prop where
  nm : ∀ i < names.length, e.get (nmx names i) = some i
  s : e.get "S" = some names.length
  st : (names.length, names.length) ∈ T
  sv : vals names.length = none
  ln : e.length + w ≤ 90
/-- the node of A of a - 1 stands for the sum of the first a -/
def Acc (T : List (Nat × Nat)) (vals : Nat → Option Int) (a : Nat) (e : Ev) : Prop := ∃ q t, e.get (aN ((a - 1 : Nat) : Int)) = some q ∧ (q, t) ∈ T ∧ t ≠ names.length ∧ vals t = psum vals a ∧ ((psum vals a).isSome = true ∨ (a = 1 ∧ t = 0))
def New (T : List (Nat × Nat)) (vals : Nat → Option Int) (a : Nat) (e : Ev) : Prop := ∃ q, e.get (aN (a : Int)) = some q ∧ (q, names.length + 1 + a) ∈ T ∧ vals (names.length + 1 + a) = none
def WtOk (n : Nat) (T : List (Nat × Nat)) (wt : Option Nat) : Prop := ∀ m, wt = some m → ∃ t, t < n ∧ (m, t) ∈ T
abbrev bdS : Sm := .bind "S" (aN ((names.length : Int) - 1))
inductive SumAt (e0 : Ev) (T : List (Nat × Nat)) (vals : Nat → Option Int) : Nat → Nat → Th → Prop
  | s0 : Pre names T vals (3 * names.length + 8) e0 → SumAt e0 T vals (3 * names.length + 8) (names.length + 1) ⟨[(sumS names bad, e0)], none, none⟩
  | s1 {e : Ev} : Pre names T vals (3 * names.length + 7) e → New names T vals 0 e → SumAt e0 T vals (3 * names.length + 7) (names.length + 2) ⟨[(.seq (.bind "A0" (nmx names 0)) (sF names bad 1), e)], none, none⟩
  | s2 {e : Ev} : Pre names T vals (3 * names.length + 6) e → New names T vals 0 e → SumAt e0 T vals (3 * names.length + 6) (names.length + 2) ⟨[(.bind "A0" (nmx names 0), e), (sF names bad 1, e)], none, none⟩
  | f {a : Nat} {e : Ev} {wt : Option Nat} : 1 ≤ a → a ≤ names.length → Pre names T vals (3 * (names.length - a) + 7) e → Acc names T vals a e → WtOk names.length T wt → SumAt e0 T vals (3 * (names.length - a) + 7) (names.length + 1 + a) ⟨[(sF names bad a, e)], wt, none⟩
  | g {a : Nat} {e : Ev} : 1 ≤ a → a < names.length → Pre names T vals (3 * (names.length - a) + 6) e → Acc names T vals a e → New names T vals a e → SumAt e0 T vals (3 * (names.length - a) + 6) (names.length + 2 + a) ⟨[(.seq (.add (aN (a : Int)) (aN ((a - 1 : Nat) : Int)) (nmx names a)) (sF names bad (a + 1)), e)], none, none⟩
  | h {a : Nat} {e : Ev} {wt : Option Nat} : 1 ≤ a → a < names.length → Pre names T vals (3 * (names.length - a) + 5) e → Acc names T vals a e → New names T vals a e → WtOk names.length T wt → SumAt e0 T vals (3 * (names.length - a) + 5) (names.length + 2 + a) ⟨[(.add (aN (a : Int)) (aN ((a - 1 : Nat) : Int)) (nmx names a), e), (sF names bad (a + 1), e)], wt, none⟩
  | c1 {e : Ev} {b : Int} : bad = some b → psum vals names.length = some b → Pre names T vals 6 e → Acc names T vals names.length e → SumAt e0 T vals 6 (2 * names.length + 1) ⟨[(.seq (bdS names) (.rai "S"), e)], none, none⟩
  | c2 {e : Ev} {b : Int} : bad = some b → psum vals names.length = some b → Pre names T vals 5 e → Acc names T vals names.length e → SumAt e0 T vals 5 (2 * names.length + 1) ⟨[(bdS names, e), (.rai "S", e)], none, none⟩
  | c3 {e : Ev} {b : Int} {t : Nat} : bad = some b → psum vals names.length = some b → e.get "S" = some names.length → (names.length, t) ∈ T → SumAt e0 T vals 4 (2 * names.length + 1) ⟨[(.rai "S", e)], none, none⟩
  | c4 {e : Ev} {b : Int} : bad = some b → (psum vals names.length).isSome = true → psum vals names.length ≠ some b → Pre names T vals 3 e → Acc names T vals names.length e → SumAt e0 T vals 3 (2 * names.length + 1) ⟨[(bdS names, e)], none, none⟩
  | dn {t : Nat} : (names.length, t) ∈ T → vals t = psum vals names.length → ((psum vals names.length).isSome = true ∨ (names.length = 1 ∧ t = 0)) → (∀ b, bad = some b → (psum vals names.length).isSome = true ∧ psum vals names.length ≠ some b) → SumAt e0 T vals 0 (2 * names.length + 1) ⟨[], none, none⟩
  | br {m : Nat} {b : Int} : bad = some b → psum vals names.length = some b → SumAt e0 T vals 0 (2 * names.length + 1) ⟨[], none, some m⟩
end
section
variable {names : List Str} {bad : Option Int} {T : List (Nat × Nat)} {vals : Nat → Option Int} {e0 : Ev}
/-- a name's value arrives -/
theorem psum_upv {i : Nat} {v : Int} (hi : vals i = none) {a : Nat} (h : (psum vals a).isSome = true) (h1 : 1 ≤ a) : psum (upv vals i v) a = psum vals a := by
  refine psum_congr a fun j hj => ?_
  have := psum_some vals a h1 h j hj
  unfold upv
  by_cases q : j = i
  · rw [q, hi] at this; cases this
  · rw [if_neg q]
theorem Pre.upv {i : Nat} {v : Int} {w : Nat} {e : Ev} (p : Pre names T vals w e) (hi : i < names.length) : Pre names T (upv vals i v) w e := ⟨p.nm, p.s, p.st, by rw [upv_ne (by omega)]; exact p.sv, p.ln⟩
theorem Acc.upv {i : Nat} {v : Int} {a : Nat} {e : Ev} (A : Acc names T vals a e) (h1 : 1 ≤ a) (hv : vals i = none) : Acc names T (upv vals i v) a e := by
  obtain ⟨q, t, h2, h3, hn, h4, h5⟩ := A
  rcases h5 with h5 | ⟨h5, h6⟩
  · refine ⟨q, t, h2, h3, hn, ?_, .inl (by rw [psum_upv hv h5 h1]; exact h5)⟩
    rw [psum_upv hv h5 h1, upv_ne, h4]
    intro z
    rw [z, hv] at h4
    rw [← h4] at h5
    cases h5
  · exact ⟨q, t, h2, h3, hn, by rw [h6, h5]; rfl, .inr ⟨h5, h6⟩⟩
theorem New.upv {i : Nat} {v : Int} {a : Nat} {e : Ev} (A : New names T vals a e) (hi : i < names.length) : New names T (upv vals i v) a e := by
  obtain ⟨q, h1, h2, h3⟩ := A
  exact ⟨q, h1, h2, by rw [upv_ne (by omega)]; exact h3⟩
theorem SumAt.upv (N : NmOk names) {i : Nat} {v : Int} {w B : Nat} {Th : Th} (s : SumAt names bad e0 T vals w B Th) (hi : i < names.length) (hv : vals i = none) : SumAt names bad e0 T (upv vals i v) w B Th := by
  have n1 := N.n1
  have ps : ∀ {b : Int}, psum vals names.length = some b → psum (Lw.upv vals i v) names.length = some b := fun {b} h => by rw [psum_upv hv (by rw [h]; rfl) n1]; exact h
  cases s with
  | s0 p => exact .s0 (p.upv hi)
  | s1 p q => exact .s1 (p.upv hi) (q.upv hi)
  | s2 p q => exact .s2 (p.upv hi) (q.upv hi)
  | f h1 h2 p a w => exact .f h1 h2 (p.upv hi) (a.upv h1 hv) w
  | g h1 h2 p a q => exact .g h1 h2 (p.upv hi) (a.upv h1 hv) (q.upv hi)
  | h h1 h2 p a q w => exact .h h1 h2 (p.upv hi) (a.upv h1 hv) (q.upv hi) w
  | c1 hb h p a => exact .c1 hb (ps h) (p.upv hi) (a.upv n1 hv)
  | c2 hb h p a => exact .c2 hb (ps h) (p.upv hi) (a.upv n1 hv)
  | c3 hb h1 h2 h3 => exact .c3 hb (ps h1) h2 h3
  | c4 hb h1 h2 p a => exact .c4 hb (by rw [psum_upv hv h1 n1]; exact h1) (by rw [psum_upv hv h1 n1]; exact h2) (p.upv hi) (a.upv n1 hv)
  | @dn t h1 h2 h3 h4 =>
    refine .dn h1 ?_ ?_ fun b hb => ?_
    · rcases h3 with h | ⟨h, h'⟩
      · rw [psum_upv hv h n1, upv_ne, h2]
        intro z
        rw [z, hv] at h2
        rw [← h2] at h
        cases h
      · rw [h', h]; rfl
    · rcases h3 with h | h
      · exact .inl (by rw [psum_upv hv h n1]; exact h)
      · exact .inr h
    · obtain ⟨k1, k2⟩ := h4 b hb
      rw [psum_upv hv k1 n1]
      exact ⟨k1, k2⟩
  | br hb h => exact .br hb (ps h)
end
end Lw
namespace Lw
open PySem
theorem step_eq {M : Mm} {t : Nat} {f : Sm × Ev} {fr : List (Sm × Ev)} {wt ra : Option Nat} {r : Mm.Res} (h : M.rows[t]? = some ⟨f :: fr, wt, ra⟩) (hs : Mm.stat M.so ⟨f :: fr, wt, ra⟩ = .ready) (hd : Mm.doM (M.pop t fr) t ⟨fr, none, none⟩ f.1 f.2 = some r) : M.stepM t = some (M.aft t f fr r) := by
  unfold Mm.stepM
  rw [h]
  simp only [hs, if_true]
  have : Mm.doM { M with tk := M.tk + 1, rows := M.rows.set t ⟨fr, none, none⟩ } t ⟨fr, none, none⟩ f.1 f.2 = some r := hd
  rw [this]
  cases r <;> rfl
/-- tags below B, the names' own tags, small values -/
structure Tg (names : List Str) (T : List (Nat × Nat)) (vals : Nat → Option Int) (B : Nat) : Prop where
  base : ∀ i < names.length, (i, i) ∈ T
  tb : ∀ p ∈ T, p.2 < B
  fr : ∀ t, B ≤ t → vals t = none
  vb : ∀ i < names.length, ∀ v, vals i = some v → 0 ≤ v ∧ v ≤ 5
/-- what a step of the sum thread leaves -/
structure Out (names : List Str) (bad : Option Int) (e0 : Ev) (M : Mm) (t : Nat) (vals : Nat → Option Int) (w : Nat) (M' : Mm) : Prop where
  ex : ∃ T' vals' w' B' Th', M'.rows = M.rows.set t Th' ∧ M'.gv = M.gv ∧ AbsS M'.so T' vals' ∧ SumAt names bad e0 T' vals' w' B' Th' ∧ Tg names T' vals' B' ∧ (∀ i < names.length, vals' i = vals i) ∧
    ((w' < w ∧ M'.so.nd.length ≤ M.so.nd.length + 1) ∨ (w' = w ∧ M'.so = M.so ∧ Mm.stuck M'.so Th' = true))
section
variable {names : List Str} {bad : Option Int} {T : List (Nat × Nat)} {vals : Nat → Option Int} {e0 : Ev} {S : So}
theorem node_of (A : AbsS S T vals) {e : Ev} {x : Str} {n t : Nat} (h : e.get x = some n) (m : (n, t) ∈ T) : Mm.node S e x = some n := by
  unfold Mm.node
  rw [h]
  simp only
  rw [if_pos (A.lt _ m)]
theorem Pre.put (p : Pre names T vals (w + 1) e) (N : NmOk names) {k : Nat} (hk : k < 3) {T' : List (Nat × Nat)} {q : Nat} (hT : ∀ x ∈ T, x ∈ T') : Pre names T' vals w (e.put (aN (k : Int)) q) := by
  refine ⟨fun i hi => ?_, ?_, hT _ p.st, p.sv, ?_⟩
  · rw [Ev.get_put, if_neg, p.nm i hi]
    have hm : nmx names i ∈ names := by
      unfold nmx
      rw [List.getD_eq_getElem?_getD, List.getElem?_eq_getElem hi]
      exact List.getElem_mem hi
    exact N.na _ hm k hk
  · rw [Ev.get_put, if_neg (Ne.symm (aN_S hk)), p.s]
  · have := put_len e (aN (k : Int)) q
    have := p.ln
    omega
theorem rows_set2 {M : Mm} {t : Nat} {fr : List (Sm × Ev)} {Th : Th} : ((M.pop t fr).row t Th).rows = M.rows.set t Th := by
  show (M.rows.set t _).set t _ = _
  rw [List.set_set]
theorem push_eq {M : Mm} {t : Nat} {T : Th} {fs : List (Sm × Ev)} (h : T.fr.length + fs.length ≤ 200) : Mm.push M t T fs = some (.ok (M.row t { T with fr := fs ++ T.fr })) := by
  unfold Mm.push
  rw [if_pos h]
theorem mem_reT {t u : Nat} {p : Nat × Nat} (h : p ∈ T) (n : p.2 ≠ t) : p ∈ reT t u T := by
  unfold reT
  refine List.mem_map.mpr ⟨p, h, ?_⟩
  rw [if_neg n]
theorem mem_reT' {t u n : Nat} (h : (n, t) ∈ T) : (n, u) ∈ reT t u T := by
  unfold reT
  refine List.mem_map.mpr ⟨_, h, ?_⟩
  rw [if_pos rfl]
theorem reT_lt {t u B : Nat} (h : ∀ p ∈ T, p.2 < B) (hu : u < B) : ∀ p ∈ reT t u T, p.2 < B := fun p hp => by
  obtain ⟨q, hq, rfl⟩ := List.mem_map.mp hp
  split
  · exact hu
  · exact h q hq
end
end Lw
namespace Lw
open PySem
section
variable {names : List Str} {bad : Option Int} {T : List (Nat × Nat)} {vals : Nat → Option Int} {e0 : Ev}
theorem Tg.var {B : Nat} (G : Tg names T vals B) (n : Nat) : Tg names ((n, B) :: T) vals (B + 1) :=
  ⟨fun i hi => List.mem_cons_of_mem _ (G.base i hi), fun p hp => by
    rcases List.mem_cons.mp hp with h | h
    · rw [h]; exact Nat.lt_succ_self _
    · exact Nat.lt_succ_of_lt (G.tb p h), fun t ht => G.fr t (by omega), G.vb⟩
theorem AbsS.newV {S : So} (A : AbsS S T vals) {B : Nat} (G : Tg names T vals B) : AbsS (S.add .var) ((S.nd.length, B) :: T) vals := A.addVar (fun p hp => by have := G.tb p hp; omega) (G.fr B (Nat.le_refl _))
theorem loc_eq {M : Mm} {t : Nat} {fr : List (Sm × Ev)} {x : Str} {a : Sm} {e : Ev} (h1 : M.so.nd.length ≤ 1500) (h2 : e.length ≤ 100) (h3 : fr.length ≤ 100) :
    Mm.doM (M.pop t fr) t ⟨fr, none, none⟩ (.loc x a) e = some (.ok (({ M.pop t fr with so := M.so.add .var } : Mm).row t ⟨(a, e.put x M.so.nd.length) :: fr, none, none⟩)) := by
  show (if (Mm.room M.so && decide (e.length ≤ 100)) = true then Mm.push { M.pop t fr with so := M.so.add .var } t ⟨fr, none, none⟩ [(a, e.put x M.so.nd.length)] else none) = _
  have r : Mm.room M.so = true := decide_eq_true (by omega)
  rw [if_pos (by rw [r, decide_eq_true h2]; rfl), push_eq (by simp; omega)]
  rfl
theorem seq_eq {M : Mm} {t : Nat} {fr : List (Sm × Ev)} {a b : Sm} {e : Ev} (h3 : fr.length ≤ 100) :
    Mm.doM (M.pop t fr) t ⟨fr, none, none⟩ (.seq a b) e = some (.ok ((M.pop t fr).row t ⟨(a, e) :: (b, e) :: fr, none, none⟩)) := by
  show Mm.push (M.pop t fr) t ⟨fr, none, none⟩ [(a, e), (b, e)] = _
  rw [push_eq (by simp; omega)]
  rfl
theorem bind_eq {M : Mm} {t : Nat} {fr : List (Sm × Ev)} {x y : Str} {e : Ev} {a b : Nat} (ha : Mm.node M.so e x = some a) (hb : Mm.node M.so e y = some b) (hf : Mm.freeB M.so a b = true) :
    Mm.doM (M.pop t fr) t ⟨fr, none, none⟩ (.bind x y) e = some (.ok { M.pop t fr with so := M.so.uni a b }) := by
  show (match Mm.node M.so e x, Mm.node M.so e y with
    | some a, some b => if Mm.freeB M.so a b = true then some (Mm.Res.ok { M.pop t fr with so := M.so.uni a b }) else none
    | _, _ => none) = _
  rw [ha, hb]
  simp only
  rw [if_pos hf]
theorem nm0_len (N : NmOk names) : (0 : Nat) < names.length := N.n1
theorem step_s0 (N : NmOk names) {M : Mm} {t : Nat} (hT : M.rows[t]? = some ⟨[(sumS names bad, e0)], none, none⟩) (hs : Mm.stat M.so ⟨[(sumS names bad, e0)], none, none⟩ = .ready) (A : AbsS M.so T vals)
    (p : Pre names T vals (3 * names.length + 8) e0) (G : Tg names T vals (names.length + 1)) (hz : M.so.nd.length ≤ 1500) : ∃ M', M.stepM t = some M' ∧ Out names bad e0 M t vals (3 * names.length + 8) M' := by
  have hd := loc_eq (M := M) (t := t) (fr := []) (x := "A0") (a := .seq (.bind "A0" (nmx names 0)) (sumF names (sum0 names.length bad) (names.length - 1))) (e := e0) hz (by have := p.ln; omega) (by simp)
  refine ⟨_, step_eq hT hs hd, ⟨_, vals, _, _, _, List.set_set .., rfl, A.newV G, .s1 (p.put N (k := 0) (by decide) (T' := (M.so.nd.length, names.length + 1) :: T) (q := M.so.nd.length) fun x hx => List.mem_cons_of_mem _ hx) ⟨M.so.nd.length, ?_, List.mem_cons_self, G.fr _ (Nat.le_refl _)⟩, G.var _, fun _ _ => rfl, .inl ⟨Nat.lt_succ_self _, ?_⟩⟩⟩
  · rw [Ev.get_put, if_pos aN0]
  · show (M.so.add .var).nd.length ≤ _
    rw [So.add_len]
    exact Nat.le_refl _
theorem step_s1 (N : NmOk names) {M : Mm} {t : Nat} {e : Ev} (hT : M.rows[t]? = some ⟨[(.seq (.bind "A0" (nmx names 0)) (sF names bad 1), e)], none, none⟩) (hs : Mm.stat M.so ⟨[(.seq (.bind "A0" (nmx names 0)) (sF names bad 1), e)], none, none⟩ = .ready) (A : AbsS M.so T vals)
    (p : Pre names T vals (3 * names.length + 7) e) (n : New names T vals 0 e) (G : Tg names T vals (names.length + 2)) : ∃ M', M.stepM t = some M' ∧ Out names bad e0 M t vals (3 * names.length + 7) M' := by
  have hd := seq_eq (M := M) (t := t) (fr := []) (a := .bind "A0" (nmx names 0)) (b := sF names bad 1) (e := e) (by simp)
  exact ⟨_, step_eq hT hs hd, ⟨_, vals, _, _, _, List.set_set .., rfl, A, .s2 ⟨p.nm, p.s, p.st, p.sv, by have := p.ln; omega⟩ n, G, fun _ _ => rfl, .inl ⟨Nat.lt_succ_self _, Nat.le_succ _⟩⟩⟩
theorem step_s2 (N : NmOk names) {M : Mm} {t : Nat} {e : Ev} (hT : M.rows[t]? = some ⟨[(.bind "A0" (nmx names 0), e), (sF names bad 1, e)], none, none⟩) (hs : Mm.stat M.so ⟨[(.bind "A0" (nmx names 0), e), (sF names bad 1, e)], none, none⟩ = .ready) (A : AbsS M.so T vals)
    (p : Pre names T vals (3 * names.length + 6) e) (n : New names T vals 0 e) (G : Tg names T vals (names.length + 2)) : ∃ M', M.stepM t = some M' ∧ Out names bad e0 M t vals (3 * names.length + 6) M' := by
  obtain ⟨q, n1, n2, n3⟩ := n
  rw [show aN ((0 : Nat) : Int) = "A0" from aN0] at n1
  have b0 := G.base 0 N.n1
  have f := A.free n2 n3 0
  have hd := bind_eq (M := M) (t := t) (fr := [(sF names bad 1, e)]) (node_of A n1 n2) (node_of A (p.nm 0 N.n1) b0) f.1
  have nn := N.n1
  have len : (M.so.uni q 0).nd.length = M.so.nd.length := by rw [So.uni_nd']
  have ew : 3 * names.length + 6 = 3 * (names.length - 1) + 7 + 2 := by omega
  cases h0 : vals 0 with
  | some v =>
    have A' := A.uniB n2 b0 n3 h0
    refine ⟨_, step_eq hT hs hd, ⟨T, upv vals (names.length + 1 + 0) v, _, _, _, rfl, rfl, A', .f (a := 1) (wt := none) (Nat.le_refl 1) nn ⟨p.nm, p.s, p.st, by rw [upv_ne (by omega)]; exact p.sv, by have := p.ln; omega⟩ ⟨q, names.length + 1 + 0, ?_, n2, by omega, ?_, .inl ?_⟩ (fun m h => nomatch h), ⟨G.base, fun x hx => ?_, fun t ht => ?_, fun i hi w hw => ?_⟩, fun i hi => upv_ne (by omega), .inl ⟨by omega, ?_⟩⟩⟩
    · rw [show aN ((1 - 1 : Nat) : Int) = "A0" from aN0]; exact n1
    · rw [upv_same]
      show some v = upv vals _ v 0
      rw [upv_ne (by omega), h0]
    · show (upv vals _ v 0).isSome = true
      rw [upv_ne (by omega), h0]; rfl
    · have := G.tb x hx; omega
    · rw [upv_ne (by omega)]; exact G.fr t (by omega)
    · rw [upv_ne (by omega)] at hw; exact G.vb i hi w hw
    · show (M.so.uni q 0).nd.length ≤ _; rw [len]; omega
  | none =>
    have A' := A.uniV n2 b0 n3 h0 (by omega)
    refine ⟨_, step_eq hT hs hd, ⟨_, vals, _, _, _, rfl, rfl, A', .f (a := 1) (wt := none) (Nat.le_refl 1) nn ⟨p.nm, p.s, mem_reT p.st (by show names.length ≠ _; omega), p.sv, by have := p.ln; omega⟩ ⟨q, 0, ?_, mem_reT' n2, by omega, rfl, .inr ⟨rfl, rfl⟩⟩ (fun m h => nomatch h), ⟨fun i hi => mem_reT (G.base i hi) (by show i ≠ _; omega), reT_lt (fun x hx => by have := G.tb x hx; omega) (by omega), fun t ht => G.fr t (by omega), G.vb⟩, fun i hi => rfl, .inl ⟨by omega, ?_⟩⟩⟩
    · rw [show aN ((1 - 1 : Nat) : Int) = "A0" from aN0]; exact n1
    · show (M.so.uni q 0).nd.length ≤ _; rw [len]; omega
theorem Acc.put {a : Nat} {e : Ev} {T' : List (Nat × Nat)} {q : Nat} (A : Acc names T vals a e) (h1 : 1 ≤ a) (h2 : a < 3) (hT : ∀ x ∈ T, x ∈ T') : Acc names T' vals a (e.put (aN (a : Int)) q) := by
  obtain ⟨m, t, k1, k2, k3, k4, k5⟩ := A
  refine ⟨m, t, ?_, hT _ k2, k3, k4, k5⟩
  rw [Ev.get_put, if_neg, k1]
  intro z
  have := aN_inj (by omega) h2 z
  omega
theorem step_f (N : NmOk names) {M : Mm} {t a : Nat} {e : Ev} {wt : Option Nat} (h1 : 1 ≤ a) (h2 : a < names.length) (hT : M.rows[t]? = some ⟨[(sF names bad a, e)], wt, none⟩) (hs : Mm.stat M.so ⟨[(sF names bad a, e)], wt, none⟩ = .ready) (A : AbsS M.so T vals)
    (p : Pre names T vals (3 * (names.length - a) + 7) e) (ac : Acc names T vals a e) (G : Tg names T vals (names.length + 1 + a)) (hz : M.so.nd.length ≤ 1500) : ∃ M', M.stepM t = some M' ∧ Out names bad e0 M t vals (3 * (names.length - a) + 7) M' := by
  have n3 := N.n3
  rw [sF_step names bad h1 h2] at hT hs
  have hd := loc_eq (M := M) (t := t) (fr := []) (x := aN (a : Int)) (a := .seq (.add (aN (a : Int)) (aN ((a - 1 : Nat) : Int)) (nmx names a)) (sF names bad (a + 1))) (e := e) hz (by have := p.ln; omega) (by simp)
  have hTT : ∀ x ∈ T, x ∈ (M.so.nd.length, names.length + 1 + a) :: T := fun x hx => List.mem_cons_of_mem _ hx
  have G' := G.var M.so.nd.length
  rw [show names.length + 1 + a + 1 = names.length + 2 + a by omega] at G'
  refine ⟨_, step_eq hT hs hd, ⟨_, vals, _, _, _, List.set_set .., rfl, A.newV G, .g h1 h2 (p.put N (k := a) (by omega) hTT) (ac.put h1 (by omega) hTT) ⟨M.so.nd.length, ?_, List.mem_cons_self, G.fr _ (Nat.le_refl _)⟩, G', fun _ _ => rfl, .inl ⟨Nat.lt_succ_self _, ?_⟩⟩⟩
  · rw [Ev.get_put, if_pos rfl]
  · show (M.so.add .var).nd.length ≤ _
    rw [So.add_len]
    exact Nat.le_refl _
theorem step_g (N : NmOk names) {M : Mm} {t a : Nat} {e : Ev} (h1 : 1 ≤ a) (h2 : a < names.length) (hT : M.rows[t]? = some ⟨[(.seq (.add (aN (a : Int)) (aN ((a - 1 : Nat) : Int)) (nmx names a)) (sF names bad (a + 1)), e)], none, none⟩)
    (hs : Mm.stat M.so ⟨[(.seq (.add (aN (a : Int)) (aN ((a - 1 : Nat) : Int)) (nmx names a)) (sF names bad (a + 1)), e)], none, none⟩ = .ready) (A : AbsS M.so T vals)
    (p : Pre names T vals (3 * (names.length - a) + 6) e) (ac : Acc names T vals a e) (n : New names T vals a e) (G : Tg names T vals (names.length + 2 + a)) : ∃ M', M.stepM t = some M' ∧ Out names bad e0 M t vals (3 * (names.length - a) + 6) M' := by
  have hd := seq_eq (M := M) (t := t) (fr := []) (a := .add (aN (a : Int)) (aN ((a - 1 : Nat) : Int)) (nmx names a)) (b := sF names bad (a + 1)) (e := e) (by simp)
  exact ⟨_, step_eq hT hs hd, ⟨_, vals, _, _, _, List.set_set .., rfl, A, .h (wt := none) h1 h2 ⟨p.nm, p.s, p.st, p.sv, by have := p.ln; omega⟩ ac n (fun m h => nomatch h), G, fun _ _ => rfl, .inl ⟨Nat.lt_succ_self _, Nat.le_succ _⟩⟩⟩
theorem stuck_of {S : So} (A : AbsS S T vals) {m t : Nat} (h : (m, t) ∈ T) (hv : vals t = none) {fr : List (Sm × Ev)} {ra : Option Nat} : Mm.stuck S ⟨fr, some m, ra⟩ = true := A.ub _ h hv
theorem tag_lt (N : NmOk names) {a u : Nat} (hu : vals u = none) (k4 : vals u = psum vals a) (k5 : (psum vals a).isSome = true ∨ (a = 1 ∧ u = 0)) : u < names.length := by
  rcases k5 with h | ⟨_, h⟩
  · rw [← k4, hu] at h; cases h
  · rw [h]; exact N.n1
theorem step_h (N : NmOk names) {M : Mm} {t a : Nat} {e : Ev} {wt : Option Nat} (h1 : 1 ≤ a) (h2 : a < names.length) (hT : M.rows[t]? = some ⟨[(.add (aN (a : Int)) (aN ((a - 1 : Nat) : Int)) (nmx names a), e), (sF names bad (a + 1), e)], wt, none⟩)
    (hs : Mm.stat M.so ⟨[(.add (aN (a : Int)) (aN ((a - 1 : Nat) : Int)) (nmx names a), e), (sF names bad (a + 1), e)], wt, none⟩ = .ready) (A : AbsS M.so T vals)
    (p : Pre names T vals (3 * (names.length - a) + 5) e) (ac : Acc names T vals a e) (n : New names T vals a e) (G : Tg names T vals (names.length + 2 + a)) (hz : M.so.nd.length ≤ 1500) : ∃ M', M.stepM t = some M' ∧ Out names bad e0 M t vals (3 * (names.length - a) + 5) M' := by
  obtain ⟨q', n1, n2, n4⟩ := n
  obtain ⟨q, u, k1, k2, k3, k4, k5⟩ := ac
  have n3 := N.n3
  have ba := G.base a h2
  have dm : Mm.doM (M.pop t [(sF names bad (a + 1), e)]) t ⟨[(sF names bad (a + 1), e)], none, none⟩ (.add (aN (a : Int)) (aN ((a - 1 : Nat) : Int)) (nmx names a)) e = Mm.addM (M.pop t [(sF names bad (a + 1), e)]) q' q a := by
    show (match Mm.node M.so e (aN (a : Int)), Mm.node M.so e (aN ((a - 1 : Nat) : Int)), Mm.node M.so e (nmx names a) with
      | some r, some x, some y => Mm.addM (M.pop t [(sF names bad (a + 1), e)]) r x y
      | _, _, _ => none) = _
    rw [node_of A n1 n2, node_of A k1 k2, node_of A (p.nm a h2) ba]
  have iq := A.isV k2
  have ia := A.isV ba
  have vq := A.val k2
  have va := A.val ba
  cases hu : vals u with
  | none =>
    have hd : Mm.doM (M.pop t [(sF names bad (a + 1), e)]) t ⟨[(sF names bad (a + 1), e)], none, none⟩ (.add (aN (a : Int)) (aN ((a - 1 : Nat) : Int)) (nmx names a)) e = some (.wait q) := by
      rw [dm]
      unfold Mm.addM
      rw [hu] at iq
      rw [if_pos (show (M.pop t [(sF names bad (a + 1), e)]).so.isV ((M.pop t [(sF names bad (a + 1), e)]).so.rep q) = true from iq)]
    exact ⟨_, step_eq hT hs hd, ⟨T, vals, _, _, _, rfl, rfl, A, .h (wt := some q) h1 h2 p ⟨q, u, k1, k2, k3, k4, k5⟩ ⟨q', n1, n2, n4⟩ (fun m h => by cases h; exact ⟨u, tag_lt N hu k4 k5, k2⟩), G, fun _ _ => rfl, .inr ⟨rfl, rfl, stuck_of A k2 hu⟩⟩⟩
  | some x =>
    cases ha : vals a with
    | none =>
      have hd : Mm.doM (M.pop t [(sF names bad (a + 1), e)]) t ⟨[(sF names bad (a + 1), e)], none, none⟩ (.add (aN (a : Int)) (aN ((a - 1 : Nat) : Int)) (nmx names a)) e = some (.wait a) := by
        rw [dm]
        unfold Mm.addM
        rw [hu] at iq vq
        rw [ha] at ia
        rw [if_neg (show ¬ (M.pop t [(sF names bad (a + 1), e)]).so.isV ((M.pop t [(sF names bad (a + 1), e)]).so.rep q) = true by rw [show (M.pop t [(sF names bad (a + 1), e)]).so.isV ((M.pop t [(sF names bad (a + 1), e)]).so.rep q) = false from iq]; simp)]
        rw [show Mm.val (M.pop t [(sF names bad (a + 1), e)]).so q = some x from vq]
        simp only
        rw [if_pos (show (M.pop t [(sF names bad (a + 1), e)]).so.isV ((M.pop t [(sF names bad (a + 1), e)]).so.rep a) = true from ia)]
      exact ⟨_, step_eq hT hs hd, ⟨T, vals, _, _, _, rfl, rfl, A, .h (wt := some a) h1 h2 p ⟨q, u, k1, k2, k3, k4, k5⟩ ⟨q', n1, n2, n4⟩ (fun m h => by cases h; exact ⟨a, h2, ba⟩), G, fun _ _ => rfl, .inr ⟨rfl, rfl, stuck_of A ba ha⟩⟩⟩
    | some y =>
      have hx : psum vals a = some x := by rw [← k4, hu]
      have bx := psum_bd a (fun i hi => G.vb i (by omega)) x hx
      have bY := G.vb a h2 y ha
      have hs' : psum vals (a + 1) = some (x + y) := by rw [psum_succ vals h1, hx, ha]
      obtain ⟨g1, g2⟩ := A.give (v := x + y) n2 n4
      have hd : Mm.doM (M.pop t [(sF names bad (a + 1), e)]) t ⟨[(sF names bad (a + 1), e)], none, none⟩ (.add (aN (a : Int)) (aN ((a - 1 : Nat) : Int)) (nmx names a)) e = some (.ok { M.pop t [(sF names bad (a + 1), e)] with so := (M.so.add (.int (x + y))).uni q' M.so.nd.length }) := by
        rw [dm]
        unfold Mm.addM
        rw [hu] at iq vq
        rw [ha] at ia va
        rw [if_neg (show ¬ (M.pop t [(sF names bad (a + 1), e)]).so.isV ((M.pop t [(sF names bad (a + 1), e)]).so.rep q) = true by rw [show (M.pop t [(sF names bad (a + 1), e)]).so.isV ((M.pop t [(sF names bad (a + 1), e)]).so.rep q) = false from iq]; simp)]
        rw [show Mm.val (M.pop t [(sF names bad (a + 1), e)]).so q = some x from vq]
        simp only
        rw [if_neg (show ¬ (M.pop t [(sF names bad (a + 1), e)]).so.isV ((M.pop t [(sF names bad (a + 1), e)]).so.rep a) = true by rw [show (M.pop t [(sF names bad (a + 1), e)]).so.isV ((M.pop t [(sF names bad (a + 1), e)]).so.rep a) = false from ia]; simp)]
        rw [show Mm.val (M.pop t [(sF names bad (a + 1), e)]).so a = some y from va]
        simp only
        rw [if_pos (by omega)]
        unfold Mm.give
        have r : Mm.room M.so = true := decide_eq_true (by omega)
        rw [if_pos (show (Mm.room (M.pop t [(sF names bad (a + 1), e)]).so && Mm.freeB ((M.pop t [(sF names bad (a + 1), e)]).so.add (.int (x + y))) q' (M.pop t [(sF names bad (a + 1), e)]).so.nd.length) = true by
          rw [show Mm.room (M.pop t [(sF names bad (a + 1), e)]).so = true from r, show Mm.freeB ((M.pop t [(sF names bad (a + 1), e)]).so.add (.int (x + y))) q' (M.pop t [(sF names bad (a + 1), e)]).so.nd.length = true from g1]; rfl)]
        rfl
      have upi : ∀ i < names.length, upv vals (names.length + 1 + a) (x + y) i = vals i := fun i hi => upv_ne (by omega)
      have ps' : psum (upv vals (names.length + 1 + a) (x + y)) (a + 1) = some (x + y) := by rw [psum_congr (a + 1) (fun i hi => upi i (by omega)), hs']
      refine ⟨_, step_eq hT hs hd, ⟨T, upv vals (names.length + 1 + a) (x + y), _, _, _, rfl, rfl, g2, .f (a := a + 1) (wt := none) (by omega) (by omega) ⟨p.nm, p.s, p.st, by rw [upv_ne (by omega)]; exact p.sv, by have := p.ln; omega⟩ ⟨q', names.length + 1 + a, ?_, n2, by omega, by rw [upv_same, ps'], .inl (by rw [ps']; rfl)⟩ (fun m h => nomatch h), ⟨G.base, fun x hx => ?_, fun t ht => ?_, fun i hi w hw => ?_⟩, upi, .inl ⟨by omega, ?_⟩⟩⟩
      · rw [show a + 1 - 1 = a by omega]; exact n1
      · have := G.tb x hx; omega
      · rw [upv_ne (by omega)]; exact G.fr t (by omega)
      · rw [upi i hi] at hw; exact G.vb i hi w hw
      · show ((M.so.add (.int (x + y))).uni q' M.so.nd.length).nd.length ≤ _
        rw [So.uni_nd', So.add_len]
        exact Nat.le_refl _
end
end Lw
namespace Lw
open PySem
section
variable {names : List Str} {bad : Option Int} {T : List (Nat × Nat)} {vals : Nat → Option Int} {e0 : Ev}
theorem aE (N : NmOk names) : aN ((names.length : Int) - 1) = aN ((names.length - 1 : Nat) : Int) := by
  have := N.n1
  rw [show ((names.length : Int) - 1) = ((names.length - 1 : Nat) : Int) by omega]
/-- S is bound to the sum -/
theorem bindS (N : NmOk names) {M : Mm} {t : Nat} {e : Ev} {fr : List (Sm × Ev)} {B w w' : Nat} {wt : Option Nat} (hT : M.rows[t]? = some ⟨(bdS names, e) :: fr, wt, none⟩) (hs : Mm.stat M.so ⟨(bdS names, e) :: fr, wt, none⟩ = .ready) (A : AbsS M.so T vals)
    (p : Pre names T vals w' e) (ac : Acc names T vals names.length e) (G : Tg names T vals B) (hB : B = 2 * names.length + 1)
    (k : ∀ T' vals' u, (names.length, u) ∈ T' → vals' u = psum vals' names.length → ((psum vals' names.length).isSome = true ∨ (names.length = 1 ∧ u = 0)) → psum vals' names.length = psum vals names.length → ∃ w2, w2 < w ∧ SumAt names bad e0 T' vals' w2 (2 * names.length + 1) ⟨fr, none, none⟩) :
    ∃ M', M.stepM t = some M' ∧ Out names bad e0 M t vals w M' := by
  obtain ⟨q, u, k1, k2, k3, k4, k5⟩ := ac
  have nn := N.n1
  have f := A.free p.st p.sv q
  have hd := bind_eq (M := M) (t := t) (fr := fr) (x := "S") (y := aN ((names.length : Int) - 1)) (node_of A p.s p.st) (by rw [aE N]; exact node_of A k1 k2) f.1
  have len : (M.so.uni names.length q).nd.length = M.so.nd.length := by rw [So.uni_nd']
  cases hu : vals u with
  | some x =>
    have A' := A.uniB p.st k2 p.sv hu
    have upi : ∀ i < names.length, upv vals names.length x i = vals i := fun i hi => upv_ne (by omega)
    have ps : psum (upv vals names.length x) names.length = psum vals names.length := psum_congr _ upi
    obtain ⟨w2, hw, s⟩ := k T (upv vals names.length x) names.length p.st (by rw [upv_same, ps, ← k4, hu]) (.inl (by rw [ps, ← k4, hu]; rfl)) ps
    refine ⟨_, step_eq hT hs hd, ⟨T, upv vals names.length x, _, _, _, rfl, rfl, A', s, ⟨G.base, fun y hy => by have := G.tb y hy; omega, fun t ht => ?_, fun i hi w hw => ?_⟩, upi, .inl ⟨hw, ?_⟩⟩⟩
    · rw [upv_ne (by omega)]; exact G.fr t (by omega)
    · rw [upi i hi] at hw; exact G.vb i hi w hw
    · show (M.so.uni names.length q).nd.length ≤ _; rw [len]; omega
  | none =>
    have h1 : names.length = 1 ∧ u = 0 := by
      rcases k5 with h | h
      · rw [← k4, hu] at h; cases h
      · exact h
    have A' := A.uniV p.st k2 p.sv hu (Ne.symm k3)
    obtain ⟨w2, hw, s⟩ := k (reT names.length u T) vals u (mem_reT' p.st) k4 (.inr h1) rfl
    refine ⟨_, step_eq hT hs hd, ⟨_, vals, _, _, _, rfl, rfl, A', s, ⟨fun i hi => mem_reT (G.base i hi) (by show i ≠ _; omega), reT_lt (fun y hy => by have := G.tb y hy; omega) (by omega), fun t ht => G.fr t (by omega), G.vb⟩, fun _ _ => rfl, .inl ⟨hw, ?_⟩⟩⟩
    show (M.so.uni names.length q).nd.length ≤ _; rw [len]; omega
theorem step_fn (N : NmOk names) {M : Mm} {t : Nat} {e : Ev} {wt : Option Nat} (hT : M.rows[t]? = some ⟨[(sF names bad names.length, e)], wt, none⟩) (hs : Mm.stat M.so ⟨[(sF names bad names.length, e)], wt, none⟩ = .ready) (A : AbsS M.so T vals)
    (p : Pre names T vals 7 e) (ac : Acc names T vals names.length e) (G : Tg names T vals (2 * names.length + 1)) : ∃ M', M.stepM t = some M' ∧ Out names bad e0 M t vals 7 M' := by
  rw [sF_end] at hT hs
  have nn := N.n1
  cases bad with
  | none =>
    exact bindS (w' := 7) N hT hs A p ac G rfl fun T' vals' u h1 h2 h3 h4 => ⟨0, by decide, .dn h1 h2 h3 (fun b hb => nomatch hb)⟩
  | some b =>
    obtain ⟨q, u, k1, k2, k3, k4, k5⟩ := id ac
    have nq : Mm.node M.so e (aN ((names.length : Int) - 1)) = some q := by rw [aE N]; exact node_of A k1 k2
    have iq := A.isV k2
    have vq := A.val k2
    cases hu : vals u with
    | none =>
      have hd : Mm.doM (M.pop t []) t ⟨[], none, none⟩ (sum0 names.length (some b)) e = some (.wait q) := by
        show (match Mm.node M.so e (aN ((names.length : Int) - 1)) with
          | some c => if M.so.isV (M.so.rep c) = true then some (Mm.Res.wait c) else match Mm.val M.so c with
            | some v => Mm.push (M.pop t []) t ⟨[], none, none⟩ [(if v = b then _ else _, e)]
            | none => none
          | none => none) = _
        rw [nq]
        simp only
        rw [hu] at iq
        rw [if_pos (show M.so.isV (M.so.rep q) = true from iq)]
      have h1 : names.length = 1 ∧ u = 0 := by
        rcases k5 with h | h
        · rw [← k4, hu] at h; cases h
        · exact h
      refine ⟨_, step_eq hT hs hd, ⟨T, vals, _, 2 * names.length + 1, ⟨[(sF names (some b) names.length, e)], some q, none⟩, by rw [sF_end]; rfl, rfl, A, ?_, G, fun _ _ => rfl, .inr ⟨rfl, rfl, stuck_of A k2 hu⟩⟩⟩
      have := SumAt.f (names := names) (bad := some b) (e0 := e0) (wt := some q) nn (Nat.le_refl _) (by rw [Nat.sub_self]; exact p) ac (fun m h => by cases h; exact ⟨u, tag_lt N hu k4 k5, k2⟩)
      rw [Nat.sub_self, show names.length + 1 + names.length = 2 * names.length + 1 by omega] at this
      exact this
    | some x =>
      have hx : psum vals names.length = some x := by rw [← k4, hu]
      have hd : ∀ s, (if x = b then Sm.seq (bdS names) (.rai "S") else bdS names) = s → Mm.doM (M.pop t []) t ⟨[], none, none⟩ (sum0 names.length (some b)) e = some (.ok ((M.pop t []).row t ⟨[(s, e)], none, none⟩)) := fun s es => by
        show (match Mm.node M.so e (aN ((names.length : Int) - 1)) with
          | some c => if M.so.isV (M.so.rep c) = true then some (Mm.Res.wait c) else match Mm.val M.so c with
            | some v => Mm.push (M.pop t []) t ⟨[], none, none⟩ [(if v = b then Sm.seq (bdS names) (.rai "S") else bdS names, e)]
            | none => none
          | none => none) = _
        rw [nq]
        simp only
        rw [hu] at iq vq
        rw [if_neg (show ¬ M.so.isV (M.so.rep q) = true by rw [show M.so.isV (M.so.rep q) = false from iq]; simp), show Mm.val M.so q = some x from vq]
        simp only
        rw [es, push_eq (by simp)]
        rfl
      by_cases hb : x = b
      · refine ⟨_, step_eq hT hs (hd _ (if_pos hb)), ⟨T, vals, _, _, _, List.set_set .., rfl, A, .c1 (b := b) rfl (by rw [hx, hb]) ⟨p.nm, p.s, p.st, p.sv, by have := p.ln; omega⟩ ac, G, fun _ _ => rfl, .inl ⟨by decide, Nat.le_succ _⟩⟩⟩
      · refine ⟨_, step_eq hT hs (hd _ (if_neg hb)), ⟨T, vals, _, _, _, List.set_set .., rfl, A, .c4 (b := b) rfl (by rw [hx]; rfl) (by rw [hx]; intro z; cases z; exact hb rfl) ⟨p.nm, p.s, p.st, p.sv, by have := p.ln; omega⟩ ac, G, fun _ _ => rfl, .inl ⟨by decide, Nat.le_succ _⟩⟩⟩
theorem step_c3 {M : Mm} {t u : Nat} {e : Ev} {b : Int} (hT : M.rows[t]? = some ⟨[(.rai "S", e)], none, none⟩) (hs : Mm.stat M.so ⟨[(.rai "S", e)], none, none⟩ = .ready) (A : AbsS M.so T vals) (hb : bad = some b) (h1 : psum vals names.length = some b) (h2 : e.get "S" = some names.length) (h3 : (names.length, u) ∈ T)
    (G : Tg names T vals (2 * names.length + 1)) : ∃ M', M.stepM t = some M' ∧ Out names bad e0 M t vals 4 M' := by
  have hd : Mm.doM (M.pop t []) t ⟨[], none, none⟩ (.rai "S") e = some (.rai names.length) := by
    show (match Mm.node M.so e "S" with
      | some a => some (Mm.Res.rai a)
      | none => none) = _
    rw [node_of A h2 h3]
  exact ⟨_, step_eq hT hs hd, ⟨T, vals, _, _, _, rfl, rfl, A, .br hb h1, G, fun _ _ => rfl, .inl ⟨by decide, Nat.le_succ _⟩⟩⟩
/-- a step of the sum thread -/
theorem sum_step (N : NmOk names) {M : Mm} {t w B : Nat} {Th : Th} (hT : M.rows[t]? = some Th) (hs : Mm.stat M.so Th = .ready) (A : AbsS M.so T vals) (s : SumAt names bad e0 T vals w B Th) (G : Tg names T vals B) (hz : M.so.nd.length ≤ 1500) :
    ∃ M', M.stepM t = some M' ∧ Out names bad e0 M t vals w M' := by
  have nn := N.n1
  cases s with
  | s0 p => exact step_s0 N hT hs A p G hz
  | s1 p n => exact step_s1 N hT hs A p n G
  | s2 p n => exact step_s2 N hT hs A p n G
  | @f a e wt h1 h2 p ac hw =>
    by_cases c : a < names.length
    · exact step_f N h1 c hT hs A p ac G hz
    · have ea : a = names.length := by omega
      subst ea
      rw [Nat.sub_self] at p ⊢
      rw [show names.length + 1 + names.length = 2 * names.length + 1 by omega] at G
      exact step_fn N hT hs A p ac G
  | g h1 h2 p ac n => exact step_g N h1 h2 hT hs A p ac n G
  | h h1 h2 p ac n hw => exact step_h N h1 h2 hT hs A p ac n G hz
  | @c1 e b hb h1 p ac =>
    have hd := seq_eq (M := M) (t := t) (fr := []) (a := bdS names) (b := .rai "S") (e := e) (by simp)
    exact ⟨_, step_eq hT hs hd, ⟨_, vals, _, _, _, List.set_set .., rfl, A, .c2 hb h1 ⟨p.nm, p.s, p.st, p.sv, by have := p.ln; omega⟩ ac, G, fun _ _ => rfl, .inl ⟨by decide, Nat.le_succ _⟩⟩⟩
  | @c2 e b hb h1 p ac => exact bindS (w' := 5) N hT hs A p ac G rfl fun T' vals' u k1 k2 k3 k4 => ⟨4, by decide, .c3 hb (by rw [k4]; exact h1) p.s k1⟩
  | c3 hb h1 h2 h3 => exact step_c3 hT hs A hb h1 h2 h3 G
  | @c4 e b hb h1 h2 p ac => exact bindS (w' := 3) N hT hs A p ac G rfl fun T' vals' u k1 k2 k3 k4 => ⟨0, by decide, .dn k1 k2 k3 fun b' hb' => by
      rw [hb] at hb'
      cases hb'
      rw [k4]
      exact ⟨h1, h2⟩⟩
  | dn _ _ _ _ => simp [Mm.stat] at hs
  | br _ _ => simp [Mm.stat] at hs
end
end Lw
namespace Lw
open PySem
def chT (e0 : Ev) (x : Str) (c : List Int × Bool) : Th := if c.2 then ⟨[], none, none⟩ else ⟨[(chn x c.1, e0)], none, none⟩
/-- the thread of the j-th chain: the sum's thread stands behind the first p chains -/
def pos (p j : Nat) : Nat := if j < p then j + 1 else j + 2
def undone (chs : List (List Int × Bool)) : Nat := (chs.filter fun c => !c.2).length
structure ChOk (names : List Str) (vals : Nat → Option Int) (x : Str) (c : List Int × Bool) : Prop where
  ne : c.1 ≠ []
  ln : c.1.length ≤ 4
  bd : ∀ v ∈ c.1, 0 ≤ v ∧ v ≤ 5
  dn : c.2 = true → ∃ v, c.1 = [v] ∧ vals (names.idxOf x) = some v
  un : c.2 = false → vals (names.idxOf x) = none
/-- the machine when thread 0 is done -/
structure Ph2 (names order : List Str) (bad : Option Int) (p : Nat) (e0 : Ev) (chs : List (List Int × Bool)) (mu : Nat) (M : Mm) : Prop where
  ex : ∃ T vals w B Ts, AbsS M.so T vals ∧ Tg names T vals B ∧ SumAt names bad e0 T vals w B Ts ∧ M.rows[p + 1]? = some Ts ∧
    (∀ (j : Nat) (x : Str) (c : List Int × Bool), order[j]? = some x → chs[j]? = some c → ChOk names vals x c) ∧ mu = 2 * (w + undone chs) + (if Mm.stuck M.so Ts then 0 else 1) ∧ M.so.nd.length + (w + undone chs) ≤ 1000
  gv : M.gv = List.range (names.length + 1)
  rl : M.rows.length = names.length + 2
  r0 : M.rows[0]? = some ⟨[], none, none⟩
  cl : chs.length = order.length
  rc : ∀ (j : Nat) (x : Str) (c : List Int × Bool), order[j]? = some x → chs[j]? = some c → M.rows[pos p j]? = some (chT e0 x c)
/-- names, their order, the first env -/
structure Set0 (names order : List Str) (p : Nat) (e0 : Ev) : Prop where
  N : NmOk names
  pm : order.Perm names
  pl : p ≤ names.length
  ev : ∀ i, i < names.length → e0.get (nmx names i) = some i
theorem undone_set : ∀ (chs : List (List Int × Bool)) (j : Nat) (vs : List Int), chs[j]? = some (vs, false) → undone (chs.set j (vs, true)) + 1 = undone chs
  | [], j, vs, h => by simp at h
  | c :: r, 0, vs, h => by
    simp at h
    subst h
    simp [undone]
  | c :: r, j + 1, vs, h => by
    have ih := undone_set r j vs (by simpa using h)
    unfold undone at ih ⊢
    rw [List.set_cons_succ, List.filter_cons, List.filter_cons]
    split
    · simp only [List.length_cons]; omega
    · exact ih
theorem pos_inj {p i j : Nat} (h : pos p i = pos p j) : i = j := by
  unfold pos at h
  split at h <;> split at h <;> omega
theorem pos_ne {p j : Nat} : pos p j ≠ p + 1 := by
  unfold pos
  split <;> omega
theorem pos_pos {p j : Nat} : pos p j ≠ 0 := by
  unfold pos
  split <;> omega
theorem pos_of {p n t : Nat} (hp : p ≤ n) (h : t < n + 2) (h0 : t ≠ 0) (h1 : t ≠ p + 1) : ∃ j, j < n ∧ t = pos p j := by
  by_cases c : t < p + 1
  · exact ⟨t - 1, by omega, by unfold pos; rw [if_pos (by omega)]; omega⟩
  · exact ⟨t - 2, by omega, by unfold pos; rw [if_neg (by omega)]; omega⟩
section
variable {names order : List Str} {bad : Option Int} {p : Nat} {e0 : Ev} {chs : List (List Int × Bool)} {mu : Nat} {M : Mm}
theorem Set0.ol (Z : Set0 names order p e0) : order.length = names.length := Z.pm.length_eq
theorem Set0.idx (Z : Set0 names order p e0) {j : Nat} {x : Str} (h : order[j]? = some x) : names.idxOf x < names.length ∧ nmx names (names.idxOf x) = x := by
  have hx : x ∈ names := Z.pm.mem_iff.mp (List.mem_of_getElem? h)
  have hl := List.idxOf_lt_length_of_mem hx
  refine ⟨hl, ?_⟩
  unfold nmx
  rw [List.getD_eq_getElem?_getD, List.getElem?_eq_getElem hl]
  simp
theorem Set0.inj (Z : Set0 names order p e0) {i j : Nat} {x y : Str} (hi : order[i]? = some x) (hj : order[j]? = some y) (h : names.idxOf x = names.idxOf y) : i = j := by
  have e : x = y := by rw [← (Z.idx hi).2, ← (Z.idx hj).2, h]
  subst e
  have nd : order.Nodup := Z.pm.nodup_iff.mpr Z.N.nd
  obtain ⟨h1, e1⟩ := List.getElem?_eq_some_iff.mp hi
  obtain ⟨h2, e2⟩ := List.getElem?_eq_some_iff.mp hj
  exact (List.getElem_inj nd).mp (e1.trans e2.symm)
/-- a step of the sum's thread -/
theorem Ph2.stepS (Z : Set0 names order p e0) (h : Ph2 names order bad p e0 chs mu M) {Th : Th} (hT : M.rows[p + 1]? = some Th) (hs : Mm.stat M.so Th = .ready) : ∃ M' mu', M.stepM (p + 1) = some M' ∧ mu' < mu ∧ Ph2 names order bad p e0 chs mu' M' := by
  obtain ⟨T, vals, w, B, Ts, A, G, s, hr, hc, hm, hn⟩ := h.ex
  obtain rfl : Ts = Th := by rw [hr] at hT; exact Option.some.inj hT
  obtain ⟨M', hst, ⟨T', vals', w', B', Th', o1, o2, o3, o4, o5, o6, o7⟩⟩ := sum_step Z.N hr hs A s G (by omega)
  have ns : Mm.stuck M.so Ts = false := by
    cases q : Mm.stuck M.so Ts with
    | false => rfl
    | true =>
      obtain ⟨fr, wt, ra⟩ := Ts
      obtain ⟨e1, f, fr', e2⟩ := stat_ready hs
      replace e1 : ra = none := e1
      replace e2 : fr = f :: fr' := e2
      subst e1 e2
      exfalso
      by_cases c : f.1.isCho = true
      · simp [Mm.stat, c] at hs
      · simp [Mm.stat, c, q] at hs
  rw [ns] at hm
  have hp1 : p + 1 < M.rows.length := by rw [h.rl]; have := Z.pl; omega
  refine ⟨M', _, hst, ?_, ⟨⟨T', vals', w', B', Th', o3, o5, o4, by rw [o1, List.getElem?_set_self hp1], fun j x c hx hcj => ?_, rfl, ?_⟩, by rw [o2]; exact h.gv, by rw [o1, List.length_set]; exact h.rl, by rw [o1, List.getElem?_set_ne (by omega)]; exact h.r0, h.cl, fun j x c hx hcj => by rw [o1, List.getElem?_set_ne (Ne.symm pos_ne)]; exact h.rc j x c hx hcj⟩⟩
  · rw [hm]
    rcases o7 with ⟨q1, _⟩ | ⟨q1, _, q3⟩
    · split <;> simp <;> omega
    · rw [q3, q1]; simp
  · have k := hc j x c hx hcj
    have ix := (Z.idx hx).1
    exact ⟨k.ne, k.ln, k.bd, fun z => by rw [o6 _ ix]; exact k.dn z, fun z => by rw [o6 _ ix]; exact k.un z⟩
  · rcases o7 with ⟨q1, q2⟩ | ⟨q1, q2, _⟩
    · omega
    · rw [q1, q2]; exact hn
/-- a step of a chain that has one value left -/
theorem Ph2.stepC (Z : Set0 names order p e0) (h : Ph2 names order bad p e0 chs mu M) {j : Nat} {x : Str} {c : List Int × Bool} (hx : order[j]? = some x) (hcj : chs[j]? = some c) (hs : Mm.stat M.so (chT e0 x c) = .ready) :
    ∃ M' mu' v, c = ([v], false) ∧ M.stepM (pos p j) = some M' ∧ mu' < mu ∧ Ph2 names order bad p e0 (chs.set j ([v], true)) mu' M' := by
  obtain ⟨T, vals, w, B, Ts, A, G, s, hr, hc, hm, hn⟩ := h.ex
  have k := hc j x c hx hcj
  have hT := h.rc j x c hx hcj
  obtain ⟨ix, ex⟩ := Z.idx hx
  obtain ⟨vs, dn⟩ := c
  have d0 : dn = false := by
    cases dn with
    | false => rfl
    | true => simp [chT, Mm.stat] at hs
  subst d0
  have ht : chT e0 x (vs, false) = ⟨[(chn x vs, e0)], none, none⟩ := rfl
  rw [ht] at hT hs
  have hv : ∃ v, vs = [v] := by
    match vs, k.ne, hs with
    | [], ne, _ => exact absurd rfl ne
    | [v], _, _ => exact ⟨v, rfl⟩
    | v :: u :: r, _, hs => simp [chn, Mm.stat, Sm.isCho] at hs
  obtain ⟨v, rfl⟩ := hv
  have un := k.un rfl
  have bI := G.base _ ix
  obtain ⟨g1, g2⟩ := A.give (v := v) bI un
  have hj : j < chs.length := (List.getElem?_eq_some_iff.mp hcj).1
  have hd : Mm.doM (M.pop (pos p j) []) (pos p j) ⟨[], none, none⟩ (.int x v) e0 = some (.ok { M.pop (pos p j) [] with so := (M.so.add (.int v)).uni (names.idxOf x) M.so.nd.length }) := by
    show (match Mm.node M.so e0 x with
      | some a => Mm.give (M.pop (pos p j) []) a (.int v)
      | none => none) = _
    have en : e0.get x = some (names.idxOf x) := by rw [← Z.ev _ ix, ex]
    rw [node_of A en bI]
    simp only
    unfold Mm.give
    have r : Mm.room M.so = true := decide_eq_true (by omega)
    rw [if_pos (show (Mm.room (M.pop (pos p j) []).so && Mm.freeB ((M.pop (pos p j) []).so.add (.int v)) (names.idxOf x) (M.pop (pos p j) []).so.nd.length) = true by
      rw [show Mm.room (M.pop (pos p j) []).so = true from r, show Mm.freeB ((M.pop (pos p j) []).so.add (.int v)) (names.idxOf x) (M.pop (pos p j) []).so.nd.length = true from g1]; rfl)]
    rfl
  have us := undone_set chs j [v] hcj
  have hpj : pos p j < M.rows.length := (List.getElem?_eq_some_iff.mp hT).1
  have len : ((M.so.add (.int v)).uni (names.idxOf x) M.so.nd.length).nd.length = M.so.nd.length + 1 := by rw [So.uni_nd', So.add_len]
  refine ⟨_, _, v, rfl, step_eq hT hs hd, ?_, ⟨⟨T, upv vals (names.idxOf x) v, w, B, Ts, g2, ⟨G.base, G.tb, fun t ht => ?_, fun i hi u hu => ?_⟩, s.upv Z.N ix un, ?_, fun i y c' hy hci => ?_, rfl, ?_⟩, h.gv, by show (M.rows.set _ _).length = _; rw [List.length_set]; exact h.rl, ?_, by rw [List.length_set]; exact h.cl, fun i y c' hy hci => ?_⟩⟩
  · rw [hm]
    split <;> split <;> omega
  · rw [upv_ne]
    · exact G.fr t ht
    · intro z
      have := G.tb _ bI
      replace this : names.idxOf x < B := this
      omega
  · by_cases q : i = names.idxOf x
    · rw [q, upv_same] at hu
      cases hu
      exact k.bd v (by simp)
    · rw [upv_ne q] at hu; exact G.vb i hi u hu
  · show (M.rows.set (pos p j) _)[p + 1]? = _
    rw [List.getElem?_set_ne pos_ne]; exact hr
  · by_cases q : i = j
    · subst q
      rw [List.getElem?_set_self hj] at hci
      cases hci
      rw [hx] at hy
      cases hy
      exact ⟨by simp, by simp, k.bd, fun _ => ⟨v, rfl, upv_same⟩, fun z => nomatch z⟩
    · rw [List.getElem?_set_ne (Ne.symm q)] at hci
      have k' := hc i y c' hy hci
      have ne : names.idxOf y ≠ names.idxOf x := fun z => q (Z.inj hy hx z)
      exact ⟨k'.ne, k'.ln, k'.bd, fun z => by rw [upv_ne ne]; exact k'.dn z, fun z => by rw [upv_ne ne]; exact k'.un z⟩
  · show ((M.so.add (.int v)).uni (names.idxOf x) M.so.nd.length).nd.length + _ ≤ 1000
    rw [len]; omega
  · show (M.rows.set (pos p j) _)[0]? = _
    rw [List.getElem?_set_ne pos_pos]; exact h.r0
  · show (M.rows.set (pos p j) _)[pos p i]? = _
    by_cases q : i = j
    · subst q
      rw [List.getElem?_set_self hj] at hci
      cases hci
      rw [List.getElem?_set_self hpj]
      rfl
    · rw [List.getElem?_set_ne (Ne.symm q)] at hci
      rw [List.getElem?_set_ne (fun z => q (pos_inj z).symm)]
      exact h.rc i y c' hy hci
end
end Lw
namespace Lw
open PySem
theorem ready_mem {M : Mm} {t : Nat} (h : t ∈ M.readyL) : ∃ T, M.rows[t]? = some T ∧ Mm.stat M.so T = .ready := by
  unfold Mm.readyL at h
  obtain ⟨h1, h2⟩ := List.mem_filter.mp h
  have hl : t < M.rows.length := List.mem_range.mp h1
  have e : M.rows[t]? = some M.rows[t] := List.getElem?_eq_getElem hl
  rw [e] at h2
  exact ⟨_, e, by simpa using h2⟩
theorem ready_nil {M : Mm} (h : M.readyL = []) {t : Nat} {T : Th} (hT : M.rows[t]? = some T) : Mm.stat M.so T ≠ .ready := fun e => by
  have hl := (List.getElem?_eq_some_iff.mp hT).1
  have : t ∈ M.readyL := by
    unfold Mm.readyL
    refine List.mem_filter.mpr ⟨List.mem_range.mpr hl, ?_⟩
    rw [hT]
    simp [e]
  rw [h] at this
  cases this
section
variable {names order : List Str} {bad : Option Int} {p : Nat} {e0 : Ev}
theorem Ph2.step (Z : Set0 names order p e0) {chs : List (List Int × Bool)} {mu : Nat} {M : Mm} (h : Ph2 names order bad p e0 chs mu M) {t : Nat} (ht : t ∈ M.readyL) :
    ∃ M' mu' chs', M.stepM t = some M' ∧ mu' < mu ∧ Ph2 names order bad p e0 chs' mu' M' ∧ chs'.map Prod.fst = chs.map Prod.fst := by
  obtain ⟨Th, hT, hs⟩ := ready_mem ht
  have hl : t < names.length + 2 := by rw [← h.rl]; exact (List.getElem?_eq_some_iff.mp hT).1
  by_cases h0 : t = 0
  · rw [h0, h.r0] at hT
    cases hT
    simp [Mm.stat] at hs
  by_cases h1 : t = p + 1
  · subst h1
    obtain ⟨M', mu', k1, k2, k3⟩ := h.stepS Z hT hs
    exact ⟨M', mu', chs, k1, k2, k3, rfl⟩
  obtain ⟨j, hj, rfl⟩ := pos_of Z.pl hl h0 h1
  have hjo : j < order.length := by rw [Z.ol]; exact hj
  have hx : order[j]? = some order[j] := List.getElem?_eq_getElem hjo
  have hjc : j < chs.length := by rw [h.cl]; exact hjo
  have hc : chs[j]? = some chs[j] := List.getElem?_eq_getElem hjc
  have hr := h.rc j _ _ hx hc
  rw [hr] at hT
  cases hT
  obtain ⟨M', mu', v, k0, k1, k2, k3⟩ := h.stepC Z hx hc hs
  refine ⟨M', mu', _, k1, k2, k3, ?_⟩
  rw [List.map_set]
  refine List.ext_getElem? fun i => ?_
  by_cases q : i = j
  · subst q
    rw [List.getElem?_set_self (by rw [List.length_map]; exact hjc), List.getElem?_map, hc, k0]
    rfl
  · rw [List.getElem?_set_ne (Ne.symm q)]
theorem Ph2.run (Z : Set0 names order p e0) : ∀ (mu : Nat) (M : Mm) (chs : List (List Int × Bool)), Ph2 names order bad p e0 chs mu M →
    ∃ k M' chs' mu', k ≤ mu ∧ Mm.Runs k M M' ∧ Ph2 names order bad p e0 chs' mu' M' ∧ chs'.map Prod.fst = chs.map Prod.fst := by
  intro mu
  induction mu using Nat.strongRecOn with
  | ind mu ih =>
    intro M chs h
    cases e : M.readyL with
    | nil => exact ⟨0, M, chs, mu, Nat.zero_le _, .done e, h, rfl⟩
    | cons t r =>
      obtain ⟨M1, mu1, chs1, k1, k2, k3, k4⟩ := h.step Z (t := t) (by rw [e]; simp)
      obtain ⟨k, M', chs', mu', j1, j2, j3, j4⟩ := ih mu1 k2 M1 chs1 k3
      exact ⟨k + 1, M', chs', mu', by omega, .step e k1 j2, j3, j4.trans k4⟩
theorem Ph2.bd {chs : List (List Int × Bool)} {mu : Nat} {M : Mm} (h : Ph2 names order bad p e0 chs mu M) : mu ≤ 2001 := by
  obtain ⟨T, vals, w, B, Ts, A, G, s, hr, hc, hm, hn⟩ := h.ex
  rw [hm]
  split <;> omega
/-- the choice of the chain j -/
theorem Ph2.choose (Z : Set0 names order p e0) {chs : List (List Int × Bool)} {mu : Nat} {M : Mm} (h : Ph2 names order bad p e0 chs mu M) {j : Nat} {x : Str} {v u : Int} {r : List Int} {d : Bool} (hx : order[j]? = some x) (hc : chs[j]? = some (v :: u :: r, d)) (b : Bool) :
    ∃ M' , M.choM (pos p j) b = some M' ∧ Ph2 names order bad p e0 (chs.set j (if b then u :: r else [v], false)) mu M' := by
  obtain ⟨T, vals, w, B, Ts, A, G, s, hr, hch, hm, hn⟩ := h.ex
  have k := hch j x _ hx hc
  have hT := h.rc j x _ hx hc
  have d0 : d = false := by
    cases d with
    | false => rfl
    | true => obtain ⟨w, e, _⟩ := k.dn rfl; cases e
  subst d0
  have hj : j < chs.length := (List.getElem?_eq_some_iff.mp hc).1
  have hpj : pos p j < M.rows.length := (List.getElem?_eq_some_iff.mp hT).1
  have ht : chT e0 x (v :: u :: r, false) = ⟨[(.cho (.int x v) (chn x (u :: r)), e0)], none, none⟩ := rfl
  rw [ht] at hT
  have hu : undone (chs.set j (if b then u :: r else [v], false)) = undone chs := by
    have aux : ∀ (cs : List (List Int × Bool)) (j : Nat) (a a' : List Int), cs[j]? = some (a, false) → undone (cs.set j (a', false)) = undone cs := by
      intro cs
      induction cs with
      | nil => intro j a a' h; simp at h
      | cons c cs ih =>
        intro j a a' h
        cases j with
        | zero =>
          simp at h
          subst h
          simp [undone]
        | succ j =>
          have := ih j a a' (by simpa using h)
          unfold undone at this ⊢
          rw [List.set_cons_succ, List.filter_cons, List.filter_cons]
          split
          · simp only [List.length_cons]; omega
          · exact this
    exact aux chs j _ _ hc
  refine ⟨M.row (pos p j) ⟨[((if b then chn x (u :: r) else .int x v), e0)], none, none⟩, ?_, ⟨⟨T, vals, w, B, Ts, A, G, s, ?_, fun i y c' hy hci => ?_, by rw [hu]; exact hm, by rw [hu]; exact hn⟩, h.gv, by show (M.rows.set _ _).length = _; rw [List.length_set]; exact h.rl, ?_, by rw [List.length_set]; exact h.cl, fun i y c' hy hci => ?_⟩⟩
  · unfold Mm.choM
    rw [hT]
  · show (M.rows.set (pos p j) _)[p + 1]? = _
    rw [List.getElem?_set_ne pos_ne]; exact hr
  · by_cases q : i = j
    · subst q
      rw [List.getElem?_set_self hj] at hci
      cases hci
      rw [hx] at hy
      cases hy
      have l4 := k.ln
      refine ⟨(by cases b <;> simp), (by cases b <;> simp at l4 ⊢ <;> omega), fun z hz => k.bd z ?_, (fun z => nomatch z), fun _ => k.un rfl⟩
      cases b with
      | true => exact List.mem_cons_of_mem _ hz
      | false => rw [List.mem_singleton.mp hz]; simp
    · rw [List.getElem?_set_ne (Ne.symm q)] at hci
      exact hch i y c' hy hci
  · show (M.rows.set (pos p j) _)[0]? = _
    rw [List.getElem?_set_ne pos_pos]; exact h.r0
  · show (M.rows.set (pos p j) _)[pos p i]? = _
    by_cases q : i = j
    · subst q
      rw [List.getElem?_set_self hj] at hci
      cases hci
      rw [List.getElem?_set_self hpj]
      rw [hx] at hy
      cases hy
      cases b <;> rfl
    · rw [List.getElem?_set_ne (Ne.symm q)] at hci
      rw [List.getElem?_set_ne (fun z => q (pos_inj z).symm)]
      exact h.rc i y c' hy hci
end
end Lw
namespace Lw
open PySem PySem.Spec PyProof.Rows L2
theorem Mm.has_iff {M : Mm} {s : Ss} : M.has s.str = true ↔ ∃ T ∈ M.rows, Mm.stat M.so T = s := by
  unfold Mm.has inV stS
  rw [List.any_map, List.any_eq_true]
  refine ⟨fun ⟨T, h1, h2⟩ => ⟨T, h1, ?_⟩, fun ⟨T, h1, h2⟩ => ⟨T, h1, ?_⟩⟩
  · have h2 : eqV (.str (Mm.stat M.so T).str) (.str s.str) = true := h2
    rw [eqV_str] at h2
    exact Ss.str_inj (of_decide_eq_true h2)
  · show eqV (.str (Mm.stat M.so T).str) (.str s.str) = true
    rw [eqV_str, h2]
    simp
theorem stS_at {M : Mm} {t : Nat} {T : Th} {s : Ss} (h : M.rows[t]? = some T) : (stS M)[t]? = some (.str s.str) ↔ Mm.stat M.so T = s := by
  unfold stS
  rw [List.getElem?_map, h]
  simp only [Option.map_some, Option.some.injEq]
  refine ⟨fun z => Ss.str_inj ?_, fun z => by rw [z]⟩
  injection z
section
variable {M : Mm}
theorem ask_of (hr : M.readyL = []) : M.ask = (if M.has Ss.broken.str = true then ("failed" : Str) else if M.has Ss.choosing.str = true then ("choosing" : Str) else if M.has Ss.waiting.str = true then ("waiting" : Str) else ("done" : Str) : Str) := by
  unfold Mm.ask
  rw [if_neg]
  · rfl
  intro h
  have h : M.has Ss.ready.str = true := h
  obtain ⟨T, h1, h2⟩ := Mm.has_iff.mp h
  obtain ⟨t, ht⟩ := List.mem_iff_getElem?.mp h1
  exact ready_nil hr ht h2
theorem ask_br (hr : M.readyL = []) (h : ∃ T ∈ M.rows, Mm.stat M.so T = .broken) : M.ask = "failed" := by
  rw [ask_of hr, if_pos (show M.has Ss.broken.str = true from Mm.has_iff.mpr h)]
theorem ask_ch (hr : M.readyL = []) (h : ¬ ∃ T ∈ M.rows, Mm.stat M.so T = .broken) (h2 : ∃ T ∈ M.rows, Mm.stat M.so T = .choosing) : M.ask = "choosing" := by
  rw [ask_of hr, if_neg (show ¬ M.has Ss.broken.str = true from fun z => h (Mm.has_iff.mp z)), if_pos (show M.has Ss.choosing.str = true from Mm.has_iff.mpr h2)]
theorem ask_dn (hr : M.readyL = []) (h : ∀ T ∈ M.rows, Mm.stat M.so T = .done) : M.ask = "done" := by
  have n : ∀ s : Ss, s ≠ .done → ¬ M.has s.str = true := fun s hs z => by
    obtain ⟨T, h1, h2⟩ := Mm.has_iff.mp z
    exact hs (h2.symm.trans (h T h1))
  rw [ask_of hr, if_neg (n .broken (by decide)), if_neg (n .choosing (by decide)), if_neg (n .waiting (by decide))]
end
theorem stat_nc {S : So} {f : Sm × Ev} {fr : List (Sm × Ev)} {wt : Option Nat} (h : f.1.isCho = false) : Mm.stat S ⟨f :: fr, wt, none⟩ = if Mm.stuck S ⟨f :: fr, wt, none⟩ then .waiting else .ready := by
  unfold Mm.stat
  simp only
  rw [h]
  rfl
theorem chT_dn {e0 : Ev} {x : Str} {vs : List Int} {S : So} : Mm.stat S (chT e0 x (vs, true)) = .done := rfl
theorem chT_1 {e0 : Ev} {x : Str} {v : Int} {S : So} : Mm.stat S (chT e0 x ([v], false)) = .ready := rfl
theorem chT_2 {e0 : Ev} {x : Str} {v u : Int} {r : List Int} {S : So} : Mm.stat S (chT e0 x (v :: u :: r, false)) = .choosing := rfl
/-- the value that a chain has come to -/
def vl (order : List Str) (chs : List (List Int × Bool)) (x : Str) : Int := ((chs.getD (order.idxOf x) ([], false)).1).headD 0
def isum (l : List Int) : Int := l.foldl (· + ·) 0
theorem foldl_add (l : List Int) : ∀ a : Int, l.foldl (· + ·) a = a + isum l := by
  induction l with
  | nil => intro a; simp [isum]
  | cons b l ih =>
    intro a
    have e : isum (b :: l) = b + isum l := by
      unfold isum
      rw [List.foldl_cons, ih (0 + b)]
      unfold isum
      omega
    rw [List.foldl_cons, ih (a + b), e]
    omega
theorem isum_snoc (l : List Int) (a : Int) : isum (l ++ [a]) = isum l + a := by
  unfold isum
  rw [List.foldl_append]
  rfl
theorem psum_isum {vals : Nat → Option Int} {zs : List Int} : ∀ a, 1 ≤ a → a ≤ zs.length → (∀ i, i < a → vals i = zs[i]?) → psum vals a = some (isum (zs.take a))
  | 1, _, h2, h => by
    show vals 0 = _
    rw [h 0 (by omega)]
    cases zs with
    | nil => simp at h2
    | cons z r => simp [isum]
  | a + 2, _, h2, h => by
    rw [psum_succ vals (a := a + 1) (by omega), psum_isum (a + 1) (by omega) (by omega) (fun i hi => h i (by omega)), h (a + 1) (by omega)]
    have e : zs[a + 1]? = some zs[a + 1] := List.getElem?_eq_getElem (by omega)
    rw [e]
    simp only
    rw [List.take_succ (i := a + 1), e]
    show some _ = some (isum (_ ++ [_]))
    rw [isum_snoc]
section
variable {names order : List Str} {bad : Option Int} {p : Nat} {e0 : Ev} {chs : List (List Int × Bool)} {mu : Nat} {M : Mm}
/-- where no thread is ready, a chain is done or has a choice -/
theorem Ph2.restC (Z : Set0 names order p e0) (h : Ph2 names order bad p e0 chs mu M) (hr : M.readyL = []) {j : Nat} {x : Str} {c : List Int × Bool} (hx : order[j]? = some x) (hc : chs[j]? = some c) :
    c.2 = true ∨ ∃ v u r, c = (v :: u :: r, false) := by
  obtain ⟨T, vals, w, B, Ts, A, G, s, hs, hch, hm, hn⟩ := h.ex
  have k := hch j x c hx hc
  have hT := h.rc j x c hx hc
  obtain ⟨vs, d⟩ := c
  cases d with
  | true => exact .inl rfl
  | false =>
    refine .inr ?_
    match vs, hT, k with
    | [], _, k => exact absurd rfl k.ne
    | [v], hT, _ => exact absurd chT_1 (ready_nil hr hT)
    | v :: u :: r, _, _ => exact ⟨v, u, r, rfl⟩
/-- where a thread of chains chooses -/
theorem Ph2.asks (Z : Set0 names order p e0) (h : Ph2 names order bad p e0 chs mu M) (hr : M.readyL = []) {j : Nat} {x : Str} {v u : Int} {r : List Int} (hx : order[j]? = some x) (hc : chs[j]? = some (v :: u :: r, false)) (hd : ∀ i, i < j → ∀ c, chs[i]? = some c → c.2 = true) :
    M.ask = "choosing" ∧ M.First (pos p j) := by
  obtain ⟨T, vals, w, B, Ts, A, G, s, hs, hch, hm, hn⟩ := h.ex
  have hT := h.rc j x _ hx hc
  have ns : Mm.stat M.so Ts ≠ .choosing ∧ Mm.stat M.so Ts ≠ .broken := by
    have n1 := Z.N.n1
    have hv := (hch j x _ hx hc).un rfl
    have ix := (Z.idx hx).1
    have rd := ready_nil hr hs
    have fcho : ∀ a, (sF names bad a).isCho = false := fun a => by
      unfold sF
      cases names.length - a with
      | zero => cases bad <;> rfl
      | succ n => rfl
    refine ⟨fun q => ?_, fun q => ?_⟩
    · cases s with
      | f h1 h2 p a w =>
        rw [stat_nc (fcho _)] at q
        split at q <;> cases q
      | h h1 h2 p a n w =>
        rw [stat_nc rfl] at q
        split at q <;> cases q
      | _ => cases q
    · cases s with
      | br hb hp =>
        have := psum_some vals names.length n1 (by rw [hp]; rfl) _ ix
        rw [hv] at this
        cases this
      | f h1 h2 p a w =>
        rw [stat_nc (fcho _)] at q
        split at q <;> cases q
      | h h1 h2 p a n w =>
        rw [stat_nc rfl] at q
        split at q <;> cases q
      | _ => cases q
  have each : ∀ t T, M.rows[t]? = some T → t = 0 ∧ Mm.stat M.so T = .done ∨ t = p + 1 ∧ T = Ts ∨ ∃ i y c, t = pos p i ∧ order[i]? = some y ∧ chs[i]? = some c ∧ T = chT e0 y c := fun t T' hT' => by
    have hl : t < names.length + 2 := by rw [← h.rl]; exact (List.getElem?_eq_some_iff.mp hT').1
    by_cases h0 : t = 0
    · subst h0
      rw [h.r0] at hT'
      cases hT'
      exact .inl ⟨rfl, rfl⟩
    by_cases h1 : t = p + 1
    · subst h1
      rw [hs] at hT'
      cases hT'
      exact .inr (.inl ⟨rfl, rfl⟩)
    obtain ⟨i, hi, rfl⟩ := pos_of Z.pl hl h0 h1
    have hio : i < order.length := by rw [Z.ol]; exact hi
    have hic : i < chs.length := by rw [h.cl]; exact hio
    have e1 : order[i]? = some order[i] := List.getElem?_eq_getElem hio
    have e2 : chs[i]? = some chs[i] := List.getElem?_eq_getElem hic
    have e3 := h.rc i _ _ e1 e2
    rw [e3] at hT'
    exact .inr (.inr ⟨i, _, _, rfl, e1, e2, (Option.some.inj hT').symm⟩)
  have nb : ¬ ∃ T ∈ M.rows, Mm.stat M.so T = .broken := fun ⟨T', h1, h2⟩ => by
    obtain ⟨t, ht⟩ := List.mem_iff_getElem?.mp h1
    rcases each t T' ht with ⟨_, k⟩ | ⟨_, k⟩ | ⟨i, y, c, _, k1, k2, k3⟩
    · rw [k] at h2; cases h2
    · rw [k] at h2; exact ns.2 h2
    · rw [k3] at h2
      rcases h.restC Z hr k1 k2 with q | ⟨a, b, c', q⟩
      · obtain ⟨c1, c2⟩ := c
        replace q : c2 = true := q
        subst q
        cases h2
      · rw [q] at h2; cases h2
  refine ⟨ask_ch hr nb ⟨_, List.mem_of_getElem? hT, chT_2⟩, (stS_at (s := .choosing) hT).mpr chT_2, fun t ht q => ?_⟩
  have hl : t < M.rows.length := by
    have := (List.getElem?_eq_some_iff.mp hT).1
    omega
  have eT : M.rows[t]? = some M.rows[t] := List.getElem?_eq_getElem hl
  have q' := (stS_at (s := .choosing) eT).mp q
  rcases each t _ eT with ⟨_, k⟩ | ⟨_, k⟩ | ⟨i, y, c, k0, k1, k2, k3⟩
  · rw [k] at q'; cases q'
  · rw [k] at q'; exact ns.1 q'
  · have hij : i < j := by
      rw [k0] at ht
      unfold pos at ht
      split at ht <;> split at ht <;> omega
    have := hd i hij c k2
    obtain ⟨c1, c2⟩ := c
    replace this : c2 = true := this
    subst this
    rw [k3] at q'
    cases q'
end
end Lw
namespace Lw
open PySem PySem.Spec PyProof.Rows L2
section
variable {names order : List Str} {bad : Option Int} {p : Nat} {e0 : Ev} {chs : List (List Int × Bool)} {mu : Nat} {M : Mm}
theorem Ph2.each (Z : Set0 names order p e0) (h : Ph2 names order bad p e0 chs mu M) {Ts : Th} (hs : M.rows[p + 1]? = some Ts) (t : Nat) (T' : Th) (hT' : M.rows[t]? = some T') :
    t = 0 ∧ Mm.stat M.so T' = .done ∨ t = p + 1 ∧ T' = Ts ∨ ∃ i y c, t = pos p i ∧ order[i]? = some y ∧ chs[i]? = some c ∧ T' = chT e0 y c := by
  have hl : t < names.length + 2 := by rw [← h.rl]; exact (List.getElem?_eq_some_iff.mp hT').1
  by_cases h0 : t = 0
  · subst h0
    rw [h.r0] at hT'
    cases hT'
    exact .inl ⟨rfl, rfl⟩
  by_cases h1 : t = p + 1
  · subst h1
    rw [hs] at hT'
    cases hT'
    exact .inr (.inl ⟨rfl, rfl⟩)
  obtain ⟨i, hi, rfl⟩ := pos_of Z.pl hl h0 h1
  have hio : i < order.length := by rw [Z.ol]; exact hi
  have hic : i < chs.length := by rw [h.cl]; exact hio
  have e1 : order[i]? = some order[i] := List.getElem?_eq_getElem hio
  have e2 : chs[i]? = some chs[i] := List.getElem?_eq_getElem hic
  have e3 := h.rc i _ _ e1 e2
  rw [e3] at hT'
  exact .inr (.inr ⟨i, _, _, rfl, e1, e2, (Option.some.inj hT').symm⟩)
theorem vals_vl (Z : Set0 names order p e0) {vals : Nat → Option Int} (cl : chs.length = order.length) (hch : ∀ (j : Nat) (x : Str) (c : List Int × Bool), order[j]? = some x → chs[j]? = some c → ChOk names vals x c) (ad : ∀ c ∈ chs, c.2 = true) :
    ∀ i, i < names.length → vals i = (names.map (vl order chs))[i]? := by
  intro i hi
  have hm : names[i] ∈ order := Z.pm.mem_iff.mpr (List.getElem_mem hi)
  have hj := List.idxOf_lt_length_of_mem hm
  have hx : order[order.idxOf names[i]]? = some names[i] := by
    rw [List.getElem?_eq_getElem hj]
    exact congrArg some (List.getElem_idxOf hj)
  have hjc : order.idxOf names[i] < chs.length := by rw [cl]; exact hj
  have e2 : chs[order.idxOf names[i]]? = some chs[order.idxOf names[i]] := List.getElem?_eq_getElem hjc
  obtain ⟨v, k1, k2⟩ := (hch _ _ _ hx e2).dn (ad _ (List.getElem_mem hjc))
  rw [show names.idxOf names[i] = i from Z.N.nd.idxOf_getElem i hi] at k2
  rw [List.getElem?_map, List.getElem?_eq_getElem hi, k2]
  show some v = some (vl order chs names[i])
  unfold vl
  rw [List.getD_eq_getElem?_getD, e2]
  simp [k1]
theorem Ph2.restD (Z : Set0 names order p e0) (h : Ph2 names order bad p e0 chs mu M) (hr : M.readyL = []) (ad : ∀ c ∈ chs, c.2 = true) :
    (bad = some (isum (names.map (vl order chs))) ∧ M.ask = "failed") ∨
    (bad ≠ some (isum (names.map (vl order chs))) ∧ M.ask = "done" ∧ (∀ T ∈ M.rows, Mm.stat M.so T = .done) ∧ M.vals (names.map (vl order chs) ++ [isum (names.map (vl order chs))])) := by
  obtain ⟨T, vals, w, B, Ts, A, G, s, hs, hch, hm, hn⟩ := h.ex
  have hv := vals_vl Z h.cl hch ad
  have n1 := Z.N.n1
  have hp : psum vals names.length = some (isum (names.map (vl order chs))) := by
    have := psum_isum (vals := vals) (zs := names.map (vl order chs)) names.length n1 (by simp) hv
    rw [List.take_of_length_le (by simp)] at this
    exact this
  have rd := ready_nil hr hs
  have fcho : ∀ a, (sF names bad a).isCho = false := fun a => by
    unfold sF
    cases names.length - a with
    | zero => cases bad <;> rfl
    | succ n => rfl
  have nst : ∀ (f : Sm × Ev) fr wt, f.1.isCho = false → WtOk names.length T wt → Mm.stat M.so ⟨f :: fr, wt, none⟩ = .ready := fun f fr wt hf hw => by
    rw [stat_nc hf, if_neg]
    intro q
    cases wt with
    | none => cases q
    | some m =>
      obtain ⟨t, ht, hm⟩ := hw m rfl
      have q : M.so.isV (M.so.rep m) = true := q
      rw [A.isV hm] at q
      rw [hv t ht, List.getElem?_eq_getElem (by simpa using ht)] at q
      cases q
  cases s with
  | s0 _ => exact absurd (nst _ _ none rfl (fun m h => nomatch h)) rd
  | s1 _ _ => exact absurd (nst _ _ none rfl (fun m h => nomatch h)) rd
  | s2 _ _ => exact absurd (nst _ _ none rfl (fun m h => nomatch h)) rd
  | f _ _ _ _ w => exact absurd (nst _ _ _ (fcho _) w) rd
  | g _ _ _ _ _ => exact absurd (nst _ _ none rfl (fun m h => nomatch h)) rd
  | h _ _ _ _ _ w => exact absurd (nst _ _ _ rfl w) rd
  | c1 _ _ _ _ => exact absurd (nst _ _ none rfl (fun m h => nomatch h)) rd
  | c2 _ _ _ _ => exact absurd (nst _ _ none rfl (fun m h => nomatch h)) rd
  | c3 _ _ _ _ => exact absurd (nst _ _ none rfl (fun m h => nomatch h)) rd
  | c4 _ _ _ _ _ => exact absurd (nst _ _ none rfl (fun m h => nomatch h)) rd
  | br hb hq =>
    refine .inl ⟨?_, ask_br hr ⟨_, List.mem_of_getElem? hs, rfl⟩⟩
    rw [hb, ← hq, hp]
  | dn ht h2 _ h4 =>
    have al : ∀ T ∈ M.rows, Mm.stat M.so T = .done := fun T' hT' => by
      obtain ⟨t, ht'⟩ := List.mem_iff_getElem?.mp hT'
      rcases h.each Z hs t T' ht' with ⟨_, k⟩ | ⟨_, k⟩ | ⟨i, y, c, _, k1, k2, k3⟩
      · exact k
      · rw [k]; rfl
      · have := ad c (List.mem_of_getElem? k2)
        obtain ⟨c1, c2⟩ := c
        replace this : c2 = true := this
        subst this
        rw [k3]
        rfl
    refine .inr ⟨fun z => (h4 _ z).2 hp, ask_dn hr al, al, ?_, fun i n z h5 h6 => ?_⟩
    · rw [h.gv]; simp
    · have hi : i < names.length + 1 := by
        have := (List.getElem?_eq_some_iff.mp h5).1
        rw [h.gv] at this
        simpa using this
      rw [h.gv, List.getElem?_range hi] at h5
      cases h5
      by_cases q : i < names.length
      · rw [List.getElem?_append_left (by simpa using q), ← hv i q] at h6
        exact ⟨A.lt _ (G.base i q), A.bd _ (G.base i q) z h6⟩
      · have e : i = names.length := by omega
        subst e
        rw [List.getElem?_append_right (by simp)] at h6
        simp only [List.length_map, Nat.sub_self, List.getElem?_cons_zero, Option.some.injEq] at h6
        exact ⟨A.lt _ ht, A.bd _ ht z (by rw [h2, hp, h6])⟩
end
end Lw
/-! ### thread 0 makes the threads -/
namespace Lw
open PySem PySem.Spec PyProof.Rows L2
theorem ready_head {M : Mm} {T : Th} {R : List Th} (h : M.rows = T :: R) (hs : Mm.stat M.so T = .ready) : ∃ r, M.readyL = 0 :: r := by
  unfold Mm.readyL
  rw [h, List.length_cons, List.range_succ_eq_map, List.filter_cons]
  rw [if_pos]
  · exact ⟨_, rfl⟩
  · simp [hs]
/-- statements in a row -/
def sq : List Sm → Sm
  | [] => .skip
  | [a] => a
  | a :: b :: r => .seq a (sq (b :: r))
def thA (e : Ev) (a : Sm) : Th := ⟨[(a, e)], none, none⟩
theorem mk_one {e : Ev} {a : Sm} {R : List Th} {so : So} {gv : List Nat} {tk : Nat} {fr : List (Sm × Ev)} (hR : R.length < 50) :
    (⟨so, gv, ⟨(.thr a, e) :: fr, none, none⟩ :: R, tk⟩ : Mm).stepM 0 = some ⟨so, gv, ⟨fr, none, none⟩ :: (R ++ [thA e a]), tk + 1⟩ := by
  refine (step_eq (r := .ok ⟨so, gv, ⟨fr, none, none⟩ :: (R ++ [thA e a]), tk + 1⟩) (f := (.thr a, e)) rfl rfl ?_).trans rfl
  show (if (List.set (⟨(.thr a, e) :: fr, none, none⟩ :: R) 0 ⟨fr, none, none⟩ : List Th).length < 60 then some (Mm.Res.ok _) else none) = _
  rw [if_pos (by rw [List.length_set, List.length_cons]; omega)]
  rfl
theorem mk_seq {e : Ev} {a b : Sm} {R : List Th} {so : So} {gv : List Nat} {tk : Nat} :
    (⟨so, gv, ⟨[(.seq a b, e)], none, none⟩ :: R, tk⟩ : Mm).stepM 0 = some ⟨so, gv, ⟨[(a, e), (b, e)], none, none⟩ :: R, tk + 1⟩ := by
  refine (step_eq (r := .ok ⟨so, gv, ⟨[(a, e), (b, e)], none, none⟩ :: R, tk + 1⟩) (f := (.seq a b, e)) rfl rfl ?_).trans rfl
  show Mm.push _ 0 ⟨[], none, none⟩ [(a, e), (b, e)] = _
  exact (push_eq (T := ⟨[], none, none⟩) (fs := [(a, e), (b, e)]) (by simp)).trans rfl
/-- thread 0 runs to its end -/
theorem mk_all {e : Ev} {so : So} {gv : List Nat} : ∀ (l : List Sm) (a : Sm) (R : List Th) (tk : Nat), R.length + l.length < 50 →
    ∃ tk', ∀ k M2, Mm.Runs k ⟨so, gv, ⟨[], none, none⟩ :: (R ++ (a :: l).map (thA e)), tk'⟩ M2 → ∃ k', k' ≤ k + 2 * l.length + 1 ∧ Mm.Runs k' ⟨so, gv, ⟨[(sq ((a :: l).map Sm.thr), e)], none, none⟩ :: R, tk⟩ M2
  | [], a, R, tk, h => ⟨tk + 1, fun k M2 r => by
      obtain ⟨q, hq⟩ := ready_head (M := ⟨so, gv, ⟨[(.thr a, e)], none, none⟩ :: R, tk⟩) rfl rfl
      exact ⟨k + 1, by simp, .step hq (mk_one (by simp at h; omega)) r⟩⟩
  | b :: l, a, R, tk, h => by
      obtain ⟨tk', ih⟩ := mk_all l b (R ++ [thA e a]) (tk + 1 + 1) (by simp at h ⊢; omega)
      refine ⟨tk', fun k M2 r => ?_⟩
      rw [show R ++ List.map (thA e) (a :: b :: l) = (R ++ [thA e a]) ++ List.map (thA e) (b :: l) by simp] at r
      obtain ⟨k', k1, k2⟩ := ih k M2 r
      obtain ⟨q, hq⟩ := ready_head (M := ⟨so, gv, ⟨[(.seq (.thr a) (sq ((b :: l).map Sm.thr)), e)], none, none⟩ :: R, tk⟩) rfl rfl
      obtain ⟨q', hq'⟩ := ready_head (M := ⟨so, gv, ⟨[(.thr a, e), (sq ((b :: l).map Sm.thr), e)], none, none⟩ :: R, tk + 1⟩) rfl rfl
      exact ⟨k' + 1 + 1, by simp; omega, .step hq mk_seq (.step hq' (mk_one (by simp at h; omega)) k2)⟩
/-! ### the law's program -/
def nml (m : Nat) : List Str := List.take m ([("X" : Str), "Y", "Z"] : List Str)
def e0l (m : Nat) : Ev := iniEv (nml m ++ [("S" : Str)])
theorem nml_len {m : Nat} (h : m ≤ 3) : (nml m).length = m := by
  unfold nml
  rw [List.length_take]
  exact Nat.min_eq_left h
theorem nml_Ok {m : Nat} (h1 : 1 ≤ m) (h3 : m ≤ 3) : NmOk (nml m) := by
  refine ⟨by rw [nml_len h3]; exact h1, by rw [nml_len h3]; exact h3, ?_, ?_, ?_⟩
  · match m, h1, h3 with
    | 1, _, _ => decide +kernel
    | 2, _, _ => decide +kernel
    | 3, _, _ => decide +kernel
  · have : ∀ x ∈ (["X", "Y", "Z"] : List Str), x ≠ "S" := by decide +kernel
    exact fun x hx => this x (List.mem_of_mem_take hx)
  · have : ∀ x ∈ (["X", "Y", "Z"] : List Str), ∀ k : Nat, k < 3 → x ≠ aN (k : Int) := by decide +kernel
    exact fun x hx => this x (List.mem_of_mem_take hx)
theorem e0l_ev {m : Nat} (h1 : 1 ≤ m) (h3 : m ≤ 3) : ∀ i, i < (nml m).length → (e0l m).get (nmx (nml m) i) = some i := by
  match m, h1, h3 with
  | 1, _, _ => decide +kernel
  | 2, _, _ => decide +kernel
  | 3, _, _ => decide +kernel
theorem e0l_s {m : Nat} (h1 : 1 ≤ m) (h3 : m ≤ 3) : (e0l m).get "S" = some (nml m).length ∧ (e0l m).length ≤ 20 := by
  match m, h1, h3 with
  | 1, _, _ => decide +kernel
  | 2, _, _ => decide +kernel
  | 3, _, _ => decide +kernel
/-- the statements of the threads -/
def thS (names order : List Str) (dom : Str → List Int) (bad : Option Int) (p : Nat) : List Sm :=
  (order.map fun x => chn x (dom x)).take p ++ [sumS names bad] ++ (order.map fun x => chn x (dom x)).drop p
def ch0 (order : List Str) (dom : Str → List Int) : List (List Int × Bool) := order.map fun x => (dom x, false)
theorem undone_le (chs : List (List Int × Bool)) : undone chs ≤ chs.length := List.length_filter_le _ _
theorem set0l {m p : Nat} {order : List Str} (h1 : 1 ≤ m) (h3 : m ≤ 3) (hp : order.Perm (nml m)) (hl : p ≤ m) : Set0 (nml m) order p (e0l m) :=
  ⟨nml_Ok h1 h3, hp, by rw [nml_len h3]; exact hl, e0l_ev h1 h3⟩
theorem plain_rep (ds : List Nd) {i : Nat} (hi : i < ds.length) : (So.plain ds).rep i = i := by
  refine So.up_root ?_ _
  show (List.range ds.length)[i]? = some i
  rw [List.getElem?_range hi]
theorem ph2_ini {m p : Nat} {order : List Str} {dom : Str → List Int} {bad : Option Int} {tk : Nat} (h1 : 1 ≤ m) (h3 : m ≤ 3) (hp : order.Perm (nml m)) (hl : p ≤ m) (hd : ∀ x ∈ nml m, dom x ≠ [] ∧ (dom x).length ≤ 4 ∧ ∀ v ∈ dom x, 0 ≤ v ∧ v ≤ 5) :
    ∃ mu, Ph2 (nml m) order bad p (e0l m) (ch0 order dom) mu ⟨(iniM (nml m ++ [("S" : Str)]) .skip).so, List.range (m + 1), ⟨[], none, none⟩ :: ([] ++ (thS (nml m) order dom bad p).map (thA (e0l m))), tk⟩ := by
  have Z := set0l h1 h3 hp hl
  have nl := nml_len h3
  have ol : order.length = m := by rw [hp.length_eq, nl]
  have wf := (ini_Ok (names := nml m ++ [("S" : Str)]) .skip (by simp [nl]; omega)).wf
  obtain ⟨es, el⟩ := e0l_s h1 h3
  have ndl : (iniM (nml m ++ [("S" : Str)]) .skip).so.nd.length = m + 17 := by
    show (List.replicate _ _ ++ List.replicate _ _).length = _
    simp [nl]
  have ndv : ∀ i, i ≤ m → (iniM (nml m ++ [("S" : Str)]) .skip).so.isV i = true := fun i hi => by
    show ((List.replicate _ Nd.var ++ List.replicate _ Nd.oth)[i]? == some Nd.var) = true
    rw [List.getElem?_append_left (by simp [nl]; omega), List.getElem?_replicate, if_pos (by simp [nl]; omega)]
    rfl
  have rp : ∀ i, i ≤ m → (iniM (nml m ++ [("S" : Str)]) .skip).so.rep i = i := fun i hi => plain_rep _ (by
    show i < (iniM (nml m ++ [("S" : Str)]) .skip).so.nd.length
    omega)
  have tm : ∀ q ∈ (List.range (m + 1)).map (fun i => (i, i)), q.1 = q.2 ∧ q.1 ≤ m := fun q hq => by
    obtain ⟨i, hi, rfl⟩ := List.mem_map.mp hq
    exact ⟨rfl, by have := List.mem_range.mp hi; show i ≤ m; omega⟩
  have tl : (thS (nml m) order dom bad p).length = m + 1 := by
    unfold thS
    simp [ol]
    omega
  refine ⟨_, ⟨(List.range (m + 1)).map (fun i => (i, i)), fun _ => none, 3 * (nml m).length + 8, (nml m).length + 1, _, ⟨wf, fun q hq => by have := tm q hq; rw [ndl]; omega, fun _ _ _ z => (nomatch z), fun q hq _ => ?_, fun q hq r hr _ _ => ?_⟩, ⟨fun i hi => List.mem_map.mpr ⟨i, List.mem_range.mpr (by omega), rfl⟩, fun q hq => by have := tm q hq; omega, fun _ _ => rfl, fun _ _ _ z => (nomatch z)⟩,
    .s0 ⟨e0l_ev h1 h3, es, List.mem_map.mpr ⟨m, List.mem_range.mpr (by omega), by rw [nl]⟩, rfl, by omega⟩, ?_, fun j x c hx hc => ?_, rfl, ?_⟩, by rw [nl], ?_, rfl, by unfold ch0; rw [List.length_map], fun j x c hx hc => ?_⟩
  · rw [rp _ (tm q hq).2]; exact ndv _ (tm q hq).2
  · rw [rp _ (tm q hq).2, rp _ (tm r hr).2, (tm q hq).1, (tm r hr).1]
  · show (List.map (thA (e0l m)) (thS (nml m) order dom bad p))[p]? = _
    rw [List.getElem?_map]
    unfold thS
    rw [List.append_assoc, List.getElem?_append_right (by simp [ol]; omega), List.length_take, List.length_map, ol, Nat.min_eq_left hl, Nat.sub_self]
    rfl
  · unfold ch0 at hc
    rw [List.getElem?_map, hx] at hc
    cases hc
    have hm : x ∈ nml m := hp.mem_iff.mp (List.mem_of_getElem? hx)
    obtain ⟨d1, d2, d3⟩ := hd x hm
    exact ⟨d1, d2, d3, fun z => (nomatch z), fun _ => rfl⟩
  · have := undone_le (ch0 order dom)
    have e : (ch0 order dom).length = m := by unfold ch0; rw [List.length_map, ol]
    rw [ndl, nl]
    omega
  · show (List.map (thA (e0l m)) (thS (nml m) order dom bad p)).length + 1 = _
    rw [List.length_map, tl, nl]
  · unfold ch0 at hc
    rw [List.getElem?_map, hx] at hc
    cases hc
    have hj : j < m := by rw [← ol]; exact (List.getElem?_eq_some_iff.mp hx).1
    unfold pos
    show (_ :: List.map (thA (e0l m)) (thS (nml m) order dom bad p))[_]? = some (thA (e0l m) (chn x (dom x)))
    by_cases q : j < p
    · rw [if_pos q, List.getElem?_cons_succ, List.getElem?_map]
      unfold thS
      rw [List.append_assoc, List.getElem?_append_left (by simp [ol]; omega), List.getElem?_take, if_pos q, List.getElem?_map, hx]
      rfl
    · rw [if_neg q, show j + 2 = (j + 1) + 1 from rfl, List.getElem?_cons_succ, List.getElem?_map]
      unfold thS
      rw [List.getElem?_append_right (by simp [ol]; omega), List.length_append, List.length_take, List.length_map, ol, Nat.min_eq_left hl, List.getElem?_drop, List.getElem?_map, show p + (j + 1 - (p + [sumS (nml m) bad].length)) = j by simp; omega, hx]
      rfl
end Lw
/-! ### the search walks the choices in order -/
namespace Lw
open PySem PySem.Spec PyProof.Rows L2
def zf0 (r : Nod) : List Int := r.2.gv.map fun n => match r.2.so.nd[r.2.so.rep n]? with
  | some (.int z) => z
  | _ => 0
theorem zf0_of {path : List Bool} {M : Mm} {zs : List Int} (h : M.vals zs) : zf0 (path, M) = zs := by
  refine List.ext_getElem? fun i => ?_
  unfold zf0
  rw [List.getElem?_map]
  by_cases hi : i < zs.length
  · have hg : i < M.gv.length := by rw [h.1]; exact hi
    have e1 : M.gv[i]? = some M.gv[i] := List.getElem?_eq_getElem hg
    have e2 : zs[i]? = some zs[i] := List.getElem?_eq_getElem hi
    have k := (h.2 i _ _ e1 e2).2
    show Option.map _ (M.gv[i]?) = _
    rw [e1, e2]
    show some (match M.so.nd[M.so.rep M.gv[i]]? with | some (.int z) => z | _ => 0) = _
    rw [k]
  · rw [List.getElem?_eq_none (show M.gv.length ≤ i by rw [h.1]; omega), List.getElem?_eq_none (show zs.length ≤ i by omega)]
    rfl
def prd : List (List Int) → List (List Bool × List Int)
  | [] => [([], [])]
  | vs :: r => (pths vs).flatMap fun a => (prd r).map fun b => (a.1 ++ b.1, a.2 :: b.2)
theorem pths_one (v : Int) : pths [v] = [([], v)] := rfl
theorem pths_two (v u : Int) (r : List Int) : pths (v :: u :: r) = ([false], v) :: (pths (u :: r)).map fun a => (true :: a.1, a.2) := by
  unfold pths
  rw [List.length_cons, List.range_succ_eq_map, List.map_cons, List.map_map, List.map_map]
  refine congr (congrArg _ ?_) (List.map_congr_left fun i _ => ?_)
  · simp
  · simp [List.replicate_succ]
theorem prd_one : ∀ (s : List Int) (x : List (List Int)), prd (s.map (fun v => [v]) ++ x) = (prd x).map fun b => (b.1, s ++ b.2)
  | [], x => by simp
  | a :: s, x => by
    have ih := prd_one s x
    show ((pths [a]).flatMap fun a => (prd (s.map (fun v => [v]) ++ x)).map fun b => (a.1 ++ b.1, a.2 :: b.2)) = _
    rw [pths_one, ih]
    simp
theorem prd_sing (s : List Int) : prd (s.map (fun v => [v])) = [([], s)] := by
  have := prd_one s []
  rw [List.append_nil] at this
  rw [this]
  simp [prd]
def pfx (b : Bool) (q : List Bool × List Int) : List Bool × List Int := (b :: q.1, q.2)
theorem prd_split (s : List Int) (v u : Int) (r : List Int) (t : List (List Int)) :
    prd (s.map (fun v => [v]) ++ (v :: u :: r) :: t) = (prd (s.map (fun v => [v]) ++ [v] :: t)).map (pfx false) ++ (prd (s.map (fun v => [v]) ++ (u :: r) :: t)).map (pfx true) := by
  rw [prd_one, prd_one, prd_one]
  rw [show prd ((v :: u :: r) :: t) = (pths (v :: u :: r)).flatMap fun a => (prd t).map fun b => (a.1 ++ b.1, a.2 :: b.2) from rfl]
  rw [show prd ([v] :: t) = (pths [v]).flatMap fun a => (prd t).map fun b => (a.1 ++ b.1, a.2 :: b.2) from rfl]
  rw [show prd ((u :: r) :: t) = (pths (u :: r)).flatMap fun a => (prd t).map fun b => (a.1 ++ b.1, a.2 :: b.2) from rfl]
  rw [pths_two, pths_one]
  simp [List.flatMap_cons, List.map_flatMap, List.flatMap_map, pfx, List.map_map, Function.comp_def]
theorem pths_pos (vs : List Int) : (pths vs).length = vs.length := by simp [pths]
theorem prd_pos : ∀ cs : List (List Int), (∀ c ∈ cs, c ≠ []) → 1 ≤ (prd cs).length
  | [], _ => Nat.le_refl 1
  | vs :: r, h => by
    have ih := prd_pos r fun c hc => h c (List.mem_cons_of_mem _ hc)
    have h0 := h vs (List.mem_cons_self ..)
    match vs, h0 with
    | v :: vs, _ =>
      have e : ∀ l : List (List Bool × Int), ((l.flatMap fun a => (prd r).map fun b => (a.1 ++ b.1, a.2 :: b.2))).length = l.length * (prd r).length := fun l => by
        induction l with
        | nil => simp
        | cons a l ih => rw [List.flatMap_cons, List.length_append, ih, List.length_map, List.length_cons, Nat.succ_mul, Nat.add_comm]
      show 1 ≤ ((pths (v :: vs)).flatMap _).length
      rw [e, pths_pos, List.length_cons]
      exact Nat.mul_pos (by omega) ih
theorem prd_len : ∀ cs : List (List Int), (prd cs).length = (cs.map List.length).foldr (· * ·) 1
  | [] => rfl
  | vs :: r => by
    have ih := prd_len r
    have e : ∀ l : List (List Bool × Int), ((l.flatMap fun a => (prd r).map fun b => (a.1 ++ b.1, a.2 :: b.2))).length = l.length * (prd r).length := fun l => by
      induction l with
      | nil => simp
      | cons a l ih => rw [List.flatMap_cons, List.length_append, ih, List.length_map, List.length_cons, Nat.succ_mul, Nat.add_comm]
    show ((pths vs).flatMap _).length = vs.length * (r.map List.length).foldr (· * ·) 1
    rw [e, pths_pos, ih]
theorem isum_cons (a : Int) (l : List Int) : isum (a :: l) = a + isum l := by
  show List.foldl _ (0 + a) l = _
  rw [foldl_add]
  omega
theorem isum_bd : ∀ l : List Int, (∀ z ∈ l, 0 ≤ z ∧ z ≤ 5) → 0 ≤ isum l ∧ isum l ≤ 5 * (l.length : Int)
  | [], _ => by simp [isum]
  | a :: l, h => by
    have ih := isum_bd l fun z hz => h z (List.mem_cons_of_mem _ hz)
    have ha := h a (List.mem_cons_self ..)
    rw [isum_cons, List.length_cons]
    push_cast
    omega
def wsO (names order : List Str) (vs : List Int) : List Int := names.map fun x => vs.getD (order.idxOf x) 0
def ansO (names order : List Str) (bad : Option Int) (vs : List Int) : Option (List Int) := if bad = some (isum (wsO names order vs)) then none else some (wsO names order vs ++ [isum (wsO names order vs)])
def ansR (r : Nod) : List Bool × Option (List Int) := (r.1, if isDone r then some (zf0 r) else none)
def fA (names order : List Str) (bad : Option Int) (path : List Bool) (q : List Bool × List Int) : List Bool × Option (List Int) := (path ++ q.1, ansO names order bad q.2)
def notCh (r : Nod) : Bool := !decide (r.2.ask = "choosing")
theorem vl_ws {names order : List Str} {chs : List (List Int × Bool)} {vs : List Int} (h : chs.map Prod.fst = vs.map fun v => [v]) : names.map (vl order chs) = wsO names order vs := by
  refine List.map_congr_left fun x _ => ?_
  unfold vl
  rw [List.getD_eq_getElem?_getD, List.getD_eq_getElem?_getD]
  have e : (chs.map Prod.fst)[order.idxOf x]? = (vs.map fun v => [v])[order.idxOf x]? := by rw [h]
  rw [List.getElem?_map, List.getElem?_map] at e
  cases c : chs[order.idxOf x]? <;> cases d : vs[order.idxOf x]? <;> rw [c, d] at e <;> simp at e ⊢
  rw [e]
  rfl
theorem first_false : ∀ chs : List (List Int × Bool), (∀ c ∈ chs, c.2 = true) ∨ ∃ s c t, chs = s ++ c :: t ∧ (∀ a ∈ s, a.2 = true) ∧ c.2 = false
  | [] => .inl fun _ h => nomatch h
  | c :: r => by
    cases e : c.2 with
    | false => exact .inr ⟨[], c, r, rfl, fun _ h => (nomatch h), e⟩
    | true =>
      rcases first_false r with h | ⟨s, d, t, h1, h2, h3⟩
      · exact .inl fun a ha => by
          rcases List.mem_cons.mp ha with rfl | ha
          · exact e
          · exact h a ha
      · exact .inr ⟨c :: s, d, t, by rw [h1]; rfl, fun a ha => by
          rcases List.mem_cons.mp ha with rfl | ha
          · exact e
          · exact h2 a ha, h3⟩
theorem sing_of : ∀ s : List (List Int × Bool), (∀ a ∈ s, ∃ v, a.1 = [v]) → ∃ vs : List Int, s.map Prod.fst = vs.map fun v => [v]
  | [], _ => ⟨[], rfl⟩
  | a :: s, h => by
    obtain ⟨v, hv⟩ := h a (List.mem_cons_self ..)
    obtain ⟨vs, e⟩ := sing_of s fun b hb => h b (List.mem_cons_of_mem _ hb)
    exact ⟨v :: vs, by rw [List.map_cons, List.map_cons, hv, e]⟩
section
variable {names order : List Str} {bad : Option Int} {p : Nat} {e0 : Ev}
theorem Ph2.all {chs : List (List Int × Bool)} {mu : Nat} {M : Mm} (h : Ph2 names order bad p e0 chs mu M) {c : List Int × Bool} (hc : c ∈ chs) :
    c.1 ≠ [] ∧ (∀ v ∈ c.1, 0 ≤ v ∧ v ≤ 5) ∧ (c.2 = true → ∃ v, c.1 = [v]) := by
  obtain ⟨T, vals, w, B, Ts, A, G, s, hr, hch, hm, hn⟩ := h.ex
  obtain ⟨j, hj⟩ := List.mem_iff_getElem?.mp hc
  have hl : j < order.length := by rw [← h.cl]; exact (List.getElem?_eq_some_iff.mp hj).1
  have k := hch j _ c (List.getElem?_eq_getElem hl) hj
  exact ⟨k.ne, k.bd, fun z => let ⟨v, e, _⟩ := k.dn z; ⟨v, e⟩⟩
theorem dfs (Z : Set0 names order p e0) : ∀ (N : Nat) (M M0 : Mm) (chs : List (List Int × Bool)) (mu : Nat) (path : List Bool) (c c' : Nat) (ns0 rows0 : List Nod),
    (prd (chs.map Prod.fst)).length = N → Ph2 names order bad p e0 chs mu M → (∀ k M2, k ≤ 2001 → Mm.Runs k M M2 → ∃ k', k' ≤ 2999 ∧ Mm.Runs k' M0 M2) → path.length + N ≤ 100 → ns0.length + N ≤ 900 → c + 2 * N ≤ 190 → c' + 1 = c + 2 * N → Srch c' ns0 rows0 →
    ∃ rows, Srch c (ns0 ++ [(path, M0)]) (rows ++ rows0) ∧ rows.length + 1 = 2 * N ∧ (∀ r ∈ rows, AskOk r ∧ Fine zf0 r) ∧ (rows.filter notCh).map ansR = (prd (chs.map Prod.fst)).map (fA names order bad path) := by
  intro N
  induction N using Nat.strongRecOn with
  | ind N ih =>
    intro M M0 chs mu path c c' ns0 rows0 hN h hM0 hp hn hc hc' hS
    obtain ⟨k, M', chs', mu', j1, j2, j3, j4⟩ := Ph2.run Z mu M chs h
    have hmu := h.bd
    obtain ⟨k', q1, q2⟩ := hM0 k M' (by omega) j2
    have hr : M'.readyL = [] := Mm.Runs.end_ q2
    rw [← j4] at hN ⊢
    rcases first_false chs' with ad | ⟨s, d, t, e1, e2, e3⟩
    · obtain ⟨vs, hv⟩ := sing_of chs' fun a ha => (j3.all ha).2.2 (ad a ha)
      have eq := vl_ws (names := names) (order := order) hv
      rw [hv, prd_sing] at hN ⊢
      have hN1 : N = 1 := hN.symm
      subst hN1
      have bd : ∀ z ∈ wsO names order vs, 0 ≤ z ∧ z ≤ 5 := fun z hz => by
        obtain ⟨x, _, rfl⟩ := List.mem_map.mp hz
        rw [List.getD_eq_getElem?_getD]
        cases g : vs[order.idxOf x]? with
        | none => simp
        | some z =>
          have hm : [z] ∈ chs'.map Prod.fst := by
            rw [hv]
            exact List.mem_map.mpr ⟨z, List.mem_of_getElem? g, rfl⟩
          obtain ⟨a, ha, ea⟩ := List.mem_map.mp hm
          exact (j3.all ha).2.1 z (by rw [ea]; simp)
      have wl : (wsO names order vs).length ≤ 3 := by
        unfold wsO
        rw [List.length_map]
        exact Z.N.n3
      have ib := isum_bd _ bd
      obtain rfl : c' = c + 1 := by omega
      have nx := Srch.cons (path := path) (kids := []) (rows := rows0) (show c < 200 by omega) (show path.length ≤ 100 by omega) (show (ns0 ++ [(path, M0)]).length ≤ 1000 by rw [List.length_append]; simp; omega) q2 q1
      rcases j3.restD Z hr ad with ⟨b1, b2⟩ | ⟨b1, b2, b3, b4⟩
      · rw [eq] at b1
        refine ⟨[(path, M')], nx (.inl ⟨by rw [b2]; decide, rfl⟩) (by rw [List.append_nil]; exact hS), rfl, fun r hr' => ?_, ?_⟩
        · rw [List.mem_singleton] at hr'
          subst hr'
          exact ⟨.inr (.inr b2), fun z => by replace z : M'.ask = "done" := z; rw [b2] at z; exact absurd z (by decide)⟩
        · have n1 : notCh (path, M') = true := by show (!decide (M'.ask = "choosing")) = true; rw [b2]; decide
          have n2 : isDone (path, M') = false := by show decide (M'.ask = "done") = false; rw [b2]; decide
          rw [List.filter_cons, if_pos n1]
          show [ansR (path, M')] = [fA names order bad path ([], vs)]
          unfold ansR fA ansO
          rw [n2, if_pos b1]
          simp
      · rw [eq] at b1 b4
        have zf : zf0 (path, M') = wsO names order vs ++ [isum (wsO names order vs)] := zf0_of b4
        refine ⟨[(path, M')], nx (.inl ⟨by rw [b2]; decide, rfl⟩) (by rw [List.append_nil]; exact hS), rfl, fun r hr' => ?_, ?_⟩
        · rw [List.mem_singleton] at hr'
          subst hr'
          refine ⟨.inr (.inl b2), fun z => ⟨b3, by rw [zf]; exact b4, by rw [zf, List.length_append]; simp; omega, fun z hz => ?_⟩⟩
          rw [zf] at hz
          have : 0 ≤ z ∧ z ≤ 15 := by
            rcases List.mem_append.mp hz with q | q
            · have := bd z q; omega
            · rw [List.mem_singleton] at q
              subst q
              omega
          exact Nat.lt_of_le_of_lt (Nat.log2_le_self _) (by omega)
        · have n1 : notCh (path, M') = true := by show (!decide (M'.ask = "choosing")) = true; rw [b2]; decide
          have n2 : isDone (path, M') = true := by show decide (M'.ask = "done") = true; rw [b2]; decide
          rw [List.filter_cons, if_pos n1]
          show [ansR (path, M')] = [fA names order bad path ([], vs)]
          unfold ansR fA ansO
          rw [n2, if_neg b1, if_pos rfl, zf]
          simp
    · obtain ⟨vs, hv⟩ := sing_of s fun a ha => (j3.all (by rw [e1]; exact List.mem_append_left _ ha)).2.2 (e2 a ha)
      have hcd : chs'[s.length]? = some d := by rw [e1, List.getElem?_append_right (Nat.le_refl _), Nat.sub_self]; rfl
      have hlt : s.length < order.length := by rw [← j3.cl]; exact (List.getElem?_eq_some_iff.mp hcd).1
      have hx : order[s.length]? = some order[s.length] := List.getElem?_eq_getElem hlt
      rcases j3.restC Z hr hx hcd with g | ⟨v, u, r, rfl⟩
      · rw [e3] at g; cases g
      obtain ⟨a1, a2⟩ := j3.asks Z hr hx hcd fun i hi b hb => e2 b (by
        rw [e1, List.getElem?_append_left hi] at hb
        exact List.mem_of_getElem? hb)
      obtain ⟨MT, t1, t2⟩ := j3.choose Z hx hcd true
      obtain ⟨MF, f1, f2⟩ := j3.choose Z hx hcd false
      have st : ∀ b, chs'.set s.length b = s ++ b :: t := fun b => by
        rw [e1, List.set_append_right _ _ (Nat.le_refl _), Nat.sub_self]
        rfl
      rw [st] at t2 f2
      rw [if_pos rfl] at t2
      rw [if_neg (by decide)] at f2
      have p0 : chs'.map Prod.fst = vs.map (fun v => [v]) ++ (v :: u :: r) :: t.map Prod.fst := by rw [e1, List.map_append, hv]; rfl
      have pT : (s ++ (u :: r, false) :: t).map Prod.fst = vs.map (fun v => [v]) ++ (u :: r) :: t.map Prod.fst := by rw [List.map_append, hv]; rfl
      have pF : (s ++ ([v], false) :: t).map Prod.fst = vs.map (fun v => [v]) ++ [v] :: t.map Prod.fst := by rw [List.map_append, hv]; rfl
      have sp := prd_split vs v u r (t.map Prod.fst)
      rw [← p0, ← pT, ← pF] at sp
      have lT := prd_pos ((s ++ (u :: r, false) :: t).map Prod.fst) fun b hb => by
        obtain ⟨a, ha, rfl⟩ := List.mem_map.mp hb
        exact (t2.all ha).1
      have lF := prd_pos ((s ++ ([v], false) :: t).map Prod.fst) fun b hb => by
        obtain ⟨a, ha, rfl⟩ := List.mem_map.mp hb
        exact (f2.all ha).1
      have ls : N = (prd ((s ++ ([v], false) :: t).map Prod.fst)).length + (prd ((s ++ (u :: r, false) :: t).map Prod.fst)).length := by
        rw [← hN, sp, List.length_append, List.length_map, List.length_map]
      obtain ⟨NT, hNT⟩ : ∃ n, (prd ((s ++ (u :: r, false) :: t).map Prod.fst)).length = n := ⟨_, rfl⟩
      obtain ⟨NF, hNF⟩ : ∃ n, (prd ((s ++ ([v], false) :: t).map Prod.fst)).length = n := ⟨_, rfl⟩
      rw [hNT, hNF] at ls
      rw [hNT] at lT
      rw [hNF] at lF
      obtain ⟨rT, x1, x2, x3, x4⟩ := ih NT (by omega) MT MT _ _ (path ++ [true]) (c + 2 * NF) c' ns0 rows0 hNT t2 (fun k M2 hk r => ⟨k, by omega, r⟩) (by simp; omega) (by omega) (by omega) (by omega) hS
      obtain ⟨rF, y1, y2, y3, y4⟩ := ih NF (by omega) MF MF _ _ (path ++ [false]) (c + 1) (c + 2 * NF) (ns0 ++ [(path ++ [true], MT)]) (rT ++ rows0) hNF f2 (fun k M2 hk r => ⟨k, by omega, r⟩) (by simp; omega) (by simp; omega) (by omega) (by omega) x1
      refine ⟨(path, M') :: (rF ++ rT), ?_, by simp; omega, fun r hr' => ?_, ?_⟩
      · have nx := Srch.cons (path := path) (kids := [(path ++ [true], MT), (path ++ [false], MF)]) (rows := rF ++ (rT ++ rows0)) (show c < 200 by omega) (show path.length ≤ 100 by omega) (show (ns0 ++ [(path, M0)]).length ≤ 1000 by rw [List.length_append]; simp; omega) q2 q1 (.inr ⟨a1, _, MT, MF, a2, t1, f1, rfl⟩) (by rw [List.append_assoc] at y1; exact y1)
        rw [List.cons_append, List.append_assoc]
        exact nx
      · rcases List.mem_cons.mp hr' with rfl | hr'
        · exact ⟨.inl a1, fun z => by replace z : M'.ask = "done" := z; rw [a1] at z; exact absurd z (by decide)⟩
        · rcases List.mem_append.mp hr' with g | g
          · exact y3 r g
          · exact x3 r g
      · have n1 : notCh (path, M') = false := by show (!decide (M'.ask = "choosing")) = false; rw [a1]; decide
        rw [List.filter_cons, if_neg (by rw [n1]; decide), List.filter_append, List.map_append (f := ansR), y4, x4, sp, List.map_append (f := fA names order bad path), List.map_map, List.map_map]
        have hf : ∀ b, fA names order bad (path ++ [b]) = fA names order bad path ∘ pfx b := fun b => by
          funext q
          simp [fA, pfx]
        rw [hf, hf]
end
end Lw
/-! ### the plain law -/
namespace Lw
open PySem PySem.Spec PyProof.Rows L2
theorem prod_le : ∀ l : List Nat, (∀ x ∈ l, x ≤ 4) → l.foldr (· * ·) 1 ≤ 4 ^ l.length
  | [], _ => Nat.le_refl 1
  | a :: l, h => by
    have ih := prod_le l fun x hx => h x (List.mem_cons_of_mem _ hx)
    have ha := h a (List.mem_cons_self ..)
    rw [List.foldr_cons, List.length_cons, Nat.pow_succ, Nat.mul_comm (4 ^ _)]
    exact Nat.mul_le_mul ha ih
theorem prd_64 {cs : List (List Int)} (h3 : cs.length ≤ 3) (h : ∀ c ∈ cs, c.length ≤ 4) : (prd cs).length ≤ 64 := by
  rw [prd_len]
  refine Nat.le_trans (prod_le _ fun x hx => ?_) ?_
  · obtain ⟨c, hc, rfl⟩ := List.mem_map.mp hx
    exact h c hc
  · rw [List.length_map]
    exact Nat.pow_le_pow_right (by omega) h3
theorem law_rows {m p : Nat} {order : List Str} {dom : Str → List Int} {bad : Option Int} (h1 : 1 ≤ m) (h3 : m ≤ 3) (hp : order.Perm (nml m)) (hl : p ≤ m) (hd : ∀ x ∈ nml m, dom x ≠ [] ∧ (dom x).length ≤ 4 ∧ ∀ v ∈ dom x, 0 ≤ v ∧ v ≤ 5) :
    ∃ rows, Srch 0 [([], iniM (nml m ++ [("S" : Str)]) (sq ((thS (nml m) order dom bad p).map Sm.thr)))] rows ∧ rows.length ≤ 127 ∧ (∀ r ∈ rows, AskOk r ∧ Fine zf0 r) ∧
      (rows.filter notCh).map ansR = (prd (order.map dom)).map (fA (nml m) order bad []) := by
  have Z := set0l h1 h3 hp hl
  have nl := nml_len h3
  have ol : order.length = m := by rw [hp.length_eq, nl]
  have tl : (thS (nml m) order dom bad p).length = m + 1 := by
    unfold thS
    simp [ol]
    omega
  obtain ⟨a, l, e⟩ : ∃ a l, thS (nml m) order dom bad p = a :: l := by
    cases q : thS (nml m) order dom bad p with
    | nil => rw [q] at tl; cases tl
    | cons a l => exact ⟨a, l, rfl⟩
  have ll : l.length = m := by rw [e] at tl; simpa using tl
  obtain ⟨tk', hk⟩ := mk_all (e := e0l m) (so := (iniM (nml m ++ [("S" : Str)]) .skip).so) (gv := List.range (m + 1)) l a [] (iniM (nml m ++ [("S" : Str)]) .skip).tk (by simp; omega)
  obtain ⟨mu, ph⟩ := ph2_ini (tk := tk') (bad := bad) h1 h3 hp hl hd
  have cf : (ch0 order dom).map Prod.fst = order.map dom := by unfold ch0; rw [List.map_map]; rfl
  have nb : (prd (order.map dom)).length ≤ 64 := prd_64 (by rw [List.length_map]; omega) fun c hc => by
    obtain ⟨x, hx, rfl⟩ := List.mem_map.mp hc
    exact (hd x (hp.mem_iff.mp hx)).2.1
  have np : 1 ≤ (prd (order.map dom)).length := prd_pos _ fun c hc => by
    obtain ⟨x, hx, rfl⟩ := List.mem_map.mp hc
    exact (hd x (hp.mem_iff.mp hx)).1
  obtain ⟨rows, r1, r2, r3, r4⟩ := dfs Z _ _ (iniM (nml m ++ [("S" : Str)]) (sq ((thS (nml m) order dom bad p).map Sm.thr))) _ _ [] 0 (2 * (prd (order.map dom)).length - 1) [] [] (by rw [cf]) ph
    (fun k M2 k1 k2 => by
      rw [e] at k2
      obtain ⟨k', k3, k4⟩ := hk k M2 k2
      refine ⟨k', by omega, ?_⟩
      have : (⟨(iniM (nml m ++ [("S" : Str)]) .skip).so, List.range (m + 1), ⟨[(sq ((a :: l).map Sm.thr), e0l m)], none, none⟩ :: [], (iniM (nml m ++ [("S" : Str)]) .skip).tk⟩ : Mm) = iniM (nml m ++ [("S" : Str)]) (sq ((thS (nml m) order dom bad p).map Sm.thr)) := by
        rw [e]
        unfold iniM
        simp [nl, e0l]
      rw [← this]
      exact k4)
    (by simp; omega) (by simp; omega) (by omega) (by omega) (.nil _)
  rw [cf] at r4
  rw [List.append_nil] at r1
  exact ⟨rows, r1, by omega, r3, r4⟩
def fnd (names order : List Str) (bad : Option Int) (due : List (List Bool × List Int)) : List (List Bool × List Int) := due.filterMap fun q => (ansO names order bad q.2).map fun zs => (q.1, zs)
theorem done_not {r : Nod} (h : isDone r = true) : notCh r = true := by
  unfold isDone at h
  unfold notCh
  rw [of_decide_eq_true h]
  decide
theorem sols_ans : ∀ rows : List Nod, sols rows zf0 = ((rows.filter notCh).map ansR).filterMap fun a => a.2.map fun z => (a.1, z)
  | [] => rfl
  | r :: rows => by
    have ih := sols_ans rows
    unfold sols at ih ⊢
    cases e : isDone r with
    | true =>
      rw [List.filter_cons, if_pos e, List.filter_cons, if_pos (done_not e), List.map_cons, List.map_cons, List.filterMap_cons, ih]
      simp [ansR, e]
    | false =>
      rw [List.filter_cons, if_neg (by simp [e]), List.filter_cons, ih]
      split
      · rw [List.map_cons, List.filterMap_cons]
        simp [ansR, e]
      · rfl
theorem fnd_ans {names order : List Str} {bad : Option Int} (due : List (List Bool × List Int)) : (due.map (fA names order bad [])).filterMap (fun a => a.2.map fun z => (a.1, z)) = fnd names order bad due := by
  unfold fnd
  rw [List.filterMap_map]
  rfl
/-- the letters of a shape -/
theorem cnt_rep (c : Nat) (hc : c ≠ 41) (n : Nat) : cnt c (TL.tl (repS ")" n)) = 0 := by
  refine cnt_none c _ fun h => hc ?_
  have e : TL.tl (repS ")" n) = (List.replicate n [41]).flatten := by
    show (Array.toList _) = _
    unfold repS
    rw [fold_toList]
    rfl
  rw [e] at h
  obtain ⟨l, h1, h2⟩ := List.mem_flatten.mp h
  rw [List.eq_of_mem_replicate h1] at h2
  exact List.mem_singleton.mp h2
def wgt (c : Nat) (r : Nod) : Int := if r.2.ask = "choosing" then 0 else cnt c (TL.tl (ltr r))
theorem cnt_shp (c : Nat) (h41 : c ≠ 41) (h40 : c ≠ 40) : ∀ (rows : List Nod) (d : Nat), cnt c ((shp rows d).1.map TL.tl).flatten = (rows.map (wgt c)).foldr (· + ·) 0
  | [], d => by show cnt c ([] : List Nat) = 0; rfl
  | r :: rs, d => by
    have e40 : cnt c (TL.tl "(") = 0 := by
      refine cnt_none c _ fun h => h40 ?_
      exact List.mem_singleton.mp h
    unfold shp
    split
    · rename_i q
      rw [List.map_cons, List.map_cons, List.flatten_cons, List.flatten_cons, cnt_append, cnt_append, cnt_rep c h41, cnt_shp c h41 h40 rs, e40]
      rw [List.map_cons, List.foldr_cons, wgt, if_pos q]
      omega
    · rename_i q
      rw [List.map_cons, List.map_cons, List.flatten_cons, List.flatten_cons, cnt_append, cnt_append, cnt_rep c h41, cnt_shp c h41 h40 rs]
      rw [List.map_cons, List.foldr_cons, wgt, if_neg q]
      omega
def shpT (rows : List Nod) : Str := Txt.join "" (shp rows 0).1 ++ repS ")" (shp rows 0).2
theorem cnt_shpT (c : Nat) (h41 : c ≠ 41) (h40 : c ≠ 40) (rows : List Nod) : Txt.count (shpT rows) ⟨#[c]⟩ = (rows.map (wgt c)).foldr (· + ·) 0 := by
  rw [count_cnt]
  have e : (shpT rows).cps.toList = TL.tl (Txt.join "" (shp rows 0).1) ++ TL.tl (repS ")" (shp rows 0).2) := by
    show (Array.toList (_ ++ _)) = _
    rw [Array.toList_append]
  rw [e, cnt_append, cnt_rep c h41, tl_joinE, cnt_shp c h41 h40]
  omega
theorem cd1 : cnt 100 (TL.tl "d") = 1 := by rw [show TL.tl "d" = [100] from rfl, cnt_cons, cnt_nil]; rfl
theorem cd2 : cnt 100 (TL.tl "f") = 0 := by rw [show TL.tl "f" = [102] from rfl, cnt_cons, cnt_nil]; rfl
theorem cf1 : cnt 102 (TL.tl "d") = 0 := by rw [show TL.tl "d" = [100] from rfl, cnt_cons, cnt_nil]; rfl
theorem cf2 : cnt 102 (TL.tl "f") = 1 := by rw [show TL.tl "f" = [102] from rfl, cnt_cons, cnt_nil]; rfl
def somes (X : List (List Bool × Option (List Int))) : Nat := (X.filter fun a => a.2.isSome).length
theorem wsum : ∀ rows : List Nod, (rows.map (wgt 100)).foldr (· + ·) 0 = (somes ((rows.filter notCh).map ansR) : Int) ∧ (rows.map (wgt 102)).foldr (· + ·) 0 = (((rows.filter notCh).map ansR).length : Int) - (somes ((rows.filter notCh).map ansR) : Int)
  | [] => ⟨rfl, rfl⟩
  | r :: rows => by
    obtain ⟨i1, i2⟩ := wsum rows
    rw [List.map_cons, List.foldr_cons, List.map_cons, List.foldr_cons, i1, i2]
    by_cases q : r.2.ask = "choosing"
    · have n1 : notCh r = false := by unfold notCh; rw [decide_eq_true q]; rfl
      rw [wgt, wgt, if_pos q, if_pos q, List.filter_cons, if_neg (by rw [n1]; decide)]
      constructor <;> omega
    · have n1 : notCh r = true := by unfold notCh; rw [decide_eq_false q]; rfl
      rw [wgt, wgt, if_neg q, if_neg q, List.filter_cons, if_pos n1, List.map_cons]
      by_cases d : r.2.ask = "done"
      · have d1 : isDone r = true := decide_eq_true d
        have s1 : ∀ X, somes (ansR r :: X) = somes X + 1 := fun X => by
          unfold somes
          rw [List.filter_cons, if_pos (by unfold ansR; rw [d1]; rfl)]
          rfl
        rw [show ltr r = "d" from if_pos d, cd1, cf1, s1, List.length_cons]
        push_cast
        constructor <;> omega
      · have d1 : isDone r = false := decide_eq_false d
        have s1 : ∀ X, somes (ansR r :: X) = somes X := fun X => by
          unfold somes
          rw [List.filter_cons, if_neg (by unfold ansR; rw [d1]; simp)]
        rw [show ltr r = "f" from if_neg d, cd2, cf2, s1, List.length_cons]
        push_cast
        constructor <;> omega
theorem somes_fnd {names order : List Str} {bad : Option Int} : ∀ due : List (List Bool × List Int), somes (due.map (fA names order bad [])) = (fnd names order bad due).length
  | [] => rfl
  | q :: due => by
    have ih := somes_fnd (names := names) (order := order) (bad := bad) due
    unfold somes at ih ⊢
    unfold fnd at ih ⊢
    rw [List.map_cons, List.filter_cons, List.filterMap_cons]
    cases e : ansO names order bad q.2 with
    | none =>
      rw [if_neg (by show ¬ (ansO names order bad q.2).isSome = true; rw [e]; decide), ih]
      rfl
    | some z =>
      rw [if_pos (by show (ansO names order bad q.2).isSome = true; rw [e]; rfl)]
      show List.length _ + 1 = List.length _ + 1
      rw [ih]
theorem law_plain {m p : Nat} {order : List Str} {dom : Str → List Int} {bad : Option Int} (h1 : 1 ≤ m) (h3 : m ≤ 3) (hp : order.Perm (nml m)) (hl : p ≤ m) (hd : ∀ x ∈ nml m, dom x ≠ [] ∧ (dom x).length ≤ 4 ∧ ∀ v ∈ dom x, 0 ≤ v ∧ v ≤ 5) :
    ∃ rows, Srch 0 [([], iniM (nml m ++ [("S" : Str)]) (sq ((thS (nml m) order dom bad p).map Sm.thr)))] rows ∧ rows.length ≤ 127 ∧ (∀ r ∈ rows, AskOk r) ∧ (∀ r ∈ rows, Fine zf0 r) ∧
      sols rows zf0 = fnd (nml m) order bad (prd (order.map dom)) ∧
      Txt.count (shpT rows) "d" = ((fnd (nml m) order bad (prd (order.map dom))).length : Int) ∧
      Txt.count (shpT rows) "f" = ((prd (order.map dom)).length : Int) - ((fnd (nml m) order bad (prd (order.map dom))).length : Int) := by
  obtain ⟨rows, r1, r2, r3, r4⟩ := law_rows (bad := bad) h1 h3 hp hl hd
  obtain ⟨w1, w2⟩ := wsum rows
  rw [r4, somes_fnd] at w1 w2
  rw [List.length_map] at w2
  refine ⟨rows, r1, r2, fun r hr => (r3 r hr).1, fun r hr => (r3 r hr).2, ?_, ?_, ?_⟩
  · rw [sols_ans, r4, fnd_ans]
  · rw [show ("d" : Str) = ⟨#[100]⟩ from rfl, cnt_shpT 100 (by decide) (by decide), w1]
  · rw [show ("f" : Str) = ⟨#[102]⟩ from rfl, cnt_shpT 102 (by decide) (by decide), w2]
end Lw
/-! ### the choices, built name by name -/
namespace Lw
open PySem PySem.Spec PyProof.Rows L2
def stepD (a : List Bool × List Int) (b : List Bool × Int) : List Bool × List Int := (a.1 ++ b.1, a.2 ++ [b.2])
theorem prd_snoc : ∀ (cs : List (List Int)) (vs : List Int), prd (cs ++ [vs]) = (prd cs).flatMap fun a => (pths vs).map (stepD a)
  | [], vs => by
    show (pths vs).flatMap (fun a => [(a.1 ++ [], a.2 :: [])]) = [([], [])].flatMap fun a => (pths vs).map (stepD a)
    rw [List.flatMap_cons, List.flatMap_nil, List.append_nil]
    induction pths vs with
    | nil => rfl
    | cons a l ih => rw [List.flatMap_cons, ih, List.map_cons]; simp [stepD]
  | c :: cs, vs => by
    show (pths c).flatMap (fun a => (prd (cs ++ [vs])).map fun b => (a.1 ++ b.1, a.2 :: b.2)) = ((pths c).flatMap fun a => (prd cs).map fun b => (a.1 ++ b.1, a.2 :: b.2)).flatMap _
    rw [prd_snoc cs vs]
    simp [List.flatMap_assoc, List.map_flatMap, List.flatMap_map, Function.comp_def, List.append_assoc, show ∀ a, stepD a = fun b => (a.1 ++ b.1, a.2 ++ [b.2]) from fun _ => rfl]
theorem prd_mem : ∀ (cs : List (List Int)) (q : List Bool × List Int), q ∈ prd cs → q.2.length = cs.length ∧ ((∀ c ∈ cs, ∀ v ∈ c, 0 ≤ v ∧ v ≤ 5) → ∀ z ∈ q.2, 0 ≤ z ∧ z ≤ 5) ∧ ((∀ c ∈ cs, c.length ≤ 4) → q.1.length ≤ 4 * cs.length)
  | [], q, h => by
    cases List.mem_singleton.mp h
    exact ⟨rfl, fun _ _ hz => (nomatch hz), fun _ => Nat.le_refl 0⟩
  | c :: cs, q, h => by
    obtain ⟨a, ha, hq⟩ := List.mem_flatMap.mp h
    obtain ⟨b, hb, rfl⟩ := List.mem_map.mp hq
    obtain ⟨i1, i2, i3⟩ := prd_mem cs b hb
    obtain ⟨i, hi, rfl⟩ := List.mem_map.mp ha
    have hl := List.mem_range.mp hi
    refine ⟨by show b.2.length + 1 = cs.length + 1; rw [i1], fun hc z hz => ?_, fun hc => ?_⟩
    · rcases List.mem_cons.mp hz with rfl | hz
      · refine hc c (List.mem_cons_self ..) _ ?_
        show c.getD i 0 ∈ c
        rw [List.getD_eq_getElem?_getD, List.getElem?_eq_getElem hl]
        exact List.getElem_mem _
      · exact i2 (fun d hd => hc d (List.mem_cons_of_mem _ hd)) z hz
    · have k1 := i3 fun d hd => hc d (List.mem_cons_of_mem _ hd)
      have k2 := hc c (List.mem_cons_self ..)
      show (_ ++ b.1).length ≤ 4 * (cs.length + 1)
      rw [List.length_append]
      have : (List.replicate i true ++ List.replicate (if i + 1 < c.length then 1 else 0) false).length ≤ 4 := by
        simp only [List.length_append, List.length_replicate]
        split <;> omega
      show (List.replicate i true ++ List.replicate (if i + 1 < c.length then 1 else 0) false).length + b.1.length ≤ _
      omega
def kvZ (xs : List Str) (zs : List Int) : List (Key × V) := (xs.zip zs).map fun p => (Sum.inr p.1, V.int p.2)
theorem kvZ_len (xs : List Str) (zs : List Int) : (kvZ xs zs).length ≤ xs.length := by
  unfold kvZ
  rw [List.length_map, List.length_zip]
  omega
theorem kvZ_none : ∀ (xs : List Str) (zs : List Int) (x : Str), x ∉ xs → valV (kvZ xs zs) (Sum.inr x) = none
  | [], _, _, _ => rfl
  | y :: xs, [], x, _ => rfl
  | y :: xs, z :: zs, x, h => by
    have e1 : valV (kvZ (y :: xs) (z :: zs)) (Sum.inr x) = valV (kvZ xs zs) (Sum.inr x) := valV_neg (p := ((Sum.inr y : Key), V.int z)) (fun e => h (by rw [Sum.inr.inj e]; exact List.mem_cons_self ..))
    rw [e1]
    exact kvZ_none xs zs x fun hm => h (List.mem_cons_of_mem _ hm)
theorem kvZ_get : ∀ (xs : List Str) (zs : List Int) (x : Str), xs.length = zs.length → x ∈ xs → valV (kvZ xs zs) (Sum.inr x) = some (V.int (zs.getD (xs.idxOf x) 0))
  | y :: xs, z :: zs, x, hl, h => by
    by_cases e : y = x
    · subst e
      rw [List.idxOf_cons_self]
      exact valV_pos (p := ((Sum.inr y : Key), V.int z)) rfl
    · have e1 : valV (kvZ (y :: xs) (z :: zs)) (Sum.inr x) = valV (kvZ xs zs) (Sum.inr x) := valV_neg (p := ((Sum.inr y : Key), V.int z)) (fun q => e (Sum.inr.inj q))
      rw [e1, kvZ_get xs zs x (by simpa using hl) (by
        rcases List.mem_cons.mp h with q | q
        · exact absurd q.symm e
        · exact q), List.idxOf_cons, show (y == x) = false from beq_eq_false_iff_ne.mpr e]
      rfl
theorem kvZ_put {xs : List Str} {zs : List Int} {x : Str} (z : Int) (hl : xs.length = zs.length) (h : x ∉ xs) : putK (kvZ xs zs) (Sum.inr x) (V.int z) = kvZ (xs ++ [x]) (zs ++ [z]) := by
  rw [putK_new _ (kvZ_none xs zs x h)]
  unfold kvZ
  rw [List.zip_append hl, List.map_append]
  rfl
theorem isum_sum : ∀ l : List Int, isum l = l.sum
  | [] => rfl
  | a :: l => by rw [isum_cons, List.sum_cons, isum_sum l]
end Lw
/-! ### the law's own def: its frame -/
namespace Lw
open PySem PySem.Spec PyProof.Rows L2
def NL : List Str := ["_law_script", "_law_stream_here", "_law_names", "_law_order", "_law_at", "_law_other", "_law_domains", "_law_name", "_law_k", "_law_bad", "_law_rows", "_law_body", "_law_row", "_law_due", "_law_longer", "_law_path", "_law_env", "_law_more", "_law_value", "_law_inner", "_law_found", "_law_total", "_law_program", "_law_letters"]
theorem scL : FnScope NL ["_law_script"] (defScope s_law) := ⟨rfl, rfl, rfl, by decide +kernel, rfl, by decide +kernel, by decide +kernel⟩
abbrev LX (P : Program) (w : World) (K : PySem.W.Frag) (mg : Str → Option Value) (base : Heap) (cdv : Value) (A : Around) (outer : List Env) (s : Shared) (H : Hp) (E : XK) : Cx :=
  (cxOf CX0 P w K mg base NL "law" (defScope s_law) (He.fAd K ("law", none)) cdv A outer s H E).nox
abbrev RmL (K : PySem.W.Frag) (cdv : Value) (A : Around) (s : Shared) : Prop := Room 12 (A.deeper (envOfC "law" (defScope s_law) s.heap.objs.size (He.fAd K ("law", none)) cdv))
abbrev lawS (i : Nat) : Stmt := ((defBody s_law)[i]?).getD (.Pass ⟨0, 0, 0, 0⟩)
abbrev Pr := List (Option V) → Hp → Prop
/-- a stretch of statements takes states of one kind to states of the next -/
def Seg (X : Cx) (sts : List Stmt) (Pre Post : Pr) : Prop :=
  ∃ t : TS → TS, (∀ rest u, PSs X rest u → PSs X (sts ++ rest) (t u)) ∧ ∀ u D σ H, Pre σ H → (∀ σ' H', Post σ' H' → u D σ' H') → t u D σ H
theorem Seg.one {X : Cx} {st : Stmt} {t : TS} {Pre Post : Pr} (h : PS X st t) (r : ∀ D σ H, Pre σ H → (∀ σ' H', Post σ' H' → D.nx σ' H') → t D σ H) : Seg X [st] Pre Post :=
  ⟨fun u => tSeq t u, fun rest u hu => pss_cons h hu, fun u D σ H hp k => r _ σ H hp k⟩
theorem Seg.app {X : Cx} {a b : List Stmt} {p q r : Pr} (h1 : Seg X a p q) (h2 : Seg X b q r) : Seg X (a ++ b) p r := by
  obtain ⟨t1, p1, q1⟩ := h1
  obtain ⟨t2, p2, q2⟩ := h2
  exact ⟨fun u => t1 (t2 u), fun rest u hu => by rw [List.append_assoc]; exact p1 _ _ (p2 _ _ hu), fun u D σ H hp k => q1 _ D σ H hp fun σ' H' h => q2 u D σ' H' h k⟩
/-- the i-th local's value -/
def Vr (σ : List (Option V)) (i : Nat) (v : V) : Prop := σ[i]? = some (some v)
theorem Vr.ne {σ : List (Option V)} {i j : Nat} {v : V} {x : Option V} (h : Vr σ i v) (n : j ≠ i) : Vr (σ.set j x) i v := by
  unfold Vr at *
  rw [List.getElem?_set_ne n]
  exact h
theorem Vr.same {σ : List (Option V)} {i : Nat} {v : V} (h : i < σ.length) : Vr (σ.set i (some v)) i v := by
  unfold Vr
  rw [List.getElem?_set_self h]
theorem sig_set {σ : List (Option V)} {n i : Nat} {x : Option V} (h : σ.length = n) : (σ.set i x).length = n := by rw [List.length_set]; exact h
end Lw
/-! ### law: the stream, the names, their order -/
namespace Lw
open PySem PySem.Spec PyProof.Rows L2
structure LA (σ : List (Option V)) (H : Hp) (st sl nl ol : Addr) (m : Nat) (order : List Str) (s : St4) : Prop where
  n : σ.length = 24
  v1 : Vr σ 1 (.ref st)
  v2 : Vr σ 2 (.ref nl)
  v3 : Vr σ 3 (.ref ol)
  hs : StAt H st sl s
  ok : s.Ok
  hn : H nl = some (.lst ((nml m).map V.str))
  ho : H ol = some (.lst (order.map V.str))
  pm : order.Perm (nml m)
  m1 : 1 ≤ m
  m3 : m ≤ 3
  n1 : nl ≠ st
  n2 : ol ≠ st
  n3 : nl ≠ ol
theorem StAt.ex {H H' : Hp} (e : Ex H H') {a l : Addr} {s : St4} (h : StAt H a l s) : StAt H' a l s := ⟨e _ _ h.1, e _ _ h.2.1, h.2.2⟩
theorem StAt.has {H : Hp} {a l : Addr} {s : St4} (h : StAt H a l s) : ∃ o, H a = some o := ⟨_, h.1⟩
section
variable {P : Program} {w : World} {K : PySem.W.Frag} {mg : Str → Option Value} {base : Heap} {cdv : Value} {A : Around} {outer : List Env} {s0 : Shared} {H0 : Hp} {E : XK}
theorem seg_0 (T : Tx K mg) (hr : RmL K cdv A s0) (nn : Nat) : Seg (LX P w K mg base cdv A outer s0 H0 E) [lawS 0]
    (fun σ H => ∃ (a : Addr) (ns : List Int), σ.length = 24 ∧ Vr σ 0 (.ref a) ∧ SqL K H a (ns.map V.int) ∧ ns.length ≤ 1000)
    (fun σ H => ∃ (st sl : Addr) (s : St4), σ.length = 24 ∧ Vr σ 1 (.ref st) ∧ StAt H st sl s ∧ s.Ok) := by
  have sc := scL
  refine Seg.one (ps_set (i := 1) sc.nd rfl (Or.inr rfl) (pe_c (f_stream T) hr (pa_cons (pv 0) pa_nil))) (fun D σ H h k => ?_)
  obtain ⟨a, ns, h1, h2, h3, h4⟩ := h
  exact ⟨_, h2, a, ns, rfl, h3, h4, fun p l H' x hp hs => k _ _ ⟨p, l, _, sig_set h1, Vr.same (by omega), hs, iniS_Ok h4⟩⟩
theorem seg_1 (T : Tx K mg) (hr : RmL K cdv A s0) : Seg (LX P w K mg base cdv A outer s0 H0 E) [lawS 1]
    (fun σ H => ∃ (st sl : Addr) (s : St4), σ.length = 24 ∧ Vr σ 1 (.ref st) ∧ StAt H st sl s ∧ s.Ok)
    (fun σ H => ∃ (st sl nl : Addr) (m : Nat) (s : St4), σ.length = 24 ∧ Vr σ 1 (.ref st) ∧ Vr σ 2 (.ref nl) ∧ StAt H st sl s ∧ s.Ok ∧ H nl = some (.lst ((nml m).map V.str)) ∧ 1 ≤ m ∧ m ≤ 3 ∧ nl ≠ st) := by
  have sc := scL
  refine Seg.one (ps_set (i := 2) sc.nd rfl (Or.inl rfl) (pe_slice sl_list (pe_lst (pa_cons pe_str (pa_cons pe_str (pa_cons pe_str pa_nil)))) po_none
    (po_some (pe_op op_add pe_int (pe_c (f_draw T) hr (pa_cons (pv 1) (pa_cons pe_int pa_nil))))))) (fun D σ H h k => ?_)
  obtain ⟨st, sl, s, h1, h2, h3, h4⟩ := h
  refine ⟨sz (by simp), fun l hl => ⟨_, h2, st, sl, s, 3, rfl, h3.ex (Ex.new hl), h4, by decide, by decide, fun H' hs b => ?_⟩⟩
  obtain ⟨o4, o5⟩ := drw_Ok h4 3 (by decide)
  have nl : l ≠ st := fun z => by obtain ⟨o, ho⟩ := h3.has; rw [z, ho] at hl; cases hl
  have hl' := b _ _ (upd_same : upd H l (HO.lst [.str "X", .str "Y", .str "Z"]) l = some _) (by simp; exact nl)
  refine ⟨_, _, rfl, rfl, _, rfl, l, _, rfl, SqL.of hl', fun p hp => ?_⟩
  have np : p ≠ st := fun z => by obtain ⟨o, ho⟩ := hs.has; rw [z, ho] at hp; cases hp
  refine k _ _ ⟨st, sl, p, 1 + (drw 3 s).1, _, sig_set h1, h2.ne (by decide), Vr.same (by omega), hs.ex (Ex.new hp), o4, ?_, by omega, by omega, np⟩
  rw [upd_same]
  have : ∀ j, j < 3 → cutV [V.str "X", V.str "Y", V.str "Z"] none (some (1 + ((j : Nat) : Int))) = (nml (1 + j)).map V.str := by
    intro j hj
    match j, hj with
    | 0, _ => rfl
    | 1, _ => rfl
    | 2, _ => rfl
  rw [← this _ o5]
theorem seg_2 (T : Tx K mg) (hr : RmL K cdv A s0) : Seg (LX P w K mg base cdv A outer s0 H0 E) [lawS 2]
    (fun σ H => ∃ (st sl nl : Addr) (m : Nat) (s : St4), σ.length = 24 ∧ Vr σ 1 (.ref st) ∧ Vr σ 2 (.ref nl) ∧ StAt H st sl s ∧ s.Ok ∧ H nl = some (.lst ((nml m).map V.str)) ∧ 1 ≤ m ∧ m ≤ 3 ∧ nl ≠ st)
    (fun σ H => ∃ st sl nl ol m order s, LA σ H st sl nl ol m order s) := by
  have sc := scL
  refine Seg.one (ps_set (i := 3) sc.nd rfl (Or.inl rfl) (pe_callTy call_list_of (by rfl) T.z_list (by decide +kernel) (pa_cons (pv 2) pa_nil))) (fun D σ H h k => ?_)
  obtain ⟨st, sl, nl, m, s, h1, h2, h3, h4, h5, h6, h7, h8, h9⟩ := h
  refine ⟨_, h3, nl, _, rfl, .inl (SqL.of h6), fun l hl => k _ _ ⟨st, sl, nl, l, m, nml m, s, sig_set h1, h2.ne (by decide), h3.ne (by decide), Vr.same (by omega), h4.ex (Ex.new hl), h5, (Ex.new hl) _ _ h6, upd_same, .refl _, h7, h8, h9, fun z => ?_, fun z => ?_⟩⟩
  · obtain ⟨o, ho⟩ := h4.has
    rw [z, ho] at hl
    cases hl
  · rw [← z, h6] at hl
    cases hl
theorem seg_3 (T : Tx K mg) (hr : RmL K cdv A s0) : Seg (LX P w K mg base cdv A outer s0 H0 E) [lawS 3]
    (fun σ H => ∃ st sl nl ol m order s, LA σ H st sl nl ol m order s)
    (fun σ H => ∃ st sl nl ol m order s, LA σ H st sl nl ol m order s) := by
  have sc := scL
  refine Seg.one (ps_for PassesOwn.never rfl (pi_range3 (by rfl) T.z_range (pa_cons (pe_op op_sub (pe_callB call_len_seq (by rfl) T.z_len PySem.boot_len (pa_cons (pv 3) pa_nil)) pe_int) (pa_cons pe_int (pa_cons (pe_un un_neg pe_int) pa_nil)))) (pg_name (i := 4) sc.nd rfl (Or.inl rfl))
    (pss_cons (ps_set (i := 5) sc.nd rfl (Or.inl rfl) (pe_c (f_draw T) hr (pa_cons (pv 1) (pa_cons (pe_op op_add (pv 4) pe_int) pa_nil))))
    (pss_one (ps_asg (pe_tup (pa_cons (pe_ix ix_list (pv 3) (pv 5) (fun _ _ => rfl)) (pa_cons (pe_ix ix_list (pv 3) (pv 4) (fun _ _ => rfl)) pa_nil))) (pg_tup rfl (pgs_cons (pg_sub (pv 3) (pv 4) set_list) (pgs_cons (pg_sub (pv 3) (pv 5) set_list) pgs_nil))))))) (fun D σ H h k => ?_)
  obtain ⟨st, sl, nl, ol, m, order, s, h⟩ := h
  have lo : order.length = m := by rw [h.pm.length_eq, nml_len h.m3]
  have lm : (order.map V.str).length = m := by rw [List.length_map, lo]
  have m1 := h.m1
  have m3 := h.m3
  refine ⟨_, h.v3, _, _, rfl, .inl (SqL.of h.ho), _, _, rfl, rfl, _, rfl, _, _, _, _, rfl, RgC.neg (by rw [lm]; omega) (by rw [lm]; omega) (by decide) (by decide), ?_⟩
  have en : (((order.map V.str).length : Nat) - 1 - 0 : Int).toNat = m - 1 := by rw [lm]; omega
  rw [en]
  refine for_it (walk_rangeC (lo := (((order.map V.str).length : Nat) - 1 : Int)) (c := -1) (n := m - 1)) (fun i σ H' => ∃ order s, LA σ H' st sl nl ol m order s) ⟨order, s, h⟩ (fun _ _ _ _ _ => trivial) (fun i x σ H' H5 hi q y => ?_) (fun σ H5 q => ?_)
  · obtain ⟨os, s, h⟩ := q
    obtain ⟨rfl, rfl⟩ := y
    have lo : os.length = m := by rw [h.pm.length_eq, nml_len h.m3]
    have eI : ((((order.map V.str).length : Nat) - 1 : Int) + (i : Nat) * (-1)) = ((m - 1 - i : Nat) : Int) := by rw [lm]; omega
    obtain ⟨o4, o5⟩ := drw_Ok h.ok (m - 1 - i + 1) (by omega)
    have bi : m - 1 - i < os.length := by omega
    have bj : (drw (m - 1 - i + 1) s).1 < os.length := by omega
    show gName 4 (V.int ((((order.map V.str).length : Nat) - 1 : Int) + (i : Nat) * (-1))) σ H5 _
    rw [eI]
    refine ⟨_, h.v1.ne (by decide), _, Vr.same (by rw [h.n]; decide), _, _, rfl, rfl, st, sl, s, m - 1 - i + 1, rfl, h.hs, h.ok, by omega, by omega, fun H6 hs6 b6 => ?_⟩
    have ho6 := b6 _ _ h.ho (by simp; exact h.n2)
    have hn6 := b6 _ _ h.hn (by simp; exact h.n1)
    have ei : os[m - 1 - i]? = some os[m - 1 - i] := List.getElem?_eq_getElem bi
    have ej : os[(drw (m - 1 - i + 1) s).1]? = some os[(drw (m - 1 - i + 1) s).1] := List.getElem?_eq_getElem bj
    have l1 : ((σ.set 4 (some (V.int ((m - 1 - i : Nat) : Int)))).set 5 (some (nV (drw (m - 1 - i + 1) s).1))).length = 24 := sig_set (sig_set h.n)
    have w3 : Vr ((σ.set 4 (some (V.int ((m - 1 - i : Nat) : Int)))).set 5 (some (nV (drw (m - 1 - i + 1) s).1))) 3 (.ref ol) := (h.v3.ne (by decide)).ne (by decide)
    have w4 : Vr ((σ.set 4 (some (V.int ((m - 1 - i : Nat) : Int)))).set 5 (some (nV (drw (m - 1 - i + 1) s).1))) 4 (V.int ((m - 1 - i : Nat) : Int)) := (Vr.same (by rw [h.n]; decide)).ne (by decide)
    have w5 : Vr ((σ.set 4 (some (V.int ((m - 1 - i : Nat) : Int)))).set 5 (some (nV (drw (m - 1 - i + 1) s).1))) 5 (nV (drw (m - 1 - i + 1) s).1) := Vr.same (by rw [sig_set h.n]; decide)
    refine ⟨_, w3, _, w5, _, _, _, _, rfl, rfl, SqL.of ho6, atI_nat (by rw [List.getElem?_map, ej]; rfl), _, w3, _, w4, _, _, _, _, rfl, rfl, SqL.of ho6, atI_nat (by rw [List.getElem?_map, ei]; rfl), sz (by simp), fun t ht => ?_⟩
    have et := Ex.new (o := .tup [.str os[(drw (m - 1 - i + 1) s).1], .str os[m - 1 - i]]) ht
    have ix : ∀ (xs : List V) (j : Nat), j < xs.length → ixN xs.length (j : Int) = some j := fun xs j hj => by
      unfold ixN
      rw [if_pos (by omega), if_pos (by omega), Int.toNat_natCast]
    refine ⟨_, _, rfl, SqT.of upd_same, rfl, _, _, rfl, ⟨_, w3, _, w4, ol, _, _, _, rfl, rfl, et _ _ ho6, ix _ _ (by rw [List.length_map]; exact bi), ?_⟩⟩
    refine ⟨_, _, rfl, ⟨_, w3, _, w5, ol, _, _, _, rfl, rfl, upd_same, ix _ _ (by rw [List.length_set, List.length_map]; exact bj), rfl, ?_⟩⟩
    have bb : But [ol] H6 (upd (upd (upd H6 t (.tup [.str os[(drw (m - 1 - i + 1) s).1], .str os[m - 1 - i]])) ol (.lst ((os.map V.str).set (m - 1 - i) (.str os[(drw (m - 1 - i + 1) s).1])))) ol (.lst (((os.map V.str).set (m - 1 - i) (.str os[(drw (m - 1 - i + 1) s).1])).set (drw (m - 1 - i + 1) s).1 (.str os[m - 1 - i])))) :=
      et.but.trans ((But.set (by simp)).trans (But.set (by simp)))
    refine ⟨(os.set (m - 1 - i) os[(drw (m - 1 - i + 1) s).1]).set (drw (m - 1 - i + 1) s).1 os[m - 1 - i], _, ⟨l1, (h.v1.ne (by decide)).ne (by decide), (h.v2.ne (by decide)).ne (by decide), w3, ?_, o4, bb _ _ hn6 ?_, ?_, (List.set_set_perm bi bj).trans h.pm, h.m1, h.m3, h.n1, h.n2, h.n3⟩⟩
    · obtain ⟨q1, q2, q3⟩ := hs6
      refine ⟨bb _ _ q1 (by simp; exact h.n2.symm), bb _ _ q2 ?_, q3⟩
      intro z
      rw [List.mem_singleton.mp z, ho6] at q2
      have q2 := HO.lst.inj (Option.some.inj q2)
      have e1 : (os.map V.str)[m - 1 - i]? = some (V.str os[m - 1 - i]) := by rw [List.getElem?_map, ei]; rfl
      rw [q2, List.getElem?_map] at e1
      obtain ⟨c, _, e2⟩ := Option.map_eq_some_iff.mp e1
      cases e2
    · simp
      exact h.n3
    · rw [upd_same, List.map_set, List.map_set]
  · obtain ⟨os, s, h⟩ := q
    exact k _ _ ⟨st, sl, nl, ol, m, os, s, h⟩
end
end Lw
/-! ### law: the domains -/
namespace Lw
open PySem PySem.Spec PyProof.Rows L2
def DomOk (z : List Int) : Prop := z ≠ [] ∧ z.length ≤ 4 ∧ ∀ v ∈ z, 0 ≤ v ∧ v ≤ 5
def DomAt (H : Hp) (dm st : Addr) (names : List Str) (dom : Str → List Int) : Prop :=
  ∃ kvs, H dm = some (.dK kvs) ∧ kvs.length ≤ names.length ∧ ∀ x ∈ names, (∃ l, valV kvs (Sum.inr x) = some (.ref l) ∧ H l = some (.lst ((dom x).map V.int)) ∧ l ≠ st) ∧ DomOk (dom x)
theorem StAt.but {H H' : Hp} {st sl dm : Addr} {s : St4} {kvs : List (Key × V)} (h : StAt H st sl s) (b : But [dm] H H') (hd : H dm = some (.dK kvs)) : StAt H' st sl s := by
  obtain ⟨h1, h2, h3⟩ := h
  refine ⟨b _ _ h1 fun z => ?_, b _ _ h2 fun z => ?_, h3⟩
  · rw [List.mem_singleton.mp z, hd] at h1; cases h1
  · rw [List.mem_singleton.mp z, hd] at h2; cases h2
theorem wipe1 {σ : List (Option V)} {i : Nat} {x : Option V} : wipe ((wipe σ [i]).set i x) [i] = wipe σ [i] := by
  show List.set (List.set (List.set σ i none) i x) i none = List.set σ i none
  rw [List.set_set, List.set_set]
theorem Vr.cmp {σ : List (Option V)} {i j : Nat} {v : V} {x : Option V} (h : Vr σ i v) (n : j ≠ i) : Vr ((wipe σ [j]).set j x) i v := Vr.ne (Vr.ne h n) n
theorem Vr.cmpS {σ : List (Option V)} {j : Nat} {v : V} (h : j < σ.length) : Vr ((wipe σ [j]).set j (some v)) j v := Vr.same (by show j < (List.set σ j none).length; rw [List.length_set]; exact h)
section
variable {P : Program} {w : World} {K : PySem.W.Frag} {mg : Str → Option Value} {base : Heap} {cdv : Value} {A : Around} {outer : List Env} {s0 : Shared} {H0 : Hp} {E : XK}
theorem seg_4 (T : Tx K mg) (hr : RmL K cdv A s0) : Seg (LX P w K mg base cdv A outer s0 H0 E) [lawS 4]
    (fun σ H => ∃ st sl nl ol m order s, LA σ H st sl nl ol m order s)
    (fun σ H => ∃ st sl nl ol m order s dm dom, LA σ H st sl nl ol m order s ∧ Vr σ 6 (.ref dm) ∧ DomAt H dm st ((nml m).take 0) dom) := by
  have sc := scL
  refine Seg.one (ps_set (i := 6) sc.nd rfl (Or.inr rfl) pe_dnewK) (fun D σ H h k => ?_)
  obtain ⟨st, sl, nl, ol, m, order, s, h⟩ := h
  refine fun p hp => k _ _ ⟨st, sl, nl, ol, m, order, s, p, fun _ => [], ?_, Vr.same (by rw [h.n]; decide), [], upd_same, Nat.le_refl _, fun x hx => by simp at hx⟩
  have e := Ex.new (o := .dK []) hp
  exact ⟨sig_set h.n, h.v1.ne (by decide), h.v2.ne (by decide), h.v3.ne (by decide), h.hs.ex e, h.ok, e _ _ h.hn, e _ _ h.ho, h.pm, h.m1, h.m3, h.n1, h.n2, h.n3⟩
theorem seg_5 (T : Tx K mg) (hr : RmL K cdv A s0) : Seg (LX P w K mg base cdv A outer s0 H0 E) [lawS 5]
    (fun σ H => ∃ st sl nl ol m order s dm dom, LA σ H st sl nl ol m order s ∧ Vr σ 6 (.ref dm) ∧ DomAt H dm st ((nml m).take 0) dom)
    (fun σ H => ∃ st sl nl ol m order s dm dom, LA σ H st sl nl ol m order s ∧ Vr σ 6 (.ref dm) ∧ DomAt H dm st (nml m) dom) := by
  have sc := scL
  have hu := hu_of hr
  refine Seg.one (ps_for PassesOwn.never rfl (pi_list (pv 2)) (pg_name (i := 7) sc.nd rfl (Or.inl rfl))
    (pss_one (ps_dput hu (pv 6) (pv 7) (pe_lc (own := [("_law_k", 8)]) (g := gName 8) (te := tCl spDraw (tCons (tVar 1) (tCons (tC (.int 6)) tNil))) rfl sc.nd
      (pi_range1 (by rfl) T.z_range (pa_cons (pe_op op_add pe_int (pe_c (f_draw T) hr (pa_cons (pv 1) (pa_cons pe_int pa_nil)))) pa_nil))
      (blkOk_by (N := NL) (sc := defScope s_law) (by decide +kernel)) (fun _ _ _ _ _ => pg_name (i := 8) sc.nd rfl (Or.inl rfl)) (fun _ _ _ _ _ => pts_nil)
      (fun _ _ _ _ _ => pe_c (f_draw T) hr (pa_cons (pv 1) (pa_cons pe_int pa_nil)))) rfl))) (fun D σ H h k => ?_)
  obtain ⟨st, sl, nl, ol, m, order, s, dm, dom, h, h6, hd⟩ := h
  refine ⟨_, h.v2, _, rfl, ⟨_, SqL.of h.hn⟩, ?_⟩
  refine for_it (walk_list (K := K) (a := nl) (xs := (nml m).map V.str)) (fun i σ H' => ∃ s dom, LA σ H' st sl nl ol m order s ∧ Vr σ 6 (.ref dm) ∧ DomAt H' dm st ((nml m).take i) dom) ⟨s, dom, h, h6, hd⟩ (fun i σ H' _ q => by obtain ⟨_, _, q, _⟩ := q; exact SqL.of q.hn) (fun i x σ H' H5 hi q y => ?_) (fun σ H5 q => ?_)
  · obtain ⟨s, dom, h, h6, hd⟩ := q
    obtain ⟨rfl, hx⟩ := y
    rw [List.length_map] at hi
    have eo : (nml m)[i]? = some (nml m)[i] := List.getElem?_eq_getElem hi
    rw [List.getElem?_map, eo] at hx
    cases hx
    generalize (nml m)[i] = x at *
    have l24 : (σ.set 7 (some (V.str x))).length = 24 := sig_set h.n
    have g1 : Vr (σ.set 7 (some (V.str x))) 1 (.ref st) := h.v1.ne (by decide)
    have g6 : Vr (σ.set 7 (some (V.str x))) 6 (.ref dm) := h6.ne (by decide)
    have g7 : Vr (σ.set 7 (some (V.str x))) 7 (.str x) := Vr.same (by rw [h.n]; decide)
    refine ⟨_, g1, st, sl, s, 4, rfl, h.hs, h.ok, by decide, by decide, fun H1 hs1 b1 => ⟨_, _, rfl, rfl, _, rfl, ?_, ?_, fun R hR => ?_⟩⟩
    · have := (drw_Ok h.ok 4 (by decide)).2; omega
    · have := (drw_Ok h.ok 4 (by decide)).2; omega
    obtain ⟨o4, o5⟩ := drw_Ok h.ok 4 (by decide)
    rw [show ((1 : Int) + ((drw 4 s).1 : Int)).toNat = 1 + (drw 4 s).1 by omega]
    refine lc_it (walk_range (lo := 0) (n := 1 + (drw 4 s).1)) (fun j H' => ∃ zs s', StAt H' st sl s' ∧ s'.Ok ∧ But [st, R] H1 H' ∧ H' R = some (.lst (zs.map V.int)) ∧ zs.length = j ∧ ∀ v ∈ zs, 0 ≤ v ∧ v ≤ 5) ⟨[], _, hs1.ex (Ex.new hR), o4, (Ex.new hR).but, upd_same, rfl, fun _ z => (nomatch z)⟩ (fun _ _ _ _ => trivial) (fun j y H2 H5 hj q y => ?_) (fun H2 q => ?_)
    · obtain ⟨zs, s', k1, k2, k3, k4, k5, k6⟩ := q
      obtain ⟨rfl, rfl⟩ := y
      refine ⟨wipe1, _, g1.cmp (by decide), st, sl, s', 6, rfl, k1, k2, by decide, by decide, fun H3 hs3 b3 => ?_⟩
      have nR : R ≠ st := fun z => by obtain ⟨o, ho⟩ := hs1.has; rw [z, ho] at hR; cases hR
      obtain ⟨p1, p2⟩ := drw_Ok k2 6 (by decide)
      refine ⟨_, b3 _ _ k4 (by simp; exact nR), szl (by rw [List.length_map]; omega), zs ++ [((drw 6 s').1 : Int)], _, ?_, p1, k3.trans ((b3.mono (by simp)).trans (But.set (by simp))), by rw [upd_same, List.map_append]; rfl, by rw [List.length_append, k5]; rfl, fun v hv => ?_⟩
      · obtain ⟨q1, q2, q3⟩ := hs3
        refine ⟨(upd_ne nR.symm).trans q1, (upd_ne fun z => ?_).trans q2, q3⟩
        rw [← z, hs1.2.1] at hR
        cases hR
      · rcases List.mem_append.mp hv with m | m
        · exact k6 v m
        · rw [List.mem_singleton.mp m]; omega
    · obtain ⟨zs, s', k1, k2, k3, k4, k5, k6⟩ := q
      obtain ⟨kvs, d1, d2, d3⟩ := hd
      have nR : R ≠ st := fun z => by obtain ⟨o, ho⟩ := hs1.has; rw [z, ho] at hR; cases hR
      have dn : dm ≠ st := fun z => by rw [z, h.hs.1] at d1; cases d1
      have e1 := b1 _ _ d1 (by simp; exact dn)
      have dR : dm ≠ R := ne_of_none e1 hR
      have e2 := k3 _ _ e1 (by simp; exact ⟨dn, dR⟩)
      have hn1 := b1 _ _ h.hn (by simp; exact h.n1)
      have ho1 := b1 _ _ h.ho (by simp; exact h.n2)
      have hn2 := k3 _ _ hn1 (by simp; exact ⟨h.n1, ne_of_none hn1 hR⟩)
      have ho2 := k3 _ _ ho1 (by simp; exact ⟨h.n2, ne_of_none ho1 hR⟩)
      have tk : (nml m).take (i + 1) = (nml m).take i ++ [x] := by rw [List.take_succ, eo]; rfl
      have tl : ((nml m).take i).length = i := by rw [List.length_take]; omega
      have m3 := h.m3
      have nm := nml_len m3
      have lp := length_putK kvs (Sum.inr x) (V.ref R)
      have bs : But [dm] H2 (upd H2 dm (.dK (putK kvs (Sum.inr x) (V.ref R)))) := But.set (by simp)
      refine ⟨_, g6, _, g7, dm, _, rfl, DPut.k (k := Sum.inr x) (kvs := kvs) e2 (szl (by omega)), s', fun y => if y = x then zs else dom y, ⟨l24, g1, h.v2.ne (by decide), h.v3.ne (by decide), k1.but bs e2, k2, bs _ _ hn2 ?_, bs _ _ ho2 ?_, h.pm, h.m1, h.m3, h.n1, h.n2, h.n3⟩, g6, _, upd_same, ?_, fun y hy => ?_⟩
      · intro z; rw [List.mem_singleton.mp z, e2] at hn2; cases hn2
      · intro z; rw [List.mem_singleton.mp z, e2] at ho2; cases ho2
      · rw [tk, List.length_append, tl]; simp; omega
      · by_cases c : y = x
        · subst c
          refine ⟨⟨R, by rw [valV_put, if_pos rfl], ?_, nR⟩, ?_⟩
          · rw [upd_ne dR.symm, k4]; simp
          · simp only [if_pos]
            refine ⟨?_, by omega, k6⟩
            intro z
            rw [z] at k5
            simp at k5
            omega
        · have hy' : y ∈ (nml m).take i := by
            rw [tk] at hy
            rcases List.mem_append.mp hy with q | q
            · exact q
            · exact absurd (List.mem_singleton.mp q) c
          obtain ⟨⟨l, q1, q2, q3⟩, q4⟩ := d3 y hy'
          have f1 := b1 _ _ q2 (by simp; exact q3)
          have f2 := k3 _ _ f1 (by simp; exact ⟨q3, ne_of_none f1 hR⟩)
          refine ⟨⟨l, by rw [valV_put, if_neg (fun z => c (Sum.inr.inj z))]; exact q1, ?_, q3⟩, ?_⟩
          · simp only [if_neg c]
            refine bs _ _ f2 fun z => ?_
            rw [List.mem_singleton.mp z, e2] at f2
            cases f2
          · simp only [if_neg c]
            exact q4
  · obtain ⟨s, dom, h, h6, hd⟩ := q
    rw [List.take_of_length_le (by simp)] at hd
    exact k _ _ ⟨st, sl, nl, ol, m, order, s, dm, dom, h, h6, hd⟩
end
end Lw
/-! ### law: the bad sum, the rows -/
namespace Lw
open PySem PySem.Spec PyProof.Rows L2
theorem LA.draw {σ : List (Option V)} {H H' : Hp} {st sl nl ol : Addr} {m : Nat} {order : List Str} {s s' : St4} (h : LA σ H st sl nl ol m order s) (hs : StAt H' st sl s') (ok : s'.Ok) (b : But [st] H H') : LA σ H' st sl nl ol m order s' :=
  ⟨h.n, h.v1, h.v2, h.v3, hs, ok, b _ _ h.hn (by simp; exact h.n1), b _ _ h.ho (by simp; exact h.n2), h.pm, h.m1, h.m3, h.n1, h.n2, h.n3⟩
theorem LA.ex {σ : List (Option V)} {H H' : Hp} {st sl nl ol : Addr} {m : Nat} {order : List Str} {s : St4} (h : LA σ H st sl nl ol m order s) (e : Ex H H') : LA σ H' st sl nl ol m order s :=
  ⟨h.n, h.v1, h.v2, h.v3, h.hs.ex e, h.ok, e _ _ h.hn, e _ _ h.ho, h.pm, h.m1, h.m3, h.n1, h.n2, h.n3⟩
theorem LA.set {σ : List (Option V)} {H : Hp} {st sl nl ol : Addr} {m : Nat} {order : List Str} {s : St4} (h : LA σ H st sl nl ol m order s) {i : Nat} {x : Option V} (n1 : i ≠ 1) (n2 : i ≠ 2) (n3 : i ≠ 3) : LA (σ.set i x) H st sl nl ol m order s :=
  ⟨sig_set h.n, h.v1.ne n1, h.v2.ne n2, h.v3.ne n3, h.hs, h.ok, h.hn, h.ho, h.pm, h.m1, h.m3, h.n1, h.n2, h.n3⟩
theorem DomAt.but {H H' : Hp} {dm st sl : Addr} {names : List Str} {dom : Str → List Int} {s : St4} (h : DomAt H dm st names dom) (hs : StAt H st sl s) (b : But [st] H H') : DomAt H' dm st names dom := by
  obtain ⟨kvs, h1, h2, h3⟩ := h
  have n : dm ≠ st := fun z => by obtain ⟨q, _⟩ := hs; rw [← z, h1] at q; cases q
  refine ⟨kvs, b _ _ h1 (by simp; exact n), h2, fun x hx => ?_⟩
  obtain ⟨⟨l, k1, k2, k3⟩, k4⟩ := h3 x hx
  exact ⟨⟨l, k1, b _ _ k2 (by simp; exact k3), k3⟩, k4⟩
theorem DomAt.ex {H H' : Hp} {dm st : Addr} {names : List Str} {dom : Str → List Int} (h : DomAt H dm st names dom) (e : Ex H H') : DomAt H' dm st names dom := by
  obtain ⟨kvs, h1, h2, h3⟩ := h
  refine ⟨kvs, e _ _ h1, h2, fun x hx => ?_⟩
  obtain ⟨⟨l, k1, k2, k3⟩, k4⟩ := h3 x hx
  exact ⟨⟨l, k1, e _ _ k2, k3⟩, k4⟩
def lawL (m : Nat) (order : List Str) (dom : Str → List Int) (bad : Option Int) (p : Nat) : List Sm := (thS (nml m) order dom bad p).map Sm.thr
/-- what stands when the rows are made -/
structure LC (σ : List (Option V)) (H : Hp) (m : Nat) (order : List Str) (dom : Str → List Int) (bad : Option Int) (p : Nat) : Prop where
  n : σ.length = 24
  ex : ∃ nl ol dm st rl vs, Vr σ 2 (.ref nl) ∧ Vr σ 3 (.ref ol) ∧ Vr σ 6 (.ref dm) ∧ Vr σ 10 (.ref rl) ∧ H nl = some (.lst ((nml m).map V.str)) ∧ H ol = some (.lst (order.map V.str)) ∧ DomAt H dm st (nml m) dom ∧ H rl = some (.lst vs) ∧ Paired (SmAt H) vs (lawL m order dom bad p)
  v9 : Vr σ 9 (oI bad)
  pm : order.Perm (nml m)
  m1 : 1 ≤ m
  m3 : m ≤ 3
  pl : p ≤ m
theorem LC.dx {σ : List (Option V)} {H H' : Hp} {m : Nat} {order : List Str} {dom : Str → List Int} {bad : Option Int} {p : Nat} (h : LC σ H m order dom bad p) (e : Ex H H') : LC σ H' m order dom bad p := by
  obtain ⟨nl, ol, dm, st, rl, vs, h1, h2, h3, h4, h5, h6, h7, h8, h9⟩ := h.ex
  exact ⟨h.n, ⟨nl, ol, dm, st, rl, vs, h1, h2, h3, h4, e _ _ h5, e _ _ h6, h7.ex e, e _ _ h8, pr_imp (fun _ _ q => q.imm e.imm) h9⟩, h.v9, h.pm, h.m1, h.m3, h.pl⟩
theorem LC.set {σ : List (Option V)} {H : Hp} {m : Nat} {order : List Str} {dom : Str → List Int} {bad : Option Int} {p : Nat} (h : LC σ H m order dom bad p) {i : Nat} {x : Option V} (hi : i = 4 ∨ i = 7 ∨ 10 < i) : LC (σ.set i x) H m order dom bad p := by
  obtain ⟨nl, ol, dm, st, rl, vs, h1, h2, h3, h4, h5, h6, h7, h8, h9⟩ := h.ex
  exact ⟨sig_set h.n, ⟨nl, ol, dm, st, rl, vs, h1.ne (by omega), h2.ne (by omega), h3.ne (by omega), h4.ne (by omega), h5, h6, h7, h8, h9⟩, h.v9.ne (by omega), h.pm, h.m1, h.m3, h.pl⟩
section
variable {P : Program} {w : World} {K : PySem.W.Frag} {mg : Str → Option Value} {base : Heap} {cdv : Value} {A : Around} {outer : List Env} {s0 : Shared} {H0 : Hp} {E : XK}
theorem seg_6 (T : Tx K mg) (hr : RmL K cdv A s0) : Seg (LX P w K mg base cdv A outer s0 H0 E) [lawS 6]
    (fun σ H => ∃ st sl nl ol m order s dm dom, LA σ H st sl nl ol m order s ∧ Vr σ 6 (.ref dm) ∧ DomAt H dm st (nml m) dom)
    (fun σ H => ∃ st sl nl ol m order s dm dom bad, LA σ H st sl nl ol m order s ∧ Vr σ 6 (.ref dm) ∧ DomAt H dm st (nml m) dom ∧ Vr σ 9 (oI bad)) := by
  have sc := scL
  refine Seg.one (ps_set (i := 9) sc.nd rfl (Or.inl rfl) pe_non) (fun D σ H h k => ?_)
  obtain ⟨st, sl, nl, ol, m, order, s, dm, dom, h, h6, hd⟩ := h
  exact k _ _ ⟨st, sl, nl, ol, m, order, s, dm, dom, none, h.set (by decide) (by decide) (by decide), h6.ne (by decide), hd, Vr.same (by rw [h.n]; decide)⟩
theorem seg_7 (T : Tx K mg) (hr : RmL K cdv A s0) : Seg (LX P w K mg base cdv A outer s0 H0 E) [lawS 7]
    (fun σ H => ∃ st sl nl ol m order s dm dom bad, LA σ H st sl nl ol m order s ∧ Vr σ 6 (.ref dm) ∧ DomAt H dm st (nml m) dom ∧ Vr σ 9 (oI bad))
    (fun σ H => ∃ st sl nl ol m order s dm dom bad, LA σ H st sl nl ol m order s ∧ Vr σ 6 (.ref dm) ∧ DomAt H dm st (nml m) dom ∧ Vr σ 9 (oI bad)) := by
  have sc := scL
  refine Seg.one (ps_if (pt_cmpR op_eq (pe_c (f_draw T) hr (pa_cons (pv 1) (pa_cons pe_int pa_nil))) pe_int (nomark _))
    (pss_one (ps_set (i := 9) sc.nd rfl (Or.inl rfl) (pe_c (f_draw T) hr (pa_cons (pv 1) (pa_cons pe_int pa_nil))))) pss_nil) (fun D σ H h k => ?_)
  obtain ⟨st, sl, nl, ol, m, order, s, dm, dom, bad, h, h6, hd, h9⟩ := h
  refine ⟨_, h.v1, st, sl, s, 2, rfl, h.hs, h.ok, by decide, by decide, fun H1 hs1 b1 => ⟨rfl, _, rfl, ?_⟩⟩
  have ok1 := (drw_Ok h.ok 2 (by decide)).1
  have h' := h.draw hs1 ok1 b1
  have hd' := hd.but h.hs b1
  by_cases c : V.int ((drw 2 s).1 : Int) = V.int 0
  · refine ifT c ?_
    refine ⟨_, h.v1, st, sl, _, 12, rfl, hs1, ok1, by decide, by decide, fun H2 hs2 b2 => ?_⟩
    exact k _ _ ⟨st, sl, nl, ol, m, order, _, dm, dom, some ((drw 12 (drw 2 s).2).1 : Int), (h'.draw hs2 (drw_Ok ok1 12 (by decide)).1 b2).set (by decide) (by decide) (by decide), h6.ne (by decide), hd'.but hs1 b2, Vr.same (by rw [h.n]; decide)⟩
  · refine ifF c ?_
    exact k _ _ ⟨st, sl, nl, ol, m, order, _, dm, dom, bad, h', h6, hd', h9⟩
/-- the rows of the chains -/
def chL (order : List Str) (dom : Str → List Int) : List Sm := order.map fun x => .thr (chn x (dom x))
theorem seg_8 (T : Tx K mg) (hr : RmL K cdv A s0) : Seg (LX P w K mg base cdv A outer s0 H0 E) [lawS 8]
    (fun σ H => ∃ st sl nl ol m order s dm dom bad, LA σ H st sl nl ol m order s ∧ Vr σ 6 (.ref dm) ∧ DomAt H dm st (nml m) dom ∧ Vr σ 9 (oI bad))
    (fun σ H => ∃ st sl nl ol m order s dm dom bad rl vs, LA σ H st sl nl ol m order s ∧ Vr σ 6 (.ref dm) ∧ DomAt H dm st (nml m) dom ∧ Vr σ 9 (oI bad) ∧ Vr σ 10 (.ref rl) ∧ H rl = some (.lst vs) ∧ Paired (SmAt H) vs (chL order dom) ∧ rl ≠ st) := by
  have sc := scL
  have hu := hu_of hr
  refine Seg.one (ps_setLc (i := 10) (own := [("_law_name", 7)]) (g := gName 7) (te := tTup (tCons (tC (.str "thread")) (tCons (tCl spChain (tCons (tVar 7) (tCons (tDGet (tVar 6) (tVar 7)) tNil))) tNil))) rfl sc.nd rfl rfl rfl
      (pi_list (pv 3))
      (blkOk_by (N := NL) (sc := defScope s_law) (by decide +kernel)) (fun _ _ _ _ _ => pg_name (i := 7) sc.nd rfl (Or.inl rfl)) (fun _ _ _ _ _ => pts_nil)
      (fun _ _ _ _ _ => pe_tup (pa_cons pe_str (pa_cons (pe_c (f_chain T) hr (pa_cons (pv 7) (pa_cons (pe_dget hu (pv 6) (pv 7) (fun _ _ => rfl)) pa_nil))) pa_nil)))) (fun D σ H h k => ?_)
  obtain ⟨st, sl, nl, ol, m, order, s, dm, dom, bad, h, h6, hd, h9⟩ := h
  refine ⟨_, h.v3, _, rfl, ⟨_, SqL.of h.ho⟩, fun R hR => ?_⟩
  have nR := none1 hR
  refine lc_it (walk_list (K := K) (a := ol) (xs := order.map V.str)) (fun i H' => But [R] H H' ∧ ∃ vs, H' R = some (.lst vs) ∧ Paired (SmAt H') vs ((chL order dom).take i)) ⟨(Ex.new hR).but, [], upd_same, .nil⟩ (fun i H' _ p => SqL.of (p.1.exN nR _ _ h.ho)) (fun i x H' H2 hi p y => ?_) (fun H2 p => ?_)
  · obtain ⟨b, vs, hv, hP⟩ := p
    obtain ⟨rfl, hx⟩ := y
    rw [List.length_map] at hi
    have eo : order[i]? = some order[i] := List.getElem?_eq_getElem hi
    rw [List.getElem?_map, eo] at hx
    cases hx
    generalize order[i] = x at *
    have xm : x ∈ nml m := h.pm.mem_iff.mp (List.mem_of_getElem? eo)
    obtain ⟨kvs, d1, d2, d3⟩ := hd
    obtain ⟨⟨l, q1, q2, q3⟩, q4⟩ := d3 x xm
    have xe := b.exN nR
    have ol3 : order.length ≤ 3 := by rw [h.pm.length_eq, nml_len h.m3]; exact h.m3
    have lv : vs.length ≤ 3 := by rw [pr_len hP, List.length_take]; unfold chL; rw [List.length_map]; omega
    refine ⟨wipe1, _, Vr.cmpS (by rw [h.n]; decide), _, h6.cmp (by decide), _, Vr.cmpS (by rw [h.n]; decide), dm, .ref l, rfl, by rw [← q1]; exact DGet.k (k := Sum.inr x) (xe _ _ d1), x, l, dom x, rfl, xe _ _ q2, q4.1, by have := q4.2.1; omega, fun v H3 x3 sm => ⟨sz (by simp), fun t ht => ⟨vs, ((x3.trans (Ex.new ht)) _ _ hv), szl (by omega), ?_⟩⟩⟩
    have e4 := Ex.new (o := .tup [.str "thread", v]) ht
    have x4 := x3.trans e4
    have hR4 := x4 _ _ hv
    have im : Imm (upd H3 t (.tup [.str "thread", v])) (upd (upd H3 t (.tup [.str "thread", v])) R (.lst (vs ++ [.ref t]))) := Imm.set hR4 imm_lst
    refine ⟨b.trans (x4.but.trans (But.set (by simp))), _, upd_same, ?_⟩
    have ec : (chL order dom).take (i + 1) = (chL order dom).take i ++ [.thr (chn x (dom x))] := by
      rw [List.take_succ]
      unfold chL
      rw [List.getElem?_map, eo]
      rfl
    rw [ec]
    exact pr_app (pr_imp (fun _ _ q => (q.imm x4.imm).imm im) hP) (.cons ⟨t, v, rfl, im _ _ upd_same trivial, (sm.imm e4.imm).imm im⟩ .nil)
  · obtain ⟨b, vs, hv, hP⟩ := p
    have xe := b.exN nR
    rw [List.take_of_length_le (by unfold chL; simp)] at hP
    exact k _ _ ⟨st, sl, nl, ol, m, order, s, dm, dom, bad, R, vs, (h.ex xe).set (by decide) (by decide) (by decide), h6.ne (by decide), hd.ex xe, h9.ne (by decide), Vr.same (by rw [h.n]; decide), hv, hP, fun z => by rw [z, h.hs.1] at hR; cases hR⟩
theorem seg_9 (T : Tx K mg) (hr : RmL K cdv A s0) : Seg (LX P w K mg base cdv A outer s0 H0 E) [lawS 9]
    (fun σ H => ∃ st sl nl ol m order s dm dom bad rl vs, LA σ H st sl nl ol m order s ∧ Vr σ 6 (.ref dm) ∧ DomAt H dm st (nml m) dom ∧ Vr σ 9 (oI bad) ∧ Vr σ 10 (.ref rl) ∧ H rl = some (.lst vs) ∧ Paired (SmAt H) vs (chL order dom) ∧ rl ≠ st)
    (fun σ H => ∃ st sl nl ol m order s dm dom bad rl vs p, LA σ H st sl nl ol m order s ∧ Vr σ 6 (.ref dm) ∧ DomAt H dm st (nml m) dom ∧ Vr σ 9 (oI bad) ∧ Vr σ 10 (.ref rl) ∧ H rl = some (.lst vs) ∧ Paired (SmAt H) vs (chL order dom) ∧ Vr σ 4 (nV p) ∧ p ≤ m) := by
  have sc := scL
  refine Seg.one (ps_set (i := 4) sc.nd rfl (Or.inl rfl) (pe_c (f_draw T) hr (pa_cons (pv 1) (pa_cons (pe_op op_add (pe_callB call_len_seq (by rfl) T.z_len PySem.boot_len (pa_cons (pv 10) pa_nil)) pe_int) pa_nil)))) (fun D σ H h k => ?_)
  obtain ⟨st, sl, nl, ol, m, order, s, dm, dom, bad, rl, vs, h, h6, hd, h9, h10, hv, hP, nr⟩ := h
  have lo : order.length = m := by rw [h.pm.length_eq, nml_len h.m3]
  have lv : vs.length = m := by rw [pr_len hP]; unfold chL; rw [List.length_map, lo]
  have m3 := h.m3
  refine ⟨_, h.v1, _, h10, _, _, rfl, .inl (SqL.of hv), _, _, rfl, rfl, st, sl, s, vs.length + 1, rfl, h.hs, h.ok, by omega, by omega, fun H1 hs1 b1 => ?_⟩
  obtain ⟨o4, o5⟩ := drw_Ok h.ok (vs.length + 1) (by omega)
  have im : Imm H H1 := b1.imm fun x hx o ho => by
    rw [List.mem_singleton.mp hx, h.hs.1] at ho
    cases ho
    exact imm_lst
  exact k _ _ ⟨st, sl, nl, ol, m, order, _, dm, dom, bad, rl, vs, _, (h.draw hs1 o4 b1).set (by decide) (by decide) (by decide), h6.ne (by decide), hd.but h.hs b1, h9.ne (by decide), h10.ne (by decide), b1 _ _ hv (by simp; exact nr), pr_imp (fun _ _ q => q.imm im) hP, Vr.same (by rw [h.n]; decide), by omega⟩
theorem cut_take (xs : List V) {p : Nat} (h : p ≤ xs.length) : cutV xs none (some (p : Int)) = xs.take p := by
  unfold cutV
  rw [HT.sIx_none, HT.sIx_nat, Nat.min_eq_left h, List.drop_zero, Nat.sub_zero]
theorem cut_drop (xs : List V) {p : Nat} (h : p ≤ xs.length) : cutV xs (some (p : Int)) none = xs.drop p := by
  unfold cutV
  rw [HT.sIx_none, HT.sIx_nat, Nat.min_eq_left h]
  exact List.take_of_length_le (by rw [List.length_drop]; exact Nat.le_refl _)
theorem pr_take {α β : Type} {R : α → β → Prop} : ∀ (p : Nat) {xs : List α} {ys : List β}, Paired R xs ys → Paired R (xs.take p) (ys.take p)
  | 0, _, _, _ => by rw [List.take_zero, List.take_zero]; exact .nil
  | p + 1, _, _, .nil => .nil
  | p + 1, _, _, .cons r t => .cons r (pr_take p t)
theorem pr_drop {α β : Type} {R : α → β → Prop} : ∀ (p : Nat) {xs : List α} {ys : List β}, Paired R xs ys → Paired R (xs.drop p) (ys.drop p)
  | 0, _, _, h => h
  | p + 1, _, _, .nil => .nil
  | p + 1, _, _, .cons r t => pr_drop p t
theorem seg_10 (T : Tx K mg) (hr : RmL K cdv A s0) : Seg (LX P w K mg base cdv A outer s0 H0 E) [lawS 10]
    (fun σ H => ∃ st sl nl ol m order s dm dom bad rl vs p, LA σ H st sl nl ol m order s ∧ Vr σ 6 (.ref dm) ∧ DomAt H dm st (nml m) dom ∧ Vr σ 9 (oI bad) ∧ Vr σ 10 (.ref rl) ∧ H rl = some (.lst vs) ∧ Paired (SmAt H) vs (chL order dom) ∧ Vr σ 4 (nV p) ∧ p ≤ m)
    (fun σ H => ∃ m order dom bad p, LC σ H m order dom bad p) := by
  have sc := scL
  refine Seg.one (ps_set (i := 10) sc.nd rfl (Or.inl rfl) (pe_op op_cat (pe_op op_cat (pe_slice sl_list (pv 10) po_none (po_some (pv 4))) (pe_lst (pa_cons (pe_tup (pa_cons pe_str (pa_cons (pe_c (f_sum T) hr (pa_cons (pv 2) (pa_cons (pv 9) pa_nil))) pa_nil))) pa_nil))) (pe_slice sl_list (pv 10) (po_some (pv 4)) po_none))) (fun D σ H h k => ?_)
  obtain ⟨st, sl, nl, ol, m, order, s, dm, dom, bad, rl, vs, p, h, h6, hd, h9, h10, hv, hP, h4, hp⟩ := h
  have lo : order.length = m := by rw [h.pm.length_eq, nml_len h.m3]
  have lv : vs.length = m := by rw [pr_len hP]; unfold chL; rw [List.length_map, lo]
  have m3 := h.m3
  have nN := nml_Ok h.m1 h.m3
  refine ⟨_, h10, _, h4, _, rfl, rl, _, rfl, SqL.of hv, fun a ha => ?_⟩
  rw [cut_take _ (by omega)]
  have e1 := Ex.new (o := .lst (vs.take p)) ha
  refine ⟨_, h.v2, _, h9, nl, nml m, bad, rfl, e1 _ _ h.hn, ?_, by have := nN.n3; omega, fun v H1 x1 sm => ⟨sz (by simp), fun t ht => ⟨sz (by simp), fun b hb => ?_⟩⟩⟩
  · intro z
    have := nN.n1
    rw [z] at this
    simp at this
  have e2 := Ex.new (o := .tup [.str "thread", v]) ht
  have e3 := Ex.new (o := .lst [.ref t]) hb
  have x3 := x1.trans (e2.trans e3)
  refine ⟨a, b, _, _, rfl, rfl, x3 _ _ upd_same, upd_same, sz (by rw [List.length_take]; show _ + 1 ≤ _; omega), fun c hc => ?_⟩
  have e4 := Ex.new (o := .lst (vs.take p ++ [.ref t])) hc
  have x4 := e1.trans (x3.trans e4)
  refine ⟨_, h10, _, h4, _, rfl, rl, _, rfl, SqL.of (x4 _ _ hv), fun d hd' => ?_⟩
  rw [cut_drop _ (by omega)]
  have e5 := Ex.new (o := .lst (vs.drop p)) hd'
  refine ⟨c, d, _, _, rfl, rfl, e5 _ _ upd_same, upd_same, sz (by rw [List.length_append, List.length_take, List.length_drop]; show _ + 1 + _ ≤ _; omega), fun f hf => ?_⟩
  have e6 := Ex.new (o := .lst (vs.take p ++ [.ref t] ++ vs.drop p)) hf
  have x6 := x4.trans (e5.trans e6)
  have ss : SmAt _ (.ref t) (.thr (sumS (nml m) bad)) := ⟨t, v, rfl, (e3.trans (e4.trans (e5.trans e6))) _ _ upd_same, sm.imm (e2.trans (e3.trans (e4.trans (e5.trans e6)))).imm⟩
  have hP6 := pr_imp (fun _ _ q => SmAt.imm x6.imm q) hP
  refine k _ _ ⟨m, order, dom, bad, p, sig_set h.n, ⟨nl, ol, dm, st, f, _, h.v2.ne (by decide), h.v3.ne (by decide), h6.ne (by decide), Vr.same (by rw [h.n]; decide), x6 _ _ h.hn, x6 _ _ h.ho, hd.ex x6, upd_same, ?_⟩, h9.ne (by decide), h.pm, h.m1, h.m3, hp⟩
  have el : lawL m order dom bad p = (chL order dom).take p ++ [.thr (sumS (nml m) bad)] ++ (chL order dom).drop p := by
    unfold lawL thS chL
    rw [List.map_append, List.map_append, List.map_take, List.map_drop, List.map_map]
    rfl
  rw [el]
  exact pr_app (pr_app (pr_take p hP6) (.cons ss .nil)) (pr_drop p hP6)
end
end Lw
/-! ### law: the body -/
namespace Lw
open PySem PySem.Spec PyProof.Rows L2
theorem sq_cons (a : Sm) {r : List Sm} (h : r ≠ []) : sq (a :: r) = .seq a (sq r) := by
  cases r with
  | nil => exact absurd rfl h
  | cons b r => rfl
theorem lawL_len {m p : Nat} {order : List Str} {dom : Str → List Int} {bad : Option Int} (hp : order.Perm (nml m)) (h3 : m ≤ 3) (hl : p ≤ m) : (lawL m order dom bad p).length = m + 1 := by
  have ol : order.length = m := by rw [hp.length_eq, nml_len h3]
  unfold lawL thS
  simp [ol]
  omega
theorem pr_get {α β : Type} {R : α → β → Prop} {xs : List α} {ys : List β} (h : Paired R xs ys) : ∀ {i : Nat} {x : α}, xs[i]? = some x → ∃ y, ys[i]? = some y ∧ R x y := by
  induction h with
  | nil => intro i x h; simp at h
  | cons r t ih =>
    intro i x h
    cases i with
    | zero => cases h; exact ⟨_, rfl, r⟩
    | succ i =>
      rw [List.getElem?_cons_succ] at h
      obtain ⟨y, h1, h2⟩ := ih h
      exact ⟨y, by rw [List.getElem?_cons_succ]; exact h1, h2⟩
section
variable {P : Program} {w : World} {K : PySem.W.Frag} {mg : Str → Option Value} {base : Heap} {cdv : Value} {A : Around} {outer : List Env} {s0 : Shared} {H0 : Hp} {E : XK}
theorem seg_11 (T : Tx K mg) (hr : RmL K cdv A s0) : Seg (LX P w K mg base cdv A outer s0 H0 E) [lawS 11]
    (fun σ H => ∃ m order dom bad p, LC σ H m order dom bad p)
    (fun σ H => ∃ m order dom bad p, LC σ H m order dom bad p ∧ ∃ v, Vr σ 11 v ∧ SmAt H v (sq ((lawL m order dom bad p).drop m))) := by
  have sc := scL
  refine Seg.one (ps_set (i := 11) sc.nd rfl (Or.inl rfl) (pe_ix ix_list (pv 10) (pe_un un_neg pe_int) (fun _ _ => rfl))) (fun D σ H h k => ?_)
  obtain ⟨m, order, dom, bad, p, h⟩ := h
  obtain ⟨nl, ol, dm, st, rl, vs, h1, h2, h3, h4, h5, h6, h7, h8, h9⟩ := h.ex
  have ll := lawL_len (dom := dom) (bad := bad) h.pm h.m3 h.pl
  have lv : vs.length = m + 1 := by rw [pr_len h9, ll]
  have ne : vs ≠ [] := by intro z; rw [z] at lv; cases lv
  have hz : vs = vs.dropLast ++ [vs.getLast ne] := (List.dropLast_concat_getLast ne).symm
  refine ⟨_, h4, _, rfl, _, _, _, _, rfl, rfl, SqL.of h8, by rw [hz]; exact atI_last _ _, k _ _ ⟨m, order, dom, bad, p, h.set (by omega), _, Vr.same (by rw [h.n]; decide), ?_⟩⟩
  have el : vs[m]? = some (vs.getLast ne) := by
    rw [List.getLast_eq_getElem, List.getElem?_eq_getElem (by omega)]
    congr 2
    omega
  obtain ⟨y, q1, q2⟩ := pr_get h9 el
  have ey : (lawL m order dom bad p).drop m = [y] := by
    rw [List.drop_eq_getElem_cons (by omega), List.drop_of_length_le (by omega)]
    rw [List.getElem?_eq_getElem (by omega)] at q1
    rw [Option.some.inj q1]
  rw [ey]
  exact q2
theorem seg_12 (T : Tx K mg) (hr : RmL K cdv A s0) : Seg (LX P w K mg base cdv A outer s0 H0 E) [lawS 12]
    (fun σ H => ∃ m order dom bad p, LC σ H m order dom bad p ∧ ∃ v, Vr σ 11 v ∧ SmAt H v (sq ((lawL m order dom bad p).drop m)))
    (fun σ H => ∃ m order dom bad p, LC σ H m order dom bad p ∧ ∃ v, Vr σ 11 v ∧ SmAt H v (sq (lawL m order dom bad p))) := by
  have sc := scL
  refine Seg.one (ps_for PassesOwn.never rfl (pi_list (pe_sl2 (pv 10))) (pg_name (i := 12) sc.nd rfl (Or.inl rfl))
    (pss_one (ps_set (i := 11) sc.nd rfl (Or.inl rfl) (pe_tup (pa_cons pe_str (pa_cons (pv 12) (pa_cons (pv 11) pa_nil))))))) (fun D σ H h k => ?_)
  obtain ⟨m, order, dom, bad, p, h, v, hv, sv⟩ := h
  obtain ⟨nl, ol, dm, st, rl, vs, h1, h2, h3, h4, h5, h6, h7, h8, h9⟩ := h.ex
  have ll := lawL_len (dom := dom) (bad := bad) h.pm h.m3 h.pl
  have lv : vs.length = m + 1 := by rw [pr_len h9, ll]
  refine ⟨_, h4, rl, _, rfl, SqL.of h8, fun q hq => ⟨q, rfl, ⟨_, SqL.of upd_same⟩, ?_⟩⟩
  have e2 := Ex.new (o := .lst vs.dropLast.reverse) hq
  have p2 : upd H q (HO.lst vs.dropLast.reverse) q = some (.lst vs.dropLast.reverse) := upd_same
  generalize upd H q (HO.lst vs.dropLast.reverse) = H2 at *
  have ld : vs.dropLast.reverse.length = m := by simp [lv]
  refine for_it (walk_list (K := K) (a := q) (xs := vs.dropLast.reverse)) (fun i σ H' => Ex H2 H' ∧ LC σ H' m order dom bad p ∧ ∃ v, Vr σ 11 v ∧ SmAt H' v (sq ((lawL m order dom bad p).drop (m - i)))) ⟨Ex.refl _, h.dx e2, v, hv, sv.imm e2.imm⟩ (fun i σ H' _ z => SqL.of (z.1 _ _ p2)) (fun i x σ H' H5 hi z y => ?_) (fun σ H5 z => ?_)
  · obtain ⟨xb, hc, v, hv, sv⟩ := z
    obtain ⟨rfl, hx⟩ := y
    rw [ld] at hi
    have ex : vs[m - 1 - i]? = some x := by
      rw [List.getElem?_reverse (by rw [List.length_dropLast]; omega), List.length_dropLast, List.getElem?_dropLast, if_pos (by omega)] at hx
      rw [← hx]
      congr 1
      omega
    obtain ⟨y, q1, q2⟩ := pr_get h9 ex
    refine ⟨_, Vr.same (by rw [hc.n]; decide), _, hv.ne (by decide), sz (by simp), fun u hu => ?_⟩
    have e6 := Ex.new (o := .tup [.str "seq", x, v]) hu
    refine ⟨xb.trans e6, (hc.dx e6).set (by omega) |>.set (by omega), _, Vr.same (by rw [List.length_set, hc.n]; decide), ?_⟩
    have ed : (lawL m order dom bad p).drop (m - (i + 1)) = y :: (lawL m order dom bad p).drop (m - i) := by
      rw [List.drop_eq_getElem_cons (by omega), show m - (i + 1) + 1 = m - i by omega]
      congr 1
      rw [List.getElem?_eq_getElem (by omega)] at q1
      rw [← Option.some.inj q1]
      congr 1
      omega
    rw [ed, sq_cons _ (by intro z; have := congrArg List.length z; simp at this; omega)]
    exact ⟨u, x, v, rfl, upd_same, (q2.imm ((e2.trans xb).trans e6).imm), sv.imm e6.imm⟩
  · obtain ⟨xb, hc, v, hv, sv⟩ := z
    rw [ld, Nat.sub_self] at sv
    exact k _ _ ⟨m, order, dom, bad, p, hc, v, hv, sv⟩
end
end Lw
/-! ### law: all the choices -/
namespace Lw
open PySem PySem.Spec PyProof.Rows L2
def DueAt (xs : List Str) (H : Hp) (v : V) (q : List Bool × List Int) : Prop := ∃ t pa ea, v = .ref t ∧ H t = some (.tup [.ref pa, .ref ea]) ∧ H pa = some (.tup (q.1.map V.bl)) ∧ H ea = some (.dK (kvZ xs q.2))
theorem DueAt.ex {xs : List Str} {H H' : Hp} {v : V} {q : List Bool × List Int} (h : DueAt xs H v q) (e : Ex H H') : DueAt xs H' v q := let ⟨t, pa, ea, h1, h2, h3, h4⟩ := h; ⟨t, pa, ea, h1, e _ _ h2, e _ _ h3, e _ _ h4⟩
theorem off_l {H : Hp} {fd a : Addr} {ws : List V} {o : HO} (hf : H fd = some (.lst ws)) (h : H a = some o) (n : ∀ l, o ≠ .lst l) : a ∉ [fd] := fun m => by
  rw [List.mem_singleton.mp m, hf] at h
  exact n _ (Option.some.inj h).symm
theorem DueAt.but {xs : List Str} {H H' : Hp} {v : V} {q : List Bool × List Int} {fd : Addr} {ws : List V} (h : DueAt xs H v q) (b : But [fd] H H') (hf : H fd = some (.lst ws)) : DueAt xs H' v q := by
  obtain ⟨t, pa, ea, h1, h2, h3, h4⟩ := h
  exact ⟨t, pa, ea, h1, b _ _ h2 (off_l hf h2 fun _ z => nomatch z), b _ _ h3 (off_l hf h3 fun _ z => nomatch z), b _ _ h4 (off_l hf h4 fun _ z => nomatch z)⟩
/-- the rows and the body -/
def LD (σ : List (Option V)) (H : Hp) (m : Nat) (order : List Str) (dom : Str → List Int) (bad : Option Int) (p : Nat) : Prop :=
  LC σ H m order dom bad p ∧ ∃ v, Vr σ 11 v ∧ SmAt H v (sq (lawL m order dom bad p))
theorem LD.dx {σ : List (Option V)} {H H' : Hp} {m : Nat} {order : List Str} {dom : Str → List Int} {bad : Option Int} {p : Nat} (h : LD σ H m order dom bad p) (e : Ex H H') : LD σ H' m order dom bad p :=
  let ⟨v, h1, h2⟩ := h.2
  ⟨h.1.dx e, v, h1, h2.imm e.imm⟩
theorem LD.set {σ : List (Option V)} {H : Hp} {m : Nat} {order : List Str} {dom : Str → List Int} {bad : Option Int} {p : Nat} (h : LD σ H m order dom bad p) {i : Nat} {x : Option V} (hi : i = 4 ∨ i = 7 ∨ 11 < i) : LD (σ.set i x) H m order dom bad p :=
  let ⟨v, h1, h2⟩ := h.2
  ⟨h.1.set (by omega), v, h1.ne (by omega), h2⟩
theorem LD.n {σ : List (Option V)} {H : Hp} {m : Nat} {order : List Str} {dom : Str → List Int} {bad : Option Int} {p : Nat} (h : LD σ H m order dom bad p) : σ.length = 24 := h.1.n
def LU (σ : List (Option V)) (H : Hp) (order : List Str) (dom : Str → List Int) (i : Nat) : Prop :=
  ∃ dl vs, Vr σ 13 (.ref dl) ∧ H dl = some (.lst vs) ∧ Paired (DueAt (order.take i) H) vs (prd ((order.take i).map dom))
theorem pths_ln {zs : List Int} (h : zs.length ≤ 4) {b : List Bool × Int} (hb : b ∈ pths zs) : b.1.length ≤ 4 := by
  obtain ⟨i, hi, rfl⟩ := List.mem_map.mp hb
  have hl := List.mem_range.mp hi
  simp only [List.length_append, List.length_replicate]
  split <;> omega
theorem flat_ln {α β : Type} (f : α → List β) (n : Nat) (h : ∀ a, (f a).length = n) : ∀ l : List α, (l.flatMap f).length = l.length * n
  | [] => by simp
  | a :: l => by rw [List.flatMap_cons, List.length_append, h, flat_ln f n h l, List.length_cons, Nat.succ_mul, Nat.add_comm]
section
variable {P : Program} {w : World} {K : PySem.W.Frag} {mg : Str → Option Value} {base : Heap} {cdv : Value} {A : Around} {outer : List Env} {s0 : Shared} {H0 : Hp} {E : XK}
theorem seg_13 (T : Tx K mg) (hr : RmL K cdv A s0) : Seg (LX P w K mg base cdv A outer s0 H0 E) [lawS 13]
    (fun σ H => ∃ m order dom bad p, LD σ H m order dom bad p)
    (fun σ H => ∃ m order dom bad p, LD σ H m order dom bad p ∧ LU σ H order dom 0) := by
  have sc := scL
  refine Seg.one (ps_set (i := 13) sc.nd rfl (Or.inl rfl) (pe_lst (pa_cons (pe_tup (pa_cons (pe_tup pa_nil) (pa_cons pe_dnewK pa_nil))) pa_nil))) (fun D σ H h k => ?_)
  obtain ⟨m, order, dom, bad, p, h⟩ := h
  refine ⟨sz (by simp), fun a ha d hd => ⟨sz (by simp), fun t ht => ⟨sz (by simp), fun l hl => ?_⟩⟩⟩
  have e1 := Ex.new (o := .tup []) ha
  have e2 := Ex.new (o := .dK []) hd
  have e3 := Ex.new (o := .tup [.ref a, .ref d]) ht
  have e4 := Ex.new (o := .lst [.ref t]) hl
  refine k _ _ ⟨m, order, dom, bad, p, (h.dx (e1.trans (e2.trans (e3.trans e4)))).set (by omega), l, _, Vr.same (by rw [h.n]; decide), upd_same, .cons ⟨t, a, d, rfl, e4 _ _ upd_same, (e2.trans (e3.trans e4)) _ _ upd_same, (e3.trans e4) _ _ upd_same⟩ .nil⟩
theorem seg_14 (T : Tx K mg) (hr : RmL K cdv A s0) : Seg (LX P w K mg base cdv A outer s0 H0 E) [lawS 14]
    (fun σ H => ∃ m order dom bad p, LD σ H m order dom bad p ∧ LU σ H order dom 0)
    (fun σ H => ∃ m order dom bad p, LD σ H m order dom bad p ∧ LU σ H order dom order.length) := by
  have sc := scL
  have hu := hu_of hr
  refine Seg.one (ps_for PassesOwn.never rfl (pi_list (pv 3)) (pg_name (i := 7) sc.nd rfl (Or.inl rfl))
    (pss_cons (ps_set (i := 14) sc.nd rfl (Or.inl rfl) (pe_lst pa_nil))
    (pss_cons (ps_for PassesOwn.never rfl (pi_list (pv 13)) (pg_tup rfl (pgs_cons (pg_name (i := 15) sc.nd rfl (Or.inl rfl)) (pgs_cons (pg_name (i := 16) sc.nd rfl (Or.inr rfl)) pgs_nil)))
      (pss_one (ps_for PassesOwn.never rfl (pi_list (pe_c (f_paths T) hr (pa_cons (pe_dget hu (pv 6) (pv 7) (fun _ _ => rfl)) pa_nil))) (pg_tup rfl (pgs_cons (pg_name (i := 17) sc.nd rfl (Or.inl rfl)) (pgs_cons (pg_name (i := 18) sc.nd rfl (Or.inl rfl)) pgs_nil)))
        (pss_cons (ps_set (i := 19) sc.nd rfl (Or.inl rfl) (pe_callTy call_dictD (by rfl) T.z_dict (by decide +kernel) (pa_cons (pv 16) pa_nil)))
        (pss_cons (ps_dput hu (pv 19) (pv 7) (pv 18) rfl)
        (pss_one (ps_expr (pe_bm PySem.F.plainAttrs_list PySem.F.slot_list_append PySem.F.type_list_append mt_append (pv 14) (pa_cons (pe_tup (pa_cons (pe_op op_catU (pv 15) (pv 17)) (pa_cons (pv 19) pa_nil))) pa_nil)))))))))
    (pss_one (ps_set (i := 13) sc.nd rfl (Or.inl rfl) (pv 14)))))) (fun D σ H h k => ?_)
  obtain ⟨m, order, dom, bad, p, h, hU⟩ := h
  obtain ⟨nl, ol, dm, st, rl, vs, h1, h2, h3, h4, h5, h6, h7, h8, h9⟩ := h.1.ex
  have ol3 : order.length ≤ 3 := by rw [h.1.pm.length_eq, nml_len h.1.m3]; exact h.1.m3
  have nd : order.Nodup := h.1.pm.nodup_iff.mpr (nml_Ok h.1.m1 h.1.m3).nd
  have dok : ∀ x ∈ order, DomOk (dom x) := fun x hx => by
    obtain ⟨kvs, _, _, q⟩ := h7
    exact (q x (h.1.pm.mem_iff.mp hx)).2
  refine ⟨_, h2, _, rfl, ⟨_, SqL.of h6⟩, ?_⟩
  refine for_it (walk_list (K := K) (a := ol) (xs := order.map V.str)) (fun i σ H' => Ex H H' ∧ LD σ H' m order dom bad p ∧ LU σ H' order dom i) ⟨Ex.refl _, h, hU⟩ (fun i σ H' _ z => SqL.of (z.1 _ _ h6)) (fun i x σ Hz H1 hi z y => ?_) (fun σ H5 z => ?_)
  · obtain ⟨xb, hd, dl, vs, hv, hdl, hP⟩ := z
    obtain ⟨rfl, hx⟩ := y
    rw [List.length_map] at hi
    have eo : order[i]? = some order[i] := List.getElem?_eq_getElem hi
    rw [List.getElem?_map, eo] at hx
    cases hx
    generalize order[i] = x at *
    have hxo : x ∈ order := List.mem_of_getElem? eo
    have dk := dok x hxo
    have tk : order.take (i + 1) = order.take i ++ [x] := by rw [List.take_succ, eo]; rfl
    have xn : x ∉ order.take i := fun hm => by
      have := nd.sublist (List.take_sublist (i + 1) order)
      rw [tk, List.nodup_append] at this
      exact this.2.2 x hm x (by simp) rfl
    have csb : ∀ c ∈ (order.take i).map dom, c.length ≤ 4 := fun c hc => by
      obtain ⟨y, hy, rfl⟩ := List.mem_map.mp hc
      exact (dok y (List.mem_of_mem_take hy)).2.1
    have tl : (order.take i).length = i := by rw [List.length_take]; omega
    refine ⟨sz (by simp), fun fd hfd => ?_⟩
    have nf := none1 hfd
    have e0 := Ex.new (o := .lst []) hfd
    refine ⟨_, (hv.ne (by decide)).ne (by decide), _, rfl, ⟨_, SqL.of (e0 _ _ hdl)⟩, ?_⟩
    refine for_it (walk_list (K := K) (a := dl) (xs := vs)) (fun j σ H' => But [fd] H1 H' ∧ LD σ H1 m order dom bad p ∧ Vr σ 7 (.str x) ∧ Vr σ 14 (.ref fd) ∧ ∃ ws, H' fd = some (.lst ws) ∧ Paired (DueAt (order.take (i + 1)) H') ws (((prd ((order.take i).map dom)).take j).flatMap fun a => (pths (dom x)).map (stepD a)))
      ⟨e0.but, (hd.set (by omega)).set (by omega), (Vr.same (by rw [hd.n]; decide)).ne (by decide), Vr.same (by rw [List.length_set, hd.n]; decide), [], upd_same, .nil⟩ (fun j σ H' _ z => SqL.of (z.1.exN nf _ _ hdl)) (fun j v σ Hz H2 hj z y => ?_) (fun σ H5 z => ?_)
    · obtain ⟨b, hd', g7, g14, ws, hws, hPw⟩ := z
      obtain ⟨rfl, hvj⟩ := y
      have xe := b.exN nf
      obtain ⟨q, eq, t, pa, de, rfl, t1, t2, t3⟩ := pr_get hP hvj
      have hl := hd'.n
      obtain ⟨nl2, ol2, dm2, st2, rl2, vs2, _, _, v6, _, _, _, ⟨kvs, d1, d2, d3⟩, _, _⟩ := hd'.1.ex
      obtain ⟨⟨l, q1, q2, q3⟩, q4⟩ := d3 x (h.1.pm.mem_iff.mp hxo)
      have qm := prd_mem _ q (List.mem_of_getElem? eq)
      rw [List.length_map, tl] at qm
      refine ⟨_, _, rfl, SqT.of (xe _ _ t1), rfl, _, _, rfl, _, _, rfl, rfl, ?_⟩
      refine ⟨_, (v6.ne (by decide)).ne (by decide), _, (g7.ne (by decide)).ne (by decide), dm2, .ref l, rfl, by rw [← q1]; exact DGet.k (k := Sum.inr x) (xe _ _ d1), l, dom x, rfl, xe _ _ q2, by have := dk.2.1; omega, fun pl ps H3 x3 hpn hpl hPP => ⟨pl, rfl, ⟨_, SqL.of hpl⟩, ?_⟩⟩
      have hfd3 := x3 _ _ hws
      have np : pl ∉ [fd] := fun z => by rw [List.mem_singleton.mp z, hws] at hpn; cases hpn
      have b3 : But [fd] H1 H3 := b.trans x3.but
      refine for_it (walk_list (K := K) (a := pl) (xs := ps)) (fun k σ H' => But [fd] H1 H' ∧ But [fd] H3 H' ∧ LD σ H1 m order dom bad p ∧ Vr σ 7 (.str x) ∧ Vr σ 14 (.ref fd) ∧ Vr σ 15 (.ref pa) ∧ Vr σ 16 (.ref de) ∧ ∃ ws, H' fd = some (.lst ws) ∧
          Paired (DueAt (order.take (i + 1)) H') ws ((((prd ((order.take i).map dom)).take j).flatMap fun a => (pths (dom x)).map (stepD a)) ++ ((pths (dom x)).take k).map (stepD q)))
        ⟨b3, But.refl _, (hd'.set (by omega)).set (by omega), (g7.ne (by decide)).ne (by decide), (g14.ne (by decide)).ne (by decide), (Vr.same (by rw [hl]; decide)).ne (by decide), Vr.same (by rw [List.length_set, hl]; decide), ws, hfd3, by rw [List.take_zero, List.map_nil, List.append_nil]; exact pr_imp (fun _ _ z => z.ex x3) hPw⟩
        (fun k σ H' _ z => SqL.of (z.2.1 _ _ hpl np)) (fun k v σ Hz H4 hk z y => ?_) (fun σ H5 z => ?_)
      · obtain ⟨c1, c2, c3, c4, c5, c6, c7, ws', c8, c9⟩ := z
        obtain ⟨rfl, hvk⟩ := y
        obtain ⟨bq, eb, t', pa', rfl, k1, k2⟩ := pr_get hPP hvk
        have l24 := c3.n
        have xe4 := c1.exN nf
        have t4 := c2 _ _ k1 (off_l hfd3 k1 fun _ z => nomatch z)
        have p4 := c2 _ _ k2 (off_l hfd3 k2 fun _ z => nomatch z)
        have d4 := xe4 _ _ t3
        have a4 := xe4 _ _ t2
        have lb := pths_ln dk.2.1 (List.mem_of_getElem? eb)
        have la := qm.2.2 csb
        have lz : (order.take i).length = q.2.length := by rw [tl, qm.1]
        have lkv := kvZ_len (order.take i) q.2
        have lw : ws'.length ≤ 64 * 4 + 4 := by
          rw [pr_len c9, List.length_append, flat_ln _ (dom x).length (fun a => by rw [List.length_map, pths_pos]), List.length_take, List.length_map, List.length_take, pths_pos]
          have h64 := prd_64 (cs := (order.take i).map dom) (by rw [List.length_map, tl]; omega) csb
          have hd4 := dk.2.1
          have := Nat.mul_le_mul (show min j (prd ((order.take i).map dom)).length ≤ 64 by omega) hd4
          omega
        refine ⟨_, _, rfl, SqT.of t4, rfl, _, _, rfl, _, _, rfl, rfl, ?_⟩
        refine ⟨_, (c7.ne (by decide)).ne (by decide), de, _, rfl, .inl d4, fun e he => ?_⟩
        refine ⟨_, (Vr.same (by rw [List.length_set, l24]; decide)).ne (by decide), _, Vr.same (by rw [List.length_set, List.length_set, l24]; decide), _, ((c4.ne (by decide)).ne (by decide)).ne (by decide), e, _, rfl, DPut.k (k := Sum.inr x) upd_same (szl (by omega)), ?_⟩
        rw [kvZ_put _ lz xn, ← tk]
        have xd : Ex H4 (upd (upd H4 e (.dK (kvZ (order.take i) q.2))) e (.dK (kvZ (order.take (i + 1)) (q.2 ++ [bq.2])))) := fun a o h => by
          rw [upd_ne (ne_of_none h he)]
          exact Ex.new he _ _ h
        have hde : upd (upd H4 e (.dK (kvZ (order.take i) q.2))) e (.dK (kvZ (order.take (i + 1)) (q.2 ++ [bq.2]))) e = some (.dK (kvZ (order.take (i + 1)) (q.2 ++ [bq.2]))) := upd_same
        generalize upd (upd H4 e (.dK (kvZ (order.take i) q.2))) e (.dK (kvZ (order.take (i + 1)) (q.2 ++ [bq.2]))) = H6 at *
        refine ⟨_, ((c5.ne (by decide)).ne (by decide)).ne (by decide), .inl ⟨rfl, _, SqL.of (xd _ _ c8)⟩, _, ((c6.ne (by decide)).ne (by decide)).ne (by decide), _, ((Vr.same (by rw [l24]; decide)).ne (by decide)).ne (by decide), pa, pa', _, _, rfl, rfl, xd _ _ a4, xd _ _ p4, by rw [List.length_map, List.length_map]; omega, fun r H7 x7 hr7 => ?_⟩
        refine ⟨_, Vr.same (by rw [List.length_set, List.length_set, l24]; decide), sz (by simp), fun u hu => ?_⟩
        have e8 := Ex.new (o := .tup [.ref r, .ref e]) hu
        have x8 := xd.trans (x7.trans e8)
        have f8 := x8 _ _ c8
        refine ⟨fd, _, _, rfl, rfl, f8, szl (by omega), ?_⟩
        have b8 : But [fd] (upd H7 u (.tup [.ref r, .ref e])) (upd (upd H7 u (.tup [.ref r, .ref e])) fd (.lst (ws' ++ [.ref u]))) := But.set (by simp)
        have bb := x8.but.trans b8
        have u8 : upd H7 u (HO.tup [.ref r, .ref e]) u = some (.tup [.ref r, .ref e]) := upd_same
        have r8 := e8 _ _ hr7
        have h8 := (x7.trans e8) _ _ hde
        refine ⟨c1.trans bb, c2.trans bb, ((c3.set (by omega)).set (by omega)).set (by omega), ((c4.ne (by decide)).ne (by decide)).ne (by decide), ((c5.ne (by decide)).ne (by decide)).ne (by decide), ((c6.ne (by decide)).ne (by decide)).ne (by decide), ((c7.ne (by decide)).ne (by decide)).ne (by decide), _, upd_same, ?_⟩
        have ek : (pths (dom x)).take (k + 1) = (pths (dom x)).take k ++ [bq] := by rw [List.take_succ, eb]; rfl
        rw [ek, List.map_append, ← List.append_assoc]
        refine pr_app (pr_imp (fun _ _ z => z.but bb c8) c9) (.cons ⟨u, r, e, rfl, b8 _ _ u8 (off_l f8 u8 fun _ z => nomatch z), ?_, b8 _ _ h8 (off_l f8 h8 fun _ z => nomatch z)⟩ .nil)
        have := b8 _ _ r8 (off_l f8 r8 fun _ z => nomatch z)
        rw [this]
        show _ = some (HO.tup ((q.1 ++ bq.1).map V.bl))
        rw [List.map_append]
      · obtain ⟨c1, c2, c3, c4, c5, c6, c7, ws', c8, c9⟩ := z
        rw [List.take_of_length_le (l := pths (dom x)) (by rw [pr_len hPP]; exact Nat.le_refl _)] at c9
        have et : (prd ((order.take i).map dom)).take (j + 1) = (prd ((order.take i).map dom)).take j ++ [q] := by rw [List.take_succ, eq]; rfl
        refine ⟨c1, c3, c4, c5, ws', c8, ?_⟩
        rw [et, List.flatMap_append, List.flatMap_singleton]
        exact c9
    · obtain ⟨b, hd', g7, g14, ws, hws, hPw⟩ := z
      refine ⟨_, g14, xb.trans (b.exN nf), (hd'.set (by omega)).dx (b.exN nf), fd, ws, Vr.same (by rw [hd'.n]; decide), hws, ?_⟩
      rw [List.take_of_length_le (l := prd ((order.take i).map dom)) (by rw [pr_len hP]; exact Nat.le_refl _)] at hPw
      rw [tk, List.map_append, List.map_singleton, prd_snoc, ← tk]
      exact hPw
  · obtain ⟨xb, hd, hU⟩ := z
    rw [List.length_map] at hU
    exact k _ _ ⟨m, order, dom, bad, p, hd, hU⟩
end
end Lw
/-! ### law: what is to be found -/
namespace Lw
open PySem PySem.Spec PyProof.Rows L2
theorem SolAt.ex {H H' : Hp} (e : Ex H H') {v : V} {q : List Bool × List Int} (h : SolAt H v q) : SolAt H' v q := let ⟨p, pa, ov, h1, h2, h3, h4⟩ := h; ⟨p, pa, ov, h1, e _ _ h2, e _ _ h3, h4.ex e⟩
theorem SolAt.but {H H' : Hp} {v : V} {q : List Bool × List Int} {fd : Addr} {ws : List V} (h : SolAt H v q) (b : But [fd] H H') (hf : H fd = some (.lst ws)) : SolAt H' v q := by
  obtain ⟨p, pa, ov, h1, h2, h3, o, oa, ob, g1, g2, g3, g4⟩ := h
  exact ⟨p, pa, ov, h1, b _ _ h2 (off_l hf h2 fun _ z => nomatch z), b _ _ h3 (off_l hf h3 fun _ z => nomatch z), o, oa, ob, g1, b _ _ g2 (off_l hf g2 fun _ z => nomatch z), b _ _ g3 (off_l hf g3 fun _ z => nomatch z), b _ _ g4 (off_l hf g4 fun _ z => nomatch z)⟩
/-- the list of what is to be found, made -/
def LF (σ : List (Option V)) (Hs H : Hp) (m : Nat) (order : List Str) (dom : Str → List Int) (bad : Option Int) (p : Nat) : Prop :=
  LD σ Hs m order dom bad p ∧ LU σ Hs order dom order.length ∧ ∃ fd, Hs fd = none ∧ Ex Hs H ∧ Vr σ 20 (.ref fd) ∧ H fd = some (.lst [])
theorem fnd_snoc (names order : List Str) (bad : Option Int) (l : List (List Bool × List Int)) (q : List Bool × List Int) : fnd names order bad (l ++ [q]) = fnd names order bad l ++ (if bad = some (isum (wsO names order q.2)) then [] else [(q.1, wsO names order q.2 ++ [isum (wsO names order q.2)])]) := by
  unfold fnd
  rw [List.filterMap_append]
  congr 1
  show List.filterMap _ [q] = _
  rw [List.filterMap_cons, List.filterMap_nil]
  unfold ansO
  split <;> split <;> simp_all
theorem wsO_mem {names order : List Str} {zs : List Int} (h : ∀ z ∈ zs, 0 ≤ z ∧ z ≤ 5) : ∀ z ∈ wsO names order zs, 0 ≤ z ∧ z ≤ 5 := fun z hz => by
  obtain ⟨x, _, rfl⟩ := List.mem_map.mp hz
  rw [List.getD_eq_getElem?_getD]
  cases e : zs[order.idxOf x]? with
  | none => simp
  | some y => exact h y (List.mem_of_getElem? e)
section
variable {P : Program} {w : World} {K : PySem.W.Frag} {mg : Str → Option Value} {base : Heap} {cdv : Value} {A : Around} {outer : List Env} {s0 : Shared} {H0 : Hp} {E : XK}
theorem seg_15 (T : Tx K mg) (hr : RmL K cdv A s0) : Seg (LX P w K mg base cdv A outer s0 H0 E) [lawS 15]
    (fun σ H => ∃ m order dom bad p, LD σ H m order dom bad p ∧ LU σ H order dom order.length)
    (fun σ H => ∃ Hs m order dom bad p, LF σ Hs H m order dom bad p) := by
  have sc := scL
  refine Seg.one (ps_set (i := 20) sc.nd rfl (Or.inl rfl) (pe_lst pa_nil)) (fun D σ H h k => ?_)
  obtain ⟨m, order, dom, bad, p, h, dl, vs, u1, u2, u3⟩ := h
  exact ⟨sz (by simp), fun fd hfd => k _ _ ⟨H, m, order, dom, bad, p, h.set (by omega), ⟨dl, vs, u1.ne (by decide), u2, u3⟩, fd, hfd, Ex.new hfd, Vr.same (by rw [h.n]; decide), upd_same⟩⟩
abbrev tStr : TA → TE := fun t => tCB (fun xs H Q => ∃ i, xs = [.int i] ∧ i.natAbs.log2 < 1920 ∧ Q (.str (toString i)) H) t
theorem seg_16 (T : Tx K mg) (hr : RmL K cdv A s0) : Seg (LX P w K mg base cdv A outer s0 H0 E) [lawS 16]
    (fun σ H => ∃ Hs m order dom bad p, LF σ Hs H m order dom bad p)
    (fun σ H => ∃ m order dom bad p, LD σ H m order dom bad p ∧ LU σ H order dom order.length ∧ ∃ fd fs, Vr σ 20 (.ref fd) ∧ H fd = some (.lst fs) ∧ Paired (SolAt H) fs (fnd (nml m) order bad (prd (order.map dom)))) := by
  have sc := scL
  have hu := hu_of hr
  refine Seg.one (ps_for PassesOwn.never rfl (pi_list (pv 13)) (pg_tup rfl (pgs_cons (pg_name (i := 15) sc.nd rfl (Or.inl rfl)) (pgs_cons (pg_name (i := 16) sc.nd rfl (Or.inr rfl)) pgs_nil)))
    (pss_cons (ps_set (i := 21) sc.nd rfl (Or.inl rfl) (pe_callB (cr_sum rfl) (by rfl) T.z_sum (by decide +kernel) (pa_cons
      (pe_lc (own := [("_law_name", 7)]) (g := gName 7) (te := tDGet (tVar 16) (tVar 7)) rfl sc.nd (pi_list (pv 2))
        (blkOk_by (N := NL) (sc := defScope s_law) (by decide +kernel)) (fun _ _ _ _ _ => pg_name (i := 7) sc.nd rfl (Or.inl rfl)) (fun _ _ _ _ _ => pts_nil)
        (fun _ _ _ _ _ => pe_dget hu (pv 16) (pv 7) (fun _ _ => rfl))) pa_nil)))
    (pss_one (ps_if (pt_cmpR op_ne (pv 21) (pv 9) (nomark _))
      (pss_one (ps_expr (pe_bm PySem.F.plainAttrs_list PySem.F.slot_list_append PySem.F.type_list_append mt_append (pv 20) (pa_cons (pe_tup (pa_cons (pv 15) (pa_cons (pe_tup (pa_cons
        (pe_op op_catU (pe_callTy call_tuple_of (by rfl) T.z_tuple (by decide +kernel) (pa_cons
          (pe_lc (own := [("_law_name", 7)]) (g := gName 7) (te := tStr (tCons (tDGet (tVar 16) (tVar 7)) tNil)) rfl sc.nd (pi_list (pv 2))
            (blkOk_by (N := NL) (sc := defScope s_law) (by decide +kernel)) (fun _ _ _ _ _ => pg_name (i := 7) sc.nd rfl (Or.inl rfl)) (fun _ _ _ _ _ => pts_nil)
            (fun _ _ _ _ _ => pe_callTy call_str_int (by rfl) T.z_str (by decide +kernel) (pa_cons (pe_dget hu (pv 16) (pv 7) (fun _ _ => rfl)) pa_nil))) pa_nil))
          (pe_tup (pa_cons (pe_callTy call_str_int (by rfl) T.z_str (by decide +kernel) (pa_cons (pv 21) pa_nil)) pa_nil))) (pa_cons (pe_tup pa_nil) pa_nil))) pa_nil))) pa_nil)))) pss_nil)))) (fun D σ H h k => ?_)
  obtain ⟨Hs, m, order, dom, bad, p, h, hU, fd, hfd, xs, g20, h20⟩ := h
  obtain ⟨nl, ol, dm, st, rl, vs, h1, h2, h3, h4, h5, h6, h7, h8, h9⟩ := h.1.ex
  obtain ⟨dl, ds, u1, u2, u3⟩ := hU
  have nf := none1 hfd
  refine ⟨_, u1, _, rfl, ⟨_, SqL.of (xs _ _ u2)⟩, ?_⟩
  refine for_it (walk_list (K := K) (a := dl) (xs := ds)) (fun i σ H' => But [fd] Hs H' ∧ LD σ Hs m order dom bad p ∧ Vr σ 2 (.ref nl) ∧ Vr σ 13 (.ref dl) ∧ Vr σ 20 (.ref fd) ∧ ∃ fs, H' fd = some (.lst fs) ∧ Paired (SolAt H') fs (fnd (nml m) order bad ((prd (order.map dom)).take i)))
    ⟨xs.but, h, h1, u1, g20, [], h20, .nil⟩ (fun i σ H' _ z => SqL.of (z.1.exN nf _ _ u2)) (fun i v σ Hz H1 hi z y => ?_) (fun σ H5 z => ?_)
  · obtain ⟨b, hd, g2, g13, g20, fs, hf, hP⟩ := z
    obtain ⟨rfl, hv⟩ := y
    have xe := b.exN nf
    have l24 := hd.n
    obtain ⟨q, eq, t, pa, de, rfl, t1, t2, t3⟩ := pr_get u3 hv
    rw [List.take_of_length_le (Nat.le_refl _)] at eq t3
    have nN := nml_Ok h.1.m1 h.1.m3
    have ol3 : order.length ≤ 3 := by rw [h.1.pm.length_eq, nml_len h.1.m3]; exact h.1.m3
    have dok : ∀ x ∈ order, DomOk (dom x) := fun x hx => by
      obtain ⟨kvs, _, _, z⟩ := h7
      exact (z x (h.1.pm.mem_iff.mp hx)).2
    obtain ⟨m1, m2, m3⟩ := prd_mem _ q (List.mem_of_getElem? eq)
    rw [List.length_map] at m1
    have zb := wsO_mem (names := nml m) (order := order) (m2 fun c hc v hv => by
      obtain ⟨y, hy, rfl⟩ := List.mem_map.mp hc
      exact (dok y hy).2.2 v hv)
    have wl : (wsO (nml m) order q.2).length = m := by unfold wsO; rw [List.length_map, nml_len h.1.m3]
    have ib := isum_bd _ zb
    have h3m := h.1.m3
    rw [wl] at ib
    have gt : ∀ x ∈ nml m, valV (kvZ order q.2) (Sum.inr x) = some (V.int (q.2.getD (order.idxOf x) 0)) := fun x hx => kvZ_get order q.2 x m1.symm (h.1.pm.mem_iff.mpr hx)
    have tot : (wsO (nml m) order q.2).sum = isum (wsO (nml m) order q.2) := (isum_sum _).symm
    refine ⟨_, _, rfl, SqT.of (xe _ _ t1), rfl, _, _, rfl, _, _, rfl, rfl, ?_⟩
    have s2 : Vr ((σ.set 15 (some (.ref pa))).set 16 (some (.ref de))) 2 (.ref nl) := (g2.ne (by decide)).ne (by decide)
    have s16 : Vr ((σ.set 15 (some (.ref pa))).set 16 (some (.ref de))) 16 (.ref de) := Vr.same (by rw [List.length_set, l24]; decide)
    have sl : ((σ.set 15 (some (.ref pa))).set 16 (some (.ref de))).length = 24 := sig_set (sig_set l24)
    have hn1 := xe _ _ h5
    have hd1 := xe _ _ t3
    refine ⟨_, s2, nl, rfl, ⟨_, SqL.of hn1⟩, fun R hR => ?_⟩
    have nR := none1 hR
    refine lc_it (walk_list (K := K) (a := nl) (xs := (nml m).map V.str)) (fun k H' => But [R] H1 H' ∧ H' R = some (.lst (((wsO (nml m) order q.2).take k).map V.int))) ⟨(Ex.new hR).but, upd_same⟩ (fun k H' _ z => SqL.of (z.1.exN nR _ _ hn1)) (fun k x H' H2 hk z y => ?_) (fun H2 z => ?_)
    · obtain ⟨z1, z2⟩ := z
      obtain ⟨rfl, hx⟩ := y
      rw [List.length_map] at hk
      have eo : (nml m)[k]? = some (nml m)[k] := List.getElem?_eq_getElem hk
      rw [List.getElem?_map, eo] at hx
      cases hx
      refine ⟨wipe1, _, s16.cmp (by decide), _, Vr.cmpS (by rw [sl]; decide), de, _, rfl, by rw [← gt _ (List.getElem_mem hk)]; exact DGet.k (k := Sum.inr _) (z1.exN nR _ _ hd1), _, z2, szl (by rw [List.length_map, List.length_take]; omega), z1.trans (But.set (by simp)), ?_⟩
      rw [upd_same, List.take_succ]
      unfold wsO
      rw [List.getElem?_map, eo, List.map_append]
      rfl
    obtain ⟨z1, z2⟩ := z
    rw [List.length_map, nml_len h.1.m3, List.take_of_length_le (by rw [wl]; exact Nat.le_refl _)] at z2
    refine ⟨R, _, rfl, SqL.of z2, ?_⟩
    rw [tot]
    have x2 := z1.exN nR
    have hf2 := x2 _ _ hf
    have v9 := hd.1.v9
    refine ⟨_, Vr.same (by rw [sl]; decide), _, ((v9.ne (by decide)).ne (by decide)).ne (by decide), by cases bad <;> rfl, _, rfl, ?_⟩
    have et : (prd (order.map dom)).take (i + 1) = (prd (order.map dom)).take i ++ [q] := by rw [List.take_succ, eq]; rfl
    by_cases c : V.int (isum (wsO (nml m) order q.2)) = oI bad
    · have cb : bad = some (isum (wsO (nml m) order q.2)) := by
        cases bad with
        | none => cases c
        | some b => cases c; rfl
      refine ifnF c ?_
      refine ⟨b.trans x2.but, ((hd.set (by omega)).set (by omega)).set (by omega), (s2.ne (by decide)), ((g13.ne (by decide)).ne (by decide)).ne (by decide), ((g20.ne (by decide)).ne (by decide)).ne (by decide), fs, hf2, ?_⟩
      rw [et, fnd_snoc, if_pos cb, List.append_nil]
      exact pr_imp (fun _ _ z => SolAt.ex x2 z) hP
    · have cb : ¬ bad = some (isum (wsO (nml m) order q.2)) := fun z => c (by rw [z]; rfl)
      refine ifnT c ?_
      have s3 : Vr (((σ.set 15 (some (.ref pa))).set 16 (some (.ref de))).set 21 (some (.int (isum (wsO (nml m) order q.2))))) 2 (.ref nl) := s2.ne (by decide)
      have s4 : Vr (((σ.set 15 (some (.ref pa))).set 16 (some (.ref de))).set 21 (some (.int (isum (wsO (nml m) order q.2))))) 16 (.ref de) := s16.ne (by decide)
      have s5 : Vr (((σ.set 15 (some (.ref pa))).set 16 (some (.ref de))).set 21 (some (.int (isum (wsO (nml m) order q.2))))) 15 (.ref pa) := ((Vr.same (by rw [l24]; decide)).ne (by decide)).ne (by decide)
      have s6 : Vr (((σ.set 15 (some (.ref pa))).set 16 (some (.ref de))).set 21 (some (.int (isum (wsO (nml m) order q.2))))) 21 (.int (isum (wsO (nml m) order q.2))) := Vr.same (by rw [sl]; decide)
      have s7 : Vr (((σ.set 15 (some (.ref pa))).set 16 (some (.ref de))).set 21 (some (.int (isum (wsO (nml m) order q.2))))) 20 (.ref fd) := ((g20.ne (by decide)).ne (by decide)).ne (by decide)
      have s8 : (((σ.set 15 (some (.ref pa))).set 16 (some (.ref de))).set 21 (some (.int (isum (wsO (nml m) order q.2))))).length = 24 := sig_set sl
      have hn2 := x2 _ _ hn1
      have hd2 := x2 _ _ hd1
      refine ⟨_, s7, .inl ⟨rfl, _, SqL.of hf2⟩, _, s5, _, s3, nl, rfl, ⟨_, SqL.of hn2⟩, fun R2 hR2 => ?_⟩
      have nR2 := none1 hR2
      refine lc_it (walk_list (K := K) (a := nl) (xs := (nml m).map V.str)) (fun k H' => But [R2] H2 H' ∧ H' R2 = some (.lst (((wsO (nml m) order q.2).take k).map fun z => V.str (tx z)))) ⟨(Ex.new hR2).but, upd_same⟩ (fun k H' _ z => SqL.of (z.1.exN nR2 _ _ hn2)) (fun k x H' H3 hk z y => ?_) (fun H3 z => ?_)
      · obtain ⟨y1, y2⟩ := z
        obtain ⟨rfl, hx⟩ := y
        rw [List.length_map] at hk
        have eo : (nml m)[k]? = some (nml m)[k] := List.getElem?_eq_getElem hk
        rw [List.getElem?_map, eo] at hx
        cases hx
        have zk := zb (q.2.getD (order.idxOf (nml m)[k]) 0) (List.mem_map.mpr ⟨_, List.getElem_mem hk, rfl⟩)
        refine ⟨wipe1, _, s4.cmp (by decide), _, Vr.cmpS (by rw [s8]; decide), de, _, rfl, by rw [← gt _ (List.getElem_mem hk)]; exact DGet.k (k := Sum.inr _) (y1.exN nR2 _ _ hd2), _, rfl, log_small (by omega), _, y2, szl (by rw [List.length_map, List.length_take]; omega), y1.trans (But.set (by simp)), ?_⟩
        rw [upd_same, List.take_succ]
        unfold wsO
        rw [List.getElem?_map, eo, List.map_append]
        rfl
      obtain ⟨y1, y2⟩ := z
      rw [List.length_map, nml_len h.1.m3, List.take_of_length_le (by rw [wl]; exact Nat.le_refl _)] at y2
      have x3 := x2.trans (y1.exN nR2)
      refine ⟨R2, _, rfl, .inl ⟨SqL.of y2, fun l hl => ⟨_, s6, _, rfl, log_small (by omega), sz (by simp), fun o ho => ?_⟩⟩⟩
      have f1 := Ex.new (o := .tup ((wsO (nml m) order q.2).map fun z => V.str (tx z))) hl
      have f2 := Ex.new (o := .tup [.str (tx (isum (wsO (nml m) order q.2)))]) ho
      refine ⟨l, o, _, _, rfl, rfl, f2 _ _ upd_same, upd_same, by rw [List.length_map, wl]; show _ + 1 ≤ _; omega, fun r H4 x4 hr4 => ⟨sz (by simp), fun e he => ⟨sz (by simp), fun u hu => ⟨sz (by simp), fun a ha => ?_⟩⟩⟩⟩
      have f5 := Ex.new (o := .tup []) he
      have f6 := Ex.new (o := .tup [.ref r, .ref e]) hu
      have f7 := Ex.new (o := .tup [.ref pa, .ref u]) ha
      have xx := x3.trans (f1.trans (f2.trans (x4.trans (f5.trans (f6.trans f7)))))
      have hfx := xx _ _ hf
      have lf : fs.length ≤ 64 := by
        rw [pr_len hP]
        unfold fnd
        refine Nat.le_trans (List.length_filterMap_le _ _) ?_
        rw [List.length_take]
        have := prd_64 (cs := order.map dom) (by rw [List.length_map]; exact ol3) fun c hc => by
          obtain ⟨y, hy, rfl⟩ := List.mem_map.mp hc
          exact (dok y hy).2.1
        omega
      refine ⟨fd, _, _, rfl, rfl, hfx, szl (by omega), ?_⟩
      have rr := (f5.trans (f6.trans f7)) _ _ hr4
      have ee := (f6.trans f7) _ _ (upd_same : upd H4 e (HO.tup []) e = some _)
      have uu := f7 _ _ (upd_same : upd (upd H4 e (HO.tup [])) u (HO.tup [.ref r, .ref e]) u = some _)
      have aa : upd (upd (upd H4 e (HO.tup [])) u (HO.tup [.ref r, .ref e])) a (HO.tup [.ref pa, .ref u]) a = some _ := upd_same
      have pp := xx _ _ (xe _ _ t2)
      generalize upd (upd (upd H4 e (HO.tup [])) u (HO.tup [.ref r, .ref e])) a (HO.tup [.ref pa, .ref u]) = H7 at *
      have b8 : But [fd] H7 (upd H7 fd (.lst (fs ++ [.ref a]))) := But.set (by simp)
      refine ⟨b.trans (xx.but.trans b8), ((hd.set (by omega)).set (by omega)).set (by omega), s3, ((g13.ne (by decide)).ne (by decide)).ne (by decide), s7, _, upd_same, ?_⟩
      rw [et, fnd_snoc, if_neg cb]
      refine pr_app (pr_imp (fun _ _ z => SolAt.but z (xx.but.trans b8) hf) hP) (.cons ?_ .nil)
      refine ⟨a, pa, .ref u, rfl, b8 _ _ aa (off_l hfx aa fun _ z => nomatch z), b8 _ _ pp (off_l hfx pp fun _ z => nomatch z), u, r, e, rfl, b8 _ _ uu (off_l hfx uu fun _ z => nomatch z), ?_, b8 _ _ ee (off_l hfx ee fun _ z => nomatch z)⟩
      rw [b8 _ _ rr (off_l hfx rr fun _ z => nomatch z), List.map_append]
      rfl
  · obtain ⟨b, hd, g2, g13, g20, fs, hf, hP⟩ := z
    rw [List.take_of_length_le (by rw [pr_len u3, List.take_of_length_le (Nat.le_refl _)]; exact Nat.le_refl _)] at hP
    have xe := b.exN nf
    exact k _ _ ⟨m, order, dom, bad, p, hd.dx xe, ⟨dl, ds, g13, xe _ _ u2, pr_imp (fun _ _ z => z.ex xe) u3⟩, fd, fs, g20, hf, hP⟩
end
end Lw
/-! ### law: the end -/
namespace Lw
open PySem PySem.Spec PyProof.Rows L2
theorem strOk_of (s : String) : PyData.strOk (Str.ofString s) = true := by
  unfold PyData.strOk
  rw [← Array.all_toList, signs_ofString, List.all_eq_true]
  intro n hn
  obtain ⟨c, _, rfl⟩ := List.mem_map.mp hn
  have := c.valid
  unfold UInt32.isValidChar Nat.isValidChar at this
  refine decide_eq_true ?_
  show c.val.toNat < _
  omega
def solD (q : List Bool × List Int) : PyData := .tuple [.tuple (q.1.map .bool), .tuple [.tuple (q.2.map fun z => .str (tx z)), .tuple []]]
theorem layB : ∀ bs : List Bool, PyData.canLayAll0 (bs.map .bool) = true
  | [] => by simp [PyData.canLayAll0]
  | b :: bs => by simp [PyData.canLayAll0, PyData.canLay0, layB bs]
theorem layS : ∀ zs : List Int, PyData.canLayAll0 (zs.map fun z => .str (tx z)) = true
  | [] => by simp [PyData.canLayAll0]
  | z :: zs => by
    have h := strOk_of (toString z)
    have h' : PyData.strOk (tx z) = true := h
    simp only [List.map_cons, PyData.canLayAll0, PyData.canLay0, h', layS zs, Bool.and_true]
theorem depB : ∀ bs : List Bool, PyData.depthAll (bs.map .bool) = 0
  | [] => by simp [PyData.depthAll]
  | b :: bs => by simp [PyData.depthAll, PyData.depth, depB bs]
theorem depS : ∀ zs : List Int, PyData.depthAll (zs.map fun z => .str (tx z)) = 0
  | [] => by simp [PyData.depthAll]
  | z :: zs => by simp [PyData.depthAll, PyData.depth, depS zs]
theorem solD_lay (q : List Bool × List Int) : (solD q).canLay0 = true := by
  simp [solD, PyData.canLay0, PyData.canLayAll0, layB, layS]
theorem solD_dep (q : List Bool × List Int) : (solD q).depth ≤ 3 := by
  simp only [solD, PyData.depth, PyData.depthAll, depB, depS]
  omega
theorem solDs_lay : ∀ qs : List (List Bool × List Int), PyData.canLayAll0 (qs.map solD) = true
  | [] => by simp [PyData.canLayAll0]
  | q :: qs => by simp [PyData.canLayAll0, solD_lay q, solDs_lay qs]
theorem solDs_dep : ∀ qs : List (List Bool × List Int), PyData.depthAll (qs.map solD) ≤ 3
  | [] => by simp [PyData.depthAll]
  | q :: qs => by
    have h1 := solDs_dep qs
    have h2 := solD_dep q
    simp only [List.map_cons, PyData.depthAll]
    omega
theorem solDs_shaped (qs : List (List Bool × List Int)) : SeqAt.shaped (.list (qs.map solD)) = true := by
  have h1 := solDs_dep qs
  have h2 : PyData.depth (.list (qs.map solD)) ≤ 64 := by
    simp only [PyData.depth]
    omega
  show (PyData.canLay0 (.list (qs.map solD)) && decide (PyData.depth (.list (qs.map solD)) ≤ 64)) = true
  rw [Bool.and_eq_true]
  exact ⟨by simp only [PyData.canLay0]; exact solDs_lay qs, decide_eq_true h2⟩
theorem dpB {K : PySem.W.Frag} {H : Hp} : ∀ bs : List Bool, DpAll K H (bs.map V.bl) (bs.map .bool)
  | [] => .nil
  | b :: bs => .cons (.bl b) (dpB bs)
theorem dpS {K : PySem.W.Frag} {H : Hp} : ∀ zs : List Int, DpAll K H (zs.map fun z => V.str (tx z)) (zs.map fun z => .str (tx z))
  | [] => .nil
  | z :: zs => .cons (.str _) (dpS zs)
theorem sol_dp {K : PySem.W.Frag} {H : Hp} {v : V} {q : List Bool × List Int} (h : SolAt H v q) : Dp K H v (solD q) := by
  obtain ⟨p, pa, ov, rfl, h2, h3, o, oa, ob, rfl, g2, g3, g4⟩ := h
  exact .tup (SqT.of h2) (.cons (.tup (SqT.of h3) (dpB _)) (.cons (.tup (SqT.of g2) (.cons (.tup (SqT.of g3) (dpS _)) (.cons (.tup (SqT.of g4) .nil) .nil))) .nil))
theorem sols_dp {K : PySem.W.Frag} {H : Hp} {vs : List V} {qs : List (List Bool × List Int)} (h : Paired (SolAt H) vs qs) : DpAll K H vs (qs.map solD) := by
  induction h with
  | nil => exact .nil
  | cons r t ih => exact .cons (sol_dp r) ih
/-- all that the end needs -/
def LG (σ : List (Option V)) (H : Hp) (m : Nat) (order : List Str) (dom : Str → List Int) (bad : Option Int) (p : Nat) : Prop :=
  (order.Perm (nml m) ∧ 1 ≤ m ∧ m ≤ 3 ∧ p ≤ m ∧ ∀ x ∈ nml m, DomOk (dom x)) ∧ σ.length = 24 ∧
  (∃ dl vs, Vr σ 13 (.ref dl) ∧ H dl = some (.lst vs) ∧ vs.length = (prd (order.map dom)).length) ∧
  (∃ fd fs, Vr σ 20 (.ref fd) ∧ H fd = some (.lst fs) ∧ Paired (SolAt H) fs (fnd (nml m) order bad (prd (order.map dom)))) ∧
  ∃ pt g sv, Vr σ 22 (.ref pt) ∧ H pt = some (.tup [.ref g, sv]) ∧ H g = some (.tup ((nml m ++ [("S" : Str)]).map V.str)) ∧ SmAt H sv (sq (lawL m order dom bad p))
section
variable {P : Program} {w : World} {K : PySem.W.Frag} {mg : Str → Option Value} {base : Heap} {cdv : Value} {A : Around} {outer : List Env} {s0 : Shared} {H0 : Hp} {E : XK}
theorem seg_17 (T : Tx K mg) (hr : RmL K cdv A s0) : Seg (LX P w K mg base cdv A outer s0 H0 E) [lawS 17]
    (fun σ H => ∃ m order dom bad p, LD σ H m order dom bad p ∧ LU σ H order dom order.length ∧ ∃ fd fs, Vr σ 20 (.ref fd) ∧ H fd = some (.lst fs) ∧ Paired (SolAt H) fs (fnd (nml m) order bad (prd (order.map dom))))
    (fun σ H => ∃ m order dom bad p, LG σ H m order dom bad p) := by
  have sc := scL
  refine Seg.one (ps_set (i := 22) sc.nd rfl (Or.inl rfl) (pe_tup (pa_cons (pe_op op_catU (pe_callTy call_tuple_of (by rfl) T.z_tuple (by decide +kernel) (pa_cons (pv 2) pa_nil)) (pe_tup (pa_cons pe_str pa_nil))) (pa_cons (pv 11) pa_nil)))) (fun D σ H h k => ?_)
  obtain ⟨m, order, dom, bad, p, h, ⟨dl, ds, u1, u2, u3⟩, fd, fs, g20, hf, hP⟩ := h
  obtain ⟨nl, ol, dm, st, rl, vs, h1, h2, h3, h4, h5, h6, h7, h8, h9⟩ := h.1.ex
  obtain ⟨v, hv, sv⟩ := h.2
  have h3m := h.1.m3
  have nm := nml_len h3m
  refine ⟨_, h1, nl, _, rfl, .inl ⟨SqL.of h5, fun a ha => ⟨sz (by simp), fun b hb => ?_⟩⟩⟩
  have e1 := Ex.new (o := .tup ((nml m).map V.str)) ha
  have e2 := Ex.new (o := .tup [.str "S"]) hb
  refine ⟨a, b, _, _, rfl, rfl, e2 _ _ upd_same, upd_same, by rw [List.length_map, nm]; show _ + 1 ≤ _; omega, fun r H4 x4 hr4 => ⟨_, hv, sz (by simp), fun t ht => ?_⟩⟩
  have e5 := Ex.new (o := .tup [.ref r, v]) ht
  have xx := e1.trans (e2.trans (x4.trans e5))
  rw [List.take_of_length_le (Nat.le_refl _)] at u3
  refine k _ _ ⟨m, order, dom, bad, p, ⟨h.1.pm, h.1.m1, h.1.m3, h.1.pl, fun x hx => ?_⟩, sig_set h.n, ⟨dl, ds, u1.ne (by decide), xx _ _ u2, pr_len u3⟩, ⟨fd, fs, g20.ne (by decide), xx _ _ hf, pr_imp (fun _ _ z => SolAt.ex xx z) hP⟩, t, r, v, Vr.same (by rw [h.n]; decide), upd_same, ?_, sv.imm xx.imm⟩
  · obtain ⟨kvs, _, _, z⟩ := h7
    exact (z x hx).2
  · rw [e5 _ _ hr4, List.map_append]
    rfl
/-- the rows of the search of the law's program -/
def RowsOk (m : Nat) (order : List Str) (dom : Str → List Int) (bad : Option Int) (p : Nat) (rows : List Nod) : Prop :=
  Srch 0 [([], iniM (nml m ++ [("S" : Str)]) (sq (lawL m order dom bad p)))] rows ∧ rows.length ≤ 127 ∧ (∀ r ∈ rows, AskOk r) ∧ (∀ r ∈ rows, Fine zf0 r) ∧
      sols rows zf0 = fnd (nml m) order bad (prd (order.map dom)) ∧
      Txt.count (shpT rows) "d" = ((fnd (nml m) order bad (prd (order.map dom))).length : Int) ∧
      Txt.count (shpT rows) "f" = ((prd (order.map dom)).length : Int) - ((fnd (nml m) order bad (prd (order.map dom))).length : Int)
theorem seg_18 (T : Tx K mg) (hr : RmL K cdv A s0) : Seg (LX P w K mg base cdv A outer s0 H0 E) [lawS 18]
    (fun σ H => ∃ m order dom bad p, LG σ H m order dom bad p)
    (fun σ H => ∃ m order dom bad p rows, LG σ H m order dom bad p ∧ RowsOk m order dom bad p rows ∧ Vr σ 23 (.str (shpT rows))) := by
  have sc := scL
  refine Seg.one (ps_set (i := 23) sc.nd rfl (Or.inl rfl) (pe_c (f_shape T) hr (pa_cons (pv 22) pa_nil))) (fun D σ H h k => ?_)
  obtain ⟨m, order, dom, bad, p, ⟨h1, h2, h3, h4, h5⟩, hl, ⟨dl, vs, u1, u2, u3⟩, ⟨fd, fs, f1, f2, f3⟩, pt, g, sv, p1, p2, p3, p4⟩ := h
  obtain ⟨rows, R⟩ := law_plain (bad := bad) h2 h3 h1 h4 fun x hx => h5 x hx
  have nm := nml_len h3
  refine ⟨_, p1, pt, g, _, sv, _, rows, rfl, p2, p3, p4, by rw [List.length_append, nm]; show _ + 1 ≤ _; omega, R.1, R.2.2.1, by have := R.2.1; omega, fun H' x => ?_⟩
  exact k _ _ ⟨m, order, dom, bad, p, rows, ⟨⟨h1, h2, h3, h4, h5⟩, sig_set hl, ⟨dl, vs, u1.ne (by decide), x _ _ u2, u3⟩, ⟨fd, fs, f1.ne (by decide), x _ _ f2, pr_imp (fun _ _ z => SolAt.ex x z) f3⟩, pt, g, sv, p1.ne (by decide), x _ _ p2, x _ _ p3, p4.imm x.imm⟩, R, Vr.same (by rw [hl]; decide)⟩
end
end Lw
/-! ### law: the whole def -/
namespace Lw
open PySem PySem.Spec PyProof.Rows L2
section
variable {P : Program} {w : World} {K : PySem.W.Frag} {mg : Str → Option Value} {base : Heap}
def spLaw (K : PySem.W.Frag) : Sp := fun vs H Q _ => ∃ (a : Addr) (ns : List Int), vs = [.ref a] ∧ SqL K H a (ns.map V.int) ∧ ns.length ≤ 1000 ∧ ∀ H', Q (.bl true) H'
theorem body_eq : (((((((((((((((((([lawS 0] ++ [lawS 1]) ++ [lawS 2]) ++ [lawS 3]) ++ [lawS 4]) ++ [lawS 5]) ++ [lawS 6]) ++ [lawS 7]) ++ [lawS 8]) ++ [lawS 9]) ++ [lawS 10]) ++ [lawS 11]) ++ [lawS 12]) ++ [lawS 13]) ++ [lawS 14]) ++ [lawS 15]) ++ [lawS 16]) ++ [lawS 17]) ++ [lawS 18]) ++ [lawS 19, lawS 20] = defBody s_law := rfl
theorem law_body (T : Tx K mg) : Body0 P w K mg base ("law", none) "law" s_law NL 12 (spLaw K) := by
    have sc := scL
    intro cdv A outer s H vs Q E hr h
    obtain ⟨a, ns, rfl, ha, hl, k⟩ := h
    have hu : (A.deeper (envOfC "law" (defScope s_law) s.heap.objs.size (He.fAd K ("law", none)) cdv)).units + 64 < cLine := hr.units
    obtain ⟨t, p, q⟩ := ((((((((((((((((((seg_0 (P := P) (w := w) (base := base) (outer := outer) (H0 := H) (E := E) T hr 0).app (seg_1 T hr)).app (seg_2 T hr)).app (seg_3 T hr)).app (seg_4 T hr)).app (seg_5 T hr)).app (seg_6 T hr)).app (seg_7 T hr)).app (seg_8 T hr)).app (seg_9 T hr)).app (seg_10 T hr)).app (seg_11 T hr)).app (seg_12 T hr)).app (seg_13 T hr)).app (seg_14 T hr)).app (seg_15 T hr)).app (seg_16 T hr)).app (seg_17 T hr)).app (seg_18 T hr)
    have pe := p [lawS 19, lawS 20] _ (pss_cons (ps_if (PW.pt (pw_or (pt_cmpR op_ne (pe_m1 PySem.F.slot_str_count PySem.F.type_str_count mt_count (pv 23) pe_str) (pe_callB call_len_seq (by rfl) T.z_len PySem.boot_len (pa_cons (pv 20) pa_nil)) (nomark _))
        (pw_or1 (pt_cmpR op_ne (pe_m1 PySem.F.slot_str_count PySem.F.type_str_count mt_count (pv 23) pe_str) (pe_op op_sub (pe_callB call_len_seq (by rfl) T.z_len PySem.boot_len (pa_cons (pv 13) pa_nil)) (pe_callB call_len_seq (by rfl) T.z_len PySem.boot_len (pa_cons (pv 20) pa_nil))) (nomark _)))))
        (pss_one (ps_ret pe_bl)) pss_nil)
      (pss_one (ps_ret (pe_cmpR (op_eqD hu) (pe_c (f_solutions T) hr (pa_cons (pv 22) pa_nil)) (pv 20) (nomark _)))))
    rw [body_eq] at pe
    refine ⟨_, pe, q _ _ _ _ ⟨a, ns, rfl, rfl, ha, hl⟩ fun σ H1 h => ?_⟩
    obtain ⟨m, order, dom, bad, p, rows, ⟨⟨h1, h2, h3, h4, h5⟩, hl, ⟨dl, vs, u1, u2, u3⟩, ⟨fd, fs, f1, f2, f3⟩, pt, g, sv, p1, p2, p3, p4⟩, R, v23⟩ := h
    obtain ⟨r1, r2, r3, r4, r5, r6, r7⟩ := R
    have nm := nml_len h3
    have lf := pr_len f3
    refine ⟨_, v23, ⟨_, rfl⟩, _, _, rfl, rfl, _, f1, _, _, rfl, .inl (SqL.of f2), rfl, _, rfl, ?_⟩
    refine ifnF (by rw [r6, lf]) ?_
    refine ⟨_, v23, ⟨_, rfl⟩, _, _, rfl, rfl, _, u1, _, _, rfl, .inl (SqL.of u2), _, f1, _, _, rfl, .inl (SqL.of f2), _, _, rfl, rfl, rfl, _, rfl, ?_⟩
    refine ifnF (by rw [r7, lf, u3]) ?_
    refine ⟨_, p1, pt, g, _, sv, _, rows, zf0, rfl, p2, p3, p4, by rw [List.length_append, nm]; show _ + 1 ≤ _; omega, r1, r4, by omega, fun rd rs H' hrd hP x hn => ?_⟩
    rw [r5] at hP
    refine ⟨_, f1, _, _, .lst (SqL.of hrd) (sols_dp hP), .lst (SqL.of (x _ _ f2)) (sols_dp (pr_imp (fun _ _ z => SolAt.ex x z) f3)), solDs_shaped _, solDs_shaped _, ?_⟩
    have e : ∀ X : List (List Bool × List Int), PyData.eqv (.list (X.map solD)) (.list (X.map solD)) = true := fun X => SeqAt.eqv_refl _ (SeqAt.canLay_of_shaped (solDs_shaped X))
    rw [e]
    exact k H'
end
end Lw
namespace Lw
open PySem PySem.Spec PyProof.Rows L2
theorem law_facts {P : Program} {w : World} {K : PySem.W.Frag} {h : Heap} {mg : Str → Option Value} {f : Addr} (X : K.In h) (G : h.Ns mainGlobals mg) (hfa : mg ("law" : Str) = some (.ref f)) (c : SaysX K) :
    ∃ fd : FuncData, (∀ (s : Shared) (v : Value), BindsTo s fd ⟨[v], []⟩ [("_law_script", v)]) ∧ ∀ base : Heap, K.In base → base.Ns mainGlobals mg → FnOk P w K mg base CX0 13 f fd ["_law_script"] (spLaw K) := by
  have T : Tx K mg := Tx.mk_of X G c
  obtain ⟨fd, F⟩ := T.f_law
  have e := hfa.symm.trans T.g_law
  cases e
  have b := FunD.bindsA (ps := ["_law_script"]) F fun _ _ _ _ _ _ us hl => match us, hl with | [_], _ => rfl
  refine ⟨fd, fun s v => b s [v] rfl, fun base _ _ => F.ok scL (fun vs H Q E h => ?_) fun cdv A outer s H vs Q E hr h => ?_⟩
  · obtain ⟨_, _, rfl, _⟩ := h
    rfl
  · obtain ⟨t, h1, h2⟩ := law_body T cdv A outer s H vs Q E hr h
    exact ⟨t, h1.nox, h2⟩
end Lw
open PySem PySem.W PySem.Calls PyProof.Rows
set_option maxHeartbeats 0
theorem PySem.Challenge.cw_leatwork_k49_whole_search_with_threads_holds : PySem.Challenge.rw_leatwork_k49_whole_search_with_threads.Holds := by
  w_on; o_law
  refine HandSHeadRun.head_any (r := OpenLaw.row PySem.Challenge.rw_leatwork_k49_whole_search_with_threads) (q := view (OpenLaw.row PySem.Challenge.rw_leatwork_k49_whole_search_with_threads).prog [61]) (H := Lw.hook) (ob := Lw.ob) (M := 30000) (loose := Lw.loose) (d := HandSHeadRun.topDef (OpenLaw.row PySem.Challenge.rw_leatwork_k49_whole_search_with_threads).prog 61) (kwd := []) Lw.ob_eq
    (by kernel_rfl) (fun s => by kernel_rfl) Lw.run (by kernel_rfl) (by kernel_rfl) (by kernel_rfl) (by rfl) (by first | assumption | decide +kernel) (by decide +kernel) ⟨rfl, rfl, rfl, rfl, rfl, by decide +kernel⟩ ?hw ?hc
  case hw => w_witness2
  case hc =>
    refine L2.walk_ofE (l := PySem.Challenge.rw_leatwork_k49_whole_search_with_threads) (n := 63) (k := 13) (x := "_law_script") (CX := L2.CX0) rfl (by decide) (by kernel_rfl) ⟨rfl, by decide, by decide⟩ ?F (fun _ _ _ _ z => z)
    intro w mg fa h Y G hmg0
    obtain ⟨K, KX, c⟩ := Y
    have hmg : mg ("law" : PySem.Str) = some (.ref fa) := by
      have e : (HandSHeadRun.topDef (OpenLaw.row PySem.Challenge.rw_leatwork_k49_whole_search_with_threads).prog 61).name = ("law" : PySem.Str) := by kernel_rfl
      rw [← e]
      exact hmg0
    obtain ⟨fd, hb, hF⟩ := Lw.law_facts (P := (PySem.Challenge.rw_leatwork_k49_whole_search_with_threads).prog) (w := w) KX G hmg c
    exact ⟨K, fd, Lw.spLaw K, KX, hb, fun H a ns hl _ hS => ⟨a, ns, rfl, hS, by omega, fun _ => rfl⟩, hF⟩
