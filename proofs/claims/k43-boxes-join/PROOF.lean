import PyProof.Rows.All
import Wide.All
import OpenK.AllK
import Wide.FinOn
import HandS.Head0
import HandS.Head1
import HandS.Head2
import HandS.HeadEnd
import HandS.HeadHook1
import HandS.HeadHook2
import KE.KStateDown
import HandS.ForMost
import HandS.Defaults
import HandS.IsInst
import HandS.SortInts
import HandS.TupSets
import HandS.DictTup
import HandS.Strs
import HandS.Keys
import KE.GoesEnumKw
import HandS.SetKeys
import KE.KDictSum
import PySem.Challenge.RW_surejoin_k43_boxes_join
set_option Elab.async false
set_option linter.all false
set_option maxRecDepth 100000
set_option maxHeartbeats 4000000
/-! T0: the text by places. -/
namespace SJ
open PySem PySem.Spec PyProof.Rows L2
def top (i : Nat) : Stmt := PySem.Challenge.pw_surejoin_k43_boxes_join.main.body.getD i (.Pass ⟨0, 0, 0, 0⟩)
abbrev s_is_number : Stmt := top 18
abbrev s_is_pair : Stmt := top 19
abbrev s_is_rising : Stmt := top 20
abbrev s_kind_of : Stmt := top 27
abbrev s_all_of : Stmt := top 30
abbrev s_expressions_of : Stmt := top 31
abbrev s_looks_in : Stmt := top 32
abbrev s_looks_of : Stmt := top 33
abbrev s_looks : Stmt := top 35
abbrev s_is_let : Stmt := top 36
abbrev s_reckoned : Stmt := top 39
abbrev s_plain_row : Stmt := top 41
abbrev s_straight : Stmt := top 42
abbrev s_made : Stmt := top 45
abbrev s_job_called : Stmt := top 47
abbrev s_copied : Stmt := top 51
abbrev s_is_steps : Stmt := top 52
abbrev s_first_states : Stmt := top 53
abbrev s_unlike : Stmt := top 58
abbrev s_all_looks : Stmt := top 59
abbrev s_boxes_named : Stmt := top 60
abbrev s_check_names : Stmt := top 62
abbrev s_fits : Stmt := top 63
abbrev s_check_kinds : Stmt := top 64
abbrev s_made_of : Stmt := top 74
abbrev s_is_name : Stmt := top 75
abbrev s_read_number : Stmt := top 76
abbrev s_leaf_of : Stmt := top 78
abbrev s_expression_at : Stmt := top 79
abbrev s_expressions_from : Stmt := top 86
abbrev s_between : Stmt := top 87
abbrev s_names_from : Stmt := top 88
abbrev s_read_named : Stmt := top 89
abbrev s_read_line : Stmt := top 92
abbrev s_nested : Stmt := top 97
abbrev s_read : Stmt := top 100
abbrev s_law_cell_at : Stmt := top 102
abbrev s_law_spread : Stmt := top 103
abbrev s_law_boxes : Stmt := top 104
abbrev s_law_number : Stmt := top 105
abbrev s_law_put : Stmt := top 106
abbrev s_law_joined : Stmt := top 107
abbrev s_law_states : Stmt := top 108
abbrev s_law_alike : Stmt := top 109
abbrev s_law_turn_right : Stmt := top 110
abbrev s_law : Stmt := top 111
abbrev m_Kind_is_state : Stmt := inClass (top 21) 1
abbrev m_Kind_stands : Stmt := inClass (top 21) 2
abbrev m_Kind_joined : Stmt := inClass (top 21) 3
abbrev m_Most_joined : Stmt := inClass (top 22) 1
abbrev m_Set_stands : Stmt := inClass (top 23) 1
abbrev m_Set_joined : Stmt := inClass (top 23) 2
abbrev m_Row_stands : Stmt := inClass (top 25) 1
abbrev m_Row_joined : Stmt := inClass (top 25) 2
abbrev m_Map_is_state : Stmt := inClass (top 26) 1
abbrev m_Map_joined : Stmt := inClass (top 26) 2
abbrev m_Thread_init : Stmt := inClass (top 48) 0
abbrev m_Thread_settle : Stmt := inClass (top 48) 1
abbrev m_Thread_line : Stmt := inClass (top 48) 2
abbrev m_Thread_number : Stmt := inClass (top 48) 3
abbrev m_Thread_wish : Stmt := inClass (top 48) 4
abbrev m_Thread_deed : Stmt := inClass (top 48) 5
abbrev m_Thread_needed : Stmt := inClass (top 48) 6
abbrev m_Thread_plain : Stmt := inClass (top 48) 9
abbrev m_Thread_state_of : Stmt := inClass (top 48) 10
abbrev m_House_init : Stmt := inClass (top 54) 0
abbrev m_House_goes : Stmt := inClass (top 54) 1
abbrev m_House_ready : Stmt := inClass (top 54) 2
abbrev m_House_turn : Stmt := inClass (top 54) 3
abbrev m_House_join : Stmt := inClass (top 54) 4
abbrev m_House_against : Stmt := inClass (top 54) 5
abbrev m_House_states : Stmt := inClass (top 54) 6
abbrev m_House_clashed : Stmt := inClass (top 54) 7
abbrev m_Block_init : Stmt := inClass (top 95) 0
abbrev m_Block_add : Stmt := inClass (top 95) 1
abbrev m_Block_whole : Stmt := inClass (top 95) 3
abbrev m_Pile_init : Stmt := inClass (top 96) 0
abbrev m_Pile_takes_outer : Stmt := inClass (top 96) 1
abbrev m_Pile_closes : Stmt := inClass (top 96) 2
abbrev m_Pile_takes : Stmt := inClass (top 96) 3
end SJ
set_option maxRecDepth 100000
set_option maxHeartbeats 4000000
/-! HK: the head's facts over a part of the heap that is told by few steps from the module's names. -/
namespace SJ
open PySem PySem.Spec PyProof.Rows L2
def objRefs (g : Addr → Option Obj) (a : Addr) : List Addr := match g a with
  | some ⟨_, _, .func fd, _⟩ => He.refV fd.code ++ He.refV fd.defaults
  | some ⟨_, _, .cls cd, _⟩ => [cd.ns]
  | some ⟨_, _, .dict es _, _⟩ => es.toList.flatMap fun e => He.refV e.val
  | _ => []
def adS (g : Addr → Option Obj) : List Addr :=
  [mainGlobals] ++ (objRefs g mainGlobals ++ ((objRefs g mainGlobals).flatMap (objRefs g) ++ (((objRefs g mainGlobals).flatMap (objRefs g)).flatMap (objRefs g) ++ (((objRefs g mainGlobals).flatMap (objRefs g)).flatMap (objRefs g)).flatMap (objRefs g))))
abbrev AlS : Type := He.AlD × List Bool
def obsS (fa : List He.Fa) (fn : List He.DefD) (bs : List (PySem.W.Frag → Bool)) (K : PySem.W.Frag) : AlS := (He.obsD fa fn K, bs.map fun t => t K)
def valS (fn : List He.DefD) (bs : List (PySem.W.Frag → Bool)) : AlS := (He.valD fn, bs.map fun _ => true)
def SaysS (fa : List He.Fa) (fn : List He.DefD) (bs : List (PySem.W.Frag → Bool)) (K : PySem.W.Frag) : Prop := obsS fa fn bs K = valS fn bs
def obsSG (fa : List He.Fa) (fn : List He.DefD) (bs : List (PySem.W.Frag → Bool)) (g : Addr → Option Obj) : AlS := obsS fa fn bs (He.frG g (adS g))
def hookS (fa : List He.Fa) (fn : List He.DefD) (bs : List (PySem.W.Frag → Bool)) : PySem.W.Hook where
  α := AlS
  obs := fun s => obsSG fa fn bs s.heap.get?
  val := fun _ => valS fn bs
  says := fun _ h => ∃ K : PySem.W.Frag, K.In h ∧ SaysS fa fn bs K
  of := fun _ _ e => ⟨_, He.frG_in, e⟩
  keeps := fun _ _ _ ⟨K, hK, c⟩ k => ⟨K, PySem.W.Frag.In.keeps hK k, c⟩
theorem obsSG_eq {fa : List He.Fa} {fn : List He.DefD} {bs : List (PySem.W.Frag → Bool)} {g : Addr → Option Obj} {s : Shared} (h : ∀ a, g a = s.heap.get? a) : obsSG fa fn bs g = (hookS fa fn bs).obs s := by
  have e : g = s.heap.get? := funext h
  rw [e] <;> rfl
section
variable {fa : List He.Fa} {fn : List He.DefD} {bs : List (PySem.W.Frag → Bool)} {K : PySem.W.Frag}
theorem SaysS.d (c : SaysS fa fn bs K) : He.SaysD fa fn K := congrArg (fun z : AlS => z.1) c
theorem SaysS.b (c : SaysS fa fn bs K) (i : Nat) {t : PySem.W.Frag → Bool} (h : bs[i]? = some t := by rfl) : t K = true := by
  have e : bs.map (fun t => t K) = bs.map fun _ => true := congrArg (fun z : AlS => z.2) c
  have e2 : (bs.map fun t => t K)[i]? = (bs.map fun _ => true)[i]? := by rw [e]
  rw [List.getElem?_map, List.getElem?_map, h] at e2
  exact Option.some.inj e2
/-- a fact that is in the list -/
theorem SaysS.f (c : SaysS fa fn bs K) {f : He.Fa} (h : f ∈ fa) : f.ok K = true := by
  have c1 := (He.ba (show ((fa.all fun f => f.ok K) && fn.all fun d => d.ok K) = true from congrArg (fun z : He.AlD => z.1) c.d)).1
  exact List.all_eq_true.mp c1 f h
end
/-- a table: the module's name x is a tuple of these texts -/
def tabB (x : Str) (ss : List Str) (K : PySem.W.Frag) : Bool := He.tupB K x (ss.map He.Dv.str)
/-- a class without an __init__ of its own -/
structure Mk0 (K : PySem.W.Frag) (C : Addr) : Prop where
  makes : PySem.W.makesIn K C = true
  init : PySem.W.findIn K (.ref C) "__init__" = some (some (.builtin "object.__init__"))
  kp : PySem.W.keepIn K (.ref C) = true
def mk0B (x : Str) (K : PySem.W.Frag) : Bool := PySem.W.makesIn K (He.ga K x) && (He.eqO (PySem.W.findIn K (.ref (He.ga K x)) "__init__") (some (some (.builtin "object.__init__"))) && PySem.W.keepIn K (.ref (He.ga K x)))
theorem mk0_ok {x : Str} {K : PySem.W.Frag} (h : mk0B x K = true) : Mk0 K (He.ga K x) := by
  obtain ⟨h1, h2⟩ := He.ba h
  obtain ⟨h2, h3⟩ := He.ba h2
  exact ⟨h1, He.eqO_ok h2, h3⟩
end SJ
set_option maxRecDepth 100000
set_option maxHeartbeats 0
/-! HD: what the head says, the data (printed by genHD2.py). -/
namespace SJ
open PySem PySem.Spec PyProof.Rows L2
def d_is_number : He.DefD := ⟨("is_number", none), "is_number", "is_number", defArgs s_is_number, defBody s_is_number, defScope s_is_number, [], []⟩
def d_is_pair : He.DefD := ⟨("is_pair", none), "is_pair", "is_pair", defArgs s_is_pair, defBody s_is_pair, defScope s_is_pair, [], []⟩
def d_is_rising : He.DefD := ⟨("is_rising", none), "is_rising", "is_rising", defArgs s_is_rising, defBody s_is_rising, defScope s_is_rising, [], []⟩
def d_kind_of : He.DefD := ⟨("kind_of", none), "kind_of", "kind_of", defArgs s_kind_of, defBody s_kind_of, defScope s_kind_of, [], []⟩
def d_all_of : He.DefD := ⟨("all_of", none), "all_of", "all_of", defArgs s_all_of, defBody s_all_of, defScope s_all_of, [], []⟩
def d_expressions_of : He.DefD := ⟨("expressions_of", none), "expressions_of", "expressions_of", defArgs s_expressions_of, defBody s_expressions_of, defScope s_expressions_of, [], []⟩
def d_looks_in : He.DefD := ⟨("looks_in", none), "looks_in", "looks_in", defArgs s_looks_in, defBody s_looks_in, defScope s_looks_in, [], []⟩
def d_looks_of : He.DefD := ⟨("looks_of", none), "looks_of", "looks_of", defArgs s_looks_of, defBody s_looks_of, defScope s_looks_of, [], []⟩
def d_looks : He.DefD := ⟨("looks", none), "looks", "looks", defArgs s_looks, defBody s_looks, defScope s_looks, [], []⟩
def d_is_let : He.DefD := ⟨("is_let", none), "is_let", "is_let", defArgs s_is_let, defBody s_is_let, defScope s_is_let, [], []⟩
def d_reckoned : He.DefD := ⟨("reckoned", none), "reckoned", "reckoned", defArgs s_reckoned, defBody s_reckoned, defScope s_reckoned, [], []⟩
def d_plain_row : He.DefD := ⟨("plain_row", none), "plain_row", "plain_row", defArgs s_plain_row, defBody s_plain_row, defScope s_plain_row, [], []⟩
def d_straight : He.DefD := ⟨("straight", none), "straight", "straight", defArgs s_straight, defBody s_straight, defScope s_straight, [], []⟩
def d_made : He.DefD := ⟨("made", none), "made", "made", defArgs s_made, defBody s_made, defScope s_made, [], []⟩
def d_job_called : He.DefD := ⟨("job_called", none), "job_called", "job_called", defArgs s_job_called, defBody s_job_called, defScope s_job_called, [], []⟩
def d_copied : He.DefD := ⟨("copied", none), "copied", "copied", defArgs s_copied, defBody s_copied, defScope s_copied, [], []⟩
def d_is_steps : He.DefD := ⟨("is_steps", none), "is_steps", "is_steps", defArgs s_is_steps, defBody s_is_steps, defScope s_is_steps, [], []⟩
def d_first_states : He.DefD := ⟨("first_states", none), "first_states", "first_states", defArgs s_first_states, defBody s_first_states, defScope s_first_states, [], []⟩
def d_unlike : He.DefD := ⟨("unlike", none), "unlike", "unlike", defArgs s_unlike, defBody s_unlike, defScope s_unlike, [], []⟩
def d_all_looks : He.DefD := ⟨("all_looks", none), "all_looks", "all_looks", defArgs s_all_looks, defBody s_all_looks, defScope s_all_looks, [], []⟩
def d_boxes_named : He.DefD := ⟨("boxes_named", none), "boxes_named", "boxes_named", defArgs s_boxes_named, defBody s_boxes_named, defScope s_boxes_named, [], []⟩
def d_check_names : He.DefD := ⟨("check_names", none), "check_names", "check_names", defArgs s_check_names, defBody s_check_names, defScope s_check_names, [], []⟩
def d_fits : He.DefD := ⟨("fits", none), "fits", "fits", defArgs s_fits, defBody s_fits, defScope s_fits, [], []⟩
def d_check_kinds : He.DefD := ⟨("check_kinds", none), "check_kinds", "check_kinds", defArgs s_check_kinds, defBody s_check_kinds, defScope s_check_kinds, [], []⟩
def d_made_of : He.DefD := ⟨("made_of", none), "made_of", "made_of", defArgs s_made_of, defBody s_made_of, defScope s_made_of, [], []⟩
def d_is_name : He.DefD := ⟨("is_name", none), "is_name", "is_name", defArgs s_is_name, defBody s_is_name, defScope s_is_name, [], []⟩
def d_read_number : He.DefD := ⟨("read_number", none), "read_number", "read_number", defArgs s_read_number, defBody s_read_number, defScope s_read_number, [], []⟩
def d_leaf_of : He.DefD := ⟨("leaf_of", none), "leaf_of", "leaf_of", defArgs s_leaf_of, defBody s_leaf_of, defScope s_leaf_of, [], []⟩
def d_expression_at : He.DefD := ⟨("expression_at", none), "expression_at", "expression_at", defArgs s_expression_at, defBody s_expression_at, defScope s_expression_at, [.int 5], []⟩
def d_expressions_from : He.DefD := ⟨("expressions_from", none), "expressions_from", "expressions_from", defArgs s_expressions_from, defBody s_expressions_from, defScope s_expressions_from, [], []⟩
def d_between : He.DefD := ⟨("between", none), "between", "between", defArgs s_between, defBody s_between, defScope s_between, [], []⟩
def d_names_from : He.DefD := ⟨("names_from", none), "names_from", "names_from", defArgs s_names_from, defBody s_names_from, defScope s_names_from, [], []⟩
def d_read_named : He.DefD := ⟨("read_named", none), "read_named", "read_named", defArgs s_read_named, defBody s_read_named, defScope s_read_named, [], []⟩
def d_read_line : He.DefD := ⟨("read_line", none), "read_line", "read_line", defArgs s_read_line, defBody s_read_line, defScope s_read_line, [], []⟩
def d_nested : He.DefD := ⟨("nested", none), "nested", "nested", defArgs s_nested, defBody s_nested, defScope s_nested, [], []⟩
def d_read : He.DefD := ⟨("read", none), "read", "read", defArgs s_read, defBody s_read, defScope s_read, [], []⟩
def d_law_cell_at : He.DefD := ⟨("_law_cell_at", none), "_law_cell_at", "_law_cell_at", defArgs s_law_cell_at, defBody s_law_cell_at, defScope s_law_cell_at, [], []⟩
def d_law_spread : He.DefD := ⟨("_law_spread", none), "_law_spread", "_law_spread", defArgs s_law_spread, defBody s_law_spread, defScope s_law_spread, [], []⟩
def d_law_boxes : He.DefD := ⟨("_law_boxes", none), "_law_boxes", "_law_boxes", defArgs s_law_boxes, defBody s_law_boxes, defScope s_law_boxes, [], []⟩
def d_law_number : He.DefD := ⟨("_law_number", none), "_law_number", "_law_number", defArgs s_law_number, defBody s_law_number, defScope s_law_number, [], []⟩
def d_law_put : He.DefD := ⟨("_law_put", none), "_law_put", "_law_put", defArgs s_law_put, defBody s_law_put, defScope s_law_put, [], []⟩
def d_law_joined : He.DefD := ⟨("_law_joined", none), "_law_joined", "_law_joined", defArgs s_law_joined, defBody s_law_joined, defScope s_law_joined, [], []⟩
def d_law_states : He.DefD := ⟨("_law_states", none), "_law_states", "_law_states", defArgs s_law_states, defBody s_law_states, defScope s_law_states, [], []⟩
def d_law_alike : He.DefD := ⟨("_law_alike", none), "_law_alike", "_law_alike", defArgs s_law_alike, defBody s_law_alike, defScope s_law_alike, [], []⟩
def d_law_turn_right : He.DefD := ⟨("_law_turn_right", none), "_law_turn_right", "_law_turn_right", defArgs s_law_turn_right, defBody s_law_turn_right, defScope s_law_turn_right, [], []⟩
def d_law : He.DefD := ⟨("law", none), "law", "law", defArgs s_law, defBody s_law, defScope s_law, [], []⟩
def d_Most_is_state : He.DefD := ⟨("Most", some "is_state"), "is_state", "Kind.is_state", defArgs m_Kind_is_state, defBody m_Kind_is_state, defScope m_Kind_is_state, [], []⟩
def d_Most_stands : He.DefD := ⟨("Most", some "stands"), "stands", "Kind.stands", defArgs m_Kind_stands, defBody m_Kind_stands, defScope m_Kind_stands, [], []⟩
def d_Most_joined : He.DefD := ⟨("Most", some "joined"), "joined", "Most.joined", defArgs m_Most_joined, defBody m_Most_joined, defScope m_Most_joined, [], []⟩
def d_Set_is_state : He.DefD := ⟨("Set", some "is_state"), "is_state", "Kind.is_state", defArgs m_Kind_is_state, defBody m_Kind_is_state, defScope m_Kind_is_state, [], []⟩
def d_Set_stands : He.DefD := ⟨("Set", some "stands"), "stands", "Set.stands", defArgs m_Set_stands, defBody m_Set_stands, defScope m_Set_stands, [], []⟩
def d_Set_joined : He.DefD := ⟨("Set", some "joined"), "joined", "Set.joined", defArgs m_Set_joined, defBody m_Set_joined, defScope m_Set_joined, [], []⟩
def d_Once_is_state : He.DefD := ⟨("Once", some "is_state"), "is_state", "Kind.is_state", defArgs m_Kind_is_state, defBody m_Kind_is_state, defScope m_Kind_is_state, [], []⟩
def d_Once_stands : He.DefD := ⟨("Once", some "stands"), "stands", "Kind.stands", defArgs m_Kind_stands, defBody m_Kind_stands, defScope m_Kind_stands, [], []⟩
def d_Once_joined : He.DefD := ⟨("Once", some "joined"), "joined", "Kind.joined", defArgs m_Kind_joined, defBody m_Kind_joined, defScope m_Kind_joined, [], []⟩
def d_Row_is_state : He.DefD := ⟨("Row", some "is_state"), "is_state", "Kind.is_state", defArgs m_Kind_is_state, defBody m_Kind_is_state, defScope m_Kind_is_state, [], []⟩
def d_Row_stands : He.DefD := ⟨("Row", some "stands"), "stands", "Row.stands", defArgs m_Row_stands, defBody m_Row_stands, defScope m_Row_stands, [], []⟩
def d_Row_joined : He.DefD := ⟨("Row", some "joined"), "joined", "Row.joined", defArgs m_Row_joined, defBody m_Row_joined, defScope m_Row_joined, [], []⟩
def d_Map_is_state : He.DefD := ⟨("Map", some "is_state"), "is_state", "Map.is_state", defArgs m_Map_is_state, defBody m_Map_is_state, defScope m_Map_is_state, [], []⟩
def d_Map_joined : He.DefD := ⟨("Map", some "joined"), "joined", "Map.joined", defArgs m_Map_joined, defBody m_Map_joined, defScope m_Map_joined, [], []⟩
def d_Thread_init : He.DefD := ⟨("Thread", some "__init__"), "__init__", "Thread.__init__", defArgs m_Thread_init, defBody m_Thread_init, defScope m_Thread_init, [], []⟩
def d_Thread_settle : He.DefD := ⟨("Thread", some "settle"), "settle", "Thread.settle", defArgs m_Thread_settle, defBody m_Thread_settle, defScope m_Thread_settle, [], []⟩
def d_Thread_line : He.DefD := ⟨("Thread", some "line"), "line", "Thread.line", defArgs m_Thread_line, defBody m_Thread_line, defScope m_Thread_line, [], []⟩
def d_Thread_number : He.DefD := ⟨("Thread", some "number"), "number", "Thread.number", defArgs m_Thread_number, defBody m_Thread_number, defScope m_Thread_number, [], []⟩
def d_Thread_wish : He.DefD := ⟨("Thread", some "wish"), "wish", "Thread.wish", defArgs m_Thread_wish, defBody m_Thread_wish, defScope m_Thread_wish, [], []⟩
def d_Thread_deed : He.DefD := ⟨("Thread", some "deed"), "deed", "Thread.deed", defArgs m_Thread_deed, defBody m_Thread_deed, defScope m_Thread_deed, [], []⟩
def d_Thread_needed : He.DefD := ⟨("Thread", some "needed"), "needed", "Thread.needed", defArgs m_Thread_needed, defBody m_Thread_needed, defScope m_Thread_needed, [], []⟩
def d_Thread_plain : He.DefD := ⟨("Thread", some "plain"), "plain", "Thread.plain", defArgs m_Thread_plain, defBody m_Thread_plain, defScope m_Thread_plain, [], []⟩
def d_Thread_state_of : He.DefD := ⟨("Thread", some "state_of"), "state_of", "Thread.state_of", defArgs m_Thread_state_of, defBody m_Thread_state_of, defScope m_Thread_state_of, [], []⟩
def d_House_init : He.DefD := ⟨("House", some "__init__"), "__init__", "House.__init__", defArgs m_House_init, defBody m_House_init, defScope m_House_init, [.non], []⟩
def d_House_goes : He.DefD := ⟨("House", some "goes"), "goes", "House.goes", defArgs m_House_goes, defBody m_House_goes, defScope m_House_goes, [], []⟩
def d_House_ready : He.DefD := ⟨("House", some "ready"), "ready", "House.ready", defArgs m_House_ready, defBody m_House_ready, defScope m_House_ready, [], []⟩
def d_House_turn : He.DefD := ⟨("House", some "turn"), "turn", "House.turn", defArgs m_House_turn, defBody m_House_turn, defScope m_House_turn, [], []⟩
def d_House_join : He.DefD := ⟨("House", some "join"), "join", "House.join", defArgs m_House_join, defBody m_House_join, defScope m_House_join, [], []⟩
def d_House_against : He.DefD := ⟨("House", some "against"), "against", "House.against", defArgs m_House_against, defBody m_House_against, defScope m_House_against, [], []⟩
def d_House_states : He.DefD := ⟨("House", some "states"), "states", "House.states", defArgs m_House_states, defBody m_House_states, defScope m_House_states, [], []⟩
def d_House_clashed : He.DefD := ⟨("House", some "clashed"), "clashed", "House.clashed", defArgs m_House_clashed, defBody m_House_clashed, defScope m_House_clashed, [], []⟩
def d_Block_init : He.DefD := ⟨("Block", some "__init__"), "__init__", "Block.__init__", defArgs m_Block_init, defBody m_Block_init, defScope m_Block_init, [], []⟩
def d_Block_add : He.DefD := ⟨("Block", some "add"), "add", "Block.add", defArgs m_Block_add, defBody m_Block_add, defScope m_Block_add, [], []⟩
def d_Block_whole : He.DefD := ⟨("Block", some "whole"), "whole", "Block.whole", defArgs m_Block_whole, defBody m_Block_whole, defScope m_Block_whole, [], []⟩
def d_Pile_init : He.DefD := ⟨("Pile", some "__init__"), "__init__", "Pile.__init__", defArgs m_Pile_init, defBody m_Pile_init, defScope m_Pile_init, [], []⟩
def d_Pile_takes_outer : He.DefD := ⟨("Pile", some "takes_outer"), "takes_outer", "Pile.takes_outer", defArgs m_Pile_takes_outer, defBody m_Pile_takes_outer, defScope m_Pile_takes_outer, [], []⟩
def d_Pile_closes : He.DefD := ⟨("Pile", some "closes"), "closes", "Pile.closes", defArgs m_Pile_closes, defBody m_Pile_closes, defScope m_Pile_closes, [], []⟩
def d_Pile_takes : He.DefD := ⟨("Pile", some "takes"), "takes", "Pile.takes", defArgs m_Pile_takes, defBody m_Pile_takes, defScope m_Pile_takes, [], []⟩
def fnA0 : List He.DefD := [d_is_number, d_is_pair, d_is_rising, d_kind_of, d_all_of, d_expressions_of, d_looks_in, d_looks_of, d_looks, d_is_let, d_reckoned, d_plain_row, d_straight, d_made, d_job_called, d_copied, d_is_steps, d_first_states, d_unlike, d_all_looks, d_boxes_named, d_check_names, d_fits, d_check_kinds, d_made_of, d_is_name, d_read_number, d_leaf_of, d_expression_at, d_expressions_from]
def fnA1 : List He.DefD := [d_between, d_names_from, d_read_named, d_read_line, d_nested, d_read, d_law_cell_at, d_law_spread, d_law_boxes, d_law_number, d_law_put, d_law_joined, d_law_states, d_law_alike, d_law_turn_right, d_law, d_Most_is_state, d_Most_stands, d_Most_joined, d_Set_is_state, d_Set_stands, d_Set_joined, d_Once_is_state, d_Once_stands, d_Once_joined, d_Row_is_state, d_Row_stands, d_Row_joined, d_Map_is_state, d_Map_joined]
def fnA2 : List He.DefD := [d_Thread_init, d_Thread_settle, d_Thread_line, d_Thread_number, d_Thread_wish, d_Thread_deed, d_Thread_needed, d_Thread_plain, d_Thread_state_of, d_House_init, d_House_goes, d_House_ready, d_House_turn, d_House_join, d_House_against, d_House_states, d_House_clashed, d_Block_init, d_Block_add, d_Block_whole, d_Pile_init, d_Pile_takes_outer, d_Pile_closes, d_Pile_takes]
def fnA : List He.DefD := fnA0 ++ (fnA1 ++ (fnA2))
def faA0 : List He.Fa := [.glo "is_number", .glo "is_pair", .glo "is_rising", .glo "kind_of", .glo "all_of", .glo "expressions_of", .glo "looks_in", .glo "looks_of", .glo "looks", .glo "is_let", .glo "reckoned", .glo "plain_row", .glo "straight", .glo "made", .glo "job_called", .glo "copied", .glo "is_steps", .glo "first_states", .glo "unlike", .glo "all_looks", .glo "boxes_named", .glo "check_names", .glo "fits", .glo "check_kinds", .glo "made_of", .glo "is_name", .glo "read_number", .glo "leaf_of", .glo "expression_at", .glo "expressions_from"]
def faA1 : List He.Fa := [.glo "between", .glo "names_from", .glo "read_named", .glo "read_line", .glo "nested", .glo "read", .glo "_law_cell_at", .glo "_law_spread", .glo "_law_boxes", .glo "_law_number", .glo "_law_put", .glo "_law_joined", .glo "_law_states", .glo "_law_alike", .glo "_law_turn_right", .glo "law", .glo "Most", .glo "Set", .glo "Once", .glo "Row", .glo "Map", .glo "Thread", .glo "House", .glo "Block", .glo "Pile", .glo "BOXES_words", .glo "DEEDS", .glo "ASKED", .glo "WORKINGS", .glo "BARE_LOOKS"]
def faA2 : List He.Fa := [.glo "LOOKS_words", .glo "BOXES_lines", .glo "WITH_ONE", .glo "ALONE", .glo "LOOKS_statements", .free "len", .free "isinstance", .free "all", .free "min", .free "max", .free "sorted", .free "set", .free "dict", .free "list", .free "tuple", .free "range", .free "zip", .free "enumerate", .free "str", .free "int", .free "bool", .int "ROUND" 1000000000, .int "MOST_STEPS" 400, .int "MOST_PARAMS" 4, .int "MOST_LINES" 150, .str "LETTERS" "abcdefghijklmnopqrstuvwxyz", .str "FIGURES" "0123456789", .cls "Most", .cls "Set", .cls "Once"]
def faA3 : List He.Fa := [.cls "Row", .cls "Map", .cls "Thread", .cls "House", .cls "Block", .cls "Pile", .meth "Most" "is_state", .meth "Most" "stands", .meth "Most" "joined", .meth "Set" "is_state", .meth "Set" "stands", .meth "Set" "joined", .meth "Once" "is_state", .meth "Once" "stands", .meth "Once" "joined", .meth "Row" "is_state", .meth "Row" "stands", .meth "Row" "joined", .meth "Map" "is_state", .meth "Map" "joined", .meth "Thread" "settle", .meth "Thread" "line", .meth "Thread" "number", .meth "Thread" "wish", .meth "Thread" "deed", .meth "Thread" "needed", .meth "Thread" "plain", .meth "Thread" "state_of", .mkr "Thread", .noat "Thread" "job"]
def faA4 : List He.Fa := [.noat "Thread" "rows", .noat "Thread" "kinds", .noat "Thread" "names", .noat "Thread" "at", .noat "Thread" "left", .noat "Thread" "used", .noat "Thread" "said", .noat "Thread" "begun", .noat "Thread" "end", .meth "House" "goes", .meth "House" "ready", .meth "House" "turn", .meth "House" "join", .meth "House" "against", .meth "House" "states", .meth "House" "clashed", .mkr "House", .noat "House" "program", .noat "House" "sorts", .noat "House" "held", .noat "House" "puts", .noat "House" "parts", .noat "House" "torn", .meth "Block" "add", .meth "Block" "whole", .mkr "Block", .noat "Block" "opened", .noat "Block" "said", .noat "Block" "first", .noat "Block" "later"]
def faA5 : List He.Fa := [.meth "Pile" "takes_outer", .meth "Pile" "closes", .meth "Pile" "takes", .mkr "Pile", .noat "Pile" "boxes", .noat "Pile" "jobs", .noat "Pile" "asks", .noat "Pile" "blocks"]
def faA : List He.Fa := faA0 ++ (faA1 ++ (faA2 ++ (faA3 ++ (faA4 ++ (faA5)))))
def bsA0 : List (PySem.W.Frag → Bool) := [tabB "BOXES_words" ["most", "set", "once", "row", "map"], tabB "DEEDS" ["job", "let", "put", "wait", "get", "tell", "if", "else", "while", "end", "begin", "stop", "ask"], tabB "ASKED" ["least", "has", "many", "size", "held", "item", "div", "rem"], tabB "WORKINGS" ["+", "-", "*", "div", "rem", "<", "="], tabB "BARE_LOOKS" ["size", "held"], tabB "LOOKS_words" ["has", "item"], tabB "BOXES_lines" ["most", "set", "once", "row", "map"], tabB "WITH_ONE" ["tell", "if", "while", "ask"], tabB "ALONE" ["else", "end", "stop"], tabB "LOOKS_statements" ["size", "held", "has", "item"], mk0B "Most", mk0B "Set", mk0B "Once", mk0B "Row", mk0B "Map"]
def bsA : List (PySem.W.Frag → Bool) := bsA0
def loose0 : List PySem.Str := ["_wall", "__name__", "JoinError", "TooMuch", "NoLine", "NoNest", "NoName", "NoKind", "Hangs", "NoSteps", "NoBoxes", "NoTurn", "ROUND", "brought", "parted", "worked", "is_number", "is_pair", "is_rising", "Kind", "Most", "Set", "Once", "Row", "Map", "kind_of", "LOOKS_statements", "all_of", "expressions_of", "looks_in"]
def loose1 : List PySem.Str := ["looks_of", "looks", "is_let", "looked", "reckoned", "plain_row", "straight", "branch", "ring", "made", "job_called", "Thread", "MOST_STEPS", "copied", "is_steps", "first_states", "House", "FITTING", "SEEN", "unlike", "all_looks", "boxes_named", "check_begin", "check_names", "fits", "check_kinds", "LETTERS", "FIGURES", "BOXES_words", "DEEDS"]
def loose2 : List PySem.Str := ["ASKED", "WORKINGS", "BARE_LOOKS", "LOOKS_words", "made_of", "is_name", "read_number", "box_at", "leaf_of", "expression_at", "BOXES_lines", "WAITS", "ALONE", "WITH_ONE", "MOST_PARAMS", "expressions_from", "between", "names_from", "read_named", "read_wait", "read_get", "read_line", "MOST_WITHIN", "Block", "Pile", "nested", "MOST_LINES", "read", "_law_cell_at", "_law_spread"]
def loose3 : List PySem.Str := ["_law_boxes", "_law_number", "_law_put", "_law_joined", "_law_states", "_law_alike", "_law_turn_right"]
def loose : List PySem.Str := loose0 ++ (loose1 ++ (loose2 ++ (loose3)))
abbrev R : PySem.W.OpenRow := PySem.W.OpenLaw.row PySem.Challenge.rw_surejoin_k43_boxes_join
abbrev hkA : PySem.W.Hook := hookS faA fnA bsA
def obA (s : PySem.W.SharedT) : AlS := obsSG faA fnA bsA (HandSHeadRun.getT s)
end SJ
set_option maxRecDepth 100000
set_option maxHeartbeats 0
/-! HR: the top's run, once for each answer of the row. -/
namespace SJ
open PySem PySem.Spec PyProof.Rows L2
theorem run0 (w : World) : HandSHeadRun.RunEq R (PySem.W.view R.prog [111]) hkA obA 12000 loose (w.withFollow "special-get-raises" false) := by
  intro os
  kernel_rfl
theorem run1 (w : World) : HandSHeadRun.RunEq R (PySem.W.view R.prog [111]) hkA obA 12000 loose (w.withFollow "special-get-raises" true) := by
  intro os
  kernel_rfl
theorem runA (w : World) : HandSHeadRun.RunEq R (PySem.W.view R.prog [111]) hkA obA 12000 loose w := PySem.W.byRow2 "special-get-raises" (P := fun w => HandSHeadRun.RunEq R (PySem.W.view R.prog [111]) hkA obA 12000 loose w) run0 run1 w
end SJ
set_option maxRecDepth 100000
set_option maxHeartbeats 4000000
/-! D1: a calculus of data over the hand layer. A pool G of things that stand still (a part of the heap H), slots that hold data (PyData), local lists and dicts that grow. -/
namespace L2
open PySem PySem.Spec PyProof.Rows
/-! ### data -/
section
variable {K : PySem.W.Frag} {G H G' H' G1 H1 G2 H2 : Hp} {p : Addr} {o : HO}
theorem sqT_mono {a : Addr} {xs : List V} (e : Same G G') (h : SqT K G a xs) : SqT K G' a xs := by
  rcases h with (h | ⟨o, h⟩) | h
  · exact .inl (.inl (e _ _ h))
  · exact .inl (.inr ⟨o, e _ _ h⟩)
  · exact .inr h
mutual
/-- data, its lists tracked (so that they may be put together) -/
inductive Dq (K : PySem.W.Frag) (H : Hp) : V → PyData → Prop
  | non : Dq K H .non .none
  | bl (b : Bool) : Dq K H (.bl b) (.bool b)
  | int (i : Int) : Dq K H (.int i) (.int i)
  | str (x : Str) : Dq K H (.str x) (.str x)
  | lst {a : Addr} {xs : List V} {ds : List PyData} : H a = some (.lst xs) → DqAll K H xs ds → Dq K H (.ref a) (.list ds)
  | tup {a : Addr} {xs : List V} {ds : List PyData} : SqT K H a xs → DqAll K H xs ds → Dq K H (.ref a) (.tuple ds)
inductive DqAll (K : PySem.W.Frag) (H : Hp) : List V → List PyData → Prop
  | nil : DqAll K H [] []
  | cons {v : V} {vs : List V} {d : PyData} {ds : List PyData} : Dq K H v d → DqAll K H vs ds → DqAll K H (v :: vs) (d :: ds)
end
mutual
theorem Dq.dp : ∀ (d : PyData) (v : V), Dq K G v d → Dp K G v d
  | .none, _, h => by cases h; exact .non
  | .bool b, _, h => by cases h; exact .bl b
  | .int i, _, h => by cases h; exact .int i
  | .str x, _, h => by cases h; exact .str x
  | .list ds, _, h => by
    cases h with
    | lst hs ha => exact .lst (SqL.of hs) (DqAll.dp ds _ ha)
  | .tuple ds, _, h => by
    cases h with
    | tup hs ha => exact .tup hs (DqAll.dp ds _ ha)
  | .dict kvs, _, h => by cases h
theorem DqAll.dp : ∀ (ds : List PyData) (vs : List V), DqAll K G vs ds → DpAll K G vs ds
  | [], _, h => by cases h; exact .nil
  | d :: ds, _, h => by
    cases h with
    | cons h1 h2 => exact .cons (Dq.dp d _ h1) (DqAll.dp ds _ h2)
end
mutual
theorem Dq.mono (e : Same G G') : ∀ (d : PyData) (v : V), Dq K G v d → Dq K G' v d
  | .none, _, h => by cases h; exact .non
  | .bool b, _, h => by cases h; exact .bl b
  | .int i, _, h => by cases h; exact .int i
  | .str x, _, h => by cases h; exact .str x
  | .list ds, _, h => by
    cases h with
    | lst hs ha => exact .lst (e _ _ hs) (DqAll.mono e ds _ ha)
  | .tuple ds, _, h => by
    cases h with
    | tup hs ha => exact .tup (sqT_mono e hs) (DqAll.mono e ds _ ha)
  | .dict kvs, _, h => by cases h
theorem DqAll.mono (e : Same G G') : ∀ (ds : List PyData) (vs : List V), DqAll K G vs ds → DqAll K G' vs ds
  | [], _, h => by cases h; exact .nil
  | d :: ds, _, h => by
    cases h with
    | cons h1 h2 => exact .cons (Dq.mono e d _ h1) (DqAll.mono e ds _ h2)
end
theorem Dq.up {v : V} {d : PyData} (h : Dq K G v d) (e : Same G G') : Dq K G' v d := Dq.mono e d v h
theorem DqAll.up {vs : List V} {ds : List PyData} (h : DqAll K G vs ds) (e : Same G G') : DqAll K G' vs ds := DqAll.mono e ds vs h
theorem DqAll.len : ∀ {vs : List V} {ds : List PyData}, DqAll K G vs ds → vs.length = ds.length
  | _, _, .nil => rfl
  | _, _, .cons _ t => congrArg Nat.succ (DqAll.len t)
theorem DqAll.get : ∀ {vs : List V} {ds : List PyData} {i : Nat} {d : PyData}, DqAll K G vs ds → ds[i]? = some d → ∃ v, vs[i]? = some v ∧ Dq K G v d
  | _, _, _, _, .nil, e => by simp at e
  | _, _, 0, _, .cons r _, e => by simp at e; subst e; exact ⟨_, rfl, r⟩
  | _, _, i + 1, _, .cons _ t, e => by
    obtain ⟨u, h1, h2⟩ := DqAll.get (i := i) t (by simpa using e)
    exact ⟨u, by simpa using h1, h2⟩
theorem DqAll.getV : ∀ {vs : List V} {ds : List PyData} {i : Nat} {v : V}, DqAll K G vs ds → vs[i]? = some v → ∃ d, ds[i]? = some d ∧ Dq K G v d
  | _, _, _, _, .nil, e => by simp at e
  | _, _, 0, _, .cons r _, e => by simp at e; subst e; exact ⟨_, rfl, r⟩
  | _, _, i + 1, _, .cons _ t, e => by
    obtain ⟨u, h1, h2⟩ := DqAll.getV (i := i) t (by simpa using e)
    exact ⟨u, by simpa using h1, h2⟩
theorem DqAll.app : ∀ {vs ws : List V} {ds es : List PyData}, DqAll K G vs ds → DqAll K G ws es → DqAll K G (vs ++ ws) (ds ++ es)
  | _, _, _, _, .nil, h => h
  | _, _, _, _, .cons r t, h => .cons r (DqAll.app t h)
theorem DqAll.one {v : V} {d : PyData} (h : Dq K G v d) : DqAll K G [v] [d] := .cons h .nil
theorem DqAll.take : ∀ {vs : List V} {ds : List PyData} (n : Nat), DqAll K G vs ds → DqAll K G (vs.take n) (ds.take n)
  | _, _, 0, _ => .nil
  | _, _, _ + 1, .nil => .nil
  | _, _, n + 1, .cons r t => .cons r (DqAll.take n t)
theorem DqAll.drop : ∀ {vs : List V} {ds : List PyData} (n : Nat), DqAll K G vs ds → DqAll K G (vs.drop n) (ds.drop n)
  | _, _, 0, h => h
  | _, _, _ + 1, .nil => .nil
  | _, _, n + 1, .cons _ t => DqAll.drop n t
theorem DqAll.strs : ∀ {vs : List V} {ss : List Str}, DqAll K G vs (ss.map PyData.str) → vs = ss.map V.str
  | _, [], h => by cases h; rfl
  | _, s :: ss, h => by
    cases h with
    | cons h1 h2 => cases h1; rw [DqAll.strs h2]; rfl
theorem DqAll.ints : ∀ {vs : List V} {ss : List Int}, DqAll K G vs (ss.map PyData.int) → vs = ss.map V.int
  | _, [], h => by cases h; rfl
  | _, s :: ss, h => by
    cases h with
    | cons h1 h2 => cases h1; rw [DqAll.ints h2]; rfl
theorem DqAll.bools : ∀ {vs : List V} {ss : List Bool}, DqAll K G vs (ss.map PyData.bool) → vs = ss.map V.bl
  | _, [], h => by cases h; rfl
  | _, s :: ss, h => by
    cases h with
    | cons h1 h2 => cases h1; rw [DqAll.bools h2]; rfl
theorem DqAll.ofStrs : ∀ (ss : List Str), DqAll K G (ss.map V.str) (ss.map PyData.str)
  | [] => .nil
  | s :: ss => .cons (.str s) (DqAll.ofStrs ss)
theorem DqAll.ofInts : ∀ (ss : List Int), DqAll K G (ss.map V.int) (ss.map PyData.int)
  | [] => .nil
  | s :: ss => .cons (.int s) (DqAll.ofInts ss)
theorem DqAll.at_ {vs : List V} {ds : List PyData} {i : Int} {d : PyData} (h : DqAll K G vs ds) (e : atI ds i = some d) : ∃ v, atI vs i = some v ∧ Dq K G v d := by
  unfold atI at e ⊢
  rw [h.len]
  cases q : ixN ds.length i with
  | none => rw [q] at e; cases e
  | some j =>
    rw [q] at e
    exact h.get (i := j) e
theorem Dq.listE {v : V} {ds : List PyData} (h : Dq K G v (.list ds)) : ∃ a xs, v = .ref a ∧ SqL K G a xs ∧ DqAll K G xs ds := by
  cases h with
  | lst hs ha => exact ⟨_, _, rfl, SqL.of hs, ha⟩
theorem Dq.listT {v : V} {ds : List PyData} (h : Dq K G v (.list ds)) : ∃ a xs, v = .ref a ∧ G a = some (.lst xs) ∧ DqAll K G xs ds := by
  cases h with
  | lst hs ha => exact ⟨_, _, rfl, hs, ha⟩
theorem Dq.tupE {v : V} {ds : List PyData} (h : Dq K G v (.tuple ds)) : ∃ a xs, v = .ref a ∧ SqT K G a xs ∧ DqAll K G xs ds := by
  cases h with
  | tup hs ha => exact ⟨_, _, rfl, hs, ha⟩
theorem Dq.intE {v : V} {i : Int} (h : Dq K G v (.int i)) : v = .int i := by cases h; rfl
theorem Dq.strE {v : V} {i : Str} (h : Dq K G v (.str i)) : v = .str i := by cases h; rfl
theorem Dq.boolE {v : V} {i : Bool} (h : Dq K G v (.bool i)) : v = .bl i := by cases h; rfl
theorem Dq.noneE {v : V} (h : Dq K G v .none) : v = .non := by cases h; rfl
end

section
variable {X : Cx} {e : Expr}
theorem PE.imp {t t' : TE} (h : PE X e t) (w : ∀ σ H Q, t' σ H Q → t σ H Q) : PE X e t' := ⟨fun pins s σ H Q I q => h.run pins s σ H Q I (w σ H Q q)⟩
theorem PT.imp {t t' : TT} (h : PT X e t) (w : ∀ σ H Q, t' σ H Q → t σ H Q) : PT X e t' := ⟨fun pins s σ H Q I q => h.run pins s σ H Q I (w σ H Q q)⟩
theorem PW.imp {t t' : TT} (h : PW X e t) (w : ∀ σ H Q, t' σ H Q → t σ H Q) : PW X e t' := ⟨fun wh pins s σ H Q I q => h.run wh pins s σ H Q I (w σ H Q q)⟩
theorem PA.imp {es : List Expr} {t t' : TA} (h : PA X es t) (w : ∀ σ H Q, t' σ H Q → t σ H Q) : PA X es t' := ⟨fun pos pins s σ H Q I q => h.run pos pins s σ H Q I (w σ H Q q)⟩
theorem PO.imp {eo : Option Expr} {t t' : TO} (h : PO X eo t) (w : ∀ σ H Q, t' σ H Q → t σ H Q) : PO X eo t' := ⟨fun pins s σ H Q I q => h.run pins s σ H Q I (w σ H Q q)⟩
theorem PS.imp {st : Stmt} {t t' : TS} (h : PS X st t) (w : ∀ D σ H, t' D σ H → t D σ H) : PS X st t' := ⟨fun pins s σ H D I q => h.run pins s σ H D I (w D σ H q)⟩
theorem PSs.imp {st : List Stmt} {t t' : TS} (h : PSs X st t) (w : ∀ D σ H, t' D σ H → t D σ H) : PSs X st t' := ⟨fun pins s σ H D I q => h.run pins s σ H D I (w D σ H q)⟩
theorem PE.ex {α : Sort _} {R : α → Prop} {t : α → TE} (h : ∀ a, R a → PE X e (t a)) : PE X e (fun σ H Q => ∃ a, R a ∧ t a σ H Q) := ⟨fun pins s σ H Q I ⟨a, r, q⟩ => (h a r).run pins s σ H Q I q⟩
theorem PT.ex {α : Sort _} {R : α → Prop} {t : α → TT} (h : ∀ a, R a → PT X e (t a)) : PT X e (fun σ H Q => ∃ a, R a ∧ t a σ H Q) := ⟨fun pins s σ H Q I ⟨a, r, q⟩ => (h a r).run pins s σ H Q I q⟩
theorem PSs.ex {α : Sort _} {R : α → Prop} {st : List Stmt} {t : α → TS} (h : ∀ a, R a → PSs X st (t a)) : PSs X st (fun D σ H => ∃ a, R a ∧ t a D σ H) := ⟨fun pins s σ H D I ⟨a, r, q⟩ => (h a r).run pins s σ H D I q⟩
theorem pe_never : PE X e (fun _ _ _ => False) := ⟨fun _ _ _ _ _ _ h => h.elim⟩
theorem pt_never : PT X e (fun _ _ _ => False) := ⟨fun _ _ _ _ _ _ h => h.elim⟩
theorem pw_never : PW X e (fun _ _ _ => False) := ⟨fun _ _ _ _ _ _ _ h => h.elim⟩
end

section
variable {X : Cx}
theorem OpR.imp {f : Value → Value → Sem Value} {r r' : R2} (h : OpR X f r) (w : ∀ x y H Q, r' x y H Q → r x y H Q) : OpR X f r' :=
  fun pins s σ H x y u v Q I rx ry q => h pins s σ H x y u v Q I rx ry (w _ _ _ _ q)
end
end L2

namespace SJ
open PySem PySem.Spec PyProof.Rows L2

/-! ### growth -/
structure Gr (G H G' H' : Hp) : Prop where
  g : Same G G'
  h : Same H H'
  s : Same G' H'
  fr : ∀ a o, H a = some o → G a = none → G' a = none
section
variable {K : PySem.W.Frag} {G H G' H' G1 H1 G2 H2 : Hp} {p : Addr} {o : HO}
theorem Gr.refl (s : Same G H) : Gr G H G H := ⟨Same.refl _, Same.refl _, s, fun _ _ _ h => h⟩
theorem Gr.trans (a : Gr G H G1 H1) (b : Gr G1 H1 G2 H2) : Gr G H G2 H2 :=
  ⟨a.g.trans b.g, a.h.trans b.h, b.s, fun x o hx hg => b.fr x o (a.h x o hx) (a.fr x o hx hg)⟩
theorem same_upd (s : Same G H) (hp : G p = none) : Same G (upd H p o) := fun b u e => by
  rw [upd_ne (ne_of_none e hp)]
  exact s b u e
theorem same_upd2 (s : Same G H) : Same (upd G p o) (upd H p o) := fun b u e => by
  by_cases q : b = p
  · subst q
    rw [upd_same] at e ⊢
    exact e
  · rw [upd_ne q] at e ⊢
    exact s b u e
theorem Gr.new (s : Same G H) (hp : H p = none) : Gr G H (upd G p o) (upd H p o) :=
  ⟨same_upd (Same.refl G) (s.free hp), same_upd (Same.refl H) hp, same_upd2 s, fun a u h g => by rw [upd_ne (ne_of_none h hp)]; exact g⟩
theorem Gr.tmp (s : Same G H) (hp : H p = none) : Gr G H G (upd H p o) :=
  ⟨Same.refl G, same_upd (Same.refl H) hp, same_upd s (s.free hp), fun a u h g => g⟩
/-- something that is no part of the pool has become one -/
theorem Gr.take (s : Same G H) (hp : H p = some o) (hg : G p = none) : Same G (upd G p o) ∧ Same (upd G p o) H :=
  ⟨same_upd (Same.refl G) hg, fun b u e => by
    by_cases q : b = p
    · subst q
      rw [upd_same] at e
      rw [hp]
      exact e
    · rw [upd_ne q] at e
      exact s b u e⟩

end

/-! ### slots -/
/-- what a cell of one's own holds: this very value, or data -/
inductive Fv where
  | raw (v : V)
  | dat (d : PyData)
  /-- a bare instance of the class at C -/
  | inst (C : Addr)
/-- a thing of one's own -/
inductive Cell where
  | ins (C : Addr) (fs : List (Str × Fv))
  | lst (xs : List Fv)
  | tup (xs : List Fv)
  | dk (kvs : List (Key × Fv))
  | dt (kvs : List (List Key × Fv))
inductive SD where
  /-- nothing is known -/
  | un
  /-- data -/
  | dat (d : PyData)
  /-- this very value -/
  | raw (v : V)
  /-- a list of one's own at l, of data -/
  | ml (l : Addr) (ds : List PyData)
  /-- a dict of one's own at l -/
  | md (l : Addr) (kvs : List (Key × PyData))
  /-- an instance of the class at C that stands still -/
  | ob (p C : Addr) (fs : List (Str × V))
  /-- a dict that stands still -/
  | dg (l : Addr) (kvs : List (Key × PyData))
  /-- a value with things of one's own behind it -/
  | rg (v : V) (cs : List (Addr × Cell))
  /-- data of one's own, in Gx -/
  | od (Gx : Hp) (d : PyData)
  /-- a value with things behind it that stand still -/
  | st (v : V) (cs : List (Addr × Cell))
  /-- a list that is read, by its values (the script) -/
  | sq (a : Addr) (xs : List V)
def SD.ad : SD → Addr → Prop
  | .ml l _ => fun a => a = l
  | .md l _ => fun a => a = l
  | .rg _ cs => fun a => a ∈ cs.map (·.1)
  | .od Gx _ => fun a => ∃ o, Gx a = some o
  | _ => fun _ => False
def KvD (K : PySem.W.Frag) (G : Hp) : List (Key × V) → List (Key × PyData) → Prop := Paired fun p q => p.1 = q.1 ∧ Dq K G p.2 q.2
def FvOk (K : PySem.W.Frag) (G : Hp) (v : V) : Fv → Prop
  | .raw u => v = u
  | .dat d => Dq K G v d
  | .inst C => ∃ a dx, v = .ref a ∧ G a = some (.ins C dx [])
def NvOk {κ : Type} (K : PySem.W.Frag) (G : Hp) : List (κ × V) → List (κ × Fv) → Prop := Paired fun p q => p.1 = q.1 ∧ FvOk K G p.2 q.2
def CellOk (K : PySem.W.Frag) (G : Hp) : HO → Cell → Prop
  | u, .ins C fs => ∃ dx ws, u = .ins C dx ws ∧ NvOk K G ws fs
  | u, .lst xs => ∃ ws, u = .lst ws ∧ Paired (FvOk K G) ws xs
  | u, .tup xs => ∃ ws, u = .tup ws ∧ Paired (FvOk K G) ws xs
  | u, .dk kvs => ∃ ws, u = .dK ws ∧ NvOk K G ws kvs
  | u, .dt kvs => ∃ ws, u = .dT ws ∧ NvOk K G ws kvs
/-- the things of one's own -/
structure RgOk (K : PySem.W.Frag) (G H : Hp) (cs : List (Addr × Cell)) : Prop where
  nd : (cs.map (·.1)).Nodup
  at_ : ∀ p, p ∈ cs → G p.1 = none ∧ ∃ u, H p.1 = some u ∧ CellOk K G u p.2
/-- two pools -/
def uH (Gx G : Hp) : Hp := fun a => (Gx a).orElse fun _ => G a
def SOk (K : PySem.W.Frag) (G H : Hp) : SD → Option V → Prop
  | .un, _ => True
  | .dat d, o => ∃ v, o = some v ∧ Dq K G v d
  | .raw v, o => o = some v
  | .ml l ds, o => o = some (.ref l) ∧ G l = none ∧ ∃ vs, H l = some (.lst vs) ∧ DqAll K G vs ds
  | .md l kvs, o => o = some (.ref l) ∧ G l = none ∧ ∃ ws, H l = some (.dK ws) ∧ KvD K G ws kvs
  | .ob p C fs, o => o = some (.ref p) ∧ ∃ dx, G p = some (.ins C dx fs)
  | .dg l kvs, o => o = some (.ref l) ∧ ∃ ws, G l = some (.dK ws) ∧ KvD K G ws kvs
  | .rg v cs, o => o = some v ∧ RgOk K G H cs
  | .od Gx d, o => (∃ v, o = some v ∧ Dq K Gx v d) ∧ Same Gx H ∧ ∀ a o, Gx a = some o → G a = none
  | .st v cs, o => o = some v ∧ ∀ p, p ∈ cs → ∃ u, G p.1 = some u ∧ CellOk K G u p.2
  | .sq a xs, o => o = some (.ref a) ∧ SqL K G a xs
structure EnvD (K : PySem.W.Frag) (G H : Hp) (Γ : List SD) (σ : L2.St) : Prop where
  s : Same G H
  len : σ.length = Γ.length
  at_ : ∀ (i : Nat) c, Γ[i]? = some c → ∃ o, σ[i]? = some o ∧ SOk K G H c o
  nd : ∀ (i j : Nat) c e l, Γ[i]? = some c → Γ[j]? = some e → c.ad l → e.ad l → i = j
section
variable {K : PySem.W.Frag} {G H G' H' G0 H0 : Hp} {Γ : List SD} {σ : L2.St} {c : SD} {o : Option V}
theorem KvD.up {ws : List (Key × V)} {kvs : List (Key × PyData)} (h : KvD K G ws kvs) (e : Same G G') : KvD K G' ws kvs := Paired.mapP h fun _ _ z => ⟨z.1, z.2.up e⟩
theorem FvOk.up {v : V} {f : Fv} (h : FvOk K G v f) (e : Same G G') : FvOk K G' v f := by
  cases f with
  | raw u => exact h
  | dat d => exact Dq.up h e
  | inst C => obtain ⟨a, dx, e1, e2⟩ := h; exact ⟨a, dx, e1, e _ _ e2⟩
theorem NvOk.up {κ : Type} {ws : List (κ × V)} {kvs : List (κ × Fv)} (h : NvOk K G ws kvs) (e : Same G G') : NvOk K G' ws kvs := Paired.mapP h fun _ _ z => ⟨z.1, z.2.up e⟩
theorem CellOk.up {u : HO} {x : Cell} (h : CellOk K G u x) (e : Same G G') : CellOk K G' u x := by
  cases x with
  | ins C fs => obtain ⟨dx, ws, e1, q⟩ := h; exact ⟨dx, ws, e1, NvOk.up q e⟩
  | lst xs => obtain ⟨ws, e1, q⟩ := h; exact ⟨ws, e1, Paired.mapP q fun _ _ z => z.up e⟩
  | tup xs => obtain ⟨ws, e1, q⟩ := h; exact ⟨ws, e1, Paired.mapP q fun _ _ z => z.up e⟩
  | dk kvs => obtain ⟨ws, e1, q⟩ := h; exact ⟨ws, e1, NvOk.up q e⟩
  | dt kvs => obtain ⟨ws, e1, q⟩ := h; exact ⟨ws, e1, NvOk.up q e⟩
/-- a slot stands where its own things are left alone -/
theorem SOk.keep (hg : Same G G') (hH : ∀ a o, c.ad a → H a = some o → H' a = some o) (hG : ∀ a o, c.ad a → H a = some o → G a = none → G' a = none) (h : SOk K G H c o) : SOk K G' H' c o := by
  cases c with
  | un => trivial
  | dat d => obtain ⟨v, e, q⟩ := h; exact ⟨v, e, q.up hg⟩
  | raw v => exact h
  | ml l ds => obtain ⟨e, g, vs, hl, q⟩ := h; exact ⟨e, hG _ _ rfl hl g, vs, hH _ _ rfl hl, q.up hg⟩
  | md l ds => obtain ⟨e, g, vs, hl, q⟩ := h; exact ⟨e, hG _ _ rfl hl g, vs, hH _ _ rfl hl, KvD.up q hg⟩
  | ob p C fs => obtain ⟨e, dx, q⟩ := h; exact ⟨e, dx, hg _ _ q⟩
  | dg l kvs => obtain ⟨e, ws, q, z⟩ := h; exact ⟨e, ws, hg _ _ q, KvD.up z hg⟩
  | rg v cs =>
    obtain ⟨e, n, q⟩ := h
    refine ⟨e, n, fun p m => ?_⟩
    obtain ⟨z1, u, z2, z3⟩ := q p m
    have ad : SD.ad (.rg v cs) p.1 := List.mem_map.mpr ⟨p, m, rfl⟩
    exact ⟨hG _ _ ad z2 z1, u, hH _ _ ad z2, z3.up hg⟩
  | od Gx d =>
    obtain ⟨q, s, n⟩ := h
    exact ⟨q, fun a o z => hH a o ⟨o, z⟩ (s a o z), fun a o z => hG a o ⟨o, z⟩ (s a o z) (n a o z)⟩
  | st v cs => obtain ⟨e, q⟩ := h; exact ⟨e, fun p m => let ⟨u, z1, z2⟩ := q p m; ⟨u, hg _ _ z1, z2.up hg⟩⟩
  | sq a xs => obtain ⟨e, q⟩ := h; exact ⟨e, hg.seq q⟩
theorem SOk.up (r : Gr G H G' H') (h : SOk K G H c o) : SOk K G' H' c o := h.keep r.g (fun a o _ z => r.h a o z) fun a o _ z => r.fr a o z
theorem EnvD.up (h : EnvD K G H Γ σ) (r : Gr G H G' H') : EnvD K G' H' Γ σ :=
  ⟨r.s, h.len, fun i c e => let ⟨o, e1, q⟩ := h.at_ i c e; ⟨o, e1, q.up r⟩, h.nd⟩
theorem EnvD.set (h : EnvD K G H Γ σ) (i : Nat) {v : V} (hs : SOk K G H c (some v)) (hn : ∀ l, c.ad l → ∀ (j : Nat) e, j ≠ i → Γ[j]? = some e → ¬ e.ad l) : EnvD K G H (Γ.set i c) (σ.set i (some v)) := by
  refine ⟨h.s, by rw [List.length_set, List.length_set]; exact h.len, fun j e q => ?_, fun j k e1 e2 l q1 q2 a1 a2 => ?_⟩
  · by_cases hj : i = j
    · subst hj
      have hi : i < Γ.length := by
        have z := (List.getElem?_eq_some_iff.mp q).1
        rwa [List.length_set] at z
      rw [List.getElem?_set_self hi] at q
      cases q
      exact ⟨_, List.getElem?_set_self (by rw [h.len]; exact hi), hs⟩
    · rw [List.getElem?_set_ne hj] at q
      obtain ⟨o, e1, z⟩ := h.at_ j e q
      exact ⟨o, by rw [List.getElem?_set_ne hj]; exact e1, z⟩
  · have self : ∀ {j e}, (Γ.set i c)[j]? = some e → i = j → e = c := fun {j e} q hj => by
      subst hj
      have hi : i < Γ.length := by
        have z := (List.getElem?_eq_some_iff.mp q).1
        rwa [List.length_set] at z
      rw [List.getElem?_set_self hi] at q
      exact (Option.some.inj q).symm
    by_cases hj : i = j
    · have e := self q1 hj
      subst e
      by_cases hk : i = k
      · exact hj.symm.trans hk
      · rw [List.getElem?_set_ne hk] at q2
        exact absurd a2 (hn l a1 k e2 (fun z => hk z.symm) q2)
    · rw [List.getElem?_set_ne hj] at q1
      by_cases hk : i = k
      · have e := self q2 hk
        subst e
        exact absurd a1 (hn l a2 j e1 (fun z => hj z.symm) q1)
      · rw [List.getElem?_set_ne hk] at q2
        exact h.nd j k e1 e2 l q1 q2 a1 a2
theorem EnvD.setD (h : EnvD K G H Γ σ) (i : Nat) {v : V} {d : PyData} (q : Dq K G v d) : EnvD K G H (Γ.set i (.dat d)) (σ.set i (some v)) := h.set i ⟨v, rfl, q⟩ fun _ (z : False) => z.elim
theorem EnvD.dat (h : EnvD K G H Γ σ) {i : Nat} {d : PyData} (e : Γ[i]? = some (.dat d)) : ∃ v, σ[i]? = some (some v) ∧ Dq K G v d := by
  obtain ⟨o, e1, v, e2, q⟩ := h.at_ i _ e
  subst e2
  exact ⟨v, e1, q⟩
/-- a slot is forgotten -/
theorem EnvD.un (h : EnvD K G H Γ σ) (i : Nat) : EnvD K G H (Γ.set i .un) (σ.set i none) := by
  refine ⟨h.s, by rw [List.length_set, List.length_set]; exact h.len, fun j e q => ?_, fun j k e1 e2 l q1 q2 a1 a2 => ?_⟩
  · by_cases hj : i = j
    · subst hj
      have hi : i < Γ.length := by
        have z := (List.getElem?_eq_some_iff.mp q).1
        rwa [List.length_set] at z
      rw [List.getElem?_set_self hi] at q
      cases q
      exact ⟨_, List.getElem?_set_self (by rw [h.len]; exact hi), trivial⟩
    · rw [List.getElem?_set_ne hj] at q
      obtain ⟨o, e1, z⟩ := h.at_ j e q
      exact ⟨o, by rw [List.getElem?_set_ne hj]; exact e1, z⟩
  · have self : ∀ {j e}, (Γ.set i .un)[j]? = some e → i = j → e = .un := fun {j e} q hj => by
      subst hj
      have hi : i < Γ.length := by
        have z := (List.getElem?_eq_some_iff.mp q).1
        rwa [List.length_set] at z
      rw [List.getElem?_set_self hi] at q
      exact (Option.some.inj q).symm
    by_cases hj : i = j
    · have e := self q1 hj
      subst e
      cases a1
    · rw [List.getElem?_set_ne hj] at q1
      by_cases hk : i = k
      · have e := self q2 hk
        subst e
        cases a2
      · rw [List.getElem?_set_ne hk] at q2
        exact h.nd j k e1 e2 l q1 q2 a1 a2
/-- less is known -/
theorem EnvD.weak {Γ' : List SD} (h : EnvD K G H Γ σ) (hl : Γ'.length = Γ.length) (w : ∀ (i : Nat) c, Γ'[i]? = some c → c = .un ∨ Γ[i]? = some c) : EnvD K G H Γ' σ := by
  refine ⟨h.s, h.len.trans hl.symm, fun i c e => ?_, fun i j c e l q1 q2 a1 a2 => ?_⟩
  · rcases w i c e with z | z
    · subst z
      have hi : i < σ.length := by
        rw [h.len, ← hl]
        exact (List.getElem?_eq_some_iff.mp e).1
      exact ⟨σ[i], List.getElem?_eq_getElem hi, trivial⟩
    · exact h.at_ i c z
  · rcases w i c q1 with z | z
    · subst z; cases a1
    · rcases w j e q2 with z' | z'
      · subst z'; cases a2
      · exact h.nd i j c e l z z' a1 a2
end

/-! ### readings by data -/
def tD (K : PySem.W.Frag) (Γ : List SD) (d : PyData) : TE := fun σ H Q => ∃ G, EnvD K G H Γ σ ∧ ∀ G' H' v, Gr G H G' H' → Dq K G' v d → Q v H'
def tDT (K : PySem.W.Frag) (Γ : List SD) (b : Bool) : TT := fun σ H Q => ∃ G, EnvD K G H Γ σ ∧ ∀ G' H', Gr G H G' H' → Q b H'
def tDA (K : PySem.W.Frag) (Γ : List SD) (ds : List PyData) : TA := fun σ H Q => ∃ G, EnvD K G H Γ σ ∧ ∀ G' H' vs, Gr G H G' H' → DqAll K G' vs ds → Q vs H'
def tDO (K : PySem.W.Frag) (Γ : List SD) (o : Option Int) : TO := fun σ H Q => ∃ G, EnvD K G H Γ σ ∧ ∀ G' H', Gr G H G' H' → Q o H'
abbrev DE (X : Cx) (Γ : List SD) (e : Expr) (d : PyData) : Prop := PE X e (tD X.K Γ d)
abbrev DT (X : Cx) (Γ : List SD) (e : Expr) (b : Bool) : Prop := PT X e (tDT X.K Γ b)
abbrev DW (X : Cx) (Γ : List SD) (e : Expr) (b : Bool) : Prop := PW X e (tDT X.K Γ b)
abbrev DA (X : Cx) (Γ : List SD) (es : List Expr) (ds : List PyData) : Prop := PA X es (tDA X.K Γ ds)
abbrev DO (X : Cx) (Γ : List SD) (e : Option Expr) (o : Option Int) : Prop := PO X e (tDO X.K Γ o)

/-! ### expressions -/
section
variable {X : Cx} {Γ : List SD} {e a b : Expr} {d da db : PyData} {pos : Pos}
theorem d_var (i : Nat) {x : Str} (hΓ : Γ[i]? = some (.dat d)) (hN : X.N[i]? = some x := by rfl) (hv : Vis X.env.scope x := by first | exact Or.inl rfl | exact Or.inr (Or.inl rfl) | exact Or.inr (Or.inr rfl))
    (hd : (x == ("__debug__" : Str)) = false := by decide) (hcd : (x == ("__classdict__" : Str)) = false := by decide) : DE X Γ (.Name x pos) d :=
  (pe_var (i := i) hN hv hd hcd).imp fun σ H Q ⟨G, env, k⟩ => by
    obtain ⟨v, h1, h2⟩ := env.dat hΓ
    exact ⟨v, h1, k G H v (Gr.refl env.s) h2⟩
theorem d_int {i : Int} {j} : DE X Γ (.Constant (.int i) j pos) (.int i) := pe_int.imp fun _ H _ ⟨G, env, k⟩ => k G H _ (Gr.refl env.s) (.int i)
theorem d_str {x : Str} {j} : DE X Γ (.Constant (.str x) j pos) (.str x) := pe_str.imp fun _ H _ ⟨G, env, k⟩ => k G H _ (Gr.refl env.s) (.str x)
theorem d_bl {x : Bool} {j} : DE X Γ (.Constant (.bool x) j pos) (.bool x) := pe_bl.imp fun _ H _ ⟨G, env, k⟩ => k G H _ (Gr.refl env.s) (.bl x)
theorem d_non {j} : DE X Γ (.Constant .none j pos) .none := pe_non.imp fun _ H _ ⟨G, env, k⟩ => k G H _ (Gr.refl env.s) .non
/-- a module's constant -/
structure Cst (K : PySem.W.Frag) (mg : Str → Option Value) (x : Str) (d : PyData) : Prop where
  ex : ∃ v u, mg x = some u ∧ RelV v u ∧ ∀ H, Dq K H v d
theorem d_cst {x : Str} (c : Cst X.K X.mg x d) (hg : Gl X x := by rfl) (hd : (x == ("__debug__" : Str)) = false := by decide) : DE X Γ (.Name x pos) d := by
  obtain ⟨v, u, h1, h2, h3⟩ := c.ex
  exact (pe_glob hg h1 h2 hd).imp fun _ H _ ⟨G, env, k⟩ => k G H _ (Gr.refl env.s) (h3 G)

/-! ### operators, by data -/
def rD (K : PySem.W.Frag) (da db dz : PyData) : R2 := fun x y H Q => ∃ G, Same G H ∧ Dq K G x da ∧ Dq K G y db ∧ ∀ G' H' v, Gr G H G' H' → Dq K G' v dz → Q v H'
abbrev OpD (X : Cx) (f : Value → Value → Sem Value) (da db dz : PyData) : Prop := OpR X f (rD X.K da db dz)
theorem tOp_D {r : R2} {dz : PyData} {σ : L2.St} {H : Hp} {Q : VK} (h : tD X.K Γ dz σ H Q) (w : ∀ x y G H Q, Same G H → Dq X.K G x da → Dq X.K G y db → (∀ G' H' v, Gr G H G' H' → Dq X.K G' v dz → Q v H') → r x y H Q) :
    tOp r (tD X.K Γ da) (tD X.K Γ db) σ H Q := by
  obtain ⟨G, env, k⟩ := h
  refine ⟨G, env, fun G1 H1 x g1 q1 => ⟨G1, env.up g1, fun G2 H2 y g2 q2 => ?_⟩⟩
  exact w x y G2 H2 Q g2.s (q1.up g2.g) q2 fun G' H' v g3 q3 => k G' H' v ((g1.trans g2).trans g3) q3
theorem d_bin {op : Operator} {dz : PyData} (ha : DE X Γ a da) (hb : DE X Γ b db) (ho : OpD X (binaryOp op) da db dz) : DE X Γ (.BinOp a op b pos) dz :=
  (pe_op ho ha hb).imp fun σ H Q h => tOp_D h fun x y G H Q s q1 q2 k => ⟨G, s, q1, q2, k⟩
theorem d_cmp {op : CmpOp} {dz : PyData} (ha : DE X Γ a da) (hb : DE X Γ b db) (ho : OpD X (compareOp op) da db dz) (hm : behindInMarks op b = false := by first | rfl | exact nomark _) : DE X Γ (.Compare a [op] [b] pos) dz :=
  (pe_cmpR ho ha hb hm).imp fun σ H Q h => tOp_D h fun x y G H Q s q1 q2 k => ⟨G, s, q1, q2, k⟩
theorem dt_cmp {op : CmpOp} {c : Bool} (ha : DE X Γ a da) (hb : DE X Γ b db) (ho : OpD X (compareOp op) da db (.bool c)) (hm : behindInMarks op b = false := by first | rfl | exact nomark _) : DT X Γ (.Compare a [op] [b] pos) c :=
  (pt_cmpR ho ha hb hm).imp fun σ H Q ⟨G, env, k⟩ => by
    show tOp _ _ _ σ H fun x H' => ∃ k, x = V.bl k ∧ Q k H'
    exact tOp_D (Γ := Γ) (dz := .bool c) ⟨G, env, fun G' H' v g q => ⟨c, q.boolE, k G' H' g⟩⟩ fun x y G H Q s q1 q2 k => ⟨G, s, q1, q2, k⟩
theorem dt_val {c : Bool} (h : DE X Γ e (.bool c)) (he : ∀ whole, isTrue e X.env whole = (do let v ← whole; standAt e.pos; holding [v] (truthy v)) := by intro _; rfl) : DT X Γ e c :=
  (pt_val h he).imp fun σ H Q ⟨G, env, k⟩ => ⟨G, env, fun G' H' v g q => ⟨c, q.boolE, k G' H' g⟩⟩
theorem dt_is {c c' : Bool} (h : DT X Γ e c) (q : c = c' := by first | rfl | decide +kernel | assumption) : DT X Γ e c' := q ▸ h
theorem d_is {d' : PyData} (h : DE X Γ e d) (q : d = d' := by first | rfl | assumption) : DE X Γ e d' := q ▸ h
theorem dt_not {c : Bool} (h : DT X Γ e c) : DT X Γ (.UnaryOp .Not e pos) (!c) := (pt_not h).imp fun σ H Q h => h
theorem d_not {c : Bool} (h : DE X Γ e (.bool c)) : DE X Γ (.UnaryOp .Not e pos) (.bool (!c)) :=
  (pe_not h).imp fun σ H Q ⟨G, env, k⟩ => ⟨G, env, fun G' H' v g q => ⟨c, q.boolE, k G' H' _ g (.bl (!c))⟩⟩
section
variable {rest : List Expr} {c c' : Bool}
theorem dw_and1 (h : DT X Γ a c) : DW X Γ (.BoolOp .And [a] pos) c := pw_and1 h
theorem dw_or1 (h : DT X Γ a c) : DW X Γ (.BoolOp .Or [a] pos) c := pw_or1 h
theorem dw_and (h : DT X Γ a true) (h' : DW X Γ (.BoolOp .And (b :: rest) pos) c) : DW X Γ (.BoolOp .And (a :: b :: rest) pos) c :=
  (pw_and h h').imp fun σ H Q ⟨G, env, k⟩ => ⟨G, env, fun G1 H1 g1 => by
    refine iteT ?_
    exact ⟨G1, env.up g1, fun G2 H2 g2 => k G2 H2 (g1.trans g2)⟩⟩
theorem dw_andF (h : DT X Γ a false) : DW X Γ (.BoolOp .And (a :: b :: rest) pos) false :=
  (pw_and h (pw_never)).imp fun σ H Q ⟨G, env, k⟩ => ⟨G, env, fun G1 H1 g1 => by
    refine iteF ?_
    exact k G1 H1 g1⟩
theorem dw_or (h : DT X Γ a false) (h' : DW X Γ (.BoolOp .Or (b :: rest) pos) c) : DW X Γ (.BoolOp .Or (a :: b :: rest) pos) c :=
  (pw_or h h').imp fun σ H Q ⟨G, env, k⟩ => ⟨G, env, fun G1 H1 g1 => by
    refine iteF ?_
    exact ⟨G1, env.up g1, fun G2 H2 g2 => k G2 H2 (g1.trans g2)⟩⟩
theorem dw_orT (h : DT X Γ a true) : DW X Γ (.BoolOp .Or (a :: b :: rest) pos) true :=
  (pw_or h (pw_never)).imp fun σ H Q ⟨G, env, k⟩ => ⟨G, env, fun G1 H1 g1 => by
    refine iteT ?_
    exact k G1 H1 g1⟩
/-- both open -/
theorem dw_and' (h : DT X Γ a c) (h' : c = true → DW X Γ (.BoolOp .And (b :: rest) pos) c') : DW X Γ (.BoolOp .And (a :: b :: rest) pos) (c && c') := by
  cases c with
  | true => exact dw_and h (h' rfl)
  | false => exact dw_andF h
theorem dw_or' (h : DT X Γ a c) (h' : c = false → DW X Γ (.BoolOp .Or (b :: rest) pos) c') : DW X Γ (.BoolOp .Or (a :: b :: rest) pos) (c || c') := by
  cases c with
  | true => exact dw_orT h
  | false => exact dw_or h (h' rfl)
/-- .. as values -/
theorem d_one {op} (h : DE X Γ a d) : DE X Γ (.BoolOp op [a] pos) d := pe_one h
theorem d_and (h : DE X Γ a (.bool true)) (h' : DE X Γ (.BoolOp .And (b :: rest) pos) (.bool c)) : DE X Γ (.BoolOp .And (a :: b :: rest) pos) (.bool c) :=
  (pe_and h h').imp fun σ H Q ⟨G, env, k⟩ => ⟨G, env, fun G1 H1 v g1 q => ⟨true, q.boolE, by
    refine iteT ?_
    exact ⟨G1, env.up g1, fun G2 H2 w g2 q2 => k G2 H2 w (g1.trans g2) q2⟩⟩⟩
theorem d_andF (h : DE X Γ a (.bool false)) : DE X Γ (.BoolOp .And (a :: b :: rest) pos) (.bool false) :=
  (pe_and h pe_never).imp fun σ H Q ⟨G, env, k⟩ => ⟨G, env, fun G1 H1 v g1 q => ⟨false, q.boolE, by
    refine iteF ?_
    exact k G1 H1 _ g1 (.bl false)⟩⟩
theorem d_or (h : DE X Γ a (.bool false)) (h' : DE X Γ (.BoolOp .Or (b :: rest) pos) (.bool c)) : DE X Γ (.BoolOp .Or (a :: b :: rest) pos) (.bool c) :=
  (pe_or h h').imp fun σ H Q ⟨G, env, k⟩ => ⟨G, env, fun G1 H1 v g1 q => ⟨false, q.boolE, by
    refine iteF ?_
    exact ⟨G1, env.up g1, fun G2 H2 w g2 q2 => k G2 H2 w (g1.trans g2) q2⟩⟩⟩
theorem d_orT (h : DE X Γ a (.bool true)) : DE X Γ (.BoolOp .Or (a :: b :: rest) pos) (.bool true) :=
  (pe_or h pe_never).imp fun σ H Q ⟨G, env, k⟩ => ⟨G, env, fun G1 H1 v g1 q => ⟨true, q.boolE, by
    refine iteT ?_
    exact k G1 H1 _ g1 (.bl true)⟩⟩
theorem d_and' (h : DE X Γ a (.bool c)) (h' : c = true → DE X Γ (.BoolOp .And (b :: rest) pos) (.bool c')) : DE X Γ (.BoolOp .And (a :: b :: rest) pos) (.bool (c && c')) := by
  cases c with
  | true => exact d_and h (h' rfl)
  | false => exact d_andF h
theorem d_or' (h : DE X Γ a (.bool c)) (h' : c = false → DE X Γ (.BoolOp .Or (b :: rest) pos) (.bool c')) : DE X Γ (.BoolOp .Or (a :: b :: rest) pos) (.bool (c || c')) := by
  cases c with
  | true => exact d_orT h
  | false => exact d_or h (h' rfl)
theorem d_ifT {c : Expr} (h : DT X Γ c true) (ha : DE X Γ a d) : DE X Γ (.IfExp c a b pos) d :=
  (pe_ifExp h ha pe_never).imp fun σ H Q ⟨G, env, k⟩ => ⟨G, env, fun G1 H1 g1 => by
    refine iteT ?_
    exact ⟨G1, env.up g1, fun G2 H2 w g2 q2 => k G2 H2 w (g1.trans g2) q2⟩⟩
theorem d_ifF {c : Expr} (h : DT X Γ c false) (hb : DE X Γ b d) : DE X Γ (.IfExp c a b pos) d :=
  (pe_ifExp h pe_never hb).imp fun σ H Q ⟨G, env, k⟩ => ⟨G, env, fun G1 H1 g1 => by
    refine iteF ?_
    exact ⟨G1, env.up g1, fun G2 H2 w g2 q2 => k G2 H2 w (g1.trans g2) q2⟩⟩
/-- low <= x <= high -/
theorem d_chainT {op op' : CmpOp} {x : Expr} {dx : PyData} (ha : DE X Γ a da) (hb : DE X Γ b db) (hx : DE X Γ x dx) (ho : OpD X (compareOp op) da db (.bool true)) (ho' : OpD X (compareOp op') db dx (.bool c)) (hm : lastMarks [op, op'] [b, x] = false := by rfl) : DE X Γ (.Compare a [op, op'] [b, x] pos) (.bool c) :=
  (pe_chain ho ho' ha hb hx hm).imp fun σ H Q ⟨G, env, k⟩ => ⟨G, env, fun G1 H1 u g1 q1 => ⟨G1, env.up g1, fun G2 H2 v g2 q2 => ⟨G2, g2.s, q1.up g2.g, q2, fun G3 H3 w g3 q3 => ⟨true, q3.boolE, by
    refine iteT ?_
    exact ⟨G3, ((env.up g1).up g2).up g3, fun G4 H4 z g4 q4 => ⟨G4, g4.s, q2.up (g3.g.trans g4.g), q4, fun G5 H5 y g5 q5 => k G5 H5 y ((((g1.trans g2).trans g3).trans g4).trans g5) q5⟩⟩⟩⟩⟩⟩
theorem opr_never {f : Value → Value → Sem Value} : OpR X f (fun _ _ _ _ => False) := fun _ _ _ _ _ _ _ _ _ _ _ _ h => h.elim
theorem d_chainF {op op' : CmpOp} {x : Expr} (ha : DE X Γ a da) (hb : DE X Γ b db) (ho : OpD X (compareOp op) da db (.bool false)) (hm : lastMarks [op, op'] [b, x] = false := by rfl) : DE X Γ (.Compare a [op, op'] [b, x] pos) (.bool false) :=
  (pe_chain ho (opr_never (f := compareOp op')) ha hb pe_never hm).imp fun σ H Q ⟨G, env, k⟩ => ⟨G, env, fun G1 H1 u g1 q1 => ⟨G1, env.up g1, fun G2 H2 v g2 q2 => ⟨G2, g2.s, q1.up g2.g, q2, fun G3 H3 w g3 q3 => ⟨false, q3.boolE, by
    refine iteF ?_
    exact k G3 H3 _ ((g1.trans g2).trans g3) (.bl false)⟩⟩⟩⟩
theorem d_chain {op op' : CmpOp} {x : Expr} {dx : PyData} {c' : Bool} (ha : DE X Γ a da) (hb : DE X Γ b db) (ho : OpD X (compareOp op) da db (.bool c)) (hx : c = true → DE X Γ x dx) (ho' : OpD X (compareOp op') db dx (.bool c')) (hm : lastMarks [op, op'] [b, x] = false := by rfl) : DE X Γ (.Compare a [op, op'] [b, x] pos) (.bool (c && c')) := by
  cases c with
  | true => exact d_chainT ha hb (hx rfl) ho ho' hm
  | false => exact d_chainF ha hb ho hm
theorem dt_chainT {op op' : CmpOp} {x : Expr} {dx : PyData} (ha : DE X Γ a da) (hb : DE X Γ b db) (hx : DE X Γ x dx) (ho : OpD X (compareOp op) da db (.bool true)) (ho' : OpD X (compareOp op') db dx (.bool c)) (hm : lastMarks [op, op'] [b, x] = false := by rfl) : DT X Γ (.Compare a [op, op'] [b, x] pos) c :=
  (pt_chain ho ho' ha hb hx hm).imp fun σ H Q ⟨G, env, k⟩ => ⟨G, env, fun G1 H1 u g1 q1 => ⟨G1, env.up g1, fun G2 H2 v g2 q2 => ⟨G2, g2.s, q1.up g2.g, q2, fun G3 H3 w g3 q3 => ⟨true, q3.boolE, by
    refine iteT ?_
    exact ⟨G3, ((env.up g1).up g2).up g3, fun G4 H4 z g4 q4 => ⟨G4, g4.s, q2.up (g3.g.trans g4.g), q4, fun G5 H5 y g5 q5 => ⟨c, q5.boolE, k G5 H5 ((((g1.trans g2).trans g3).trans g4).trans g5)⟩⟩⟩⟩⟩⟩⟩
theorem dt_chainF {op op' : CmpOp} {x : Expr} (ha : DE X Γ a da) (hb : DE X Γ b db) (ho : OpD X (compareOp op) da db (.bool false)) (hm : lastMarks [op, op'] [b, x] = false := by rfl) : DT X Γ (.Compare a [op, op'] [b, x] pos) false :=
  (pt_chain ho (opr_never (f := compareOp op')) ha hb pe_never hm).imp fun σ H Q ⟨G, env, k⟩ => ⟨G, env, fun G1 H1 u g1 q1 => ⟨G1, env.up g1, fun G2 H2 v g2 q2 => ⟨G2, g2.s, q1.up g2.g, q2, fun G3 H3 w g3 q3 => ⟨false, q3.boolE, by
    refine iteF ?_
    exact ⟨false, rfl, k G3 H3 ((g1.trans g2).trans g3)⟩⟩⟩⟩⟩
theorem dt_chain {op op' : CmpOp} {x : Expr} {dx : PyData} {c' : Bool} (ha : DE X Γ a da) (hb : DE X Γ b db) (ho : OpD X (compareOp op) da db (.bool c)) (hx : c = true → DE X Γ x dx) (ho' : OpD X (compareOp op') db dx (.bool c')) (hm : lastMarks [op, op'] [b, x] = false := by rfl) : DT X Γ (.Compare a [op, op'] [b, x] pos) (c && c') := by
  cases c with
  | true => exact dt_chainT ha hb (hx rfl) ho ho' hm
  | false => exact dt_chainF ha hb ho hm
end
end
end SJ
set_option maxRecDepth 100000
set_option maxHeartbeats 4000000
/-! D2: operators, subscripts, displays, calls, built-ins, texts, by data. -/
namespace L2
open PySem PySem.Spec PyProof.Rows
theorem CallR.imp {X : Cx} {f : Value} {r r' : List V → Hp → VK → Prop} (h : CallR X f r) (w : ∀ vs H Q, r' vs H Q → r vs H Q) : CallR X f r' := fun pins s σ H xs us Q I rx q => h pins s σ H xs us Q I rx (w _ _ _ q)
end L2
namespace SJ
open PySem PySem.Spec PyProof.Rows L2

section
variable {X : Cx} {i j : Int} {x y : Str}
theorem o_addI : OpD X (binaryOp .Add) (.int i) (.int j) (.int (i + j)) := OpR.imp op_add fun _ _ H _ ⟨G, s, a, b, k⟩ => ⟨i, j, a.intE, b.intE, k G H _ (Gr.refl s) (.int _)⟩
theorem o_subI : OpD X (binaryOp .Sub) (.int i) (.int j) (.int (i - j)) := OpR.imp op_sub fun _ _ H _ ⟨G, s, a, b, k⟩ => ⟨i, j, a.intE, b.intE, k G H _ (Gr.refl s) (.int _)⟩
theorem o_mulI (h : CMul i j) : OpD X (binaryOp .Mult) (.int i) (.int j) (.int (i * j)) := OpR.imp op_mul fun _ _ H _ ⟨G, s, a, b, k⟩ => ⟨i, j, a.intE, b.intE, h, k G H _ (Gr.refl s) (.int _)⟩
theorem o_divI (h : CDiv i j) : OpD X (binaryOp .FloorDiv) (.int i) (.int j) (.int (i / j)) := OpR.imp op_fdiv fun _ _ H _ ⟨G, s, a, b, k⟩ => ⟨i, j, a.intE, b.intE, h, k G H _ (Gr.refl s) (.int _)⟩
theorem o_modI (h : 0 < j) : OpD X (binaryOp .Mod) (.int i) (.int j) (.int (i % j)) := OpR.imp op_mod fun _ _ H _ ⟨G, s, a, b, k⟩ => ⟨i, j, a.intE, b.intE, h, k G H _ (Gr.refl s) (.int _)⟩
theorem o_powI (h : CPow i j) : OpD X (binaryOp .Pow) (.int i) (.int j) (.int (i ^ j.toNat)) := OpR.imp op_pow fun _ _ H _ ⟨G, s, a, b, k⟩ => ⟨i, j, a.intE, b.intE, h, k G H _ (Gr.refl s) (.int _)⟩
theorem o_addS (h : x.length + y.length ≤ sizeLine) : OpD X (binaryOp .Add) (.str x) (.str y) (.str (x ++ y)) := OpR.imp op_add_str fun _ _ H _ ⟨G, s, a, b, k⟩ => ⟨x, y, a.strE, b.strE, h, k G H _ (Gr.refl s) (.str _)⟩
theorem o_ltI : OpD X (compareOp .Lt) (.int i) (.int j) (.bool (decide (i < j))) := OpR.imp op_lt fun _ _ H _ ⟨G, s, a, b, k⟩ => ⟨i, j, a.intE, b.intE, k G H _ (Gr.refl s) (.bl _)⟩
theorem o_leI : OpD X (compareOp .LtE) (.int i) (.int j) (.bool (decide (i ≤ j))) := OpR.imp op_le fun _ _ H _ ⟨G, s, a, b, k⟩ => ⟨i, j, a.intE, b.intE, k G H _ (Gr.refl s) (.bl _)⟩
theorem o_gtI : OpD X (compareOp .Gt) (.int i) (.int j) (.bool (decide (j < i))) := OpR.imp op_gt fun _ _ H _ ⟨G, s, a, b, k⟩ => ⟨i, j, a.intE, b.intE, k G H _ (Gr.refl s) (.bl _)⟩
theorem o_geI : OpD X (compareOp .GtE) (.int i) (.int j) (.bool (decide (j ≤ i))) := OpR.imp op_ge fun _ _ H _ ⟨G, s, a, b, k⟩ => ⟨i, j, a.intE, b.intE, k G H _ (Gr.refl s) (.bl _)⟩
theorem o_eqI : OpD X (compareOp .Eq) (.int i) (.int j) (.bool (i == j)) := OpR.imp op_eq fun _ _ H _ ⟨G, s, a, b, k⟩ => by
  rw [a.intE, b.intE]
  exact ⟨rfl, by rw [dec_int]; exact k G H _ (Gr.refl s) (.bl _)⟩
theorem o_neI : OpD X (compareOp .NotEq) (.int i) (.int j) (.bool (!(i == j))) := OpR.imp op_ne fun _ _ H _ ⟨G, s, a, b, k⟩ => by
  rw [a.intE, b.intE]
  exact ⟨rfl, by rw [dec_int]; exact k G H _ (Gr.refl s) (.bl _)⟩
theorem o_eqS : OpD X (compareOp .Eq) (.str x) (.str y) (.bool (x == y)) := OpR.imp op_eq fun _ _ H _ ⟨G, s, a, b, k⟩ => by
  rw [a.strE, b.strE]
  exact ⟨rfl, by rw [dec_str]; exact k G H _ (Gr.refl s) (.bl _)⟩
theorem o_neS : OpD X (compareOp .NotEq) (.str x) (.str y) (.bool (!(x == y))) := OpR.imp op_ne fun _ _ H _ ⟨G, s, a, b, k⟩ => by
  rw [a.strE, b.strE]
  exact ⟨rfl, by rw [dec_str]; exact k G H _ (Gr.refl s) (.bl _)⟩
theorem o_eqD {d e : PyData} (hu : X.A.units + 64 < cLine) (hd : SeqAt.shaped d = true) (he : SeqAt.shaped e = true) : OpD X (compareOp .Eq) d e (.bool (PyData.eqv d e)) :=
  OpR.imp (op_eqD hu) fun _ _ H _ ⟨G, s, a, b, k⟩ => ⟨d, e, Dq.dp _ _ (a.up s), Dq.dp _ _ (b.up s), hd, he, k G H _ (Gr.refl s) (.bl _)⟩
theorem o_neD {d e : PyData} (hu : X.A.units + 64 < cLine) (hd : SeqAt.shaped d = true) (he : SeqAt.shaped e = true) : OpD X (compareOp .NotEq) d e (.bool (!PyData.eqv d e)) :=
  OpR.imp (op_neD hu) fun _ _ H _ ⟨G, s, a, b, k⟩ => ⟨d, e, Dq.dp _ _ (a.up s), Dq.dp _ _ (b.up s), hd, he, k G H _ (Gr.refl s) (.bl _)⟩
def isNoneD : PyData → Bool
  | .none => true
  | _ => false
theorem isNone_of {K : PySem.W.Frag} {G : Hp} {v : V} {d : PyData} (h : Dq K G v d) : decide (v = .non) = isNoneD d := by
  cases h <;> rfl
theorem o_isN {d : PyData} : OpD X (compareOp .Is) d .none (.bool (isNoneD d)) := OpR.imp op_isN fun _ _ H _ ⟨G, s, a, b, k⟩ => ⟨b.noneE, by rw [isNone_of a]; exact k G H _ (Gr.refl s) (.bl _)⟩
theorem o_notN {d : PyData} : OpD X (compareOp .IsNot) d .none (.bool (!isNoneD d)) := OpR.imp op_notN fun _ _ H _ ⟨G, s, a, b, k⟩ => ⟨b.noneE, by rw [isNone_of a]; exact k G H _ (Gr.refl s) (.bl _)⟩

/-! ### in -/
theorem inV_str {x : Str} : ∀ ss : List Str, inV (.str x) (ss.map V.str) = ss.any (· == x)
  | [] => rfl
  | s :: ss => by
    have ih := inV_str (x := x) ss
    unfold inV at ih ⊢
    rw [List.map_cons, List.any_cons, List.any_cons, ih]
    all_goals rfl
theorem inV_none : ∀ ns : List Int, inV .non (ns.map V.int) = false
  | [] => rfl
  | n :: ns => by
    have ih := inV_none ns
    unfold inV at ih ⊢
    rw [List.map_cons, List.any_cons, ih]
    all_goals rfl
theorem flat_strs : ∀ ss : List Str, (ss.map V.str).all flatV = true
  | [] => rfl
  | s :: ss => by rw [List.map_cons, List.all_cons, flat_strs ss]; rfl
theorem flat_ints : ∀ ss : List Int, (ss.map V.int).all flatV = true
  | [] => rfl
  | s :: ss => by rw [List.map_cons, List.all_cons, flat_ints ss]; rfl
theorem o_inST {ss : List Str} : OpD X (compareOp .In) (.str x) (.tuple (ss.map .str)) (.bool (ss.any (· == x))) := OpR.imp op_in_seq fun _ _ H _ ⟨G, s, a, b, k⟩ => by
  obtain ⟨p, xs, rfl, hs, ha⟩ := b.tupE
  cases ha.strs
  rw [a.strE]
  refine ⟨p, _, rfl, .inr (sqT_mono s hs), rfl, flat_strs ss, ?_⟩
  rw [if_neg Bool.false_ne_true, inV_str]
  exact k G H _ (Gr.refl s) (.bl _)
theorem o_ninST {ss : List Str} : OpD X (compareOp .NotIn) (.str x) (.tuple (ss.map .str)) (.bool (!ss.any (· == x))) := OpR.imp op_notIn_seq fun _ _ H _ ⟨G, s, a, b, k⟩ => by
  obtain ⟨p, xs, rfl, hs, ha⟩ := b.tupE
  cases ha.strs
  rw [a.strE]
  refine ⟨p, _, rfl, .inr (sqT_mono s hs), rfl, flat_strs ss, ?_⟩
  rw [if_pos rfl, inV_str]
  exact k G H _ (Gr.refl s) (.bl _)
theorem o_inNL {ns : List Int} : OpD X (compareOp .In) .none (.list (ns.map .int)) (.bool false) := OpR.imp op_in_seq fun _ _ H _ ⟨G, s, a, b, k⟩ => by
  obtain ⟨p, xs, rfl, hs, ha⟩ := b.listE
  cases ha.ints
  rw [a.noneE]
  refine ⟨p, _, rfl, .inl (s.seq hs), rfl, flat_ints ns, ?_⟩
  rw [if_neg Bool.false_ne_true, inV_none]
  exact k G H _ (Gr.refl s) (.bl _)
/-- a sign in a text -/
theorem o_inS {c : Nat} : OpD X (compareOp .In) (.str ⟨#[c]⟩) (.str y) (.bool (decide (c ∈ y.cps.toList))) := OpR.imp op_in_sign fun _ _ H _ ⟨G, s, a, b, k⟩ => ⟨c, y, a.strE, b.strE, k G H _ (Gr.refl s) (.bl _)⟩
end

/-! ### lists and tuples put together -/
section
variable {X : Cx}
theorem o_catT {ds es : List PyData} (h0 : ds ≠ []) (h1 : es ≠ []) (h : ds.length + es.length ≤ 100000) : OpD X (binaryOp .Add) (.tuple ds) (.tuple es) (.tuple (ds ++ es)) := OpR.imp op_catT fun _ _ H _ ⟨G, s, a, b, k⟩ => by
  obtain ⟨p, xs, rfl, hs, ha⟩ := a.tupE
  obtain ⟨q, ys, rfl, ht, hb⟩ := b.tupE
  refine ⟨p, q, xs, ys, rfl, rfl, sqT_mono s hs, sqT_mono s ht, fun e => ?_, ?_, fun e => ?_, fun _ r hr => ?_⟩
  · subst e; cases ha; exact h0 rfl
  · rw [ha.len, hb.len]
    exact Nat.le_trans h (by decide)
  · subst e; cases hb; exact (h1 rfl).elim
  · exact k _ _ _ (Gr.new s hr) (.tup (.inl (.inl upd_same)) ((ha.app hb).up (Gr.new s hr).g))
end

section
variable {X : Cx}
theorem o_catL {ds es : List PyData} (h : ds.length + es.length ≤ 100000) : OpD X (binaryOp .Add) (.list ds) (.list es) (.list (ds ++ es)) := OpR.imp op_cat fun _ _ H _ ⟨G, s, a, b, k⟩ => by
  obtain ⟨p, xs, rfl, hs, ha⟩ := a.listT
  obtain ⟨q, ys, rfl, ht, hb⟩ := b.listT
  refine ⟨p, q, xs, ys, rfl, rfl, s _ _ hs, s _ _ ht, ?_, fun r hr => ?_⟩
  · rw [ha.len, hb.len]
    exact Nat.le_trans h (by decide)
  · exact k _ _ _ (Gr.new s hr) (.lst upd_same ((ha.app hb).up (Gr.new s hr).g))
end

/-! ### subscripts, slices -/
def cutA {α : Type} (xs : List α) (lo hi : Option Int) : List α := (xs.drop (HT.sIx xs.length 0 lo)).take (HT.sIx xs.length xs.length hi - HT.sIx xs.length 0 lo)
theorem cut_all {K : PySem.W.Frag} {G : Hp} {vs : List V} {ds : List PyData} (h : DqAll K G vs ds) (lo hi : Option Int) : DqAll K G (cutV vs lo hi) (cutA ds lo hi) := by
  unfold cutV cutA
  rw [h.len]
  exact (h.drop _).take _
section
variable {X : Cx} {Γ : List SD} {a b e : Expr} {d : PyData} {ds : List PyData} {i : Int} {pos p2 : Pos}
theorem d_ixT (ha : DE X Γ a (.tuple ds)) (hb : DE X Γ b (.int i)) (h : atI ds i = some d) (hs : PlainIx b := by exact fun _ _ => rfl) : DE X Γ (.Subscript a b pos) d :=
  (pe_ix ix_tup ha hb hs).imp fun σ H Q q => tOp_D q fun x y G H Q s q1 q2 k => by
    obtain ⟨p, xs, rfl, hs, hx⟩ := q1.tupE
    obtain ⟨v, h1, h2⟩ := hx.at_ h
    exact ⟨p, xs, i, v, rfl, q2.intE, sqT_mono s hs, h1, k G H v (Gr.refl s) h2⟩
theorem d_ixL (ha : DE X Γ a (.list ds)) (hb : DE X Γ b (.int i)) (h : atI ds i = some d) (hs : PlainIx b := by exact fun _ _ => rfl) : DE X Γ (.Subscript a b pos) d :=
  (pe_ix ix_list ha hb hs).imp fun σ H Q q => tOp_D q fun x y G H Q s q1 q2 k => by
    obtain ⟨p, xs, rfl, hs, hx⟩ := q1.listE
    obtain ⟨v, h1, h2⟩ := hx.at_ h
    exact ⟨p, xs, i, v, rfl, q2.intE, s.seq hs, h1, k G H v (Gr.refl s) h2⟩
theorem d_ixS {z : Str} {c : Nat} (ha : DE X Γ a (.str z)) (hb : DE X Γ b (.int i)) (h : atI z.cps.toList i = some c) (hl : z.length ≤ sizeLine) (hs : PlainIx b := by exact fun _ _ => rfl) : DE X Γ (.Subscript a b pos) (.str ⟨#[c]⟩) :=
  (pe_ix ix_str ha hb hs).imp fun σ H Q q => tOp_D q fun x y G H Q s q1 q2 k => ⟨z, i, c, q1.strE, q2.intE, hl, h, k G H _ (Gr.refl s) (.str _)⟩
theorem d_neg (ha : DE X Γ a (.int i)) : DE X Γ (.UnaryOp .USub a pos) (.int (-i)) :=
  (pe_un un_neg ha).imp fun σ H Q ⟨G, env, k⟩ => ⟨G, env, fun G1 H1 v g q => ⟨i, q.intE, k G1 H1 _ g (.int _)⟩⟩
theorem do_none : DO X Γ none none := po_none.imp fun σ H Q ⟨G, env, k⟩ => k G H (Gr.refl env.s)
theorem do_some (h : DE X Γ e (.int i)) : DO X Γ (some e) (some i) := (po_some h).imp fun σ H Q ⟨G, env, k⟩ => ⟨G, env, fun G1 H1 v g q => ⟨i, q.intE, k G1 H1 g⟩⟩
theorem d_slL {lo hi : Option Expr} {l h : Option Int} (he : DE X Γ e (.list ds)) (hl : DO X Γ lo l) (hh : DO X Γ hi h) : DE X Γ (.Subscript e (.Slice lo hi none p2) pos) (.list (cutA ds l h)) :=
  (pe_slice sl_list he hl hh).imp fun σ H Q ⟨G, env, k⟩ => ⟨G, env, fun G1 H1 v g1 q1 => ⟨G1, env.up g1, fun G2 H2 g2 => ⟨G2, (env.up g1).up g2, fun G3 H3 g3 => by
    obtain ⟨p, xs, rfl, hs, hx⟩ := (q1.up (g2.g.trans g3.g)).listE
    refine ⟨p, xs, rfl, g3.s.seq hs, fun r hr => k _ _ _ (((g1.trans g2).trans g3).trans (Gr.new g3.s hr)) (.lst upd_same ?_)⟩
    exact (cut_all hx l h).up (Gr.new g3.s hr).g⟩⟩⟩
theorem d_slT {lo hi : Option Expr} {l h : Option Int} (he : DE X Γ e (.tuple ds)) (hl : DO X Γ lo l) (hh : DO X Γ hi h) (hw : ¬ (HT.sIx ds.length 0 l = 0 ∧ HT.sIx ds.length ds.length h = ds.length)) : DE X Γ (.Subscript e (.Slice lo hi none p2) pos) (.tuple (cutA ds l h)) :=
  (pe_slice sl_tup he hl hh).imp fun σ H Q ⟨G, env, k⟩ => ⟨G, env, fun G1 H1 v g1 q1 => ⟨G1, env.up g1, fun G2 H2 g2 => ⟨G2, (env.up g1).up g2, fun G3 H3 g3 => by
    obtain ⟨p, xs, rfl, hs, hx⟩ := (q1.up (g2.g.trans g3.g)).tupE
    refine ⟨p, xs, rfl, sqT_mono g3.s hs, by rw [hx.len]; exact hw, fun r hr => k _ _ _ (((g1.trans g2).trans g3).trans (Gr.new g3.s hr)) (.tup (.inl (.inl upd_same)) ?_)⟩
    exact (cut_all hx l h).up (Gr.new g3.s hr).g⟩⟩⟩

/-! ### arguments, displays -/
theorem da_nil : DA X Γ [] [] := pa_nil.imp fun σ H Q ⟨G, env, k⟩ => k G H _ (Gr.refl env.s) .nil
theorem da_cons {es : List Expr} (he : DE X Γ e d) (hr : DA X Γ es ds) (hs : starEach (e :: es) X.env = (false, eval e X.env) :: starEach es X.env := by rfl) : DA X Γ (e :: es) (d :: ds) :=
  (pa_cons he hr hs).imp fun σ H Q ⟨G, env, k⟩ => ⟨G, env, fun G1 H1 v g1 q1 => ⟨G1, env.up g1, fun G2 H2 vs g2 q2 => k G2 H2 _ (g1.trans g2) (.cons (q1.up g2.g) q2)⟩⟩
theorem d_tup {es : List Expr} {x1} (h : DA X Γ es ds) (hl : ds.length ≤ 100000 := by first | (simp only [List.length_cons, List.length_nil]; decide) | assumption) : DE X Γ (.Tuple es x1 pos) (.tuple ds) :=
  (pe_tup h).imp fun σ H Q ⟨G, env, k⟩ => ⟨G, env, fun G1 H1 vs g1 q1 => ⟨by rw [q1.len]; exact Nat.le_trans hl (by decide), fun p hp => k _ _ _ (g1.trans (Gr.new g1.s hp)) (.tup (.inl (.inl upd_same)) (q1.up (Gr.new g1.s hp).g))⟩⟩
theorem d_lst {es : List Expr} (h : DA X Γ es ds) (hl : ds.length ≤ 100000 := by first | (simp only [List.length_cons, List.length_nil]; decide) | assumption) : DE X Γ (.List es pos) (.list ds) :=
  (pe_lst h).imp fun σ H Q ⟨G, env, k⟩ => ⟨G, env, fun G1 H1 vs g1 q1 => ⟨by rw [q1.len]; exact Nat.le_trans hl (by decide), fun p hp => k _ _ _ (g1.trans (Gr.new g1.s hp)) (.lst upd_same (q1.up (Gr.new g1.s hp).g))⟩⟩
end

/-! ### calls of defs -/
/-- a def's promise by data: R says what it hands back -/
def SpD (K : PySem.W.Frag) (R : List PyData → PyData → Prop) : Sp := fun vs H Q _ => ∃ G ds d, R ds d ∧ DqAll K G vs ds ∧ Same G H ∧ ∀ G' H' v, Gr G H G' H' → Dq K G' v d → Q v H'
/-- a global def with its promise -/
structure GFn (P : Program) (w : World) (K : PySem.W.Frag) (mg : Str → Option Value) (base : Heap) (x : Str) (k : Nat) (sp : Sp) (dvs : List V := []) : Prop where
  ex : ∃ (f : Addr) (fd : FuncData) (ps : List Str) (ds : List Value), FnOk P w K mg base CX0 k f fd ps sp ∧ mg x = some (.ref f) ∧ PySem.W.keepIn K (.ref f) = true ∧ Binds K fd ps ds ∧ Vals dvs ds
/-- a method of the class at C with its promise -/
structure MFn (P : Program) (w : World) (K : PySem.W.Frag) (mg : Str → Option Value) (base : Heap) (C : Addr) (m : Str) (k : Nat) (sp : Sp) : Prop where
  ex : ∃ (f : Addr) (fd : FuncData) (ps : List Str), Cls K C ∧ Meth K C m f ∧ FnOk P w K mg base CX0 k f fd ps sp ∧ Binds K fd ps []
/-- a class with its __init__'s promise -/
structure KFn (P : Program) (w : World) (K : PySem.W.Frag) (mg : Str → Option Value) (base : Heap) (x : Str) (C : Addr) (k : Nat) (sp : Sp) : Prop where
  ex : ∃ (f : Addr) (fd : FuncData) (ps : List Str), Cls K C ∧ Mk K C f ∧ mg x = some (.ref C) ∧ FnOk P w K mg base CX0 k f fd ps sp ∧ Binds K fd ps []
section
variable {X : Cx} {Γ : List SD} {e : Expr} {es : List Expr} {d : PyData} {ds : List PyData} {pos p apos : Pos} {k : Nat} {x m : Str}
theorem GFn.mono {P : Program} {w : World} {K : PySem.W.Frag} {mg : Str → Option Value} {base : Heap} {j : Nat} {sp : Sp} {dvs : List V} (F : GFn P w K mg base x j sp dvs) (h : j ≤ k) : GFn P w K mg base x k sp dvs := by
  obtain ⟨f, fd, ps, ds, a, b⟩ := F.ex
  exact ⟨f, fd, ps, ds, a.mono h, b⟩
theorem g_call {sp : Sp} {dvs : List V} {t : TA} (F : GFn X.prog X.w X.K X.mg X.base x k sp dvs) (hr : Room k X.A) (ha : PA X (e :: es) t) (hg : Gl X x := by rfl)
    (hdb : (x == ("__debug__" : Str)) = false := by decide) (he : starEach (e :: es) X.env = (false, eval e X.env) :: starEach es X.env := by rfl) (hpl : (backTo pos (starEach es X.env)).any (·.1) = false := by rfl) :
    PE X (.Call (.Name x p) (e :: es) [] pos) (tCall sp dvs E0 t) := by
  obtain ⟨f, fd, ps, dsv, a, b, c, hb, hv⟩ := F.ex
  exact pe_call a hr hg b c hb hv pass0 ha hdb he hpl
theorem d_call {R : List PyData → PyData → Prop} (F : GFn X.prog X.w X.K X.mg X.base x k (SpD X.K R)) (hr : Room k X.A) (ha : DA X Γ (e :: es) ds) (h : R ds d) (hg : Gl X x := by rfl)
    (hdb : (x == ("__debug__" : Str)) = false := by decide) (he : starEach (e :: es) X.env = (false, eval e X.env) :: starEach es X.env := by rfl) (hpl : (backTo pos (starEach es X.env)).any (·.1) = false := by rfl) :
    DE X Γ (.Call (.Name x p) (e :: es) [] pos) d :=
  (g_call F hr ha hg hdb he hpl).imp fun σ H Q ⟨G, env, q⟩ => ⟨G, env, fun G1 H1 vs g1 q1 => ⟨G1, ds, d, h, by rw [List.append_nil]; exact q1, g1.s, fun G2 H2 v g2 q2 => q G2 H2 v (g1.trans g2) q2⟩⟩
theorem d_callD {R : List PyData → PyData → Prop} {dvs : List V} {es' : List PyData} (F : GFn X.prog X.w X.K X.mg X.base x k (SpD X.K R) dvs) (hdv : ∀ G, DqAll X.K G dvs es') (hr : Room k X.A) (ha : DA X Γ (e :: es) ds) (h : R (ds ++ es') d) (hg : Gl X x := by rfl)
    (hdb : (x == ("__debug__" : Str)) = false := by decide) (he : starEach (e :: es) X.env = (false, eval e X.env) :: starEach es X.env := by rfl) (hpl : (backTo pos (starEach es X.env)).any (·.1) = false := by rfl) :
    DE X Γ (.Call (.Name x p) (e :: es) [] pos) d :=
  (g_call F hr ha hg hdb he hpl).imp fun σ H Q ⟨G, env, q⟩ => ⟨G, env, fun G1 H1 vs g1 q1 => ⟨G1, ds ++ es', d, h, q1.app (hdv G1), g1.s, fun G2 H2 v g2 q2 => q G2 H2 v (g1.trans g2) q2⟩⟩

/-! ### built-ins -/
def rCD (K : PySem.W.Frag) (ds : List PyData) (d : PyData) : List V → Hp → VK → Prop := fun vs H Q => ∃ G, Same G H ∧ DqAll K G vs ds ∧ ∀ G' H' v, Gr G H G' H' → Dq K G' v d → Q v H'
theorem d_blt {id : String} (hc : CallR X (.builtin id) (rCD X.K ds d)) (hm : X.mg x = none) (ha : DA X Γ (e :: es) ds) (hv : bootBuiltins x = some (.builtin id) := by decide +kernel) (hg : Gl X x := by rfl) (hn : x ≠ "__name__" := by decide) (hdb : (x == ("__debug__" : Str)) = false := by decide)
    (he : starEach (e :: es) X.env = (false, eval e X.env) :: starEach es X.env := by rfl) (hpl : (backTo pos (starEach es X.env)).any (·.1) = false := by rfl) : DE X Γ (.Call (.Name x p) (e :: es) [] pos) d :=
  (pe_callB hc hg hm hv ha hn hdb he hpl).imp fun σ H Q ⟨G, env, q⟩ => ⟨G, env, fun G1 H1 vs g1 q1 => ⟨G1, g1.s, q1, fun G2 H2 v g2 q2 => q G2 H2 v (g1.trans g2) q2⟩⟩
theorem d_cty {T : String} (hc : CallR X (.type T) (rCD X.K ds d)) (hm : X.mg x = none) (ha : DA X Γ (e :: es) ds) (hv : bootBuiltins x = some (.type T) := by decide +kernel) (hg : Gl X x := by rfl) (hn : x ≠ "__name__" := by decide) (hdb : (x == ("__debug__" : Str)) = false := by decide)
    (he : starEach (e :: es) X.env = (false, eval e X.env) :: starEach es X.env := by rfl) (hpl : (backTo pos (starEach es X.env)).any (·.1) = false := by rfl) : DE X Γ (.Call (.Name x p) (e :: es) [] pos) d :=
  (pe_callTy hc hg hm hv ha hn hdb he hpl).imp fun σ H Q ⟨G, env, q⟩ => ⟨G, env, fun G1 H1 vs g1 q1 => ⟨G1, g1.s, q1, fun G2 H2 v g2 q2 => q G2 H2 v (g1.trans g2) q2⟩⟩
theorem one {K : PySem.W.Frag} {G : Hp} {vs : List V} (h : DqAll K G vs [d]) : ∃ v, vs = [v] ∧ Dq K G v d := by
  cases h with
  | cons a b => cases b; exact ⟨_, rfl, a⟩
theorem two {K : PySem.W.Frag} {G : Hp} {vs : List V} {e : PyData} (h : DqAll K G vs [d, e]) : ∃ v u, vs = [v, u] ∧ Dq K G v d ∧ Dq K G u e := by
  cases h with
  | cons a b => cases b with
    | cons b c => cases c; exact ⟨_, _, rfl, a, b⟩
theorem c_lenL : CallR X (.builtin "len") (rCD X.K [.list ds] (.int ds.length)) := CallR.imp call_len_seq fun vs H Q ⟨G, s, h, k⟩ => by
  obtain ⟨v, rfl, h9⟩ := one h
  obtain ⟨a, xs, rfl, hs, hx⟩ := h9.listE
  exact ⟨a, xs, rfl, .inl (s.seq hs), by rw [hx.len]; exact k G H _ (Gr.refl s) (.int _)⟩
theorem c_lenT : CallR X (.builtin "len") (rCD X.K [.tuple ds] (.int ds.length)) := CallR.imp call_len_seq fun vs H Q ⟨G, s, h, k⟩ => by
  obtain ⟨v, rfl, h9⟩ := one h
  obtain ⟨a, xs, rfl, hs, hx⟩ := h9.tupE
  exact ⟨a, xs, rfl, .inr (sqT_mono s hs), by rw [hx.len]; exact k G H _ (Gr.refl s) (.int _)⟩
theorem c_lenS {z : Str} (hz : z.length ≤ sizeLine) : CallR X (.builtin "len") (rCD X.K [.str z] (.int z.length)) := CallR.imp call_len_str fun vs H Q ⟨G, s, h, k⟩ => by
  obtain ⟨v, rfl, h9⟩ := one h
  exact ⟨z, by rw [h9.strE], hz, k G H _ (Gr.refl s) (.int _)⟩
theorem c_list : CallR X (.type "list") (rCD X.K [.list ds] (.list ds)) := CallR.imp call_list_of fun vs H Q ⟨G, s, h, k⟩ => by
  obtain ⟨v, rfl, h9⟩ := one h
  obtain ⟨a, xs, rfl, hs, hx⟩ := h9.listE
  exact ⟨a, xs, rfl, .inl (s.seq hs), fun l hl => k _ _ _ (Gr.new s hl) (.lst upd_same (hx.up (Gr.new s hl).g))⟩
theorem c_tuple : CallR X (.type "tuple") (rCD X.K [.list ds] (.tuple ds)) := CallR.imp call_tuple_of fun vs H Q ⟨G, s, h, k⟩ => by
  obtain ⟨v, rfl, h9⟩ := one h
  obtain ⟨a, xs, rfl, hs, hx⟩ := h9.listE
  exact ⟨a, xs, rfl, .inl ⟨s.seq hs, fun l hl => k _ _ _ (Gr.new s hl) (.tup (.inl (.inl upd_same)) (hx.up (Gr.new s hl).g))⟩⟩
theorem c_all {bs : List Bool} (hc : X.calm = true) : CallR X (.builtin "all") (rCD X.K [.list (bs.map .bool)] (.bool (bs.all id))) := CallR.imp (cr_all hc) fun vs H Q ⟨G, s, h, k⟩ => by
  obtain ⟨v, rfl, h9⟩ := one h
  obtain ⟨a, xs, rfl, hs, hx⟩ := h9.listE
  cases hx.bools
  exact ⟨a, bs, rfl, s.seq hs, k G H _ (Gr.refl s) (.bl _)⟩
theorem c_max {ns : List Int} {m : Int} (hc : X.calm = true) (h0 : m ∈ ns) (hm : ∀ y, y ∈ ns → y ≤ m) : CallR X (.builtin "max") (rCD X.K [.list (ns.map .int)] (.int m)) := CallR.imp (cr_max hc) fun vs H Q ⟨G, s, h, k⟩ => by
  obtain ⟨v, rfl, h9⟩ := one h
  obtain ⟨a, xs, rfl, hs, hx⟩ := h9.listE
  cases hx.ints
  refine ⟨a, ns, rfl, s.seq hs, List.length_pos_of_mem h0, fun z z1 z2 => ?_⟩
  have e : z = m := Int.le_antisymm (hm z z1) (z2 m h0)
  rw [e]
  exact k G H _ (Gr.refl s) (.int _)
theorem c_min2 {i j : Int} (hc : X.calm = true) : CallR X (.builtin "min") (rCD X.K [.int i, .int j] (.int (if j < i then j else i))) := CallR.imp (call_min2 hc) fun vs H Q ⟨G, s, h, k⟩ => by
  obtain ⟨v, u, rfl, h1, h2⟩ := two h
  exact ⟨i, j, by rw [h1.intE, h2.intE], k G H _ (Gr.refl s) (.int _)⟩
theorem c_sortI {ns ms : List Int} (hp : ∀ ns' : List Int, ns'.Perm ns → ns'.Pairwise (· ≤ ·) → ns' = ms) : CallR X (.builtin "sorted") (rCD X.K [.list (ns.map .int)] (.list (ms.map .int))) := CallR.imp cr_sortedI fun vs H Q ⟨G, s, h, k⟩ => by
  obtain ⟨v, rfl, h9⟩ := one h
  obtain ⟨a, xs, rfl, hs, hx⟩ := h9.listE
  cases hx.ints
  refine ⟨a, ns, rfl, s.seq hs, fun ns' p h1 h2 hp' => ?_⟩
  rw [hp ns' h1 h2]
  exact k _ _ _ (Gr.new s hp') (.lst upd_same (DqAll.ofInts ms))
theorem c_strI {i : Int} (h : i.natAbs.log2 < 1920) : CallR X (.type "str") (rCD X.K [.int i] (.str (Str.ofString (toString i)))) := CallR.imp call_str_int fun vs H Q ⟨G, s, h', k⟩ => by
  obtain ⟨v, rfl, h1⟩ := one h'
  exact ⟨i, by rw [h1.intE], h, k G H _ (Gr.refl s) (.str _)⟩
theorem c_intS {z : Str} {n : Int} (h : PySem.intText? z = some n) (hl : z.length ≤ 640) : CallR X (.type "int") (rCD X.K [.str z] (.int n)) := CallR.imp call_int_str fun vs H Q ⟨G, s, h', k⟩ => by
  obtain ⟨v, rfl, h1⟩ := one h'
  exact ⟨z, n, by rw [h1.strE], h, hl, k G H _ (Gr.refl s) (.int _)⟩

/-! ### isinstance -/
def tyD : PyData → String
  | .none => "NoneType"
  | .bool _ => "bool"
  | .int _ => "int"
  | .str _ => "str"
  | .list _ => "list"
  | .tuple _ => "tuple"
  | .dict _ => "dict"
theorem tyx_of {K : PySem.W.Frag} {H : Hp} {v : V} (h : Dq K H v d) : TyX K H v (.type (tyD d)) := by
  cases h with
  | non => exact .base .non
  | bl b => exact .base (.bl b)
  | int i => exact .base (.int i)
  | str z => exact .base (.str z)
  | lst hs _ => exact .base (.lst hs)
  | tup hs _ =>
    rcases hs with (h | ⟨o, h⟩) | ⟨o, _, _, h, c, _⟩
    · exact .base (.tup h)
    · exact .fTuple h
    · exact .kTuple h c
theorem d_isi {T : String} {T' : Str} {b : Bool} {q2 : Pos} (hm : X.mg "isinstance" = none) (he : DE X Γ e d) (hT : X.mg T' = none) (hb : kitB (tyD d) T = some b) (hv : bootBuiltins T' = some (.type T) := by decide +kernel) (hg : Gl X "isinstance" := by rfl) (hg' : Gl X T' := by rfl)
    (hn' : T' ≠ "__name__" := by decide) (hdb' : (T' == ("__debug__" : Str)) = false := by decide)
    (hs : starEach [e, .Name T' q2] X.env = (false, eval e X.env) :: starEach [.Name T' q2] X.env := by rfl) (hs2 : starEach [.Name T' q2] X.env = (false, eval (.Name T' q2) X.env) :: starEach [] X.env := by rfl) (hpl : (backTo pos (starEach [.Name T' q2] X.env)).any (·.1) = false := by rfl) :
    DE X Γ (.Call (.Name "isinstance" p) [e, .Name T' q2] [] pos) (.bool b) :=
  (pe_callB call_isi hg hm (by decide +kernel) (pa_cons he (pa_cons (pe_bltn (v := .ty T) hg' hT hv rfl hn' hdb') pa_nil hs2) hs) (by decide) (by decide) hs hpl).imp fun σ H Q ⟨G, env, k⟩ => ⟨G, env, fun G1 H1 v g1 q1 =>
    ⟨v, .ty T, .type (tyD d), .type T, b, rfl, .ty T, tyx_of (q1.up g1.s), kit_ty hb, k G1 H1 _ g1 (.bl b)⟩⟩

/-! ### texts -/
section
variable {o : Expr} {z y : Str}
theorem d_split (ho : DE X Γ o (.str z)) (he : DE X Γ e (.str y)) (h0 : (y.length == 0) = false) (hl : z.length + 2 ≤ sizeLine) (hs : starEach [e] X.env = [(false, eval e X.env)] := by rfl) (hbase : attributeBase o "split" X.env (eval o X.env) = eval o X.env := by rfl) (hline : (apos.endLine == pos.line) = true := by rfl) :
    DE X Γ (.Call (.Attribute o "split" apos) [e] [] pos) (.list ((Txt.split z y).map .str)) :=
  (pe_split ho he hs hbase hline).imp fun σ H Q ⟨G, env, k⟩ => ⟨G, env, fun G1 H1 v g1 q1 => ⟨⟨z, q1.strE⟩, G1, env.up g1, fun G2 H2 u g2 q2 => ⟨z, y, q1.strE, by rw [q2.strE], h0, hl, fun r hr =>
    k _ _ _ ((g1.trans g2).trans (Gr.new g2.s hr)) (.lst upd_same (DqAll.ofStrs _))⟩⟩⟩
theorem d_join {ys : List Str} (ho : DE X Γ o (.str z)) (he : DE X Γ e (.list (ys.map .str))) (hl : (ys.map (·.length)).sum + ys.length * z.length ≤ 16777216) (hs : starEach [e] X.env = [(false, eval e X.env)] := by rfl) (hbase : attributeBase o "join" X.env (eval o X.env) = eval o X.env := by rfl) (hline : (apos.endLine == pos.line) = true := by rfl) :
    DE X Γ (.Call (.Attribute o "join" apos) [e] [] pos) (.str (Txt.join z ys)) :=
  (pe_join ho he hs hbase hline).imp fun σ H Q ⟨G, env, k⟩ => ⟨G, env, fun G1 H1 v g1 q1 => ⟨⟨z, q1.strE⟩, G1, env.up g1, fun G2 H2 u g2 q2 => by
    obtain ⟨a, xs, rfl, hs, hx⟩ := q2.listE
    cases hx.strs
    exact ⟨z, a, ys, q1.strE, rfl, .inl (g2.s.seq hs), hl, k _ _ _ (g1.trans g2) (.str _)⟩⟩⟩
theorem d_startswith (ho : DE X Γ o (.str z)) (he : DE X Γ e (.str y)) (hs : starEach [e] X.env = [(false, eval e X.env)] := by rfl) (hbase : attributeBase o "startswith" X.env (eval o X.env) = eval o X.env := by rfl) (hline : (apos.endLine == pos.line) = true := by rfl) :
    DE X Γ (.Call (.Attribute o "startswith" apos) [e] [] pos) (.bool (Txt.startswith z y)) :=
  (pe_m1 F.slot_str_startswith F.type_str_startswith mt_startswith ho he hs hbase hline).imp fun σ H Q ⟨G, env, k⟩ => ⟨G, env, fun G1 H1 v g1 q1 => ⟨⟨z, q1.strE⟩, G1, env.up g1, fun G2 H2 u g2 q2 =>
    ⟨z, y, q1.strE, by rw [q2.strE], k _ _ _ (g1.trans g2) (.bl _)⟩⟩⟩
end
end
end SJ
set_option maxRecDepth 100000
set_option maxHeartbeats 4000000
/-! D3: what is walked, comprehensions, statements, loops, defs, by data. -/
namespace SJ
open PySem PySem.Spec PyProof.Rows L2

/-! ### what is walked -/
def WkD (K : PySem.W.Frag) (J : It) (ds : List PyData) (G : Hp) : Prop := ∀ G2 H2, Same G G2 → Same G2 H2 →
  (∀ (i : Nat) d, ds[i]? = some d → J.go i H2 ∧ ∀ x H3, J.yld i H2 x H3 → ∃ G3, Gr G2 H2 G3 H3 ∧ Dq K G3 x d) ∧ J.stop ds.length H2
def tDI (K : PySem.W.Frag) (Γ : List SD) (ds : List PyData) : TI := fun σ H R => ∃ G, EnvD K G H Γ σ ∧ ∀ G' H' J, Gr G H G' H' → WkD K J ds G' → R J H'
abbrev PID (X : Cx) (tg : Expr) (Γ : List SD) (iter : Expr) (ds : List PyData) : Prop := PI X tg iter (tDI X.K Γ ds)
theorem PI_imp {X : Cx} {tg e : Expr} {t t' : TI} (h : PI X tg e t) (w : ∀ σ H R, t' σ H R → t σ H R) : PI X tg e t' := ⟨fun pins s σ H R I q => h.run pins s σ H R I (w σ H R q)⟩
section
variable {X : Cx} {Γ : List SD} {tg e : Expr} {ds es : List PyData} {p pos tpos : Pos}
theorem wk_list {K : PySem.W.Frag} {G : Hp} {a : Addr} {xs : List V} (hs : SqL K G a xs) (hx : DqAll K G xs ds) : WkD K (Itl K a) ds G := fun G2 H2 s1 s2 => by
  have q := (s1.trans s2).seq hs
  refine ⟨fun i d hd => ?_, xs, q, by rw [hx.len]; exact Nat.le_refl _⟩
  obtain ⟨v, e1, e2⟩ := hx.get hd
  refine ⟨⟨xs, v, q, e1⟩, fun x H3 y => ?_⟩
  obtain ⟨rfl, y⟩ := y
  have z := y xs q
  rw [e1] at z
  cases z
  exact ⟨G2, Gr.refl s2, e2.up s1⟩
theorem di_list (h : DE X Γ e (.list ds)) : PID X tg Γ e ds := PI_imp (pi_list h) fun σ H R ⟨G, env, k⟩ => ⟨G, env, fun G1 H1 v g q => by
  obtain ⟨a, xs, rfl, hs, hx⟩ := q.listE
  exact ⟨a, rfl, ⟨xs, g.s.seq hs⟩, k G1 H1 _ g (wk_list hs hx)⟩⟩
theorem wk_tup {K : PySem.W.Frag} {G : Hp} {a : Addr} {xs : List V} (hs : SqT K G a xs) (hx : DqAll K G xs ds) : WkD K (Itt K a) ds G := fun G2 H2 s1 s2 => by
  have q := sqT_mono (s1.trans s2) hs
  refine ⟨fun i d hd => ?_, xs, q, by rw [hx.len]; exact Nat.le_refl _⟩
  obtain ⟨v, e1, e2⟩ := hx.get hd
  refine ⟨⟨xs, v, q, e1⟩, fun x H3 y => ?_⟩
  obtain ⟨rfl, y⟩ := y
  have z := y xs q
  rw [e1] at z
  cases z
  exact ⟨G2, Gr.refl s2, e2.up s1⟩
theorem di_tup (h : DE X Γ e (.tuple ds)) : PID X tg Γ e ds := PI_imp (pi_tup h) fun σ H R ⟨G, env, k⟩ => ⟨G, env, fun G1 H1 v g q => by
  obtain ⟨a, xs, rfl, hs, hx⟩ := q.tupE
  exact ⟨a, rfl, ⟨xs, sqT_mono g.s hs⟩, k G1 H1 _ g (wk_tup hs hx)⟩⟩
/-- the signs of a text -/
def signs (z : Str) : List PyData := z.cps.toList.map fun c => .str ⟨#[c]⟩
theorem di_str {z : Str} (h : DE X Γ e (.str z)) : PID X tg Γ e (signs z) := PI_imp (pi_str h) fun σ H R ⟨G, env, k⟩ => ⟨G, env, fun G1 H1 v g q => ⟨z, q.strE, k G1 H1 _ g fun G2 H2 s1 s2 => by
  refine ⟨fun i d hd => ?_, ?_⟩
  · unfold signs at hd
    rw [List.getElem?_map] at hd
    cases hc : z.cps.toList[i]? with
    | none => rw [hc] at hd; cases hd
    | some c =>
      rw [hc] at hd
      cases hd
      have hc' : z.cps[i]? = some c := by simpa using hc
      refine ⟨?_, fun x H3 y => ?_⟩
      · show i < z.cps.size
        have := (List.getElem?_eq_some_iff.mp hc).1
        simpa using this
      · obtain ⟨rfl, c', e1, rfl⟩ := y
        rw [hc'] at e1
        cases e1
        exact ⟨G2, Gr.refl s2, .str _⟩
  · show z.cps.size ≤ (signs z).length
    unfold signs
    simp⟩⟩
/-- lo, lo + 1, .. -/
def rangeD (lo : Int) (n : Nat) : List PyData := (List.range n).map fun i => .int (lo + (i : Nat))
theorem wk_range {K : PySem.W.Frag} {G : Hp} (lo : Int) (n : Nat) : WkD K (Itr lo n) (rangeD lo n) G := fun G2 H2 s1 s2 => by
  refine ⟨fun i d hd => ?_, ?_⟩
  · unfold rangeD at hd
    rw [List.getElem?_map] at hd
    by_cases hi : i < n
    · rw [List.getElem?_range hi] at hd
      cases hd
      refine ⟨hi, fun x H3 y => ?_⟩
      obtain ⟨rfl, rfl⟩ := y
      exact ⟨G2, Gr.refl s2, .int _⟩
    · rw [List.getElem?_eq_none (by simpa using hi)] at hd
      cases hd
  · show n ≤ (rangeD lo n).length
    unfold rangeD
    simp
theorem di_range1 {a : Expr} {j : Int} (hm : X.mg "range" = none) (ha : DE X Γ a (.int j)) (h1 : -(2 ^ 62) ≤ j) (h2 : j < 2 ^ 62) (hg : Gl X "range" := by rfl) (hs : starEach [a] X.env = [(false, eval a X.env)] := by rfl) : PID X tg Γ (.Call (.Name "range" p) [a] [] pos) (rangeD 0 j.toNat) :=
  PI_imp (pi_range1 hg hm (da_cons ha da_nil hs) hs) fun σ H R ⟨G, env, k⟩ => ⟨G, env, fun G1 H1 vs g q => by
    obtain ⟨v, rfl, q9⟩ := one q
    exact ⟨j, by rw [q9.intE], h1, h2, k G1 H1 _ g (wk_range 0 _)⟩⟩
theorem di_range2 {a b : Expr} {i j : Int} (hm : X.mg "range" = none) (ha : DE X Γ a (.int i)) (hb : DE X Γ b (.int j)) (h1 : -(2 ^ 62) ≤ i ∧ i < 2 ^ 62 ∧ -(2 ^ 62) ≤ j ∧ j < 2 ^ 62) (hg : Gl X "range" := by rfl)
    (hs : starEach [a, b] X.env = [(false, eval a X.env), (false, eval b X.env)] := by rfl) (hs2 : starEach [b] X.env = [(false, eval b X.env)] := by rfl) : PID X tg Γ (.Call (.Name "range" p) [a, b] [] pos) (rangeD i (j - i).toNat) :=
  PI_imp (pi_range2 hg hm (da_cons ha (da_cons hb da_nil hs2) (by rw [hs, hs2])) hs hs2) fun σ H R ⟨G, env, k⟩ => ⟨G, env, fun G1 H1 vs g q => by
    obtain ⟨v, u, rfl, q1, q2⟩ := two q
    exact ⟨i, j, by rw [q1.intE, q2.intE], h1, k G1 H1 _ g (wk_range i _)⟩⟩
def zipD : List PyData → List PyData → List PyData
  | d :: ds, e :: es => .tuple [d, e] :: zipD ds es
  | _, _ => []
theorem zipD_get : ∀ {ds es : List PyData} {i : Nat} {d : PyData}, (zipD ds es)[i]? = some d → ∃ a b, ds[i]? = some a ∧ es[i]? = some b ∧ d = .tuple [a, b]
  | [], _, _, _, h => by simp [zipD] at h
  | _ :: _, [], _, _, h => by simp [zipD] at h
  | a :: ds, b :: es, 0, d, h => by
    simp [zipD] at h
    exact ⟨a, b, rfl, rfl, h.symm⟩
  | a :: ds, b :: es, i + 1, d, h => by
    obtain ⟨x, y, e1, e2, e3⟩ := zipD_get (ds := ds) (es := es) (i := i) (d := d) (by simpa [zipD] using h)
    exact ⟨x, y, by simpa using e1, by simpa using e2, e3⟩
theorem zipD_len : ∀ {ds es : List PyData}, ds.length ≤ (zipD ds es).length ∨ es.length ≤ (zipD ds es).length
  | [], es => .inl (Nat.zero_le _)
  | _ :: _, [] => .inr (Nat.zero_le _)
  | a :: ds, b :: es => by
    rcases zipD_len (ds := ds) (es := es) with h | h
    · exact .inl (Nat.succ_le_succ h)
    · exact .inr (Nat.succ_le_succ h)
theorem di_zip {a b : Expr} {elts : List Expr} {kk : Nat} (hm : X.mg "zip" = none) (ha : DE X Γ a (.list ds)) (hb : DE X Γ b (.list es)) (hg : Gl X "zip" := by rfl)
    (hs : starEach [a, b] X.env = (false, eval a X.env) :: starEach [b] X.env := by rfl) (hs2 : starEach [b] X.env = (false, eval b X.env) :: starEach [] X.env := by rfl) (hpl : (backTo pos (starEach [b] X.env)).any (·.1) = false := by rfl) :
    PID X (.Tuple elts kk tpos) Γ (.Call (.Name "zip" p) [a, b] [] pos) (zipD ds es) :=
  PI_imp (pi_zip hg hm (da_cons ha (da_cons hb da_nil hs2) hs) hs hpl) fun σ H R ⟨G, env, k⟩ => ⟨G, env, fun G1 H1 vs g q => by
    obtain ⟨v, u, rfl, q1, q2⟩ := two q
    obtain ⟨a1, xs, rfl, hs1, hx⟩ := q1.listE
    obtain ⟨a2, ys, rfl, hs2, hy⟩ := q2.listE
    refine ⟨a1, a2, xs, ys, rfl, g.s.seq hs1, g.s.seq hs2, k G1 H1 _ g fun G2 H2 s1 s2 => ?_⟩
    have z1 := (s1.trans s2).seq hs1
    have z2 := (s1.trans s2).seq hs2
    refine ⟨fun i d hd => ?_, xs, ys, z1, z2, by rw [hx.len, hy.len]; exact zipD_len⟩
    obtain ⟨da, db, e1, e2, rfl⟩ := zipD_get hd
    obtain ⟨x, e3, e4⟩ := hx.get e1
    obtain ⟨y, e5, e6⟩ := hy.get e2
    refine ⟨⟨xs, ys, x, y, z1, z2, e3, e5⟩, fun w H3 q => ?_⟩
    obtain ⟨T, x', y', rfl, hT, rfl, w1, w2⟩ := q
    have w1 := w1 xs z1
    have w2 := w2 ys z2
    rw [e3] at w1
    rw [e5] at w2
    cases w1
    cases w2
    have gn := Gr.new (o := .tup [x, y]) s2 hT
    exact ⟨_, gn, .tup (.inl (.inl upd_same)) (.cons (e4.up (s1.trans gn.g)) (.cons (e6.up (s1.trans gn.g)) .nil))⟩⟩
end

/-! ### targets -/
def wipeS (Γ : List SD) : List Nat → List SD
  | [] => Γ
  | v :: vs => (wipeS Γ vs).set v .un
theorem EnvD.wipe {K : PySem.W.Frag} {G H : Hp} {Γ : List SD} {σ : L2.St} (h : EnvD K G H Γ σ) : ∀ vs : List Nat, EnvD K G H (wipeS Γ vs) (L2.wipe σ vs)
  | [] => h
  | v :: vs => (EnvD.wipe h vs).un v
theorem none_comm (σ : L2.St) (i j : Nat) : (σ.set i none).set j none = (σ.set j none).set i none := by
  by_cases h : i = j
  · subst h; rfl
  · rw [List.set_comm _ _ h]
theorem wipe_none (σ : L2.St) (i : Nat) : ∀ vs : List Nat, L2.wipe (σ.set i none) vs = (L2.wipe σ vs).set i none
  | [] => rfl
  | v :: vs => by
    show (L2.wipe (σ.set i none) vs).set v none = ((L2.wipe σ vs).set v none).set i none
    rw [wipe_none σ i vs, none_comm]
theorem wipe_idem (σ : L2.St) : ∀ vs : List Nat, L2.wipe (L2.wipe σ vs) vs = L2.wipe σ vs
  | [] => rfl
  | v :: vs => by
    show (L2.wipe ((L2.wipe σ vs).set v none) vs).set v none = (L2.wipe σ vs).set v none
    rw [wipe_none, wipe_idem σ vs, List.set_set]
/-- the target's reading: data d is stored, the slots Γ become f d Γ -/
def TgS (K : PySem.W.Frag) (g : TG) (vs : List Nat) (f : PyData → List SD → Option (List SD)) : Prop := ∀ (G H : Hp) (Γ : List SD) (σ : L2.St) (v : V) (d : PyData) (Γ' : List SD) (Q : L2.St → Hp → Prop),
  f d Γ = some Γ' → EnvD K G H Γ σ → Dq K G v d → (∀ σ', L2.wipe σ' vs = L2.wipe σ vs → EnvD K G H Γ' σ' → Q σ' H) → g v σ H Q
def fNm (i : Nat) : PyData → List SD → Option (List SD) := fun d Γ => some (Γ.set i (.dat d))
def fPr (i j : Nat) : PyData → List SD → Option (List SD) := fun d Γ => match d with
  | .tuple [a, b] => some ((Γ.set i (.dat a)).set j (.dat b))
  | _ => none
def fTr (i j k : Nat) : PyData → List SD → Option (List SD) := fun d Γ => match d with
  | .tuple [a, b, c] => some (((Γ.set i (.dat a)).set j (.dat b)).set k (.dat c))
  | _ => none
section
variable {K : PySem.W.Frag}
theorem wipe_set (σ : L2.St) (i : Nat) (o : Option V) : L2.wipe (σ.set i o) [i] = L2.wipe σ [i] := by
  show (σ.set i o).set i none = σ.set i none
  rw [List.set_set]
theorem tg_nm (i : Nat) : TgS K (gName i) [i] (fNm i) := fun G H Γ σ v d Γ' Q e env q k => by
  cases e
  exact k _ (wipe_set σ i _) (env.setD i q)
theorem setset (σ : L2.St) (i j : Nat) (a b : Option V) : (((σ.set i a).set j b).set j none).set i none = (σ.set j none).set i none := by
  rw [List.set_set]
  by_cases h : i = j
  · subst h
    rw [List.set_set, List.set_set, List.set_set]
  · rw [List.set_comm _ _ h, List.set_set]
theorem tg_pr (i j : Nat) : TgS K (gTup K 2 (gCons (gName i) (gCons (gName j) gNil))) [i, j] (fPr i j) := fun G H Γ σ v d Γ' Q e env q k => by
  cases d with
  | tuple ds =>
    match ds, e, q with
    | [a, b], e, q =>
      cases e
      obtain ⟨p, xs, rfl, hs, hx⟩ := q.tupE
      cases hx with
      | cons h1 hx => cases hx with
        | cons h2 hx =>
          cases hx
          exact ⟨p, _, rfl, sqT_mono env.s hs, rfl, _, _, rfl, _, _, rfl, rfl, k _ (setset σ i j _ _) ((env.setD i h1).setD j h2)⟩
  | _ => cases e
end
theorem pg_pr {X : Cx} {i j : Nat} {x y : Str} {px py tp : Pos} {kk : Nat} (hc : X.calm = true) (hN : X.N.Nodup) (hi : X.N[i]? = some x) (hj : X.N[j]? = some y) (hx : Loc X.env.scope x) (hy : Loc X.env.scope y)
    (hf : X.fn x = true ∨ X.env.scope.names.lookup x = some .local) (hf' : X.fn y = true ∨ X.env.scope.names.lookup y = some .local)
    (hn : (assignEach [.Name x px, .Name y py] X.env).length = 2 := by rfl) (hst : (assignEach [.Name x px, .Name y py] X.env).findIdx? (·.1) = none := by rfl)
    (hs : (assignEach [.Name x px, .Name y py] X.env).map (·.2) = assign (.Name x px) X.env :: (assignEach [.Name y py] X.env).map (·.2) := by rfl) (hs2 : (assignEach [.Name y py] X.env).map (·.2) = assign (.Name y py) X.env :: (assignEach [] X.env).map (·.2) := by rfl) :
    PG X (.Tuple [.Name x px, .Name y py] kk tp) (gTup X.K 2 (gCons (gName i) (gCons (gName j) gNil))) :=
  pg_tup hc (pgs_cons (pg_name hN hi hx hf) (pgs_cons (pg_name hN hj hy hf') pgs_nil hs2) hs) hn hst

/-! ### comprehensions -/
/-- the element, in the comprehension's block -/
def EltD (X : Cx) (scope : Scope) (elt : Expr) (Γ : List SD) (d : PyData) : Prop := ∀ (s : Shared) (H : Hp) (C : Addr) (cl : List (Str × Addr)) (fp : List Addr), DE (X.blk s H scope (compEnvC scope cl C X.env) fp) Γ elt d
def tElt (X : Cx) (scope : Scope) (elt : Expr) : TE := fun σ H Q => ∃ p : List SD × PyData, EltD X scope elt p.1 p.2 ∧ tD X.K p.1 p.2 σ H Q
section
variable {X : Cx} {Γ : List SD} {elt tg iter : Expr} {scope : Scope} {own : List (Str × Nat)} {f : PyData → List SD → Option (List SD)} {g : TG} {ds es : List PyData} {pos : Pos}
theorem tLc_M {K : PySem.W.Frag} {vs : List Nat} {te : TE} {σ : L2.St} {H : Hp} {Q : VK} (ht : TgS K g vs f) (hl : es.length = ds.length) (hn : ds.length ≤ 100000)
    (he : ∀ (i : Nat) d e, ds[i]? = some d → es[i]? = some e → ∃ Γ2, f d (wipeS Γ vs) = some Γ2 ∧ ∀ σ H Q, tD K Γ2 e σ H Q → te σ H Q) (h : ∃ G, EnvD K G H Γ σ ∧ ∀ G' H' D acc, Gr G H G' H' → H D = none → G' D = none → H' D = some (.lst acc) → DqAll K G' acc es → Q (.ref D) H') : tLc (tDI K Γ ds) g tYes te vs σ H Q := by
  obtain ⟨G, env, k⟩ := h
  refine ⟨G, env, fun G1 H1 J g1 wk D hD => ?_⟩
  have env1 := env.up g1
  refine ⟨fun i m H2 => m = ds.length - i ∧ i ≤ ds.length ∧ ∃ G2 acc, Gr G1 H1 G2 H2 ∧ G2 D = none ∧ H2 D = some (.lst acc) ∧ DqAll K G2 acc (es.take i), ⟨ds.length, rfl, Nat.zero_le _, G1, [], Gr.tmp g1.s hD, g1.s.free hD, upd_same, .nil⟩, ?_⟩
  rintro i m H2 ⟨rfl, hi, G2, acc, g2, hG, hH, ha⟩
  obtain ⟨w1, w2⟩ := wk G2 H2 g2.g g2.s
  by_cases hlt : i < ds.length
  · have hd : ds[i]? = some ds[i] := List.getElem?_eq_getElem hlt
    have hie : i < es.length := by omega
    have hse : es[i]? = some es[i] := List.getElem?_eq_getElem hie
    obtain ⟨go, yl⟩ := w1 i _ hd
    obtain ⟨Γ2, hf, hte⟩ := he i _ _ hd hse
    refine .inr ⟨go, fun H' => ∃ G2 acc, Gr G1 H1 G2 H' ∧ G2 D = none ∧ H' D = some (.lst acc) ∧ DqAll K G2 acc (es.take (i + 1)), fun H' q => ⟨ds.length - (i + 1), by omega, rfl, hlt, q⟩, fun x H3 y => ?_⟩
    obtain ⟨G3, g3, qx⟩ := yl x H3 y
    have env3 := ((env1.up g2).up g3).wipe vs
    refine ht G3 H3 _ _ x _ Γ2 _ hf env3 qx fun σ2 hw env4 => ⟨hw.trans ?_, ?_⟩
    · exact wipe_idem σ vs
    · refine hte σ2 H3 _ ⟨G3, env4, fun G4 H4 y g4 qy => ?_⟩
      have h4D : H4 D = some (.lst acc) := g4.h _ _ (g3.h _ _ hH)
      have g4D : G4 D = none := g4.fr _ _ (g3.h _ _ hH) (g3.fr _ _ hH hG)
      have gg := (g2.trans g3).trans g4
      have la : acc.length = i := by rw [ha.len, List.length_take]; omega
      refine ⟨acc, h4D, by rw [la]; exact Nat.lt_of_lt_of_le hlt (Nat.le_trans hn (by decide)), G4, acc ++ [y], ⟨gg.g, same_upd gg.h hD, same_upd gg.s g4D, gg.fr⟩, g4D, upd_same, ?_⟩
      have e2 : es.take (i + 1) = es.take i ++ [es[i]] := by rw [List.take_succ, hse]; rfl
      rw [e2]
      exact (ha.up (g3.g.trans g4.g)).app (.one qy)
  · have e : i = ds.length := by omega
    subst e
    rw [List.take_of_length_le (by omega)] at ha
    exact .inl ⟨w2, k _ _ _ _ (g1.trans g2) (Same.free g1.h hD) hG hH ha⟩
theorem tLc_D {K : PySem.W.Frag} {vs : List Nat} {te : TE} {σ : L2.St} {H : Hp} {Q : VK} (ht : TgS K g vs f) (hl : es.length = ds.length) (hn : ds.length ≤ 100000)
    (he : ∀ (i : Nat) d e, ds[i]? = some d → es[i]? = some e → ∃ Γ2, f d (wipeS Γ vs) = some Γ2 ∧ ∀ σ H Q, tD K Γ2 e σ H Q → te σ H Q) (h : tD K Γ (.list es) σ H Q) : tLc (tDI K Γ ds) g tYes te vs σ H Q := by
  obtain ⟨G, env, k⟩ := h
  refine tLc_M ht hl hn he ⟨G, env, fun G' H' D acc gr h1 h2 h3 h4 => ?_⟩
  obtain ⟨t1, t2⟩ := Gr.take gr.s h3 h2
  refine k _ _ _ ⟨gr.g.trans t1, gr.h, t2, fun a o z1 z2 => ?_⟩ (.lst upd_same (h4.up t1))
  rw [upd_ne (ne_of_none z1 h1)]
  exact gr.fr a o z1 z2
/-- [elt for tg in iter] -/
theorem d_lc (hi : PID X tg Γ iter ds) (ok : BlkOk X.N X.env.scope scope own) (hg : ∀ (s : Shared) (H : Hp) (C : Addr) (cl : List (Str × Addr)) (fp : List Addr), PG (X.blk s H scope (compEnvC scope cl C X.env) fp) tg g) (ht : TgS X.K g (own.map (·.2)) f)
    (hl : es.length = ds.length) (hn : ds.length ≤ 100000) (he : ∀ (i : Nat) d e, ds[i]? = some d → es[i]? = some e → ∃ Γ2, f d (wipeS Γ (own.map (·.2))) = some Γ2 ∧ EltD X scope elt Γ2 e) (hN : X.N.Nodup) (hc : X.calm = true := by rfl)
    (hs : ∀ x, foldedSetIterable iter X.env x = pure x := by intro _; rfl) : DE X Γ (.ListComp elt [⟨tg, iter, [], 0⟩] scope pos) (.list es) :=
  (pe_lc hc hN hi ok hg (fun _ _ _ _ _ => pts_nil) (te := tElt X scope elt) (fun s H C cl fp => PE.ex (R := fun p : List SD × PyData => EltD X scope elt p.1 p.2) (t := fun p => tD X.K p.1 p.2) fun p hp => hp s H C cl fp) hs).imp fun σ H Q h =>
    tLc_D ht hl hn (fun i d e h1 h2 => let ⟨Γ2, a, b⟩ := he i d e h1 h2; ⟨Γ2, a, fun σ H Q q => ⟨(Γ2, e), b, q⟩⟩) h
end

/-! ### statements -/
structure St0 (K : PySem.W.Frag) (G0 H0 G H : Hp) (Γ : List SD) (σ : L2.St) : Prop where
  gr : Gr G0 H0 G H
  nw : ∀ (i : Nat) c l, Γ[i]? = some c → c.ad l → H0 l = none
  env : EnvD K G H Γ σ
structure Po where
  nx : List SD → Prop
  rt : List SD → SD → Prop
  bk : List SD → Prop := fun _ => False
  ct : List SD → Prop := fun _ => False
/-- the ends, behind the pool G -/
structure EndsOk (K : PySem.W.Frag) (P : Po) (D : Ends) (G0 H0 G : Hp) : Prop where
  nx : ∀ G' H' Γ' σ', P.nx Γ' → Same G G' → St0 K G0 H0 G' H' Γ' σ' → D.nx σ' H'
  rt : ∀ G' H' Γ' σ' c v, P.rt Γ' c → Same G G' → St0 K G0 H0 G' H' Γ' σ' → SOk K G' H' c (some v) → (∀ a, c.ad a → H0 a = none ∧ ∀ (i : Nat) e, Γ'[i]? = some e → ¬ e.ad a) → D.rt v H'
  bk : ∀ G' H' Γ' σ', P.bk Γ' → Same G G' → St0 K G0 H0 G' H' Γ' σ' → D.bk σ' H'
  ct : ∀ G' H' Γ' σ', P.ct Γ' → Same G G' → St0 K G0 H0 G' H' Γ' σ' → D.ct σ' H'
theorem EndsOk.up {K : PySem.W.Frag} {P : Po} {D : Ends} {G0 H0 G G2 : Hp} (k : EndsOk K P D G0 H0 G) (e : Same G G2) : EndsOk K P D G0 H0 G2 :=
  ⟨fun G' H' Γ' σ' n e2 => k.nx G' H' Γ' σ' n (e.trans e2), fun G' H' Γ' σ' c v n e2 => k.rt G' H' Γ' σ' c v n (e.trans e2), fun G' H' Γ' σ' n e2 => k.bk G' H' Γ' σ' n (e.trans e2), fun G' H' Γ' σ' n e2 => k.ct G' H' Γ' σ' n (e.trans e2)⟩
def tDS (K : PySem.W.Frag) (Γ : List SD) (P : Po) : TS := fun D σ H => ∃ G0 H0 G, St0 K G0 H0 G H Γ σ ∧ EndsOk K P D G0 H0 G
abbrev DS (X : Cx) (Γ : List SD) (sts : List Stmt) (P : Po) : Prop := PSs X sts (tDS X.K Γ P)
abbrev DS1 (X : Cx) (Γ : List SD) (st : Stmt) (P : Po) : Prop := PS X st (tDS X.K Γ P)
section
variable {K : PySem.W.Frag} {G0 H0 G H G' H' : Hp} {Γ : List SD} {σ : L2.St}
theorem St0.up (h : St0 K G0 H0 G H Γ σ) (g : Gr G H G' H') : St0 K G0 H0 G' H' Γ σ := ⟨h.gr.trans g, h.nw, h.env.up g⟩
theorem set_at {i j : Nat} {c e : SD} (q : (Γ.set i c)[j]? = some e) : (i = j ∧ e = c) ∨ (i ≠ j ∧ Γ[j]? = some e) := by
  by_cases hj : i = j
  · subst hj
    have hi : i < Γ.length := by
      have z := (List.getElem?_eq_some_iff.mp q).1
      rwa [List.length_set] at z
    rw [List.getElem?_set_self hi] at q
    exact .inl ⟨rfl, (Option.some.inj q).symm⟩
  · rw [List.getElem?_set_ne hj] at q
    exact .inr ⟨hj, q⟩
/-- a slot is written -/
theorem St0.put (s : St0 K G0 H0 G H Γ σ) (i : Nat) {v : V} {c : SD} (q : SOk K G H c (some v)) (hn : ∀ a, c.ad a → H0 a = none ∧ ∀ (j : Nat) e, j ≠ i → Γ[j]? = some e → ¬ e.ad a) : St0 K G0 H0 G H (Γ.set i c) (σ.set i (some v)) := by
  refine ⟨s.gr, fun j c2 l e a => ?_, s.env.set i q fun l a j e hj ej => (hn l a).2 j e hj ej⟩
  rcases set_at e with ⟨_, rfl⟩ | ⟨_, e⟩
  · exact (hn l a).1
  · exact s.nw j c2 l e a
theorem St0.setD (h : St0 K G0 H0 G H Γ σ) (i : Nat) {v : V} {d : PyData} (q : Dq K G v d) : St0 K G0 H0 G H (Γ.set i (.dat d)) (σ.set i (some v)) := h.put i ⟨v, rfl, q⟩ fun _ (z : False) => z.elim
/-- a new thing is no slot's -/
theorem St0.none_ad (s : St0 K G0 H0 G H Γ σ) {a : Addr} (h : H a = none) (j : Nat) (e : SD) (ej : Γ[j]? = some e) : ¬ e.ad a := fun z => by
  obtain ⟨o, z1, z2⟩ := s.env.at_ j e ej
  cases e with
  | ml l ds => obtain ⟨w1, w2, vs, w3, w4⟩ := z2; cases z; rw [h] at w3; cases w3
  | md l ds => obtain ⟨w1, w2, vs, w3, w4⟩ := z2; cases z; rw [h] at w3; cases w3
  | rg v cs =>
    obtain ⟨p, m, rfl⟩ := List.mem_map.mp (show a ∈ cs.map (·.1) from z)
    obtain ⟨_, u, w, _⟩ := z2.2.at_ p m
    rw [h] at w
    cases w
  | od Gx d =>
    obtain ⟨o, z⟩ := z
    have := z2.2.1 a o z
    rw [h] at this
    cases this
  | _ => exact z
/-- things of no other slot change -/
theorem St0.stepO (s : St0 K G0 H0 G H Γ σ) {i : Nat} {c c' : SD} (e : Γ[i]? = some c) (Own : Addr → Prop) (hown : ∀ a, Own a → H0 a = none ∧ ∀ (j : Nat) e, i ≠ j → Γ[j]? = some e → ¬ e.ad a)
    (hg : Same G G') (hs : Same G' H') (hH : ∀ a o, H a = some o → ¬ Own a → H' a = some o) (hG : ∀ a o, H a = some o → ¬ Own a → G a = none → G' a = none)
    (own : ∀ a, c'.ad a → c.ad a ∨ Own a ∨ H a = none) (q : ∀ o, σ[i]? = some o → SOk K G H c o → SOk K G' H' c' o) : St0 K G0 H0 G' H' (Γ.set i c') σ := by
  have nc : ∀ {a o}, H0 a = some o → ¬ Own a := fun {a o} z w => by
    rw [(hown a w).1] at z
    cases z
  have own2 : ∀ {a}, c'.ad a → H0 a = none ∧ ∀ (j : Nat) e, i ≠ j → Γ[j]? = some e → ¬ e.ad a := fun {a} z => by
    rcases own a z with w | w | w
    · exact ⟨s.nw i c a e w, fun j e2 hj ej w2 => hj (s.env.nd i j c e2 a e ej w w2)⟩
    · exact hown a w
    · exact ⟨s.gr.h.free w, fun j e2 hj ej => s.none_ad w j e2 ej⟩
  refine ⟨⟨s.gr.g.trans hg, fun a o z => hH a o (s.gr.h a o z) (nc z), hs, fun a o z1 z2 => hG a o (s.gr.h a o z1) (nc z1) (s.gr.fr a o z1 z2)⟩, fun j c2 l ej a => ?_, hs, by rw [List.length_set]; exact s.env.len, fun j c2 ej => ?_, fun j k c2 c3 l q1 q2 a1 a2 => ?_⟩
  · rcases set_at ej with ⟨_, rfl⟩ | ⟨_, ej⟩
    · exact (own2 a).1
    · exact s.nw j c2 l ej a
  · rcases set_at ej with ⟨hj, rfl⟩ | ⟨hj, ej⟩
    · subst hj
      obtain ⟨o, z1, z2⟩ := s.env.at_ i c e
      exact ⟨o, z1, q o z1 z2⟩
    · obtain ⟨o, z1, z2⟩ := s.env.at_ j c2 ej
      have na : ∀ a, c2.ad a → ¬ Own a := fun a w w2 => (hown a w2).2 j c2 hj ej w
      exact ⟨o, z1, z2.keep hg (fun a o w z => hH a o z (na a w)) fun a o w z => hG a o z (na a w)⟩
  · rcases set_at q1 with ⟨hj, rfl⟩ | ⟨hj, q1⟩ <;> rcases set_at q2 with ⟨hk, e2⟩ | ⟨hk, q2⟩
    · exact hj.symm.trans hk
    · exact absurd a2 ((own2 a1).2 k c3 hk q2)
    · rw [e2] at a2
      exact absurd a1 ((own2 a2).2 j c2 hj q1)
    · exact s.env.nd j k c2 c3 l q1 q2 a1 a2
/-- the things behind a slot change -/
theorem St0.step (s : St0 K G0 H0 G H Γ σ) {i : Nat} {c c' : SD} (e : Γ[i]? = some c) (hg : Same G G') (hs : Same G' H') (hH : ∀ a o, H a = some o → ¬ c.ad a → H' a = some o) (hG : ∀ a o, H a = some o → ¬ c.ad a → G a = none → G' a = none)
    (own : ∀ a, c'.ad a → c.ad a ∨ H a = none) (q : ∀ o, σ[i]? = some o → SOk K G H c o → SOk K G' H' c' o) : St0 K G0 H0 G' H' (Γ.set i c') σ :=
  s.stepO e c.ad (fun a w => ⟨s.nw i c a e w, fun j e2 hj ej w2 => hj (s.env.nd i j c e2 a e ej w w2)⟩) hg hs hH hG (fun a z => (own a z).elim .inl fun w => .inr (.inr w)) q
/-- a target's slots -/
theorem St0.tg {g : TG} {vs : List Nat} {f : PyData → List SD → Option (List SD)} (ht : TgS K g vs f) (hf : ∀ d Γ Γ', f d Γ = some Γ' → ∀ (j : Nat) c l, Γ'[j]? = some c → c.ad l → ∃ i : Nat, Γ[i]? = some c) {d : PyData} {v : V} {Γ' : List SD} {Q : L2.St → Hp → Prop}
    (h : St0 K G0 H0 G H Γ σ) (e : f d Γ = some Γ') (q : Dq K G v d) (k : ∀ σ', St0 K G0 H0 G H Γ' σ' → Q σ' H) : g v σ H Q :=
  ht G H Γ σ v d Γ' Q e h.env q fun σ' _ env => k σ' ⟨h.gr, fun j c l e1 a => let ⟨i, e2⟩ := hf d Γ Γ' e j c l e1 a; h.nw i c l e2 a, env⟩
/-- what is one's own stands still from now on -/
theorem St0.still (h : St0 K G0 H0 G H Γ σ) {i : Nat} {l : Addr} {u : HO} {c c' : SD} (e : Γ[i]? = some c) (ad : c.ad l) (ad' : ∀ a, ¬ c'.ad a) (hG : G l = none) (hH : H l = some u) (new : Same G (upd G l u) → SOk K (upd G l u) H c' (σ[i]?.getD none)) :
    ∃ G', Same G G' ∧ St0 K G0 H0 G' H (Γ.set i c') σ := by
  obtain ⟨t1, t2⟩ := Gr.take h.env.s hH hG
  refine ⟨_, t1, h.step e t1 t2 (fun _ _ z _ => z) (fun a o z n w => ?_) (fun a z => (ad' a z).elim) fun o z _ => ?_⟩
  · rw [upd_ne (fun q : a = l => n (by rw [q]; exact ad))]
    exact w
  · have := new t1
    rw [z] at this
    exact this
/-- a local list becomes data -/
theorem St0.freeze (h : St0 K G0 H0 G H Γ σ) {i : Nat} {l : Addr} {ds : List PyData} (e : Γ[i]? = some (.ml l ds)) : ∃ G', Same G G' ∧ St0 K G0 H0 G' H (Γ.set i (.dat (.list ds))) σ := by
  obtain ⟨o, e1, e2, hG, vs, hH, ha⟩ := h.env.at_ i _ e
  subst e2
  refine h.still e rfl (fun _ z => z) hG hH fun t1 => ?_
  rw [e1]
  exact ⟨_, rfl, .lst upd_same (ha.up t1)⟩
theorem St0.freezeD (h : St0 K G0 H0 G H Γ σ) {i : Nat} {l : Addr} {kvs : List (Key × PyData)} (e : Γ[i]? = some (.md l kvs)) : ∃ G', Same G G' ∧ St0 K G0 H0 G' H (Γ.set i (.dg l kvs)) σ := by
  obtain ⟨o, e1, e2, hG, vs, hH, ha⟩ := h.env.at_ i _ e
  subst e2
  refine h.still e rfl (fun _ z => z) hG hH fun t1 => ?_
  rw [e1]
  exact ⟨rfl, _, upd_same, KvD.up ha t1⟩
end
theorem nm_ad (i : Nat) : ∀ d Γ Γ', fNm i d Γ = some Γ' → ∀ (j : Nat) c l, Γ'[j]? = some c → c.ad l → ∃ i : Nat, Γ[i]? = some c := fun d Γ Γ' e j c l ej a => by
  cases e
  rcases set_at ej with ⟨_, rfl⟩ | ⟨_, ej⟩
  · exact (show False from a).elim
  · exact ⟨j, ej⟩
theorem pr_ad (i j : Nat) : ∀ d Γ Γ', fPr i j d Γ = some Γ' → ∀ (k : Nat) c l, Γ'[k]? = some c → c.ad l → ∃ i : Nat, Γ[i]? = some c := fun d Γ Γ' e k c l ek a => by
  cases d with
  | tuple ds =>
    match ds, e with
    | [x, y], e =>
      cases e
      obtain ⟨i2, e2⟩ := nm_ad j y _ _ rfl k c l ek a
      exact nm_ad i x _ _ rfl i2 c l e2 a
  | _ => cases e
section
variable {X : Cx} {Γ : List SD} {P : Po} {rest body : List Stmt} {st : Stmt} {e c : Expr} {d : PyData} {pos pos' : Pos}
theorem ds_nil (h : P.nx Γ) : DS X Γ [] P := pss_nil.imp fun D σ H ⟨G0, H0, G, s, k⟩ => k.nx G H Γ σ h (Same.refl _) s
theorem ds_seq {N : List SD → Prop} (h : DS1 X Γ st { P with nx := N }) (h2 : ∀ Γ', N Γ' → DS X Γ' rest P) : DS X Γ (st :: rest) P :=
  (pss_cons h (PSs.ex (R := N) (t := fun Γ' => tDS X.K Γ' P) h2)).imp fun D σ H ⟨G0, H0, G, s, k⟩ => ⟨G0, H0, G, s, ⟨fun G' H' Γ' σ' n e s' => ⟨Γ', n, G0, H0, G', s', k.up e⟩, k.rt, k.bk, k.ct⟩⟩
/-- a statement by its own reading -/
theorem ds_raw {t : TS} {N : List SD → Prop} (h : PS X st t) (w : ∀ G0 H0 G H σ D, St0 X.K G0 H0 G H Γ σ → (∀ G' H' Γ' σ', N Γ' → Same G G' → St0 X.K G0 H0 G' H' Γ' σ' → D.nx σ' H') → t D σ H) (h2 : ∀ Γ', N Γ' → DS X Γ' rest P) : DS X Γ (st :: rest) P :=
  ds_seq (N := N) (h.imp fun D σ H ⟨G0, H0, G, s, k⟩ => w G0 H0 G H σ D s k.nx) h2
/-- weaker ends -/
theorem ds_imp {P' : Po} (h : DS X Γ rest P') (h1 : ∀ Γ, P'.nx Γ → P.nx Γ) (h2 : ∀ Γ d, P'.rt Γ d → P.rt Γ d) (h3 : ∀ Γ, P'.bk Γ → P.bk Γ) (h4 : ∀ Γ, P'.ct Γ → P.ct Γ) : DS X Γ rest P :=
  PSs.imp h fun D σ H ⟨G0, H0, G, s, k⟩ => ⟨G0, H0, G, s, ⟨fun G' H' Γ' σ' n s' => k.nx G' H' Γ' σ' (h1 _ n) s', fun G' H' Γ' σ' c v r => k.rt G' H' Γ' σ' c v (h2 _ _ r), fun G' H' Γ' σ' n s' => k.bk G' H' Γ' σ' (h3 _ n) s', fun G' H' Γ' σ' n s' => k.ct G' H' Γ' σ' (h4 _ n) s'⟩⟩
/-- more is known of the slots -/
theorem ds_as {Γ' : List SD} (h : DS X Γ' rest P) (w : ∀ G0 H0 G H σ, St0 X.K G0 H0 G H Γ σ → ∃ G', Same G G' ∧ St0 X.K G0 H0 G' H Γ' σ) : DS X Γ rest P :=
  PSs.imp h fun D σ H ⟨G0, H0, G, s, k⟩ => let ⟨G', e', s'⟩ := w G0 H0 G H σ s; ⟨G0, H0, G', s', k.up e'⟩
theorem d1_set (i : Nat) {x : Str} (h : DE X Γ e d) (hn : P.nx (Γ.set i (.dat d))) (hN : X.N.Nodup) (hi : X.N[i]? = some x := by rfl) (hx : Loc X.env.scope x := by first | exact .inl rfl | exact .inr rfl)
    (hs : swapsWith e (some (.Name x pos')) pos.line X.env = pure false := by rfl) (hf : X.fn x = true ∨ X.env.scope.names.lookup x = some .local := by first | exact .inl rfl | exact .inr rfl) : DS1 X Γ (.Assign [.Name x pos'] e pos) P :=
  (ps_set (i := i) hN hi hx h hs hf).imp fun D σ H ⟨G0, H0, G, s, k⟩ => ⟨G, s.env, fun G' H' v g q => k.nx G' H' _ _ hn g.g ((s.up g).setD i q)⟩
/-- x = e -/
theorem ds_set (i : Nat) {x : Str} (h : DE X Γ e d) (hr : DS X (Γ.set i (.dat d)) rest P) (hN : X.N.Nodup) (hi : X.N[i]? = some x := by rfl) (hx : Loc X.env.scope x := by first | exact .inl rfl | exact .inr rfl)
    (hs : swapsWith e (some (.Name x pos')) pos.line X.env = pure false := by rfl) (hf : X.fn x = true ∨ X.env.scope.names.lookup x = some .local := by first | exact .inl rfl | exact .inr rfl) : DS X Γ (.Assign [.Name x pos'] e pos :: rest) P :=
  ds_seq (N := (· = Γ.set i (.dat d))) (d1_set i h rfl hN hi hx hs hf) fun _ e => e ▸ hr
/-- an expression that is dropped -/
theorem ds_expr (h : DE X Γ e d) (hr : DS X Γ rest P) (hs : swapsWith e none pos.line X.env = pure false := by rfl) : DS X Γ (.Expr e pos :: rest) P :=
  ds_seq (N := (· = Γ)) ((ps_expr h hs).imp fun D σ H ⟨G0, H0, G, s, k⟩ => ⟨G, s.env, fun G' H' v g q => k.nx G' H' Γ _ rfl g.g (s.up g)⟩) fun _ e => e ▸ hr
/-- return e -/
theorem ds_ret (h : DE X Γ e d) (hr : P.rt Γ (.dat d)) : DS X Γ (.Return (some e) pos :: rest) P :=
  (pss_cons (ps_ret h) pss_never).imp fun D σ H ⟨G0, H0, G, s, k⟩ => ⟨G, s.env, fun G' H' v g q => k.rt G' H' Γ σ _ v hr g.g (s.up g) ⟨v, rfl, q⟩ fun _ (z : False) => z.elim⟩
theorem ds_retN (hr : P.rt Γ (.dat .none)) : DS X Γ (.Return none pos :: rest) P :=
  (pss_cons ps_retN pss_never).imp fun D σ H ⟨G0, H0, G, s, k⟩ => k.rt G H Γ σ _ .non hr (Same.refl _) s ⟨_, rfl, .non⟩ fun _ (z : False) => z.elim
theorem ds_ifT {a b : List Stmt} (hc : DT X Γ c true) (ha : DS X Γ a { P with nx := fun Γ' => DS X Γ' rest P }) : DS X Γ (.If c a b pos :: rest) P :=
  ds_seq (N := fun Γ' => DS X Γ' rest P) ((ps_if hc ha pss_never).imp fun D σ H ⟨G0, H0, G, s, k⟩ => ⟨G, s.env, fun G' H' g => iteT ⟨G0, H0, G', s.up g, k.up g.g⟩⟩) fun _ h => h
theorem ds_ifF {a b : List Stmt} (hc : DT X Γ c false) (hb : DS X Γ b { P with nx := fun Γ' => DS X Γ' rest P }) : DS X Γ (.If c a b pos :: rest) P :=
  ds_seq (N := fun Γ' => DS X Γ' rest P) ((ps_if hc pss_never hb).imp fun D σ H ⟨G0, H0, G, s, k⟩ => ⟨G, s.env, fun G' H' g => iteF ⟨G0, H0, G', s.up g, k.up g.g⟩⟩) fun _ h => h
/-- if without an else, not taken -/
theorem ds_skip {a : List Stmt} (hc : DT X Γ c false) (hr : DS X Γ rest P) : DS X Γ (.If c a [] pos :: rest) P := ds_ifF hc (ds_nil hr)
theorem ds_if {a b : List Stmt} {t : Bool} (hc : DT X Γ c t) (ha : t = true → DS X Γ a { P with nx := fun Γ' => DS X Γ' rest P }) (hb : t = false → DS X Γ b { P with nx := fun Γ' => DS X Γ' rest P }) : DS X Γ (.If c a b pos :: rest) P := by
  cases t with
  | true => exact ds_ifT hc (ha rfl)
  | false => exact ds_ifF hc (hb rfl)
theorem ds_pass (hr : DS X Γ rest P) : DS X Γ (.Pass pos :: rest) P :=
  ds_seq (N := (· = Γ)) (ps_pass.imp fun D σ H ⟨G0, H0, G, s, k⟩ => k.nx G H Γ σ rfl (Same.refl _) s) fun _ e => e ▸ hr
theorem ds_break (h : P.bk Γ) : DS X Γ (.Break pos :: rest) P := (pss_cons ps_break pss_never).imp fun D σ H ⟨G0, H0, G, s, k⟩ => k.bk G H Γ σ h (Same.refl _) s
theorem ds_cont (h : P.ct Γ) : DS X Γ (.Continue pos :: rest) P := (pss_cons ps_continue pss_never).imp fun D σ H ⟨G0, H0, G, s, k⟩ => k.ct G H Γ σ h (Same.refl _) s
theorem ds_freeze (i : Nat) {l : Addr} {ds : List PyData} (h : DS X (Γ.set i (.dat (.list ds))) rest P) (e : Γ[i]? = some (.ml l ds) := by rfl) : DS X Γ rest P := ds_as h fun G0 H0 G H σ s => s.freeze e
theorem ds_freezeD (i : Nat) {l : Addr} {kvs : List (Key × PyData)} (h : DS X (Γ.set i (.dg l kvs)) rest P) (e : Γ[i]? = some (.md l kvs) := by rfl) : DS X Γ rest P := ds_as h fun G0 H0 G H σ s => s.freezeD e
/-- target = e, any target -/
theorem ds_asg {tg : Expr} {g : TG} {vs : List Nat} {f : PyData → List SD → Option (List SD)} {Γ' : List SD} (he : DE X Γ e d) (hg : PG X tg g) (ht : TgS X.K g vs f) (hf : ∀ d Γ Γ', f d Γ = some Γ' → ∀ (j : Nat) c l, Γ'[j]? = some c → c.ad l → ∃ i : Nat, Γ[i]? = some c)
    (hd : f d Γ = some Γ') (hr : DS X Γ' rest P) (hs : swapsWithSole [tg] e pos.line X.env = pure false := by rfl) (hw : swappedStores [tg] e X.env = pure none := by rfl)
    (h1 : (assignEach [tg] X.env).map (·.2) = [assign tg X.env] := by rfl) : DS X Γ (.Assign [tg] e pos :: rest) P :=
  ds_seq (N := (· = Γ')) ((ps_asg he hg hs hw h1).imp fun D σ H ⟨G0, H0, G, s, k⟩ => ⟨G, s.env, fun G' H' v gr q => (s.up gr).tg ht hf hd q fun σ' s' => k.nx G' H' Γ' σ' rfl gr.g s'⟩) fun _ e => e ▸ hr
/-- x = [elt for ..] -/
theorem ds_setLc (i : Nat) {y : Str} {py : Pos} {elt tg iter : Expr} {scope : Scope} {own : List (Str × Nat)} {f : PyData → List SD → Option (List SD)} {g : TG} {ds es : List PyData} {spos : Pos} (hi : PID X tg Γ iter ds) (ok : BlkOk X.N X.env.scope scope own) (hg : ∀ (s : Shared) (H : Hp) (C : Addr) (cl : List (Str × Addr)) (fp : List Addr), PG (X.blk s H scope (compEnvC scope cl C X.env) fp) tg g) (ht : TgS X.K g (own.map (·.2)) f)
    (hl : es.length = ds.length) (hn : ds.length ≤ 100000) (he : ∀ (i : Nat) d e, ds[i]? = some d → es[i]? = some e → ∃ Γ2, f d (wipeS Γ (own.map (·.2))) = some Γ2 ∧ EltD X scope elt Γ2 e) (hr : DS X (Γ.set i (.dat (.list es))) rest P) (hN : X.N.Nodup) (hc : X.calm = true := by rfl)
    (hy : X.N[i]? = some y := by rfl) (hyl : X.env.scope.names.lookup y = some .local := by rfl) (hsw : swapsWith (.ListComp elt [⟨tg, iter, [], 0⟩] scope pos) (some (.Name y py)) spos.line X.env = pure true := by exact sw_true rfl rfl rfl (by decide +kernel)) (hs : ∀ x, foldedSetIterable iter X.env x = pure x := by intro _; rfl) :
    DS X Γ (.Assign [.Name y py] (.ListComp elt [⟨tg, iter, [], 0⟩] scope pos) spos :: rest) P :=
  ds_seq (N := (· = Γ.set i (.dat (.list es)))) ((ps_setLc (i := i) hc hN hy hyl hsw hi ok hg (fun _ _ _ _ _ => pts_nil) (te := tElt X scope elt) (fun s H C cl fp => PE.ex (R := fun p : List SD × PyData => EltD X scope elt p.1 p.2) (t := fun p => tD X.K p.1 p.2) fun p hp => hp s H C cl fp) hs).imp fun D σ H ⟨G0, H0, G, s, k⟩ =>
    tLc_D ht hl hn (fun i d e h1 h2 => let ⟨Γ2, a, b⟩ := he i d e h1 h2; ⟨Γ2, a, fun σ H Q q => ⟨(Γ2, e), b, q⟩⟩) ⟨G, s.env, fun G' H' v g q => k.nx G' H' _ _ rfl g.g ((s.up g).setD i q)⟩) fun _ e => e ▸ hr
end
end SJ
set_option maxRecDepth 100000
set_option maxHeartbeats 4000000
/-! D4: loops, local lists and dicts that grow, defs, by data. -/
namespace SJ
open PySem PySem.Spec PyProof.Rows L2

section
variable {X : Cx} {Γ : List SD} {P : Po} {rest body : List Stmt} {tg iter e c : Expr} {d : PyData} {ds : List PyData} {pos pos' apos : Pos} {g : TG} {vs : List Nat} {f : PyData → List SD → Option (List SD)}
/-- a block that is read for any slots and ends which are shown for it -/
def tBlk (X : Cx) (sts : List Stmt) : TS := fun D σ H => ∃ p : List SD × Po, DS X p.1 sts p.2 ∧ tDS X.K p.1 p.2 D σ H
theorem pss_blk {sts : List Stmt} : PSs X sts (tBlk X sts) := PSs.ex (R := fun p : List SD × Po => DS X p.1 sts p.2) (t := fun p => tDS X.K p.1 p.2) fun _ h => h
/-- for tg in iter: body -/
theorem ds_for (Inv : Nat → List SD → Prop) (hi : PID X tg Γ iter ds) (hg : PG X tg g) (ht : TgS X.K g vs f) (hf : ∀ d Γ Γ', f d Γ = some Γ' → ∀ (j : Nat) c l, Γ'[j]? = some c → c.ad l → ∃ i : Nat, Γ[i]? = some c)
    (h0 : Inv 0 Γ) (hs : ∀ (i : Nat) d Γ1, ds[i]? = some d → Inv i Γ1 → ∃ Γ2, f d Γ1 = some Γ2 ∧ DS X Γ2 body ⟨Inv (i + 1), P.rt, fun Γ' => DS X Γ' rest P, Inv (i + 1)⟩) (hd : ∀ Γ', Inv ds.length Γ' → DS X Γ' rest P)
    (hp : PassesOwn (model X.prog X.w) X.A X.env X.xe := by exact PassesOwn.never) (hc : X.calm = true := by rfl) (hfs : ∀ x, foldedSetIterable iter X.env x = pure x := by intro _; rfl) : DS X Γ (.For tg iter body [] pos :: rest) P := by
  refine (pss_cons (ps_for hp hc hi hg (pss_blk (sts := body)) hfs) (pss_blk (sts := rest))).imp fun D σ H ⟨G0, H0, G, s, k⟩ => ?_
  refine ⟨G, s.env, fun G1 H1 J g1 wk => ⟨fun i m σ H => m = ds.length - i ∧ i ≤ ds.length ∧ ∃ G2 Γ2, Inv i Γ2 ∧ St0 X.K G0 H0 G2 H Γ2 σ ∧ Same G1 G2, ⟨_, rfl, Nat.zero_le _, G1, Γ, h0, s.up g1, Same.refl _⟩, ?_⟩⟩
  have rest_ : ∀ {Γ' : List SD} {G2 H2 : Hp} {σ2 : L2.St}, DS X Γ' rest P → Same G1 G2 → St0 X.K G0 H0 G2 H2 Γ' σ2 → tBlk X rest D σ2 H2 := fun {Γ' G2 H2 σ2} h sg s2 =>
    ⟨(Γ', P), h, G0, H0, G2, s2, k.up (g1.g.trans sg)⟩
  rintro i m σ2 H2 ⟨rfl, hile, G2, Γ2, iv, s2, sg⟩
  obtain ⟨w1, w2⟩ := wk G2 H2 sg s2.env.s
  by_cases hlt : i < ds.length
  · have hdi : ds[i]? = some ds[i] := List.getElem?_eq_getElem hlt
    obtain ⟨go, yl⟩ := w1 i _ hdi
    obtain ⟨Γ3, e3, hb⟩ := hs i _ Γ2 hdi iv
    refine .inr ⟨go, fun σ' H' => ∃ G3 Γ3, Inv (i + 1) Γ3 ∧ St0 X.K G0 H0 G3 H' Γ3 σ' ∧ Same G1 G3, fun σ' H' q => ⟨ds.length - (i + 1), by omega, rfl, hlt, q⟩, fun x H3 y => ?_⟩
    obtain ⟨G3, g3, qx⟩ := yl x H3 y
    refine (s2.up g3).tg ht hf e3 qx fun σ4 s4 => ?_
    refine ⟨(Γ3, ⟨Inv (i + 1), P.rt, fun Γ' => DS X Γ' rest P, Inv (i + 1)⟩), hb, G0, H0, G3, s4, ⟨?_, (k.up ((g1.g.trans sg).trans g3.g)).rt, ?_, ?_⟩⟩
    · exact fun G' H' Γ' σ' n e s' => ⟨G', Γ', n, s', (sg.trans g3.g).trans e⟩
    · exact fun G' H' Γ' σ' n e s' => rest_ n ((sg.trans g3.g).trans e) s'
    · exact fun G' H' Γ' σ' n e s' => ⟨G', Γ', n, s', (sg.trans g3.g).trans e⟩
  · have e : i = ds.length := by omega
    subst e
    exact .inl ⟨w2, rest_ (hd Γ2 iv) sg s2⟩
/-- for x in iter: body -/
theorem ds_forN (x : Nat) {nm : Str} {np : Pos} (Inv : Nat → List SD → Prop) (hi : PID X (.Name nm np) Γ iter ds)
    (h0 : Inv 0 Γ) (hs : ∀ (i : Nat) d Γ1, ds[i]? = some d → Inv i Γ1 → DS X (Γ1.set x (.dat d)) body ⟨Inv (i + 1), P.rt, fun Γ' => DS X Γ' rest P, Inv (i + 1)⟩) (hd : ∀ Γ', Inv ds.length Γ' → DS X Γ' rest P) (hN : X.N.Nodup)
    (hx : X.N[x]? = some nm := by rfl) (hl : Loc X.env.scope nm := by first | exact .inl rfl | exact .inr rfl) (hfn : X.fn nm = true ∨ X.env.scope.names.lookup nm = some .local := by first | exact .inl rfl | exact .inr rfl)
    (hp : PassesOwn (model X.prog X.w) X.A X.env X.xe := by exact PassesOwn.never) (hc : X.calm = true := by rfl) (hfs : ∀ x, foldedSetIterable iter X.env x = pure x := by intro _; rfl) : DS X Γ (.For (.Name nm np) iter body [] pos :: rest) P :=
  ds_for Inv hi (pg_name hN hx hl hfn) (tg_nm x) (nm_ad x) h0 (fun i d Γ1 e iv => ⟨_, rfl, hs i d Γ1 e iv⟩) hd hp hc hfs
/-- for x, y in iter: body -/
theorem ds_forP (x y : Nat) {nm nm' : Str} {np np' tp : Pos} {kk : Nat} (Inv : Nat → List SD → Prop) (hi : PID X (.Tuple [.Name nm np, .Name nm' np'] kk tp) Γ iter ds)
    (h0 : Inv 0 Γ) (hs : ∀ (i : Nat) d Γ1, ds[i]? = some d → Inv i Γ1 → ∃ a b, d = .tuple [a, b] ∧ DS X ((Γ1.set x (.dat a)).set y (.dat b)) body ⟨Inv (i + 1), P.rt, fun Γ' => DS X Γ' rest P, Inv (i + 1)⟩) (hd : ∀ Γ', Inv ds.length Γ' → DS X Γ' rest P) (hN : X.N.Nodup)
    (hx : X.N[x]? = some nm := by rfl) (hy : X.N[y]? = some nm' := by rfl) (hl : Loc X.env.scope nm := by first | exact .inl rfl | exact .inr rfl) (hl' : Loc X.env.scope nm' := by first | exact .inl rfl | exact .inr rfl)
    (hfn : X.fn nm = true ∨ X.env.scope.names.lookup nm = some .local := by first | exact .inl rfl | exact .inr rfl) (hfn' : X.fn nm' = true ∨ X.env.scope.names.lookup nm' = some .local := by first | exact .inl rfl | exact .inr rfl)
    (hp : PassesOwn (model X.prog X.w) X.A X.env X.xe := by exact PassesOwn.never) (hc : X.calm = true := by rfl) (hfs : ∀ x, foldedSetIterable iter X.env x = pure x := by intro _; rfl)
    (hn : (assignEach [.Name nm np, .Name nm' np'] X.env).length = 2 := by rfl) (hst : (assignEach [.Name nm np, .Name nm' np'] X.env).findIdx? (·.1) = none := by rfl)
    (ha1 : (assignEach [.Name nm np, .Name nm' np'] X.env).map (·.2) = assign (.Name nm np) X.env :: (assignEach [.Name nm' np'] X.env).map (·.2) := by rfl) (ha2 : (assignEach [.Name nm' np'] X.env).map (·.2) = assign (.Name nm' np') X.env :: (assignEach [] X.env).map (·.2) := by rfl) :
    DS X Γ (.For (.Tuple [.Name nm np, .Name nm' np'] kk tp) iter body [] pos :: rest) P :=
  ds_for Inv hi (pg_pr hc hN hx hy hl hl' hfn hfn' hn hst ha1 ha2) (tg_pr x y) (pr_ad x y) h0 (fun i d Γ1 e iv => let ⟨a, b, e2, h⟩ := hs i d Γ1 e iv; ⟨_, by rw [e2]; rfl, h⟩) hd hp hc hfs
/-- while c: body -/
theorem ds_while (Inv : Nat → List SD → Prop) (m0 : Nat) (h0 : Inv m0 Γ) (hs : ∀ m Γ1, Inv m Γ1 → ∃ b, DT X Γ1 c b ∧ (b = true → DS X Γ1 body ⟨fun Γ' => ∃ m', m' < m ∧ Inv m' Γ', P.rt, fun Γ' => DS X Γ' rest P, fun Γ' => ∃ m', m' < m ∧ Inv m' Γ'⟩) ∧ (b = false → DS X Γ1 rest P))
    (hp : PassesOwn (model X.prog X.w) X.A X.env X.xe := by exact PassesOwn.never) : DS X Γ (.While c body [] pos :: rest) P := by
  refine (pss_cons (ps_while hp (PT.ex (R := fun p : List SD × Bool => DT X p.1 c p.2) (t := fun p => tDT X.K p.1 p.2) fun _ h => h) (pss_blk (sts := body))) (pss_blk (sts := rest))).imp fun D σ H ⟨G0, H0, G, s, k⟩ => ?_
  have rest_ : ∀ {Γ' : List SD} {G2 H2 : Hp} {σ2 : L2.St}, DS X Γ' rest P → Same G G2 → St0 X.K G0 H0 G2 H2 Γ' σ2 → tBlk X rest D σ2 H2 := fun {Γ' G2 H2 σ2} h sg s2 =>
    ⟨(Γ', P), h, G0, H0, G2, s2, k.up sg⟩
  refine ⟨fun m σ H => ∃ G2 Γ2, Inv m Γ2 ∧ St0 X.K G0 H0 G2 H Γ2 σ ∧ Same G G2, ⟨m0, G, Γ, h0, s, Same.refl _⟩, fun m σ2 H2 ⟨G2, Γ2, iv, s2, sg⟩ => ?_⟩
  obtain ⟨b, h1, h2, h3⟩ := hs m Γ2 iv
  refine ⟨(Γ2, b), h1, G2, s2.env, fun G3 H3 g3 => ?_⟩
  cases b with
  | true =>
    refine ⟨fun σ' H' => ∃ m', m' < m ∧ ∃ G3 Γ3, Inv m' Γ3 ∧ St0 X.K G0 H0 G3 H' Γ3 σ' ∧ Same G G3, fun σ' H' q => q, (Γ2, _), h2 rfl, G0, H0, G3, s2.up g3, ⟨?_, (k.up (sg.trans g3.g)).rt, ?_, ?_⟩⟩
    · exact fun G' H' Γ' σ' ⟨m', l, n⟩ e s' => ⟨m', l, G', Γ', n, s', (sg.trans g3.g).trans e⟩
    · exact fun G' H' Γ' σ' n e s' => rest_ n ((sg.trans g3.g).trans e) s'
    · exact fun G' H' Γ' σ' ⟨m', l, n⟩ e s' => ⟨m', l, G', Γ', n, s', (sg.trans g3.g).trans e⟩
  | false => exact rest_ (h3 rfl) (sg.trans g3.g) (s2.up g3)

/-! ### local lists -/
/-- a thing of one's own changes -/
theorem St0.mut {K : PySem.W.Frag} {G0 H0 G H : Hp} {σ : L2.St} (s : St0 K G0 H0 G H Γ σ) {i : Nat} {c c' : SD} {l : Addr} {o : HO} (e : Γ[i]? = some c) (a : c.ad l) (a' : ∀ x, c'.ad x → x = l) (hG : G l = none) (eo : σ[i]? = some (some (.ref l))) (q : SOk K G (upd H l o) c' (some (.ref l))) :
    St0 K G0 H0 G (upd H l o) (Γ.set i c') σ := by
  refine s.step e (Same.refl _) (same_upd s.env.s hG) (fun b u z n => ?_) (fun _ _ _ _ z => z) (fun b z => .inl (by rw [a' b z]; exact a)) fun o2 z _ => ?_
  · rw [upd_ne (fun w : b = l => n (by rw [w]; exact a))]
    exact z
  · rw [eo] at z
    cases z
    exact q
/-- a new thing of one's own -/
theorem St0.mkA {K : PySem.W.Frag} {G0 H0 G H : Hp} {σ : L2.St} (s : St0 K G0 H0 G H Γ σ) (i : Nat) {c : SD} {l : Addr} {o : HO} (hl : H l = none) (a : ∀ x, c.ad x → x = l) (q : G l = none → SOk K G (upd H l o) c (some (.ref l))) :
    St0 K G0 H0 G (upd H l o) (Γ.set i c) (σ.set i (some (.ref l))) :=
  (s.up (Gr.tmp (o := o) s.env.s hl)).put i (q (s.env.s.free hl)) fun x z => by
    rw [a x z]
    exact ⟨s.gr.h.free hl, fun j e _ ej => s.none_ad hl j e ej⟩
/-- x = [] -/
theorem ds_newL (i : Nat) {x : Str} {lp : Pos} (hr : ∀ l, DS X (Γ.set i (.ml l [])) rest P) (hN : X.N.Nodup) (hi : X.N[i]? = some x := by rfl) (hx : Loc X.env.scope x := by first | exact .inl rfl | exact .inr rfl)
    (hs : swapsWith (.List [] lp) (some (.Name x pos')) pos.line X.env = pure false := by rfl) (hf : X.fn x = true ∨ X.env.scope.names.lookup x = some .local := by first | exact .inl rfl | exact .inr rfl) : DS X Γ (.Assign [.Name x pos'] (.List [] lp) pos :: rest) P :=
  ds_seq (N := fun Γ' => ∃ l, Γ' = Γ.set i (.ml l [])) ((ps_set (i := i) hN hi hx (pe_lst pa_nil) hs hf).imp fun D σ H ⟨G0, H0, G, s, k⟩ => ⟨Nat.zero_le _, fun l hl => k.nx G _ _ _ ⟨l, rfl⟩ (Same.refl _) (s.mkA i hl (fun _ z => z) fun hG => ⟨rfl, hG, [], upd_same, .nil⟩)⟩) fun _ ⟨l, e⟩ => e ▸ hr l
/-- x = {} -/
theorem ds_newD (i : Nat) {x : Str} {lp : Pos} (hr : ∀ l, DS X (Γ.set i (.md l [])) rest P) (hN : X.N.Nodup) (hi : X.N[i]? = some x := by rfl) (hx : Loc X.env.scope x := by first | exact .inl rfl | exact .inr rfl)
    (hs : swapsWith (.Dict [] [] lp) (some (.Name x pos')) pos.line X.env = pure false := by rfl) (hf : X.fn x = true ∨ X.env.scope.names.lookup x = some .local := by first | exact .inl rfl | exact .inr rfl) : DS X Γ (.Assign [.Name x pos'] (.Dict [] [] lp) pos :: rest) P :=
  ds_seq (N := fun Γ' => ∃ l, Γ' = Γ.set i (.md l [])) ((ps_set (i := i) hN hi hx pe_dnewK hs hf).imp fun D σ H ⟨G0, H0, G, s, k⟩ => fun l hl => k.nx G _ _ _ ⟨l, rfl⟩ (Same.refl _) (s.mkA i hl (fun _ z => z) fun hG => ⟨rfl, hG, [], upd_same, .nil⟩)) fun _ ⟨l, e⟩ => e ▸ hr l
/-- x.append(e) -/
theorem ds_app (i : Nat) {x : Str} {np cpos : Pos} {l : Addr} {ds : List PyData} (he : DE X Γ e d) (hr : DS X (Γ.set i (.ml l (ds ++ [d]))) rest P) (hz : ds.length < 100000) (hΓ : Γ[i]? = some (.ml l ds) := by rfl) (hi : X.N[i]? = some x := by rfl)
    (hv : Vis X.env.scope x := by first | exact Or.inl rfl | exact Or.inr (Or.inl rfl) | exact Or.inr (Or.inr rfl)) (hd1 : (x == ("__debug__" : Str)) = false := by decide) (hd2 : (x == ("__classdict__" : Str)) = false := by decide)
    (hbase : attributeBase (.Name x np) "append" X.env (eval (.Name x np) X.env) = eval (.Name x np) X.env := by rfl)
    (hfew : ((backTo cpos (starEach [e] X.env)).all (fun x => !x.1) && (backToKw cpos (keywordEach [] X.env)).all (fun x => x.1.isSome) && decide (([e] : List Expr).length + ([] : List Keyword).length + (if ([] : List Keyword).isEmpty then 0 else 1) < 30)) = true := by rfl)
    (hline : (apos.endLine == cpos.line) = true := by rfl) (hs : starEach [e] X.env = (false, eval e X.env) :: starEach [] X.env := by rfl) (hplain : (backTo cpos (starEach [] X.env)).any (·.1) = false := by rfl)
    (hsw : swapsWith (.Call (.Attribute (.Name x np) "append" apos) [e] [] cpos) none pos.line X.env = pure false := by rfl) : DS X Γ (.Expr (.Call (.Attribute (.Name x np) "append" apos) [e] [] cpos) pos :: rest) P :=
  ds_seq (N := (· = Γ.set i (.ml l (ds ++ [d])))) ((ps_expr (pe_bm PySem.F.plainAttrs_list PySem.F.slot_list_append PySem.F.type_list_append mt_append (pe_var (i := i) hi hv hd1 hd2) (da_cons he da_nil hs) hbase hfew hline hs hplain) hsw).imp fun D σ H ⟨G0, H0, G, s, k⟩ => by
    obtain ⟨o, e1, e2, hG, vs, hH, ha⟩ := s.env.at_ i _ hΓ
    subst e2
    refine ⟨_, e1, .inl ⟨rfl, _, SqL.of hH⟩, G, s.env, fun G1 H1 us g1 q => ?_⟩
    obtain ⟨v, rfl, qv⟩ := one q
    have s1 := s.up g1
    have hG1 : G1 l = none := g1.fr _ _ hH hG
    refine ⟨l, vs, v, rfl, rfl, g1.h _ _ hH, ?_, k.nx G1 _ _ σ rfl g1.g (s1.mut hΓ rfl (fun _ z => z) hG1 e1 ⟨rfl, hG1, _, upd_same, (ha.up g1.g).app (.one qv)⟩)⟩
    rw [ha.len]
    exact Nat.lt_of_lt_of_le hz (by decide)) fun _ e => e ▸ hr
/-- x.extend(e) -/
theorem ds_ext (i : Nat) {x : Str} {np cpos : Pos} {l : Addr} {ds es : List PyData} (he : DE X Γ e (.list es)) (hr : DS X (Γ.set i (.ml l (ds ++ es))) rest P) (hz : ds.length + es.length ≤ 100000) (hΓ : Γ[i]? = some (.ml l ds) := by rfl) (hi : X.N[i]? = some x := by rfl)
    (hv : Vis X.env.scope x := by first | exact Or.inl rfl | exact Or.inr (Or.inl rfl) | exact Or.inr (Or.inr rfl)) (hd1 : (x == ("__debug__" : Str)) = false := by decide) (hd2 : (x == ("__classdict__" : Str)) = false := by decide)
    (hbase : attributeBase (.Name x np) "extend" X.env (eval (.Name x np) X.env) = eval (.Name x np) X.env := by rfl)
    (hfew : ((backTo cpos (starEach [e] X.env)).all (fun x => !x.1) && (backToKw cpos (keywordEach [] X.env)).all (fun x => x.1.isSome) && decide (([e] : List Expr).length + ([] : List Keyword).length + (if ([] : List Keyword).isEmpty then 0 else 1) < 30)) = true := by rfl)
    (hline : (apos.endLine == cpos.line) = true := by rfl) (hs : starEach [e] X.env = (false, eval e X.env) :: starEach [] X.env := by rfl) (hplain : (backTo cpos (starEach [] X.env)).any (·.1) = false := by rfl)
    (hsw : swapsWith (.Call (.Attribute (.Name x np) "extend" apos) [e] [] cpos) none pos.line X.env = pure false := by rfl) : DS X Γ (.Expr (.Call (.Attribute (.Name x np) "extend" apos) [e] [] cpos) pos :: rest) P :=
  ds_seq (N := (· = Γ.set i (.ml l (ds ++ es)))) ((ps_expr (pe_bm PySem.F.plainAttrs_list PySem.F.slot_list_extend PySem.F.type_list_extend mt_extend (pe_var (i := i) hi hv hd1 hd2) (da_cons he da_nil hs) hbase hfew hline hs hplain) hsw).imp fun D σ H ⟨G0, H0, G, s, k⟩ => by
    obtain ⟨o, e1, e2, hG, vs, hH, ha⟩ := s.env.at_ i _ hΓ
    subst e2
    refine ⟨_, e1, .inl ⟨rfl, _, SqL.of hH⟩, G, s.env, fun G1 H1 us g1 q => ?_⟩
    obtain ⟨v, rfl, qv⟩ := one q
    obtain ⟨b, zs, rfl, hb, hz2⟩ := qv.listT
    have s1 := s.up g1
    have hG1 : G1 l = none := g1.fr _ _ hH hG
    refine ⟨l, b, vs, zs, rfl, rfl, g1.h _ _ hH, g1.s _ _ hb, ?_, k.nx G1 _ _ σ rfl g1.g (s1.mut hΓ rfl (fun _ z => z) hG1 e1 ⟨rfl, hG1, _, upd_same, (ha.up g1.g).app hz2⟩)⟩
    rw [ha.len, hz2.len]
    exact Nat.le_trans hz (by decide)) fun _ e => e ▸ hr

/-! ### local dicts with text keys -/
def kD : Key → PyData
  | .inl i => .int i
  | .inr x => .str x
theorem kd_V {K : PySem.W.Frag} {G : Hp} {v : V} {k : Key} (h : Dq K G v (kD k)) : v = kV k := by
  cases k with
  | inl i => exact h.intE
  | inr x => exact h.strE
def putD : List (Key × PyData) → Key → PyData → List (Key × PyData)
  | [], k, d => [(k, d)]
  | q :: r, k, d => if q.1 = k then (k, d) :: (r.map fun kv => if kv.1 = k then (kv.1, d) else kv) else q :: putD r k d
def getD (kvs : List (Key × PyData)) (k : Key) : Option PyData := (kvs.find? fun kv => decide (kv.1 = k)).map (·.2)
theorem KvD.len {K : PySem.W.Frag} {G : Hp} {ws : List (Key × V)} {kvs : List (Key × PyData)} (h : KvD K G ws kvs) : ws.length = kvs.length := Paired.length h
theorem KvD.get {K : PySem.W.Frag} {G : Hp} {k : Key} : ∀ {ws : List (Key × V)} {kvs : List (Key × PyData)}, KvD K G ws kvs → (valV ws k = none ∧ getD kvs k = none) ∨ ∃ v d, valV ws k = some v ∧ getD kvs k = some d ∧ Dq K G v d
  | _, _, .nil => .inl ⟨rfl, rfl⟩
  | p :: ws, q :: kvs, .cons r t => by
    by_cases h : p.1 = k
    · have h' : q.1 = k := r.1 ▸ h
      refine .inr ⟨p.2, q.2, valV_pos h, ?_, r.2⟩
      unfold getD
      rw [List.find?_cons, decide_eq_true h']
      all_goals rfl
    · have h' : ¬ q.1 = k := fun z => h (r.1.trans z)
      have e : getD (q :: kvs) k = getD kvs k := by
        unfold getD
        rw [List.find?_cons, decide_eq_false h']
      rw [valV_neg h, e]
      exact KvD.get t
theorem KvD.snoc {K : PySem.W.Frag} {G : Hp} {k : Key} {v : V} {d : PyData} (h : Dq K G v d) : ∀ {ws : List (Key × V)} {kvs : List (Key × PyData)}, KvD K G ws kvs → KvD K G (ws ++ [(k, v)]) (kvs ++ [(k, d)])
  | _, _, .nil => .cons ⟨rfl, h⟩ .nil
  | _, _, .cons r t => .cons r (KvD.snoc h t)
/-- x[k] = e, the key new -/
theorem ds_dput (i : Nat) {x : Str} {np sp : Pos} {l : Addr} {kvs : List (Key × PyData)} {ke : Expr} {k : Key} (hk : DE X Γ ke (kD k)) (he : DE X Γ e d) (hn : getD kvs k = none) (hr : DS X (Γ.set i (.md l (kvs ++ [(k, d)]))) rest P) (hz : kvs.length < 100000) (hu : X.A.units + 1 < cLine)
    (hΓ : Γ[i]? = some (.md l kvs) := by rfl) (hi : X.N[i]? = some x := by rfl)
    (hv : Vis X.env.scope x := by first | exact Or.inl rfl | exact Or.inr (Or.inl rfl) | exact Or.inr (Or.inr rfl)) (hd1 : (x == ("__debug__" : Str)) = false := by decide) (hd2 : (x == ("__classdict__" : Str)) = false := by decide)
    (hsw : swapsWith e (some (.Subscript (.Name x np) ke sp)) pos.line X.env = pure false := by rfl) : DS X Γ (.Assign [.Subscript (.Name x np) ke sp] e pos :: rest) P :=
  ds_seq (N := (· = Γ.set i (.md l (kvs ++ [(k, d)])))) ((ps_dput hu (pe_var (i := i) hi hv hd1 hd2) hk he hsw).imp fun D σ H ⟨G0, H0, G, s, ke0⟩ => by
    refine ⟨G, s.env, fun G1 H1 v g1 qv => ?_⟩
    have s1 := s.up g1
    obtain ⟨o, e1, e2, hG, ws, hH, ha⟩ := s1.env.at_ i _ hΓ
    subst e2
    refine ⟨_, e1, G1, s1.env, fun G2 H2 u g2 qu => ?_⟩
    have s2 := s1.up g2
    have hG2 : G2 l = none := g2.fr _ _ hH hG
    have hH2 := g2.h _ _ hH
    have ha2 := KvD.up ha g2.g
    have hnone : valV ws k = none := by
      rcases ha2.get (k := k) with z | ⟨a, b, z1, z2, _⟩
      · exact z.1
      · rw [hn] at z2
        cases z2
    refine ⟨l, _, rfl, ?_, ke0.nx G2 _ _ σ rfl (g1.g.trans g2.g) (s2.mut (o := .dK (putK ws k v)) hΓ rfl (fun _ z => z) hG2 e1 ⟨rfl, hG2, _, upd_same, ?_⟩)⟩
    · rw [kd_V qu]
      exact DPut.k hH2 (by rw [ha2.len]; exact Nat.lt_of_lt_of_le hz (by decide))
    · rw [putK_new v hnone]
      exact ha2.snoc (qv.up g2.g)) fun _ e => e ▸ hr
/-- x[k], x a dict of one's own -/
theorem d_dget (i : Nat) {x : Str} {np : Pos} {l : Addr} {kvs : List (Key × PyData)} {ke : Expr} {k : Key} (hk : DE X Γ ke (kD k)) (hg : getD kvs k = some d) (hu : X.A.units + 1 < cLine)
    (hΓ : Γ[i]? = some (.md l kvs) := by rfl) (hi : X.N[i]? = some x := by rfl)
    (hv : Vis X.env.scope x := by first | exact Or.inl rfl | exact Or.inr (Or.inl rfl) | exact Or.inr (Or.inr rfl)) (hd1 : (x == ("__debug__" : Str)) = false := by decide) (hd2 : (x == ("__classdict__" : Str)) = false := by decide) (hs : NoSl ke := by exact fun _ _ => rfl) : DE X Γ (.Subscript (.Name x np) ke pos) d :=
  (pe_dget hu (pe_var (i := i) hi hv hd1 hd2) hk hs).imp fun σ H Q ⟨G, env, q⟩ => by
    obtain ⟨o, e1, e2, hG, ws, hH, ha⟩ := env.at_ i _ hΓ
    subst e2
    refine ⟨_, e1, G, env, fun G1 H1 u g1 qu => ?_⟩
    rcases (KvD.up ha g1.g).get (k := k) with z | ⟨v, d2, z1, z2, z3⟩
    · rw [hg] at z
      cases z.2
    · rw [hg] at z2
      cases z2
      exact ⟨l, v, rfl, by rw [kd_V qu, ← z1]; exact DGet.k (g1.h _ _ hH), q _ _ _ g1 z3⟩
/-- k not in x -/
theorem dt_dnotin (i : Nat) {x : Str} {np : Pos} {l : Addr} {kvs : List (Key × PyData)} {ke : Expr} {k : Key} (hk : DE X Γ ke (kD k)) (hu : X.A.units + 1 < cLine)
    (hΓ : Γ[i]? = some (.md l kvs) := by rfl) (hi : X.N[i]? = some x := by rfl)
    (hv : Vis X.env.scope x := by first | exact Or.inl rfl | exact Or.inr (Or.inl rfl) | exact Or.inr (Or.inr rfl)) (hd1 : (x == ("__debug__" : Str)) = false := by decide) (hd2 : (x == ("__classdict__" : Str)) = false := by decide) : DT X Γ (.Compare ke [.NotIn] [.Name x np] pos) (!(getD kvs k).isSome) :=
  (pt_cmp (pc_dnotin hu hk (pe_var (i := i) hi hv hd1 hd2)) rfl).imp fun σ H Q ⟨G, env, q⟩ => by
    refine ⟨G, env, fun G1 H1 u g1 qu => ?_⟩
    obtain ⟨o, e1, e2, hG, ws, hH, ha⟩ := (env.up g1).at_ i _ hΓ
    subst e2
    refine ⟨_, e1, l, valV ws k, rfl, by rw [kd_V qu]; exact DGet.k hH, _, rfl, ?_⟩
    have e : (valV ws k).isSome = (getD kvs k).isSome := by
      rcases ha.get (k := k) with z | ⟨v, d2, z1, z2, z3⟩
      · rw [z.1, z.2]
        all_goals rfl
      · rw [z1, z2]
        all_goals rfl
    rw [e]
    exact q _ _ g1
/-- x.get(k), there -/
theorem d_dgetm (i : Nat) {x : Str} {np cpos : Pos} {l : Addr} {kvs : List (Key × PyData)} {ke : Expr} {k : Key} (hk : DE X Γ ke (kD k)) (hg : getD kvs k = some d) (hu : X.A.units + 1 < cLine) (m : M1 X (.Name x np) "get" apos ke cpos)
    (hΓ : Γ[i]? = some (.md l kvs) := by rfl) (hi : X.N[i]? = some x := by rfl)
    (hv : Vis X.env.scope x := by first | exact Or.inl rfl | exact Or.inr (Or.inl rfl) | exact Or.inr (Or.inr rfl)) (hd1 : (x == ("__debug__" : Str)) = false := by decide) (hd2 : (x == ("__classdict__" : Str)) = false := by decide) : DE X Γ (.Call (.Attribute (.Name x np) "get" apos) [ke] [] cpos) d :=
  (pe_dget1 hu (pe_var (i := i) hi hv hd1 hd2) hk m).imp fun σ H Q ⟨G, env, q⟩ => by
    obtain ⟨o, e1, e2, hG, ws, hH, ha⟩ := env.at_ i _ hΓ
    subst e2
    refine ⟨_, e1, l, rfl, .inl ⟨ws, .inl hH⟩, G, env, fun G1 H1 u g1 qu => ?_⟩
    rcases (KvD.up ha g1.g).get (k := k) with z | ⟨v, d2, z1, z2, z3⟩
    · rw [hg] at z
      cases z.2
    · rw [hg] at z2
      cases z2
      exact ⟨some v, by rw [kd_V qu, ← z1]; exact DGet.k (g1.h _ _ hH), q _ _ _ g1 z3⟩
end

section
variable {X : Cx} {Γ : List SD} {P : Po} {rest : List Stmt} {d : PyData} {pos apos : Pos}
/-- x = [elt for ..], x to grow -/
theorem ds_setLcM (i : Nat) {y : Str} {py : Pos} {elt tg iter : Expr} {scope : Scope} {own : List (Str × Nat)} {f : PyData → List SD → Option (List SD)} {g : TG} {ds es : List PyData} {spos : Pos} (hi : PID X tg Γ iter ds) (ok : BlkOk X.N X.env.scope scope own) (hg : ∀ (s : Shared) (H : Hp) (C : Addr) (cl : List (Str × Addr)) (fp : List Addr), PG (X.blk s H scope (compEnvC scope cl C X.env) fp) tg g) (ht : TgS X.K g (own.map (·.2)) f)
    (hl : es.length = ds.length) (hn : ds.length ≤ 100000) (he : ∀ (i : Nat) d e, ds[i]? = some d → es[i]? = some e → ∃ Γ2, f d (wipeS Γ (own.map (·.2))) = some Γ2 ∧ EltD X scope elt Γ2 e) (hr : ∀ l, DS X (Γ.set i (.ml l es)) rest P) (hN : X.N.Nodup) (hc : X.calm = true := by rfl)
    (hy : X.N[i]? = some y := by rfl) (hyl : X.env.scope.names.lookup y = some .local := by rfl) (hsw : swapsWith (.ListComp elt [⟨tg, iter, [], 0⟩] scope pos) (some (.Name y py)) spos.line X.env = pure true := by exact sw_true rfl rfl rfl (by decide +kernel)) (hs : ∀ x, foldedSetIterable iter X.env x = pure x := by intro _; rfl) :
    DS X Γ (.Assign [.Name y py] (.ListComp elt [⟨tg, iter, [], 0⟩] scope pos) spos :: rest) P :=
  ds_seq (N := fun Γ' => ∃ l, Γ' = Γ.set i (.ml l es)) ((ps_setLc (i := i) hc hN hy hyl hsw hi ok hg (fun _ _ _ _ _ => pts_nil) (te := tElt X scope elt) (fun s H C cl fp => PE.ex (R := fun p : List SD × PyData => EltD X scope elt p.1 p.2) (t := fun p => tD X.K p.1 p.2) fun p hp => hp s H C cl fp) hs).imp fun D σ H ⟨G0, H0, G, s, k⟩ =>
    tLc_M ht hl hn (fun i d e h1 h2 => let ⟨Γ2, a, b⟩ := he i d e h1 h2; ⟨Γ2, a, fun σ H Q q => ⟨(Γ2, e), b, q⟩⟩) ⟨G, s.env, fun G' H' L acc gr h1 h2 h3 h4 => by
      have s1 := s.up gr
      exact k.nx G' H' _ _ ⟨L, rfl⟩ gr.g (s1.put i ⟨rfl, h2, acc, h3, h4⟩ fun x z => by
        cases z
        exact ⟨s.gr.h.free h1, fun j e _ ej => s.none_ad h1 j e ej⟩)⟩) fun _ ⟨l, e⟩ => e ▸ hr l
/-- x[k], x a dict that stands still -/
theorem d_dgetG (i : Nat) {x : Str} {np : Pos} {l : Addr} {kvs : List (Key × PyData)} {ke : Expr} {k : Key} (hk : DE X Γ ke (kD k)) (hg : getD kvs k = some d) (hu : X.A.units + 1 < cLine)
    (hΓ : Γ[i]? = some (.dg l kvs) := by rfl) (hi : X.N[i]? = some x := by rfl)
    (hv : Vis X.env.scope x := by first | exact Or.inl rfl | exact Or.inr (Or.inl rfl) | exact Or.inr (Or.inr rfl)) (hd1 : (x == ("__debug__" : Str)) = false := by decide) (hd2 : (x == ("__classdict__" : Str)) = false := by decide) (hs : NoSl ke := by exact fun _ _ => rfl) : DE X Γ (.Subscript (.Name x np) ke pos) d :=
  (pe_dget hu (pe_var (i := i) hi hv hd1 hd2) hk hs).imp fun σ H Q ⟨G, env, q⟩ => by
    obtain ⟨o, e1, e2, ws, hH, ha⟩ := env.at_ i _ hΓ
    subst e2
    refine ⟨_, e1, G, env, fun G1 H1 u g1 qu => ?_⟩
    rcases (KvD.up ha g1.g).get (k := k) with z | ⟨v, d2, z1, z2, z3⟩
    · rw [hg] at z
      cases z.2
    · rw [hg] at z2
      cases z2
      exact ⟨l, v, rfl, by rw [kd_V qu, ← z1]; exact DGet.k (g1.s _ _ (g1.g _ _ hH)), q _ _ _ g1 z3⟩
end
/-! ### defs -/
def start0 (N : List Str) (ds : List PyData) : List SD := ds.map SD.dat ++ List.replicate (N.length - ds.length) .un
theorem start_ad {N : List Str} {ds : List PyData} {i : Nat} {c : SD} (q : (start0 N ds)[i]? = some c) (l : Addr) : ¬ c.ad l := fun z => by
  unfold start0 at q
  have m := List.mem_of_getElem? q
  rcases List.mem_append.mp m with m | m
  · obtain ⟨d, _, rfl⟩ := List.mem_map.mp m
    exact z
  · rw [List.eq_of_mem_replicate m] at z
    exact z
theorem start_env {K : PySem.W.Frag} {G H : Hp} {N : List Str} {vs : List V} {ds : List PyData} (s : Same G H) (h : DqAll K G vs ds) : EnvD K G H (start0 N ds) (L2.start N vs) := by
  have hl := h.len
  refine ⟨s, by unfold L2.start start0; simp [hl], fun i c e => ?_, fun i j c e l e1 e2 a1 a2 => ?_⟩
  · unfold start0 at e
    by_cases hi : i < ds.length
    · rw [List.getElem?_append_left (by simpa using hi), List.getElem?_map] at e
      have hd : ds[i]? = some ds[i] := List.getElem?_eq_getElem hi
      rw [hd] at e
      cases e
      obtain ⟨v, z1, z2⟩ := h.get hd
      refine ⟨some v, ?_, v, rfl, z2⟩
      unfold L2.start
      rw [List.getElem?_append_left (by simpa [hl] using hi), List.getElem?_map, z1]
      rfl
    · have hlt := (List.getElem?_eq_some_iff.mp e).1
      rw [List.getElem?_append_right (by simpa using hi), List.getElem?_replicate] at e
      split at e
      · cases e
        have hlt2 : i < (L2.start N vs).length := by
          unfold L2.start
          simp only [List.length_append, List.length_map, List.length_replicate] at hlt ⊢
          omega
        exact ⟨(L2.start N vs)[i], List.getElem?_eq_getElem hlt2, trivial⟩
      · cases e
  · exact (start_ad e1 l a1).elim
section
variable {P : Program} {w : World} {K : PySem.W.Frag} {mg : Str → Option Value} {base : Heap} {x qual : Str} {params : Arguments} {body : List Stmt} {scope : Scope} {dvs : List V} {kws : List (Str × V)} {f : Addr} {fd : FuncData}
abbrev cxD (P : Program) (w : World) (K : PySem.W.Frag) (mg : Str → Option Value) (base : Heap) (N : List Str) (qual : Str) (scope : Scope) (f : Addr) (cdv : Value) (A : Around) (outer : List Env) (s : Shared) (H : Hp) (E : XK) : Cx :=
  (cxOf CX0 P w K mg base N qual scope f cdv A outer s H E).nox
/-- a def that keeps its promise by data -/
theorem fn_data {N ps : List Str} {k : Nat} {R : List PyData → PyData → Prop} (F : FunD K x qual params body scope dvs kws f fd) (S : FnScope N ps scope) (hl : ∀ ds d, R ds d → ds.length = ps.length)
    (hb : ∀ (cdv : Value) (A : Around) (outer : List Env) (s : Shared) (H : Hp) (E : XK), Room k (cxD P w K mg base N qual scope f cdv A outer s H E).A → ∀ ds d, R ds d →
      DS (cxD P w K mg base N qual scope f cdv A outer s H E) (start0 N ds) body ⟨fun _ => d = .none, fun _ c => c = .dat d, fun _ => False, fun _ => False⟩) : FnOk P w K mg base CX0 (k + 1) f fd ps (SpD K R) := by
  refine F.ok S (fun vs H Q E ⟨G, ds, d, r, h, _⟩ => by rw [h.len]; exact hl ds d r) fun cdv A outer s H vs Q E hr ⟨G, ds, d, r, h, sm, q⟩ => ?_
  refine ⟨_, (hb cdv A outer s H E hr ds d r).nox, G, H, G, ⟨Gr.refl sm, fun i c l e a => (start_ad e l a).elim, start_env sm h⟩, ⟨?_, ?_, ?_, ?_⟩⟩
  · intro G' H' Γ' σ' e _ s'
    exact q G' H' .non s'.gr (by rw [e]; exact .non)
  · intro G' H' Γ' σ' c v e _ s' z _
    rw [show c = .dat d from e] at z
    obtain ⟨u, e2, z⟩ := z
    cases e2
    exact q G' H' v s'.gr z
  · intro _ _ _ _ z
    exact z.elim
  · intro _ _ _ _ z
    exact z.elim
/-- a promise by slots: what is handed in (Γ), what stands there then (Γ'), what is handed back (c) -/
def SpG {ι : Type} (K : PySem.W.Frag) (Pre : ι → List SD → Prop) (Post : ι → List SD → SD → Prop) : Sp := fun vs H Q _ => ∃ G H0 Γ ix, Pre ix Γ ∧ St0 K G H0 G H Γ (vs.map some) ∧
  ∀ G' H' Γ' σ' c v, Post ix Γ' c → St0 K G H0 G' H' Γ' σ' → SOk K G' H' c (some v) → (∀ a, c.ad a → H0 a = none ∧ ∀ (i : Nat) e, Γ'[i]? = some e → ¬ e.ad a) → Q v H'
def startG (N : List Str) (Γ : List SD) : List SD := Γ ++ List.replicate (N.length - Γ.length) .un
theorem startG_at {N : List Str} {Γ : List SD} {i : Nat} {c : SD} (q : (startG N Γ)[i]? = some c) : Γ[i]? = some c ∨ (c = .un ∧ Γ.length ≤ i) := by
  unfold startG at q
  by_cases hi : i < Γ.length
  · rw [List.getElem?_append_left hi] at q
    exact .inl q
  · rw [List.getElem?_append_right (by omega), List.getElem?_replicate] at q
    split at q
    · cases q
      exact .inr ⟨rfl, by omega⟩
    · cases q
theorem startG_st {K : PySem.W.Frag} {G0 H0 G H : Hp} {N : List Str} {vs : List V} {Γ : List SD} (s : St0 K G0 H0 G H Γ (vs.map some)) : St0 K G0 H0 G H (startG N Γ) (L2.start N vs) := by
  have hl : vs.length = Γ.length := by have := s.env.len; rwa [List.length_map] at this
  refine ⟨s.gr, fun i c l e a => ?_, s.env.s, by unfold L2.start startG; simp [hl], fun i c e => ?_, fun i j c e l e1 e2 a1 a2 => ?_⟩
  · rcases startG_at e with e | ⟨rfl, _⟩
    · exact s.nw i c l e a
    · exact (show False from a).elim
  · rcases startG_at e with e2 | ⟨rfl, _⟩
    · obtain ⟨o, z1, z2⟩ := s.env.at_ i c e2
      refine ⟨o, ?_, z2⟩
      unfold L2.start
      rw [List.getElem?_append_left (List.getElem?_eq_some_iff.mp z1).1]
      exact z1
    · have hlt2 : i < (L2.start N vs).length := by
        have := (List.getElem?_eq_some_iff.mp e).1
        unfold L2.start
        unfold startG at this
        simp only [List.length_append, List.length_map, List.length_replicate] at this ⊢
        omega
      exact ⟨(L2.start N vs)[i], List.getElem?_eq_getElem hlt2, trivial⟩
  · rcases startG_at e1 with e1 | ⟨rfl, _⟩
    · rcases startG_at e2 with e2 | ⟨rfl, _⟩
      · exact s.env.nd i j c e l e1 e2 a1 a2
      · exact (show False from a2).elim
    · exact (show False from a1).elim
/-- a def that keeps its promise by slots -/
theorem fn_slots {N ps : List Str} {k : Nat} {ι : Type} {Pre : ι → List SD → Prop} {Post : ι → List SD → SD → Prop} (F : FunD K x qual params body scope dvs kws f fd) (S : FnScope N ps scope) (hl : ∀ ix Γ, Pre ix Γ → Γ.length = ps.length)
    (hb : ∀ (cdv : Value) (A : Around) (outer : List Env) (s : Shared) (H : Hp) (E : XK), Room k (cxD P w K mg base N qual scope f cdv A outer s H E).A → ∀ ix Γ, Pre ix Γ →
      DS (cxD P w K mg base N qual scope f cdv A outer s H E) (startG N Γ) body ⟨fun Γ' => Post ix Γ' (.dat .none), Post ix, fun _ => False, fun _ => False⟩) : FnOk P w K mg base CX0 (k + 1) f fd ps (SpG K Pre Post) := by
  refine F.ok S (fun vs H Q E ⟨G, H0, Γ, ix, pre, st, _⟩ => by rw [← hl ix Γ pre, ← st.env.len, List.length_map]) fun cdv A outer s H vs Q E hr ⟨G, H0, Γ, ix, pre, st, q⟩ => ?_
  refine ⟨_, (hb cdv A outer s H E hr ix Γ pre).nox, G, H0, G, startG_st st, ⟨?_, ?_, ?_, ?_⟩⟩
  · intro G' H' Γ' σ' e _ s'
    exact q G' H' Γ' σ' _ .non e s' ⟨_, rfl, .non⟩ fun _ (z : False) => z.elim
  · intro G' H' Γ' σ' c v e _ s' z n
    exact q G' H' Γ' σ' c v e s' z n
  · intro _ _ _ _ z
    exact z.elim
  · intro _ _ _ _ z
    exact z.elim
theorem gfn_of {ps : List Str} {k : Nat} {sp : Sp} (F : FnOk P w K mg base CX0 k f fd ps sp) (hm : mg x = some (.ref f)) (hk : PySem.W.keepIn K (.ref f) = true) (hb : Binds K fd ps []) : GFn P w K mg base x k sp := ⟨f, fd, ps, [], F, hm, hk, hb, .nil⟩
end
end SJ
set_option maxRecDepth 100000
set_option maxHeartbeats 4000000
/-! D5: short forms. -/
namespace SJ
open PySem PySem.Spec PyProof.Rows L2
theorem at0 {α : Type} {a : α} {l : List α} : atI (a :: l) (0 : Int) = some a := atI_nat (j := 0) rfl
theorem at1 {α : Type} {a b : α} {l : List α} : atI (a :: b :: l) (1 : Int) = some b := atI_nat (j := 1) rfl
theorem at2 {α : Type} {a b c : α} {l : List α} : atI (a :: b :: c :: l) (2 : Int) = some c := atI_nat (j := 2) rfl
theorem at3 {α : Type} {a b c d : α} {l : List α} : atI (a :: b :: c :: d :: l) (3 : Int) = some d := atI_nat (j := 3) rfl
theorem at4 {α : Type} {a b c d e : α} {l : List α} : atI (a :: b :: c :: d :: e :: l) (4 : Int) = some e := atI_nat (j := 4) rfl
section
variable {X : Cx} {Γ : List SD} {e e2 : Expr} {d : PyData} {ds : List PyData} {pos p : Pos}
theorem d_lenL (hm : X.mg "len" = none) (he : DE X Γ e (.list ds)) (hg : Gl X "len" := by rfl) (hs : starEach [e] X.env = (false, eval e X.env) :: starEach [] X.env := by rfl) (hpl : (backTo pos (starEach [] X.env)).any (·.1) = false := by rfl) : DE X Γ (.Call (.Name "len" p) [e] [] pos) (.int (ds.length : Nat)) :=
  d_blt (id := "len") c_lenL hm (da_cons he da_nil hs) (by decide +kernel) hg (by decide) (by decide) hs hpl
theorem d_lenT (hm : X.mg "len" = none) (he : DE X Γ e (.tuple ds)) (hg : Gl X "len" := by rfl) (hs : starEach [e] X.env = (false, eval e X.env) :: starEach [] X.env := by rfl) (hpl : (backTo pos (starEach [] X.env)).any (·.1) = false := by rfl) : DE X Γ (.Call (.Name "len" p) [e] [] pos) (.int (ds.length : Nat)) :=
  d_blt (id := "len") c_lenT hm (da_cons he da_nil hs) (by decide +kernel) hg (by decide) (by decide) hs hpl
theorem d_lenS {z : Str} (hm : X.mg "len" = none) (he : DE X Γ e (.str z)) (hz : z.length ≤ 100000) (hg : Gl X "len" := by rfl) (hs : starEach [e] X.env = (false, eval e X.env) :: starEach [] X.env := by rfl) (hpl : (backTo pos (starEach [] X.env)).any (·.1) = false := by rfl) : DE X Γ (.Call (.Name "len" p) [e] [] pos) (.int (z.length : Nat)) :=
  d_blt (id := "len") (c_lenS (Nat.le_trans hz (by decide))) hm (da_cons he da_nil hs) (by decide +kernel) hg (by decide) (by decide) hs hpl
theorem d_all {bs : List Bool} (hm : X.mg "all" = none) (he : DE X Γ e (.list (bs.map PyData.bool))) (hc : X.calm = true := by rfl) (hg : Gl X "all" := by rfl) (hs : starEach [e] X.env = (false, eval e X.env) :: starEach [] X.env := by rfl) (hpl : (backTo pos (starEach [] X.env)).any (·.1) = false := by rfl) : DE X Γ (.Call (.Name "all" p) [e] [] pos) (.bool (bs.all id)) :=
  d_blt (id := "all") (c_all hc) hm (da_cons he da_nil hs) (by decide +kernel) hg (by decide) (by decide) hs hpl
theorem d_listOf (hm : X.mg "list" = none) (he : DE X Γ e (.list ds)) (hg : Gl X "list" := by rfl) (hs : starEach [e] X.env = (false, eval e X.env) :: starEach [] X.env := by rfl) (hpl : (backTo pos (starEach [] X.env)).any (·.1) = false := by rfl) : DE X Γ (.Call (.Name "list" p) [e] [] pos) (.list ds) :=
  d_cty (T := "list") c_list hm (da_cons he da_nil hs) (by decide +kernel) hg (by decide) (by decide) hs hpl
theorem d_tupleOf (hm : X.mg "tuple" = none) (he : DE X Γ e (.list ds)) (hg : Gl X "tuple" := by rfl) (hs : starEach [e] X.env = (false, eval e X.env) :: starEach [] X.env := by rfl) (hpl : (backTo pos (starEach [] X.env)).any (·.1) = false := by rfl) : DE X Γ (.Call (.Name "tuple" p) [e] [] pos) (.tuple ds) :=
  d_cty (T := "tuple") c_tuple hm (da_cons he da_nil hs) (by decide +kernel) hg (by decide) (by decide) hs hpl
theorem d_intOf {z : Str} {n : Int} (hm : X.mg "int" = none) (he : DE X Γ e (.str z)) (hz : PySem.intText? z = some n) (hl : z.length ≤ 640) (hg : Gl X "int" := by rfl) (hs : starEach [e] X.env = (false, eval e X.env) :: starEach [] X.env := by rfl) (hpl : (backTo pos (starEach [] X.env)).any (·.1) = false := by rfl) : DE X Γ (.Call (.Name "int" p) [e] [] pos) (.int n) :=
  d_cty (T := "int") (c_intS hz hl) hm (da_cons he da_nil hs) (by decide +kernel) hg (by decide) (by decide) hs hpl
theorem d_strOf {n : Int} (hm : X.mg "str" = none) (he : DE X Γ e (.int n)) (hz : n.natAbs.log2 < 1920) (hg : Gl X "str" := by rfl) (hs : starEach [e] X.env = (false, eval e X.env) :: starEach [] X.env := by rfl) (hpl : (backTo pos (starEach [] X.env)).any (·.1) = false := by rfl) : DE X Γ (.Call (.Name "str" p) [e] [] pos) (.str (Str.ofString (toString n))) :=
  d_cty (T := "str") (c_strI hz) hm (da_cons he da_nil hs) (by decide +kernel) hg (by decide) (by decide) hs hpl
theorem d_maxOf {ns : List Int} {m : Int} (hm : X.mg "max" = none) (he : DE X Γ e (.list (ns.map PyData.int))) (h0 : m ∈ ns) (h1 : ∀ y, y ∈ ns → y ≤ m) (hc : X.calm = true := by rfl) (hg : Gl X "max" := by rfl) (hs : starEach [e] X.env = (false, eval e X.env) :: starEach [] X.env := by rfl) (hpl : (backTo pos (starEach [] X.env)).any (·.1) = false := by rfl) : DE X Γ (.Call (.Name "max" p) [e] [] pos) (.int m) :=
  d_blt (id := "max") (c_max hc h0 h1) hm (da_cons he da_nil hs) (by decide +kernel) hg (by decide) (by decide) hs hpl
theorem d_min2 {i j : Int} (hm : X.mg "min" = none) (he : DE X Γ e (.int i)) (he2 : DE X Γ e2 (.int j)) (hc : X.calm = true := by rfl) (hg : Gl X "min" := by rfl) (hs : starEach [e, e2] X.env = (false, eval e X.env) :: starEach [e2] X.env := by rfl) (hs2 : starEach [e2] X.env = (false, eval e2 X.env) :: starEach [] X.env := by rfl) (hpl : (backTo pos (starEach [e2] X.env)).any (·.1) = false := by rfl) : DE X Γ (.Call (.Name "min" p) [e, e2] [] pos) (.int (if j < i then j else i)) :=
  d_blt (id := "min") (c_min2 hc) hm (da_cons he (da_cons he2 da_nil hs2) hs) (by decide +kernel) hg (by decide) (by decide) hs hpl
theorem d_sortedI {ns ms : List Int} (hm : X.mg "sorted" = none) (he : DE X Γ e (.list (ns.map PyData.int))) (hp : ∀ ns' : List Int, ns'.Perm ns → ns'.Pairwise (· ≤ ·) → ns' = ms) (hg : Gl X "sorted" := by rfl) (hs : starEach [e] X.env = (false, eval e X.env) :: starEach [] X.env := by rfl) (hpl : (backTo pos (starEach [] X.env)).any (·.1) = false := by rfl) : DE X Γ (.Call (.Name "sorted" p) [e] [] pos) (.list (ms.map PyData.int)) :=
  d_blt (id := "sorted") (c_sortI hp) hm (da_cons he da_nil hs) (by decide +kernel) hg (by decide) (by decide) hs hpl
/-- [elt for x in iter] -/
theorem d_lcN (i : Nat) {x : Str} {xp : Pos} {N ps : List Str} {sc : Scope} {elt iter : Expr} {scope : Scope} (S : FnScope N ps sc) (g : PyData → PyData) (hi : PID X (.Name x xp) Γ iter ds) (ok : L2.blkC N sc scope [(x, i)] = true) (hn : ds.length ≤ 100000)
    (he : ∀ (j : Nat) d, ds[j]? = some d → EltD X scope elt ((Γ.set i .un).set i (.dat d)) (g d)) (hNN : X.N = N := by rfl) (hsc : X.env.scope = sc := by rfl) (hx : X.N[i]? = some x := by rfl) (hl : ∀ (s : Shared) (H : Hp) (C : Addr) (cl : List (Str × Addr)) (fp : List Addr), Loc (X.blk s H scope (compEnvC scope cl C X.env) fp).env.scope x := by exact fun _ _ _ _ _ => Or.inl rfl)
    (hfn : ∀ (s : Shared) (H : Hp) (C : Addr) (cl : List (Str × Addr)) (fp : List Addr), (X.blk s H scope (compEnvC scope cl C X.env) fp).fn x = true ∨ (X.blk s H scope (compEnvC scope cl C X.env) fp).env.scope.names.lookup x = some .local := by first | exact fun _ _ _ _ _ => Or.inr rfl | exact fun _ _ _ _ _ => Or.inl rfl)
    (hc : X.calm = true := by rfl) (hs : ∀ y, foldedSetIterable iter X.env y = pure y := by intro _; rfl) : DE X Γ (.ListComp elt [⟨.Name x xp, iter, [], 0⟩] scope pos) (.list (ds.map g)) := by
  have hN : X.N.Nodup := hNN ▸ S.nd
  subst hNN hsc
  refine d_lc (own := [(x, i)]) (f := fNm i) (g := gName i) hi (blkOk_by ok) (fun s H C cl fp => pg_name hN hx (hl s H C cl fp) (hfn s H C cl fp)) (tg_nm i) (by rw [List.length_map]) hn (fun j d e h1 h2 => ?_) hN hc hs
  rw [List.getElem?_map, h1] at h2
  cases h2
  exact ⟨_, rfl, he j d h1⟩
end
end SJ
set_option maxRecDepth 100000
set_option maxHeartbeats 4000000
/-! W0: what the module's names hold (printed by genW0.py). -/
namespace SJ
open PySem PySem.Spec PyProof.Rows L2
/-- the data of written texts -/
abbrev strsD (ss : List Str) : PyData := .tuple (ss.map PyData.str)
structure Tx (K : PySem.W.Frag) (mg : Str → Option Value) : Prop where
  f_len : mg "len" = none
  f_isinstance : mg "isinstance" = none
  f_all : mg "all" = none
  f_min : mg "min" = none
  f_max : mg "max" = none
  f_sorted : mg "sorted" = none
  f_set : mg "set" = none
  f_dict : mg "dict" = none
  f_list : mg "list" = none
  f_tuple : mg "tuple" = none
  f_range : mg "range" = none
  f_zip : mg "zip" = none
  f_enumerate : mg "enumerate" = none
  f_str : mg "str" = none
  f_int : mg "int" = none
  f_bool : mg "bool" = none
  c_ROUND : Cst K mg "ROUND" (.int 1000000000)
  c_MOST_STEPS : Cst K mg "MOST_STEPS" (.int 400)
  c_MOST_PARAMS : Cst K mg "MOST_PARAMS" (.int 4)
  c_MOST_LINES : Cst K mg "MOST_LINES" (.int 150)
  c_LETTERS : Cst K mg "LETTERS" (.str "abcdefghijklmnopqrstuvwxyz")
  c_FIGURES : Cst K mg "FIGURES" (.str "0123456789")
  c_BOXES_words : Cst K mg "BOXES_words" (strsD ["most", "set", "once", "row", "map"])
  c_DEEDS : Cst K mg "DEEDS" (strsD ["job", "let", "put", "wait", "get", "tell", "if", "else", "while", "end", "begin", "stop", "ask"])
  c_ASKED : Cst K mg "ASKED" (strsD ["least", "has", "many", "size", "held", "item", "div", "rem"])
  c_WORKINGS : Cst K mg "WORKINGS" (strsD ["+", "-", "*", "div", "rem", "<", "="])
  c_BARE_LOOKS : Cst K mg "BARE_LOOKS" (strsD ["size", "held"])
  c_LOOKS_words : Cst K mg "LOOKS_words" (strsD ["has", "item"])
  c_BOXES_lines : Cst K mg "BOXES_lines" (strsD ["most", "set", "once", "row", "map"])
  c_WITH_ONE : Cst K mg "WITH_ONE" (strsD ["tell", "if", "while", "ask"])
  c_ALONE : Cst K mg "ALONE" (strsD ["else", "end", "stop"])
  c_LOOKS_statements : Cst K mg "LOOKS_statements" (strsD ["size", "held", "has", "item"])
theorem cst_int {K : PySem.W.Frag} {mg : Str → Option Value} {h : Heap} (X : K.In h) (G : h.Ns mainGlobals mg) {x : Str} {i : Int} (c : (He.Fa.int x i).ok K = true) : Cst K mg x (.int i) := by
  obtain ⟨t, e⟩ := He.int_ok X G c
  exact ⟨.int i, _, e, ⟨t, rfl⟩, fun _ => .int i⟩
theorem cst_str {K : PySem.W.Frag} {mg : Str → Option Value} {h : Heap} (X : K.In h) (G : h.Ns mainGlobals mg) {x z : Str} (c : (He.Fa.str x z).ok K = true) : Cst K mg x (.str z) := by
  obtain ⟨t, e⟩ := He.str_ok X G c
  exact ⟨.str z, _, e, ⟨t, rfl⟩, fun _ => .str z⟩
theorem dvs_strs (K : PySem.W.Frag) : ∀ ss : List Str, (ss.map He.Dv.str).map (He.Dv.v K) = ss.map V.str
  | [] => rfl
  | s :: ss => congrArg (V.str s :: ·) (dvs_strs K ss)
theorem cst_tab {K : PySem.W.Frag} {mg : Str → Option Value} {h : Heap} (X : K.In h) (G : h.Ns mainGlobals mg) {x : Str} {ss : List Str} (c : tabB x ss K = true) (n : PySem.W.nsIn K mainGlobals x = some (some (.ref (He.ga K x)))) : Cst K mg x (strsD ss) := by
  refine ⟨.ref (He.ga K x), _, PySem.W.mg_of X G n, rfl, fun H => .tup (xs := ss.map V.str) ?_ (DqAll.ofStrs ss)⟩
  have z := He.tupB_ok c H
  rw [dvs_strs] at z
  exact z
end SJ
set_option maxRecDepth 100000
set_option maxHeartbeats 4000000
/-! L1: texts of numbers, plain. -/
namespace SJ
open PySem L2 TL
/-- a number's text -/
def nT (n : Nat) : Str := Str.ofString (toString ((n : Nat) : Int))
theorem tl_nT (n : Nat) : (nT n).cps.toList = numL n := tl_num n
theorem nT_len {n : Nat} (h : n < 1000000000) : 1 ≤ (nT n).length ∧ (nT n).length ≤ 9 := by
  have e : (nT n).length = (numL n).length := by rw [len_tl]; exact congrArg List.length (tl_nT n)
  have h1 := numL_len (n := n) (k := 9) (by decide) (by omega)
  have h2 : numL n ≠ [] := numL_ne n
  have h3 := List.length_pos_iff.mpr h2
  omega
theorem nT_digit {n c : Nat} (h : c ∈ (nT n).cps.toList) : 48 ≤ c ∧ c ≤ 57 := by
  rw [tl_nT] at h
  exact numL_digits n c h
/-- a number's text is no word that begins with another sign -/
theorem nT_ne {n : Nat} {x : Str} {c : Nat} {r : List Nat} (e : x.cps.toList = c :: r) (h : c < 48 ∨ 57 < c) : (x == nT n) = false := by
  refine beq_eq_false_iff_ne.mpr fun q => ?_
  have m : c ∈ (nT n).cps.toList := by rw [← q, e]; exact List.mem_cons_self
  have := nT_digit m
  omega
/-- none of the texts begins with a figure -/
def noFig (x : Str) : Bool := match x.cps.toList with
  | c :: _ => decide (c < 48 ∨ 57 < c)
  | [] => false
theorem nT_notIn {n : Nat} : ∀ {ss : List Str}, ss.all noFig = true → ss.any (· == nT n) = false
  | [], _ => rfl
  | s :: ss, h => by
    rw [List.all_cons, Bool.and_eq_true] at h
    rw [List.any_cons, nT_notIn h.2, Bool.or_false]
    have h1 := h.1
    unfold noFig at h1
    split at h1
    · rename_i c r e
      exact nT_ne e (of_decide_eq_true h1)
    · cases h1
/-- made_of's answer -/
def madeOf (t g : Str) (m : Int) : Bool := (decide ((1 : Int) ≤ (t.length : Int)) && decide ((t.length : Int) ≤ m)) && t.cps.toList.all fun c => decide (c ∈ g.cps.toList)
theorem nT_letters (n : Nat) : madeOf (nT n) "abcdefghijklmnopqrstuvwxyz" 8 = false := by
  unfold madeOf
  have h2 : numL n ≠ [] := numL_ne n
  rw [tl_nT]
  cases e : numL n with
  | nil => exact absurd e h2
  | cons c r =>
    have hc := numL_digits n c (by rw [e]; exact List.mem_cons_self)
    have z : decide (c ∈ (("abcdefghijklmnopqrstuvwxyz" : Str)).cps.toList) = false := by
      refine decide_eq_false fun m => ?_
      have all : ∀ c ∈ (("abcdefghijklmnopqrstuvwxyz" : Str)).cps.toList, 97 ≤ c := by decide +kernel
      have := all c m
      omega
    rw [List.all_cons, z, Bool.false_and, Bool.and_false]
theorem nT_figures {n : Nat} (h : n < 1000000000) : madeOf (nT n) "0123456789" 9 = true := by
  unfold madeOf
  obtain ⟨h1, h2⟩ := nT_len h
  rw [decide_eq_true (by omega), decide_eq_true (by omega), tl_nT]
  refine List.all_eq_true.mpr fun c hc => decide_eq_true ?_
  have hd := numL_digits n c hc
  have all : ∀ c, 48 ≤ c → c ≤ 57 → c ∈ (("0123456789" : Str)).cps.toList := by
    intro c a b
    have e : ∀ k, k < 10 → (48 + k) ∈ (("0123456789" : Str)).cps.toList := by decide +kernel
    have := e (c - 48) (by omega)
    rwa [show 48 + (c - 48) = c by omega] at this
  exact all c hd.1 hd.2
theorem numL_head : ∀ {n c : Nat} {r : List Nat}, 1 ≤ n → numL n = c :: r → c ≠ 48 := by
  intro n
  induction n using Nat.strongRecOn with
  | _ n ih =>
    intro c r h1 e
    by_cases h : n < 10
    · rw [numL_lt h] at e
      cases e
      omega
    · rw [numL_step (by omega)] at e
      cases q : numL (n / 10) with
      | nil => exact absurd q (numL_ne _)
      | cons a s =>
        rw [q] at e
        cases e
        exact ih (n / 10) (by omega) (by omega) q
/-- no nought ahead, but of 0 itself -/
theorem nT_nought (n : Nat) : (Txt.startswith (nT n) "0" && decide ((1 : Int) < ((nT n).length : Int))) = false := by
  by_cases h : n < 10
  · have e : (nT n).length = 1 := by rw [len_tl, show tl (nT n) = numL n from tl_nT n, numL_lt h]; rfl
    rw [e]
    simp
  · have z : Txt.startswith (nT n) "0" = false := by
      unfold Txt.startswith
      have q : Builtin.Str.subAt (nT n) "0" 0 = false := by
        refine beq_eq_false_iff_ne.mpr fun q => ?_
        have e2 := congrArg Array.toList q
        rw [Array.toList_extract] at e2
        have e3 : (("0" : Str)).cps.toList = [48] := by decide +kernel
        have e4 : (("0" : Str)).length = 1 := by decide +kernel
        rw [e3, e4, tl_nT] at e2
        cases e5 : numL n with
        | nil => exact absurd e5 (numL_ne _)
        | cons a s =>
          rw [e5] at e2
          have e6 : a = 48 := by simpa using e2
          exact numL_head (by omega) e5 e6
      rw [q, Bool.and_false]
    rw [z, Bool.false_and]
theorem nT_int {n : Nat} (h : n < 1000000000) : intText? (nT n) = some (n : Int) := int_num (Nat.le_trans (numL_len (k := 9) (by decide) (by omega)) (by decide))
/-- is_name's answer -/
def kwB (t : Str) : Bool := ((["most", "set", "once", "row", "map"] : List Str).any (· == t) || ((["job", "let", "put", "wait", "get", "tell", "if", "else", "while", "end", "begin", "stop", "ask"] : List Str).any (· == t) || (["least", "has", "many", "size", "held", "item", "div", "rem"] : List Str).any (· == t)))
def isNm (t : Str) : Bool := !kwB t && madeOf t "abcdefghijklmnopqrstuvwxyz" 8
theorem nT_kw (n : Nat) : kwB (nT n) = false := by
  unfold kwB
  rw [nT_notIn (by decide +kernel), nT_notIn (by decide +kernel), nT_notIn (by decide +kernel)]
  rfl
theorem nT_nm (n : Nat) : isNm (nT n) = false := by
  unfold isNm
  rw [nT_letters, Bool.and_false]
end SJ
set_option maxRecDepth 100000
set_option maxHeartbeats 4000000
/-! W1: names and numbers as words. -/
namespace SJ
open PySem PySem.Spec PyProof.Rows L2
abbrev FD (K : PySem.W.Frag) (d : He.DefD) (f : Addr) (fd : FuncData) : Prop := FunD K d.name d.qual d.params d.body d.scope (d.dvs K) (d.kws K) f fd
section
variable {P : Program} {w : World} {K : PySem.W.Frag} {mg : Str → Option Value} {base : Heap} {f : Addr} {fd : FuncData}
def R_made_of : List PyData → PyData → Prop := fun ds d => ∃ (t g : Str) (m : Int), ds = [.str t, .str g, .int m] ∧ t.length ≤ 100000 ∧ d = .bool (madeOf t g m)
theorem sc_made_of : FnScope ["text", "signs", "most", "sign"] ["text", "signs", "most"] (defScope s_made_of) := ⟨rfl, rfl, rfl, by decide +kernel, rfl, by decide +kernel, by decide +kernel⟩
theorem ok_made_of (T : Tx K mg) (F : FD K d_made_of f fd) : FnOk P w K mg base CX0 1 f fd ["text", "signs", "most"] (SpD K R_made_of) := by
  refine fn_data F sc_made_of (fun ds d h => by obtain ⟨_, _, _, rfl, _⟩ := h; rfl) fun cdv A outer s H E hr ds d h => ?_
  obtain ⟨t, g, m, rfl, hl, rfl⟩ := h
  refine ds_ret (d_and' (d_chain d_int (d_lenS T.f_len (d_var 0 rfl) hl) o_leI (fun _ => d_var 2 rfl) o_leI) fun _ => d_one ?_) rfl
  refine d_is (d_all (bs := t.cps.toList.map fun c => decide (c ∈ g.cps.toList)) T.f_all (d_is (d_lcN 3 sc_made_of (fun d => match d with | .str z => .bool (z.cps.toList.all fun c => decide (c ∈ g.cps.toList)) | _ => .none) (di_str (d_var 0 rfl)) (by decide +kernel) (by unfold signs; rw [List.length_map]; exact hl) (fun j d hd => ?_)) ?_)) ?_
  · unfold signs at hd
    rw [List.getElem?_map] at hd
    cases hc : t.cps.toList[j]? with
    | none => rw [hc] at hd; cases hd
    | some c =>
      rw [hc] at hd
      cases hd
      refine fun _ _ _ _ _ => d_is (d_cmp (d_var 3 rfl) (d_var 1 rfl) o_inS) ?_
      show PyData.bool _ = PyData.bool ([c].all fun c => decide (c ∈ g.cps.toList))
      simp
  · unfold signs
    rw [List.map_map, List.map_map]
    refine congrArg PyData.list (List.map_congr_left fun c _ => ?_)
    show PyData.bool ([c].all fun c => decide (c ∈ g.cps.toList)) = PyData.bool _
    simp
  · rw [List.all_map]
    rfl
abbrev G_made_of (P : Program) (w : World) (K : PySem.W.Frag) (mg : Str → Option Value) (base : Heap) : Prop := GFn P w K mg base "made_of" 1 (SpD K R_made_of)

def R_is_name : List PyData → PyData → Prop := fun ds d => ∃ t : Str, ds = [.str t] ∧ t.length ≤ 100000 ∧ d = .bool (isNm t)
theorem sc_is_name : FnScope ["text"] ["text"] (defScope s_is_name) := ⟨rfl, rfl, rfl, by decide +kernel, rfl, by decide +kernel, by decide +kernel⟩
theorem ok_is_name (T : Tx K mg) (g1 : G_made_of P w K mg base) (F : FD K d_is_name f fd) : FnOk P w K mg base CX0 2 f fd ["text"] (SpD K R_is_name) := by
  refine fn_data F sc_is_name (fun ds d h => by obtain ⟨_, rfl, _⟩ := h; rfl) fun cdv A outer s H E hr ds d h => ?_
  obtain ⟨t, rfl, hl, rfl⟩ := h
  refine ds_if (t := kwB t) (PW.pt (dw_or' (dt_cmp (d_var 0 rfl) (d_cst T.c_BOXES_words) o_inST) fun _ => dw_or' (dt_cmp (d_var 0 rfl) (d_cst T.c_DEEDS) o_inST) fun _ => dw_or1 (dt_cmp (d_var 0 rfl) (d_cst T.c_ASKED) o_inST)))
    (fun h => ds_ret d_bl ?_) (fun h => ds_nil (ds_ret (d_call g1 hr (da_cons (d_var 0 rfl) (da_cons (d_cst T.c_LETTERS) (da_cons d_int da_nil))) ⟨t, _, _, rfl, hl, rfl⟩) ?_))
  · unfold isNm; rw [h]; rfl
  · unfold isNm; rw [h]; rfl
abbrev G_is_name (P : Program) (w : World) (K : PySem.W.Frag) (mg : Str → Option Value) (base : Heap) : Prop := GFn P w K mg base "is_name" 2 (SpD K R_is_name)

def R_read_number : List PyData → PyData → Prop := fun ds d => ∃ n : Nat, n < 1000000000 ∧ ds = [.str (nT n)] ∧ d = .int (n : Nat)
theorem sc_read_number : FnScope ["text"] ["text"] (defScope s_read_number) := ⟨rfl, rfl, rfl, by decide +kernel, rfl, by decide +kernel, by decide +kernel⟩
theorem ok_read_number (T : Tx K mg) (g1 : G_made_of P w K mg base) (F : FD K d_read_number f fd) : FnOk P w K mg base CX0 2 f fd ["text"] (SpD K R_read_number) := by
  refine fn_data F sc_read_number (fun ds d h => by obtain ⟨_, _, rfl, _⟩ := h; rfl) fun cdv A outer s H E hr ds d h => ?_
  obtain ⟨n, hn, rfl, rfl⟩ := h
  have hl := nT_len hn
  refine ds_skip (dt_is (PW.pt (dw_or' (dt_not (dt_val (d_call g1 hr (da_cons (d_var 0 rfl) (da_cons (d_cst T.c_FIGURES) (da_cons d_int da_nil))) ⟨nT n, _, _, rfl, by omega, rfl⟩))) fun _ =>
    dw_or1 (PW.pt (dw_and' (dt_val (d_startswith (d_var 0 rfl) d_str)) fun _ => dw_and1 (dt_cmp (d_lenS T.f_len (d_var 0 rfl) (by omega)) d_int o_gtI))))) ?_) (ds_ret (d_intOf T.f_int (d_var 0 rfl) (nT_int hn) (by omega)) rfl)
  rw [nT_figures hn, nT_nought]
  rfl
abbrev G_read_number (P : Program) (w : World) (K : PySem.W.Frag) (mg : Str → Option Value) (base : Heap) : Prop := GFn P w K mg base "read_number" 2 (SpD K R_read_number)

/-- a number's expression -/
def numE (n : Nat) : PyData := .tuple [.str "num", .int (n : Nat)]
def R_leaf_of : List PyData → PyData → Prop := fun ds d => ∃ n : Nat, n < 1000000000 ∧ ds = [.str (nT n)] ∧ d = numE n
theorem sc_leaf_of : FnScope ["word"] ["word"] (defScope s_leaf_of) := ⟨rfl, rfl, rfl, by decide +kernel, rfl, by decide +kernel, by decide +kernel⟩
theorem ok_leaf_of (g1 : G_is_name P w K mg base) (g2 : G_read_number P w K mg base) (F : FD K d_leaf_of f fd) : FnOk P w K mg base CX0 3 f fd ["word"] (SpD K R_leaf_of) := by
  refine fn_data F sc_leaf_of (fun ds d h => by obtain ⟨_, _, rfl, _⟩ := h; rfl) fun cdv A outer s H E hr ds d h => ?_
  obtain ⟨n, hn, rfl, rfl⟩ := h
  have hl := nT_len hn
  exact ds_skip (dt_is (dt_val (d_call g1 hr (da_cons (d_var 0 rfl) da_nil) ⟨nT n, rfl, by omega, rfl⟩)) (nT_nm n)) (ds_ret (d_tup (da_cons d_str (da_cons (d_call g2 hr (da_cons (d_var 0 rfl) da_nil) ⟨n, hn, rfl, rfl⟩) da_nil))) rfl)
abbrev G_leaf_of (P : Program) (w : World) (K : PySem.W.Frag) (mg : Str → Option Value) (base : Heap) : Prop := GFn P w K mg base "leaf_of" 3 (SpD K R_leaf_of)

def R_expression_at : List PyData → PyData → Prop := fun ds d => ∃ (ws : List Str) (i n : Nat), n < 1000000000 ∧ ws[i]? = some (nT n) ∧ ds = [.list (ws.map PyData.str), .int (i : Nat), .int 5] ∧ d = .tuple [numE n, .int ((i : Nat) + 1)]
theorem sc_expression_at : FnScope ["words", "at", "room", "word", "box", "one", "behind", "between", "other"] ["words", "at", "room"] (defScope s_expression_at) := ⟨rfl, rfl, rfl, by decide +kernel, rfl, by decide +kernel, by decide +kernel⟩
theorem ok_expression_at (T : Tx K mg) (g1 : G_leaf_of P w K mg base) (F : FD K d_expression_at f fd) : FnOk P w K mg base CX0 4 f fd ["words", "at", "room"] (SpD K R_expression_at) := by
  refine fn_data F sc_expression_at (fun ds d h => by obtain ⟨_, _, _, _, _, rfl, _⟩ := h; rfl) fun cdv A outer s H E hr ds d h => ?_
  obtain ⟨ws, i, n, hn, hi, rfl, rfl⟩ := h
  have hlt : i < ws.length := (List.getElem?_eq_some_iff.mp hi).1
  have hat : atI (ws.map PyData.str) ((i : Nat) : Int) = some (PyData.str (nT n)) := atI_nat (by rw [List.getElem?_map, hi]; rfl)
  refine ds_skip (dt_is (dt_cmp (d_var 1 rfl) (d_lenL T.f_len (d_var 0 rfl)) o_geI) (decide_eq_false (by rw [List.length_map]; omega))) ?_
  refine ds_set 3 (d_ixL (d_var 0 rfl) (d_var 1 rfl) hat) ?_ sc_expression_at.nd
  refine ds_skip (dt_is (dt_cmp (d_var 3 rfl) (d_cst T.c_BARE_LOOKS) o_inST) (nT_notIn (by decide +kernel))) ?_
  refine ds_ifT (dt_is (PW.pt (dw_and' (dt_cmp (d_var 3 rfl) (d_cst T.c_LOOKS_words) o_ninST) fun _ => dw_and1 (dt_cmp (d_var 3 rfl) (d_cst T.c_WORKINGS) o_ninST))) (by rw [nT_notIn (by decide +kernel), nT_notIn (by decide +kernel)]; rfl)) ?_
  exact ds_ret (d_tup (da_cons (d_call g1 hr (da_cons (d_var 3 rfl) da_nil) ⟨n, hn, rfl, rfl⟩) (da_cons (d_bin (d_var 1 rfl) d_int o_addI) da_nil))) rfl
abbrev G_expression_at (P : Program) (w : World) (K : PySem.W.Frag) (mg : Str → Option Value) (base : Heap) : Prop := GFn P w K mg base "expression_at" 4 (SpD K R_expression_at) [.int 5]
end
end SJ
set_option maxRecDepth 100000
set_option maxHeartbeats 4000000
/-! W2: lines. -/
namespace SJ
open PySem PySem.Spec PyProof.Rows L2
section
variable {P : Program} {w : World} {K : PySem.W.Frag} {mg : Str → Option Value} {base : Heap} {f : Addr} {fd : FuncData}
/-- the numbers written behind the first i words -/
def R_expressions_from : List PyData → PyData → Prop := fun ds d => ∃ (as : List Str) (ns : List Nat), (∀ n ∈ ns, n < 1000000000) ∧ as.length + ns.length ≤ 1000 ∧ ds = [.list ((as ++ ns.map nT).map PyData.str), .int (as.length : Nat)] ∧ d = .list (ns.map numE)
theorem sc_expressions_from : FnScope ["words", "at", "found", "one"] ["words", "at"] (defScope s_expressions_from) := ⟨rfl, rfl, rfl, by decide +kernel, rfl, by decide +kernel, by decide +kernel⟩
theorem ok_expressions_from (T : Tx K mg) (g1 : G_expression_at P w K mg base) (F : FD K d_expressions_from f fd) : FnOk P w K mg base CX0 5 f fd ["words", "at"] (SpD K R_expressions_from) := by
  refine fn_data F sc_expressions_from (fun ds d h => by obtain ⟨_, _, _, _, rfl, _⟩ := h; rfl) fun cdv A outer s H E hr ds d h => ?_
  obtain ⟨as, ns, hn, hl, rfl, rfl⟩ := h
  refine ds_newL 2 (fun l => ?_) sc_expressions_from.nd
  refine ds_while (fun m Γ => m ≤ ns.length ∧ ∃ x, Γ = [.dat (.list ((as ++ ns.map nT).map PyData.str)), .dat (.int ((as.length + (ns.length - m) : Nat) : Int)), .ml l ((ns.take (ns.length - m)).map numE), x]) ns.length ⟨Nat.le_refl _, .un, ?_⟩ (fun m Γ1 hi => ?_)
  · rw [Nat.sub_self, Nat.add_zero, List.take_zero]
    rfl
  · obtain ⟨hm, x, rfl⟩ := hi
    refine ⟨_, dt_cmp (d_var 1 rfl) (d_lenL T.f_len (d_var 0 rfl)) o_ltI, fun hb => ?_, fun hb => ?_⟩
    · have hlt := of_decide_eq_true hb
      rw [List.length_map, List.length_append, List.length_map] at hlt
      have hm1 : ns.length - m < ns.length := by omega
      have hget : ns[ns.length - m]? = some ns[ns.length - m] := List.getElem?_eq_getElem hm1
      have hws : (as ++ ns.map nT)[as.length + (ns.length - m)]? = some (nT ns[ns.length - m]) := by
        rw [List.getElem?_append_right (Nat.le_add_right _ _), Nat.add_sub_cancel_left, List.getElem?_map, hget]
        rfl
      refine ds_asg (d_callD g1 (es' := [.int 5]) (fun G => .one (.int 5)) hr (da_cons (d_var 0 rfl) (da_cons (d_var 1 rfl) da_nil)) ⟨_, _, _, hn _ (List.getElem_mem hm1), hws, rfl, rfl⟩)
        (pg_pr (i := 3) (j := 1) rfl sc_expressions_from.nd rfl rfl (Or.inl rfl) (Or.inl rfl) (Or.inl rfl) (Or.inl rfl)) (tg_pr 3 1) (pr_ad 3 1) rfl ?_
      refine ds_app 2 (ds := (ns.take (ns.length - m)).map numE) (d_var 3 rfl) (ds_nil ⟨m - 1, by omega, by omega, .dat (numE ns[ns.length - m]), ?_⟩) (by rw [List.length_map, List.length_take]; omega)
      have e1 : ns.length - (m - 1) = (ns.length - m) + 1 := by omega
      have e2 : ns.take (ns.length - m + 1) = ns.take (ns.length - m) ++ [ns[ns.length - m]] := by rw [List.take_succ, hget]; rfl
      have e3 : (ns.take (ns.length - m)).map numE ++ [numE ns[ns.length - m]] = (ns.take (ns.length - m + 1)).map numE := by rw [e2, List.map_append]; rfl
      have e4 : (((as.length + (ns.length - m) : Nat) : Int) + 1) = ((as.length + (ns.length - m + 1) : Nat) : Int) := by omega
      rw [e1, ← e3, ← e4]
      rfl
    · have hge := of_decide_eq_false hb
      rw [List.length_map, List.length_append, List.length_map] at hge
      have hm0 : m = 0 := by omega
      subst hm0
      refine ds_freeze 2 (ds_ret (d_var 2 rfl) ?_)
      rw [Nat.sub_zero, List.take_length]
abbrev G_expressions_from (P : Program) (w : World) (K : PySem.W.Frag) (mg : Str → Option Value) (base : Heap) : Prop := GFn P w K mg base "expressions_from" 5 (SpD K R_expressions_from)

def R_between : List PyData → PyData → Prop := fun ds d => ∃ (xs : List PyData) (lo hi : Int), ds = [.list xs, .int lo, .int hi] ∧ lo ≤ (xs.length : Int) ∧ (xs.length : Int) ≤ hi ∧ d = .list xs
theorem sc_between : FnScope ["some", "low", "high"] ["some", "low", "high"] (defScope s_between) := ⟨rfl, rfl, rfl, by decide +kernel, rfl, by decide +kernel, by decide +kernel⟩
theorem ok_between (T : Tx K mg) (F : FD K d_between f fd) : FnOk P w K mg base CX0 1 f fd ["some", "low", "high"] (SpD K R_between) := by
  refine fn_data F sc_between (fun ds d h => by obtain ⟨_, _, _, rfl, _⟩ := h; rfl) fun cdv A outer s H E hr ds d h => ?_
  obtain ⟨xs, lo, hi, rfl, h1, h2, rfl⟩ := h
  refine ds_skip (dt_is (dt_not (dt_chain (d_var 1 rfl) (d_lenL T.f_len (d_var 0 rfl)) o_leI (fun _ => d_var 2 rfl) o_leI)) ?_) (ds_ret (d_var 0 rfl) rfl)
  rw [decide_eq_true h1, decide_eq_true h2]
  rfl
abbrev G_between (P : Program) (w : World) (K : PySem.W.Frag) (mg : Str → Option Value) (base : Heap) : Prop := GFn P w K mg base "between" 1 (SpD K R_between)

def R_names_from : List PyData → PyData → Prop := fun ds d => ∃ (ws : List Str) (lo hi : Int), ds = [.list (ws.map PyData.str), .int lo, .int hi] ∧ lo ≤ (ws.length : Int) ∧ (ws.length : Int) ≤ hi ∧ (∀ x ∈ ws, x.length ≤ 100000 ∧ isNm x = true) ∧ d = .list (ws.map PyData.str)
theorem sc_names_from : FnScope ["words", "low", "high", "word"] ["words", "low", "high"] (defScope s_names_from) := ⟨rfl, rfl, rfl, by decide +kernel, rfl, by decide +kernel, by decide +kernel⟩
theorem ok_names_from (T : Tx K mg) (g1 : G_between P w K mg base) (g2 : G_is_name P w K mg base) (F : FD K d_names_from f fd) : FnOk P w K mg base CX0 3 f fd ["words", "low", "high"] (SpD K R_names_from) := by
  refine fn_data F sc_names_from (fun ds d h => by obtain ⟨_, _, _, rfl, _⟩ := h; rfl) fun cdv A outer s H E hr ds d h => ?_
  obtain ⟨ws, lo, hi, rfl, h1, h2, h3, rfl⟩ := h
  refine ds_forN 3 (fun i Γ => ∃ x, Γ = [.dat (.list (ws.map PyData.str)), .dat (.int lo), .dat (.int hi), x]) (di_list (d_call g1 (hr.mono (by decide)) (da_cons (d_var 0 rfl) (da_cons (d_var 1 rfl) (da_cons (d_var 2 rfl) da_nil))) ⟨ws.map PyData.str, lo, hi, rfl, by rw [List.length_map]; exact h1, by rw [List.length_map]; exact h2, rfl⟩)) ⟨.un, rfl⟩ (fun i d Γ1 hd hi => ?_) (fun Γ' hi => ?_) sc_names_from.nd
  · obtain ⟨x, rfl⟩ := hi
    rw [List.getElem?_map] at hd
    cases hw : ws[i]? with
    | none => rw [hw] at hd; cases hd
    | some z =>
      rw [hw] at hd
      cases hd
      obtain ⟨hz, hz2⟩ := h3 z (List.mem_of_getElem? hw)
      refine ds_skip (dt_is (dt_not (dt_val (d_call g2 hr (da_cons (d_var 3 rfl) da_nil) ⟨z, rfl, hz, rfl⟩))) ?_) (ds_nil ⟨.dat (.str z), rfl⟩)
      rw [hz2]
      rfl
  · obtain ⟨x, rfl⟩ := hi
    exact ds_ret (d_var 0 rfl) rfl
abbrev G_names_from (P : Program) (w : World) (K : PySem.W.Frag) (mg : Str → Option Value) (base : Heap) : Prop := GFn P w K mg base "names_from" 3 (SpD K R_names_from)

/-- a put's words -/
abbrev putW (nm : Str) (ns : List Nat) : List Str := ([("put" : Str), nm] : List Str) ++ ns.map nT
/-- a put's line -/
def putL (nm : Str) (ns : List Nat) : PyData := .tuple [.str "put", .str nm, .list (ns.map numE)]
def R_read_named : List PyData → PyData → Prop := fun ds d => ∃ (nm : Str) (ns : List Nat), nm.length ≤ 100000 ∧ isNm nm = true ∧ (∀ n ∈ ns, n < 1000000000) ∧ 1 ≤ ns.length ∧ ns.length ≤ 4 ∧ ds = [.list ((putW nm ns).map PyData.str)] ∧ d = putL nm ns
theorem sc_read_named : FnScope ["words", "some"] ["words"] (defScope s_read_named) := ⟨rfl, rfl, rfl, by decide +kernel, rfl, by decide +kernel, by decide +kernel⟩
theorem ok_read_named (T : Tx K mg) (g1 : G_names_from P w K mg base) (g2 : G_expressions_from P w K mg base) (g3 : G_between P w K mg base) (F : FD K d_read_named f fd) : FnOk P w K mg base CX0 6 f fd ["words"] (SpD K R_read_named) := by
  refine fn_data F sc_read_named (fun ds d h => by obtain ⟨_, _, _, _, _, _, _, rfl, _⟩ := h; rfl) fun cdv A outer s H E hr ds d h => ?_
  obtain ⟨nm, ns, h1, h2, h3, h4, h5, rfl, rfl⟩ := h
  have e0 : cutA ((putW nm ns).map PyData.str) (some 1) (some 2) = [PyData.str nm] := by
    unfold cutA
    have a1 : HT.sIx ((putW nm ns).map PyData.str).length 0 (some 1) = 1 := by
      show min 1 _ = 1
      exact Nat.min_eq_left (by simp)
    have a2 : HT.sIx ((putW nm ns).map PyData.str).length ((putW nm ns).map PyData.str).length (some 2) = 2 := by
      show min 2 _ = 2
      exact Nat.min_eq_left (by simp)
    rw [a1, a2]
    rfl
  refine ds_expr (d_call g1 (hr.mono (by decide)) (da_cons (d_slL (d_var 0 rfl) (do_some d_int) (do_some d_int)) (da_cons d_int (da_cons d_int da_nil))) ⟨[nm], 1, 1, by rw [e0]; rfl, Int.le_refl _, Int.le_refl _, fun x hx => by rw [List.mem_singleton.mp hx]; exact ⟨h1, h2⟩, rfl⟩) ?_
  refine ds_set 1 (d_call g2 hr (da_cons (d_var 0 rfl) (da_cons d_int da_nil)) ⟨[("put" : Str), nm], ns, h3, by show 2 + ns.length ≤ 1000; omega, rfl, rfl⟩) ?_ sc_read_named.nd
  refine ds_skip (dt_is (dt_cmp (d_ixL (d_var 0 rfl) d_int (d := .str "put") at0) d_str o_eqS)) ?_
  refine ds_ifT (dt_is (dt_cmp (d_ixL (d_var 0 rfl) d_int (d := .str "put") at0) d_str o_eqS)) ?_
  exact ds_ret (d_tup (da_cons d_str (da_cons (d_ixL (d_var 0 rfl) d_int (d := .str nm) at1) (da_cons (d_call g3 (hr.mono (by decide)) (da_cons (d_var 1 rfl) (da_cons d_int (da_cons d_int da_nil))) ⟨_, 1, 4, rfl, by rw [List.length_map]; omega, by rw [List.length_map]; omega, rfl⟩) da_nil)))) rfl
abbrev G_read_named (P : Program) (w : World) (K : PySem.W.Frag) (mg : Str → Option Value) (base : Heap) : Prop := GFn P w K mg base "read_named" 6 (SpD K R_read_named)
def R_read_line : List PyData → PyData → Prop := fun ds d => ∃ (t : Str) (ws : List Str), t.length ≤ 100000 ∧ Txt.split t " " = ws ∧ ds = [.str t] ∧
  ((∃ k nm : Str, ws = [k, nm] ∧ (["most", "set", "once", "row", "map"] : List Str).any (· == k) = true ∧ nm.length ≤ 100000 ∧ isNm nm = true ∧ d = .tuple [.str "box", .str k, .str nm]) ∨
   (ws = ([("job" : Str), ("main" : Str)] : List Str) ∧ d = .tuple [.str "job", .str "main", .list []]) ∨
   (∃ (nm : Str) (ns : List Nat), ws = putW nm ns ∧ nm.length ≤ 100000 ∧ isNm nm = true ∧ (∀ n ∈ ns, n < 1000000000) ∧ 1 ≤ ns.length ∧ ns.length ≤ 4 ∧ d = putL nm ns) ∨
   (ws = ([("end" : Str)] : List Str) ∧ d = .tuple [.str "end"]))
theorem sc_read_line : FnScope ["text", "words", "word", "names"] ["text"] (defScope s_read_line) := ⟨rfl, rfl, rfl, by decide +kernel, rfl, by decide +kernel, by decide +kernel⟩
theorem ok_read_line (T : Tx K mg) (g1 : G_names_from P w K mg base) (g2 : G_read_named P w K mg base) (g3 : G_between P w K mg base) (F : FD K d_read_line f fd) : FnOk P w K mg base CX0 7 f fd ["text"] (SpD K R_read_line) := by
  refine fn_data F sc_read_line (fun ds d h => by obtain ⟨_, _, _, _, rfl, _⟩ := h; rfl) fun cdv A outer s H E hr ds d h => ?_
  obtain ⟨t, ws, hl, hs, rfl, h⟩ := h
  refine ds_set 1 (d_is (d_split (d_var 0 rfl) d_str (by decide +kernel) (Nat.le_trans (Nat.add_le_add_right hl 2) (by decide))) (by rw [hs])) ?_ sc_read_line.nd
  have cut1 : ∀ (a b : Str), cutA ([a, b].map PyData.str) (some 1) none = [PyData.str b] := fun a b => rfl
  rcases h with ⟨k, nm, rfl, hk, h1, h2, rfl⟩ | ⟨rfl, rfl⟩ | ⟨nm, ns, rfl, h1, h2, h3, h4, h5, rfl⟩ | ⟨rfl, rfl⟩
  · refine ds_set 2 (d_ixL (d_var 1 rfl) d_int (d := .str k) at0) ?_ sc_read_line.nd
    refine ds_ifT (dt_is (dt_cmp (d_var 2 rfl) (d_cst T.c_BOXES_lines) o_inST) hk) ?_
    exact ds_ret (d_tup (da_cons d_str (da_cons (d_var 2 rfl) (da_cons (d_ixL (d_call g1 (hr.mono (by decide)) (da_cons (d_is (d_slL (d_var 1 rfl) (do_some d_int) do_none) (congrArg PyData.list (cut1 k nm))) (da_cons d_int (da_cons d_int da_nil))) ⟨[nm], 1, 1, rfl, Int.le_refl _, Int.le_refl _, fun x hx => by rw [List.mem_singleton.mp hx]; exact ⟨h1, h2⟩, rfl⟩) d_int (d := .str nm) at0) da_nil)))) rfl
  · refine ds_set 2 (d_ixL (d_var 1 rfl) d_int (d := .str "job") at0) ?_ sc_read_line.nd
    refine ds_skip (dt_is (dt_cmp (d_var 2 rfl) (d_cst T.c_BOXES_lines) o_inST)) ?_
    refine ds_ifT (dt_is (dt_cmp (d_var 2 rfl) d_str o_eqS)) ?_
    refine ds_set 3 (d_call g1 (hr.mono (by decide)) (da_cons (d_is (d_slL (d_var 1 rfl) (do_some d_int) do_none) (congrArg PyData.list (cut1 _ _))) (da_cons d_int (da_cons (d_bin d_int (d_cst T.c_MOST_PARAMS) o_addI) da_nil))) ⟨["main"], 1, 1 + 4, rfl, by decide, by decide, fun x hx => by rw [List.mem_singleton.mp hx]; decide +kernel, rfl⟩) ?_ sc_read_line.nd
    exact ds_ret (d_tup (da_cons d_str (da_cons (d_ixL (d_var 3 rfl) d_int (d := .str "main") at0) (da_cons (d_is (d_slL (d_var 3 rfl) (do_some d_int) do_none) (congrArg PyData.list (by rfl : cutA (([("main" : Str)] : List Str).map PyData.str) (some 1) none = []))) da_nil)))) rfl
  · refine ds_set 2 (d_ixL (d_var 1 rfl) d_int (d := .str "put") at0) ?_ sc_read_line.nd
    refine ds_skip (dt_is (dt_cmp (d_var 2 rfl) (d_cst T.c_BOXES_lines) o_inST)) ?_
    refine ds_skip (dt_is (dt_cmp (d_var 2 rfl) d_str o_eqS)) ?_
    refine ds_ifT (dt_is (dt_cmp (d_var 2 rfl) (d_tup (da_cons d_str (da_cons d_str (da_cons d_str da_nil)))) (o_inST (ss := ["let", "put", "begin"])))) ?_
    exact ds_ret (d_call g2 hr (da_cons (d_var 1 rfl) da_nil) ⟨nm, ns, h1, h2, h3, h4, h5, rfl, rfl⟩) rfl
  · refine ds_set 2 (d_ixL (d_var 1 rfl) d_int (d := .str "end") at0) ?_ sc_read_line.nd
    refine ds_skip (dt_is (dt_cmp (d_var 2 rfl) (d_cst T.c_BOXES_lines) o_inST)) ?_
    refine ds_skip (dt_is (dt_cmp (d_var 2 rfl) d_str o_eqS)) ?_
    refine ds_skip (dt_is (dt_cmp (d_var 2 rfl) (d_tup (da_cons d_str (da_cons d_str (da_cons d_str da_nil)))) (o_inST (ss := ["let", "put", "begin"])))) ?_
    refine ds_skip (dt_is (dt_cmp (d_var 2 rfl) d_str o_eqS)) ?_
    refine ds_skip (dt_is (dt_cmp (d_var 2 rfl) d_str o_eqS)) ?_
    refine ds_skip (dt_is (dt_cmp (d_var 2 rfl) (d_cst T.c_WITH_ONE) o_inST)) ?_
    refine ds_ifT (dt_is (dt_cmp (d_var 2 rfl) (d_cst T.c_ALONE) o_inST)) ?_
    exact ds_expr (d_call g3 (hr.mono (by decide)) (da_cons (d_var 1 rfl) (da_cons d_int (da_cons d_int da_nil))) ⟨_, 1, 1, rfl, Int.le_refl _, Int.le_refl _, rfl⟩) (ds_ret (d_tup (da_cons (d_var 2 rfl) da_nil)) rfl)
abbrev G_read_line (P : Program) (w : World) (K : PySem.W.Frag) (mg : Str → Option Value) (base : Heap) : Prop := GFn P w K mg base "read_line" 7 (SpD K R_read_line)

end
end SJ
set_option maxRecDepth 100000
set_option maxHeartbeats 4000000
/-! S0: set(list) by any walk of its items; len(set(texts)). -/
namespace L2
open PySem PySem.Spec PyProof.Rows
/-- a set that is new -/
abbrev setNew (led : Bool) : Obj := { cls := .type "set", dict := none, data := .set #[] 0 (.fresh 0 0 led) }
section
variable {P : Program} {w : World} {A : Around} {E : Value → Shared → Prop} {s : Shared}
/-- the walk that fills the set S of this list; what then holds of the heap -/
def Fills (P : Program) (w : World) (S l : Addr) (items : Array Value) (Post : Heap → Prop) : Prop :=
  ∀ (A : Around) (I : Addr) (G : Array GenState → Array GenState → Prop) (St : Nat → Shared → Prop) (s1 : Shared) (R : Result → Shared → Prop),
    WalksS P w A.in1 I [I, l] [I] G items.size (fun i v => items[i]? = some v) St → S ∉ [I, l] → St 0 s1 → s1.heap.get? S = some (setNew (!w.params.followText "set-order")) →
    (∀ s', Moved [S, I] G s1 s' → Post s'.heap → R (.ok (.ret .none)) s') → codeAny (model P w) A (.builtin "set.update.loop" ⟨[.ref S, .ref I], []⟩) R s1
theorem call_setL {l : Addr} {items : Array Value} {Post : Heap → Prop} {Q : Value → Shared → Prop} (hh : A.handled = none) (hl : s.heap.IsList l items) (run : Fills P w s.heap.objs.size l items Post)
    (h : ∀ (h' : Heap) (tk : Nat), Post h' → (∀ b o, s.heap.get? b = some o → h'.get? b = some o) → Q (.ref s.heap.objs.size) { s with heap := h', toks := tk }) : wpAny (model P w) A (call (.type "set") [.ref l]) Q E s := by
  have fresh : ∀ (a : Addr) (o : Obj), s.heap.get? a = some o → a ≠ s.heap.objs.size ∧ a ≠ s.heap.objs.size + 1 := fun a o e => by
    have := Heap.lt_size e
    exact ⟨Nat.ne_of_lt this, Nat.ne_of_lt (Nat.lt_succ_of_lt this)⟩
  obtain ⟨c, tl, m0⟩ := F.called_set.mro
  have m1 := F.called_set.made
  have m2 := F.called_set.sub
  refine wpAny_call (codeAny_of_tree ?_)
  show wpAny _ _ (callAny (.type "set") _) _ _ _
  refine wpAny_pure ⟨Code.quiet_builtin _ (by decide +kernel), codeAny_builtin F.entry_type_call ?_⟩
  rw [Around.under_plain (weight_type_call_type "set" [.ref l] []) rfl]
  have m3 := F.called_set.notType
  have m4 := F.called_set.canCreate
  have m5 := F.typeCall_set_1 (.ref l)
  repeat (any_goals (first | assumption | wp_step))
  refine codeAny_mono (code_set_led1 (.ref l) (E := E) (Q₁ := fun v s1 => v = .ref s.heap.objs.size ∧ s1 = { s with heap := s.heap.push (setNew (!w.params.followText "set-order")) }) ⟨rfl, rfl⟩) fun r s1 hr => ?_
  match r, hr with
  | .error e, hr => exact hr
  | .ok (.ret v), hr =>
    obtain ⟨rfl, rfl⟩ := hr
    have n0 : (s.heap.push (setNew (!w.params.followText "set-order"))).get? s.heap.objs.size = some (setNew (!w.params.followText "set-order")) := Heap.get?_push_size _ rfl
    have n1 : Shared.TypeIs { s with heap := s.heap.push (setNew (!w.params.followText "set-order")) } (.ref s.heap.objs.size) "set" := ⟨_, n0, rfl⟩
    have n2 := F.called_set.init.lookup
    have n3 := F.called_set.init.bind (.ref s.heap.objs.size)
    repeat (any_goals (first | assumption | wp_step))
    refine codeAny_mono (codeAny_call_builtin (R := wants (fun r s2 => r = .none ∧ ∃ h' tk, s2 = { s with heap := h', toks := tk } ∧ Post h' ∧ ∀ b o, s.heap.get? b = some o → h'.get? b = some o) E) F.called_set.init.plain F.entry_set_init (check_set_init_1 n1 ?_)) fun r2 s2 hr2 => ?_
    · obtain ⟨⟨ocls, odict, odata, oslots⟩, hol, hcl, nl, hdl⟩ := hl
      simp only at hcl hdl
      subst hcl hdl
      have hol2 : (s.heap.push (setNew (!w.params.followText "set-order"))).get? l = some { cls := .type "list", dict := odict, data := .seq items nl, slots := oslots } := Heap.get?_push_of_some _ hol
      have q1 := F.sub_list_set
      have q2 := F.sub_list_frozenset
      have q3 : (Value.type "list" == Value.type "dict") = false := by decide
      have q4 : (s.heap.push (setNew (!w.params.followText "set-order"))).IsList l items := ⟨_, hol2, rfl, nl, rfl⟩
      unfold Builtin.«set.__init__» noKeywords Builtin.Frozenset.updateFrom
      generalize eI : pyIter = PI
      wp_walk
      subst eI
      refine wpAny_pyIter_list q4 (wpAny_bind (wpAny_runValue ?_))
      have sz : (s.heap.push (setNew (!w.params.followText "set-order"))).objs.size = s.heap.objs.size + 1 := Heap.size_push ..
      obtain ⟨f1, f2⟩ := fresh l _ hol
      have ne : l ≠ (s.heap.push (setNew (!w.params.followText "set-order"))).objs.size := by rw [sz]; exact f2
      refine run _ _ _ _ _ _ (Walks.list (by simp [hh]) _ l ne items).toS (by rw [sz]; simp only [List.mem_cons, List.not_mem_nil, or_false, not_or]; exact ⟨Nat.ne_of_lt (Nat.lt_succ_self _), Ne.symm f1⟩) ⟨⟨_, Heap.get?_push_size _ rfl, rfl, rfl⟩, q4.push _⟩ (Heap.get?_push_of_some _ n0) fun s' hm hp => ?_
      obtain ⟨h', g2, d', tk', os'⟩ := s'
      obtain rfl : g2 = s.gens := hm.gens
      obtain rfl : d' = s.drawn := hm.drawn
      obtain rfl : os' = s.os := hm.os
      refine wpAny_pure ?_
      show wpAny _ _ (ret Value.none) _ _ _
      refine wpAny_pure ⟨rfl, h', tk', rfl, hp, fun b o e => ?_⟩
      obtain ⟨b1, b2⟩ := fresh b o e
      exact hm.heap b o (by rw [sz]; simp only [List.mem_cons, List.not_mem_nil, or_false, not_or]; exact ⟨b1, b2⟩) (Heap.get?_push_of_some _ (Heap.get?_push_of_some _ e))
    · match r2, hr2 with
      | .error e, hr2 => exact hr2
      | .ok (.ret v), hr2 =>
        obtain ⟨rfl, h', tk, rfl, hp, hk⟩ := hr2
        repeat (any_goals (first | assumption | wp_step))
        exact h _ _ hp hk
end
end L2
namespace L2
open PySem PySem.Spec PyProof.Rows
section
variable {P : Program} {w : World} {A : Around} {E : Value → Shared → Prop} {s : Shared}
theorem fills_ints {S l : Addr} {items : Array Value} {ns : List Int} (hi : IntsAre items.toList ns) (hb : ns.length + 1 < scanBound) : Fills P w S l items (fun h => ∃ c, c ≤ ns.length ∧ SetR w h S (fun j => decide (j ∈ ns)) c) := by
  intro A I G St s1 R W hS st ho hR
  have hsz : items.size = ns.length := by
    have := hi.length
    rwa [Array.length_toList] at this
  refine set_update_ints W S hS ns hsz hb (fun i v hv => ?_) (items.size - 0) 0 _ rfl (Nat.zero_le _) st ⟨0, Nat.le_refl _, setR_new_at ho⟩ fun s' c hm hc hS' => hR s' hm ⟨c, by omega, hS'⟩
  have hlt : i < ns.length := by rw [← hsz]; exact (Array.getElem?_eq_some_iff.mp hv).1
  obtain ⟨t, e⟩ := hi.int_at i v (by rw [Array.getElem?_toList]; exact hv)
  rw [List.getD_eq_getElem?_getD, List.getElem?_eq_getElem hlt] at e
  exact ⟨ns[i], t, List.getElem?_eq_getElem hlt, e⟩
/-- a walk of unlike texts fills a set -/
theorem walk_texts {I : Addr} {fp wr : List Addr} {G : Array GenState → Array GenState → Prop} {n : Nat} {Pv : Nat → Value → Prop} {St : Nat → Shared → Prop} {R : Result → Shared → Prop}
    (W : WalksS P w A.in1 I fp wr G n Pv St) (S : Addr) (hS : S ∉ fp) (xs : List Str) (nd : xs.Nodup) (hn : n = xs.length) (hb : xs.length + 1 < scanBound) (hv : ∀ i v, Pv i v → ∃ k t, xs[i]? = some k ∧ v = .str k t) :
    ∀ (k i : Nat) (s : Shared), i + k = n → St i s → s.heap.SetOf (strKind P w) S (fun j => decide (j ∈ xs.take i)) i →
      (∀ s', Moved (S :: wr) G s s' → s'.heap.SetOf (strKind P w) S (fun j => decide (j ∈ xs.take n)) n → R (.ok (.ret .none)) s') →
      codeAny (model P w) A (.builtin "set.update.loop" ⟨[.ref S, .ref I], []⟩) R s
  | 0, i, s, e, st, ⟨o, es, ep, t, ho, r⟩, hR => by
    obtain rfl : i = n := by omega
    refine codeAny_builtin F.entry_set_update_loop ?_
    rw [Around.under_plainId F.plain_set_update_loop _]
    refine wpAny_bind (m := pyNext (.ref I)) (W.done s _ _ st fun s' hm => ?_)
    exact wpAny_pure (hR s' (hm.mono fun b m => List.mem_cons_of_mem _ m) ⟨o, es, ep, t, hm.heap S _ (fun z => hS (W.sub _ z)) ho, r⟩)
  | k + 1, i, s, e, st, ⟨o, es, ep, t, ho, r⟩, hR => by
    refine codeAny_builtin F.entry_set_update_loop ?_
    rw [Around.under_plainId F.plain_set_update_loop _]
    refine wpAny_bind (m := pyNext (.ref I)) (W.item i s _ _ (by omega) st fun v s' hP st' hm => ?_)
    obtain ⟨x, tk, hx, rfl⟩ := hv i v hP
    have hlt : i < xs.length := (List.getElem?_eq_some_iff.mp hx).1
    have hkey : (strKind P w).is x (.str x tk) = true := by
      show Value.isStrOf x (.str x tk) = true
      simp [Value.isStrOf]
    have S1 : s'.heap.SetOf (strKind P w) S (fun j => decide (j ∈ xs.take i)) i := ⟨o, es, ep, t, hm.heap S _ (fun z => hS (W.sub _ z)) ho, r⟩
    refine wpAny_bind (m := holding [Value.str x tk] (setAdd S (.str x tk))) (wpAny_holding ?_)
    unfold setAdd
    refine wpAny_holding (wpAny_bind ((strKind P w).pyHash hkey ?_))
    refine wpAny_setAddHashed_of (knd := strKind P w) (s := { s' with toks := s'.toks + 1 }) hkey rfl S1 (by omega) fun h' sb S2 => ?_
    have hnot : x ∉ xs.take i := fun m => by
      obtain ⟨j, hj⟩ := List.mem_iff_getElem?.mp m
      have hji : j < i := by
        have := (List.getElem?_eq_some_iff.mp hj).1
        rw [List.length_take] at this
        omega
      rw [List.getElem?_take_of_lt hji] at hj
      have := nd_ix nd hj hx
      omega
    have S3 : h'.SetOf (strKind P w) S (fun j => decide (j ∈ xs.take (i + 1))) (i + 1) := SetOf_congr S2 (fun j => by
      rw [List.take_add_one, hx]
      simp [List.mem_append]) (by rw [decide_eq_false hnot]; rfl)
    refine wpAny_pure ⟨plainId_quiet F.plain_set_update_loop _, walk_texts W S hS xs nd hn hb hv k (i + 1) _ (by omega) (W.frame _ s' _ _ st' (Nat.le_succ _) fun b hb o e => ?_) S3 fun s'' hm2 S4 => hR s'' (Moved.trans W.gtrans ((hm.mono fun b m => List.mem_cons_of_mem _ m).then_heap (Nat.le_succ _) fun b o hb e => ?_) hm2) S4⟩
    · exact (sb.2 b (fun z => hS (z ▸ hb))).trans e
    · exact (sb.2 b (fun z => hb (z ▸ List.mem_cons_self))).trans e
theorem strs_item : ∀ {us : List Value} {xs : List Str}, StrsAre us xs → ∀ (i : Nat) (v : Value), us[i]? = some v → ∃ k t, xs[i]? = some k ∧ v = .str k t
  | _, _, .nil, i, v, h => by simp at h
  | _, _, .cons n t _, 0, v, h => by
    simp at h
    exact ⟨n, t, rfl, h.symm⟩
  | _, _, .cons n t r, i + 1, v, h => by
    obtain ⟨k, t', e1, e2⟩ := strs_item r i v (by simpa using h)
    exact ⟨k, t', by simpa using e1, e2⟩
theorem fills_texts {S l : Addr} {items : Array Value} {xs : List Str} (hi : StrsAre items.toList xs) (nd : xs.Nodup) (hb : xs.length + 1 < scanBound) : Fills P w S l items (fun h => h.SetOf (strKind P w) S (fun j => decide (j ∈ xs)) xs.length) := by
  intro A I G St s1 R W hS st ho hR
  have hsz : items.size = xs.length := by
    have := hi.length
    rwa [Array.length_toList] at this
  refine walk_texts W S hS xs nd hsz hb (fun i v hv => ?_) items.size 0 _ (Nat.zero_add _) st ((setObjOf_fresh (knd := strKind P w) _).setOf ho (by unfold scanBound; omega)) fun s' hm hS' => hR s' hm ?_
  · exact strs_item hi i v (by rw [Array.getElem?_toList]; exact hv)
  · rw [hsz, List.take_length] at hS'
    exact hS'
end
section
variable {X : Cx}
/-- set(list of ints) -/
def rSetI (K : PySem.W.Frag) (w : World) : List V → Hp → VK → Prop := fun xs H Q => ∃ (l : Addr) (ns : List Int), xs = [V.ref l] ∧ SqL K H l (ns.map V.int) ∧ ns.length < 64 ∧ ∀ a c, c ≤ ns.length → H a = none → Q (.ref a) (upd H a (SetO w a (fun j => decide (j ∈ ns)) c))
theorem cr_setI (hc : X.calm = true) : CallR X (.type "set") (rSetI X.K X.w) := by
  intro pins s σ H xs us Q I r h
  obtain ⟨l, ns, rfl, hl, hn, q⟩ := h
  rw [Vals.ref1 r]
  obtain ⟨its, rv, pl, hz⟩ := I.list hl
  have hi := ints_of_vals rv
  refine call_setL (I.ok.hd hc) pl.isList (fills_ints (ns := ns) (by simpa using hi) (by unfold scanBound; omega)) fun h' tk ⟨c, hcn, R⟩ k => ?_
  exact ⟨.ref s.heap.objs.size, _, I.laid (t' := tk) k (Nat.le_refl _) (setO_new R), rfl, q _ c hcn (I.hok.fresh (Nat.le_refl _))⟩
/-- len(set(list of unlike texts)) -/
def tLenSetN (K : PySem.W.Frag) (ta : TE) : TE := fun σ H Q => ta σ H fun x H1 => ∃ (l : Addr) (xs : List Str), x = .ref l ∧ SqL K H1 l (xs.map V.str) ∧ xs.Nodup ∧ xs.length < 64 ∧ Q (.int xs.length) H1
theorem pe_lenSetN {a : Expr} {ta : TE} {p p2 q pos : Pos} (hc : X.calm = true) (hg : Gl X "len") (hm : X.mg "len" = none) (hg2 : Gl X "set") (hm2 : X.mg "set" = none) (ha : PE X a ta)
    (na : starEach [a] X.env = (false, eval a X.env) :: starEach [] X.env := by rfl) : PE X (.Call (.Name "len" p) [.Call (.Name "set" p2) [a] [] q] [] pos) (tLenSetN X.K ta) := by
  refine ⟨fun pins s σ H Q I h => Call_ (ld_blt I hg hm boot_len (callWith_builtin1 (args_cons (Call_ (ld_blt I hg2 hm2 boot_set (callWith_type1 (args_cons (thn (ha.run pins s σ H _ I h) fun v s1 ⟨x, H1, I1, r1, q1⟩ => args_nil ?_) na) na rfl))) rfl) rfl rfl))⟩
  obtain ⟨l, xs, rfl, hq, nd, h64, q1⟩ := q1
  cases r1
  obtain ⟨its, r, pl, hz⟩ := I1.list hq
  refine call_setL (I1.ok.hd hc) pl.isList (fills_texts (xs := xs) (by simpa using strsAre_of r) nd (by unfold scanBound; omega)) fun h' tk hS k => args_nil ?_
  obtain ⟨o, es, ep, t, ho, hex, hd, _, _, _, hf, hn⟩ := hS
  exact call_len_set ho hex hd hf (by rw [hn]; omega) ⟨.int xs.length, H1, (I1.kept (t' := tk) k).tok _, ⟨_, by rw [hn]⟩, q1⟩
end
end L2
namespace SJ
open PySem PySem.Spec PyProof.Rows L2
section
variable {X : Cx} {Γ : List SD} {e : Expr} {pos p p2 q : Pos}
theorem d_lenSet {ss : List Str} (hm : X.mg "len" = none) (hm2 : X.mg "set" = none) (he : DE X Γ e (.list (ss.map PyData.str))) (nd : ss.Nodup) (hl : ss.length ≤ 60) (hc : X.calm = true := by rfl) (hg : Gl X "len" := by rfl) (hg2 : Gl X "set" := by rfl)
    (hs : starEach [e] X.env = (false, eval e X.env) :: starEach [] X.env := by rfl) : DE X Γ (.Call (.Name "len" p) [.Call (.Name "set" p2) [e] [] q] [] pos) (.int (ss.length : Nat)) :=
  (pe_lenSetN hc hg hm hg2 hm2 he hs).imp fun σ H Q ⟨G, env, k⟩ => ⟨G, env, fun G1 H1 v g1 qv => by
    obtain ⟨a, xs, rfl, h1, hx⟩ := qv.listE
    cases hx.strs
    exact ⟨a, ss, rfl, g1.s.seq h1, nd, by omega, k G1 H1 _ g1 (.int _)⟩⟩
end
end SJ
set_option maxRecDepth 100000
set_option maxHeartbeats 4000000
/-! W3: what stands in statements; looks. -/
namespace SJ
open PySem PySem.Spec PyProof.Rows L2
/-- a put: its line, its box, its numbers -/
structure Put where
  line : Nat
  nm : Str
  ns : List Nat
def Put.d (p : Put) : PyData := .tuple [.str "put", .int (p.line : Nat), .str p.nm, .list (p.ns.map numE)]
/-- a program of boxes and of one job, main, of puts -/
structure Pg where
  boxes : List (Str × Str)
  puts : List Put
  line : Nat
  last : Nat
def boxD (b : Str × Str) : PyData := .tuple [.str b.1, .str b.2]
def Pg.job (g : Pg) : PyData := .tuple [.str "main", .list [], .list (g.puts.map Put.d), .int (g.line : Nat), .int (g.last : Nat)]
def Pg.d (g : Pg) : PyData := .tuple [.list (g.boxes.map boxD), .list [g.job], .list []]
def Pg.small (g : Pg) : Prop := g.boxes.length ≤ 50 ∧ g.puts.length ≤ 1000 ∧ ∀ p ∈ g.puts, p.ns.length ≤ 1000
section
variable {P : Program} {w : World} {K : PySem.W.Frag} {mg : Str → Option Value} {base : Heap} {f : Addr} {fd : FuncData}
def R_all_of : List PyData → PyData → Prop := fun ds d => ∃ ps : List Put, ps.length ≤ 1000 ∧ ds = [.list (ps.map Put.d)] ∧ d = .list (ps.map Put.d)
theorem sc_all_of : FnScope ["body", "found", "statement"] ["body"] (defScope s_all_of) := ⟨rfl, rfl, rfl, by decide +kernel, rfl, by decide +kernel, by decide +kernel⟩
theorem ok_all_of (F : FD K d_all_of f fd) : FnOk P w K mg base CX0 1 f fd ["body"] (SpD K R_all_of) := by
  refine fn_data F sc_all_of (fun ds d h => by obtain ⟨_, _, rfl, _⟩ := h; rfl) fun cdv A outer s H E hr ds d h => ?_
  obtain ⟨ps, hl, rfl, rfl⟩ := h
  refine ds_newL 1 (fun l => ?_) sc_all_of.nd
  refine ds_forN 2 (fun i Γ => ∃ x, Γ = [.dat (.list (ps.map Put.d)), .ml l ((ps.take i).map Put.d), x]) (di_list (d_var 0 rfl)) ⟨.un, rfl⟩ (fun i d Γ1 hd hi => ?_) (fun Γ' hi => ?_) sc_all_of.nd
  · obtain ⟨x, rfl⟩ := hi
    rw [List.getElem?_map] at hd
    cases hp : ps[i]? with
    | none => rw [hp] at hd; cases hd
    | some p =>
      rw [hp] at hd
      cases hd
      refine ds_app 1 (ds := (ps.take i).map Put.d) (d_var 2 rfl) ?_ (by rw [List.length_map, List.length_take]; omega)
      refine ds_skip (dt_is (dt_cmp (d_ixT (d_var 2 rfl) d_int (d := .str "put") at0) d_str o_eqS)) ?_
      refine ds_skip (dt_is (dt_cmp (d_ixT (d_var 2 rfl) d_int (d := .str "put") at0) d_str o_eqS)) (ds_nil ⟨.dat p.d, ?_⟩)
      rw [List.take_succ, hp, List.map_append]
      rfl
  · obtain ⟨x, rfl⟩ := hi
    refine ds_freeze 1 (ds_ret (d_var 1 rfl) ?_)
    rw [List.length_map, List.take_length]
abbrev G_all_of (P : Program) (w : World) (K : PySem.W.Frag) (mg : Str → Option Value) (base : Heap) : Prop := GFn P w K mg base "all_of" 1 (SpD K R_all_of)

def R_expressions_of : List PyData → PyData → Prop := fun ds d => ∃ p : Put, ds = [p.d] ∧ d = .list (p.ns.map numE)
theorem sc_expressions_of : FnScope ["statement", "word"] ["statement"] (defScope s_expressions_of) := ⟨rfl, rfl, rfl, by decide +kernel, rfl, by decide +kernel, by decide +kernel⟩
theorem ok_expressions_of (T : Tx K mg) (F : FD K d_expressions_of f fd) : FnOk P w K mg base CX0 1 f fd ["statement"] (SpD K R_expressions_of) := by
  refine fn_data F sc_expressions_of (fun ds d h => by obtain ⟨_, rfl, _⟩ := h; rfl) fun cdv A outer s H E hr ds d h => ?_
  obtain ⟨p, rfl, rfl⟩ := h
  refine ds_set 1 (d_ixT (d_var 0 rfl) d_int (d := .str "put") at0) ?_ sc_expressions_of.nd
  refine ds_ifT (dt_is (dt_cmp (d_var 1 rfl) d_str o_eqS)) ?_
  exact ds_ret (d_listOf T.f_list (d_ixT (d_var 0 rfl) d_int at3)) rfl
abbrev G_expressions_of (P : Program) (w : World) (K : PySem.W.Frag) (mg : Str → Option Value) (base : Heap) : Prop := GFn P w K mg base "expressions_of" 1 (SpD K R_expressions_of)

def R_looks_in : List PyData → PyData → Prop := fun ds d => ∃ n : Nat, ds = [numE n] ∧ d = .list []
theorem sc_looks_in : FnScope ["expression", "found", "parts", "part"] ["expression"] (defScope s_looks_in) := ⟨rfl, rfl, rfl, by decide +kernel, rfl, by decide +kernel, by decide +kernel⟩
theorem ok_looks_in (F : FD K d_looks_in f fd) : FnOk P w K mg base CX0 1 f fd ["expression"] (SpD K R_looks_in) := by
  refine fn_data F sc_looks_in (fun ds d h => by obtain ⟨_, rfl, _⟩ := h; rfl) fun cdv A outer s H E hr ds d h => ?_
  obtain ⟨n, rfl, rfl⟩ := h
  refine ds_ifT (dt_is (dt_cmp (d_ixT (d_var 0 rfl) d_int (d := .str "num") at0) (d_tup (da_cons d_str (da_cons d_str da_nil))) (o_inST (ss := ["num", "name"])))) ?_
  exact ds_ret (d_lst da_nil) rfl
abbrev G_looks_in (P : Program) (w : World) (K : PySem.W.Frag) (mg : Str → Option Value) (base : Heap) : Prop := GFn P w K mg base "looks_in" 1 (SpD K R_looks_in)

def R_looks_of : List PyData → PyData → Prop := fun ds d => ∃ p : Put, ds = [p.d] ∧ d = .list []
theorem sc_looks_of : FnScope ["statement", "found", "expression"] ["statement"] (defScope s_looks_of) := ⟨rfl, rfl, rfl, by decide +kernel, rfl, by decide +kernel, by decide +kernel⟩
theorem ok_looks_of (g1 : G_expressions_of P w K mg base) (g2 : G_looks_in P w K mg base) (F : FD K d_looks_of f fd) : FnOk P w K mg base CX0 2 f fd ["statement"] (SpD K R_looks_of) := by
  refine fn_data F sc_looks_of (fun ds d h => by obtain ⟨_, rfl, _⟩ := h; rfl) fun cdv A outer s H E hr ds d h => ?_
  obtain ⟨p, rfl, rfl⟩ := h
  refine ds_newL 1 (fun l => ?_) sc_looks_of.nd
  refine ds_forN 2 (fun i Γ => ∃ x, Γ = [.dat p.d, .ml l [], x]) (di_list (d_call g1 hr (da_cons (d_var 0 rfl) da_nil) ⟨p, rfl, rfl⟩)) ⟨.un, rfl⟩ (fun i d Γ1 hd hi => ?_) (fun Γ' hi => ?_) sc_looks_of.nd
  · obtain ⟨x, rfl⟩ := hi
    rw [List.getElem?_map] at hd
    cases hp : p.ns[i]? with
    | none => rw [hp] at hd; cases hd
    | some n =>
      rw [hp] at hd
      cases hd
      exact ds_ext 1 (ds := []) (es := []) (d_call g2 hr (da_cons (d_var 2 rfl) da_nil) ⟨n, rfl, rfl⟩) (ds_nil ⟨.dat (numE n), rfl⟩) (by decide)
  · obtain ⟨x, rfl⟩ := hi
    exact ds_freeze 1 (ds_ret (d_var 1 rfl) rfl)
abbrev G_looks_of (P : Program) (w : World) (K : PySem.W.Frag) (mg : Str → Option Value) (base : Heap) : Prop := GFn P w K mg base "looks_of" 2 (SpD K R_looks_of)

def R_looks : List PyData → PyData → Prop := fun ds d => ∃ g : Pg, g.small ∧ ds = [g.d] ∧ d = .list []
theorem sc_looks : FnScope ["program", "found", "job", "statement", "look"] ["program"] (defScope s_looks) := ⟨rfl, rfl, rfl, by decide +kernel, rfl, by decide +kernel, by decide +kernel⟩
theorem ok_looks (g1 : G_all_of P w K mg base) (g2 : G_looks_of P w K mg base) (F : FD K d_looks f fd) : FnOk P w K mg base CX0 3 f fd ["program"] (SpD K R_looks) := by
  refine fn_data F sc_looks (fun ds d h => by obtain ⟨_, _, rfl, _⟩ := h; rfl) fun cdv A outer s H E hr ds d h => ?_
  obtain ⟨g, hg, rfl, rfl⟩ := h
  refine ds_newL 1 (fun l => ?_) sc_looks.nd
  refine ds_forN 2 (fun i Γ => ∃ x y, Γ = [.dat g.d, .ml l [], x, y, .un]) (di_list (d_ixT (d_var 0 rfl) d_int (d := .list [g.job]) at1)) ⟨.un, .un, rfl⟩ (fun i d Γ1 hd hi => ?_) (fun Γ' hi => ?_) sc_looks.nd
  · obtain ⟨x, y, rfl⟩ := hi
    have e : d = g.job := by
      cases i with
      | zero => cases hd; rfl
      | succ i => cases i <;> cases hd
    subst e
    refine ds_forN 3 (fun j Γ => ∃ y, Γ = [.dat g.d, .ml l [], .dat g.job, y, .un]) (di_list (d_call g1 (hr.mono (by decide)) (da_cons (d_ixT (d_var 2 rfl) d_int (d := .list (g.puts.map Put.d)) at2) da_nil) ⟨g.puts, hg.2.1, rfl, rfl⟩)) ⟨y, rfl⟩ (fun j d Γ2 hd2 hj => ?_) (fun Γ2 hj => ?_) sc_looks.nd
    · obtain ⟨y, rfl⟩ := hj
      rw [List.getElem?_map] at hd2
      cases hp : g.puts[j]? with
      | none => rw [hp] at hd2; cases hd2
      | some p =>
        rw [hp] at hd2
        cases hd2
        refine ds_ext 1 (ds := []) (es := []) (d_is (d_lcN 4 sc_looks (fun _ => .none) (di_list (d_call g2 hr (da_cons (d_var 3 rfl) da_nil) ⟨p, rfl, rfl⟩)) (by decide +kernel) (by decide) (fun _ _ z => by simp at z)) rfl) (ds_nil ⟨.dat p.d, rfl⟩) (by decide)
    · obtain ⟨y, rfl⟩ := hj
      exact ds_nil ⟨_, _, rfl⟩
  · obtain ⟨x, y, rfl⟩ := hi
    exact ds_freeze 1 (ds_ret (d_var 1 rfl) rfl)
abbrev G_looks (P : Program) (w : World) (K : PySem.W.Frag) (mg : Str → Option Value) (base : Heap) : Prop := GFn P w K mg base "looks" 3 (SpD K R_looks)

def R_is_let : List PyData → PyData → Prop := fun ds d => ∃ g : Pg, g.small ∧ ds = [g.d] ∧ d = .bool true
theorem sc_is_let : FnScope ["program"] ["program"] (defScope s_is_let) := ⟨rfl, rfl, rfl, by decide +kernel, rfl, by decide +kernel, by decide +kernel⟩
theorem ok_is_let (g1 : G_looks P w K mg base) (F : FD K d_is_let f fd) : FnOk P w K mg base CX0 4 f fd ["program"] (SpD K R_is_let) := by
  refine fn_data F sc_is_let (fun ds d h => by obtain ⟨_, _, rfl, _⟩ := h; rfl) fun cdv A outer s H E hr ds d h => ?_
  obtain ⟨g, hg, rfl, rfl⟩ := h
  exact ds_ret (d_is (d_cmp (d_call g1 hr (da_cons (d_var 0 rfl) da_nil) ⟨g, hg, rfl, rfl⟩) (d_lst da_nil) (o_eqD hr.units (by decide +kernel) (by decide +kernel))) (congrArg PyData.bool (by decide +kernel))) rfl
abbrev G_is_let (P : Program) (w : World) (K : PySem.W.Frag) (mg : Str → Option Value) (base : Heap) : Prop := GFn P w K mg base "is_let" 4 (SpD K R_is_let)
end
end SJ
set_option maxRecDepth 100000
set_option maxHeartbeats 4000000
/-! W4: whether names and kinds go together. -/
namespace SJ
open PySem PySem.Spec PyProof.Rows L2
/-- the kinds by the boxes' names -/
def kvB (bs : List (Str × Str)) : List (Key × PyData) := bs.map fun b => (Sum.inr b.2, PyData.str b.1)
theorem getD_kvB_none : ∀ {bs : List (Str × Str)} {x : Str}, x ∉ bs.map (·.2) → getD (kvB bs) (.inr x) = none
  | [], _, _ => rfl
  | b :: bs, x, h => by
    have h1 : ¬ (Sum.inr b.2 : Key) = Sum.inr x := fun e => h (by rw [← Sum.inr.inj e]; exact List.mem_cons_self)
    have ih := getD_kvB_none (bs := bs) (x := x) fun m => h (List.mem_cons_of_mem _ m)
    unfold getD kvB at ih ⊢
    rw [List.map_cons, List.find?_cons, decide_eq_false h1]
    exact ih
theorem getD_kvB : ∀ {bs : List (Str × Str)} {i : Nat} {b : Str × Str}, (bs.map (·.2)).Nodup → bs[i]? = some b → getD (kvB bs) (.inr b.2) = some (.str b.1)
  | [], i, b, _, h => by simp at h
  | c :: bs, 0, b, _, h => by
    cases h
    unfold getD kvB
    rw [List.map_cons, List.find?_cons, decide_eq_true rfl]
    rfl
  | c :: bs, i + 1, b, hn, h => by
    have hb : bs[i]? = some b := by simpa using h
    rw [List.map_cons, List.nodup_cons] at hn
    have h1 : ¬ (Sum.inr c.2 : Key) = Sum.inr b.2 := fun e => hn.1 (by rw [Sum.inr.inj e]; exact List.mem_map.mpr ⟨b, List.mem_of_getElem? hb, rfl⟩)
    have ih := getD_kvB hn.2 hb
    unfold getD kvB at ih ⊢
    rw [List.map_cons, List.find?_cons, decide_eq_false h1]
    exact ih
theorem kvB_take {bs : List (Str × Str)} {i : Nat} {b : Str × Str} (h : bs[i]? = some b) : kvB (bs.take i) ++ [(Sum.inr b.2, PyData.str b.1)] = kvB (bs.take (i + 1)) := by
  have e : bs.take (i + 1) = bs.take i ++ [b] := by rw [List.take_succ, h]; rfl
  rw [e]
  unfold kvB
  rw [List.map_append]
  rfl
theorem notin_take {bs : List (Str × Str)} {i : Nat} {b : Str × Str} (hn : (bs.map (·.2)).Nodup) (h : bs[i]? = some b) : b.2 ∉ (bs.take i).map (·.2) := fun m => by
  obtain ⟨c, hc, e⟩ := List.mem_map.mp m
  obtain ⟨j, hj⟩ := List.mem_iff_getElem?.mp hc
  have hlt : j < i := by
    have := (List.getElem?_eq_some_iff.mp hj).1
    rw [List.length_take] at this
    omega
  rw [List.getElem?_take_of_lt hlt] at hj
  have e1 : (bs.map (·.2))[j]? = some b.2 := by rw [List.getElem?_map, hj, ← e]; rfl
  have e2 : (bs.map (·.2))[i]? = some b.2 := by rw [List.getElem?_map, h]; rfl
  have := nd_ix hn e1 e2
  omega
/-- the programs that the law makes -/
structure Pg.good (g : Pg) : Prop where
  small : g.small
  nd : (g.boxes.map (·.2)).Nodup
  named : ∀ p ∈ g.puts, ∃ b ∈ g.boxes, b.2 = p.nm ∧ (b.1 = "row" ∨ p.ns.length = 1 ∧ b.1 ≠ "map" ∨ p.ns.length = 2 ∧ b.1 = "map")
section
variable {P : Program} {w : World} {K : PySem.W.Frag} {mg : Str → Option Value} {base : Heap} {f : Addr} {fd : FuncData}
def R_unlike : List PyData → PyData → Prop := fun ds d => ∃ ss : List Str, ss.Nodup ∧ ss.length ≤ 60 ∧ ds = [.list (ss.map PyData.str)] ∧ d = .none
theorem sc_unlike : FnScope ["names"] ["names"] (defScope s_unlike) := ⟨rfl, rfl, rfl, by decide +kernel, rfl, by decide +kernel, by decide +kernel⟩
theorem ok_unlike (T : Tx K mg) (F : FD K d_unlike f fd) : FnOk P w K mg base CX0 1 f fd ["names"] (SpD K R_unlike) := by
  refine fn_data F sc_unlike (fun ds d h => by obtain ⟨_, _, _, rfl, _⟩ := h; rfl) fun cdv A outer s H E hr ds d h => ?_
  obtain ⟨ss, h1, h2, rfl, rfl⟩ := h
  exact ds_skip (dt_is (dt_cmp (d_lenSet T.f_len T.f_set (d_var 0 rfl) h1 h2) (d_lenL T.f_len (d_var 0 rfl)) o_ltI) (decide_eq_false (by rw [List.length_map]; omega))) (ds_nil rfl)
abbrev G_unlike (P : Program) (w : World) (K : PySem.W.Frag) (mg : Str → Option Value) (base : Heap) : Prop := GFn P w K mg base "unlike" 1 (SpD K R_unlike)

def R_all_looks : List PyData → PyData → Prop := fun ds d => ∃ g : Pg, g.small ∧ ds = [g.d] ∧ d = .list []
theorem sc_all_looks : FnScope ["program", "found", "job", "statement", "ask"] ["program"] (defScope s_all_looks) := ⟨rfl, rfl, rfl, by decide +kernel, rfl, by decide +kernel, by decide +kernel⟩
theorem ok_all_looks (g1 : G_all_of P w K mg base) (g2 : G_looks_of P w K mg base) (F : FD K d_all_looks f fd) : FnOk P w K mg base CX0 3 f fd ["program"] (SpD K R_all_looks) := by
  refine fn_data F sc_all_looks (fun ds d h => by obtain ⟨_, _, rfl, _⟩ := h; rfl) fun cdv A outer s H E hr ds d h => ?_
  obtain ⟨g, hg, rfl, rfl⟩ := h
  refine ds_newL 1 (fun l => ?_) sc_all_looks.nd
  refine ds_forN 2 (fun i Γ => ∃ x y, Γ = [.dat g.d, .ml l [], x, y, .un]) (di_list (d_ixT (d_var 0 rfl) d_int (d := .list [g.job]) at1)) ⟨.un, .un, rfl⟩ (fun i d Γ1 hd hi => ?_) (fun Γ' hi => ?_) sc_all_looks.nd
  · obtain ⟨x, y, rfl⟩ := hi
    have e : d = g.job := by
      cases i with
      | zero => cases hd; rfl
      | succ i => cases i <;> cases hd
    subst e
    refine ds_forN 3 (fun j Γ => ∃ y, Γ = [.dat g.d, .ml l [], .dat g.job, y, .un]) (di_list (d_call g1 (hr.mono (by decide)) (da_cons (d_ixT (d_var 2 rfl) d_int (d := .list (g.puts.map Put.d)) at2) da_nil) ⟨g.puts, hg.2.1, rfl, rfl⟩)) ⟨y, rfl⟩ (fun j d Γ2 hd2 hj => ?_) (fun Γ2 hj => ?_) sc_all_looks.nd
    · obtain ⟨y, rfl⟩ := hj
      rw [List.getElem?_map] at hd2
      cases hp : g.puts[j]? with
      | none => rw [hp] at hd2; cases hd2
      | some p =>
        rw [hp] at hd2
        cases hd2
        exact ds_ext 1 (ds := []) (es := []) (d_call g2 hr (da_cons (d_var 3 rfl) da_nil) ⟨p, rfl, rfl⟩) (ds_nil ⟨.dat p.d, rfl⟩) (by decide)
    · obtain ⟨y, rfl⟩ := hj
      exact ds_nil ⟨_, _, rfl⟩
  · obtain ⟨x, y, rfl⟩ := hi
    refine ds_forN 4 (fun i Γ => i = 0 ∧ Γ = [.dat g.d, .ml l [], x, y, .un]) (di_list (d_ixT (d_var 0 rfl) d_int (d := .list []) at2)) ⟨rfl, rfl⟩ (fun i d Γ1 hd hi => by simp at hd) (fun Γ' hi => ?_) sc_all_looks.nd
    obtain ⟨_, rfl⟩ := hi
    exact ds_freeze 1 (ds_ret (d_var 1 rfl) rfl)
abbrev G_all_looks (P : Program) (w : World) (K : PySem.W.Frag) (mg : Str → Option Value) (base : Heap) : Prop := GFn P w K mg base "all_looks" 3 (SpD K R_all_looks)

def R_boxes_named : List PyData → PyData → Prop := fun ds d => ∃ p : Put, ds = [p.d] ∧ d = .list [.str p.nm]
theorem sc_boxes_named : FnScope ["statement"] ["statement"] (defScope s_boxes_named) := ⟨rfl, rfl, rfl, by decide +kernel, rfl, by decide +kernel, by decide +kernel⟩
theorem ok_boxes_named (F : FD K d_boxes_named f fd) : FnOk P w K mg base CX0 1 f fd ["statement"] (SpD K R_boxes_named) := by
  refine fn_data F sc_boxes_named (fun ds d h => by obtain ⟨_, rfl, _⟩ := h; rfl) fun cdv A outer s H E hr ds d h => ?_
  obtain ⟨p, rfl, rfl⟩ := h
  refine ds_ifT (dt_is (dt_cmp (d_ixT (d_var 0 rfl) d_int (d := .str "put") at0) (d_tup (da_cons d_str (da_cons d_str da_nil))) (o_inST (ss := ["put", "wait"])))) ?_
  exact ds_ret (d_lst (da_cons (d_ixT (d_var 0 rfl) d_int (d := .str p.nm) at2) da_nil)) rfl
abbrev G_boxes_named (P : Program) (w : World) (K : PySem.W.Frag) (mg : Str → Option Value) (base : Heap) : Prop := GFn P w K mg base "boxes_named" 1 (SpD K R_boxes_named)

def R_check : List PyData → PyData → Prop := fun ds d => ∃ g : Pg, g.good ∧ ds = [g.d] ∧ d = .none
theorem sc_check_names : FnScope ["program", "kinds", "kind", "name", "params", "job", "named", "statement", "box", "look"] ["program"] (defScope s_check_names) := ⟨rfl, rfl, rfl, by decide +kernel, rfl, by decide +kernel, by decide +kernel⟩
theorem ok_check_names (T : Tx K mg) (g1 : G_unlike P w K mg base) (g2 : G_all_looks P w K mg base) (g3 : G_all_of P w K mg base) (g4 : G_boxes_named P w K mg base) (F : FD K d_check_names f fd) : FnOk P w K mg base CX0 4 f fd ["program"] (SpD K R_check) := by
  refine fn_data F sc_check_names (fun ds d h => by obtain ⟨_, _, rfl, _⟩ := h; rfl) fun cdv A outer s H E hr ds d h => ?_
  obtain ⟨g, hg, rfl, rfl⟩ := h
  have hu := hu_of hr
  refine ds_newD 1 (fun l1 => ?_) sc_check_names.nd
  refine ds_forP 2 3 (fun i Γ => ∃ a b, Γ = [.dat g.d, .md l1 (kvB (g.boxes.take i)), a, b, .un, .un, .un, .un, .un, .un]) (di_list (d_ixT (d_var 0 rfl) d_int (d := .list (g.boxes.map boxD)) at0)) ⟨.un, .un, rfl⟩ (fun i d Γ1 hd hi => ?_) (fun Γ' hi => ?_) sc_check_names.nd
  · obtain ⟨a, b, rfl⟩ := hi
    rw [List.getElem?_map] at hd
    cases hb : g.boxes[i]? with
    | none => rw [hb] at hd; cases hd
    | some bx =>
      rw [hb] at hd
      cases hd
      refine ⟨.str bx.1, .str bx.2, rfl, ?_⟩
      refine ds_dput 1 (k := .inr bx.2) (kvs := kvB (g.boxes.take i)) (d_var 3 rfl) (d_var 2 rfl) (getD_kvB_none (notin_take hg.nd hb)) (ds_nil ⟨.dat (.str bx.1), .dat (.str bx.2), ?_⟩) ?_ hu
      · show [SD.dat g.d, SD.md l1 (kvB (g.boxes.take i) ++ [(Sum.inr bx.2, PyData.str bx.1)]), _, _, _, _, _, _, _, _] = _
        rw [kvB_take hb]
      · unfold kvB
        rw [List.length_map, List.length_take]
        have := hg.small.1
        omega
  · obtain ⟨a, b, rfl⟩ := hi
    have etk : g.boxes.take (g.boxes.map boxD).length = g.boxes := by rw [List.length_map, List.take_length]
    rw [etk]
    refine ds_expr (d_call g1 (hr.mono (by decide)) (da_cons (d_is (d_lcN 8 sc_check_names (fun d => match d with | .tuple [_, b] => b | _ => .none) (di_list (d_ixT (d_var 0 rfl) d_int (d := .list (g.boxes.map boxD)) at0)) (by decide +kernel) (by rw [List.length_map]; have := hg.small.1; omega) (fun j d hd => ?_)) (congrArg PyData.list (by rw [List.map_map]; rfl : (g.boxes.map boxD).map _ = (g.boxes.map fun b => PyData.str b.2)))) da_nil) ⟨g.boxes.map (·.2), hg.nd, by rw [List.length_map]; have := hg.small.1; omega, by rw [List.map_map]; rfl, rfl⟩) ?_
    · rw [List.getElem?_map] at hd
      cases hb : g.boxes[j]? with
      | none => rw [hb] at hd; cases hd
      | some bx =>
        rw [hb] at hd
        cases hd
        exact fun _ _ _ _ _ => d_ixT (d_var 8 rfl) d_int at1
    refine ds_expr (d_call g1 (hr.mono (by decide)) (da_cons (d_is (d_lcN 5 sc_check_names (fun _ => .str "main") (di_list (d_ixT (d_var 0 rfl) d_int (d := .list [g.job]) at1)) (by decide +kernel) (by show 1 ≤ 100000; decide) (fun j d hd => ?_)) rfl) da_nil) ⟨["main"], by decide, by decide, rfl, rfl⟩) ?_
    · have e : d = g.job := by
        cases j with
        | zero => cases hd; rfl
        | succ j => cases j <;> cases hd
      subst e
      exact fun _ _ _ _ _ => d_ixT (d_var 5 rfl) d_int at0
    refine ds_newD 4 (fun l2 => ?_) sc_check_names.nd
    refine ds_forN 5 (fun i Γ => ∃ x, Γ = [.dat g.d, .md l1 (kvB g.boxes), a, b, .md l2 (if i = 0 then [] else [(Sum.inr "main", .list [])]), x, .un, .un, .un, .un]) (di_list (d_ixT (d_var 0 rfl) d_int (d := .list [g.job]) at1)) ⟨.un, rfl⟩ (fun i d Γ1 hd hi => ?_) (fun Γ' hi => ?_) sc_check_names.nd
    · obtain ⟨x, rfl⟩ := hi
      cases i with
      | succ i => cases i <;> cases hd
      | zero =>
        cases hd
        refine ds_expr (d_call g1 (hr.mono (by decide)) (da_cons (d_ixT (d_var 5 rfl) d_int (d := .list []) at1) da_nil) ⟨[], by decide, by decide, rfl, rfl⟩) ?_
        exact ds_dput 4 (k := .inr "main") (kvs := []) (d_ixT (d_var 5 rfl) d_int (d := .str "main") at0) (d_ixT (d_var 5 rfl) d_int (d := .list []) at1) rfl (ds_nil ⟨.dat g.job, rfl⟩) (by decide) hu
    · obtain ⟨x, rfl⟩ := hi
      refine ds_skip (dt_is (dt_cmp (d_dgetm 4 (k := .inr "main") (kvs := [(Sum.inr "main", .list [])]) d_str (d := .list []) (by unfold getD; rw [List.find?_cons, decide_eq_true rfl]; rfl) hu ⟨rfl, rfl, rfl, rfl⟩) (d_lst da_nil) (o_neD hr.units (by decide +kernel) (by decide +kernel))) (by decide +kernel)) ?_
      refine ds_setLcM 6 (own := [("look", 9)]) (f := fNm 9) (g := gName 9) (es := []) (di_list (d_call g2 hr (da_cons (d_var 0 rfl) da_nil) ⟨g, hg.small, rfl, rfl⟩)) (blkOk_by (N := ["program", "kinds", "kind", "name", "params", "job", "named", "statement", "box", "look"]) (sc := defScope s_check_names) (by decide +kernel)) (fun _ _ _ _ _ => pg_name (i := 9) sc_check_names.nd rfl (Or.inl rfl)) (tg_nm 9) rfl (by decide) (fun _ _ _ z => by simp at z) (fun l3 => ?_) sc_check_names.nd
      refine ds_forN 5 (fun i Γ => ∃ x y, Γ = [.dat g.d, .md l1 (kvB g.boxes), a, b, .md l2 [(Sum.inr "main", .list [])], x, .ml l3 (if i = 0 then [] else g.puts.map fun p => .str p.nm), y, .un, .un]) (di_list (d_ixT (d_var 0 rfl) d_int (d := .list [g.job]) at1)) ⟨x, .un, rfl⟩ (fun i d Γ1 hd hi => ?_) (fun Γ' hi => ?_) sc_check_names.nd
      · obtain ⟨x, y, rfl⟩ := hi
        cases i with
        | succ i => cases i <;> cases hd
        | zero =>
          cases hd
          refine ds_forN 7 (fun j Γ => ∃ y, Γ = [.dat g.d, .md l1 (kvB g.boxes), a, b, .md l2 [(Sum.inr "main", .list [])], .dat g.job, .ml l3 ((g.puts.take j).map fun p => .str p.nm), y, .un, .un]) (di_list (d_call g3 (hr.mono (by decide)) (da_cons (d_ixT (d_var 5 rfl) d_int (d := .list (g.puts.map Put.d)) at2) da_nil) ⟨g.puts, hg.small.2.1, rfl, rfl⟩)) ⟨y, rfl⟩ (fun j d Γ2 hd2 hj => ?_) (fun Γ2 hj => ?_) sc_check_names.nd
          · obtain ⟨y, rfl⟩ := hj
            rw [List.getElem?_map] at hd2
            cases hp : g.puts[j]? with
            | none => rw [hp] at hd2; cases hd2
            | some p =>
              rw [hp] at hd2
              cases hd2
              have hlen := (List.getElem?_eq_some_iff.mp hp).1
              have h2 := hg.small.2.1
              refine ds_ext 6 (ds := (g.puts.take j).map fun p => .str p.nm) (es := [.str p.nm]) (d_call g4 (hr.mono (by decide)) (da_cons (d_var 7 rfl) da_nil) ⟨p, rfl, rfl⟩) ?_ (by rw [List.length_map, List.length_take]; show _ + 1 ≤ _; omega)
              refine ds_skip (dt_is (dt_cmp (d_ixT (d_var 7 rfl) d_int (d := .str "put") at0) d_str o_eqS)) (ds_nil ⟨.dat p.d, ?_⟩)
              have e : g.puts.take (j + 1) = g.puts.take j ++ [p] := by rw [List.take_succ, hp]; rfl
              rw [e, List.map_append]
              rfl
          · obtain ⟨y, rfl⟩ := hj
            refine ds_nil ⟨.dat g.job, y, ?_⟩
            rw [List.length_map, List.take_length]
            rfl
      · obtain ⟨x, y, rfl⟩ := hi
        refine ds_freeze 6 ?_
        refine ds_forN 3 (fun i Γ => ∃ b, Γ = [.dat g.d, .md l1 (kvB g.boxes), a, b, .md l2 [(Sum.inr "main", .list [])], x, .dat (.list (g.puts.map fun p => .str p.nm)), y, .un, .un]) (di_list (d_var 6 rfl)) ⟨b, rfl⟩ (fun i d Γ1 hd hi => ?_) (fun Γ' hi => ?_) sc_check_names.nd
        · obtain ⟨b, rfl⟩ := hi
          have hd : (g.puts.map fun p => PyData.str p.nm)[i]? = some d := hd
          rw [List.getElem?_map] at hd
          cases hp : g.puts[i]? with
          | none => rw [hp] at hd; cases hd
          | some p =>
            rw [hp] at hd
            cases hd
            obtain ⟨bx, hbx, e, _⟩ := hg.named p (List.mem_of_getElem? hp)
            obtain ⟨j, hj⟩ := List.mem_iff_getElem?.mp hbx
            refine ds_skip (dt_is (dt_dnotin 1 (k := .inr p.nm) (kvs := kvB g.boxes) (d_var 3 rfl) hu) ?_) (ds_nil ⟨.dat (.str p.nm), rfl⟩)
            rw [← e, getD_kvB hg.nd hj]
            rfl
        · obtain ⟨b, rfl⟩ := hi
          exact ds_nil rfl
abbrev G_check_names (P : Program) (w : World) (K : PySem.W.Frag) (mg : Str → Option Value) (base : Heap) : Prop := GFn P w K mg base "check_names" 4 (SpD K R_check)
end
end SJ
set_option maxRecDepth 100000
set_option maxHeartbeats 4000000
/-! D6: things of one's own: cells, fields, calls by slots. -/
namespace SJ
open PySem PySem.Spec PyProof.Rows L2
section
variable {K : PySem.W.Frag} {G H G' H' G0 H0 : Hp} {Γ : List SD} {σ : L2.St} {cs : List (Addr × Cell)} {a : Addr} {c c' : Cell} {o : HO} {v : V} {i j n : Nat}
def SD.cells : SD → List (Addr × Cell)
  | .rg _ cs => cs
  | .st _ cs => cs
  | _ => []
def SD.val : SD → Option V
  | .raw v => some v
  | .rg v _ => some v
  | .st v _ => some v
  | .ml l _ => some (.ref l)
  | .md l _ => some (.ref l)
  | .ob p _ _ => some (.ref p)
  | .dg l _ => some (.ref l)
  | .sq a _ => some (.ref a)
  | _ => none
def cellAt (Γ : List SD) (j n : Nat) : Option (Addr × Cell) := Γ[j]?.bind fun s => s.cells[n]?
theorem EnvD.cell (h : EnvD K G H Γ σ) (e : cellAt Γ j n = some (a, c)) : ∃ u, H a = some u ∧ CellOk K G u c := by
  unfold cellAt at e
  cases hs : Γ[j]? with
  | none => rw [hs] at e; cases e
  | some s =>
    rw [hs] at e
    obtain ⟨o, _, q⟩ := h.at_ j s hs
    cases s with
    | rg v cs =>
      obtain ⟨_, u, z1, z2⟩ := q.2.at_ _ (List.mem_of_getElem? (show cs[n]? = some (a, c) from e))
      exact ⟨u, z1, z2⟩
    | st v cs =>
      obtain ⟨u, z1, z2⟩ := q.2 _ (List.mem_of_getElem? (show cs[n]? = some (a, c) from e))
      exact ⟨u, h.s _ _ z1, z2⟩
    | _ => exact nomatch (show ([] : List (Addr × Cell))[n]? = some (a, c) from e)
theorem EnvD.val (h : EnvD K G H Γ σ) (e : (Γ[i]?.bind SD.val) = some v) : σ[i]? = some (some v) := by
  cases hs : Γ[i]? with
  | none => rw [hs] at e; cases e
  | some s =>
    rw [hs] at e
    obtain ⟨o, z, q⟩ := h.at_ i s hs
    rw [z]
    cases s with
    | raw u => cases e; rw [show o = some v from q]
    | rg u cs => cases e; rw [q.1]
    | st u cs => cases e; rw [q.1]
    | ml l ds => cases e; rw [q.1]
    | md l ds => cases e; rw [q.1]
    | ob p C fs => cases e; rw [q.1]
    | dg l kvs => cases e; rw [q.1]
    | sq a xs => cases e; rw [q.1]
    | _ => cases e
theorem NvOk.lookup {f : Str} {x : Fv} : ∀ {ws : List (Str × V)} {fs : List (Str × Fv)}, NvOk K G ws fs → fs.lookup f = some x → ∃ y, ws.lookup f = some y ∧ FvOk K G y x
  | _, _, .nil, e => nomatch e
  | p :: ws, q :: fs, .cons r t, e => by
    obtain ⟨pk, pv⟩ := p
    obtain ⟨qk, qv⟩ := q
    obtain ⟨rfl, r2⟩ := r
    rw [List.lookup_cons] at e ⊢
    cases hh : f == pk with
    | true => rw [hh] at e; cases e; exact ⟨pv, rfl, r2⟩
    | false => rw [hh] at e; exact NvOk.lookup t e
theorem NvOk.lookupN {f : Str} : ∀ {ws : List (Str × V)} {fs : List (Str × Fv)}, NvOk K G ws fs → fs.lookup f = none → ws.lookup f = none
  | _, _, .nil, e => rfl
  | p :: ws, q :: fs, .cons r t, e => by
    obtain ⟨pk, pv⟩ := p
    obtain ⟨qk, qv⟩ := q
    obtain ⟨rfl, r2⟩ := r
    rw [List.lookup_cons] at e ⊢
    cases hh : f == pk with
    | true => rw [hh] at e; cases e
    | false => rw [hh] at e; exact NvOk.lookupN t e
def putFv (f : Str) (v : Fv) : List (Str × Fv) → List (Str × Fv)
  | [] => [(f, v)]
  | (g, x) :: r => if g = f then (g, v) :: r else (g, x) :: putFv f v r
theorem NvOk.put {f : Str} {y : V} {x : Fv} (h : FvOk K G y x) : ∀ {ws : List (Str × V)} {fs : List (Str × Fv)}, NvOk K G ws fs → NvOk K G (putF f y ws) (putFv f x fs)
  | _, _, .nil => .cons ⟨rfl, h⟩ .nil
  | p :: ws, q :: fs, .cons r t => by
    obtain ⟨pk, pv⟩ := p
    obtain ⟨qk, qv⟩ := q
    obtain ⟨e, r2⟩ := r
    cases (show pk = qk from e)
    unfold putF putFv
    by_cases hf : pk = f
    · rw [if_pos hf, if_pos hf]
      exact .cons ⟨rfl, h⟩ t
    · rw [if_neg hf, if_neg hf]
      exact .cons ⟨rfl, r2⟩ (NvOk.put h t)
/-- what a dict's cell holds -/
def getFv (kvs : List (Key × Fv)) (k : Key) : Option Fv := (kvs.find? fun kv => decide (kv.1 = k)).map (·.2)
theorem NvOk.get {k : Key} : ∀ {ws : List (Key × V)} {kvs : List (Key × Fv)}, NvOk K G ws kvs → (valV ws k = none ∧ getFv kvs k = none) ∨ ∃ v d, valV ws k = some v ∧ getFv kvs k = some d ∧ FvOk K G v d
  | _, _, .nil => .inl ⟨rfl, rfl⟩
  | p :: ws, q :: kvs, .cons r t => by
    by_cases h : p.1 = k
    · have h' : q.1 = k := r.1 ▸ h
      refine .inr ⟨p.2, q.2, valV_pos h, ?_, r.2⟩
      unfold getFv
      rw [List.find?_cons, decide_eq_true h']
      all_goals rfl
    · have h' : ¬ q.1 = k := fun z => h (r.1.trans z)
      have e : getFv (q :: kvs) k = getFv kvs k := by
        unfold getFv
        rw [List.find?_cons, decide_eq_false h']
      rw [valV_neg h, e]
      exact NvOk.get t
/-- a dict's cell is written -/
def putKf (k : Key) (x : Fv) : List (Key × Fv) → List (Key × Fv)
  | [] => [(k, x)]
  | q :: r => if q.1 = k then (q.1, x) :: r else q :: putKf k x r
theorem RgOk.set (r : RgOk K G H cs) (hc : cs[n]? = some (a, c)) (q : CellOk K G o c') : RgOk K G (upd H a o) (cs.set n (a, c')) := by
  have hn : n < cs.length := (List.getElem?_eq_some_iff.mp hc).1
  have em : (cs.set n (a, c')).map (·.1) = cs.map (·.1) := by
    rw [List.map_set]
    refine List.ext_getElem? fun m => ?_
    by_cases hm : n = m
    · subst hm
      rw [List.getElem?_set_self (by rw [List.length_map]; exact hn), List.getElem?_map, hc]
      rfl
    · rw [List.getElem?_set_ne hm]
  refine ⟨by rw [em]; exact r.nd, fun p m => ?_⟩
  obtain ⟨m, hm⟩ := List.mem_iff_getElem?.mp m
  by_cases e : n = m
  · subst e
    rw [List.getElem?_set_self hn] at hm
    cases hm
    exact ⟨(r.at_ _ (List.mem_of_getElem? hc)).1, o, upd_same, q⟩
  · rw [List.getElem?_set_ne e] at hm
    obtain ⟨z1, u, z2, z3⟩ := r.at_ p (List.mem_of_getElem? hm)
    refine ⟨z1, u, ?_, z3⟩
    rw [upd_ne (fun w => e ?_)]
    · exact z2
    · have h1 : (cs.map (·.1))[n]? = some a := by rw [List.getElem?_map, hc]; rfl
      have h2 : (cs.map (·.1))[m]? = some a := by rw [List.getElem?_map, hm, ← w]; rfl
      exact nd_ix r.nd h1 h2
theorem map_setC (hc : cs[n]? = some (a, c)) : (cs.set n (a, c')).map (·.1) = cs.map (·.1) := by
  have hn : n < cs.length := (List.getElem?_eq_some_iff.mp hc).1
  rw [List.map_set]
  refine List.ext_getElem? fun m => ?_
  by_cases hm : n = m
  · subst hm
    rw [List.getElem?_set_self (by rw [List.length_map]; exact hn), List.getElem?_map, hc]
    rfl
  · rw [List.getElem?_set_ne hm]
theorem RgOk.add (r : RgOk K G H cs) (hn : H a = none) (hg : G a = none) (q : CellOk K G o c) : RgOk K G (upd H a o) (cs ++ [(a, c)]) := by
  have ne : ∀ p, p ∈ cs → p.1 ≠ a := fun p m w => by
    obtain ⟨_, u, z, _⟩ := r.at_ p m
    rw [w, hn] at z
    cases z
  refine ⟨?_, fun p m => ?_⟩
  · rw [List.map_append, List.nodup_append]
    refine ⟨r.nd, by simp, fun x hx y hy => ?_⟩
    obtain ⟨p, m, rfl⟩ := List.mem_map.mp hx
    have : y = a := by simpa using hy
    rw [this]
    exact ne p m
  · rcases List.mem_append.mp m with m | m
    · obtain ⟨z1, u, z2, z3⟩ := r.at_ p m
      exact ⟨z1, u, by rw [upd_ne (ne p m)]; exact z2, z3⟩
    · have : p = (a, c) := by simpa using m
      subst this
      exact ⟨hg, o, upd_same, q⟩
theorem RgOk.up (r : RgOk K G H cs) (g : Gr G H G' H') : RgOk K G' H' cs :=
  ⟨r.nd, fun p m => let ⟨z1, u, z2, z3⟩ := r.at_ p m; ⟨g.fr _ _ z2 z1, u, g.h _ _ z2, z3.up g.g⟩⟩
/-- a cell is written -/
theorem St0.setC (s : St0 K G0 H0 G H Γ σ) (hj : Γ[j]? = some (.rg v cs)) (hc : cs[n]? = some (a, c)) (q : CellOk K G o c') : St0 K G0 H0 G (upd H a o) (Γ.set j (.rg v (cs.set n (a, c')))) σ := by
  obtain ⟨_, _, _, r⟩ := s.env.at_ j _ hj
  have ga := (r.at_ _ (List.mem_of_getElem? hc)).1
  have ad : SD.ad (.rg v cs) a := List.mem_map.mpr ⟨_, List.mem_of_getElem? hc, rfl⟩
  refine s.step hj (Same.refl _) (same_upd s.env.s ga) (fun b u z nn => ?_) (fun _ _ _ _ z => z) (fun b z => .inl ?_) fun o2 _ z => ⟨z.1, z.2.set hc q⟩
  · rw [upd_ne (fun w : b = a => nn (by rw [w]; exact ad))]
    exact z
  · have z : b ∈ (cs.set n (a, c')).map (·.1) := z
    rw [map_setC hc] at z
    exact z
/-- a new cell -/
theorem St0.addC (s : St0 K G0 H0 G H Γ σ) (hj : Γ[j]? = some (.rg v cs)) (hn : H a = none) (q : CellOk K G o c) : St0 K G0 H0 G (upd H a o) (Γ.set j (.rg v (cs ++ [(a, c)]))) σ := by
  refine s.step hj (Same.refl _) (same_upd s.env.s (s.env.s.free hn)) (fun b u z nn => ?_) (fun _ _ _ _ z => z) (fun b z => ?_) fun o2 _ z => ⟨z.1, z.2.add hn (s.env.s.free hn) q⟩
  · rw [upd_ne (ne_of_none z hn)]
    exact z
  · have z : b ∈ (cs ++ [(a, c)]).map (·.1) := z
    rw [List.map_append, List.mem_append] at z
    rcases z with z | z
    · exact .inl z
    · have : b = a := by simpa using z
      exact .inr (by rw [this]; exact hn)
/-- the slot's value is known, nothing of one's own -/
theorem St0.known (s : St0 K G0 H0 G H Γ σ) {c c' : SD} (hi : Γ[i]? = some c) (ha : ∀ a, ¬ c'.ad a) (q : ∀ o, σ[i]? = some o → SOk K G H c o → SOk K G H c' o) : St0 K G0 H0 G H (Γ.set i c') σ :=
  s.stepO hi (fun _ => False) (fun _ z => z.elim) (Same.refl _) s.env.s (fun _ _ z _ => z) (fun _ _ _ _ z => z) (fun a z => (ha a z).elim) q
end

theorem paired_app {α β : Type} {R : α → β → Prop} : ∀ {xs ys : List α} {us ws : List β}, Paired R xs us → Paired R ys ws → Paired R (xs ++ ys) (us ++ ws)
  | _, _, _, _, .nil, h => h
  | _, _, _, _, .cons r t, h => .cons r (paired_app t h)

/-! ### very values -/
def tR (K : PySem.W.Frag) (Γ : List SD) (v : V) : TE := fun σ H Q => ∃ G, EnvD K G H Γ σ ∧ ∀ G' H', Gr G H G' H' → Q v H'
abbrev RE (X : Cx) (Γ : List SD) (e : Expr) (v : V) : Prop := PE X e (tR X.K Γ v)
/-- an instance of the class at C, bare -/
def tIn (K : PySem.W.Frag) (Γ : List SD) (C : Addr) : TE := fun σ H Q => ∃ G, EnvD K G H Γ σ ∧ ∀ G' H' a dx, Gr G H G' H' → G' a = some (.ins C dx []) → Q (.ref a) H'
abbrev IE (X : Cx) (Γ : List SD) (e : Expr) (C : Addr) : Prop := PE X e (tIn X.K Γ C)
/-- a field of the class's instances -/
structure Fd (K : PySem.W.Frag) (C : Addr) (f : Str) : Prop where
  cls : Cls K C
  na : NoAttr K C f
section
variable {X : Cx} {Γ : List SD} {P : Po} {rest : List Stmt} {e oe ke : Expr} {d : PyData} {v w : V} {p a C : Addr} {fs : List (Str × Fv)} {f : Str} {pos pos' apos cpos sp : Pos} {cs : List (Addr × Cell)} {xs : List Fv} {kvs : List (Key × Fv)} {k : Key}
theorem re_var (i : Nat) {x : Str} (hΓ : (Γ[i]?.bind SD.val) = some v := by rfl) (hN : X.N[i]? = some x := by rfl) (hv : Vis X.env.scope x := by first | exact Or.inl rfl | exact Or.inr (Or.inl rfl) | exact Or.inr (Or.inr rfl))
    (hd : (x == ("__debug__" : Str)) = false := by decide) (hcd : (x == ("__classdict__" : Str)) = false := by decide) : RE X Γ (.Name x pos) v :=
  (pe_var (i := i) hN hv hd hcd).imp fun σ H Q ⟨G, env, k⟩ => ⟨v, env.val hΓ, k G H (Gr.refl env.s)⟩
theorem tFld_of {C : Addr} {x : Fv} (j n : Nat) {σ : L2.St} {H : Hp} {Q : VK} (hc : cellAt Γ j n = some (p, .ins C fs)) (hf : fs.lookup f = some x) (F : Fd X.K C f) {G : Hp} (env : EnvD X.K G H Γ σ) (k : ∀ y, FvOk X.K G y x → Q y H) :
    ∃ a C dx ws y, V.ref p = .ref a ∧ H a = some (.ins C dx ws) ∧ Cls X.K C ∧ NoAttr X.K C f ∧ ws.lookup f = some y ∧ Q y H := by
  obtain ⟨u, h1, dx, ws, rfl, q⟩ := env.cell hc
  obtain ⟨y, z1, z2⟩ := q.lookup hf
  exact ⟨p, C, dx, ws, y, rfl, h1, F.cls, F.na, z1, k y z2⟩
theorem re_fld (j n : Nat) (he : RE X Γ e (.ref p)) (F : Fd X.K C f) (hc : cellAt Γ j n = some (p, .ins C fs) := by rfl) (hf : fs.lookup f = some (.raw w) := by rfl) (hb : attributeBase e f X.env (eval e X.env) = eval e X.env := by rfl) : RE X Γ (.Attribute e f pos) w :=
  (pe_fld he hb).imp fun σ H Q ⟨G, env, k⟩ => ⟨G, env, fun G1 H1 g => tFld_of j n hc hf F (env.up g) fun y z => by
    cases (show y = w from z)
    exact k G1 H1 g⟩
theorem d_fld (j n : Nat) (he : RE X Γ e (.ref p)) (F : Fd X.K C f) (hc : cellAt Γ j n = some (p, .ins C fs) := by rfl) (hf : fs.lookup f = some (.dat d) := by rfl) (hb : attributeBase e f X.env (eval e X.env) = eval e X.env := by rfl) : DE X Γ (.Attribute e f pos) d :=
  (pe_fld he hb).imp fun σ H Q ⟨G, env, k⟩ => ⟨G, env, fun G1 H1 g => tFld_of j n hc hf F (env.up g) fun y z => k G1 H1 y g z⟩
theorem tDGet_of {x : Fv} (j n : Nat) {σ : L2.St} {H : Hp} {Q : VK} {u : V} (hc : cellAt Γ j n = some (a, .dk kvs)) (hf : getFv kvs k = some x) {G : Hp} (env : EnvD X.K G H Γ σ) (hu : Dq X.K G u (kD k)) (q : ∀ y, FvOk X.K G y x → Q y H) :
    ∃ b y, V.ref a = .ref b ∧ DGet H b u (some y) ∧ Q y H := by
  obtain ⟨o, h1, ws, rfl, z⟩ := env.cell hc
  rcases z.get (k := k) with z | ⟨y, d2, z1, z2, z3⟩
  · rw [hf] at z
    cases z.2
  · rw [hf] at z2
    cases z2
    exact ⟨a, y, rfl, by rw [kd_V hu, ← z1]; exact DGet.k h1, q y z3⟩
theorem re_dk (j n : Nat) (he : RE X Γ e (.ref a)) (hk : DE X Γ ke (kD k)) (hf : getFv kvs k = some (.raw w)) (hu : X.A.units + 1 < cLine) (hc : cellAt Γ j n = some (a, .dk kvs) := by rfl) (hs : NoSl ke := by exact fun _ _ => rfl) : RE X Γ (.Subscript e ke pos) w :=
  (pe_dget hu he hk hs).imp fun σ H Q ⟨G, env, q⟩ => ⟨G, env, fun G1 H1 g1 => ⟨G1, env.up g1, fun G2 H2 u g2 qu => tDGet_of j n hc hf ((env.up g1).up g2) qu fun y z => by
    cases (show y = w from z)
    exact q G2 H2 (g1.trans g2)⟩⟩
theorem d_dk (j n : Nat) (he : RE X Γ e (.ref a)) (hk : DE X Γ ke (kD k)) (hf : getFv kvs k = some (.dat d)) (hu : X.A.units + 1 < cLine) (hc : cellAt Γ j n = some (a, .dk kvs) := by rfl) (hs : NoSl ke := by exact fun _ _ => rfl) : DE X Γ (.Subscript e ke pos) d :=
  (pe_dget hu he hk hs).imp fun σ H Q ⟨G, env, q⟩ => ⟨G, env, fun G1 H1 g1 => ⟨G1, env.up g1, fun G2 H2 u g2 qu => tDGet_of j n hc hf ((env.up g1).up g2) qu fun y z => q G2 H2 y (g1.trans g2) z⟩⟩
theorem i_dk (j n : Nat) (he : RE X Γ e (.ref a)) (hk : DE X Γ ke (kD k)) (hf : getFv kvs k = some (.inst C)) (hu : X.A.units + 1 < cLine) (hc : cellAt Γ j n = some (a, .dk kvs) := by rfl) (hs : NoSl ke := by exact fun _ _ => rfl) : IE X Γ (.Subscript e ke pos) C :=
  (pe_dget hu he hk hs).imp fun σ H Q ⟨G, env, q⟩ => ⟨G, env, fun G1 H1 g1 => ⟨G1, env.up g1, fun G2 H2 u g2 qu => tDGet_of j n hc hf ((env.up g1).up g2) qu fun y ⟨b, dx, z1, z2⟩ => by
    subst z1
    exact q G2 H2 b dx (g1.trans g2) z2⟩⟩
/-- o.f = e, data -/
theorem ds_fset (j n : Nat) (he : DE X Γ e d) (ho : RE X Γ oe (.ref p)) (F : Fd X.K C f) (hr : DS X (Γ.set j (.rg v (cs.set n (p, .ins C (putFv f (.dat d) fs))))) rest P) (hj : Γ[j]? = some (.rg v cs) := by rfl) (hc : cs[n]? = some (p, .ins C fs) := by rfl) (hl : fs.length < 1000 := by first | decide | exact Nat.le_of_ble_eq_true rfl)
    (hs : swapsWith e (some (.Attribute oe f pos')) pos.line X.env = pure false := by rfl) : DS X Γ (.Assign [.Attribute oe f pos'] e pos :: rest) P :=
  ds_seq (N := (· = Γ.set j (.rg v (cs.set n (p, .ins C (putFv f (.dat d) fs)))))) ((ps_fld ho he hs).imp fun D σ H ⟨G0, H0, G, s, k⟩ => ⟨G, s.env, fun G1 H1 y g1 qy => ⟨G1, s.env.up g1, fun G2 H2 g2 => by
    have s2 := (s.up g1).up g2
    obtain ⟨_, _, _, r⟩ := s2.env.at_ j _ hj
    obtain ⟨_, u, z1, dx, ws, rfl, z2⟩ := r.at_ _ (List.mem_of_getElem? hc)
    refine ⟨p, C, dx, ws, rfl, z1, F.cls, F.na, by rw [Paired.length z2]; exact hl, k.nx G2 _ _ σ rfl (g1.g.trans g2.g) (s2.setC hj hc (o := .ins C dx (putF f y ws)) ⟨dx, _, rfl, z2.put (x := .dat d) (qy.up g2.g)⟩)⟩⟩⟩) fun _ e => e ▸ hr
/-- o.f = e, a very value -/
theorem ds_fsetR (j n : Nat) (he : RE X Γ e w) (ho : RE X Γ oe (.ref p)) (F : Fd X.K C f) (hr : DS X (Γ.set j (.rg v (cs.set n (p, .ins C (putFv f (.raw w) fs))))) rest P) (hj : Γ[j]? = some (.rg v cs) := by rfl) (hc : cs[n]? = some (p, .ins C fs) := by rfl) (hl : fs.length < 1000 := by first | decide | exact Nat.le_of_ble_eq_true rfl)
    (hs : swapsWith e (some (.Attribute oe f pos')) pos.line X.env = pure false := by rfl) : DS X Γ (.Assign [.Attribute oe f pos'] e pos :: rest) P :=
  ds_seq (N := (· = Γ.set j (.rg v (cs.set n (p, .ins C (putFv f (.raw w) fs)))))) ((ps_fld ho he hs).imp fun D σ H ⟨G0, H0, G, s, k⟩ => ⟨G, s.env, fun G1 H1 g1 => ⟨G1, s.env.up g1, fun G2 H2 g2 => by
    have s2 := (s.up g1).up g2
    obtain ⟨_, _, _, r⟩ := s2.env.at_ j _ hj
    obtain ⟨_, u, z1, dx, ws, rfl, z2⟩ := r.at_ _ (List.mem_of_getElem? hc)
    refine ⟨p, C, dx, ws, rfl, z1, F.cls, F.na, by rw [Paired.length z2]; exact hl, k.nx G2 _ _ σ rfl (g1.g.trans g2.g) (s2.setC hj hc (o := .ins C dx (putF f w ws)) ⟨dx, _, rfl, z2.put (x := .raw w) rfl⟩)⟩⟩⟩) fun _ e => e ▸ hr
/-- o.f = [] -/
theorem ds_fsetL (j n : Nat) {lp : Pos} (ho : RE X Γ oe (.ref p)) (F : Fd X.K C f) (hr : ∀ l, DS X (Γ.set j (.rg v (cs.set n (p, .ins C (putFv f (.raw (.ref l)) fs)) ++ [(l, .lst [])]))) rest P) (hj : Γ[j]? = some (.rg v cs) := by rfl) (hc : cs[n]? = some (p, .ins C fs) := by rfl) (hl : fs.length < 1000 := by first | decide | exact Nat.le_of_ble_eq_true rfl)
    (hs : swapsWith (.List [] lp) (some (.Attribute oe f pos')) pos.line X.env = pure false := by rfl) : DS X Γ (.Assign [.Attribute oe f pos'] (.List [] lp) pos :: rest) P :=
  ds_seq (N := fun Γ' => ∃ l, Γ' = Γ.set j (.rg v (cs.set n (p, .ins C (putFv f (.raw (.ref l)) fs)) ++ [(l, .lst [])]))) ((ps_fld ho (pe_lst pa_nil) hs).imp fun D σ H ⟨G0, H0, G, s, k⟩ => ⟨Nat.zero_le _, fun l hl0 => ⟨G, s.env.up (Gr.tmp s.env.s hl0), fun G2 H2 g2 => by
    have hj' : j < Γ.length := (List.getElem?_eq_some_iff.mp hj).1
    have s1 := (s.addC hj hl0 (o := .lst []) (c := .lst []) ⟨_, rfl, .nil⟩).up g2
    have hj2 : (Γ.set j (.rg v (cs ++ [(l, .lst [])])))[j]? = some (.rg v (cs ++ [(l, .lst [])])) := List.getElem?_set_self hj'
    have hn : n < cs.length := (List.getElem?_eq_some_iff.mp hc).1
    have hc2 : (cs ++ [(l, Cell.lst [])])[n]? = some (p, .ins C fs) := by rw [List.getElem?_append_left hn]; exact hc
    obtain ⟨_, _, _, r⟩ := s1.env.at_ j _ hj2
    obtain ⟨_, u, z1, dx, ws, rfl, z2⟩ := r.at_ _ (List.mem_of_getElem? hc2)
    have s2 := s1.setC hj2 hc2 (o := .ins C dx (putF f (.ref l) ws)) (c' := .ins C (putFv f (.raw (.ref l)) fs)) ⟨dx, _, rfl, z2.put (x := .raw (.ref l)) rfl⟩
    rw [List.set_set, List.set_append_left _ _ hn] at s2
    exact ⟨p, C, dx, ws, rfl, z1, F.cls, F.na, by rw [Paired.length z2]; exact hl, k.nx G2 _ _ σ ⟨l, rfl⟩ g2.g s2⟩⟩⟩) fun _ ⟨l, e⟩ => e ▸ hr l
/-- o.f = {} -/
theorem ds_fsetD (j n : Nat) {lp : Pos} (ho : RE X Γ oe (.ref p)) (F : Fd X.K C f) (hr : ∀ l, DS X (Γ.set j (.rg v (cs.set n (p, .ins C (putFv f (.raw (.ref l)) fs)) ++ [(l, .dk [])]))) rest P) (hj : Γ[j]? = some (.rg v cs) := by rfl) (hc : cs[n]? = some (p, .ins C fs) := by rfl) (hl : fs.length < 1000 := by first | decide | exact Nat.le_of_ble_eq_true rfl)
    (hs : swapsWith (.Dict [] [] lp) (some (.Attribute oe f pos')) pos.line X.env = pure false := by rfl) : DS X Γ (.Assign [.Attribute oe f pos'] (.Dict [] [] lp) pos :: rest) P :=
  ds_seq (N := fun Γ' => ∃ l, Γ' = Γ.set j (.rg v (cs.set n (p, .ins C (putFv f (.raw (.ref l)) fs)) ++ [(l, .dk [])]))) ((ps_fld ho pe_dnewK hs).imp fun D σ H ⟨G0, H0, G, s, k⟩ => fun l hl0 => ⟨G, s.env.up (Gr.tmp s.env.s hl0), fun G2 H2 g2 => by
    have hj' : j < Γ.length := (List.getElem?_eq_some_iff.mp hj).1
    have s1 := (s.addC hj hl0 (o := .dK []) (c := .dk []) ⟨_, rfl, .nil⟩).up g2
    have hj2 : (Γ.set j (.rg v (cs ++ [(l, .dk [])])))[j]? = some (.rg v (cs ++ [(l, .dk [])])) := List.getElem?_set_self hj'
    have hn : n < cs.length := (List.getElem?_eq_some_iff.mp hc).1
    have hc2 : (cs ++ [(l, Cell.dk [])])[n]? = some (p, .ins C fs) := by rw [List.getElem?_append_left hn]; exact hc
    obtain ⟨_, _, _, r⟩ := s1.env.at_ j _ hj2
    obtain ⟨_, u, z1, dx, ws, rfl, z2⟩ := r.at_ _ (List.mem_of_getElem? hc2)
    have s2 := s1.setC hj2 hc2 (o := .ins C dx (putF f (.ref l) ws)) (c' := .ins C (putFv f (.raw (.ref l)) fs)) ⟨dx, _, rfl, z2.put (x := .raw (.ref l)) rfl⟩
    rw [List.set_set, List.set_append_left _ _ hn] at s2
    exact ⟨p, C, dx, ws, rfl, z1, F.cls, F.na, by rw [Paired.length z2]; exact hl, k.nx G2 _ _ σ ⟨l, rfl⟩ g2.g s2⟩⟩) fun _ ⟨l, e⟩ => e ▸ hr l
/-- o.append(e), o's list a cell -/
theorem ds_capp (j n : Nat) (ho : RE X Γ oe (.ref a)) (he : DE X Γ e d) (hr : DS X (Γ.set j (.rg v (cs.set n (a, .lst (xs ++ [.dat d]))))) rest P) (hz : xs.length < 100000) (hj : Γ[j]? = some (.rg v cs) := by rfl) (hc : cs[n]? = some (a, .lst xs) := by rfl)
    (hbase : attributeBase oe "append" X.env (eval oe X.env) = eval oe X.env := by rfl)
    (hfew : ((backTo cpos (starEach [e] X.env)).all (fun x => !x.1) && (backToKw cpos (keywordEach [] X.env)).all (fun x => x.1.isSome) && decide (([e] : List Expr).length + ([] : List Keyword).length + (if ([] : List Keyword).isEmpty then 0 else 1) < 30)) = true := by rfl)
    (hline : (apos.endLine == cpos.line) = true := by rfl) (hs : starEach [e] X.env = (false, eval e X.env) :: starEach [] X.env := by rfl) (hplain : (backTo cpos (starEach [] X.env)).any (·.1) = false := by rfl)
    (hsw : swapsWith (.Call (.Attribute oe "append" apos) [e] [] cpos) none pos.line X.env = pure false := by rfl) : DS X Γ (.Expr (.Call (.Attribute oe "append" apos) [e] [] cpos) pos :: rest) P :=
  ds_seq (N := (· = Γ.set j (.rg v (cs.set n (a, .lst (xs ++ [.dat d])))))) ((ps_expr (pe_bm PySem.F.plainAttrs_list PySem.F.slot_list_append PySem.F.type_list_append mt_append ho (da_cons he da_nil hs) hbase hfew hline hs hplain) hsw).imp fun D σ H ⟨G0, H0, G, s, k⟩ => ⟨G, s.env, fun G1 H1 g1 => by
    have s1 := s.up g1
    obtain ⟨_, _, _, r⟩ := s1.env.at_ j _ hj
    obtain ⟨_, u, z1, ws, rfl, z2⟩ := r.at_ _ (List.mem_of_getElem? hc)
    refine ⟨.inl ⟨rfl, _, SqL.of z1⟩, G1, s1.env, fun G2 H2 us g2 q => ?_⟩
    obtain ⟨y, rfl, qy⟩ := one q
    have s2 := s1.up g2
    have z3 : Paired (FvOk X.K G2) (ws ++ [y]) (xs ++ [.dat d]) := by
      have := Paired.mapP z2 fun _ _ z => FvOk.up z g2.g
      exact paired_app this (.cons (show FvOk X.K G2 y (.dat d) from qy) .nil)
    refine ⟨a, ws, y, rfl, rfl, g2.h _ _ z1, ?_, k.nx G2 _ _ σ rfl (g1.g.trans g2.g) (s2.setC hj hc (o := .lst (ws ++ [y])) ⟨_, rfl, z3⟩)⟩
    rw [Paired.length z2]
    exact Nat.lt_of_lt_of_le hz (by decide)⟩) fun _ e => e ▸ hr
end
end SJ
set_option maxRecDepth 100000
set_option maxHeartbeats 4000000
/-! D7: calls where things of one's own are handed on; fresh data. -/
namespace SJ
open PySem PySem.Spec PyProof.Rows L2
def ownG (Γ : List SD) (a : Addr) : Prop := ∃ (i : Nat) (c : SD), Γ[i]? = some c ∧ c.ad a
open Classical in
/-- H without what is one's own -/
noncomputable def hole (H : Hp) (O : Addr → Prop) : Hp := fun a => if O a then none else H a
theorem hole_in {H : Hp} {O : Addr → Prop} {a : Addr} (h : O a) : hole H O a = none := if_pos h
theorem hole_out {H : Hp} {O : Addr → Prop} {a : Addr} (h : ¬ O a) : hole H O a = H a := if_neg h
theorem hole_some {H : Hp} {O : Addr → Prop} {a : Addr} {o : HO} (h : hole H O a = some o) : ¬ O a ∧ H a = some o := by
  by_cases q : O a
  · rw [hole_in q] at h
    cases h
  · rw [hole_out q] at h
    exact ⟨q, h⟩
theorem hole_none {H : Hp} {O : Addr → Prop} {a : Addr} (h : hole H O a = none) : O a ∨ H a = none := by
  by_cases q : O a
  · exact .inl q
  · rw [hole_out q] at h
    exact .inr h
section
variable {K : PySem.W.Frag} {G H G' H' G0 H0 : Hp} {Γ Γa : List SD} {σ σa : L2.St} {A B : List (Addr × Cell)} {v v2 : V} {us vs : List V} {ds : List PyData} {i j : Nat} {Q : VK} {E : XK} {ι : Type} {Pre : ι → List SD → Prop} {Post : ι → List SD → SD → Prop} {ix : ι}
theorem callee_st (env : EnvD K G H Γa σa) : St0 K G (hole H (ownG Γa)) G H Γa σa :=
  ⟨⟨Same.refl _, fun a o z => (hole_some z).2, env.s, fun _ _ _ z => z⟩, fun i c l e a => hole_in ⟨i, c, e, a⟩, env⟩
theorem spG_of (pre : Pre ix Γa) (env : EnvD K G H Γa (vs.map some)) (k : ∀ G' H' Γ' σ' c r, Post ix Γ' c → St0 K G (hole H (ownG Γa)) G' H' Γ' σ' → SOk K G' H' c (some r) → (∀ a, c.ad a → (ownG Γa a ∨ H a = none) ∧ ∀ (i : Nat) e, Γ'[i]? = some e → ¬ e.ad a) → Q r H') : SpG K Pre Post vs H Q E :=
  ⟨G, _, Γa, ix, pre, callee_st env, fun G' H' Γ' σ' c r p s q n => k G' H' Γ' σ' c r p s q fun a z => ⟨hole_none (n a z).1, (n a z).2⟩⟩
theorem dats_at {G H : Hp} (h : DqAll K G us ds) : ∀ (i : Nat) c, (ds.map SD.dat)[i]? = some c → ∃ u, us[i]? = some u ∧ SOk K G H c (some u) ∧ ∀ a, ¬ c.ad a := fun i c e => by
  rw [List.getElem?_map] at e
  cases hd : ds[i]? with
  | none => rw [hd] at e; cases e
  | some d =>
    rw [hd] at e
    cases e
    obtain ⟨u, z1, z2⟩ := h.get hd
    exact ⟨u, z1, ⟨u, rfl, z2⟩, fun _ z => z⟩
/-- what is handed in -/
theorem args_env {c0 : SD} {Γx : List SD} (s : Same G H) (h0 : SOk K G H c0 (some v)) (hl : us.length = Γx.length) (hx : ∀ (i : Nat) c, Γx[i]? = some c → ∃ u, us[i]? = some u ∧ SOk K G H c (some u)) (hd : ∀ (i j : Nat) c e a, Γx[i]? = some c → Γx[j]? = some e → c.ad a → e.ad a → i = j) (h0x : ∀ (i : Nat) c a, Γx[i]? = some c → c.ad a → ¬ c0.ad a) :
    EnvD K G H (c0 :: Γx) ((v :: us).map some) := by
  refine ⟨s, by simp [hl], fun i c e => ?_, fun i j c e a e1 e2 a1 a2 => ?_⟩
  · cases i with
    | zero => cases e; exact ⟨some v, rfl, h0⟩
    | succ i =>
      obtain ⟨u, z1, z2⟩ := hx i c (by simpa using e)
      refine ⟨some u, ?_, z2⟩
      rw [List.map_cons, List.getElem?_cons_succ, List.getElem?_map, z1]
      rfl
  · cases i with
    | zero =>
      cases e1
      cases j with
      | zero => rfl
      | succ j => exact absurd a1 (h0x j e a (by simpa using e2) a2)
    | succ i =>
      cases j with
      | zero => cases e2; exact absurd a2 (h0x i c a (by simpa using e1) a1)
      | succ j => exact congrArg Nat.succ (hd i j c e a (by simpa using e1) (by simpa using e2) a1 a2)
/-- a part of the slot's things is handed on -/
theorem St0.mcallX (s : St0 K G0 H0 G H Γ σ) (hj : Γ[j]? = some (.rg v (A ++ B))) {Γx : List SD} (hl : us.length = Γx.length) (hx : ∀ (i : Nat) c, Γx[i]? = some c → ∃ u, us[i]? = some u ∧ SOk K G H c (some u)) (hd : ∀ (i j : Nat) c e a, Γx[i]? = some c → Γx[j]? = some e → c.ad a → e.ad a → i = j)
    (ho : ∀ (i : Nat) c a, Γx[i]? = some c → c.ad a → H0 a = none ∧ ∀ (j : Nat) e, Γ[j]? = some e → ¬ e.ad a) (pre : Pre ix (.rg v2 B :: Γx)) (keep : ∀ Γ' c, Post ix Γ' c → ∃ B', Γ'[0]? = some (.rg v2 B'))
    (k : ∀ G' H' Γ' B' c r, Post ix Γ' c → Γ'[0]? = some (.rg v2 B') → Same G G' → St0 K G0 H0 G' H' (Γ.set j (.rg v (A ++ B'))) σ → SOk K G' H' c (some r) → (∀ a, c.ad a → H0 a = none ∧ ∀ (i : Nat) e, (Γ.set j (.rg v (A ++ B')))[i]? = some e → ¬ e.ad a) → (∀ (n : Nat) e, Γ'[n + 1]? = some e → (∃ o, SOk K G' H' e o) ∧ ∀ a, e.ad a → H0 a = none ∧ ∀ (i : Nat) e2, (Γ.set j (.rg v (A ++ B')))[i]? = some e2 → ¬ e2.ad a) → Q r H') : SpG K Pre Post (v2 :: us) H Q E := by
  obtain ⟨_, _, _, r⟩ := s.env.at_ j _ hj
  have ndAB := r.nd
  rw [List.map_append, List.nodup_append] at ndAB
  have rB : RgOk K G H B := ⟨ndAB.2.1, fun p m => r.at_ p (List.mem_append_right _ m)⟩
  have adB : ∀ {a}, a ∈ B.map (·.1) → SD.ad (.rg v (A ++ B)) a := fun {a} m => by
    show a ∈ (A ++ B).map (·.1)
    rw [List.map_append]
    exact List.mem_append_right _ m
  have env : EnvD K G H (.rg v2 B :: Γx) ((v2 :: us).map some) := args_env s.env.s ⟨rfl, rB⟩ hl hx hd fun i c a e z w => (ho i c a e z).2 j _ hj (adB w)
  refine spG_of pre env fun G' H' Γ' σ' c q p s' hq fresh => ?_
  obtain ⟨B', hB⟩ := keep Γ' c p
  have own_of : ∀ {a}, ownG (.rg v2 B :: Γx) a → a ∈ B.map (·.1) ∨ ∃ (i : Nat) (c : SD), Γx[i]? = some c ∧ c.ad a := fun {a} ⟨i, c, e, z⟩ => by
    cases i with
    | zero => cases e; exact .inl z
    | succ i => exact .inr ⟨i, c, by simpa using e, z⟩
  have ownO : ∀ a, ownG (.rg v2 B :: Γx) a → H0 a = none ∧ ∀ (i : Nat) e, j ≠ i → Γ[i]? = some e → ¬ e.ad a := fun a z => by
    rcases own_of z with w | ⟨i, c, e, w⟩
    · exact ⟨s.nw j _ a hj (adB w), fun i e hi ei w2 => hi (s.env.nd j i _ e a hj ei (adB w) w2)⟩
    · exact ⟨(ho i c a e w).1, fun i e _ ei => (ho _ c a ‹_› w).2 i e ei⟩
  obtain ⟨_, _, _, rB'⟩ := s'.env.at_ 0 _ hB
  -- an address of A is nobody else's
  have adA : ∀ {a}, a ∈ A.map (·.1) → ¬ ownG (.rg v2 B :: Γx) a ∧ ∃ o, H a = some o := fun {a} m => by
    refine ⟨fun z => ?_, ?_⟩
    · rcases own_of z with w | ⟨i, c, e, w⟩
      · exact ndAB.2.2 a m a w rfl
      · exact (ho i c a e w).2 j _ hj (by show a ∈ (A ++ B).map (·.1); rw [List.map_append]; exact List.mem_append_left _ m)
    · obtain ⟨p, hp, rfl⟩ := List.mem_map.mp m
      obtain ⟨_, u, z, _⟩ := r.at_ p (List.mem_append_left _ hp)
      exact ⟨u, z⟩
  have hH : ∀ a o, H a = some o → ¬ ownG (.rg v2 B :: Γx) a → H' a = some o := fun a o z n => s'.gr.h a o (by rw [hole_out n]; exact z)
  have hG : ∀ a o, H a = some o → ¬ ownG (.rg v2 B :: Γx) a → G a = none → G' a = none := fun a o z n w => s'.gr.fr a o (by rw [hole_out n]; exact z) w
  have frB : ∀ {a}, a ∈ B'.map (·.1) → ownG (.rg v2 B :: Γx) a ∨ H a = none := fun {a} m => hole_none (s'.nw 0 _ a hB m)
  have st : St0 K G0 H0 G' H' (Γ.set j (.rg v (A ++ B'))) σ := by
    refine s.stepO hj (ownG (.rg v2 B :: Γx)) ownO s'.gr.g s'.env.s hH hG (fun a z => ?_) fun o z w => ⟨w.1, ?_, fun p m => ?_⟩
    · have z : a ∈ (A ++ B').map (·.1) := z
      rw [List.map_append, List.mem_append] at z
      rcases z with z | z
      · exact .inl (by show a ∈ (A ++ B).map (·.1); rw [List.map_append]; exact List.mem_append_left _ z)
      · exact .inr (frB z)
    · rw [List.map_append, List.nodup_append]
      refine ⟨ndAB.1, rB'.nd, fun x hx y hy e => ?_⟩
      subst e
      obtain ⟨n1, o1, n2⟩ := adA hx
      rcases frB hy with w | w
      · exact n1 w
      · rw [n2] at w
        cases w
    · rcases List.mem_append.mp m with m | m
      · obtain ⟨z1, u, z2, z3⟩ := r.at_ p (List.mem_append_left _ m)
        have na := (adA (List.mem_map.mpr ⟨p, m, rfl⟩)).1
        exact ⟨hG _ _ z2 na z1, u, hH _ _ z2 na, z3.up s'.gr.g⟩
      · exact rB'.at_ p m
  have free_ : ∀ {a}, (ownG (.rg v2 B :: Γx) a ∨ H a = none) → ¬ a ∈ B'.map (·.1) → H0 a = none ∧ ∀ (i : Nat) e, (Γ.set j (.rg v (A ++ B')))[i]? = some e → ¬ e.ad a := fun {a} f1 f2 => by
    refine ⟨?_, fun i e ei w => ?_⟩
    · rcases f1 with f1 | f1
      · exact (ownO a f1).1
      · exact s.gr.h.free f1
    · rcases set_at ei with ⟨_, rfl⟩ | ⟨hi, ei⟩
      · have w : a ∈ (A ++ B').map (·.1) := w
        rw [List.map_append, List.mem_append] at w
        rcases w with w | w
        · obtain ⟨n1, o1, n2⟩ := adA w
          rcases f1 with f1 | f1
          · exact n1 f1
          · rw [n2] at f1
            cases f1
        · exact f2 w
      · rcases f1 with f1 | f1
        · exact (ownO a f1).2 i e hi ei w
        · exact s.none_ad f1 i e ei w
  refine k G' H' Γ' B' c q p hB s'.gr.g st hq (fun a z => free_ (fresh a z).1 ((fresh a z).2 0 _ hB)) fun n e en => ?_
  obtain ⟨o, _, z2⟩ := s'.env.at_ (n + 1) e en
  exact ⟨⟨o, z2⟩, fun a z => free_ (hole_none (s'.nw (n + 1) e a en z)) fun w => absurd (s'.env.nd (n + 1) 0 e _ a en hB z w) (Nat.succ_ne_zero n)⟩
theorem St0.mcall (s : St0 K G0 H0 G H Γ σ) (hj : Γ[j]? = some (.rg v (A ++ B))) {Γx : List SD} (hl : us.length = Γx.length) (hx : ∀ (i : Nat) c, Γx[i]? = some c → ∃ u, us[i]? = some u ∧ SOk K G H c (some u)) (hd : ∀ (i j : Nat) c e a, Γx[i]? = some c → Γx[j]? = some e → c.ad a → e.ad a → i = j)
    (ho : ∀ (i : Nat) c a, Γx[i]? = some c → c.ad a → H0 a = none ∧ ∀ (j : Nat) e, Γ[j]? = some e → ¬ e.ad a) (pre : Pre ix (.rg v2 B :: Γx)) (keep : ∀ Γ' c, Post ix Γ' c → ∃ B', Γ'[0]? = some (.rg v2 B'))
    (k : ∀ G' H' Γ' B' c r, Post ix Γ' c → Γ'[0]? = some (.rg v2 B') → Same G G' → St0 K G0 H0 G' H' (Γ.set j (.rg v (A ++ B'))) σ → SOk K G' H' c (some r) → (∀ a, c.ad a → H0 a = none ∧ ∀ (i : Nat) e, (Γ.set j (.rg v (A ++ B')))[i]? = some e → ¬ e.ad a) → Q r H') : SpG K Pre Post (v2 :: us) H Q E :=
  s.mcallX hj hl hx hd ho pre keep fun G' H' Γ' B' c r a1 a2 a3 a4 a5 a6 _ => k G' H' Γ' B' c r a1 a2 a3 a4 a5 a6
end
end SJ
set_option maxRecDepth 100000
set_option maxHeartbeats 4000000
/-! D8: statements that call methods, make instances, compare lists. -/
namespace SJ
open PySem PySem.Spec PyProof.Rows L2
section
variable {X : Cx} {Γ : List SD} {P : Po} {rest : List Stmt} {e oe : Expr} {es : List Expr} {d : PyData} {ds : List PyData} {v : V} {p C : Addr} {fs : List (Str × Fv)} {m x : Str} {pos pos' apos cpos np : Pos} {k : Nat} {sp : Sp} {ta : TE} {t : TA} {ι : Type} {Pre : ι → List SD → Prop} {Post : ι → List SD → SD → Prop} {ix : ι}
theorem m_call {pl : Sem Bool} (F : MFn X.prog X.w X.K X.mg X.base C m k sp) (hr : Room k X.A) (ho : PE X oe ta) (ha : PA X (e :: es) t) (hst : starEach (e :: es) X.env = (false, eval e X.env) :: starEach es X.env := by rfl) (hpl : (backTo cpos (starEach es X.env)).any (·.1) = false := by rfl)
    (ht : eval (.Call (.Attribute oe m apos) (e :: es) [] cpos) X.env = (do
      let ov ← eval oe X.env
      standAt apos.atName
      let (f, first) ← holding [ov] (getMethod ov m pl)
      callWith cpos f first (backTo cpos (starEach (e :: es) X.env)) (backToKw cpos (keywordEach [] X.env))) := by rfl) : PE X (.Call (.Attribute oe m apos) (e :: es) [] cpos) (tMeth C m sp [] E0 ta t) := by
  obtain ⟨f, fd, ps, c, me, fo, b⟩ := F.ex
  exact pe_meth (pl := pl) ho c me fo hr b .nil pass0 ha hst hpl ht
theorem m_call0 {pl : Sem Bool} (F : MFn X.prog X.w X.K X.mg X.base C m k sp) (hr : Room k X.A) (ho : PE X oe ta)
    (ht : eval (.Call (.Attribute oe m apos) [] [] cpos) X.env = (do
      let ov ← eval oe X.env
      standAt apos.atName
      let (f, first) ← holding [ov] (getMethod ov m pl)
      callWith cpos f first (backTo cpos (starEach [] X.env)) (backToKw cpos (keywordEach [] X.env))) := by rfl) : PE X (.Call (.Attribute oe m apos) [] [] cpos) (tMeth C m sp [] E0 ta tNil) := by
  obtain ⟨f, fd, ps, c, me, fo, b⟩ := F.ex
  exact pe_meth0 (pl := pl) ho c me fo hr b .nil pass0 ht
theorem g_make {sp : Sp} (F : KFn X.prog X.w X.K X.mg X.base x C k sp) (hr : Room (k + 1) X.A) (ha : PA X (e :: es) t) (hg : Gl X x := by rfl) (hdb : (x == ("__debug__" : Str)) = false := by decide)
    (he : starEach (e :: es) X.env = (false, eval e X.env) :: starEach es X.env := by rfl) (hpl : (backTo cpos (starEach es X.env)).any (·.1) = false := by rfl) : PE X (.Call (.Name x np) (e :: es) [] cpos) (tMake C sp [] E0 t) := by
  obtain ⟨f, fd, ps, c, mk, hm, fo, b⟩ := F.ex
  exact pe_make mk fo hr hg hm b .nil pass0 ha hdb he hpl
theorem g_make0 {sp : Sp} (F : KFn X.prog X.w X.K X.mg X.base x C k sp) (hr : Room (k + 1) X.A) (hg : Gl X x := by rfl) (hdb : (x == ("__debug__" : Str)) = false := by decide) : PE X (.Call (.Name x np) [] [] cpos) (tMake C sp [] E0 tNil) := by
  obtain ⟨f, fd, ps, c, mk, hm, fo, b⟩ := F.ex
  exact pe_make0 mk fo hr hg hm b .nil pass0 hdb

/-- the receiver and its class -/
theorem recv {G H : Hp} {σ : L2.St} {j n : Nat} (env : EnvD X.K G H Γ σ) (hc : cellAt Γ j n = some (p, .ins C fs)) (hm : fs.lookup m = none) : ∃ dx ws, H p = some (.ins C dx ws) ∧ ws.lookup m = none := by
  obtain ⟨u, h1, dx, ws, rfl, q⟩ := env.cell hc
  exact ⟨dx, ws, h1, NvOk.lookupN q hm⟩
theorem dats_own {Γ : List SD} {H0 : Hp} : ∀ (i : Nat) c a, (ds.map SD.dat)[i]? = some c → c.ad a → H0 a = none ∧ ∀ (j : Nat) e, Γ[j]? = some e → ¬ e.ad a := fun i c a e z => by
  obtain ⟨d, _, rfl⟩ := List.mem_map.mp (List.mem_of_getElem? e)
  exact (show False from z).elim
theorem dats_dis : ∀ (i j : Nat) c e (a : Addr), (ds.map SD.dat)[i]? = some c → (ds.map SD.dat)[j]? = some e → c.ad a → e.ad a → i = j := fun i j c e a z _ w _ => by
  obtain ⟨d, _, rfl⟩ := List.mem_map.mp (List.mem_of_getElem? z)
  exact (show False from w).elim
theorem dats_ok {K : PySem.W.Frag} {G H : Hp} {us : List V} (h : DqAll K G us ds) : ∀ (i : Nat) c, (ds.map SD.dat)[i]? = some c → ∃ u, us[i]? = some u ∧ SOk K G H c (some u) := fun i c e => let ⟨u, a, b, _⟩ := dats_at (H := H) h i c e; ⟨u, a, b⟩
/-- the arguments of a method's call -/
def MArgs (X : Cx) (Γ : List SD) (es : List Expr) (ds : List PyData) (t : TA) : Prop := ∀ σ H (Q : List V → Hp → Prop), (∃ G, EnvD X.K G H Γ σ ∧ ∀ G' H' vs, Gr G H G' H' → DqAll X.K G' vs ds → Q vs H') → t σ H Q
/-- o.m(..), dropped -/
theorem ds_mexpr {call : Expr} (A B : List (Addr × Cell)) (j n : Nat) (hp : PE X call (tMeth C m (SpG X.K Pre Post) [] E0 (tR X.K Γ (.ref p)) (tDA X.K Γ ds))) (pre : Pre ix (.rg (.ref p) B :: ds.map .dat)) (hj : Γ[j]? = some (.rg v (A ++ B))) (hc : cellAt Γ j n = some (p, .ins C fs)) (hm : fs.lookup m = none)
    (post : ∀ Γ' c, Post ix Γ' c → ∃ B', Γ'[0]? = some (.rg (.ref p) B') ∧ DS X (Γ.set j (.rg v (A ++ B'))) rest P) (hs : swapsWith call none pos.line X.env = pure false := by rfl) : DS X Γ (.Expr call pos :: rest) P :=
  ds_seq (N := fun Γ' => DS X Γ' rest P) ((ps_expr hp hs).imp fun D σ H ⟨G0, H0, G, s, k⟩ => ⟨G, s.env, fun G1 H1 g1 => by
    have s1 := s.up g1
    obtain ⟨dx, ws, z1, z2⟩ := recv s1.env hc hm
    refine ⟨p, dx, ws, rfl, z1, z2, G1, s1.env, fun G2 H2 us g2 qu => ?_⟩
    show SpG X.K Pre Post (V.ref p :: (us ++ [])) H2 _ E0
    rw [List.append_nil]
    refine (s1.up g2).mcall hj (by rw [qu.len, List.length_map]) (dats_ok qu) dats_dis dats_own pre (fun Γ' c z => (post Γ' c z).imp fun _ w => w.1) fun G' H' Γ' B' c r q hB sg st _ _ => ?_
    obtain ⟨B2, e2, h2⟩ := post Γ' c q
    rw [hB] at e2
    cases e2
    exact k.nx G' H' _ σ h2 ((g1.g.trans g2.g).trans sg) st⟩) fun _ h => h
/-- x = o.m(..) -/
theorem ds_mset (i : Nat) {call : Expr} (A B : List (Addr × Cell)) (j n : Nat) (hp : PE X call (tMeth C m (SpG X.K Pre Post) [] E0 (tR X.K Γ (.ref p)) (tDA X.K Γ ds))) (pre : Pre ix (.rg (.ref p) B :: ds.map .dat)) (hj : Γ[j]? = some (.rg v (A ++ B))) (hc : cellAt Γ j n = some (p, .ins C fs)) (hm : fs.lookup m = none)
    (post : ∀ Γ' c, Post ix Γ' c → ∃ B', Γ'[0]? = some (.rg (.ref p) B') ∧ DS X ((Γ.set j (.rg v (A ++ B'))).set i c) rest P) (hN : X.N.Nodup) (hi : X.N[i]? = some x := by rfl) (hx : Loc X.env.scope x := by first | exact .inl rfl | exact .inr rfl)
    (hs : swapsWith call (some (.Name x pos')) pos.line X.env = pure false := by rfl) (hf : X.fn x = true ∨ X.env.scope.names.lookup x = some .local := by first | exact .inl rfl | exact .inr rfl) : DS X Γ (.Assign [.Name x pos'] call pos :: rest) P :=
  ds_seq (N := fun Γ' => DS X Γ' rest P) ((ps_set (i := i) hN hi hx hp hs hf).imp fun D σ H ⟨G0, H0, G, s, k⟩ => ⟨G, s.env, fun G1 H1 g1 => by
    have s1 := s.up g1
    obtain ⟨dx, ws, z1, z2⟩ := recv s1.env hc hm
    refine ⟨p, dx, ws, rfl, z1, z2, G1, s1.env, fun G2 H2 us g2 qu => ?_⟩
    show SpG X.K Pre Post (V.ref p :: (us ++ [])) H2 _ E0
    rw [List.append_nil]
    refine (s1.up g2).mcall hj (by rw [qu.len, List.length_map]) (dats_ok qu) dats_dis dats_own pre (fun Γ' c z => (post Γ' c z).imp fun _ w => w.1) fun G' H' Γ' B' c r q hB sg st hq fr => ?_
    obtain ⟨B2, e2, h2⟩ := post Γ' c q
    rw [hB] at e2
    cases e2
    exact k.nx G' H' _ _ h2 ((g1.g.trans g2.g).trans sg) (st.put i hq fun a z => ⟨(fr a z).1, fun j e _ ej => (fr a z).2 j e ej⟩)⟩) fun _ h => h
end
section
variable {K : PySem.W.Frag} {G H G' H' G0 H0 : Hp} {Γ : List SD} {σ : L2.St} {us : List V} {ds : List PyData} {Q : VK} {E : XK} {ι : Type} {Pre : ι → List SD → Prop} {Post : ι → List SD → SD → Prop} {ix : ι} {x dx C : Addr}
/-- a new instance, its __init__ called -/
theorem St0.make (s : St0 K G0 H0 G H Γ σ) (hx : H x = none) (hdx : H dx = none) (hne : dx ≠ x) (qu : DqAll K G us ds) (pre : Pre ix (.rg (.ref x) [(x, .ins C [])] :: ds.map .dat)) (keep : ∀ Γ' c, Post ix Γ' c → c = .dat .none ∧ ∃ B, Γ'[0]? = some (.rg (.ref x) B))
    (k : ∀ G' H' Γ' B, Post ix Γ' (.dat .none) → Γ'[0]? = some (.rg (.ref x) B) → Same G G' → St0 K G0 H0 G' H' Γ σ → RgOk K G' H' B → (∀ a, a ∈ B.map (·.1) → H0 a = none ∧ ∀ (i : Nat) e, Γ[i]? = some e → ¬ e.ad a) → Q (.ref x) H') :
    SpG K Pre Post (.ref x :: us) (upd (upd H dx (.own x)) x (.ins C dx [])) (fun v H2 => v = .non ∧ Q (.ref x) H2) E := by
  have hx1 : upd H dx (.own x) x = none := by rw [upd_ne (Ne.symm hne)]; exact hx
  have g1 : Gr G H G (upd (upd H dx (.own x)) x (.ins C dx [])) := (Gr.tmp s.env.s hdx).trans (Gr.tmp (same_upd s.env.s (s.env.s.free hdx)) hx1)
  have s1 := s.up g1
  have hGx : G x = none := s.env.s.free hx
  have env : EnvD K G (upd (upd H dx (.own x)) x (.ins C dx [])) (.rg (.ref x) [(x, .ins C [])] :: ds.map .dat) ((V.ref x :: us).map some) :=
    args_env s1.env.s ⟨rfl, by simp, fun p m => by
      have : p = (x, .ins C []) := by simpa using m
      subst this
      exact ⟨hGx, _, upd_same, dx, [], rfl, .nil⟩⟩ (by rw [qu.len, List.length_map]) (dats_ok qu) dats_dis fun i c a e z => by
        obtain ⟨d, _, rfl⟩ := List.mem_map.mp (List.mem_of_getElem? e)
        exact (show False from z).elim
  refine spG_of pre env fun G' H' Γ' σ' c r p s' hq fr => ?_
  obtain ⟨rfl, B, hB⟩ := keep Γ' c p
  obtain ⟨u, e1, e2⟩ := hq
  cases e1
  refine ⟨e2.noneE, ?_⟩
  obtain ⟨_, _, _, rB⟩ := s'.env.at_ 0 _ hB
  have own : ∀ {a}, ownG (.rg (.ref x) [(x, .ins C [])] :: ds.map .dat) a → a = x := fun {a} ⟨i, c, e, z⟩ => by
    cases i with
    | zero =>
      cases e
      have z : a ∈ [x] := z
      simpa using z
    | succ i =>
      obtain ⟨d, _, rfl⟩ := List.mem_map.mp (List.mem_of_getElem? (show (ds.map SD.dat)[i]? = some c by simpa using e))
      exact (show False from z).elim
  have nH : ∀ {a o}, H a = some o → ¬ ownG (.rg (.ref x) [(x, .ins C [])] :: ds.map .dat) a := fun {a o} z w => by
    rw [own w, hx] at z
    cases z
  have g2 : Gr G H G' H' := ⟨s'.gr.g, fun a o z => s'.gr.h a o (by rw [hole_out (nH z)]; exact g1.h a o z), s'.env.s, fun a o z w => s'.gr.fr a o (by rw [hole_out (nH z)]; exact g1.h a o z) w⟩
  refine k G' H' Γ' B p hB s'.gr.g (s.up g2) rB fun a m => ?_
  have hn : H a = none := by
    rcases hole_none (s'.nw 0 _ a hB m) with w | w
    · rw [own w]; exact hx
    · by_cases h1 : a = x
      · rw [h1]; exact hx
      · rw [upd_ne h1] at w
        by_cases h2 : a = dx
        · rw [h2]; exact hdx
        · rwa [upd_ne h2] at w
  exact ⟨s.gr.h.free hn, fun i e ei => s.none_ad hn i e ei⟩
end
section
variable {X : Cx} {Γ : List SD} {P : Po} {rest : List Stmt} {e oe ae be : Expr} {es : List Expr} {d : PyData} {ds : List PyData} {C l : Addr} {x nm : Str} {pos pos' cpos np : Pos} {k : Nat} {ι : Type} {Pre : ι → List SD → Prop} {Post : ι → List SD → SD → Prop} {ix : ι}
/-- x = C(..) -/
theorem ds_mkset (i : Nat) (ixf : Addr → ι) {call : Expr} (hp : PE X call (tMake C (SpG X.K Pre Post) [] E0 (tDA X.K Γ ds))) (pre : ∀ a, Pre (ixf a) (.rg (.ref a) [(a, .ins C [])] :: ds.map .dat)) (post : ∀ a Γ' c, Post (ixf a) Γ' c → c = .dat .none ∧ ∃ B, Γ'[0]? = some (.rg (.ref a) B) ∧ DS X (Γ.set i (.rg (.ref a) B)) rest P)
    (hN : X.N.Nodup) (hi : X.N[i]? = some x := by rfl) (hx : Loc X.env.scope x := by first | exact .inl rfl | exact .inr rfl)
    (hs : swapsWith call (some (.Name x pos')) pos.line X.env = pure false := by rfl) (hf : X.fn x = true ∨ X.env.scope.names.lookup x = some .local := by first | exact .inl rfl | exact .inr rfl) : DS X Γ (.Assign [.Name x pos'] call pos :: rest) P :=
  ds_seq (N := fun Γ' => DS X Γ' rest P) ((ps_set (i := i) hN hi hx hp hs hf).imp fun D σ H ⟨G0, H0, G, s, k⟩ => ⟨G, s.env, fun G1 H1 us g1 qu a dx ha hdx hne => by
    show SpG X.K Pre Post (V.ref a :: (us ++ [])) _ _ E0
    rw [List.append_nil]
    refine (s.up g1).make (Q := fun x H1 => gName i x σ H1 D.nx) (E := E0) ha hdx hne qu (pre a) (fun Γ' c z => ⟨(post a Γ' c z).1, (post a Γ' c z).2.imp fun _ w => w.1⟩) fun G' H' Γ' B q hB sg st rB fr => ?_
    obtain ⟨_, B2, e2, h2⟩ := post a Γ' _ q
    rw [hB] at e2
    cases e2
    exact k.nx G' H' _ _ h2 (g1.g.trans sg) (st.put i ⟨rfl, rB⟩ fun a z => ⟨(fr a z).1, fun j e _ ej => (fr a z).2 j e ej⟩)⟩) fun _ h => h
/-- lists of other lengths -/
theorem op_eqLen (hu : X.A.units < cLine) : OpR X (compareOp .Eq) fun u w H Q => ∃ a b xs ys, u = .ref a ∧ w = .ref b ∧ SqL X.K H a xs ∧ SqL X.K H b ys ∧ xs.length ≠ ys.length ∧ Q (.bl false) H := by
  intro pins s σ H x y v u Q I rx ry ⟨a, b, xs, ys, e1, e2, h1, h2, hn, q⟩
  subst e1 e2
  cases rx
  cases ry
  obtain ⟨i1, r1, p1, _⟩ := I.list h1
  obtain ⟨i2, r2, p2, _⟩ := I.list h2
  refine PySem.SeqAt.eq_list_lengthsAt p1.isList p2.isList ?_ hu ⟨.bl false, H, I, rfl, q⟩
  rw [bne_iff_ne, List.size_toArray, List.size_toArray, ← r1.length, ← r2.length]
  exact hn
/-- a list's cell, all data -/
theorem cellL_dp {G H : Hp} {σ : L2.St} {j n : Nat} (env : EnvD X.K G H Γ σ) (hc : cellAt Γ j n = some (l, .lst (ds.map .dat))) : Dp X.K H (.ref l) (.list ds) := by
  obtain ⟨u, h1, ws, rfl, q⟩ := env.cell hc
  have all : ∀ {ws : List V} {ds : List PyData}, Paired (FvOk X.K G) ws (ds.map .dat) → DqAll X.K G ws ds := fun {ws ds} q => by
    induction ds generalizing ws with
    | nil => cases q; exact .nil
    | cons d ds ih =>
      cases q with
      | cons a b => exact .cons a (ih b)
  exact .lst (SqL.of h1) (DqAll.dp _ _ ((all q).up env.s))
/-- a list's cell == [..] -/
theorem dt_eqC (j n : Nat) (ha : RE X Γ ae (.ref l)) (hb : DE X Γ be d) (hu : X.A.units + 64 < cLine) (hc : cellAt Γ j n = some (l, .lst (ds.map .dat))) (hd : SeqAt.shaped (.list ds) = true) (he : SeqAt.shaped d = true) (hm : behindInMarks .Eq be = false := by first | rfl | exact nomark _) : DT X Γ (.Compare ae [.Eq] [be] pos) (PyData.eqv (.list ds) d) :=
  (pt_cmpR (op_eqD hu) ha hb hm).imp fun σ H Q ⟨G, env, k⟩ => ⟨G, env, fun G1 H1 g1 => ⟨G1, env.up g1, fun G2 H2 y g2 q2 =>
    ⟨.list ds, d, cellL_dp ((env.up g1).up g2) hc, Dq.dp _ _ (q2.up g2.s), hd, he, _, rfl, k G2 H2 (g1.trans g2)⟩⟩⟩
theorem dt_neC (j n : Nat) (ha : RE X Γ ae (.ref l)) (hb : DE X Γ be d) (hu : X.A.units + 64 < cLine) (hc : cellAt Γ j n = some (l, .lst (ds.map .dat))) (hd : SeqAt.shaped (.list ds) = true) (he : SeqAt.shaped d = true) (hm : behindInMarks .NotEq be = false := by first | rfl | exact nomark _) : DT X Γ (.Compare ae [.NotEq] [be] pos) (!PyData.eqv (.list ds) d) :=
  (pt_cmpR (op_neD hu) ha hb hm).imp fun σ H Q ⟨G, env, k⟩ => ⟨G, env, fun G1 H1 g1 => ⟨G1, env.up g1, fun G2 H2 y g2 q2 =>
    ⟨.list ds, d, cellL_dp ((env.up g1).up g2) hc, Dq.dp _ _ (q2.up g2.s), hd, he, _, rfl, k G2 H2 (g1.trans g2)⟩⟩⟩
/-- a list's cell, not empty, == [] -/
theorem dt_eqNil (j n : Nat) {xs : List Fv} {x0 : Fv} (ha : RE X Γ ae (.ref l)) (hb : DE X Γ be (.list [])) (hu : X.A.units + 64 < cLine) (hc : cellAt Γ j n = some (l, .lst (x0 :: xs)) := by rfl) (hm : behindInMarks .Eq be = false := by first | rfl | exact nomark _) : DT X Γ (.Compare ae [.Eq] [be] pos) false :=
  (pt_cmpR (op_eqLen (by omega)) ha hb hm).imp fun σ H Q ⟨G, env, k⟩ => ⟨G, env, fun G1 H1 g1 => ⟨G1, env.up g1, fun G2 H2 y g2 q2 => by
    obtain ⟨u, h1, ws, rfl, q⟩ := ((env.up g1).up g2).cell hc
    obtain ⟨b, ys, rfl, hs, hy⟩ := q2.listE
    cases hy
    refine ⟨l, b, ws, [], rfl, rfl, SqL.of h1, g2.s.seq hs, ?_, _, rfl, k G2 H2 (g1.trans g2)⟩
    rw [Paired.length q]
    exact Nat.succ_ne_zero _⟩⟩
end
end SJ
set_option maxRecDepth 100000
set_option maxHeartbeats 4000000
/-! D9: things that come to a region, that leave it, that stand still from now on; methods that read. -/
namespace SJ
open PySem PySem.Spec PyProof.Rows L2
section
variable {K : PySem.W.Frag} {G H G' H' G0 H0 : Hp} {Γ Γa : List SD} {σ : L2.St} {cs B : List (Addr × Cell)} {v : V} {i j n : Nat} {a : Addr} {c c' : Cell}
theorem St0.absorb (s : St0 K G0 H0 G H Γ σ) (hj : Γ[j]? = some (.rg v cs)) (rB : RgOk K G H B) (fr : ∀ a, a ∈ B.map (·.1) → H0 a = none ∧ ∀ (i : Nat) e, Γ[i]? = some e → ¬ e.ad a) : St0 K G0 H0 G H (Γ.set j (.rg v (cs ++ B))) σ := by
  refine s.stepO hj (fun a => a ∈ B.map (·.1)) (fun a z => ⟨(fr a z).1, fun i e _ ei => (fr a z).2 i e ei⟩) (Same.refl _) s.env.s (fun _ _ z _ => z) (fun _ _ _ _ z => z) (fun a z => ?_) fun o _ w => ⟨w.1, ?_, fun p m => ?_⟩
  · have z : a ∈ (cs ++ B).map (·.1) := z
    rw [List.map_append, List.mem_append] at z
    exact z.elim .inl fun w => .inr (.inl w)
  · rw [List.map_append, List.nodup_append]
    exact ⟨w.2.nd, rB.nd, fun x hx y hy e => (fr y hy).2 j _ hj (by rw [← e]; exact hx)⟩
  · rcases List.mem_append.mp m with m | m
    · exact w.2.at_ p m
    · exact rB.at_ p m
/-- the region's list is other, the things the same or fewer -/
theorem St0.fewer (s : St0 K G0 H0 G H Γ σ) {cs' : List (Addr × Cell)} (hj : Γ[j]? = some (.rg v cs)) (sub : cs'.Sublist cs) : St0 K G0 H0 G H (Γ.set j (.rg v cs')) σ :=
  s.step hj (Same.refl _) s.env.s (fun _ _ z _ => z) (fun _ _ _ _ z => z) (fun a z => .inl ((sub.map _).subset z)) fun o _ w => ⟨w.1, (sub.map _).nodup w.2.nd, fun p m => w.2.at_ p (sub.subset m)⟩
/-- a cell stands still from now on, the others leave off it -/
theorem St0.frz1 (s : St0 K G0 H0 G H Γ σ) (hj : Γ[j]? = some (.rg v cs)) (hc : cs[n]? = some (a, c)) : ∃ u, H a = some u ∧ CellOk K G u c ∧ Same G (upd G a u) ∧ St0 K G0 H0 (upd G a u) H (Γ.set j (.rg v (cs.eraseIdx n))) σ := by
  obtain ⟨_, _, _, r⟩ := s.env.at_ j _ hj
  obtain ⟨z1, u, z2, z3⟩ := r.at_ _ (List.mem_of_getElem? hc)
  obtain ⟨t1, t2⟩ := Gr.take s.env.s z2 z1
  have ad : SD.ad (.rg v cs) a := List.mem_map.mpr ⟨_, List.mem_of_getElem? hc, rfl⟩
  refine ⟨u, z2, z3, t1, s.step hj t1 t2 (fun _ _ z _ => z) (fun b o _ nn w => ?_) (fun b z => .inl (((List.eraseIdx_sublist cs n).map _).subset z)) fun o _ w => ⟨w.1, ((List.eraseIdx_sublist cs n).map _).nodup w.2.nd, fun p m => ?_⟩⟩
  · rw [upd_ne (fun q : b = a => nn (by rw [q]; exact ad))]
    exact w
  · obtain ⟨y1, u2, y2, y3⟩ := w.2.at_ p (List.mem_of_mem_eraseIdx m)
    refine ⟨?_, u2, y2, y3.up t1⟩
    rw [upd_ne (fun q : p.1 = a => ?_)]
    · exact y1
    · obtain ⟨k, hk, hne⟩ := (List.mem_eraseIdx_iff_getElem?.mp m)
      have h1 : (cs.map (·.1))[n]? = some a := by rw [List.getElem?_map, hc]; rfl
      have h2 : (cs.map (·.1))[k]? = some a := by rw [List.getElem?_map, hne, ← q]; rfl
      exact hk (nd_ix w.2.nd h2 h1)
/-- a cell's reading is other, the thing the same -/
theorem St0.reC (s : St0 K G0 H0 G H Γ σ) (hj : Γ[j]? = some (.rg v cs)) (hc : cs[n]? = some (a, c)) (q : ∀ u, H a = some u → CellOk K G u c → CellOk K G u c') : St0 K G0 H0 G H (Γ.set j (.rg v (cs.set n (a, c')))) σ := by
  refine s.step hj (Same.refl _) s.env.s (fun _ _ z _ => z) (fun _ _ _ _ z => z) (fun b z => .inl ?_) fun o _ w => ⟨w.1, ?_, fun p m => ?_⟩
  · have z : b ∈ (cs.set n (a, c')).map (·.1) := z
    rw [map_setC hc] at z
    exact z
  · rw [map_setC hc]
    exact w.2.nd
  · obtain ⟨k, hk⟩ := List.mem_iff_getElem?.mp m
    have hn : n < cs.length := (List.getElem?_eq_some_iff.mp hc).1
    by_cases e : n = k
    · subst e
      rw [List.getElem?_set_self hn] at hk
      cases hk
      obtain ⟨z1, u, z2, z3⟩ := w.2.at_ _ (List.mem_of_getElem? hc)
      exact ⟨z1, u, z2, q u z2 z3⟩
    · rw [List.getElem?_set_ne e] at hk
      exact w.2.at_ p (List.mem_of_getElem? hk)
theorem paired_dats {G : Hp} : ∀ {ws : List V} {ds : List PyData}, Paired (FvOk K G) ws (ds.map .dat) → DqAll K G ws ds
  | _, [], q => by cases q; exact .nil
  | _, d :: ds, q => by
    cases q with
    | cons a b => exact .cons a (paired_dats b)
/-- a list's cell that is named in a field becomes data -/
theorem St0.frzL (s : St0 K G0 H0 G H Γ σ) {m : Nat} {p l C : Addr} {fs fs' : List (Str × Fv)} {ds : List PyData} (hj : Γ[j]? = some (.rg v cs)) (hc : cs[n]? = some (l, .lst (ds.map .dat))) (hp : (cs.eraseIdx n)[m]? = some (p, .ins C fs))
    (hf : ∀ (K : PySem.W.Frag) (G : Hp) ws, Dq K G (.ref l) (.list ds) → NvOk K G ws fs → NvOk K G ws fs') : ∃ G', Same G G' ∧ St0 K G0 H0 G' H (Γ.set j (.rg v ((cs.eraseIdx n).set m (p, .ins C fs')))) σ := by
  obtain ⟨u, z1, ⟨ws, rfl, z2⟩, t, s1⟩ := s.frz1 hj hc
  have hj' : j < Γ.length := (List.getElem?_eq_some_iff.mp hj).1
  have dl : Dq K (upd G l (.lst ws)) (.ref l) (.list ds) := .lst upd_same ((paired_dats z2).up t)
  have s2 := s1.reC (List.getElem?_set_self hj') hp (c' := .ins C fs') fun u _ ⟨dx, ws2, e, q⟩ => ⟨dx, ws2, e, hf K _ ws2 dl q⟩
  rw [List.set_set] at s2
  exact ⟨_, t, s2⟩
end
theorem paired_get {α β : Type} {R : α → β → Prop} : ∀ {ws : List α} {xs : List β} {i : Nat} {x : β}, Paired R ws xs → xs[i]? = some x → ∃ y, ws[i]? = some y ∧ R y x
  | _, _, _, _, .nil, e => by simp at e
  | _, _, 0, _, .cons r _, e => by simp at e; subst e; exact ⟨_, rfl, r⟩
  | _, _, i + 1, _, .cons _ t, e => by
    obtain ⟨u, h1, h2⟩ := paired_get (i := i) t (by simpa using e)
    exact ⟨u, by simpa using h1, h2⟩
section
variable {X : Cx} {Γ : List SD} {P : Po} {rest : List Stmt} {e oe : Expr} {es : List Expr} {d : PyData} {ds : List PyData} {v : V} {p a C : Addr} {fs : List (Str × Fv)} {xs : List Fv} {cs : List (Addr × Cell)} {m x : Str} {pos pos' apos cpos np : Pos} {k : Nat} {ι : Type} {Pre : ι → List SD → Prop} {Post : ι → List SD → SD → Prop} {ix : ι}
theorem ownG_none {c0 : SD} (h0 : ∀ a, ¬ c0.ad a) {ds : List PyData} (a : Addr) : ¬ ownG (c0 :: ds.map SD.dat) a := fun ⟨i, c, e, z⟩ => by
  cases i with
  | zero => cases e; exact h0 a z
  | succ i =>
    obtain ⟨d, _, rfl⟩ := List.mem_map.mp (List.mem_of_getElem? (show (ds.map SD.dat)[i]? = some c by simpa using e))
    exact z
/-- o.m(..), nothing of one's own handed on, data back -/
theorem d_mcall {call : Expr} (c0 : SD) (j n : Nat) (hp : PE X call (tMeth C m (SpG X.K Pre Post) [] E0 (tR X.K Γ (.ref p)) (tDA X.K Γ ds))) (ha : ∀ a, ¬ c0.ad a) (h0 : ∀ G H σ, EnvD X.K G H Γ σ → SOk X.K G H c0 (some (.ref p))) (pre : Pre ix (c0 :: ds.map .dat))
    (hc : cellAt Γ j n = some (p, .ins C fs)) (hm : fs.lookup m = none) (post : ∀ Γ' c, Post ix Γ' c → c = .dat d) : DE X Γ call d :=
  hp.imp fun σ H Q ⟨G, env, k⟩ => ⟨G, env, fun G1 H1 g1 => by
    have env1 := env.up g1
    obtain ⟨dx, ws, z1, z2⟩ := recv env1 hc hm
    refine ⟨p, dx, ws, rfl, z1, z2, G1, env1, fun G2 H2 us g2 qu => ?_⟩
    have env2 := env1.up g2
    show SpG X.K Pre Post (V.ref p :: (us ++ [])) H2 _ E0
    rw [List.append_nil]
    refine spG_of pre (args_env env2.s (h0 _ _ _ env2) (by rw [qu.len, List.length_map]) (dats_ok qu) dats_dis fun i c a e z => by
      obtain ⟨d, _, rfl⟩ := List.mem_map.mp (List.mem_of_getElem? e)
      exact (show False from z).elim) fun G' H' Γ' σ' c r q s' hq _ => ?_
    obtain rfl := post Γ' c q
    obtain ⟨u, e1, e2⟩ := hq
    cases e1
    exact k G' H' r ((g1.trans g2).trans ⟨s'.gr.g, fun a o z => s'.gr.h a o (by rw [hole_out (ownG_none ha a)]; exact z), s'.env.s, fun a o z => s'.gr.fr a o (by rw [hole_out (ownG_none ha a)]; exact z)⟩) e2⟩
/-- o.append(C(..)), o's list a cell -/
theorem ds_cappMk (j n : Nat) (ixf : Addr → ι) {call : Expr} (ho : RE X Γ oe (.ref a)) (hp : PE X call (tMake C (SpG X.K Pre Post) [] E0 (tDA X.K Γ ds))) (pre : ∀ a, Pre (ixf a) (.rg (.ref a) [(a, .ins C [])] :: ds.map .dat)) (hz : xs.length < 100000) (hj : Γ[j]? = some (.rg v cs)) (hc : cs[n]? = some (a, .lst xs))
    (post : ∀ q Γ' c, Post (ixf q) Γ' c → c = .dat .none ∧ ∃ B, Γ'[0]? = some (.rg (.ref q) B) ∧ DS X (Γ.set j (.rg v (cs.set n (a, .lst (xs ++ [.raw (.ref q)])) ++ B))) rest P)
    (hbase : attributeBase oe "append" X.env (eval oe X.env) = eval oe X.env := by rfl)
    (hfew : ((backTo cpos (starEach [call] X.env)).all (fun x => !x.1) && (backToKw cpos (keywordEach [] X.env)).all (fun x => x.1.isSome) && decide (([call] : List Expr).length + ([] : List Keyword).length + (if ([] : List Keyword).isEmpty then 0 else 1) < 30)) = true := by rfl)
    (hline : (apos.endLine == cpos.line) = true := by rfl) (hs : starEach [call] X.env = (false, eval call X.env) :: starEach [] X.env := by rfl) (hplain : (backTo cpos (starEach [] X.env)).any (·.1) = false := by rfl)
    (hsw : swapsWith (.Call (.Attribute oe "append" apos) [call] [] cpos) none pos.line X.env = pure false := by rfl) : DS X Γ (.Expr (.Call (.Attribute oe "append" apos) [call] [] cpos) pos :: rest) P :=
  ds_seq (N := fun Γ' => DS X Γ' rest P) ((ps_expr (pe_bm PySem.F.plainAttrs_list PySem.F.slot_list_append PySem.F.type_list_append mt_append ho (pa_cons hp pa_nil hs) hbase hfew hline hs hplain) hsw).imp fun D σ H ⟨G0, H0, G, s, k⟩ => ⟨G, s.env, fun G1 H1 g1 => by
    have s1 := s.up g1
    obtain ⟨_, _, _, r⟩ := s1.env.at_ j _ hj
    obtain ⟨_, u, z1, ws, rfl, z2⟩ := r.at_ _ (List.mem_of_getElem? hc)
    refine ⟨.inl ⟨rfl, _, SqL.of z1⟩, G1, s1.env, fun G2 H2 us g2 qu q dx hq hdx hne => ?_⟩
    have s2 := s1.up g2
    show SpG X.K Pre Post (V.ref q :: (us ++ [])) _ _ E0
    rw [List.append_nil]
    refine s2.make (Q := fun y H3 => rAppend (.ref a) [y] H3 fun _ H4 => D.nx σ H4) (E := E0) hq hdx hne qu (pre q) (fun Γ' c z => ⟨(post q Γ' c z).1, (post q Γ' c z).2.imp fun _ w => w.1⟩) fun G' H' Γ' B p hB sg st rB fr => ?_
    obtain ⟨_, B2, e2, h2⟩ := post q Γ' _ p
    rw [hB] at e2
    cases e2
    have st2 := st.absorb hj rB fr
    have hj' : j < Γ.length := (List.getElem?_eq_some_iff.mp hj).1
    have hn : n < cs.length := (List.getElem?_eq_some_iff.mp hc).1
    have hj2 : (Γ.set j (.rg v (cs ++ B)))[j]? = some (.rg v (cs ++ B)) := List.getElem?_set_self hj'
    have hc2 : (cs ++ B)[n]? = some (a, .lst xs) := by rw [List.getElem?_append_left hn]; exact hc
    obtain ⟨_, _, _, r3⟩ := st2.env.at_ j _ hj2
    obtain ⟨_, u3, y1, ws3, rfl, y2⟩ := r3.at_ _ (List.mem_of_getElem? hc2)
    have s3 := st2.setC hj2 hc2 (o := .lst (ws3 ++ [.ref q])) (c' := .lst (xs ++ [.raw (.ref q)])) ⟨_, rfl, paired_app y2 (.cons (show FvOk X.K G' (.ref q) (.raw (.ref q)) from rfl) .nil)⟩
    rw [List.set_set, List.set_append_left _ _ hn] at s3
    refine ⟨a, ws3, .ref q, rfl, rfl, y1, ?_, k.nx G' _ _ σ h2 ((g1.g.trans g2.g).trans sg) s3⟩
    rw [Paired.length y2]
    exact Nat.lt_of_lt_of_le hz (by decide)⟩) fun _ h => h
/-- o[i], a very value of a list's cell -/
theorem re_ixC (j n : Nat) {ie : Expr} {i : Int} {w : V} (he : RE X Γ e (.ref a)) (hi : DE X Γ ie (.int i)) (h : atI xs i = some (.raw w)) (hc : cellAt Γ j n = some (a, .lst xs)) (hs : PlainIx ie := by exact fun _ _ => rfl) : RE X Γ (.Subscript e ie pos) w :=
  (pe_ix ix_list he hi hs).imp fun σ H Q ⟨G, env, k⟩ => ⟨G, env, fun G1 H1 g1 => ⟨G1, env.up g1, fun G2 H2 y g2 q2 => by
    obtain ⟨u, h1, ws, rfl, q⟩ := ((env.up g1).up g2).cell hc
    have at_ : ∃ y, atI ws i = some y ∧ FvOk X.K G2 y (.raw w) := by
      unfold atI at h ⊢
      rw [Paired.length q]
      cases hx : ixN xs.length i with
      | none => rw [hx] at h; cases h
      | some m =>
        rw [hx] at h
        exact paired_get q h
    obtain ⟨y, z1, z2⟩ := at_
    rw [show y = w from z2] at z1
    exact ⟨a, ws, i, w, rfl, q2.intE, SqL.of h1, z1, k G2 H2 (g1.trans g2)⟩⟩⟩
/-- x = o.pop(), the one very value of a list's cell -/
theorem ds_popR (i : Nat) (j n : Nat) {w : V} (ho : RE X Γ oe (.ref a)) (hr : DS X ((Γ.set j (.rg v (cs.set n (a, .lst [])))).set i (.raw w)) rest P) (hN : X.N.Nodup) (hj : Γ[j]? = some (.rg v cs)) (hc : cs[n]? = some (a, .lst [.raw w])) (hi : X.N[i]? = some x := by rfl) (hx : Loc X.env.scope x := by first | exact .inl rfl | exact .inr rfl)
    (hbase : attributeBase oe "pop" X.env (eval oe X.env) = eval oe X.env := by rfl) (hline : (apos.endLine == cpos.line) = true := by rfl)
    (hs : swapsWith (.Call (.Attribute oe "pop" apos) [] [] cpos) (some (.Name x pos')) pos.line X.env = pure false := by rfl) (hf : X.fn x = true ∨ X.env.scope.names.lookup x = some .local := by first | exact .inl rfl | exact .inr rfl) : DS X Γ (.Assign [.Name x pos'] (.Call (.Attribute oe "pop" apos) [] [] cpos) pos :: rest) P :=
  ds_seq (N := (· = (Γ.set j (.rg v (cs.set n (a, .lst [])))).set i (.raw w))) ((ps_set (i := i) hN hi hx (pe_bm0 PySem.F.plainAttrs_list PySem.F.slot_list_pop PySem.F.type_list_pop mt_pop ho hbase hline) hs hf).imp fun D σ H ⟨G0, H0, G, s, k⟩ => ⟨G, s.env, fun G1 H1 g1 => by
    have s1 := s.up g1
    obtain ⟨_, _, _, r⟩ := s1.env.at_ j _ hj
    obtain ⟨_, u, z1, ws, rfl, z2⟩ := r.at_ _ (List.mem_of_getElem? hc)
    cases z2 with
    | cons e1 z2 =>
      cases z2
      cases (show _ = w from e1)
      exact ⟨.inl ⟨rfl, _, SqL.of z1⟩, a, _, w, rfl, rfl, z1, rfl, k.nx G1 _ _ _ rfl g1.g ((s1.setC hj hc (o := .lst []) (c' := .lst []) ⟨_, rfl, .nil⟩).put i rfl fun _ (z : False) => z.elim)⟩⟩) fun _ e => e ▸ hr
theorem mk0 {sp : Sp} {call : Expr} (h : PE X call (tMake C sp [] E0 tNil)) : PE X call (tMake C sp [] E0 (tDA X.K Γ [])) := h.imp fun σ H Q ⟨G, env, k⟩ => k G H [] (Gr.refl env.s) .nil
theorem mc0 {sp : Sp} {ta : TE} {call : Expr} (h : PE X call (tMeth C m sp [] E0 ta tNil)) (w : ∀ σ H Q Q', (∀ x H1, Q x H1 → Q' x H1) → ta σ H Q → ta σ H Q') : PE X call (tMeth C m sp [] E0 ta (tDA X.K Γ [])) :=
  h.imp fun σ H Q q => w σ H _ _ (fun x H1 ⟨a, dx, fs, e1, e2, e3, G, env, k⟩ => ⟨a, dx, fs, e1, e2, e3, k G H1 [] (Gr.refl env.s) .nil⟩) q
theorem tR_mono {σ : L2.St} {H : Hp} {Q Q' : VK} (w : ∀ x H1, Q x H1 → Q' x H1) (h : tR X.K Γ v σ H Q) : tR X.K Γ v σ H Q' := let ⟨G, env, k⟩ := h; ⟨G, env, fun G' H' g => w _ _ (k G' H' g)⟩
/-- f(e1, e2), the second a thing that stands still -/
theorem d_call2S {Pre : ι → List SD → Prop} {e1 e2 : Expr} {d1 : PyData} {v2 : V} {f : Str} {p : Pos} (c2 : SD) (F : GFn X.prog X.w X.K X.mg X.base f k (SpG X.K Pre Post)) (hr : Room k X.A) (h1 : DE X Γ e1 d1) (h2 : RE X Γ e2 v2) (hc : ∀ a, ¬ c2.ad a) (h0 : ∀ G H σ, EnvD X.K G H Γ σ → SOk X.K G H c2 (some v2))
    (pre : Pre ix [.dat d1, c2]) (post : ∀ Γ' c, Post ix Γ' c → c = .dat d) (hg : Gl X f := by rfl) (hdb : (f == ("__debug__" : Str)) = false := by decide) (hs : starEach [e1, e2] X.env = (false, eval e1 X.env) :: starEach [e2] X.env := by rfl) (hs2 : starEach [e2] X.env = (false, eval e2 X.env) :: starEach [] X.env := by rfl)
    (hpl : (backTo pos (starEach [e2] X.env)).any (·.1) = false := by rfl) : DE X Γ (.Call (.Name f p) [e1, e2] [] pos) d :=
  (g_call F hr (pa_cons h1 (pa_cons h2 pa_nil hs2) hs) hg hdb hs hpl).imp fun σ H Q ⟨G, env, q⟩ => ⟨G, env, fun G1 H1 y g1 qy => ⟨G1, env.up g1, fun G2 H2 g2 => by
    have env2 := (env.up g1).up g2
    show SpG X.K Pre Post ([y, v2] ++ []) H2 _ E0
    rw [List.append_nil]
    refine spG_of pre (args_env (v := y) (us := [v2]) (Γx := [c2]) env2.s ⟨y, rfl, qy.up g2.g⟩ rfl (fun i c e => ?_) (fun i j c e a z1 _ w1 _ => ?_) fun i c a _ _ z => z) fun G' H' Γ' σ' c r q1 s' hq _ => ?_
    · cases i with
      | zero => cases e; exact ⟨v2, rfl, h0 _ _ _ env2⟩
      | succ i => cases e
    · cases i with
      | zero => cases z1; exact (hc a w1).elim
      | succ i => cases z1
    · obtain rfl := post Γ' c q1
      obtain ⟨u, z1, z2⟩ := hq
      cases z1
      have no : ∀ a, ¬ ownG [.dat d1, c2] a := fun a ⟨i, c, e, z⟩ => by
        match i with
        | 0 => cases e; exact z
        | 1 => cases e; exact hc a z
        | i + 2 => cases e
      exact q G' H' r ((g1.trans g2).trans ⟨s'.gr.g, fun a o z => s'.gr.h a o (by rw [hole_out (no a)]; exact z), s'.env.s, fun a o z => s'.gr.fr a o (by rw [hole_out (no a)]; exact z)⟩) z2⟩⟩
/-- [elt for x in iter], the results in a row -/
theorem d_lcE (i : Nat) {x : Str} {xp : Pos} {N ps : List Str} {sc : Scope} {elt iter : Expr} {scope : Scope} {es : List PyData} (S : FnScope N ps sc) (hi : PID X (.Name x xp) Γ iter ds) (ok : L2.blkC N sc scope [(x, i)] = true) (hl : es.length = ds.length) (hn : ds.length ≤ 100000)
    (he : ∀ (j : Nat) d e, ds[j]? = some d → es[j]? = some e → EltD X scope elt ((Γ.set i .un).set i (.dat d)) e) (hNN : X.N = N := by rfl) (hsc : X.env.scope = sc := by rfl) (hx : X.N[i]? = some x := by rfl) (hlo : ∀ (s : Shared) (H : Hp) (C : Addr) (cl : List (Str × Addr)) (fp : List Addr), Loc (X.blk s H scope (compEnvC scope cl C X.env) fp).env.scope x := by exact fun _ _ _ _ _ => Or.inl rfl)
    (hfn : ∀ (s : Shared) (H : Hp) (C : Addr) (cl : List (Str × Addr)) (fp : List Addr), (X.blk s H scope (compEnvC scope cl C X.env) fp).fn x = true ∨ (X.blk s H scope (compEnvC scope cl C X.env) fp).env.scope.names.lookup x = some .local := by first | exact fun _ _ _ _ _ => Or.inr rfl | exact fun _ _ _ _ _ => Or.inl rfl)
    (hc : X.calm = true := by rfl) (hs : ∀ y, foldedSetIterable iter X.env y = pure y := by intro _; rfl) : DE X Γ (.ListComp elt [⟨.Name x xp, iter, [], 0⟩] scope pos) (.list es) := by
  have hN : X.N.Nodup := hNN ▸ S.nd
  subst hNN hsc
  exact d_lc (own := [(x, i)]) (f := fNm i) (g := gName i) hi (blkOk_by ok) (fun s H C cl fp => pg_name hN hx (hlo s H C cl fp) (hfn s H C cl fp)) (tg_nm i) hl hn (fun j d e h1 h2 => ⟨_, rfl, he j d e h1 h2⟩) hN hc hs
end
end SJ
set_option maxRecDepth 100000
set_option maxHeartbeats 4000000
/-! EN: enumerate(list, start=1). -/
namespace L2
open PySem PySem.Spec PyProof.Rows
/-- the list at a, each item with its number, from k0 -/
def ItE (K : PySem.W.Frag) (a : Addr) (k0 : Int) : It :=
  ⟨fun i H => ∃ (xs : List V) (x : V), SqL K H a xs ∧ xs[i]? = some x, fun i H v H' => ∃ T x, v = .ref T ∧ H T = none ∧ H' = upd H T (.tup [.int (k0 + (i : Nat)), x]) ∧ ∀ xs, SqL K H a xs → xs[i]? = some x, fun i H => ∃ xs : List V, SqL K H a xs ∧ xs.length ≤ i⟩
theorem turn_enumE {P : Program} {w : World} {K : PySem.W.Frag} {elts : List Expr} {kk : Nat} {tpos : Pos} (a e it : Addr) (k0 : Int) (hal : a ≠ it) (hae : a ≠ e) :
    Turn P w K (.Tuple elts kk tpos) (ItE K a k0) [e, it] e (fun i h => (∃ old, IsEnum h e it (k0 + (i : Nat)) old) ∧ h.IsListIter it a i ∧ e ≠ it) where
  mem := List.mem_cons_self
  obj := fun i h st b hb => by
    obtain ⟨⟨old, he⟩, ⟨o, ho, hc, hd⟩, _⟩ := st
    rcases List.mem_cons.mp hb with z | z
    · exact z ▸ ⟨_, he, fun v q => nomatch q⟩
    · obtain rfl := List.mem_singleton.mp z
      exact ⟨o, ho, fun v q => by rw [hd] at q; cases q⟩
  keep := fun i h h' st k => let ⟨⟨old, he⟩, hi, hne⟩ := st; ⟨⟨old, k e List.mem_cons_self _ he⟩, hi.at fun o q => k it (List.mem_cons_of_mem _ List.mem_cons_self) o q, hne⟩
  item := by
    intro X hP hw hK hc i pins s σ H E I hf st hg
    subst hP hw hK
    obtain ⟨⟨old, he⟩, hit, hne⟩ := st
    obtain ⟨xs, x, hq, hx⟩ := hg
    obtain ⟨its, rv, p, hz⟩ := I.list hq
    obtain ⟨u, hu, ru⟩ := rv.get hx
    have hel : e < s.heap.objs.size := Heap.lt_size he
    have hil : it < s.heap.objs.size := by obtain ⟨_, q, _⟩ := hit; exact Heap.lt_size q
    have hlt : i < its.toArray.size := by
      have := (List.getElem?_eq_some_iff.mp hu).1
      simpa using this
    have hef : e ∉ [it, a] := fun m => by
      rcases List.mem_cons.mp m with z | z
      · exact hne z
      · exact hae (List.mem_singleton.mp z).symm
    refine wpAny_pyNext_enum_itemC (Draws.list (prog := X.prog) (w := X.w) (A := X.A.in1) (I.ok.hd hc) it a hal its.toArray) he ⟨hit, p.isList⟩ hlt hne hef fun y h' tk hy ho hit' hT hsz hk => ?_
    have hy2 : y = u := by
      have hu2 : its.toArray[i]? = some u := by simpa using hu
      rw [hu2] at hy
      exact (Option.some.inj hy).symm
    subst hy2
    refine ⟨_, rfl, wpAny_letOwnedTupleGo_enum (s := { s with heap := h', toks := tk + 1 }) ho fun h'' he' sb => ?_⟩
    have hT2 : h''.get? s.heap.objs.size = some { cls := .type "tuple", data := .seq #[.int (k0 + (i : Nat)) tk, y] } := (sb.2 _ (Nat.ne_of_gt hel)).trans hT
    have new : ObjOk X.prog X.w (upd H s.heap.objs.size (.tup [.int (k0 + (i : Nat)), x])) h'' s.heap.objs.size (.tup [.int (k0 + (i : Nat)), x]) :=
      ⟨by show 2 ≤ sizeLine; decide, [.int (k0 + (i : Nat)) tk, y], .cons ⟨_, rfl⟩ (.cons ru .nil), ⟨_, hT2, rfl, _, rfl⟩⟩
    have I1 : Inv X pins σ (upd H s.heap.objs.size (.tup [.int (k0 + (i : Nat)), x])) { s with heap := h'', toks := tk + 1 } :=
      I.turnedNew (ch := [e, it]) (fun b ob hb q => (sb.2 b (fun z => hb (by rw [z]; exact List.mem_cons_self))).trans (hk b ob (fun z => hb (by rw [z]; exact List.mem_cons_self)) (fun z => hb (by rw [z]; exact List.mem_cons_of_mem _ List.mem_cons_self)) q)) hf (Nat.le_refl _) new
    refine ⟨.ref s.heap.objs.size, _, I1, rfl, ⟨_, x, rfl, I.hok.fresh (Nat.le_refl _), rfl, fun ys hy => by rw [I.list_inj hy hq]; exact hx⟩, ⟨⟨y, ?_⟩, hit'.1.at fun o q => (sb.2 it (Ne.symm hne)).trans q, hne⟩, fun b hb => ?_⟩
    · have e1 : k0 + ((i + 1 : Nat) : Int) = k0 + (i : Nat) + 1 := by omega
      rw [e1]
      exact he'
    · have hb' : b < s.heap.objs.size := by
        rcases List.mem_cons.mp hb with z | z
        · rw [z]; exact hel
        · rw [List.mem_singleton.mp z]; exact hil
      rw [upd_ne (Nat.ne_of_lt hb')]
      exact (hf b hb).1
  done := by
    intro X hP hw hK hc i pins s σ H E I hf st hg
    subst hP hw hK
    obtain ⟨⟨old, he⟩, hit, hne⟩ := st
    obtain ⟨xs, hq, hx⟩ := hg
    obtain ⟨its, rv, p, hz⟩ := I.list hq
    obtain ⟨f0, f1, f2, f3, f4, f5⟩ := hf it (List.mem_cons_of_mem _ List.mem_cons_self)
    have hl := rv.length
    have D : Draws X.prog X.w X.A.in1 it [it, a] i (fun _ _ => False) (fun j h => j = i ∧ h.IsListIter it a i ∧ h.IsList a its.toArray) :=
      { live := fun _ _ st => let ⟨o, ho, _⟩ := st.2.1; ⟨o, ho⟩
        frame := fun _ _ _ st hk => ⟨st.1, st.2.1.at fun o e => hk it List.mem_cons_self o e, st.2.2.at fun o e => hk a (List.mem_cons_of_mem _ List.mem_cons_self) o e⟩
        item := fun j s Q E hj st hQ => absurd st.1 (Nat.ne_of_lt hj)
        done := fun s Q E st hE => by
          refine wpAny_nextOf_list_end (I.ok.hd hc) st.2.1 st.2.2 ?_ hE
          rw [Array.getElem?_eq_none_iff]
          simp only [List.size_toArray]
          omega }
    exact wpAny_pyNext_enum_endD D he ⟨rfl, hit, p.isList⟩ fun h' eb => ⟨rfl, I.turned (t' := s.toks) (fun b o hb q => eb b o hb q) f0 f1 f3 f4 f5⟩
  self := fun A i s Q E st h => let ⟨⟨_, he⟩, _⟩ := st; wpAny_pyIter_enum he h
theorem callT_kw {M : Model} {A : Around} {E : Value → Shared → Prop} {s : Shared} {pos : Pos} {T : String} {x : Sem Value} {keywords : List (Option Str × Sem Value)} {Q : Value → Shared → Prop} (hall : keywords.all (·.1.isSome) = true) (hkw : keywords.any (·.1.isNone) = false)
    (h : wpAny M A (spliced [(false, x)]) (fun vs s₁ => wpAny M A (evalAll (keywords.map (·.2))) (fun kvs s₂ => wpAny M A (call (.type T) vs ((keywords.filterMap (·.1)).zip kvs)) Q E s₂) E s₁) E s) : wpAny M A (callWith pos (.type T) [] [(false, x)] keywords) Q E s := by
  have h2 : wpAny M A (evalArgs (.type T) true [(false, x)] keywords) (fun a s₁ => wpAny M A (call (.type T) ([] ++ a.pos) a.kw) Q E s₁) E s := evalArgs_kwB hall h
  unfold callWith
  refine wpAny_bind (wpAny_holding (wpAny_mono h2 (fun a s₁ h₁ => wpAny_bind (wpAny_standAt ?_)) fun _ _ z => z))
  have e1 : (([(false, x)] : List (Bool × Sem Value)).any (·.1) || keywords.any (·.1.isNone)) = false := by rw [hkw]; rfl
  simp only [e1]
  refine wpAny_bind (wpAny_pure (wpAny_bind (wpAny_mono h₁ (fun r s₂ hr => ?_) fun _ _ z => z)))
  exact wpAny_bind (wpAny_holding (wpAny_point (wpAny_pure hr)))
def iEnumE (K : PySem.W.Frag) (ta : TA) : TI := fun σ H R => ta σ H fun vs H1 => ∃ a xs, vs = [.ref a] ∧ SqL K H1 a xs ∧ R (ItE K a 1) H1
theorem pi_enum1 {X : Cx} {e : Expr} {ta : TA} {p pos tpos kp cp : Pos} {j : Nat} {elts : List Expr} {kk : Nat} (hg : Gl X "enumerate") (hm : X.mg "enumerate" = none) (ha : PA X [e] ta) (hs : starEach [e] X.env = [(false, eval e X.env)] := by rfl)
    (hc : eval (.Call (.Name "enumerate" p) [e] [⟨some "start", .Constant (.int 1) j cp, kp⟩] pos) X.env = (do callWith pos (← eval (.Name "enumerate" p) X.env) [] (backTo pos (starEach [e] X.env)) (backToKw pos (keywordEach [⟨some "start", .Constant (.int 1) j cp, kp⟩] X.env))) := by rfl) :
    PI X (.Tuple elts kk tpos) (.Call (.Name "enumerate" p) [e] [⟨some "start", .Constant (.int 1) j cp, kp⟩] pos) (iEnumE X.K ta) := by
  refine ⟨fun pins s σ H R I h => ?_⟩
  rw [hc]
  refine wpAny_bind (ld_blt I hg hm boot_enumerate ?_)
  rw [hs]
  refine callT_kw (keywords := backToKw pos (keywordEach [⟨some "start", .Constant (.int 1) j cp, kp⟩] X.env)) rfl rfl ?_
  have h9 := ha.run pos pins s σ H _ I h
  rw [hs] at h9
  refine thn h9 fun us s1 ⟨vs, H1, I1, r1, a, xs, ex, hq, q⟩ => ?_
  subst ex
  obtain ⟨u, rfl, ru⟩ := r1.one
  cases ru
  refine thn ((pk_cons (nm := some "start") (kpos := kp) (pe_int (i := 1) (j := j) (pos := cp)) pk_nil).run pos pins s1 σ H1 (fun zs H2 => zs = [.int 1] ∧ H2 = H1) I1 ⟨rfl, rfl⟩) fun ks s2 ⟨zs, H2, I2, r2, ez, eH⟩ => ?_
  subst ez eH
  obtain ⟨k, rfl, t, rfl⟩ := r2.one
  obtain ⟨its, rv, p', hz⟩ := I2.list hq
  refine enum_begins_start (begins_list a its.toArray) p'.isList (by decide) (by decide) fun h' he hit hsz hk => wpAny_pyIter_enum he ?_
  have I3 := I2.kept (h' := h') (t' := s2.toks) hk
  have hal : a < s2.heap.objs.size := by
    obtain ⟨o, q, _⟩ := p'.isList
    exact Heap.lt_size q
  refine ⟨s2.heap.objs.size + 1, [s2.heap.objs.size + 1, s2.heap.objs.size], _, _, H2, rfl, I3, turn_enumE a (s2.heap.objs.size + 1) s2.heap.objs.size 1 (Nat.ne_of_lt hal) (Nat.ne_of_lt (Nat.lt_succ_of_lt hal)), ⟨⟨.none, he⟩, ⟨_, hit, rfl, rfl⟩, Nat.succ_ne_self _⟩, fun b hb => ?_, q⟩
  have hle : s2.heap.objs.size ≤ b := by
    rcases List.mem_cons.mp hb with z | z
    · rw [z]; exact Nat.le_succ _
    · rw [List.mem_singleton.mp z]; exact Nat.le_refl _
  exact I2.fpOk hle (I2.hok.fresh hle)
end L2
set_option maxRecDepth 100000
set_option maxHeartbeats 4000000
/-! W5: blocks and piles. -/
namespace SJ
open PySem PySem.Spec PyProof.Rows L2
section
variable {P : Program} {w : World} {K : PySem.W.Frag} {mg : Str → Option Value} {base : Heap} {f : Addr} {fd : FuncData} {CB CP : Addr}
def blkF (l : Addr) (ln said : PyData) : List (Str × Fv) := [("opened", .dat ln), ("said", .dat said), ("first", .raw (.ref l)), ("later", .dat .none)]
def blkC (CB q l : Addr) (ln said : PyData) (ps : List PyData) : List (Addr × Cell) := [(q, .ins CB (blkF l ln said)), (l, .lst (ps.map .dat))]
def Pre_Block_init (CB : Addr) : Addr × PyData × PyData → List SD → Prop := fun (q, ln, said) Γ => Γ = [.rg (.ref q) [(q, .ins CB [])], .dat ln, .dat said]
def Post_Block_init (CB : Addr) : Addr × PyData × PyData → List SD → SD → Prop := fun (q, ln, said) Γ' c => c = .dat .none ∧ ∃ l, Γ'[0]? = some (.rg (.ref q) (blkC CB q l ln said []))
theorem sc_Block_init : FnScope ["self", "line", "said"] ["self", "line", "said"] (defScope m_Block_init) := ⟨rfl, rfl, rfl, by decide +kernel, rfl, by decide +kernel, by decide +kernel⟩
structure BlockF (K : PySem.W.Frag) (CB : Addr) : Prop where
  opened : Fd K CB "opened"
  said : Fd K CB "said"
  first : Fd K CB "first"
  later : Fd K CB "later"
theorem ok_Block_init (B : BlockF K CB) (F : FD K d_Block_init f fd) : FnOk P w K mg base CX0 1 f fd ["self", "line", "said"] (SpG K (Pre_Block_init CB) (Post_Block_init CB)) := by
  refine fn_slots F sc_Block_init (fun (_, _, _) Γ (h : Γ = _) => by cases h; rfl) fun cdv A outer s H E hr (q, ln, said) Γ (h : Γ = _) => ?_
  cases h
  refine ds_fset 0 0 (d_var 1 rfl) (re_var 0) B.opened ?_
  refine ds_fset 0 0 (d_var 2 rfl) (re_var 0) B.said ?_
  refine ds_fsetL 0 0 (re_var 0) B.first fun l => ?_
  refine ds_fset 0 0 d_non (re_var 0) B.later ?_
  exact ds_nil ⟨rfl, l, rfl⟩
abbrev M_Block_init (P : Program) (w : World) (K : PySem.W.Frag) (mg : Str → Option Value) (base : Heap) (CB : Addr) : Prop := KFn P w K mg base "Block" CB 1 (SpG K (Pre_Block_init CB) (Post_Block_init CB))
structure IxBlk where
  (q l : Addr) (ln said : PyData) (ps : List PyData) (d : PyData)
def Pre_Block_add (CB : Addr) : IxBlk → List SD → Prop := fun ⟨q, l, ln, said, ps, d⟩ Γ => ps.length ≤ 5000 ∧ Γ = [.rg (.ref q) (blkC CB q l ln said ps), .dat d]
def Post_Block_add (CB : Addr) : IxBlk → List SD → SD → Prop := fun ⟨q, l, ln, said, ps, d⟩ Γ' c => c = .dat .none ∧ Γ'[0]? = some (.rg (.ref q) (blkC CB q l ln said (ps ++ [d])))
theorem sc_Block_add : FnScope ["self", "statement"] ["self", "statement"] (defScope m_Block_add) := ⟨rfl, rfl, rfl, by decide +kernel, rfl, by decide +kernel, by decide +kernel⟩
theorem ok_Block_add (B : BlockF K CB) (F : FD K d_Block_add f fd) : FnOk P w K mg base CX0 1 f fd ["self", "statement"] (SpG K (Pre_Block_add CB) (Post_Block_add CB)) := by
  refine fn_slots F sc_Block_add (fun ⟨_, _, _, _, _, _⟩ Γ h => by obtain ⟨_, rfl⟩ := h; rfl) fun cdv A outer s H E hr ⟨q, l, ln, said, ps, d⟩ Γ h => ?_
  obtain ⟨hz, rfl⟩ := h
  refine ds_ifT (dt_cmp (d_fld 0 0 (re_var 0) B.later) d_non o_isN) ?_
  refine ds_capp 0 1 (xs := ps.map .dat) (re_fld 0 0 (re_var 0) B.first) (d_var 1 rfl) ?_ (by rw [List.length_map]; omega)
  refine ds_nil (ds_nil ⟨rfl, ?_⟩)
  unfold blkC
  rw [List.map_append]
  rfl
abbrev M_Block_add (P : Program) (w : World) (K : PySem.W.Frag) (mg : Str → Option Value) (base : Heap) (CB : Addr) : Prop := MFn P w K mg base CB "add" 1 (SpG K (Pre_Block_add CB) (Post_Block_add CB))
/-- a block that stands still -/
def blkS (CB q : Addr) (ln said : PyData) (ps : List PyData) : List (Addr × Cell) := [(q, .ins CB [("opened", .dat ln), ("said", .dat said), ("first", .dat (.list ps)), ("later", .dat .none)])]
def jobS : PyData := .tuple [.str "job", .str "main", .list []]
def Pre_Block_whole (CB : Addr) : Addr × PyData × List PyData × PyData → List SD → Prop := fun (q, ln, ps, last) Γ => Γ = [.st (.ref q) (blkS CB q ln jobS ps), .dat last]
def Post_Block_whole (CB : Addr) : Addr × PyData × List PyData × PyData → List SD → SD → Prop := fun (q, ln, ps, last) Γ' c => c = .dat (.tuple [.str "main", .list [], .list ps, ln, last])
theorem sc_Block_whole : FnScope ["self", "last"] ["self", "last"] (defScope m_Block_whole) := ⟨rfl, rfl, rfl, by decide +kernel, rfl, by decide +kernel, by decide +kernel⟩
theorem ok_Block_whole (B : BlockF K CB) (F : FD K d_Block_whole f fd) : FnOk P w K mg base CX0 1 f fd ["self", "last"] (SpG K (Pre_Block_whole CB) (Post_Block_whole CB)) := by
  refine fn_slots F sc_Block_whole (fun (_, _, _, _) Γ (h : Γ = _) => by cases h; rfl) fun cdv A outer s H E hr (q, ln, ps, last) Γ (h : Γ = _) => ?_
  cases h
  refine ds_ifT (dt_is (dt_cmp (d_ixT (d_fld 0 0 (re_var 0) B.said (d := jobS)) d_int (d := .str "job") at0) d_str o_eqS)) ?_
  exact ds_ret (d_tup (da_cons (d_ixT (d_fld 0 0 (re_var 0) B.said (d := jobS)) d_int at1) (da_cons (d_ixT (d_fld 0 0 (re_var 0) B.said (d := jobS)) d_int at2) (da_cons (d_fld 0 0 (re_var 0) B.first) (da_cons (d_fld 0 0 (re_var 0) B.opened) (da_cons (d_var 1 rfl) da_nil)))))) rfl
abbrev M_Block_whole (P : Program) (w : World) (K : PySem.W.Frag) (mg : Str → Option Value) (base : Heap) (CB : Addr) : Prop := MFn P w K mg base CB "whole" 1 (SpG K (Pre_Block_whole CB) (Post_Block_whole CB))
end
end SJ
set_option maxRecDepth 100000
set_option maxHeartbeats 4000000
/-! W6: piles. -/
namespace SJ
open PySem PySem.Spec PyProof.Rows L2
section
variable {P : Program} {w : World} {K : PySem.W.Frag} {mg : Str → Option Value} {base : Heap} {f : Addr} {fd : FuncData} {CB CP : Addr}
structure PileF (K : PySem.W.Frag) (CP : Addr) : Prop where
  boxes : Fd K CP "boxes"
  jobs : Fd K CP "jobs"
  asks : Fd K CP "asks"
  blocks : Fd K CP "blocks"
def pileC (CP p b j a k : Addr) (bs js : List PyData) (ks : List Fv) (blk : List (Addr × Cell)) : List (Addr × Cell) :=
  [(p, .ins CP [("boxes", .raw (.ref b)), ("jobs", .raw (.ref j)), ("asks", .raw (.ref a)), ("blocks", .raw (.ref k))]), (b, .lst (bs.map .dat)), (j, .lst (js.map .dat)), (a, .lst []), (k, .lst ks)] ++ blk
def Pre_Pile_init (CP : Addr) : Addr → List SD → Prop := fun q Γ => Γ = [.rg (.ref q) [(q, .ins CP [])]]
def Post_Pile_init (CP : Addr) : Addr → List SD → SD → Prop := fun q Γ' c => c = .dat .none ∧ ∃ b j a k, Γ'[0]? = some (.rg (.ref q) (pileC CP q b j a k [] [] [] []))
theorem sc_Pile_init : FnScope ["self"] ["self"] (defScope m_Pile_init) := ⟨rfl, rfl, rfl, by decide +kernel, rfl, by decide +kernel, by decide +kernel⟩
theorem ok_Pile_init (B : PileF K CP) (F : FD K d_Pile_init f fd) : FnOk P w K mg base CX0 1 f fd ["self"] (SpG K (Pre_Pile_init CP) (Post_Pile_init CP)) := by
  refine fn_slots F sc_Pile_init (fun _ Γ (h : Γ = _) => by cases h; rfl) fun cdv A outer s H E hr q Γ (h : Γ = _) => ?_
  cases h
  refine ds_fsetL 0 0 (re_var 0) B.boxes fun b => ?_
  refine ds_fsetL 0 0 (re_var 0) B.jobs fun j => ?_
  refine ds_fsetL 0 0 (re_var 0) B.asks fun a => ?_
  refine ds_fsetL 0 0 (re_var 0) B.blocks fun k => ?_
  exact ds_nil ⟨rfl, b, j, a, k, rfl⟩
abbrev M_Pile_init (P : Program) (w : World) (K : PySem.W.Frag) (mg : Str → Option Value) (base : Heap) (CP : Addr) : Prop := KFn P w K mg base "Pile" CP 1 (SpG K (Pre_Pile_init CP) (Post_Pile_init CP))
def boxS (b : Str × Str) : PyData := .tuple [.str "box", .str b.1, .str b.2]
/-- boxes only -/
def pst1 (CP p b j a k : Addr) (bs : List PyData) : List (Addr × Cell) := pileC CP p b j a k bs [] [] []
/-- in the job -/
def pst2 (CP CB p b j a k q l : Addr) (bs : List PyData) (ln : PyData) (ps : List PyData) : List (Addr × Cell) := pileC CP p b j a k bs [] [.raw (.ref q)] (blkC CB q l ln jobS ps)
/-- behind the job -/
def pst3 (CP p b j a k : Addr) (bs : List PyData) (job : PyData) : List (Addr × Cell) := pileC CP p b j a k bs [job] [] []
def jobW (ln last : PyData) (ps : List PyData) : PyData := .tuple [.str "main", .list [], .list ps, ln, last]
structure IxOut where
  (p b j a k : Addr) (bs : List PyData) (ln said : PyData)
def Pre_outer (CP : Addr) : IxOut → List SD → Prop := fun ⟨p, b, j, a, k, bs, ln, said⟩ Γ => bs.length ≤ 50 ∧ ((∃ x, said = boxS x) ∨ said = jobS) ∧ Γ = [.rg (.ref p) (pst1 CP p b j a k bs), .dat ln, .dat said]
def Post_outer (CP CB : Addr) : IxOut → List SD → SD → Prop := fun ⟨p, b, j, a, k, bs, ln, said⟩ Γ' c => c = .dat .none ∧
  ((∃ x, said = boxS x ∧ Γ'[0]? = some (.rg (.ref p) (pst1 CP p b j a k (bs ++ [boxD x])))) ∨ (said = jobS ∧ ∃ q l, Γ'[0]? = some (.rg (.ref p) (pst2 CP CB p b j a k q l bs ln []))))
theorem sc_outer : FnScope ["self", "line", "said"] ["self", "line", "said"] (defScope m_Pile_takes_outer) := ⟨rfl, rfl, rfl, by decide +kernel, rfl, by decide +kernel, by decide +kernel⟩
theorem ok_outer (B : PileF K CP) (g1 : M_Block_init P w K mg base CB) (F : FD K d_Pile_takes_outer f fd) : FnOk P w K mg base CX0 3 f fd ["self", "line", "said"] (SpG K (Pre_outer CP) (Post_outer CP CB)) := by
  refine fn_slots F sc_outer (fun ⟨_, _, _, _, _, _, _, _⟩ Γ h => by obtain ⟨_, _, rfl⟩ := h; rfl) fun cdv A outer s H E hr ⟨p, b, j, a, k, bs, ln, said⟩ Γ h => ?_
  obtain ⟨hz, hs, rfl⟩ := h
  have hu := hr.units
  have s0 : SeqAt.shaped (.list []) = true := by decide +kernel
  refine ds_skip (PW.pt (dw_or (dt_is (dt_neC 0 4 (ds := []) (re_fld 0 0 (re_var 0) B.blocks) (d_lst da_nil) hu rfl s0 s0) (by decide +kernel))
    (dw_or (PW.pt (dw_andF (dt_is (dt_neC 0 3 (ds := []) (re_fld 0 0 (re_var 0) B.asks) (d_lst da_nil) hu rfl s0 s0) (by decide +kernel))))
      (dw_or1 (PW.pt (dw_andF (dt_is (dt_neC 0 2 (ds := []) (re_fld 0 0 (re_var 0) B.jobs) (d_lst da_nil) hu rfl s0 s0) (by decide +kernel)))))))) ?_
  rcases hs with ⟨x, rfl⟩ | rfl
  · refine ds_ifT (dt_is (dt_cmp (d_ixT (d_var 2 rfl) d_int (d := .str "box") at0) d_str o_eqS)) ?_
    refine ds_capp 0 1 (xs := bs.map .dat) (re_fld 0 0 (re_var 0) B.boxes) (d_tup (da_cons (d_ixT (d_var 2 rfl) d_int (d := .str x.1) at1) (da_cons (d_ixT (d_var 2 rfl) d_int (d := .str x.2) at2) da_nil))) ?_ (by rw [List.length_map]; omega)
    refine ds_nil (ds_nil ⟨rfl, .inl ⟨x, rfl, ?_⟩⟩)
    unfold pst1 pileC
    rw [List.map_append]
    rfl
  · refine ds_ifF (dt_is (dt_cmp (d_ixT (d_var 2 rfl) d_int (d := .str "job") at0) d_str o_eqS)) ?_
    refine ds_ifT (dt_is (dt_cmp (d_ixT (d_var 2 rfl) d_int (d := .str "job") at0) d_str o_eqS)) ?_
    refine ds_cappMk 0 4 (fun q => (q, ln, jobS)) (xs := []) (re_fld 0 0 (re_var 0) B.blocks) (g_make g1 hr (da_cons (d_var 1 rfl) (da_cons (d_var 2 rfl) da_nil))) (fun q => rfl) (by decide) rfl rfl fun q Γ' c hp => ?_
    obtain ⟨rfl, l, hq⟩ := hp
    exact ⟨rfl, _, hq, ds_nil (ds_nil (ds_nil ⟨rfl, .inr ⟨rfl, q, l, rfl⟩⟩))⟩
abbrev M_outer (P : Program) (w : World) (K : PySem.W.Frag) (mg : Str → Option Value) (base : Heap) (CP CB : Addr) : Prop := MFn P w K mg base CP "takes_outer" 3 (SpG K (Pre_outer CP) (Post_outer CP CB))
structure IxClo where
  (p b j a k q l : Addr) (bs : List PyData) (ln : PyData) (ps : List PyData) (last : PyData)
def Pre_closes (CP CB : Addr) : IxClo → List SD → Prop := fun ⟨p, b, j, a, k, q, l, bs, ln, ps, last⟩ Γ => Γ = [.rg (.ref p) (pst2 CP CB p b j a k q l bs ln ps), .dat last]
def Post_closes (CP CB : Addr) : IxClo → List SD → SD → Prop := fun ⟨p, b, j, a, k, q, l, bs, ln, ps, last⟩ Γ' c => c = .dat .none ∧ Γ'[0]? = some (.rg (.ref p) (pst3 CP p b j a k bs (jobW ln last ps)))
theorem sc_closes : FnScope ["self", "line", "block"] ["self", "line"] (defScope m_Pile_closes) := ⟨rfl, rfl, rfl, by decide +kernel, rfl, by decide +kernel, by decide +kernel⟩
theorem ok_closes (B : PileF K CP) (g1 : M_Block_whole P w K mg base CB) (F : FD K d_Pile_closes f fd) : FnOk P w K mg base CX0 2 f fd ["self", "line"] (SpG K (Pre_closes CP CB) (Post_closes CP CB)) := by
  refine fn_slots F sc_closes (fun ⟨_, _, _, _, _, _, _, _, _, _, _⟩ Γ (h : Γ = _) => by cases h; rfl) fun cdv A outer s H E hr ⟨p, b, j, a, k, q, l, bs, ln, ps, last⟩ Γ (h : Γ = _) => ?_
  cases h
  have hu := hr.units
  have s0 : SeqAt.shaped (.list []) = true := by decide +kernel
  refine ds_popR 2 0 4 (re_fld 0 0 (re_var 0) B.blocks) ?_ sc_closes.nd rfl rfl
  -- the block stands still from now on
  refine ds_as (Γ' := [.rg (.ref p) (pileC CP p b j a k bs [] [] []), .dat last, .st (.ref q) (blkS CB q ln jobS ps)]) ?_ fun G0 H0 G H σ s => ?_
  · refine ds_ifT (dt_is (dt_eqC 0 4 (ds := []) (re_fld 0 0 (re_var 0) B.blocks) (d_lst da_nil) hu rfl s0 s0) (by decide +kernel)) ?_
    refine ds_capp 0 2 (xs := []) (d := jobW ln last ps) (re_fld 0 0 (re_var 0) B.jobs) (d_mcall (.st (.ref q) (blkS CB q ln jobS ps)) 2 0 (m_call g1 hr (re_var 2) (da_cons (d_var 1 rfl) da_nil)) (fun _ z => z) (fun G H σ env => ?_) (ix := (q, ln, ps, last)) rfl rfl rfl fun Γ' c hp => hp) ?_ (by decide)
    · obtain ⟨o, z1, z2, z3⟩ := env.at_ 2 _ rfl
      exact ⟨rfl, z3⟩
    · exact ds_nil (ds_nil ⟨rfl, rfl⟩)
  · obtain ⟨G1, t1, s1⟩ := s.frzL (j := 0) (n := 6) (m := 5) (l := l) (ds := ps) (p := q) (C := CB) (fs := blkF l ln jobS) (fs' := [("opened", .dat ln), ("said", .dat jobS), ("first", .dat (.list ps)), ("later", .dat .none)]) rfl rfl rfl (fun K G ws hd hw => by
      cases hw with
      | cons a1 hw => cases hw with
        | cons a2 hw => cases hw with
          | cons a3 hw =>
            refine .cons a1 (.cons a2 (.cons ⟨a3.1, ?_⟩ hw))
            have e : _ = V.ref l := a3.2
            show Dq K G _ _
            rw [e]
            exact hd)
    obtain ⟨u, h1, h2, t2, s2⟩ := s1.frz1 (j := 0) (n := 5) (a := q) (c := .ins CB [("opened", .dat ln), ("said", .dat jobS), ("first", .dat (.list ps)), ("later", .dat .none)]) rfl rfl
    refine ⟨_, t1.trans t2, s2.known (i := 2) (c := .raw (.ref q)) (c' := .st (.ref q) (blkS CB q ln jobS ps)) rfl (fun _ z => z) fun o _ z => ⟨z, fun p m => ?_⟩⟩
    obtain rfl := List.mem_singleton.mp m
    exact ⟨u, upd_same, h2.up t2⟩
abbrev M_closes (P : Program) (w : World) (K : PySem.W.Frag) (mg : Str → Option Value) (base : Heap) (CP CB : Addr) : Prop := MFn P w K mg base CP "closes" 2 (SpG K (Pre_closes CP CB) (Post_closes CP CB))
end
end SJ
set_option maxRecDepth 100000
set_option maxHeartbeats 4000000
/-! W7: lines taken, nested. -/
namespace SJ
open PySem PySem.Spec PyProof.Rows L2
section
variable {P : Program} {w : World} {K : PySem.W.Frag} {mg : Str → Option Value} {base : Heap} {f : Addr} {fd : FuncData} {CB CP : Addr}
inductive PlS where
  | s1 (bs : List PyData)
  | s2 (q l : Addr) (bs : List PyData) (ln : PyData) (ps : List PyData)
  | s3 (bs : List PyData) (job : PyData)
def plC (CP CB p b j a k : Addr) : PlS → List (Addr × Cell)
  | .s1 bs => pst1 CP p b j a k bs
  | .s2 q l bs ln ps => pst2 CP CB p b j a k q l bs ln ps
  | .s3 bs job => pst3 CP p b j a k bs job
def putS (nm : Str) (ns : PyData) : PyData := .tuple [.str "put", .str nm, ns]
def putE (ln : PyData) (nm : Str) (ns : PyData) : PyData := .tuple [.str "put", ln, .str nm, ns]
def endS : PyData := .tuple [.str "end"]
inductive PlStep (ln : PyData) : PyData → PlS → PlS → Prop
  | box {bs : List PyData} (x : Str × Str) : bs.length ≤ 50 → PlStep ln (boxS x) (.s1 bs) (.s1 (bs ++ [boxD x]))
  | job {bs : List PyData} (q l : Addr) : bs.length ≤ 50 → PlStep ln jobS (.s1 bs) (.s2 q l bs ln [])
  | put {q l : Addr} {bs : List PyData} {l0 : PyData} {ps : List PyData} (nm : Str) (ns : PyData) : ps.length ≤ 5000 → PlStep ln (putS nm ns) (.s2 q l bs l0 ps) (.s2 q l bs l0 (ps ++ [putE ln nm ns]))
  | fin {q l : Addr} {bs : List PyData} {l0 : PyData} {ps : List PyData} : PlStep ln endS (.s2 q l bs l0 ps) (.s3 bs (jobW l0 ln ps))
structure IxTk where
  (p b j a k : Addr) (st : PlS) (ln said : PyData)
def Pre_takes (CP CB : Addr) : IxTk → List SD → Prop := fun ⟨p, b, j, a, k, st, ln, said⟩ Γ => (∃ st', PlStep ln said st st') ∧ Γ = [.rg (.ref p) (plC CP CB p b j a k st), .dat ln, .dat said]
def Post_takes (CP CB : Addr) : IxTk → List SD → SD → Prop := fun ⟨p, b, j, a, k, st, ln, said⟩ Γ' c => c = .dat .none ∧ ∃ st', PlStep ln said st st' ∧ Γ'[0]? = some (.rg (.ref p) (plC CP CB p b j a k st'))
theorem sc_takes : FnScope ["self", "line", "said"] ["self", "line", "said"] (defScope m_Pile_takes) := ⟨rfl, rfl, rfl, by decide +kernel, rfl, by decide +kernel, by decide +kernel⟩
theorem ok_takes (B : PileF K CP) (g1 : M_outer P w K mg base CP CB) (g2 : M_closes P w K mg base CP CB) (g3 : M_Block_add P w K mg base CB) (F : FD K d_Pile_takes f fd) : FnOk P w K mg base CX0 4 f fd ["self", "line", "said"] (SpG K (Pre_takes CP CB) (Post_takes CP CB)) := by
  refine fn_slots F sc_takes (fun ⟨_, _, _, _, _, _, _, _⟩ Γ h => by obtain ⟨_, rfl⟩ := h; rfl) fun cdv A outer s H E hr ⟨p, b, j, a, k, st, ln, said⟩ Γ h => ?_
  obtain ⟨⟨st', hs⟩, rfl⟩ := h
  have hu := hr.units
  cases hs with
  | box x hz =>
    rename_i bs
    refine ds_ifT (dt_is (dt_cmp (d_ixT (d_var 2 rfl) d_int (d := .str "box") at0) (d_tup (da_cons d_str (da_cons d_str (da_cons d_str da_nil)))) (o_inST (ss := ["box", "job", "ask"])))) ?_
    refine ds_mexpr (ix := ⟨p, b, j, a, k, bs, ln, boxS x⟩) [] (pst1 CP p b j a k bs) 0 0 (m_call g1 hr (re_var 0) (da_cons (d_var 1 rfl) (da_cons (d_var 2 rfl) da_nil))) ⟨hz, .inl ⟨x, rfl⟩, rfl⟩ rfl rfl rfl fun Γ' c hp => ?_
    obtain ⟨rfl, ⟨x', e, h⟩ | ⟨e, _⟩⟩ := hp
    · obtain ⟨x1, x2⟩ := x
      obtain ⟨y1, y2⟩ := x'
      cases e
      exact ⟨_, h, ds_nil (ds_nil ⟨rfl, _, .box (x1, x2) hz, rfl⟩)⟩
    · cases e
  | job q l hz =>
    rename_i bs
    refine ds_ifT (dt_is (dt_cmp (d_ixT (d_var 2 rfl) d_int (d := .str "job") at0) (d_tup (da_cons d_str (da_cons d_str (da_cons d_str da_nil)))) (o_inST (ss := ["box", "job", "ask"])))) ?_
    refine ds_mexpr (ix := ⟨p, b, j, a, k, bs, ln, jobS⟩) [] (pst1 CP p b j a k bs) 0 0 (m_call g1 hr (re_var 0) (da_cons (d_var 1 rfl) (da_cons (d_var 2 rfl) da_nil))) ⟨hz, .inr rfl, rfl⟩ rfl rfl rfl fun Γ' c hp => ?_
    obtain ⟨rfl, ⟨x', e, h⟩ | ⟨_, q2, l2, h⟩⟩ := hp
    · cases e
    · exact ⟨_, h, ds_nil (ds_nil ⟨rfl, _, .job q2 l2 hz, rfl⟩)⟩
  | put nm ns hz =>
    rename_i q l bs l0 ps
    refine ds_ifF (dt_is (dt_cmp (d_ixT (d_var 2 rfl) d_int (d := .str "put") at0) (d_tup (da_cons d_str (da_cons d_str (da_cons d_str da_nil)))) (o_inST (ss := ["box", "job", "ask"])))) ?_
    refine ds_ifF (dt_eqNil 0 4 (re_fld 0 0 (re_var 0) B.blocks) (d_lst da_nil) hu) ?_
    refine ds_ifF (dt_is (dt_cmp (d_ixT (d_var 2 rfl) d_int (d := .str "put") at0) d_str o_eqS)) ?_
    refine ds_ifF (dt_is (dt_cmp (d_ixT (d_var 2 rfl) d_int (d := .str "put") at0) d_str o_eqS)) ?_
    refine ds_ifF (dt_is (dt_cmp (d_ixT (d_var 2 rfl) d_int (d := .str "put") at0) (d_tup (da_cons d_str (da_cons d_str da_nil))) (o_inST (ss := ["if", "while"])))) ?_
    refine ds_mexpr (ix := ⟨q, l, l0, jobS, ps, putE ln nm ns⟩) (pileC CP p b j a k bs [] [.raw (.ref q)] []) (blkC CB q l l0 jobS ps) 0 5 (ds := [putE ln nm ns]) (m_call g3 (hr.mono (by decide)) (re_ixC (i := -1) 0 4 (re_fld 0 0 (re_var 0) B.blocks) (d_neg d_int) rfl rfl)
      (da_cons (d_is (d_bin (d_tup (da_cons (d_ixT (d_var 2 rfl) d_int (d := .str "put") at0) (da_cons (d_var 1 rfl) da_nil))) (d_slT (d_var 2 rfl) (do_some d_int) do_none ?_) (o_catT (fun z => nomatch z) (fun z => nomatch z) (by show 4 ≤ 100000; decide))) rfl) da_nil)) ⟨hz, rfl⟩ rfl rfl rfl fun Γ' c hp => ?_
    · show ¬ ((1 : Nat) = 0 ∧ (3 : Nat) = 3)
      decide
    · obtain ⟨rfl, h⟩ := hp
      exact ⟨_, h, ds_nil (ds_nil (ds_nil (ds_nil (ds_nil (ds_nil ⟨rfl, _, .put nm ns hz, rfl⟩)))))⟩
  | fin =>
    rename_i q l bs l0 ps
    refine ds_ifF (dt_is (dt_cmp (d_ixT (d_var 2 rfl) d_int (d := .str "end") at0) (d_tup (da_cons d_str (da_cons d_str (da_cons d_str da_nil)))) (o_inST (ss := ["box", "job", "ask"])))) ?_
    refine ds_ifF (dt_eqNil 0 4 (re_fld 0 0 (re_var 0) B.blocks) (d_lst da_nil) hu) ?_
    refine ds_ifF (dt_is (dt_cmp (d_ixT (d_var 2 rfl) d_int (d := .str "end") at0) d_str o_eqS)) ?_
    refine ds_ifT (dt_is (dt_cmp (d_ixT (d_var 2 rfl) d_int (d := .str "end") at0) d_str o_eqS)) ?_
    refine ds_mexpr (ix := ⟨p, b, j, a, k, q, l, bs, l0, ps, ln⟩) [] (pst2 CP CB p b j a k q l bs l0 ps) 0 0 (m_call g2 (hr.mono (by decide)) (re_var 0) (da_cons (d_var 1 rfl) da_nil)) (by exact rfl) rfl rfl rfl fun Γ' c hp => ?_
    obtain ⟨rfl, h⟩ := hp
    exact ⟨_, h, ds_nil (ds_nil (ds_nil (ds_nil (ds_nil ⟨rfl, _, .fin, rfl⟩))))⟩
abbrev M_takes (P : Program) (w : World) (K : PySem.W.Frag) (mg : Str → Option Value) (base : Heap) (CP CB : Addr) : Prop := MFn P w K mg base CP "takes" 4 (SpG K (Pre_takes CP CB) (Post_takes CP CB))
end
end SJ
set_option maxRecDepth 100000
set_option maxHeartbeats 4000000
/-! W8: nested. -/
namespace SJ
open PySem PySem.Spec PyProof.Rows L2
def enumD : Int → List PyData → List PyData
  | _, [] => []
  | k, d :: ds => .tuple [.int k, d] :: enumD (k + 1) ds
theorem enumD_get : ∀ {ds : List PyData} {k : Int} {i : Nat} {e : PyData}, (enumD k ds)[i]? = some e → ∃ d, ds[i]? = some d ∧ e = .tuple [.int (k + (i : Nat)), d]
  | [], _, _, _, h => by simp [enumD] at h
  | d :: ds, k, 0, e, h => by
    simp [enumD] at h
    exact ⟨d, rfl, by rw [← h]; simp⟩
  | d :: ds, k, i + 1, e, h => by
    obtain ⟨d2, h1, h2⟩ := enumD_get (ds := ds) (k := k + 1) (i := i) (e := e) (by simpa [enumD] using h)
    refine ⟨d2, by simpa using h1, ?_⟩
    rw [h2]
    have : k + 1 + (i : Int) = k + ((i + 1 : Nat) : Int) := by omega
    rw [this]
theorem enumD_len : ∀ {ds : List PyData} {k : Int}, (enumD k ds).length = ds.length
  | [], _ => rfl
  | d :: ds, k => by show (enumD (k + 1) ds).length + 1 = _; rw [enumD_len]; rfl
theorem di_enum1 {X : Cx} {Γ : List SD} {e : Expr} {ds : List PyData} {p pos tpos kp cp : Pos} {j : Nat} {elts : List Expr} {kk : Nat} (hm : X.mg "enumerate" = none) (he : DE X Γ e (.list ds)) (hg : Gl X "enumerate" := by rfl) (hs : starEach [e] X.env = [(false, eval e X.env)] := by rfl)
    (hc : eval (.Call (.Name "enumerate" p) [e] [⟨some "start", .Constant (.int 1) j cp, kp⟩] pos) X.env = (do callWith pos (← eval (.Name "enumerate" p) X.env) [] (backTo pos (starEach [e] X.env)) (backToKw pos (keywordEach [⟨some "start", .Constant (.int 1) j cp, kp⟩] X.env))) := by rfl) :
    PID X (.Tuple elts kk tpos) Γ (.Call (.Name "enumerate" p) [e] [⟨some "start", .Constant (.int 1) j cp, kp⟩] pos) (enumD 1 ds) :=
  PI_imp (pi_enum1 hg hm (da_cons he da_nil hs) hs hc) fun σ H R ⟨G, env, k⟩ => ⟨G, env, fun G1 H1 vs g q => by
    obtain ⟨v, rfl, q9⟩ := one q
    obtain ⟨a, xs, rfl, h1, hx⟩ := q9.listE
    refine ⟨a, xs, rfl, g.s.seq h1, k G1 H1 _ g fun G2 H2 s1 s2 => ?_⟩
    have z1 := (s1.trans s2).seq h1
    refine ⟨fun i d hd => ?_, xs, z1, by rw [hx.len, enumD_len]; exact Nat.le_refl _⟩
    obtain ⟨d2, e1, rfl⟩ := enumD_get hd
    obtain ⟨x, e3, e4⟩ := hx.get e1
    refine ⟨⟨xs, x, z1, e3⟩, fun w H3 q => ?_⟩
    obtain ⟨T, x', rfl, hT, rfl, w1⟩ := q
    have w1 := w1 xs z1
    rw [e3] at w1
    cases w1
    have gn := Gr.new (o := .tup [.int (1 + (i : Nat)), x]) s2 hT
    exact ⟨_, gn, .tup (.inl (.inl upd_same)) (.cons (.int _) (.cons (e4.up (s1.trans gn.g)) .nil))⟩⟩
/-- what is read of a program's lines -/
def linesD (g : Pg) : List PyData := g.boxes.map boxS ++ (jobS :: (g.puts.map (fun p => putS p.nm (.list (p.ns.map numE))) ++ [endS]))
structure Pg.lined (g : Pg) : Prop where
  line : g.line = g.boxes.length + 1
  last : g.last = g.boxes.length + g.puts.length + 2
  at_ : ∀ (i : Nat) p, g.puts[i]? = some p → p.line = g.boxes.length + 2 + i
def StAt (g : Pg) (i : Nat) : PlS → Prop
  | .s1 bs => i ≤ g.boxes.length ∧ bs = (g.boxes.take i).map boxD
  | .s2 _ _ bs ln ps => g.boxes.length < i ∧ i ≤ g.boxes.length + 1 + g.puts.length ∧ bs = g.boxes.map boxD ∧ ln = .int (g.line : Nat) ∧ ps = (g.puts.take (i - g.boxes.length - 1)).map Put.d
  | .s3 bs job => i = g.boxes.length + g.puts.length + 2 ∧ bs = g.boxes.map boxD ∧ job = g.job
theorem linesD_at (g : Pg) {i : Nat} {d : PyData} (h : (linesD g)[i]? = some d) : (∃ b, g.boxes[i]? = some b ∧ d = boxS b) ∨ (i = g.boxes.length ∧ d = jobS) ∨ (∃ m p, i = g.boxes.length + 1 + m ∧ g.puts[m]? = some p ∧ d = putS p.nm (.list (p.ns.map numE))) ∨ (i = g.boxes.length + g.puts.length + 1 ∧ d = endS) := by
  unfold linesD at h
  by_cases h1 : i < g.boxes.length
  · rw [List.getElem?_append_left (by simpa using h1), List.getElem?_map, List.getElem?_eq_getElem h1] at h
    exact .inl ⟨_, List.getElem?_eq_getElem h1, (Option.some.inj h).symm⟩
  · rw [List.getElem?_append_right (by simpa using h1), List.length_map] at h
    cases h2 : i - g.boxes.length with
    | zero =>
      rw [h2] at h
      exact .inr (.inl ⟨by omega, (Option.some.inj h).symm⟩)
    | succ m =>
      rw [h2, List.getElem?_cons_succ] at h
      by_cases h3 : m < g.puts.length
      · rw [List.getElem?_append_left (by simpa using h3), List.getElem?_map, List.getElem?_eq_getElem h3] at h
        exact .inr (.inr (.inl ⟨m, _, by omega, List.getElem?_eq_getElem h3, (Option.some.inj h).symm⟩))
      · rw [List.getElem?_append_right (by simpa using h3), List.length_map] at h
        cases h4 : m - g.puts.length with
        | zero =>
          rw [h4] at h
          exact .inr (.inr (.inr ⟨by omega, (Option.some.inj h).symm⟩))
        | succ n =>
          rw [h4] at h
          cases h
theorem step_at (g : Pg) (hs : g.small) (hl : g.lined) {i : Nat} {said : PyData} {st : PlS} (h : StAt g i st) (hd : (linesD g)[i]? = some said) : (∃ st', PlStep (.int (1 + (i : Nat))) said st st') ∧ ∀ st', PlStep (.int (1 + (i : Nat))) said st st' → StAt g (i + 1) st' := by
  have hb := hs.1
  have hp := hs.2.1
  cases st with
  | s1 bs =>
    obtain ⟨hi, rfl⟩ := h
    rcases linesD_at g hd with ⟨b, e, rfl⟩ | ⟨e, rfl⟩ | ⟨m, p, e, _, rfl⟩ | ⟨e, rfl⟩
    · obtain ⟨b1, b2⟩ := b
      refine ⟨⟨_, .box (b1, b2) (by rw [List.length_map, List.length_take]; omega)⟩, fun st' z => ?_⟩
      have hlt := (List.getElem?_eq_some_iff.mp e).1
      cases z with
      | box x hz =>
        obtain ⟨x1, x2⟩ := x
        refine ⟨by omega, ?_⟩
        rw [List.take_succ, e, List.map_append]
        rfl
    · refine ⟨⟨_, .job 0 0 (by rw [List.length_map, List.length_take]; omega)⟩, fun st' z => ?_⟩
      cases z with
      | job q l hz =>
        refine ⟨by omega, by omega, ?_, ?_, ?_⟩
        · rw [e, List.take_length]
        · rw [hl.line, e]
          congr 1
          omega
        · rw [show i + 1 - g.boxes.length - 1 = 0 by omega]
          rfl
    · omega
    · omega
  | s2 q l bs ln ps =>
    obtain ⟨h1, h2, rfl, rfl, rfl⟩ := h
    rcases linesD_at g hd with ⟨b, e, rfl⟩ | ⟨e, rfl⟩ | ⟨m, p, e, ep, rfl⟩ | ⟨e, rfl⟩
    · have hlt := (List.getElem?_eq_some_iff.mp e).1
      omega
    · omega
    · have hm := (List.getElem?_eq_some_iff.mp ep).1
      refine ⟨⟨_, .put p.nm (.list (p.ns.map numE)) (by rw [List.length_map, List.length_take]; omega)⟩, fun st' z => ?_⟩
      have e2 : i - g.boxes.length - 1 = m := by omega
      cases z with
      | put nm ns hz =>
        refine ⟨by omega, by omega, rfl, rfl, ?_⟩
        rw [show i + 1 - g.boxes.length - 1 = m + 1 by omega, e2, List.take_succ, ep, List.map_append]
        have e3 : (1 + (i : Int)) = (p.line : Nat) := by rw [hl.at_ m p ep]; omega
        rw [e3]
        rfl
    · refine ⟨⟨_, .fin⟩, fun st' z => ?_⟩
      cases z with
      | fin =>
        refine ⟨by omega, rfl, ?_⟩
        rw [show i - g.boxes.length - 1 = g.puts.length by omega, List.take_length]
        have e3 : (1 + (i : Int)) = (g.last : Nat) := by rw [hl.last]; omega
        rw [e3]
        rfl
  | s3 bs job =>
    obtain ⟨h1, _⟩ := h
    rcases linesD_at g hd with ⟨b, e, rfl⟩ | ⟨e, rfl⟩ | ⟨m, p, e, ep, rfl⟩ | ⟨e, rfl⟩
    · have hlt := (List.getElem?_eq_some_iff.mp e).1
      omega
    · omega
    · have hm := (List.getElem?_eq_some_iff.mp ep).1
      omega
    · omega
section
variable {P : Program} {w : World} {K : PySem.W.Frag} {mg : Str → Option Value} {base : Heap} {f : Addr} {fd : FuncData} {CB CP : Addr}
def R_nested : List PyData → PyData → Prop := fun ds d => ∃ g : Pg, g.small ∧ g.lined ∧ ds = [.list (linesD g)] ∧ d = g.d
theorem sc_nested : FnScope ["lines", "pile", "line", "said"] ["lines"] (defScope s_nested) := ⟨rfl, rfl, rfl, by decide +kernel, rfl, by decide +kernel, by decide +kernel⟩
theorem ok_nested (he : mg "enumerate" = none) (B : PileF K CP) (g1 : M_Pile_init P w K mg base CP) (g2 : M_takes P w K mg base CP CB) (F : FD K d_nested f fd) : FnOk P w K mg base CX0 5 f fd ["lines"] (SpD K R_nested) := by
  refine fn_data F sc_nested (fun ds d h => by obtain ⟨_, _, _, rfl, _⟩ := h; rfl) fun cdv A outer s H E hr ds d h => ?_
  obtain ⟨g, hs, hl, rfl, rfl⟩ := h
  have hu := hr.units
  have s0 : SeqAt.shaped (.list []) = true := by decide +kernel
  refine ds_mkset 1 (fun a => a) (mk0 (g_make0 g1 (hr.mono (by decide)))) (fun a => rfl) (fun p0 Γ' c hp => ?_) sc_nested.nd
  obtain ⟨rfl, b0, j0, a0, k0, hq⟩ := hp
  refine ⟨rfl, _, hq, ?_⟩
  refine ds_forP 2 3 (fun i Γ => ∃ x y st, StAt g i st ∧ Γ = [.dat (.list (linesD g)), .rg (.ref p0) (plC CP CB p0 b0 j0 a0 k0 st), x, y]) (di_enum1 he (d_var 0 rfl)) ⟨.un, .un, .s1 [], ⟨Nat.zero_le _, rfl⟩, rfl⟩ (fun i d Γ1 hd hi => ?_) (fun Γ1 hi => ?_) sc_nested.nd
  · obtain ⟨x, y, st, hst, rfl⟩ := hi
    obtain ⟨said, hsd, rfl⟩ := enumD_get hd
    obtain ⟨hex, hall⟩ := step_at g hs hl hst hsd
    refine ⟨_, _, rfl, ?_⟩
    refine ds_mexpr (ix := ⟨p0, b0, j0, a0, k0, st, .int (1 + (i : Nat)), said⟩) (C := CP) (fs := [("boxes", .raw (.ref b0)), ("jobs", .raw (.ref j0)), ("asks", .raw (.ref a0)), ("blocks", .raw (.ref k0))]) [] (plC CP CB p0 b0 j0 a0 k0 st) 1 0 (m_call g2 hr (re_var 1) (da_cons (d_var 2 rfl) (da_cons (d_var 3 rfl) da_nil))) ⟨hex, rfl⟩ rfl (by cases st <;> rfl) rfl fun Γ' c hp => ?_
    obtain ⟨rfl, st', hstep, hq⟩ := hp
    exact ⟨_, hq, ds_nil ⟨_, _, st', hall st' hstep, rfl⟩⟩
  · obtain ⟨x, y, st, hst, rfl⟩ := hi
    rw [enumD_len, show (linesD g).length = g.boxes.length + g.puts.length + 2 by unfold linesD; simp; omega] at hst
    cases st with
    | s1 bs => obtain ⟨h1, _⟩ := hst; omega
    | s2 q l bs ln ps => obtain ⟨_, h1, _⟩ := hst; omega
    | s3 bs job =>
      obtain ⟨_, rfl, rfl⟩ := hst
      refine ds_skip (dt_is (dt_neC 1 4 (ds := []) (re_fld 1 0 (re_var 1) B.blocks) (d_lst da_nil) hu rfl s0 s0) (by decide +kernel)) ?_
      refine ds_as (Γ' := [.dat (.list (linesD g)), .rg (.ref p0) [(p0, .ins CP [("boxes", .dat (.list (g.boxes.map boxD))), ("jobs", .dat (.list [g.job])), ("asks", .dat (.list [])), ("blocks", .raw (.ref k0))]), (k0, .lst [])], x, y]) ?_ fun G0 H0 G H σ s => ?_
      · exact ds_ret (d_tup (da_cons (d_fld 1 0 (re_var 1) B.boxes) (da_cons (d_fld 1 0 (re_var 1) B.jobs) (da_cons (d_fld 1 0 (re_var 1) B.asks) da_nil)))) rfl
      · obtain ⟨G1, t1, s1⟩ := s.frzL (j := 1) (n := 1) (m := 0) (l := b0) (ds := g.boxes.map boxD) (p := p0) (C := CP) (fs := [("boxes", .raw (.ref b0)), ("jobs", .raw (.ref j0)), ("asks", .raw (.ref a0)), ("blocks", .raw (.ref k0))]) (fs' := [("boxes", .dat (.list (g.boxes.map boxD))), ("jobs", .raw (.ref j0)), ("asks", .raw (.ref a0)), ("blocks", .raw (.ref k0))]) rfl rfl rfl (fun K G ws hd hw => by
          cases hw with
          | cons a1 hw =>
            refine .cons ⟨a1.1, ?_⟩ hw
            have e : _ = V.ref b0 := a1.2
            show Dq K G _ _
            rw [e]
            exact hd)
        obtain ⟨G2, t2, s2⟩ := s1.frzL (j := 1) (n := 1) (m := 0) (l := j0) (ds := [g.job]) (p := p0) (C := CP) (fs := [("boxes", .dat (.list (g.boxes.map boxD))), ("jobs", .raw (.ref j0)), ("asks", .raw (.ref a0)), ("blocks", .raw (.ref k0))]) (fs' := [("boxes", .dat (.list (g.boxes.map boxD))), ("jobs", .dat (.list [g.job])), ("asks", .raw (.ref a0)), ("blocks", .raw (.ref k0))]) rfl rfl rfl (fun K G ws hd hw => by
          cases hw with
          | cons a1 hw => cases hw with
            | cons a2 hw =>
              refine .cons a1 (.cons ⟨a2.1, ?_⟩ hw)
              have e : _ = V.ref j0 := a2.2
              show Dq K G _ _
              rw [e]
              exact hd)
        obtain ⟨G3, t3, s3⟩ := s2.frzL (j := 1) (n := 1) (m := 0) (l := a0) (ds := []) (p := p0) (C := CP) (fs := [("boxes", .dat (.list (g.boxes.map boxD))), ("jobs", .dat (.list [g.job])), ("asks", .raw (.ref a0)), ("blocks", .raw (.ref k0))]) (fs' := [("boxes", .dat (.list (g.boxes.map boxD))), ("jobs", .dat (.list [g.job])), ("asks", .dat (.list [])), ("blocks", .raw (.ref k0))]) rfl rfl rfl (fun K G ws hd hw => by
          cases hw with
          | cons a1 hw => cases hw with
            | cons a2 hw => cases hw with
              | cons a3 hw =>
                refine .cons a1 (.cons a2 (.cons ⟨a3.1, ?_⟩ hw))
                have e : _ = V.ref a0 := a3.2
                show Dq K G _ _
                rw [e]
                exact hd)
        exact ⟨G3, (t1.trans t2).trans t3, s3⟩
abbrev G_nested (P : Program) (w : World) (K : PySem.W.Frag) (mg : Str → Option Value) (base : Heap) : Prop := GFn P w K mg base "nested" 5 (SpD K R_nested)
end
end SJ
set_option maxRecDepth 100000
set_option maxHeartbeats 4000000
/-! W9: whether kinds go together; read. -/
namespace SJ
open PySem PySem.Spec PyProof.Rows L2
def datK (kvs : List (Key × PyData)) : List (Key × Fv) := kvs.map fun q => (q.1, .dat q.2)
theorem getFv_datK : ∀ {kvs : List (Key × PyData)} {k : Key} {d : PyData}, getD kvs k = some d → getFv (datK kvs) k = some (.dat d)
  | [], _, _, h => by cases h
  | q :: kvs, k, d, h => by
    by_cases e : q.1 = k
    · unfold getD at h
      rw [List.find?_cons, decide_eq_true e] at h
      cases h
      unfold getFv datK
      rw [List.map_cons, List.find?_cons, decide_eq_true e]
      rfl
    · have h2 : getD kvs k = some d := by
        unfold getD at h ⊢
        rw [List.find?_cons, decide_eq_false e] at h
        exact h
      have ih := getFv_datK h2
      unfold getFv datK at ih ⊢
      rw [List.map_cons, List.find?_cons, decide_eq_false e]
      exact ih
theorem nv_datK {K : PySem.W.Frag} {G : Hp} : ∀ {ws : List (Key × V)} {kvs : List (Key × PyData)}, KvD K G ws kvs → NvOk K G ws (datK kvs)
  | _, _, .nil => .nil
  | _, _, .cons r t => .cons r (nv_datK t)
section
variable {P : Program} {w : World} {K : PySem.W.Frag} {mg : Str → Option Value} {base : Heap} {f : Addr} {fd : FuncData} {CB CP : Addr}
structure IxFit where
  (g : Pg) (p : Put) (l : Addr)
def Pre_fits : IxFit → List SD → Prop := fun ⟨g, p, l⟩ Γ => g.good ∧ p ∈ g.puts ∧ Γ = [.dat p.d, .st (.ref l) [(l, .dk (datK (kvB g.boxes)))]]
def Post_fits : IxFit → List SD → SD → Prop := fun _ _ c => c = .dat (.bool true)
theorem sc_fits : FnScope ["statement", "kinds", "many", "kind"] ["statement", "kinds"] (defScope s_fits) := ⟨rfl, rfl, rfl, by decide +kernel, rfl, by decide +kernel, by decide +kernel⟩
theorem ok_fits (T : Tx K mg) (F : FD K d_fits f fd) : FnOk P w K mg base CX0 1 f fd ["statement", "kinds"] (SpG K Pre_fits Post_fits) := by
  refine fn_slots F sc_fits (fun ⟨_, _, _⟩ Γ h => by obtain ⟨_, _, rfl⟩ := h; rfl) fun cdv A outer s H E hr ⟨g, p, l⟩ Γ h => ?_
  obtain ⟨hg, hp, rfl⟩ := h
  have hu := hu_of hr
  obtain ⟨b, hb, hn, hk⟩ := hg.named p hp
  obtain ⟨i, hi⟩ := List.mem_iff_getElem?.mp hb
  refine ds_ifT (dt_is (dt_cmp (d_ixT (d_var 0 rfl) d_int (d := .str "put") at0) d_str o_eqS)) ?_
  refine ds_set 2 (d_lenL T.f_len (d_ixT (d_var 0 rfl) d_int (d := .list (p.ns.map numE)) at3)) ?_ sc_fits.nd
  refine ds_set 3 (d_dk (k := .inr p.nm) (d := .str b.1) 1 0 (re_var 1) (d_ixT (d_var 0 rfl) d_int (d := .str p.nm) at2) (by rw [← hn]; exact getFv_datK (getD_kvB hg.nd hi)) hu) ?_ sc_fits.nd
  refine ds_ret (d_is (d_or' (d_cmp (d_var 3 rfl) d_str o_eqS) fun _ => d_or' (d_and' (d_cmp (d_var 2 rfl) d_int o_eqI) fun _ => d_one (d_cmp (d_var 3 rfl) d_str o_neS)) fun _ => d_one (d_and' (d_cmp (d_var 2 rfl) d_int o_eqI) fun _ => d_one (d_cmp (d_var 3 rfl) d_str o_eqS))) (d' := .bool true) (congrArg PyData.bool ?_)) rfl
  rw [List.length_map]
  rcases hk with e | ⟨e1, e2⟩ | ⟨e1, e2⟩
  · rw [e]
    rfl
  · rw [e1, beq_eq_false_iff_ne.mpr e2]
    simp
  · rw [e1, e2]
    rfl
abbrev G_fits (P : Program) (w : World) (K : PySem.W.Frag) (mg : Str → Option Value) (base : Heap) : Prop := GFn P w K mg base "fits" 1 (SpG K Pre_fits Post_fits)
theorem sc_check_kinds : FnScope ["program", "kinds", "kind", "name", "job", "statement", "word"] ["program"] (defScope s_check_kinds) := ⟨rfl, rfl, rfl, by decide +kernel, rfl, by decide +kernel, by decide +kernel⟩
theorem ok_check_kinds (g1 : G_fits P w K mg base) (g2 : G_all_looks P w K mg base) (g3 : G_all_of P w K mg base) (F : FD K d_check_kinds f fd) : FnOk P w K mg base CX0 4 f fd ["program"] (SpD K R_check) := by
  refine fn_data F sc_check_kinds (fun ds d h => by obtain ⟨_, _, rfl, _⟩ := h; rfl) fun cdv A outer s H E hr ds d h => ?_
  obtain ⟨g, hg, rfl, rfl⟩ := h
  have hu := hu_of hr
  refine ds_newD 1 (fun l1 => ?_) sc_check_kinds.nd
  refine ds_forP 2 3 (fun i Γ => ∃ a b, Γ = [.dat g.d, .md l1 (kvB (g.boxes.take i)), a, b, .un, .un, .un]) (di_list (d_ixT (d_var 0 rfl) d_int (d := .list (g.boxes.map boxD)) at0)) ⟨.un, .un, rfl⟩ (fun i d Γ1 hd hi => ?_) (fun Γ' hi => ?_) sc_check_kinds.nd
  · obtain ⟨a, b, rfl⟩ := hi
    rw [List.getElem?_map] at hd
    cases hb : g.boxes[i]? with
    | none => rw [hb] at hd; cases hd
    | some bx =>
      rw [hb] at hd
      cases hd
      refine ⟨.str bx.1, .str bx.2, rfl, ?_⟩
      refine ds_dput 1 (k := .inr bx.2) (kvs := kvB (g.boxes.take i)) (d_var 3 rfl) (d_var 2 rfl) (getD_kvB_none (notin_take hg.nd hb)) (ds_nil ⟨.dat (.str bx.1), .dat (.str bx.2), ?_⟩) ?_ hu
      · show [SD.dat g.d, SD.md l1 (kvB (g.boxes.take i) ++ [(Sum.inr bx.2, PyData.str bx.1)]), _, _, _, _, _] = _
        rw [kvB_take hb]
      · unfold kvB
        rw [List.length_map, List.length_take]
        have := hg.small.1
        omega
  · obtain ⟨a, b, rfl⟩ := hi
    rw [show g.boxes.take (g.boxes.map boxD).length = g.boxes by rw [List.length_map, List.take_length]]
    refine ds_freezeD 1 ?_
    refine ds_forN 4 (fun i Γ => ∃ x y, Γ = [.dat g.d, .dg l1 (kvB g.boxes), a, b, x, y, .un]) (di_list (d_ixT (d_var 0 rfl) d_int (d := .list [g.job]) at1)) ⟨.un, .un, rfl⟩ (fun i d Γ1 hd hi => ?_) (fun Γ' hi => ?_) sc_check_kinds.nd
    · obtain ⟨x, y, rfl⟩ := hi
      have e : d = g.job := by
        cases i with
        | zero => cases hd; rfl
        | succ i => cases i <;> cases hd
      subst e
      refine ds_forN 5 (fun j Γ => ∃ y, Γ = [.dat g.d, .dg l1 (kvB g.boxes), a, b, .dat g.job, y, .un]) (di_list (d_call g3 (hr.mono (by decide)) (da_cons (d_ixT (d_var 4 rfl) d_int (d := .list (g.puts.map Put.d)) at2) da_nil) ⟨g.puts, hg.small.2.1, rfl, rfl⟩)) ⟨y, rfl⟩ (fun j d Γ2 hd2 hj => ?_) (fun Γ2 hj => ?_) sc_check_kinds.nd
      · obtain ⟨y, rfl⟩ := hj
        rw [List.getElem?_map] at hd2
        cases hp : g.puts[j]? with
        | none => rw [hp] at hd2; cases hd2
        | some p =>
          rw [hp] at hd2
          cases hd2
          refine ds_skip (dt_not (dt_val (d_call2S (ix := ⟨g, p, l1⟩) (.st (.ref l1) [(l1, .dk (datK (kvB g.boxes)))]) g1 (hr.mono (by decide)) (d_var 5 rfl) (re_var 1) (fun _ z => z) (fun G H σ env => ?_) ⟨hg, List.mem_of_getElem? hp, rfl⟩ fun _ _ z => z))) (ds_nil ⟨.dat p.d, rfl⟩)
          obtain ⟨o, _, _, ws, z1, z2⟩ := env.at_ 1 _ rfl
          refine ⟨rfl, fun q m => ?_⟩
          obtain rfl := List.mem_singleton.mp m
          exact ⟨_, z1, ws, rfl, nv_datK z2⟩
      · obtain ⟨y, rfl⟩ := hj
        exact ds_nil ⟨_, _, rfl⟩
    · obtain ⟨x, y, rfl⟩ := hi
      refine ds_forP 6 3 (fun i Γ => i = 0 ∧ Γ = [.dat g.d, .dg l1 (kvB g.boxes), a, b, x, y, .un]) (di_list (d_call g2 hr (da_cons (d_var 0 rfl) da_nil) ⟨g, hg.small, rfl, rfl⟩)) ⟨rfl, rfl⟩ (fun i d Γ1 hd hi => by simp at hd) (fun Γ' hi => ?_) sc_check_kinds.nd
      obtain ⟨_, rfl⟩ := hi
      exact ds_nil rfl
abbrev G_check_kinds (P : Program) (w : World) (K : PySem.W.Frag) (mg : Str → Option Value) (base : Heap) : Prop := GFn P w K mg base "check_kinds" 4 (SpD K R_check)
def R_read : List PyData → PyData → Prop := fun ds d => ∃ (g : Pg) (t : Str) (ts : List Str), g.good ∧ g.lined ∧ t.length ≤ 100000 ∧ Txt.split t "\n" = ts ∧ ts.length = (linesD g).length ∧ ts.length ≤ 150 ∧ (∀ (i : Nat) x d, ts[i]? = some x → (linesD g)[i]? = some d → R_read_line [.str x] d) ∧ ds = [.str t] ∧ d = g.d
theorem sc_read : FnScope ["text", "lines", "program", "line"] ["text"] (defScope s_read) := ⟨rfl, rfl, rfl, by decide +kernel, rfl, by decide +kernel, by decide +kernel⟩
theorem ok_read (T : Tx K mg) (g1 : G_read_line P w K mg base) (g2 : G_nested P w K mg base) (g3 : G_check_names P w K mg base) (g4 : G_check_kinds P w K mg base) (F : FD K d_read f fd) : FnOk P w K mg base CX0 8 f fd ["text"] (SpD K R_read) := by
  refine fn_data F sc_read (fun ds d h => by obtain ⟨_, _, _, _, _, _, _, _, _, _, rfl, _⟩ := h; rfl) fun cdv A outer s H E hr ds d h => ?_
  obtain ⟨g, t, ts, hg, hl, ht, hts, hlen, h150, hall, rfl, rfl⟩ := h
  refine ds_set 1 (d_is (d_split (d_var 0 rfl) d_str (by decide +kernel) (Nat.le_trans (Nat.add_le_add_right ht 2) (by decide))) (congrArg (fun z => PyData.list (z.map PyData.str)) hts)) ?_ sc_read.nd
  refine ds_skip (dt_is (dt_cmp (d_lenL T.f_len (d_var 1 rfl)) (d_cst T.c_MOST_LINES) o_gtI) (decide_eq_false (by rw [List.length_map]; omega))) ?_
  refine ds_set 2 (d_call g2 (hr.mono (by decide)) (da_cons (d_lcE 3 (es := linesD g) sc_read (di_list (d_var 1 rfl)) (by decide +kernel) (by rw [List.length_map]; exact hlen.symm) (by rw [List.length_map]; omega) (fun j d e hd he => ?_)) da_nil) ⟨g, hg.small, hl, rfl, rfl⟩) ?_ sc_read.nd
  · rw [List.getElem?_map] at hd
    cases hx : ts[j]? with
    | none => rw [hx] at hd; cases hd
    | some x =>
      rw [hx] at hd
      cases hd
      exact fun _ _ _ _ _ => d_call g1 hr (da_cons (d_var 3 rfl) da_nil) (hall j x e hx he)
  · refine ds_expr (d_call g3 (hr.mono (by decide)) (da_cons (d_var 2 rfl) da_nil) ⟨g, hg, rfl, rfl⟩) ?_
    refine ds_expr (d_call g4 (hr.mono (by decide)) (da_cons (d_var 2 rfl) da_nil) ⟨g, hg, rfl, rfl⟩) ?_
    exact ds_ret (d_var 2 rfl) rfl
abbrev G_read (P : Program) (w : World) (K : PySem.W.Frag) (mg : Str → Option Value) (base : Heap) : Prop := GFn P w K mg base "read" 8 (SpD K R_read)
end
end SJ
set_option maxRecDepth 100000
set_option maxHeartbeats 4000000
/-! DA: fresh data. -/
namespace SJ
open PySem PySem.Spec PyProof.Rows L2
/-- no pool -/
def noH : Hp := fun _ => none
/-- data that is new from H on -/
structure Fr (K : PySem.W.Frag) (H Gx H' : Hp) (v : V) (d : PyData) : Prop where
  gr : Gr noH H Gx H'
  dq : Dq K Gx v d
section
variable {K : PySem.W.Frag} {G H G' H' G0 H0 Gx Gy H1 H2 : Hp} {Γ : List SD} {σ : L2.St} {v : V} {d : PyData}
theorem gr_noH (h : Same H H') : Gr noH H noH H' := ⟨fun _ _ z => (nomatch z), h, fun _ _ z => (nomatch z), fun _ _ _ z => z⟩
theorem Gr.fresh (g : Gr noH H Gx H') {a : Addr} {o : HO} (h : Gx a = some o) : H a = none := by
  cases q : H a with
  | none => rfl
  | some u =>
    have := g.fr a u q rfl
    rw [h] at this
    cases this
/-- from an earlier heap -/
theorem Gr.since (h : Same H H1) (g : Gr noH H1 Gx H') : Gr noH H Gx H' := ⟨g.g, h.trans g.h, g.s, fun a o z w => g.fr a o (h a o z) w⟩
/-- the pool stands, the fresh things aside -/
theorem Gr.aside (s : Same G H) (g : Gr noH H Gx H') : Gr G H G H' := ⟨Same.refl _, g.h, s.trans g.h, fun _ _ _ z => z⟩
theorem uH_l {a : Addr} {o : HO} (h : Gx a = some o) : uH Gx G a = some o := by unfold uH; rw [h]; rfl
theorem uH_r {a : Addr} (h : Gx a = none) : uH Gx G a = G a := by unfold uH; rw [h]; rfl
theorem Gr.union (s : Same G H) (g : Gr noH H Gx H') : Gr G H (uH Gx G) H' ∧ Same Gx (uH Gx G) :=
  ⟨⟨fun a o z => by rw [uH_r (g.fr a o (s a o z) rfl)]; exact z, g.h, fun a o z => by
    cases q : Gx a with
    | none => rw [uH_r q] at z; exact g.h a o (s a o z)
    | some u => rw [uH_l q] at z; cases z; exact g.s a _ q, fun a o z w => by rw [uH_r (g.fr a o z rfl)]; exact w⟩, fun a o z => uH_l z⟩
/-- data without lists or tuples -/
def scal1 : PyData → Prop
  | .none | .bool _ | .int _ | .str _ => True
  | _ => False
theorem _root_.L2.Dq.scal (h : Dq K G v d) (s : scal1 d) : Dq K G' v d := by
  cases h with
  | non => exact .non
  | bl b => exact .bl b
  | int i => exact .int i
  | str x => exact .str x
  | _ => exact s.elim
theorem _root_.L2.DqAll.scal : ∀ {vs : List V} {ds : List PyData}, DqAll K G vs ds → (∀ d ∈ ds, scal1 d) → DqAll K G' vs ds
  | _, _, .nil, _ => .nil
  | _, _, .cons a t, s => .cons (a.scal (s _ List.mem_cons_self)) (L2.DqAll.scal t fun d m => s d (List.mem_cons_of_mem _ m))
end
def tF (K : PySem.W.Frag) (Γ : List SD) (d : PyData) : TE := fun σ H Q => ∃ G, EnvD K G H Γ σ ∧ ∀ Gx H' v, Fr K H Gx H' v d → Q v H'
abbrev FE (X : Cx) (Γ : List SD) (e : Expr) (d : PyData) : Prop := PE X e (tF X.K Γ d)
section
variable {X : Cx} {Γ : List SD} {P : Po} {rest : List Stmt} {e oe : Expr} {es : List Expr} {d : PyData} {ds : List PyData} {v : V} {x m : Str} {pos pos' p apos cpos : Pos} {k : Nat} {C : Addr}
theorem fe_de (h : FE X Γ e d) : DE X Γ e d := h.imp fun σ H Q ⟨G, env, k⟩ => ⟨G, env, fun Gx H' v f => let ⟨g1, g2⟩ := f.gr.union env.s; k _ H' v g1 (f.dq.up g2)⟩
theorem de_fe (h : DE X Γ e d) (s : scal1 d) : FE X Γ e d := h.imp fun σ H Q ⟨G, env, k⟩ => ⟨G, env, fun G' H' v g q => k noH H' v ⟨gr_noH g.h, q.scal s⟩⟩
theorem fe_is {d' : PyData} (h : FE X Γ e d) (q : d = d' := by first | rfl | assumption) : FE X Γ e d' := q ▸ h
/-- a call whose result is new -/
def rCF (K : PySem.W.Frag) (ds : List PyData) (d : PyData) : List V → Hp → VK → Prop := fun vs H Q => ∃ G, Same G H ∧ DqAll K G vs ds ∧ ∀ Gx H' v, Fr K H Gx H' v d → Q v H'
theorem Fr.since {K : PySem.W.Frag} {H H1 Gx H' : Hp} {v : V} {d : PyData} (h : Same H H1) (f : Fr K H1 Gx H' v d) : Fr K H Gx H' v d := ⟨f.gr.since h, f.dq⟩
theorem f_blt {id : String} (hc : CallR X (.builtin id) (rCF X.K ds d)) (hm : X.mg x = none) (ha : DA X Γ (e :: es) ds) (hv : bootBuiltins x = some (.builtin id) := by decide +kernel) (hg : Gl X x := by rfl) (hn : x ≠ "__name__" := by decide) (hdb : (x == ("__debug__" : Str)) = false := by decide)
    (he : starEach (e :: es) X.env = (false, eval e X.env) :: starEach es X.env := by rfl) (hpl : (backTo pos (starEach es X.env)).any (·.1) = false := by rfl) : FE X Γ (.Call (.Name x p) (e :: es) [] pos) d :=
  (pe_callB hc hg hm hv ha hn hdb he hpl).imp fun σ H Q ⟨G, env, q⟩ => ⟨G, env, fun G1 H1 vs g1 q1 => ⟨G1, g1.s, q1, fun Gx H' v f => q Gx H' v (f.since g1.h)⟩⟩
theorem f_cty {T : String} (hc : CallR X (.type T) (rCF X.K ds d)) (hm : X.mg x = none) (ha : DA X Γ (e :: es) ds) (hv : bootBuiltins x = some (.type T) := by decide +kernel) (hg : Gl X x := by rfl) (hn : x ≠ "__name__" := by decide) (hdb : (x == ("__debug__" : Str)) = false := by decide)
    (he : starEach (e :: es) X.env = (false, eval e X.env) :: starEach es X.env := by rfl) (hpl : (backTo pos (starEach es X.env)).any (·.1) = false := by rfl) : FE X Γ (.Call (.Name x p) (e :: es) [] pos) d :=
  (pe_callTy hc hg hm hv ha hn hdb he hpl).imp fun σ H Q ⟨G, env, q⟩ => ⟨G, env, fun G1 H1 vs g1 q1 => ⟨G1, g1.s, q1, fun Gx H' v f => q Gx H' v (f.since g1.h)⟩⟩
theorem fr_lst {K : PySem.W.Frag} {H : Hp} {l : Addr} {xs : List V} {ds : List PyData} (hl : H l = none) (h : DqAll K noH xs ds) : Fr K H (upd noH l (.lst xs)) (upd H l (.lst xs)) (.ref l) (.list ds) :=
  ⟨Gr.new (fun _ _ z => nomatch z) hl, .lst upd_same (h.up fun _ _ z => nomatch z)⟩
theorem fc_list (s : ∀ d ∈ ds, scal1 d) : CallR X (.type "list") (rCF X.K [.list ds] (.list ds)) := CallR.imp call_list_of fun vs H Q ⟨G, sm, h, k⟩ => by
  obtain ⟨v, rfl, h9⟩ := one h
  obtain ⟨a, xs, rfl, hs, hx⟩ := h9.listE
  exact ⟨a, xs, rfl, .inl (sm.seq hs), fun l hl => k _ _ _ (fr_lst hl (hx.scal s))⟩
theorem f_listOf (hm : X.mg "list" = none) (he : DE X Γ e (.list ds)) (s : ∀ d ∈ ds, scal1 d) (hg : Gl X "list" := by rfl) (hs : starEach [e] X.env = (false, eval e X.env) :: starEach [] X.env := by rfl) (hpl : (backTo pos (starEach [] X.env)).any (·.1) = false := by rfl) : FE X Γ (.Call (.Name "list" p) [e] [] pos) (.list ds) :=
  f_cty (T := "list") (fc_list s) hm (da_cons he da_nil hs) (by decide +kernel) hg (by decide) (by decide) hs hpl
theorem f_slL {lo hi : Option Expr} {l h : Option Int} {p2 : Pos} (he : DE X Γ e (.list ds)) (hl : DO X Γ lo l) (hh : DO X Γ hi h) (s : ∀ d ∈ ds, scal1 d) : FE X Γ (.Subscript e (.Slice lo hi none p2) pos) (.list (cutA ds l h)) :=
  (pe_slice sl_list he hl hh).imp fun σ H Q ⟨G, env, k⟩ => ⟨G, env, fun G1 H1 v g1 q1 => ⟨G1, env.up g1, fun G2 H2 g2 => ⟨G2, (env.up g1).up g2, fun G3 H3 g3 => by
    obtain ⟨p, xs, rfl, hs, hx⟩ := (q1.up (g2.g.trans g3.g)).listE
    refine ⟨p, xs, rfl, g3.s.seq hs, fun r hr => k _ _ _ ((fr_lst hr ?_).since ((g1.h.trans g2.h).trans g3.h))⟩
    exact (cut_all hx l h).scal fun d m => s d (List.mem_of_mem_drop (List.mem_of_mem_take m))⟩⟩⟩
theorem f_nil {lp : Pos} : FE X Γ (.List [] lp) (.list []) := (pe_lst pa_nil).imp fun σ H Q ⟨G, env, k⟩ => ⟨Nat.zero_le _, fun l hl => k _ _ _ (fr_lst hl .nil)⟩
/-- return e, fresh -/
theorem ds_retF (h : FE X Γ e d) (hr : ∀ Gx, P.rt Γ (.od Gx d)) : DS X Γ (.Return (some e) pos :: rest) P :=
  (pss_cons (ps_ret h) pss_never).imp fun D σ H ⟨G0, H0, G, s, k⟩ => ⟨G, s.env, fun Gx H' v f => by
    have g := f.gr.aside s.env.s
    exact k.rt G H' Γ σ (.od Gx d) v (hr Gx) (Same.refl _) (s.up g) ⟨⟨v, rfl, f.dq⟩, f.gr.s, fun a o z => s.env.s.free (f.gr.fresh z)⟩ fun a ⟨o, z⟩ => ⟨s.gr.h.free (f.gr.fresh z), fun j e ej => s.none_ad (f.gr.fresh z) j e ej⟩⟩
/-- x = e, fresh -/
theorem ds_setF (i : Nat) (h : FE X Γ e d) (hr : ∀ Gx, DS X (Γ.set i (.od Gx d)) rest P) (hN : X.N.Nodup) (hi : X.N[i]? = some x := by rfl) (hx : Loc X.env.scope x := by first | exact .inl rfl | exact .inr rfl)
    (hs : swapsWith e (some (.Name x pos')) pos.line X.env = pure false := by rfl) (hf : X.fn x = true ∨ X.env.scope.names.lookup x = some .local := by first | exact .inl rfl | exact .inr rfl) : DS X Γ (.Assign [.Name x pos'] e pos :: rest) P :=
  ds_seq (N := fun Γ' => ∃ Gx, Γ' = Γ.set i (.od Gx d)) ((ps_set (i := i) hN hi hx h hs hf).imp fun D σ H ⟨G0, H0, G, s, k⟩ => ⟨G, s.env, fun Gx H' v f => by
    have g := f.gr.aside s.env.s
    exact k.nx G H' _ _ ⟨Gx, rfl⟩ (Same.refl _) ((s.up g).put i ⟨⟨v, rfl, f.dq⟩, f.gr.s, fun a o z => s.env.s.free (f.gr.fresh z)⟩ fun a ⟨o, z⟩ => ⟨s.gr.h.free (f.gr.fresh z), fun j e _ ej => s.none_ad (f.gr.fresh z) j e ej⟩)⟩) fun _ ⟨Gx, e⟩ => e ▸ hr Gx
/-- x = e, a fresh list to grow -/
theorem ds_setFL (i : Nat) (h : FE X Γ e (.list ds)) (sc : ∀ d ∈ ds, scal1 d) (hr : ∀ l, DS X (Γ.set i (.ml l ds)) rest P) (hN : X.N.Nodup) (hi : X.N[i]? = some x := by rfl) (hx : Loc X.env.scope x := by first | exact .inl rfl | exact .inr rfl)
    (hs : swapsWith e (some (.Name x pos')) pos.line X.env = pure false := by rfl) (hf : X.fn x = true ∨ X.env.scope.names.lookup x = some .local := by first | exact .inl rfl | exact .inr rfl) : DS X Γ (.Assign [.Name x pos'] e pos :: rest) P :=
  ds_seq (N := fun Γ' => ∃ l, Γ' = Γ.set i (.ml l ds)) ((ps_set (i := i) hN hi hx h hs hf).imp fun D σ H ⟨G0, H0, G, s, k⟩ => ⟨G, s.env, fun Gx H' v f => by
    have g := f.gr.aside s.env.s
    obtain ⟨l, xs, rfl, hl, hx⟩ := f.dq.listT
    have hn := f.gr.fresh hl
    exact k.nx G H' _ _ ⟨l, rfl⟩ (Same.refl _) ((s.up g).put i ⟨rfl, s.env.s.free hn, xs, f.gr.s _ _ hl, hx.scal sc⟩ fun a z => by
      cases z
      exact ⟨s.gr.h.free hn, fun j e _ ej => s.none_ad hn j e ej⟩)⟩) fun _ ⟨l, e⟩ => e ▸ hr l
/-- fresh data comes to the pool -/
theorem ds_absorb (i : Nat) {Gx : Hp} (h : DS X (Γ.set i (.dat d)) rest P) (e : Γ[i]? = some (.od Gx d) := by rfl) : DS X Γ rest P :=
  ds_as h fun G0 H0 G H σ s => by
    obtain ⟨o, e1, ⟨v, e2, q⟩, sx, dis⟩ := s.env.at_ i _ e
    have t1 : Same G (uH Gx G) := fun a o z => by
      cases w : Gx a with
      | none => rw [uH_r w]; exact z
      | some u => rw [dis a u w] at z; cases z
    have t2 : Same Gx (uH Gx G) := fun a o z => uH_l z
    have ne : ∀ {a o}, H a = some o → ¬ SD.ad (.od Gx d) a → Gx a = none := fun {a o} z n => by
      cases w : Gx a with
      | none => rfl
      | some u => exact (n ⟨u, w⟩).elim
    refine ⟨_, t1, s.step e t1 (fun a o z => ?_) (fun _ _ z _ => z) (fun a o z n w => by rw [uH_r (ne z n)]; exact w) (fun a z => (show False from z).elim) fun o2 z _ => ?_⟩
    · cases w : Gx a with
      | none => rw [uH_r w] at z; exact s.env.s a o z
      | some u => rw [uH_l w] at z; cases z; exact sx a _ w
    · rw [e1] at z
      cases z
      exact ⟨v, e2, q.up t2⟩
end
/-- a promise of fresh data by slots -/
def SpF {ι : Type} (K : PySem.W.Frag) (Pre : ι → List SD → Prop) (out : ι → PyData) : Sp := fun vs H Q _ => ∃ G Γ ix, Pre ix Γ ∧ EnvD K G H Γ (vs.map some) ∧ (∀ (i : Nat) c a, Γ[i]? = some c → ¬ c.ad a) ∧ ∀ Gx H' v, Fr K H Gx H' v (out ix) → Q v H'
def FrR (c : SD) (d : PyData) : Prop := (c = .dat d ∧ scal1 d) ∨ ∃ Gx, c = .od Gx d
section
variable {P : Program} {w : World} {K : PySem.W.Frag} {mg : Str → Option Value} {base : Heap} {x qual : Str} {params : Arguments} {body : List Stmt} {scope : Scope} {dvs : List V} {kws : List (Str × V)} {f : Addr} {fd : FuncData}
theorem fn_fresh {N ps : List Str} {k : Nat} {ι : Type} {Pre : ι → List SD → Prop} {out : ι → PyData} (F : FunD K x qual params body scope dvs kws f fd) (S : FnScope N ps scope) (hl : ∀ ix Γ, Pre ix Γ → Γ.length = ps.length)
    (hb : ∀ (cdv : Value) (A : Around) (outer : List Env) (s : Shared) (H : Hp) (E : XK), Room k (cxD P w K mg base N qual scope f cdv A outer s H E).A → ∀ ix Γ, Pre ix Γ →
      DS (cxD P w K mg base N qual scope f cdv A outer s H E) (startG N Γ) body ⟨fun _ => out ix = .none, fun _ c => FrR c (out ix), fun _ => False, fun _ => False⟩) : FnOk P w K mg base CX0 (k + 1) f fd ps (SpF K Pre out) := by
  refine F.ok S (fun vs H Q E ⟨G, Γ, ix, pre, env, _⟩ => by rw [← hl ix Γ pre, ← env.len, List.length_map]) fun cdv A outer s H vs Q E hr ⟨G, Γ, ix, pre, env, no, q⟩ => ?_
  refine ⟨_, (hb cdv A outer s H E hr ix Γ pre).nox, G, H, G, startG_st ⟨Gr.refl env.s, fun i c l e a => (no i c l e a).elim, env⟩, ⟨?_, ?_, ?_, ?_⟩⟩
  · intro G' H' Γ' σ' e _ s'
    exact q noH H' .non ⟨gr_noH s'.gr.h, by rw [e]; exact .non⟩
  · intro G' H' Γ' σ' c v e _ s' z n
    rcases e with ⟨rfl, sc⟩ | ⟨Gx, rfl⟩
    · obtain ⟨u, e2, z⟩ := z
      cases e2
      exact q noH H' v ⟨gr_noH s'.gr.h, z.scal sc⟩
    · obtain ⟨⟨u, e2, z⟩, sx, _⟩ := z
      cases e2
      refine q Gx H' v ⟨⟨fun _ _ z => (nomatch z), s'.gr.h, sx, fun a o h1 _ => ?_⟩, z⟩
      cases w : Gx a with
      | none => rfl
      | some u =>
        have := (n a ⟨u, w⟩).1
        rw [h1] at this
        cases this
  · intro _ _ _ _ z
    exact z.elim
  · intro _ _ _ _ z
    exact z.elim
end
end SJ
set_option maxRecDepth 100000
set_option maxHeartbeats 4000000
/-! DB: calls that hand back fresh data; comprehensions of fresh data. -/
namespace SJ
open PySem PySem.Spec PyProof.Rows L2
section
variable {K : PySem.W.Frag} {G H : Hp} {Γ : List SD} {σ : L2.St} {v : V} {cs : List (Addr × Cell)} {j : Nat}
open Classical in
/-- a region is read for a while -/
theorem EnvD.lend (env : EnvD K G H Γ σ) (hj : Γ[j]? = some (.rg v cs)) : ∃ Gt, Same G Gt ∧ Same Gt H ∧ ∀ p, p ∈ cs → ∃ u, Gt p.1 = some u ∧ CellOk K Gt u p.2 := by
  obtain ⟨_, _, _, r⟩ := env.at_ j _ hj
  have s1 : Same G fun a => if a ∈ cs.map (·.1) then H a else G a := fun a o z => by
    show (if a ∈ cs.map (·.1) then H a else G a) = some o
    by_cases m : a ∈ cs.map (·.1)
    · rw [if_pos m]; exact env.s a o z
    · rw [if_neg m]; exact z
  refine ⟨_, s1, fun a o z => ?_, fun p m => ?_⟩
  · have z : (if a ∈ cs.map (·.1) then H a else G a) = some o := z
    by_cases m : a ∈ cs.map (·.1)
    · rw [if_pos m] at z; exact z
    · rw [if_neg m] at z; exact env.s a o z
  · obtain ⟨_, u, z2, z3⟩ := r.at_ p m
    exact ⟨u, by rw [if_pos (List.mem_map.mpr ⟨p, m, rfl⟩)]; exact z2, z3.up s1⟩
end
section
variable {X : Cx} {Γ : List SD} {P : Po} {rest : List Stmt} {e oe : Expr} {es : List Expr} {d : PyData} {ds : List PyData} {v : V} {p C : Addr} {fs : List (Str × Fv)} {x m : Str} {pos pos' np apos cpos : Pos} {k : Nat} {ι : Type} {Pre : ι → List SD → Prop} {out : ι → PyData} {ix : ι}
theorem cons_noown {c0 : SD} (h0 : ∀ a, ¬ c0.ad a) {ds : List PyData} : ∀ (i : Nat) c a, (c0 :: ds.map SD.dat)[i]? = some c → ¬ c.ad a := fun i c a e z => ownG_none h0 a ⟨i, c, e, z⟩
theorem dats_dis0 {c0 : SD} : ∀ (i : Nat) c (a : Addr), (ds.map SD.dat)[i]? = some c → c.ad a → ¬ c0.ad a := fun i c a e z => by
  obtain ⟨d, _, rfl⟩ := List.mem_map.mp (List.mem_of_getElem? e)
  exact (show False from z).elim
/-- o.m(..), read only, fresh data back -/
theorem f_mcall {call : Expr} (c0 : SD) (j n : Nat) (hp : PE X call (tMeth C m (SpF X.K Pre out) [] E0 (tR X.K Γ (.ref p)) (tDA X.K Γ ds))) (ha : ∀ a, ¬ c0.ad a) (h0 : ∀ G H σ, EnvD X.K G H Γ σ → ∃ Gt, Same G Gt ∧ Same Gt H ∧ SOk X.K Gt H c0 (some (.ref p))) (pre : Pre ix (c0 :: ds.map .dat))
    (hc : cellAt Γ j n = some (p, .ins C fs)) (hm : fs.lookup m = none) (ho : out ix = d := by rfl) : FE X Γ call d :=
  ho ▸ hp.imp fun σ H Q ⟨G, env, k⟩ => ⟨G, env, fun G1 H1 g1 => by
    have env1 := env.up g1
    obtain ⟨dx, ws, z1, z2⟩ := recv env1 hc hm
    refine ⟨p, dx, ws, rfl, z1, z2, G1, env1, fun G2 H2 us g2 qu => ?_⟩
    have env2 := env1.up g2
    obtain ⟨Gt, t1, t2, t3⟩ := h0 _ _ _ env2
    show SpF X.K Pre out (V.ref p :: (us ++ [])) H2 _ E0
    rw [List.append_nil]
    exact ⟨Gt, _, ix, pre, args_env t2 t3 (by rw [qu.len, List.length_map]) (dats_ok (qu.up t1)) dats_dis dats_dis0, cons_noown ha, fun Gx H' r f => k Gx H' r (f.since (g1.h.trans g2.h))⟩⟩
/-- (a bare instance).m(..) -/
theorem f_icall {call : Expr} (ixf : Addr → ι) (hp : PE X call (tMeth C m (SpF X.K Pre out) [] E0 (tIn X.K Γ C) (tDA X.K Γ ds))) (pre : ∀ a, Pre (ixf a) (.st (.ref a) [(a, .ins C [])] :: ds.map .dat)) (ho : ∀ a, out (ixf a) = d) : FE X Γ call d :=
  hp.imp fun σ H Q ⟨G, env, k⟩ => ⟨G, env, fun G1 H1 a dx g1 ga => by
    have env1 := env.up g1
    refine ⟨a, dx, [], rfl, g1.s _ _ ga, rfl, G1, env1, fun G2 H2 us g2 qu => ?_⟩
    have env2 := env1.up g2
    show SpF X.K Pre out (V.ref a :: (us ++ [])) H2 _ E0
    rw [List.append_nil]
    refine ⟨G2, _, ixf a, pre a, args_env env2.s ⟨rfl, fun p m => ?_⟩ (by rw [qu.len, List.length_map]) (dats_ok qu) dats_dis dats_dis0, cons_noown (c0 := .st (.ref a) [(a, .ins C [])]) (fun _ z => z), fun Gx H' r f => k Gx H' r ((ho a ▸ f).since (g1.h.trans g2.h))⟩
    obtain rfl := List.mem_singleton.mp m
    exact ⟨_, g2.g _ _ ga, dx, [], rfl, .nil⟩⟩
/-- f(..) -/
theorem f_call (F : GFn X.prog X.w X.K X.mg X.base x k (SpF X.K Pre out)) (hr : Room k X.A) (ha : DA X Γ (e :: es) ds) (pre : Pre ix (ds.map .dat)) (ho : out ix = d := by rfl) (hg : Gl X x := by rfl)
    (hdb : (x == ("__debug__" : Str)) = false := by decide) (he : starEach (e :: es) X.env = (false, eval e X.env) :: starEach es X.env := by rfl) (hpl : (backTo pos (starEach es X.env)).any (·.1) = false := by rfl) : FE X Γ (.Call (.Name x np) (e :: es) [] pos) d :=
  ho ▸ (g_call F hr ha hg hdb he hpl).imp fun σ H Q ⟨G, env, q⟩ => ⟨G, env, fun G1 H1 vs g1 q1 => by
    show SpF X.K Pre out (vs ++ []) H1 _ E0
    rw [List.append_nil]
    have env1 := env.up g1
    refine ⟨G1, _, ix, pre, ⟨env1.s, by simp [q1.len], fun i c ei => ?_, fun i j c e a z1 _ w1 _ => ?_⟩, fun i c a ei z => ?_, fun Gx H' r f => q Gx H' r (f.since g1.h)⟩
    · obtain ⟨u, z1, z2⟩ := dats_ok (H := H1) q1 i c ei
      exact ⟨some u, by rw [List.getElem?_map, z1]; rfl, z2⟩
    · obtain ⟨d, _, rfl⟩ := List.mem_map.mp (List.mem_of_getElem? z1)
      exact (show False from w1).elim
    · obtain ⟨d, _, rfl⟩ := List.mem_map.mp (List.mem_of_getElem? ei)
      exact z⟩
/-! ### comprehensions -/
def EltF (X : Cx) (scope : Scope) (elt : Expr) (Γ : List SD) (d : PyData) : Prop := ∀ (s : Shared) (H : Hp) (C : Addr) (cl : List (Str × Addr)) (fp : List Addr), FE (X.blk s H scope (compEnvC scope cl C X.env) fp) Γ elt d
def tEltF (X : Cx) (scope : Scope) (elt : Expr) : TE := fun σ H Q => ∃ p : List SD × PyData, EltF X scope elt p.1 p.2 ∧ tF X.K p.1 p.2 σ H Q
theorem tLc_F {K : PySem.W.Frag} {vs : List Nat} {te : TE} {σ : L2.St} {H : Hp} {Q : VK} {f : PyData → List SD → Option (List SD)} {g : TG} {es : List PyData} (ht : TgS K g vs f) (hl : es.length = ds.length) (hn : ds.length ≤ 100000)
    (he : ∀ (i : Nat) d e, ds[i]? = some d → es[i]? = some e → ∃ Γ2, f d (wipeS Γ vs) = some Γ2 ∧ ∀ σ H Q, tF K Γ2 e σ H Q → te σ H Q) (h : tF K Γ (.list es) σ H Q) : tLc (tDI K Γ ds) g tYes te vs σ H Q := by
  obtain ⟨G, env, k⟩ := h
  refine ⟨G, env, fun G1 H1 J g1 wk D hD => ?_⟩
  have env1 := env.up g1
  refine ⟨fun i m H2 => m = ds.length - i ∧ i ≤ ds.length ∧ ∃ G2 Gx acc, Gr G1 H1 G2 H2 ∧ G2 D = none ∧ Gr noH H1 Gx H2 ∧ Gx D = none ∧ H2 D = some (.lst acc) ∧ DqAll K Gx acc (es.take i), ⟨ds.length, rfl, Nat.zero_le _, G1, noH, [], Gr.tmp g1.s hD, g1.s.free hD, gr_noH (Gr.tmp g1.s hD).h, rfl, upd_same, .nil⟩, ?_⟩
  rintro i m H2 ⟨rfl, hi, G2, Gx, acc, g2, hG, gx, hGx, hH, ha⟩
  obtain ⟨w1, w2⟩ := wk G2 H2 g2.g g2.s
  by_cases hlt : i < ds.length
  · have hd : ds[i]? = some ds[i] := List.getElem?_eq_getElem hlt
    have hie : i < es.length := by omega
    have hse : es[i]? = some es[i] := List.getElem?_eq_getElem hie
    obtain ⟨go, yl⟩ := w1 i _ hd
    obtain ⟨Γ2, hf, hte⟩ := he i _ _ hd hse
    refine .inr ⟨go, fun H' => ∃ G2 Gx acc, Gr G1 H1 G2 H' ∧ G2 D = none ∧ Gr noH H1 Gx H' ∧ Gx D = none ∧ H' D = some (.lst acc) ∧ DqAll K Gx acc (es.take (i + 1)), fun H' q => ⟨ds.length - (i + 1), by omega, rfl, hlt, q⟩, fun x H3 y => ?_⟩
    obtain ⟨G3, g3, qx⟩ := yl x H3 y
    have env3 := ((env1.up g2).up g3).wipe vs
    refine ht G3 H3 _ _ x _ Γ2 _ hf env3 qx fun σ2 hw env4 => ⟨hw.trans ?_, ?_⟩
    · exact wipe_idem σ vs
    · refine hte σ2 H3 _ ⟨G3, env4, fun Gy H4 y fy => ?_⟩
      have h3D : H3 D = some (.lst acc) := g3.h _ _ hH
      have h4D : H4 D = some (.lst acc) := fy.gr.h _ _ h3D
      have g3D : G3 D = none := g3.fr _ _ hH hG
      have gyD : Gy D = none := fy.gr.fr _ _ h3D rfl
      have la : acc.length = i := by rw [ha.len, List.length_take]; omega
      -- the pools of the fresh things put together
      have gx3 : Gr noH H1 Gx H3 := ⟨gx.g, gx.h.trans g3.h, gx.s.trans g3.h, gx.fr⟩
      obtain ⟨u1, u2⟩ := fy.gr.union gx3.s
      have gu : Gr noH H1 (uH Gy Gx) H4 := ⟨fun _ _ z => (nomatch z), gx3.h.trans fy.gr.h, u1.s, fun a o z w => by
        rw [uH_r (fy.gr.fr a o (gx3.h a o z) rfl)]
        exact gx.fr a o z w⟩
      have guD : uH Gy Gx D = none := by rw [uH_r gyD]; exact hGx
      have gp := (g2.trans g3).trans (fy.gr.aside env4.s)
      refine ⟨acc, h4D, by rw [la]; exact Nat.lt_of_lt_of_le hlt (Nat.le_trans hn (by decide)), G3, uH Gy Gx, acc ++ [y], ⟨gp.g, same_upd gp.h hD, same_upd gp.s g3D, gp.fr⟩, g3D, ⟨gu.g, same_upd gu.h hD, same_upd gu.s guD, gu.fr⟩, guD, upd_same, ?_⟩
      have e2 : es.take (i + 1) = es.take i ++ [es[i]] := by rw [List.take_succ, hse]; rfl
      rw [e2]
      exact (ha.up u1.g).app (.one (fy.dq.up u2))
  · have e : i = ds.length := by omega
    subst e
    rw [List.take_of_length_le (by omega)] at ha
    refine .inl ⟨w2, k (upd Gx D (.lst acc)) _ _ ⟨⟨fun _ _ z => (nomatch z), g1.h.trans gx.h, (Gr.take gx.s hH hGx).2, fun a o z w => ?_⟩, .lst upd_same (ha.up (Gr.take gx.s hH hGx).1)⟩⟩
    rw [upd_ne (ne_of_none (g1.h a o z) hD)]
    exact gx.fr a o (g1.h a o z) w
/-- [elt for x in iter], every result fresh -/
theorem f_lcN (i : Nat) {xp : Pos} {N ps : List Str} {sc : Scope} {elt iter : Expr} {scope : Scope} {rs : List PyData} (S : FnScope N ps sc) (hi : PID X (.Name x xp) Γ iter ds) (ok : L2.blkC N sc scope [(x, i)] = true) (hl : rs.length = ds.length) (hn : ds.length ≤ 100000)
    (he : ∀ (j : Nat) d e, ds[j]? = some d → rs[j]? = some e → EltF X scope elt ((Γ.set i .un).set i (.dat d)) e) (hNN : X.N = N := by rfl) (hsc : X.env.scope = sc := by rfl) (hx : X.N[i]? = some x := by rfl) (hlo : ∀ (s : Shared) (H : Hp) (C : Addr) (cl : List (Str × Addr)) (fp : List Addr), Loc (X.blk s H scope (compEnvC scope cl C X.env) fp).env.scope x := by exact fun _ _ _ _ _ => Or.inl rfl)
    (hfn : ∀ (s : Shared) (H : Hp) (C : Addr) (cl : List (Str × Addr)) (fp : List Addr), (X.blk s H scope (compEnvC scope cl C X.env) fp).fn x = true ∨ (X.blk s H scope (compEnvC scope cl C X.env) fp).env.scope.names.lookup x = some .local := by first | exact fun _ _ _ _ _ => Or.inr rfl | exact fun _ _ _ _ _ => Or.inl rfl)
    (hc : X.calm = true := by rfl) (hs : ∀ y, foldedSetIterable iter X.env y = pure y := by intro _; rfl) : FE X Γ (.ListComp elt [⟨.Name x xp, iter, [], 0⟩] scope pos) (.list rs) := by
  have hN : X.N.Nodup := hNN ▸ S.nd
  subst hNN hsc
  exact (pe_lc hc hN hi (blkOk_by ok) (fun s H C cl fp => pg_name hN hx (hlo s H C cl fp) (hfn s H C cl fp)) (fun _ _ _ _ _ => pts_nil) (te := tEltF X scope elt) (fun s H C cl fp => PE.ex (R := fun p : List SD × PyData => EltF X scope elt p.1 p.2) (t := fun p => tF X.K p.1 p.2) fun p hp => hp s H C cl fp) hs).imp fun σ H Q h =>
    tLc_F (tg_nm i) hl hn (fun j d e h1 h2 => ⟨_, rfl, fun σ H Q q => ⟨(_, e), he j d e h1 h2, q⟩⟩) h
end
end SJ
set_option maxRecDepth 100000
set_option maxHeartbeats 4000000
/-! MK: C() of a class without an __init__. -/
namespace SJ
open PySem PySem.Spec PyProof.Rows L2
section
variable {X : Cx} {Γ : List SD} {P : Po} {rest : List Stmt} {x : Str} {C : Addr} {np pos cpos : Pos}
theorem run_mk0 {pins : List (Addr × Obj)} {σ : L2.St} {H : Hp} {s : Shared} {Q : VK} (M : Mk0 X.K C) (I : Inv X pins σ H s) (h : ∀ a dx, H a = none → H dx = none → dx ≠ a → Q (.ref a) (upd (upd H dx (.own a)) a (.ins C dx []))) : wpAny (model X.prog X.w) X.A (call (.ref C) []) (EP X pins σ Q) X.xe s := by
  have q := h (s.heap.objs.size + 1) s.heap.objs.size (I.hok.fresh (Nat.le_succ _)) (I.hok.fresh (Nat.le_refl _)) (Nat.ne_of_lt (Nat.lt_succ_self _))
  have I2 := Inv.made (C := C) I
  have Y := PySem.W.makes_of (M := model X.prog X.w) I.kIn M.makes
  have ob : ((s.heap.push PySem.W.emptyDict).push (PySem.W.instObj C s.heap.objs.size)).get? (s.heap.objs.size + 1) = some (PySem.W.instObj C s.heap.objs.size) := by
    have z := Heap.get?_push_size (s.heap.push PySem.W.emptyDict) (o := PySem.W.instObj C s.heap.objs.size) rfl
    rwa [Heap.size_push] at z
  have t1 : PySem.W.Looks (model X.prog X.w) ((s.heap.push PySem.W.emptyDict).push (PySem.W.instObj C s.heap.objs.size)) (typeOf (.ref (s.heap.objs.size + 1))) (.ref C) := (PySem.W.Looks.ld ob).andThen .now
  have t2 : PySem.W.Looks (model X.prog X.w) ((s.heap.push PySem.W.emptyDict).push (PySem.W.instObj C s.heap.objs.size)) (isInstance (.ref (s.heap.objs.size + 1)) (.type "object")) true := t1.andThen (Y.top.keeps fun b o e => Heap.get?_push_of_some _ (Heap.get?_push_of_some _ e))
  refine wpAny_call (make_map0 I.kIn M.makes M.init (fun self => PySem.W.Looks.of_pure (PySem.W.oi_bind self)) ?_)
  refine codeAny_call_builtin PySem.W.oi_plain PySem.W.entry_oi (@PySem.W.check_slot (model X.prog X.w) _ _ _ "object.__init__" "object" "__init__" (.ref (s.heap.objs.size + 1)) [] [] _ PySem.W.oi_kind PySem.W.oi_split t2 (PySem.W.oi_args (.ref (s.heap.objs.size + 1))) ?_)
  rw [PySem.W.oi_run]
  exact wpAny_pure (And.intro rfl ⟨V.ref (s.heap.objs.size + 1), _, I2, rfl, q⟩)
def tMk0 (C : Addr) : TE := fun σ H Q => ∀ a dx, H a = none → H dx = none → dx ≠ a → Q (.ref a) (upd (upd H dx (.own a)) a (.ins C dx []))
theorem pe_mk0 (M : Mk0 X.K C) (hm : X.mg x = some (.ref C)) (hg : Gl X x := by rfl) (hdb : (x == ("__debug__" : Str)) = false := by decide) : PE X (.Call (.Name x np) [] [] cpos) (tMk0 C) := by
  refine ⟨fun pins s σ H Q I h => ?_⟩
  refine wpAny_Call_Name_kw (ld_glob I hg hm ?_ hdb)
  exact PySem.W.callWith_K0 I.kIn M.kp (run_mk0 M I h)
/-- return C() -/
theorem ds_retMk (M : Mk0 X.K C) (hm : X.mg x = some (.ref C)) (hr : ∀ a, P.rt Γ (.rg (.ref a) [(a, .ins C [])])) (hg : Gl X x := by rfl) (hdb : (x == ("__debug__" : Str)) = false := by decide) : DS X Γ (.Return (some (.Call (.Name x np) [] [] cpos)) pos :: rest) P :=
  (pss_cons (ps_ret (pe_mk0 M hm hg hdb)) pss_never).imp fun D σ H ⟨G0, H0, G, s, k⟩ a dx ha hdx hne => by
    have hx1 : upd H dx (.own a) a = none := by rw [upd_ne (Ne.symm hne)]; exact ha
    have g1 : Gr G H G (upd (upd H dx (.own a)) a (.ins C dx [])) := (Gr.tmp s.env.s hdx).trans (Gr.tmp (same_upd s.env.s (s.env.s.free hdx)) hx1)
    refine k.rt G _ Γ σ _ _ (hr a) (Same.refl _) (s.up g1) ⟨rfl, by simp, fun p m => ?_⟩ fun b m => ?_
    · obtain rfl := List.mem_singleton.mp m
      exact ⟨s.env.s.free ha, _, upd_same, dx, [], rfl, .nil⟩
    · have : b = a := by
        have m : b ∈ [a] := m
        exact List.mem_singleton.mp m
      subst this
      exact ⟨s.gr.h.free ha, fun j e ej => s.none_ad ha j e ej⟩
end
end SJ
set_option maxRecDepth 100000
set_option maxHeartbeats 4000000
/-! L3: kinds of boxes, states, joins, in plain Lean. -/
namespace SJ
open PySem PySem.Spec PyProof.Rows L2
/-- what stands in a state: a number, or a tuple of two -/
inductive El where
  | n (a : Nat)
  | p (a b : Nat)
deriving DecidableEq
def El.d : El → PyData
  | .n a => .int (a : Nat)
  | .p a b => .tuple [.int (a : Nat), .int (b : Nat)]
def stD (s : List El) : PyData := .list (s.map El.d)
inductive Kd where
  | most | set | once | row | map
deriving DecidableEq
def Kd.w : Kd → Str
  | .most => "most"
  | .set => "set"
  | .once => "once"
  | .row => "row"
  | .map => "map"
abbrev RND : Nat := 1000000000
def numS (ns : List Nat) : List El := ns.map El.n
def parS (ps : List (Nat × Nat)) : List El := ps.map fun q => El.p q.1 q.2
/-- a state of a kind -/
def okSt : Kd → List El → Prop
  | .most, s => ∃ ns : List Nat, s = numS ns ∧ ns.length < 2 ∧ ∀ a ∈ ns, a < RND
  | .set, s => ∃ ns : List Nat, s = numS ns ∧ ns.length ≤ 60 ∧ ns.Pairwise (· < ·) ∧ ∀ a ∈ ns, a < RND
  | .once, s => ∃ ns : List Nat, s = numS ns ∧ ns.length < 2 ∧ ∀ a ∈ ns, a < RND
  | .row, s => ∃ ns : List Nat, s = numS ns ∧ ns.length ≤ 60 ∧ ∀ a ∈ ns, a < RND
  | .map, s => ∃ ps : List (Nat × Nat), s = parS ps ∧ ps.length ≤ 60 ∧ ps.Pairwise (fun a b => a.1 < b.1) ∧ ∀ a ∈ ps, a.1 < RND ∧ a.2 < RND
/-- what a put joins -/
def okPut : Kd → List El → Prop
  | .row, s => ∃ ns : List Nat, s = numS ns ∧ 1 ≤ ns.length ∧ ns.length ≤ 4 ∧ ∀ a ∈ ns, a < RND
  | .map, s => ∃ a b : Nat, s = [.p a b] ∧ a < RND ∧ b < RND
  | _, s => ∃ a : Nat, s = [.n a] ∧ a < RND
/-- a number comes to rising ones -/
def insN (b : Nat) : List Nat → List Nat
  | [] => [b]
  | a :: r => if b < a then b :: a :: r else if b = a then a :: r else a :: insN b r
def insP (q : Nat × Nat) : List (Nat × Nat) → List (Nat × Nat)
  | [] => [q]
  | a :: r => if q.1 < a.1 then q :: a :: r else if q.1 = a.1 then a :: r else a :: insP q r
def elN : El → Nat
  | .n a => a
  | .p a _ => a
def elP : El → Nat × Nat
  | .n a => (a, 0)
  | .p a b => (a, b)
/-- the join -/
def joinK : Kd → List El → List El → Option (List El)
  | .most, one, other => match one, other with
    | [.n a], [.n b] => some [.n (max a b)]
    | _, _ => some other
  | .set, one, other => match other with
    | [.n b] => some (numS (insN b (one.map elN)))
    | _ => some one
  | .once, one, other => if one = [] ∨ one = other then some other else none
  | .row, one, other => if other.take one.length = one then some other else if one.take other.length = other then some one else none
  | .map, one, other => match other with
    | [.p a b] => if ((one.map elP).any fun q => q.1 == a && q.2 != b) then none else some (parS (insP (a, b) (one.map elP)))
    | _ => some one
def optD : Option (List El) → PyData
  | none => .none
  | some s => stD s
section
variable {P : Program} {w : World} {K : PySem.W.Frag} {mg : Str → Option Value} {base : Heap} {f : Addr} {fd : FuncData} {C : Addr}
def R_is_number : List PyData → PyData → Prop := fun ds d => ∃ n : Nat, n < RND ∧ ds = [.int (n : Nat)] ∧ d = .bool true
theorem sc_is_number : FnScope ["thing"] ["thing"] (defScope s_is_number) := ⟨rfl, rfl, rfl, by decide +kernel, rfl, by decide +kernel, by decide +kernel⟩
theorem ok_is_number (T : Tx K mg) (F : FD K d_is_number f fd) : FnOk P w K mg base CX0 1 f fd ["thing"] (SpD K R_is_number) := by
  refine fn_data F sc_is_number (fun ds d h => by obtain ⟨_, _, rfl, _⟩ := h; rfl) fun cdv A outer s H E hr ds d h => ?_
  obtain ⟨n, hn, rfl, rfl⟩ := h
  refine ds_ret (d_and (d_isi T.f_isinstance (d_var 0 rfl) T.f_int (T := "int") (b := true) rfl) (d_and (c := true) (d_is (d_not (d_isi T.f_isinstance (d_var 0 rfl) T.f_bool (T := "bool") (b := false) rfl)) rfl) (d_one (d_chainT d_int (d_var 0 rfl) (d_cst T.c_ROUND) ?_ ?_)))) rfl
  · have := @o_leI (cxD P w K mg base ["thing"] d_is_number.qual d_is_number.scope f cdv A outer s H E) 0 (n : Nat)
    rwa [decide_eq_true (show (0 : Int) ≤ (n : Nat) by omega)] at this
  · have := @o_ltI (cxD P w K mg base ["thing"] d_is_number.qual d_is_number.scope f cdv A outer s H E) (n : Nat) 1000000000
    rwa [decide_eq_true (show ((n : Nat) : Int) < 1000000000 by have h9 : n < 1000000000 := hn; omega)] at this
abbrev G_is_number (P : Program) (w : World) (K : PySem.W.Frag) (mg : Str → Option Value) (base : Heap) : Prop := GFn P w K mg base "is_number" 1 (SpD K R_is_number)
def R_is_pair : List PyData → PyData → Prop := fun ds d => ∃ n m : Nat, n < RND ∧ m < RND ∧ ds = [.tuple [.int (n : Nat), .int (m : Nat)]] ∧ d = .bool true
theorem sc_is_pair : FnScope ["thing"] ["thing"] (defScope s_is_pair) := ⟨rfl, rfl, rfl, by decide +kernel, rfl, by decide +kernel, by decide +kernel⟩
theorem ok_is_pair (T : Tx K mg) (g1 : G_is_number P w K mg base) (F : FD K d_is_pair f fd) : FnOk P w K mg base CX0 2 f fd ["thing"] (SpD K R_is_pair) := by
  refine fn_data F sc_is_pair (fun ds d h => by obtain ⟨_, _, _, _, rfl, _⟩ := h; rfl) fun cdv A outer s H E hr ds d h => ?_
  obtain ⟨n, m, hn, hm, rfl, rfl⟩ := h
  exact ds_ret (d_and (d_isi T.f_isinstance (d_var 0 rfl) T.f_tuple (T := "tuple") (b := true) rfl) (d_and (d_is (d_cmp (d_lenT T.f_len (d_var 0 rfl)) d_int o_eqI) rfl)
    (d_and (d_call g1 hr (da_cons (d_ixT (d_var 0 rfl) d_int (d := .int (n : Nat)) at0) da_nil) ⟨n, hn, rfl, rfl⟩) (d_one (d_call g1 hr (da_cons (d_ixT (d_var 0 rfl) d_int (d := .int (m : Nat)) at1) da_nil) ⟨m, hm, rfl, rfl⟩))))) rfl
abbrev G_is_pair (P : Program) (w : World) (K : PySem.W.Frag) (mg : Str → Option Value) (base : Heap) : Prop := GFn P w K mg base "is_pair" 2 (SpD K R_is_pair)
def intsD (ns : List Nat) : List PyData := ns.map fun a => .int (a : Nat)
def R_is_rising : List PyData → PyData → Prop := fun ds d => ∃ ns : List Nat, ns.length ≤ 1000 ∧ ns.Pairwise (· < ·) ∧ ds = [.list (intsD ns)] ∧ d = .bool true
theorem sc_is_rising : FnScope ["some", "k"] ["some"] (defScope s_is_rising) := ⟨rfl, rfl, rfl, by decide +kernel, rfl, by decide +kernel, by decide +kernel⟩
theorem ok_is_rising (T : Tx K mg) (F : FD K d_is_rising f fd) : FnOk P w K mg base CX0 1 f fd ["some"] (SpD K R_is_rising) := by
  refine fn_data F sc_is_rising (fun ds d h => by obtain ⟨_, _, _, rfl, _⟩ := h; rfl) fun cdv A outer s H E hr ds d h => ?_
  obtain ⟨ns, hz, hn, rfl, rfl⟩ := h
  refine ds_forN 1 (fun i Γ => ∃ x, Γ = [.dat (.list (intsD ns)), x]) (di_range2 T.f_range d_int (d_lenL T.f_len (d_var 0 rfl)) ?_) ⟨.un, rfl⟩ (fun i d Γ1 hd hi => ?_) (fun Γ1 hi => ?_) sc_is_rising.nd
  · unfold intsD
    rw [List.length_map]
    omega
  · obtain ⟨x, rfl⟩ := hi
    unfold rangeD at hd
    rw [List.getElem?_map] at hd
    cases hx : (List.range (((intsD ns).length : Nat) - 1 : Int).toNat)[i]? with
    | none => rw [hx] at hd; cases hd
    | some k =>
      rw [hx] at hd
      cases hd
      obtain ⟨h1, h2⟩ := List.getElem?_eq_some_iff.mp hx
      rw [List.getElem_range] at h2
      rw [List.length_range] at h1
      subst h2
      unfold intsD at h1
      rw [List.length_map] at h1
      have hi1 : i + 1 < ns.length := by omega
      have hi0 : i < ns.length := by omega
      have hlt : ns[i] < ns[i + 1] := List.pairwise_iff_getElem.mp hn i (i + 1) hi0 hi1 (by omega)
      have e1 : atI (intsD ns) (1 + (i : Nat) : Int) = some (.int (ns[i + 1] : Nat)) := by
        rw [show (1 + (i : Nat) : Int) = ((i + 1 : Nat) : Int) by omega]
        refine atI_nat (j := i + 1) ?_
        unfold intsD
        rw [List.getElem?_map, List.getElem?_eq_getElem hi1]
        rfl
      have e0 : atI (intsD ns) (1 + (i : Nat) - 1 : Int) = some (.int (ns[i] : Nat)) := by
        rw [show (1 + (i : Nat) - 1 : Int) = ((i : Nat) : Int) by omega]
        refine atI_nat (j := i) ?_
        unfold intsD
        rw [List.getElem?_map, List.getElem?_eq_getElem hi0]
        rfl
      exact ds_skip (dt_is (dt_cmp (d_ixL (d_var 0 rfl) (d_var 1 rfl) e1) (d_ixL (d_var 0 rfl) (d_bin (d_var 1 rfl) d_int o_subI) e0) o_leI) (decide_eq_false (by omega))) (ds_nil ⟨_, rfl⟩)
  · obtain ⟨x, rfl⟩ := hi
    exact ds_ret d_bl rfl
abbrev G_is_rising (P : Program) (w : World) (K : PySem.W.Frag) (mg : Str → Option Value) (base : Heap) : Prop := GFn P w K mg base "is_rising" 1 (SpD K R_is_rising)
end
end SJ
set_option maxRecDepth 100000
set_option maxHeartbeats 4000000
/-! DC: more statements on things of one's own. -/
namespace SJ
open PySem PySem.Spec PyProof.Rows L2
section
variable {X : Cx} {Γ : List SD} {P : Po} {rest : List Stmt} {e oe ke : Expr} {es : List Expr} {d : PyData} {ds : List PyData} {v w : V} {p a C l : Addr} {fs : List (Str × Fv)} {kvs : List (Key × Fv)} {cs : List (Addr × Cell)} {f x m : Str} {pos pos' apos cpos sp tpos : Pos} {k : Key}
theorem valV_put {κ : Type} [DecidableEq κ] {K : PySem.W.Frag} {G : Hp} {k : κ} {v : V} {d : Fv} (h : FvOk K G v d) : ∀ {ws : List (κ × V)} {kvs : List (κ × Fv)}, NvOk K G ws kvs → NvOk K G (ws ++ [(k, v)]) (kvs ++ [(k, d)])
  | _, _, .nil => .cons ⟨rfl, h⟩ .nil
  | _, _, .cons r t => .cons r (valV_put h t)
/-- o[k] = e, a dict's cell, the key new -/
theorem ds_cput (j n : Nat) (ho : RE X Γ oe (.ref a)) (hk : DE X Γ ke (kD k)) (he : DE X Γ e d) (hn : getFv kvs k = none) (hr : DS X (Γ.set j (.rg v (cs.set n (a, .dk (kvs ++ [(k, .dat d)]))))) rest P) (hz : kvs.length < 100000) (hu : X.A.units + 1 < cLine) (hj : Γ[j]? = some (.rg v cs)) (hc : cs[n]? = some (a, .dk kvs))
    (hsw : swapsWith e (some (.Subscript oe ke sp)) pos.line X.env = pure false := by rfl) : DS X Γ (.Assign [.Subscript oe ke sp] e pos :: rest) P :=
  ds_seq (N := (· = Γ.set j (.rg v (cs.set n (a, .dk (kvs ++ [(k, .dat d)])))))) ((ps_dput hu ho hk he hsw).imp fun D σ H ⟨G0, H0, G, s, ke0⟩ => ⟨G, s.env, fun G1 H1 y g1 qy => ⟨G1, s.env.up g1, fun G2 H2 g2 => ⟨G2, (s.env.up g1).up g2, fun G3 H3 u g3 qu => by
    have s3 := ((s.up g1).up g2).up g3
    obtain ⟨_, _, _, r⟩ := s3.env.at_ j _ hj
    obtain ⟨_, o, z1, ws, rfl, z2⟩ := r.at_ _ (List.mem_of_getElem? hc)
    have hnone : valV ws k = none := by
      rcases z2.get (k := k) with z | ⟨_, _, _, z, _⟩
      · exact z.1
      · rw [hn] at z
        cases z
    refine ⟨a, _, rfl, ?_, ke0.nx G3 _ _ σ rfl ((g1.g.trans g2.g).trans g3.g) (s3.setC hj hc (o := .dK (putK ws k y)) ⟨_, rfl, ?_⟩)⟩
    · rw [kd_V qu]
      exact DPut.k z1 (by rw [Paired.length z2]; exact Nat.lt_of_lt_of_le hz (by decide))
    · rw [putK_new y hnone]
      exact valV_put (d := .dat d) (qy.up (g2.g.trans g3.g)) z2⟩⟩⟩) fun _ e => e ▸ hr
/-- o.f += e -/
theorem ds_faugA (j n : Nat) {i i2 : Int} (ho : RE X Γ oe (.ref p)) (he : DE X Γ e (.int i2)) (F : Fd X.K C f) (hf : fs.lookup f = some (.dat (.int i))) (hr : DS X (Γ.set j (.rg v (cs.set n (p, .ins C (putFv f (.dat (.int (i + i2))) fs))))) rest P) (hj : Γ[j]? = some (.rg v cs)) (hc : cs[n]? = some (p, .ins C fs)) (hl : fs.length < 1000 := by first | decide | exact Nat.le_of_ble_eq_true rfl) :
    DS X Γ (.AugAssign (.Attribute oe f tpos) .Add e pos :: rest) P :=
  ds_seq (N := (· = Γ.set j (.rg v (cs.set n (p, .ins C (putFv f (.dat (.int (i + i2))) fs)))))) ((ps_fldaug ho he in_add).imp fun D σ H ⟨G0, H0, G, s, k⟩ => ⟨G, s.env, fun G1 H1 g1 => by
    have s1 := s.up g1
    obtain ⟨_, _, _, r⟩ := s1.env.at_ j _ hj
    obtain ⟨_, u, z1, dx, ws, rfl, z2⟩ := r.at_ _ (List.mem_of_getElem? hc)
    obtain ⟨y, y1, y2⟩ := z2.lookup hf
    have y3 := Dq.intE (show Dq X.K G1 y (.int i) from y2)
    subst y3
    refine ⟨p, C, dx, ws, .int i, rfl, z1, F.cls, F.na, y1, G1, s1.env, fun G2 H2 y2 g2 q2 => ⟨i, i2, rfl, q2.intE, dx, ws, g2.h _ _ z1, by rw [Paired.length z2]; exact hl, k.nx G2 _ _ σ rfl (g1.g.trans g2.g) ((s1.up g2).setC hj hc (o := .ins C dx (putF f (.int (i + i2)) ws)) ⟨dx, _, rfl, (z2.up g2.g).put (x := .dat (.int (i + i2))) (.int _)⟩)⟩⟩⟩) fun _ e => e ▸ hr
/-- o.f -= e -/
theorem ds_faugS (j n : Nat) {i i2 : Int} (ho : RE X Γ oe (.ref p)) (he : DE X Γ e (.int i2)) (F : Fd X.K C f) (hf : fs.lookup f = some (.dat (.int i))) (hr : DS X (Γ.set j (.rg v (cs.set n (p, .ins C (putFv f (.dat (.int (i - i2))) fs))))) rest P) (hj : Γ[j]? = some (.rg v cs)) (hc : cs[n]? = some (p, .ins C fs)) (hl : fs.length < 1000 := by first | decide | exact Nat.le_of_ble_eq_true rfl) :
    DS X Γ (.AugAssign (.Attribute oe f tpos) .Sub e pos :: rest) P :=
  ds_seq (N := (· = Γ.set j (.rg v (cs.set n (p, .ins C (putFv f (.dat (.int (i - i2))) fs)))))) ((ps_fldaug ho he in_sub).imp fun D σ H ⟨G0, H0, G, s, k⟩ => ⟨G, s.env, fun G1 H1 g1 => by
    have s1 := s.up g1
    obtain ⟨_, _, _, r⟩ := s1.env.at_ j _ hj
    obtain ⟨_, u, z1, dx, ws, rfl, z2⟩ := r.at_ _ (List.mem_of_getElem? hc)
    obtain ⟨y, y1, y2⟩ := z2.lookup hf
    have y3 := Dq.intE (show Dq X.K G1 y (.int i) from y2)
    subst y3
    refine ⟨p, C, dx, ws, .int i, rfl, z1, F.cls, F.na, y1, G1, s1.env, fun G2 H2 y2 g2 q2 => ⟨i, i2, rfl, q2.intE, dx, ws, g2.h _ _ z1, by rw [Paired.length z2]; exact hl, k.nx G2 _ _ σ rfl (g1.g.trans g2.g) ((s1.up g2).setC hj hc (o := .ins C dx (putF f (.int (i - i2)) ws)) ⟨dx, _, rfl, (z2.up g2.g).put (x := .dat (.int (i - i2))) (.int _)⟩)⟩⟩⟩) fun _ e => e ▸ hr
/-- x[i], x a list of one's own -/
theorem d_ixM (j : Nat) {ie : Expr} {i : Int} (he : RE X Γ e (.ref l)) (hj : Γ[j]? = some (.ml l ds)) (hi : DE X Γ ie (.int i)) (h : atI ds i = some d) (hs : PlainIx ie := by exact fun _ _ => rfl) : DE X Γ (.Subscript e ie pos) d :=
  (pe_ix ix_list he hi hs).imp fun σ H Q ⟨G, env, k⟩ => ⟨G, env, fun G1 H1 g1 => ⟨G1, env.up g1, fun G2 H2 y g2 q2 => by
    obtain ⟨o, z1, _, _, vs, z2, z3⟩ := ((env.up g1).up g2).at_ j _ hj
    obtain ⟨y, w1, w2⟩ := z3.at_ h
    exact ⟨l, vs, i, y, rfl, q2.intE, SqL.of z2, w1, k G2 H2 y (g1.trans g2) w2⟩⟩⟩
/-- None in x, x a list of one's own of ints -/
theorem dt_noneInM (j : Nat) {ne : Expr} {ns : List Int} (hn : DE X Γ ne .none) (he : RE X Γ e (.ref l)) (hj : Γ[j]? = some (.ml l (ns.map PyData.int))) (hm : behindInMarks .In e = false := by first | rfl | exact nomark _) : DT X Γ (.Compare ne [.In] [e] pos) false :=
  (pt_cmpR op_in_seq hn he hm).imp fun σ H Q ⟨G, env, k⟩ => ⟨G, env, fun G1 H1 y g1 q1 => ⟨G1, env.up g1, fun G2 H2 g2 => by
    obtain ⟨o, z1, _, _, vs, z2, z3⟩ := ((env.up g1).up g2).at_ j _ hj
    cases z3.ints
    rw [q1.noneE]
    refine ⟨l, _, rfl, .inl (SqL.of z2), rfl, flat_ints ns, ?_⟩
    rw [if_neg Bool.false_ne_true, inV_none]
    exact ⟨false, rfl, k G2 H2 (g1.trans g2)⟩⟩⟩
/-- return x, a list of one's own -/
theorem ds_retM (i : Nat) (he : RE X Γ e (.ref l)) (hi : Γ[i]? = some (.ml l ds)) (hr : P.rt (Γ.set i .un) (.ml l ds)) : DS X Γ (.Return (some e) pos :: rest) P :=
  (pss_cons (ps_ret he) pss_never).imp fun D σ H ⟨G0, H0, G, s, k⟩ => ⟨G, s.env, fun G1 H1 g1 => by
    have s1 := s.up g1
    obtain ⟨o, z1, z2⟩ := s1.env.at_ i _ hi
    have z3 := z2.1
    subst z3
    refine k.rt G1 H1 _ σ _ _ hr g1.g (s1.known (c' := .un) hi (fun _ z => z) fun _ _ _ => trivial) z2 fun a z => ⟨s1.nw i _ a hi z, fun j e ej w => ?_⟩
    rcases set_at ej with ⟨_, rfl⟩ | ⟨hj, ej⟩
    · exact w
    · exact hj (s1.env.nd i j _ e a hi ej z w)⟩
/-- return x, things of one's own -/
theorem ds_retR (i : Nat) (he : RE X Γ e v) (hi : Γ[i]? = some (.rg v cs)) (hr : P.rt (Γ.set i .un) (.rg v cs)) : DS X Γ (.Return (some e) pos :: rest) P :=
  (pss_cons (ps_ret he) pss_never).imp fun D σ H ⟨G0, H0, G, s, k⟩ => ⟨G, s.env, fun G1 H1 g1 => by
    have s1 := s.up g1
    obtain ⟨o, z1, z2⟩ := s1.env.at_ i _ hi
    have z3 := z2.1
    subst z3
    refine k.rt G1 H1 _ σ _ _ hr g1.g (s1.known (c' := .un) hi (fun _ z => z) fun _ _ _ => trivial) z2 fun a z => ⟨s1.nw i _ a hi z, fun j e ej w => ?_⟩
    rcases set_at ej with ⟨_, rfl⟩ | ⟨hj, ej⟩
    · exact w
    · exact hj (s1.env.nd i j _ e a hi ej z w)⟩
/-- return [..], a list of one's own -/
theorem ds_retML {lp : Pos} (he : DA X Γ es ds) (hl : ds.length ≤ 100000) (hr : ∀ l, P.rt Γ (.ml l ds)) : DS X Γ (.Return (some (.List es lp)) pos :: rest) P :=
  (pss_cons (ps_ret (pe_lst he)) pss_never).imp fun D σ H ⟨G0, H0, G, s, k⟩ => ⟨G, s.env, fun G1 H1 vs g1 q1 => ⟨by rw [q1.len]; exact Nat.le_trans hl (by decide), fun l hl0 => by
    have s1 := s.up g1
    exact k.rt G1 _ Γ σ _ _ (hr l) g1.g (s1.up (Gr.tmp s1.env.s hl0)) ⟨rfl, s1.env.s.free hl0, vs, upd_same, q1⟩ fun a z => by
      cases z
      exact ⟨s1.gr.h.free hl0, fun j e ej => s1.none_ad hl0 j e ej⟩⟩⟩
end
section
variable {X : Cx} {Γ : List SD} {e1 e2 : Expr} {d1 d : PyData} {v2 : V} {f : Str} {p pos : Pos} {k : Nat} {ι : Type} {Pre : ι → List SD → Prop} {out : ι → PyData}
/-- f(e1, e2, {}) -/
theorem f_call3 {dp : Pos} (ixf : Addr → ι) (F : GFn X.prog X.w X.K X.mg X.base f k (SpF X.K Pre out)) (hr : Room k X.A) (h1 : DE X Γ e1 d1) (h2 : RE X Γ e2 v2) (pre : ∀ a, Pre (ixf a) [.dat d1, .raw v2, .raw (.ref a)]) (ho : ∀ a, out (ixf a) = d) (hg : Gl X f := by rfl) (hdb : (f == ("__debug__" : Str)) = false := by decide)
    (hs : starEach [e1, e2, .Dict [] [] dp] X.env = (false, eval e1 X.env) :: starEach [e2, .Dict [] [] dp] X.env := by rfl) (hs2 : starEach [e2, .Dict [] [] dp] X.env = (false, eval e2 X.env) :: starEach [.Dict [] [] dp] X.env := by rfl) (hs3 : starEach [.Dict [] [] dp] X.env = (false, eval (.Dict [] [] dp) X.env) :: starEach [] X.env := by rfl)
    (hpl : (backTo pos (starEach [e2, .Dict [] [] dp] X.env)).any (·.1) = false := by rfl) : FE X Γ (.Call (.Name f p) [e1, e2, .Dict [] [] dp] [] pos) d :=
  (g_call F hr (pa_cons h1 (pa_cons h2 (pa_cons pe_dnewK pa_nil hs3) hs2) hs) hg hdb hs hpl).imp fun σ H Q ⟨G, env, q⟩ => ⟨G, env, fun G1 H1 y g1 qy => ⟨G1, env.up g1, fun G2 H2 g2 a ha => by
    have env2 := (env.up g1).up g2
    have g3 : Gr G2 H2 G2 (upd H2 a (.dK [])) := Gr.tmp env2.s ha
    show SpF X.K Pre out ([y, v2, .ref a] ++ []) _ _ E0
    rw [List.append_nil]
    refine ⟨G2, _, ixf a, pre a, args_env (v := y) (us := [v2, .ref a]) (Γx := [.raw v2, .raw (.ref a)]) g3.s ⟨y, rfl, qy.up g2.g⟩ rfl (fun i c e => ?_) (fun i j c e a z1 _ w1 _ => ?_) (fun i c a _ _ z => z), fun i c a ei z => ?_, fun Gx H' r fr => q Gx H' r ((ho a ▸ fr).since ((g1.h.trans g2.h).trans g3.h))⟩
    · match i with
      | 0 => cases e; exact ⟨v2, rfl, rfl⟩
      | 1 => cases e; exact ⟨_, rfl, rfl⟩
      | i + 2 => cases e
    · match i with
      | 0 => cases z1; exact w1.elim
      | 1 => cases z1; exact w1.elim
      | i + 2 => cases z1
    · match i with
      | 0 => cases ei; exact z
      | 1 => cases ei; exact z
      | 2 => cases ei; exact z
      | i + 3 => cases ei⟩⟩
end
end SJ
set_option maxRecDepth 100000
set_option maxHeartbeats 4000000
/-! DD: walks over cells, triples, results of one's own. -/
namespace SJ
open PySem PySem.Spec PyProof.Rows L2
section
variable {K : PySem.W.Frag}
theorem tg_tr (i j k : Nat) : TgS K (gTup K 3 (gCons (gName i) (gCons (gName j) (gCons (gName k) gNil)))) [i, j, k] (fTr i j k) := fun G H Γ σ v d Γ' Q e env q kk => by
  cases d with
  | tuple ds =>
    match ds, e, q with
    | [a, b, c], e, q =>
      cases e
      obtain ⟨p, xs, rfl, hs, hx⟩ := q.tupE
      cases hx with
      | cons h1 hx => cases hx with
        | cons h2 hx => cases hx with
          | cons h3 hx =>
            cases hx
            refine ⟨p, _, rfl, sqT_mono env.s hs, rfl, _, _, rfl, _, _, rfl, _, _, rfl, rfl, kk _ ?_ (((env.setD i h1).setD j h2).setD k h3)⟩
            show ((((((σ.set i _).set j _).set k _).set k none).set j none).set i none) = (((σ.set k none).set j none).set i none)
            refine List.ext_getElem? fun m => ?_
            simp only [List.getElem?_set, List.length_set]
            by_cases h1 : i = m <;> by_cases h2 : j = m <;> by_cases h3 : k = m <;> simp only [h1, h2, h3, if_true, if_false] <;> first | rfl | (split <;> rfl) | skip
  | _ => cases e
theorem pg_tr {X : Cx} {i j k : Nat} {x y z : Str} {px py pz tp : Pos} {kk : Nat} (hc : X.calm = true) (hN : X.N.Nodup) (hi : X.N[i]? = some x) (hj : X.N[j]? = some y) (hk : X.N[k]? = some z) (hx : Loc X.env.scope x) (hy : Loc X.env.scope y) (hz : Loc X.env.scope z)
    (hf : X.fn x = true ∨ X.env.scope.names.lookup x = some .local) (hf' : X.fn y = true ∨ X.env.scope.names.lookup y = some .local) (hf2 : X.fn z = true ∨ X.env.scope.names.lookup z = some .local)
    (hn : (assignEach [.Name x px, .Name y py, .Name z pz] X.env).length = 3 := by rfl) (hst : (assignEach [.Name x px, .Name y py, .Name z pz] X.env).findIdx? (·.1) = none := by rfl)
    (hs : (assignEach [.Name x px, .Name y py, .Name z pz] X.env).map (·.2) = assign (.Name x px) X.env :: (assignEach [.Name y py, .Name z pz] X.env).map (·.2) := by rfl) (hs2 : (assignEach [.Name y py, .Name z pz] X.env).map (·.2) = assign (.Name y py) X.env :: (assignEach [.Name z pz] X.env).map (·.2) := by rfl) (hs3 : (assignEach [.Name z pz] X.env).map (·.2) = assign (.Name z pz) X.env :: (assignEach [] X.env).map (·.2) := by rfl) :
    PG X (.Tuple [.Name x px, .Name y py, .Name z pz] kk tp) (gTup X.K 3 (gCons (gName i) (gCons (gName j) (gCons (gName k) gNil)))) :=
  pg_tup hc (pgs_cons (pg_name hN hi hx hf) (pgs_cons (pg_name hN hj hy hf') (pgs_cons (pg_name hN hk hz hf2) pgs_nil hs3) hs2) hs) hn hst
theorem tr_ad (i j k : Nat) : ∀ d Γ Γ', fTr i j k d Γ = some Γ' → ∀ (m : Nat) c l, Γ'[m]? = some c → c.ad l → ∃ i : Nat, Γ[i]? = some c := fun d Γ Γ' e m c l ek a => by
  cases d with
  | tuple ds =>
    match ds, e with
    | [x, y, z], e =>
      cases e
      obtain ⟨i3, e3⟩ := nm_ad k z _ _ rfl m c l ek a
      obtain ⟨i2, e2⟩ := nm_ad j y _ _ rfl i3 c l e3 a
      exact nm_ad i x _ _ rfl i2 c l e2 a
  | _ => cases e
end
section
variable {X : Cx} {Γ : List SD} {P : Po} {rest body : List Stmt} {tg e e1 e2 oe ke ie iter : Expr} {es : List Expr} {d d1 d2 : PyData} {ds : List PyData} {v w : V} {p a C l t : Addr} {fs : List (Str × Fv)} {xs : List Fv} {kvs : List (Key × Fv)} {cs : List (Addr × Cell)} {f x m : Str} {pos pos' apos cpos sp tpos np tp : Pos} {k : Key} {kk : Nat}
/-- for x, y, z in iter: body -/
theorem ds_forT (x y z : Nat) {n1 n2 n3 : Str} {p1 p2 p3 : Pos} (Inv : Nat → List SD → Prop) (hi : PID X (.Tuple [.Name n1 p1, .Name n2 p2, .Name n3 p3] kk tp) Γ iter ds)
    (h0 : Inv 0 Γ) (hs : ∀ (i : Nat) d Γ1, ds[i]? = some d → Inv i Γ1 → ∃ a b c, d = .tuple [a, b, c] ∧ DS X (((Γ1.set x (.dat a)).set y (.dat b)).set z (.dat c)) body ⟨Inv (i + 1), P.rt, fun Γ' => DS X Γ' rest P, Inv (i + 1)⟩) (hd : ∀ Γ', Inv ds.length Γ' → DS X Γ' rest P) (hN : X.N.Nodup)
    (hx : X.N[x]? = some n1 := by rfl) (hy : X.N[y]? = some n2 := by rfl) (hz : X.N[z]? = some n3 := by rfl) (hl : Loc X.env.scope n1 := by first | exact .inl rfl | exact .inr rfl) (hl' : Loc X.env.scope n2 := by first | exact .inl rfl | exact .inr rfl) (hl2 : Loc X.env.scope n3 := by first | exact .inl rfl | exact .inr rfl)
    (hfn : X.fn n1 = true ∨ X.env.scope.names.lookup n1 = some .local := by first | exact .inl rfl | exact .inr rfl) (hfn' : X.fn n2 = true ∨ X.env.scope.names.lookup n2 = some .local := by first | exact .inl rfl | exact .inr rfl) (hfn2 : X.fn n3 = true ∨ X.env.scope.names.lookup n3 = some .local := by first | exact .inl rfl | exact .inr rfl)
    (hp : PassesOwn (model X.prog X.w) X.A X.env X.xe := by exact PassesOwn.never) (hc : X.calm = true := by rfl) (hfs : ∀ x, foldedSetIterable iter X.env x = pure x := by intro _; rfl)
    (hn : (assignEach [.Name n1 p1, .Name n2 p2, .Name n3 p3] X.env).length = 3 := by rfl) (hst : (assignEach [.Name n1 p1, .Name n2 p2, .Name n3 p3] X.env).findIdx? (·.1) = none := by rfl)
    (ha1 : (assignEach [.Name n1 p1, .Name n2 p2, .Name n3 p3] X.env).map (·.2) = assign (.Name n1 p1) X.env :: (assignEach [.Name n2 p2, .Name n3 p3] X.env).map (·.2) := by rfl) (ha2 : (assignEach [.Name n2 p2, .Name n3 p3] X.env).map (·.2) = assign (.Name n2 p2) X.env :: (assignEach [.Name n3 p3] X.env).map (·.2) := by rfl) (ha3 : (assignEach [.Name n3 p3] X.env).map (·.2) = assign (.Name n3 p3) X.env :: (assignEach [] X.env).map (·.2) := by rfl) :
    DS X Γ (.For (.Tuple [.Name n1 p1, .Name n2 p2, .Name n3 p3] kk tp) iter body [] pos :: rest) P :=
  ds_for Inv hi (pg_tr hc hN hx hy hz hl hl' hl2 hfn hfn' hfn2 hn hst ha1 ha2 ha3) (tg_tr x y z) (tr_ad x y z) h0 (fun i d Γ1 e iv => let ⟨a, b, c, e2, h⟩ := hs i d Γ1 e iv; ⟨_, by rw [e2]; rfl, h⟩) hd hp hc hfs
/-- a list that stands still is walked -/
theorem di_listS (j n : Nat) (he : RE X Γ e (.ref l)) (hj : Γ[j]? = some (.st v cs)) (hc : cs[n]? = some (l, .lst (ds.map .dat))) : PID X tg Γ e ds := PI_imp (pi_list he) fun σ H R ⟨G, env, k⟩ => ⟨G, env, fun G1 H1 g => by
  obtain ⟨o, _, z1, z2⟩ := (env.up g).at_ j _ hj
  obtain ⟨u, w1, ws, rfl, w2⟩ := z2 _ (List.mem_of_getElem? hc)
  have hs : SqL X.K G1 l ws := SqL.of w1
  exact ⟨l, rfl, ⟨ws, g.s.seq hs⟩, k G1 H1 _ g (wk_list hs (paired_dats w2))⟩⟩
/-- return (e1, e2), a tuple of one's own -/
theorem ds_retT2 (h1 : DE X Γ e1 d1) (h2 : DE X Γ e2 d2) (hr : ∀ q v1 v2, P.rt Γ (.rg (.ref q) [(q, .tup [.raw v1, .raw v2])])) (hs1 : starEach [e1, e2] X.env = (false, eval e1 X.env) :: starEach [e2] X.env := by rfl) (hs2 : starEach [e2] X.env = (false, eval e2 X.env) :: starEach [] X.env := by rfl) :
    DS X Γ (.Return (some (.Tuple [e1, e2] kk tp)) pos :: rest) P :=
  (pss_cons (ps_ret (pe_tup (da_cons h1 (da_cons h2 da_nil hs2) hs1))) pss_never).imp fun D σ H ⟨G0, H0, G, s, k⟩ => ⟨G, s.env, fun G1 H1 vs g1 q1 => by
    obtain ⟨v1, v2, rfl, _, _⟩ := two q1
    refine ⟨by show 2 ≤ _; decide, fun q hq => ?_⟩
    have s1 := s.up g1
    refine k.rt G1 _ Γ σ _ _ (hr q v1 v2) g1.g (s1.up (Gr.tmp s1.env.s hq)) ⟨rfl, by simp, fun p m => ?_⟩ fun b m => ?_
    · obtain rfl := List.mem_singleton.mp m
      exact ⟨s1.env.s.free hq, _, upd_same, _, rfl, .cons rfl (.cons rfl .nil)⟩
    · have : b = q := List.mem_singleton.mp (show b ∈ [q] from m)
      subst this
      exact ⟨s1.gr.h.free hq, fun j e ej => s1.none_ad hq j e ej⟩⟩
/-- e[i], e a tuple's cell -/
theorem re_tupC (j n : Nat) {i : Int} (he : RE X Γ e (.ref t)) (hi : DE X Γ ie (.int i)) (h : atI xs i = some (.raw w)) (hc : cellAt Γ j n = some (t, .tup xs)) (hs : PlainIx ie := by exact fun _ _ => rfl) : RE X Γ (.Subscript e ie pos) w :=
  (pe_ix ix_tup he hi hs).imp fun σ H Q ⟨G, env, k⟩ => ⟨G, env, fun G1 H1 g1 => ⟨G1, env.up g1, fun G2 H2 y g2 q2 => by
    obtain ⟨u, h1, ws, rfl, q⟩ := ((env.up g1).up g2).cell hc
    have at_ : ∃ y, atI ws i = some y ∧ FvOk X.K G2 y (.raw w) := by
      unfold atI at h ⊢
      rw [Paired.length q]
      cases hx : ixN xs.length i with
      | none => rw [hx] at h; cases h
      | some m =>
        rw [hx] at h
        exact paired_get q h
    obtain ⟨y, z1, z2⟩ := at_
    rw [show y = w from z2] at z1
    exact ⟨t, ws, i, w, rfl, q2.intE, .inl (.inl h1), z1, k G2 H2 (g1.trans g2)⟩⟩⟩
theorem re_str {z : Str} (h : RE X Γ e (.str z)) : DE X Γ e (.str z) := h.imp fun σ H Q ⟨G, env, k⟩ => ⟨G, env, fun G' H' g => k G' H' _ g (.str z)⟩
/-- list(e), e a list's cell -/
theorem d_listOfC (j n : Nat) (hm : X.mg "list" = none) (he : RE X Γ e (.ref l)) (hc : cellAt Γ j n = some (l, .lst (ds.map .dat))) (hg : Gl X "list" := by rfl) (hs : starEach [e] X.env = (false, eval e X.env) :: starEach [] X.env := by rfl) (hpl : (backTo pos (starEach [] X.env)).any (·.1) = false := by rfl) : DE X Γ (.Call (.Name "list" np) [e] [] pos) (.list ds) :=
  (pe_callTy call_list_of hg hm (by decide +kernel) (pa_cons he pa_nil hs) (by decide) (by decide) hs hpl).imp fun σ H Q ⟨G, env, k⟩ => ⟨G, env, fun G1 H1 g1 => by
    have env1 := env.up g1
    obtain ⟨u, h1, ws, rfl, q⟩ := env1.cell hc
    exact ⟨l, ws, rfl, .inl (SqL.of h1), fun r hr => k _ _ _ (g1.trans (Gr.new env1.s hr)) (.lst upd_same ((paired_dats q).up (Gr.new env1.s hr).g))⟩⟩
/-- o[k] = e, a dict's cell, the key there -/
theorem nv_putE {K : PySem.W.Frag} {G : Hp} {k : Key} {v : V} {x : Fv} (h : FvOk K G v x) {ws : List (Key × V)} {kvs : List (Key × Fv)} (q : NvOk K G ws kvs) (he : ∃ y, valV ws k = some y) : NvOk K G (putK ws k v) (kvs.map fun q => if q.1 = k then (q.1, x) else q) := by
  have h1 : (ws.any fun kv => decide (kv.1 = k)) = true := by
    obtain ⟨y, e⟩ := he
    unfold valV at e
    obtain ⟨kv, e1, _⟩ := Option.map_eq_some_iff.mp e
    exact List.any_eq_true.mpr ⟨kv, List.mem_of_find?_eq_some e1, by have := List.find?_some e1; exact this⟩
  unfold putK
  rw [if_pos h1]
  clear h1 he
  induction q with
  | nil => exact .nil
  | @cons p q ps qs r t ih =>
    refine .cons ?_ ih
    by_cases e : p.1 = k
    · have e2 : q.1 = k := r.1 ▸ e
      simp only [if_pos e, if_pos e2]
      exact ⟨r.1, h⟩
    · have e2 : ¬ q.1 = k := fun z => e (r.1.trans z)
      simp only [if_neg e, if_neg e2]
      exact r
theorem ds_cputE (j n : Nat) {x0 : Fv} (ho : RE X Γ oe (.ref a)) (hk : DE X Γ ke (kD k)) (he : DE X Γ e d) (hn : getFv kvs k = some x0) (hr : DS X (Γ.set j (.rg v (cs.set n (a, .dk (kvs.map fun q => if q.1 = k then (q.1, .dat d) else q))))) rest P) (hz : kvs.length < 100000) (hu : X.A.units + 1 < cLine) (hj : Γ[j]? = some (.rg v cs)) (hc : cs[n]? = some (a, .dk kvs))
    (hsw : swapsWith e (some (.Subscript oe ke sp)) pos.line X.env = pure false := by rfl) : DS X Γ (.Assign [.Subscript oe ke sp] e pos :: rest) P :=
  ds_seq (N := (· = Γ.set j (.rg v (cs.set n (a, .dk (kvs.map fun q => if q.1 = k then (q.1, .dat d) else q)))))) ((ps_dput hu ho hk he hsw).imp fun D σ H ⟨G0, H0, G, s, ke0⟩ => ⟨G, s.env, fun G1 H1 y g1 qy => ⟨G1, s.env.up g1, fun G2 H2 g2 => ⟨G2, (s.env.up g1).up g2, fun G3 H3 u g3 qu => by
    have s3 := ((s.up g1).up g2).up g3
    obtain ⟨_, _, _, r⟩ := s3.env.at_ j _ hj
    obtain ⟨_, o, z1, ws, rfl, z2⟩ := r.at_ _ (List.mem_of_getElem? hc)
    have hsome : ∃ y, valV ws k = some y := by
      rcases z2.get (k := k) with z | ⟨y, _, z, _, _⟩
      · rw [hn] at z
        cases z.2
      · exact ⟨y, z⟩
    refine ⟨a, _, rfl, ?_, ke0.nx G3 _ _ σ rfl ((g1.g.trans g2.g).trans g3.g) (s3.setC hj hc (o := .dK (putK ws k y)) ⟨_, rfl, nv_putE (x := .dat d) (qy.up (g2.g.trans g3.g)) z2 hsome⟩)⟩
    rw [kd_V qu]
    exact DPut.k z1 (by rw [Paired.length z2]; exact Nat.lt_of_lt_of_le hz (by decide))⟩⟩⟩) fun _ e => e ▸ hr
end
end SJ
set_option maxRecDepth 100000
set_option maxHeartbeats 4000000
/-! DF: lists of one's own that are lent; tuples put together of raw ones. -/
namespace SJ
open PySem PySem.Spec PyProof.Rows L2
open Classical in
theorem lendO {G H : Hp} (s : Same G H) (O : Addr → Prop) : ∃ Gt, Same G Gt ∧ Same Gt H ∧ ∀ a o, O a → H a = some o → Gt a = some o :=
  ⟨fun a => if O a then H a else G a, fun a o z => by
    show (if O a then H a else G a) = some o
    by_cases m : O a
    · rw [if_pos m]; exact s a o z
    · rw [if_neg m]; exact z, fun a o z => by
    have z : (if O a then H a else G a) = some o := z
    by_cases m : O a
    · rw [if_pos m] at z; exact z
    · rw [if_neg m] at z; exact s a o z, fun a o m z => by
    show (if O a then H a else G a) = some o
    rw [if_pos m]; exact z⟩
section
variable {X : Cx} {Γ : List SD} {P : Po} {rest : List Stmt} {e1 e2 e3 oe ce : Expr} {d d1 d2 d3 : PyData} {ds : List PyData} {v : V} {p l C : Addr} {fs : List (Str × Fv)} {cs : List (Addr × Cell)} {f m : Str} {pos pos' p1 p2 : Pos} {kk k1 k2 : Nat} {ι : Type} {Pre : ι → List SD → Prop} {Post : ι → List SD → SD → Prop} {out : ι → PyData} {ix : ι}
/-- (a bare instance).m(e1, y), y a list's cell that is lent -/
theorem f_icall2 {call : Expr} (ixf : Addr → ι) (j n : Nat) (hp : PE X call (tMeth C m (SpF X.K Pre out) [] E0 (tIn X.K Γ C) (tCons (tD X.K Γ d1) (tCons (tR X.K Γ (.ref l)) tNil)))) (hc : cellAt Γ j n = some (l, .lst (ds.map .dat))) (pre : ∀ a, Pre (ixf a) [.st (.ref a) [(a, .ins C [])], .dat d1, .dat (.list ds)]) (ho : ∀ a, out (ixf a) = d) : FE X Γ call d :=
  hp.imp fun σ H Q ⟨G, env, k⟩ => ⟨G, env, fun G1 H1 a dx g1 ga => by
    have env1 := env.up g1
    refine ⟨a, dx, [], rfl, g1.s _ _ ga, rfl, G1, env1, fun G2 H2 y g2 qy => ⟨G2, env1.up g2, fun G3 H3 g3 => ?_⟩⟩
    have env3 := (env1.up g2).up g3
    obtain ⟨u, h1, ws, rfl, q⟩ := env3.cell hc
    obtain ⟨Gt, t1, t2, t3⟩ := lendO env3.s (· = l)
    have dl : Dq X.K Gt (.ref l) (.list ds) := .lst (t3 l _ rfl h1) ((paired_dats q).up t1)
    show SpF X.K Pre out (V.ref a :: ([y, .ref l] ++ [])) H3 _ E0
    rw [List.append_nil]
    have hd : DqAll X.K Gt [y, .ref l] [d1, .list ds] := .cons (qy.up (g3.g.trans t1)) (.cons dl .nil)
    refine ⟨Gt, _, ixf a, pre a, args_env (us := [y, .ref l]) (Γx := [d1, .list ds].map SD.dat) t2 ⟨rfl, fun p m => ?_⟩ rfl (dats_ok hd) dats_dis dats_dis0, cons_noown (ds := [d1, .list ds]) (c0 := .st (.ref a) [(a, .ins C [])]) (fun _ z => z), fun Gx H' r fr => k Gx H' r ((ho a ▸ fr).since ((g1.h.trans g2.h).trans g3.h))⟩
    obtain rfl := List.mem_singleton.mp m
    exact ⟨_, t1 _ _ (g3.g _ _ (g2.g _ _ ga)), dx, [], rfl, .nil⟩⟩
/-- a new tuple of two -/
def tT2 (K : PySem.W.Frag) (Γ : List SD) : TE := fun σ H Q => ∃ G, EnvD K G H Γ σ ∧ ∀ H' q v1 v2, Gr G H G H' → H' q = some (.tup [v1, v2]) → Q (.ref q) H'
/-- some new tuple -/
def tNR (K : PySem.W.Frag) (Γ : List SD) : TE := fun σ H Q => ∃ G, EnvD K G H Γ σ ∧ ∀ H' q, Gr G H G H' → Q (.ref q) H'
/-- (e1,) + (two) + (e2, e3) -/
theorem e_cat5 (h1 : DE X Γ e1 d1) (hc : PE X ce (tT2 X.K Γ)) (h2 : DE X Γ e2 d2) (h3 : DE X Γ e3 d3) (hs1 : starEach [e1] X.env = (false, eval e1 X.env) :: starEach [] X.env := by rfl) (hs2 : starEach [e2, e3] X.env = (false, eval e2 X.env) :: starEach [e3] X.env := by rfl) (hs3 : starEach [e3] X.env = (false, eval e3 X.env) :: starEach [] X.env := by rfl) :
    PE X (.BinOp (.BinOp (.Tuple [e1] k1 p1) .Add ce pos) .Add (.Tuple [e2, e3] k2 p2) pos') (tNR X.K Γ) :=
  (pe_op op_catT (pe_op op_catT (pe_tup (da_cons h1 da_nil hs1)) hc) (pe_tup (da_cons h2 (da_cons h3 da_nil hs3) hs2))).imp fun σ H Q ⟨G, env, k⟩ => ⟨G, env, fun G1 H1 vs g1 q1 => by
    obtain ⟨v1, rfl, _⟩ := one q1
    have env1 := env.up g1
    refine ⟨by show 1 ≤ _; decide, fun a ha => ?_⟩
    have ga : Gr G1 H1 G1 (upd H1 a (.tup [v1])) := Gr.tmp env1.s ha
    have envA := env1.up ga
    refine ⟨G1, envA, fun H2 q v2 v3 g2 hq => ?_⟩
    have env2 := envA.up g2
    refine ⟨a, q, [v1], [v2, v3], rfl, rfl, .inl (.inl (g2.h _ _ upd_same)), .inl (.inl hq), fun z => (nomatch z), by show 3 ≤ _; decide, fun z => (nomatch z), fun _ r hr => ?_⟩
    have gr : Gr G1 H2 G1 (upd H2 r (.tup ([v1] ++ [v2, v3]))) := Gr.tmp env2.s hr
    have env3 := env2.up gr
    refine ⟨G1, env3, fun G4 H4 ws g4 q4 => ?_⟩
    obtain ⟨w1, w2, rfl, _, _⟩ := two q4
    have env4 := env3.up g4
    refine ⟨by show 2 ≤ _; decide, fun b hb => ?_⟩
    have gb : Gr G4 H4 G4 (upd H4 b (.tup [w1, w2])) := Gr.tmp env4.s hb
    refine ⟨r, b, [v1] ++ [v2, v3], [w1, w2], rfl, rfl, .inl (.inl (gb.h _ _ (g4.h _ _ upd_same))), .inl (.inl upd_same), fun z => (nomatch z), by show 5 ≤ _; decide, fun z => (nomatch z), fun _ c hc => ?_⟩
    have gc : Gr G4 (upd H4 b (.tup [w1, w2])) G4 (upd (upd H4 b (.tup [w1, w2])) c (.tup ([v1] ++ [v2, v3] ++ [w1, w2]))) := Gr.tmp gb.s hc
    have all := ((((g1.trans ga).trans g2).trans gr).trans g4).trans (gb.trans gc)
    exact k _ c ⟨Same.refl _, all.h, env.s.trans all.h, fun _ _ _ z => z⟩⟩
/-- o.f = e, a new thing -/
theorem ds_fsetX (j n : Nat) {e : Expr} (he : PE X e (tNR X.K Γ)) (ho : RE X Γ oe (.ref p)) (F : Fd X.K C f) (hr : ∀ q, DS X (Γ.set j (.rg v (cs.set n (p, .ins C (putFv f (.raw (.ref q)) fs))))) rest P) (hj : Γ[j]? = some (.rg v cs)) (hc : cs[n]? = some (p, .ins C fs)) (hl : fs.length < 1000 := by first | decide | exact Nat.le_of_ble_eq_true rfl)
    (hs : swapsWith e (some (.Attribute oe f pos')) pos.line X.env = pure false := by rfl) : DS X Γ (.Assign [.Attribute oe f pos'] e pos :: rest) P :=
  ds_seq (N := fun Γ' => ∃ q, Γ' = Γ.set j (.rg v (cs.set n (p, .ins C (putFv f (.raw (.ref q)) fs))))) ((ps_fld ho he hs).imp fun D σ H ⟨G0, H0, G, s, k⟩ => ⟨G, s.env, fun H1 q g1 => ⟨G, s.env.up g1, fun G2 H2 g2 => by
    have s2 := (s.up g1).up g2
    obtain ⟨_, _, _, r⟩ := s2.env.at_ j _ hj
    obtain ⟨_, u, z1, dx, ws, rfl, z2⟩ := r.at_ _ (List.mem_of_getElem? hc)
    exact ⟨p, C, dx, ws, rfl, z1, F.cls, F.na, by rw [Paired.length z2]; exact hl, k.nx G2 _ _ σ ⟨q, rfl⟩ g2.g (s2.setC hj hc (o := .ins C dx (putF f (.ref q) ws)) ⟨dx, _, rfl, z2.put (x := .raw (.ref q)) rfl⟩)⟩⟩⟩) fun _ ⟨q, e⟩ => e ▸ hr q
end
end SJ
set_option maxRecDepth 100000
set_option maxHeartbeats 4000000
/-! DG: dicts with the key (), calls with very values. -/
namespace SJ
open PySem PySem.Spec PyProof.Rows L2
section
variable {X : Cx} {Γ : List SD} {P : Po} {rest : List Stmt} {e oe ke : Expr} {d : PyData} {v w : V} {p a b0 C : Addr} {fs : List (Str × Fv)} {cs : List (Addr × Cell)} {x m : Str} {pos pos' : Pos} {k : Nat} {ι : Type} {Pre : ι → List SD → Prop} {out : ι → PyData} {ix : ι}
theorem unit_at {G H : Hp} {σ : L2.St} {i : Nat} (env : EnvD X.K G H Γ σ) (h : Γ[i]? = some (.st (.ref b0) [(b0, .tup [])])) : H b0 = some (.tup []) := by
  obtain ⟨o, z1, z2, z3⟩ := env.at_ i _ h
  obtain ⟨u, w1, ws, rfl, w2⟩ := z3 _ List.mem_cons_self
  cases w2
  exact env.s _ _ w1
theorem dt_at {G H : Hp} {σ : L2.St} {j n : Nat} (env : EnvD X.K G H Γ σ) (hc : cellAt Γ j n = some (a, .dt [([], .raw w)])) : H a = some (.dT [([], w)]) := by
  obtain ⟨u, h1, ws, rfl, q⟩ := env.cell hc
  cases q with
  | @cons p q ps qs r t =>
    cases t
    obtain ⟨pk, pv⟩ := p
    obtain ⟨r1, r2⟩ := r
    cases (show pk = [] from r1)
    cases (show pv = w from r2)
    exact h1
/-- d[()] -/
theorem re_dt (i j n : Nat) (he : RE X Γ e (.ref a)) (hk : RE X Γ ke (.ref b0)) (hi : Γ[i]? = some (.st (.ref b0) [(b0, .tup [])])) (hc : cellAt Γ j n = some (a, .dt [([], .raw w)])) (hu : X.A.units + 1 < cLine) (hs : NoSl ke := by exact fun _ _ => rfl) : RE X Γ (.Subscript e ke pos) w :=
  (pe_dget hu he hk hs).imp fun σ H Q ⟨G, env, q⟩ => ⟨G, env, fun G1 H1 g1 => ⟨G1, env.up g1, fun G2 H2 g2 => by
    have env2 := (env.up g1).up g2
    refine ⟨a, w, rfl, ?_, q G2 H2 (g1.trans g2)⟩
    have := DGet.t (k := []) (dt_at env2 hc) (unit_at env2 hi)
    exact this⟩⟩
/-- () not in d -/
theorem dt_dtnot (i j n : Nat) (he : RE X Γ e (.ref a)) (hk : RE X Γ ke (.ref b0)) (hi : Γ[i]? = some (.st (.ref b0) [(b0, .tup [])])) (hc : cellAt Γ j n = some (a, .dt [([], .raw w)])) (hu : X.A.units + 1 < cLine) (hm : behindInMarks .NotIn e = false := by first | rfl | exact nomark _) : DT X Γ (.Compare ke [.NotIn] [e] pos) false :=
  (pt_cmp (pc_dnotin hu hk he) hm).imp fun σ H Q ⟨G, env, q⟩ => ⟨G, env, fun G1 H1 g1 => ⟨G1, env.up g1, fun G2 H2 g2 => by
    have env2 := (env.up g1).up g2
    have := DGet.t (k := []) (dt_at env2 hc) (unit_at env2 hi)
    exact ⟨a, _, rfl, this, _, rfl, q G2 H2 (g1.trans g2)⟩⟩⟩
/-- o.m(y), y a very value, read only, fresh data back -/
theorem f_mcallR {call : Expr} (c0 : SD) (j n : Nat) (hp : PE X call (tMeth C m (SpF X.K Pre out) [] E0 (tR X.K Γ (.ref p)) (tCons (tR X.K Γ w) tNil))) (ha : ∀ a, ¬ c0.ad a) (h0 : ∀ G H σ, EnvD X.K G H Γ σ → ∃ Gt, Same G Gt ∧ Same Gt H ∧ SOk X.K Gt H c0 (some (.ref p))) (pre : Pre ix [c0, .raw w])
    (hc : cellAt Γ j n = some (p, .ins C fs)) (hm : fs.lookup m = none) (ho : out ix = d := by rfl) : FE X Γ call d :=
  ho ▸ hp.imp fun σ H Q ⟨G, env, k⟩ => ⟨G, env, fun G1 H1 g1 => by
    have env1 := env.up g1
    obtain ⟨dx, ws, z1, z2⟩ := recv env1 hc hm
    refine ⟨p, dx, ws, rfl, z1, z2, G1, env1, fun G2 H2 g2 => ?_⟩
    have env2 := env1.up g2
    obtain ⟨Gt, t1, t2, t3⟩ := h0 _ _ _ env2
    show SpF X.K Pre out (V.ref p :: ([w] ++ [])) H2 _ E0
    rw [List.append_nil]
    refine ⟨Gt, _, ix, pre, args_env (us := [w]) (Γx := [.raw w]) t2 t3 rfl (fun i c e => ?_) (fun i j c e a z1 _ w1 _ => ?_) (fun i c a e z => ?_), fun i c a e z => ?_, fun Gx H' r f => k Gx H' r (f.since (g1.h.trans g2.h))⟩
    · match i with
      | 0 => cases e; exact ⟨w, rfl, rfl⟩
      | i + 1 => cases e
    · match i with
      | 0 => cases z1; exact w1.elim
      | i + 1 => cases z1
    · match i with
      | 0 => cases e; exact z.elim
      | i + 1 => cases e
    · match i with
      | 0 => cases e; exact ha a z
      | 1 => cases e; exact z
      | i + 2 => cases e⟩
/-- x = e, a very value -/
theorem ds_setR (i : Nat) (h : RE X Γ e w) (hr : DS X (Γ.set i (.raw w)) rest P) (hN : X.N.Nodup) (hi : X.N[i]? = some x := by rfl) (hx : Loc X.env.scope x := by first | exact .inl rfl | exact .inr rfl)
    (hs : swapsWith e (some (.Name x pos')) pos.line X.env = pure false := by rfl) (hf : X.fn x = true ∨ X.env.scope.names.lookup x = some .local := by first | exact .inl rfl | exact .inr rfl) : DS X Γ (.Assign [.Name x pos'] e pos :: rest) P :=
  ds_seq (N := (· = Γ.set i (.raw w))) ((ps_set (i := i) hN hi hx h hs hf).imp fun D σ H ⟨G0, H0, G, s, k⟩ => ⟨G, s.env, fun G' H' g => k.nx G' H' _ _ rfl g.g ((s.up g).put i rfl fun _ (z : False) => z.elim)⟩) fun _ e => e ▸ hr
/-- things of one's own that came back -/
theorem St0.regain {K : PySem.W.Frag} {G0 H0 G H : Hp} {σ : L2.St} (s : St0 K G0 H0 G H Γ σ) {i : Nat} {c c' : SD} (hi : Γ[i]? = some c) (q : ∀ o, σ[i]? = some o → SOk K G H c' o) (ho : ∀ a, c'.ad a → H0 a = none ∧ ∀ (j : Nat) e, i ≠ j → Γ[j]? = some e → ¬ e.ad a) : St0 K G0 H0 G H (Γ.set i c') σ :=
  s.stepO hi c'.ad ho (Same.refl _) s.env.s (fun _ _ z _ => z) (fun _ _ _ _ z => z) (fun a z => .inr (.inl z)) fun o z _ => q o z
end
section
variable {X : Cx} {Γ : List SD} {P : Po} {rest : List Stmt} {call : Expr} {v : V} {p b0 t C : Addr} {fs : List (Str × Fv)} {d1 : PyData} {m : Str} {pos : Pos} {B csD : List (Addr × Cell)} {ι : Type} {Pre : ι → List SD → Prop} {Post : ι → List SD → SD → Prop} {ix : ι}
/-- o.m(path, e, y), y things of one's own that come back -/
theorem ds_mexpr3 (j i : Nat) (hp : PE X call (tMeth C m (SpG X.K Pre Post) [] E0 (tR X.K Γ (.ref p)) (tCons (tR X.K Γ (.ref b0)) (tCons (tD X.K Γ d1) (tCons (tR X.K Γ (.ref t)) tNil))))) (i1 : Nat) (h1 : Γ[i1]? = some (.st (.ref b0) [(b0, .tup [])])) (hj : Γ[j]? = some (.rg v B)) (hi : Γ[i]? = some (.rg (.ref t) csD)) (hne : j ≠ i)
    (hc : cellAt Γ j 0 = some (p, .ins C fs)) (hm : fs.lookup m = none) (pre : Pre ix [.rg (.ref p) B, .st (.ref b0) [(b0, .tup [])], .dat d1, .rg (.ref t) csD])
    (post : ∀ Γ' c, Post ix Γ' c → ∃ B', Γ'[0]? = some (.rg (.ref p) B') ∧ Γ'[3]? = some (.rg (.ref t) csD) ∧ DS X ((Γ.set i .un).set j (.rg v B') |>.set i (.rg (.ref t) csD)) rest P) (hs : swapsWith call none pos.line X.env = pure false := by rfl) : DS X Γ (.Expr call pos :: rest) P :=
  ds_seq (N := fun Γ' => DS X Γ' rest P) ((ps_expr hp hs).imp fun D σ H ⟨G0, H0, G, s, k⟩ => ⟨G, s.env, fun G1 H1 g1 => by
    have s1 := s.up g1
    obtain ⟨dx, ws, z1, z2⟩ := recv s1.env hc hm
    refine ⟨p, dx, ws, rfl, z1, z2, G1, s1.env, fun G2 H2 g2 => ⟨G2, s1.env.up g2, fun G3 H3 y g3 qy => ⟨G3, (s1.env.up g2).up g3, fun G4 H4 g4 => ?_⟩⟩⟩
    have s4 := ((s1.up g2).up g3).up g4
    show SpG X.K Pre Post (V.ref p :: ([.ref b0, y, .ref t] ++ [])) H4 _ E0
    rw [List.append_nil]
    obtain ⟨o, w1, w2⟩ := s4.env.at_ i _ hi
    have w3 := w2.1
    subst w3
    obtain ⟨o1, y1, y2, y3⟩ := s4.env.at_ i1 _ h1
    have s6 := s4.known (c' := .un) hi (fun _ z => z) fun _ _ _ => trivial
    have hj6 : (Γ.set i .un)[j]? = some (.rg v ([] ++ B)) := by rw [List.getElem?_set_ne (Ne.symm hne)]; exact hj
    have hi6 : ∀ B', ((Γ.set i .un).set j (.rg v ([] ++ B')))[i]? = some .un := fun B' => by
      rw [List.getElem?_set_ne hne, List.getElem?_set_self (List.getElem?_eq_some_iff.mp hi).1]
    refine s6.mcallX (us := [.ref b0, y, .ref t]) (Γx := [.st (.ref b0) [(b0, .tup [])], .dat d1, .rg (.ref t) csD]) hj6 rfl (fun n c e => ?_) (fun n n' c e a x1 x2 y1 y2 => ?_) (fun n c a e z => ?_) pre (fun Γ' c z => let ⟨B', h, _⟩ := post Γ' c z; ⟨B', h⟩) fun G' H' Γ' B' c r q hB sg st hq fr hx' => ?_
    · match n with
      | 0 => cases e; exact ⟨_, rfl, rfl, y3⟩
      | 1 => cases e; exact ⟨y, rfl, y, rfl, qy.up g4.g⟩
      | 2 => cases e; exact ⟨_, rfl, w2⟩
      | n + 3 => cases e
    · match n, n' with
      | 0, _ => cases x1; exact y1.elim
      | 1, _ => cases x1; exact y1.elim
      | 2, 0 => cases x2; exact y2.elim
      | 2, 1 => cases x2; exact y2.elim
      | 2, 2 => rfl
      | 2, n' + 3 => cases x2
      | n + 3, _ => cases x1
    · match n with
      | 0 => cases e; exact z.elim
      | 1 => cases e; exact z.elim
      | 2 =>
        cases e
        refine ⟨s4.nw i _ a hi z, fun n2 e2 en w => ?_⟩
        rcases set_at en with ⟨_, rfl⟩ | ⟨hn, en⟩
        · exact w
        · exact hn (s4.env.nd i n2 _ e2 a hi en z w)
      | n + 3 => cases e
    · obtain ⟨B2, hB2, h3, h4⟩ := post Γ' c q
      rw [hB] at hB2
      cases hB2
      obtain ⟨⟨o3, v1⟩, v2⟩ := hx' 2 _ h3
      refine k.nx G' H' _ _ h4 ((((g1.g.trans g2.g).trans g3.g).trans g4.g).trans sg) (st.regain (hi6 B') (fun o z => ?_) fun a z => ⟨(v2 a z).1, fun n e _ en => (v2 a z).2 n e en⟩)
      rw [w1] at z
      cases z
      obtain ⟨v3, v4⟩ := v1
      exact ⟨rfl, v4⟩⟩) fun _ h => h
end
end SJ
set_option maxRecDepth 100000
set_option maxHeartbeats 4000000
namespace SJ
open PySem PySem.Spec PyProof.Rows L2
section
variable {X : Cx} {Γ : List SD} {e : Expr} {pos p p2 q : Pos}
/-- a dict of numbers by numbers -/
def kvI (ps : List (Nat × Nat)) : List (Key × PyData) := ps.map fun q => (Sum.inl (q.1 : Int), PyData.int (q.2 : Nat))
def kvV (ps : List (Nat × Nat)) : List (Key × V) := ps.map fun q => (Sum.inl (q.1 : Int), V.int (q.2 : Nat))
def prD2 (q : Nat × Nat) : PyData := .tuple [.int (q.1 : Nat), .int (q.2 : Nat)]
theorem kv_VD {K : PySem.W.Frag} {G : Hp} : ∀ ps : List (Nat × Nat), KvD K G (kvV ps) (kvI ps)
  | [] => .nil
  | q :: ps => .cons ⟨rfl, .int _⟩ (kv_VD ps)
theorem valV_kvV {a : Nat} : ∀ {ps : List (Nat × Nat)}, (∀ q ∈ ps, q.1 ≠ a) → valV (kvV ps) (.inl (a : Int)) = none
  | [], _ => rfl
  | q :: ps, h => by
    have h1 : ¬ (Sum.inl (q.1 : Int) : Key) = Sum.inl (a : Int) := fun e => h q List.mem_cons_self (by have := Sum.inl.inj e; omega)
    show valV ((Sum.inl (q.1 : Int), V.int (q.2 : Nat)) :: kvV ps) _ = none
    rw [valV_neg h1]
    exact valV_kvV fun r m => h r (List.mem_cons_of_mem _ m)
theorem merge_kvV : ∀ (qs ps : List (Nat × Nat)), ((ps ++ qs).map (·.1)).Nodup → mergeK (kvV ps) (kvV qs) = kvV (ps ++ qs)
  | [], ps, _ => by rw [List.append_nil]; rfl
  | q :: qs, ps, h => by
    have hn : ∀ r ∈ ps, r.1 ≠ q.1 := fun r m e => by
      rw [List.map_append, List.nodup_append] at h
      exact h.2.2 r.1 (List.mem_map.mpr ⟨r, m, rfl⟩) q.1 (List.mem_map.mpr ⟨q, List.mem_cons_self, rfl⟩) e
    have e1 : putK (kvV ps) (Sum.inl (q.1 : Int)) (V.int (q.2 : Nat)) = kvV (ps ++ [q]) := by
      rw [putK_new _ (valV_kvV hn)]
      unfold kvV
      rw [List.map_append]
      rfl
    show mergeK (putK (kvV ps) (Sum.inl (q.1 : Int)) (V.int (q.2 : Nat))) (kvV qs) = _
    rw [e1, merge_kvV qs (ps ++ [q]) (by rw [List.append_assoc]; exact h), List.append_assoc]
    rfl
theorem pairs_of {K : PySem.W.Frag} {G H : Hp} (s : Same G H) : ∀ {xs : List V} {ps : List (Nat × Nat)}, DqAll K G xs (ps.map prD2) → ∃ as : List Addr, xs = as.map V.ref ∧ Paired (fun p kv => SqT K H p [kV kv.1, kv.2]) as (kvV ps)
  | _, [], h => by cases h; exact ⟨[], rfl, .nil⟩
  | _, q :: ps, h => by
    cases h with
    | cons h1 h2 =>
      obtain ⟨as, rfl, z⟩ := pairs_of s h2
      obtain ⟨a, ys, rfl, w1, w2⟩ := h1.tupE
      obtain ⟨v, u, rfl, x1, x2⟩ := two w2
      refine ⟨a :: as, rfl, .cons ?_ z⟩
      rw [x1.intE, x2.intE] at w1
      exact sqT_mono s w1
variable {P : Po} {rest : List Stmt} {pos' apos cpos cp2 np : Pos} {x : Str}
/-- x = dict(e), e tuples of two numbers -/
theorem ds_dictOf (i : Nat) {ps : List (Nat × Nat)} (hm : X.mg "dict" = none) (he : DE X Γ e (.list (ps.map prD2))) (hn : (ps.map (·.1)).Nodup) (hl : ps.length ≤ 60) (hr : ∀ l, DS X (Γ.set i (.md l (kvI ps))) rest P) (hN : X.N.Nodup) (hi : X.N[i]? = some x := by rfl) (hx : Loc X.env.scope x := by first | exact .inl rfl | exact .inr rfl) (hc : X.calm = true := by rfl) (hg : Gl X "dict" := by rfl)
    (hs0 : starEach [e] X.env = (false, eval e X.env) :: starEach [] X.env := by rfl) (hpl : (backTo cpos (starEach [] X.env)).any (·.1) = false := by rfl)
    (hs : swapsWith (.Call (.Name "dict" np) [e] [] cpos) (some (.Name x pos')) pos.line X.env = pure false := by rfl) (hf : X.fn x = true ∨ X.env.scope.names.lookup x = some .local := by first | exact .inl rfl | exact .inr rfl) : DS X Γ (.Assign [.Name x pos'] (.Call (.Name "dict" np) [e] [] cpos) pos :: rest) P :=
  ds_seq (N := fun Γ' => ∃ l, Γ' = Γ.set i (.md l (kvI ps))) ((ps_set (i := i) hN hi hx (pe_callTy (call_dictP hc) hg hm (by decide +kernel) (da_cons he da_nil hs0) (by decide) (by decide) hs0 hpl) hs hf).imp fun D σ H ⟨G0, H0, G, s, k⟩ => ⟨G, s.env, fun G1 H1 vs g1 q1 => by
    obtain ⟨v, rfl, qv⟩ := one q1
    obtain ⟨a, xs, rfl, h1, hx⟩ := qv.listE
    obtain ⟨as, rfl, hp⟩ := pairs_of g1.s hx
    have s1 := s.up g1
    refine ⟨a, as, kvV ps, rfl, g1.s.seq h1, hp, fun l hl0 => ?_⟩
    rw [show ([] : List (Key × V)) = kvV [] from rfl, merge_kvV ps [] hn]
    exact k.nx G1 _ _ _ ⟨l, rfl⟩ g1.g (s1.mkA i hl0 (fun _ z => z) fun hG => ⟨rfl, hG, _, upd_same, kv_VD _⟩)⟩) fun _ ⟨l, e⟩ => e ▸ hr l
/-- if x.setdefault(k, v) != v: .. -/
theorem ds_ifSetd (i : Nat) {l : Addr} {kvs : List (Key × PyData)} {ke ve we : Expr} {a : List Stmt} {k v : Int} (hk : DE X Γ ke (.int k)) (hv : DE X Γ ve (.int v)) (hw : ∀ c, DE X (Γ.set i c) we (.int v)) (hu : X.A.units + 1 < cLine)
    (h1 : getD kvs (.inl k) = some (.int v) → DS X Γ rest P) (h2 : ∀ v', getD kvs (.inl k) = some (.int v') → v' ≠ v → DS X Γ a { P with nx := fun Γ' => DS X Γ' rest P }) (h3 : getD kvs (.inl k) = none → DS X (Γ.set i (.md l (kvs ++ [(.inl k, .int v)]))) rest P) (hd : ∀ d, getD kvs (.inl k) = some d → ∃ v', d = .int v')
    (hΓ : Γ[i]? = some (.md l kvs)) (hi : X.N[i]? = some x) (hz : kvs.length < 100000) (m : M2 X (.Name x np) "setdefault" apos ke ve cpos)
    (hvv : Vis X.env.scope x := by first | exact Or.inl rfl | exact Or.inr (Or.inl rfl) | exact Or.inr (Or.inr rfl)) (hd1 : (x == ("__debug__" : Str)) = false := by decide) (hd2 : (x == ("__classdict__" : Str)) = false := by decide) (hm : behindInMarks .NotEq we = false := by first | rfl | exact nomark _) :
    DS X Γ (.If (.Compare (.Call (.Attribute (.Name x np) "setdefault" apos) [ke, ve] [] cpos) [.NotEq] [we] cp2) a [] pos :: rest) P := by
  have hΓs : Γ.set i (.md l kvs) = Γ := by
    refine List.ext_getElem? fun n => ?_
    by_cases h : i = n
    · subst h
      rw [List.getElem?_set_self (List.getElem?_eq_some_iff.mp hΓ).1, hΓ]
    · rw [List.getElem?_set_ne h]
  refine ds_seq (N := fun Γ' => DS X Γ' rest P) ((ps_if (pt_cmpR op_ne (pe_dsetd (pe_var (i := i) hi hvv hd1 hd2) hk hv m) (PE.ex (R := fun c => DE X (Γ.set i c) we (.int v)) (t := fun c => tD X.K (Γ.set i c) (.int v)) fun _ h => h) hm) (pss_blk (sts := a)) (pss_blk (sts := []))).imp fun D σ H ⟨G0, H0, G, s, kk⟩ => ?_) fun _ h => h
  obtain ⟨o, e1, e2, hG, ws, hH, ha⟩ := s.env.at_ i _ hΓ
  subst e2
  refine ⟨_, e1, l, rfl, .inl ⟨ws, .inl hH⟩, G, s.env, fun G1 H1 y g1 qy => ⟨G1, s.env.up g1, fun G2 H2 z g2 qz => ?_⟩⟩
  have s2 := (s.up g1).up g2
  have hH2 := (g1.trans g2).h _ _ hH
  have hG2 := (g1.trans g2).fr _ _ hH hG
  have ha2 := KvD.up ha (g1.g.trans g2.g)
  have ey := (show Dq X.K G1 y (kD (.inl k)) from qy)
  refine ⟨ws, .inl k, hH2, kd_V (k := .inl k) ey, by rw [ha2.len]; exact Nat.lt_of_lt_of_le hz (by decide), fun y' hy => ?_, fun hy => ?_⟩
  · rcases ha2.get (k := .inl k) with z1 | ⟨y2, d2, z1, z2, z3⟩
    · rw [z1.1] at hy
      cases hy
    · rw [z1] at hy
      cases hy
      obtain ⟨v', rfl⟩ := hd d2 z2
      have := z3.intE
      subst this
      refine ⟨.md l kvs, hw _, G2, by rw [hΓs]; exact s2.env, fun G3 H3 u g3 qu => ?_⟩
      have := qu.intE
      subst this
      refine ⟨rfl, _, rfl, ?_⟩
      by_cases e : v' = v
      · subst e
        rw [decide_eq_true rfl]
        refine iteF ⟨(Γ, { P with nx := fun Γ' => DS X Γ' rest P }), ds_nil (h1 z2), G0, H0, G3, s2.up g3, kk.up ((g1.g.trans g2.g).trans g3.g)⟩
      · rw [decide_eq_false (fun z => e (V.int.inj z))]
        exact iteT ⟨(Γ, { P with nx := fun Γ' => DS X Γ' rest P }), h2 v' z2 e, G0, H0, G3, s2.up g3, kk.up ((g1.g.trans g2.g).trans g3.g)⟩
  · have hnone : getD kvs (.inl k) = none := by
      rcases ha2.get (k := .inl k) with z1 | ⟨y2, d2, z1, z2, z3⟩
      · exact z1.2
      · rw [z1] at hy
        cases hy
    have s3 := s2.mut (o := .dK (putK ws (.inl k) z)) (c' := .md l (kvs ++ [(.inl k, .int v)])) hΓ rfl (fun _ z => z) hG2 e1 ⟨rfl, hG2, _, upd_same, by rw [putK_new z hy]; exact ha2.snoc qz⟩
    have ez := qz.intE
    subst ez
    refine ⟨.md l (kvs ++ [(.inl k, .int v)]), hw _, G2, s3.env, fun G3 H3 u g3 qu => ?_⟩
    have := qu.intE
    subst this
    refine ⟨rfl, _, rfl, ?_⟩
    rw [decide_eq_true rfl]
    exact iteF ⟨(Γ.set i (.md l (kvs ++ [(.inl k, .int v)])), { P with nx := fun Γ' => DS X Γ' rest P }), ds_nil (h3 hnone), G0, H0, G3, s3.up g3, kk.up ((g1.g.trans g2.g).trans g3.g)⟩
end
end SJ
set_option maxRecDepth 100000
set_option maxHeartbeats 4000000
/-! S1: sorted(set(ints)), sorted(x.items()), sorted(set(pairs)). -/
namespace SJ
open PySem PySem.Spec PyProof.Rows L2
section
variable {X : Cx} {Γ : List SD} {e : Expr} {pos p p2 q : Pos}
/-- sorted(set(e)), ints -/
theorem f_sortedSetI {ns ms : List Int} (hm : X.mg "sorted" = none) (hm2 : X.mg "set" = none) (he : DE X Γ e (.list (ns.map PyData.int))) (hl : ns.length ≤ 62) (h : ∀ ms' : List Int, ms'.Pairwise (· < ·) → (∀ x, x ∈ ms' ↔ x ∈ ns) → ms' = ms) (hc : X.calm = true := by rfl) (hg : Gl X "sorted" := by rfl) (hg2 : Gl X "set" := by rfl)
    (hs : starEach [e] X.env = (false, eval e X.env) :: starEach [] X.env := by rfl) (hs2 : starEach [.Call (.Name "set" p2) [e] [] q] X.env = (false, eval (.Call (.Name "set" p2) [e] [] q) X.env) :: starEach [] X.env := by rfl) (hpl : (backTo pos (starEach [] X.env)).any (·.1) = false := by rfl) (hpl2 : (backTo q (starEach [] X.env)).any (·.1) = false := by rfl) :
    FE X Γ (.Call (.Name "sorted" p) [.Call (.Name "set" p2) [e] [] q] [] pos) (.list (ms.map PyData.int)) :=
  (pe_callB (cr_sortedSet hc) hg hm (by decide +kernel) (pa_cons (pe_callTy (cr_setI hc) hg2 hm2 (by decide +kernel) (da_cons he da_nil hs) (by decide) (by decide) hs hpl2) pa_nil hs2) (by decide) (by decide) hs2 hpl).imp fun σ H Q ⟨G, env, k⟩ => ⟨G, env, fun G1 H1 vs g1 q1 => by
    obtain ⟨v, rfl, qv⟩ := one q1
    obtain ⟨l, xs, rfl, h1, hx⟩ := qv.listE
    cases hx.ints
    refine ⟨l, ns, rfl, g1.s.seq h1, by omega, fun a c hcn ha => ⟨a, _, c, rfl, upd_same, by omega, fun ms' p h1 h2 h3 hp => ?_⟩⟩
    rw [h ms' h1 fun x => (h2 x).trans (by simp)]
    have ga : Gr G1 H1 G1 (upd H1 a (SetO X.w a (fun j => decide (j ∈ ns)) c)) := Gr.tmp g1.s ha
    exact k _ _ _ ((fr_lst hp (DqAll.ofInts ms)).since (g1.h.trans ga.h))⟩
end
end SJ
namespace L2
open PySem PySem.Spec PyProof.Rows SJ
section
variable {X : Cx}
/-- x.items() -/
def rItemsK : V → List V → Hp → VK → Prop := fun x xs H Q => ∃ (a : Addr) (kvs : List (Key × V)), x = .ref a ∧ xs = [] ∧ H a = some (.dK kvs) ∧ ∀ p, H p = none → Q (.ref p) (upd H p (DX.itemsO p a))
theorem mt_itemsK : MtR X "dict.items" rItemsK := by
  intro pins s σ H x xs v us Q I rx rxs ⟨a, kvs, e1, e2, ha, q⟩
  subst e1 e2
  cases rx
  cases rxs
  obtain ⟨_, lo, _, _, ob, es, ep, ho, hx, hd, _⟩ := dk_of I.hok ha
  have new : ObjOk X.prog X.w (upd H s.heap.objs.size (DX.itemsO s.heap.objs.size a)) (s.heap.push { cls := .type "dict_items", data := .fields #[.ref a] }) s.heap.objs.size (DX.itemsO s.heap.objs.size a) := DX.itemsO_ok (Heap.get?_push_size _ rfl)
  exact DT.callItems lo ⟨ob, ho, hx, hd⟩ ⟨.ref _, _, I.laid (t' := s.toks) (fun b u z => Heap.get?_push_of_some _ z) (Nat.le_refl _) new, rfl, q _ (I.hok.fresh (Nat.le_refl _))⟩
theorem pairs_get {P : Program} {w : World} {es : List DictEntry} {vs : List (Key × Value)} (h : Pairs (mixKind P w) es vs) : ∀ {i : Nat} {k : Key} {u : Value}, vs[i]? = some (k, u) → ∃ en, es[i]? = some en ∧ keyIs k en.key = true ∧ en.val = u := by
  induction h with
  | nil => intro i k u z; simp at z
  | cons h1 h2 _ ih =>
    intro i k u z
    cases i with
    | zero => simp at z; subst z; exact ⟨_, rfl, h1, h2⟩
    | succ i =>
      obtain ⟨en, z1, z2⟩ := ih (by simpa using z)
      exact ⟨en, by simpa using z1, z2⟩
abbrev num2 (q : Nat × Nat) : List Int := [(q.1 : Int), (q.2 : Int)]
/-- sorted(the items) -/
def rSortII : List V → Hp → VK → Prop := fun vs H Q => ∃ (p a : Addr) (ps : List (Nat × Nat)) (B : Int), vs = [.ref p] ∧ H p = some (DX.itemsO p a) ∧ H a = some (.dK (kvV ps)) ∧ ps.length < 64 ∧ (∀ q ∈ ps, TS.Bd B (num2 q)) ∧
  ∀ (H' : Hp) (l : Addr) (L : List (Addr × (Nat × Nat))), (∀ b o, H b = some o → H' b = some o) → (L.map (·.2)).Perm ps → (L.map (·.2)).Pairwise (fun x y => TS.code B (num2 x) ≤ TS.code B (num2 y)) → (L.map (·.1)).Nodup → H l = none → H' l = some (.lst (L.map fun z => V.ref z.1)) →
    (∀ z ∈ L, H z.1 = none ∧ H' z.1 = some (.tup [.int (z.2.1 : Nat), .int (z.2.2 : Nat)])) → Q (.ref l) H'
theorem cr_sortII (hc : X.calm = true) : CallR X (.builtin "sorted") rSortII := by
  intro pins s σ H xs us Q I r ⟨p, a, ps, B, e1, hp, ha, h64, hB, q⟩
  subst e1
  obtain rfl := Vals.ref1 r
  have view : s.heap.IsItemsView p a := (show ObjOk X.prog X.w H s.heap p (DX.itemsO p a) from I.hok p _ hp).1
  obtain ⟨_, lo, vs, rel, ob, es, ep, ho, hx, hd, hkeys, hpairs, hn⟩ := dk_of I.hok ha
  have lvs : vs.length = ps.length := by
    have := (Paired.length rel).symm
    unfold kvV at this
    rwa [List.length_map] at this
  have les : es.size = ps.length := by
    have := hpairs.length
    rw [Array.length_toList] at this
    omega
  -- an entry is two ints
  have ent : ∀ (i : Nat) q, ps[i]? = some q → ∃ en t1 t2, es[i]? = some en ∧ en.key = .int (q.1 : Nat) t1 ∧ en.val = .int (q.2 : Nat) t2 := fun i q hq => by
    obtain ⟨u, z1, z2⟩ := kv_get rel (i := i) (k := Sum.inl (q.1 : Int)) (v := V.int (q.2 : Nat)) (by unfold kvV; rw [List.getElem?_map, hq]; rfl)
    obtain ⟨en, z3, z4, z5⟩ := pairs_get hpairs z1
    obtain ⟨t2, z2⟩ := z2
    rcases keyIs_shape z4 with ⟨j, t1, y1, y2⟩ | ⟨_, _, y1, _⟩
    · cases y1
      exact ⟨en, t1, t2, by rw [← Array.getElem?_toList]; exact z3, y2, z5.trans z2⟩
    · cases y1
  refine DT.sortedI (es := es) (ep := ep) (I.ok.hd hc) view ⟨ob, ho, hx, hd⟩ (by rw [sizeLine_eq]; omega) fun h' tk as hk hlt hl hG => ?_
  have lap : as.length = ps.length := hl.trans les
  have nd : as.Nodup := List.Pairwise.imp (fun h => Nat.ne_of_lt h) hG.rise
  -- the tuples that were made
  have pr : ∀ (j : Nat) (b : Addr), as[j]? = some b → ∃ q t1 t2, ps[j]? = some q ∧ h'.get? b = some { cls := .type "tuple", data := .seq #[Value.int (q.1 : Nat) t1, Value.int (q.2 : Nat) t2] } := fun j b hj => by
    have hjl : j < ps.length := by rw [← lap]; exact (List.getElem?_eq_some_iff.mp hj).1
    obtain ⟨en, he, hg⟩ := hG.pairs j b hj
    obtain ⟨en2, t1, t2, z1, z2, z3⟩ := ent j ps[j] (List.getElem?_eq_getElem hjl)
    rw [z1] at he
    cases he
    rw [z2, z3] at hg
    exact ⟨_, t1, t2, List.getElem?_eq_getElem hjl, hg⟩
  have hob : (h'.push { cls := .type "list", data := .seq (as.map Value.ref).toArray }).get? h'.objs.size = some (seqObj "list" (as.map Value.ref).toArray 0) := Heap.get?_push_size _ rfl
  have up : ∀ b o, h'.get? b = some o → (h'.push { cls := .type "list", data := .seq (as.map Value.ref).toArray }).get? b = some o := fun b o e => Heap.get?_push_of_some _ e
  generalize h'.push { cls := .type "list", data := .seq (as.map Value.ref).toArray } = h2 at hob up ⊢
  have ne0 : ∀ b o, h'.get? b = some o → b ≠ h'.objs.size := fun b o e => Nat.ne_of_lt (Heap.lt_size e)
  have ti : ∀ (j : Nat) (b : Addr), as[j]? = some b → ∃ q, ps[j]? = some q ∧ TS.TupInts h2 (.ref b) (num2 q) := fun j b hj => by
    obtain ⟨q, t1, t2, hq, hg⟩ := pr j b hj
    exact ⟨q, hq, b, _, rfl, ⟨_, up _ _ hg, rfl, 0, rfl⟩, .cons _ t1 (.cons _ t2 .nil)⟩
  refine TS.call_sort_tups (s := { s with heap := h2, toks := tk }) (d := 2) (B := B) hob (by rw [List.length_map]; omega) (by decide) (fun v hv => ?_) fun out o1 o2 => ?_
  · obtain ⟨b, mb, rfl⟩ := List.mem_map.mp hv
    obtain ⟨j, hj⟩ := List.mem_iff_getElem?.mp mb
    obtain ⟨q, hq, t⟩ := ti j b hj
    exact ⟨_, t, rfl, hB q (List.mem_of_getElem? hq)⟩
  · -- the sorted addresses, each with its pair
    obtain ⟨L, pL, eL⟩ := perm_lift (fun z : Addr × (Nat × Nat) => Value.ref z.1) o1 (as.zip ps) (by
      show (as.zip ps).map (Value.ref ∘ Prod.fst) = _
      rw [← List.map_map, List.map_fst_zip (by omega)])
    have idx : ∀ z ∈ L, ∃ j : Nat, as[j]? = some z.1 ∧ ps[j]? = some z.2 := fun z hz => by
      obtain ⟨j, hj⟩ := List.mem_iff_getElem?.mp (pL.mem_iff.mp hz)
      exact ⟨j, List.getElem?_zip_eq_some.mp hj⟩
    have code_ : ∀ z ∈ L, TS.intsOf h2 (.ref z.1) = num2 z.2 := fun z hz => by
      obtain ⟨j, j1, j2⟩ := idx z hz
      obtain ⟨q, hq, t⟩ := ti j z.1 j1
      rw [j2] at hq
      cases hq
      exact t.ints
    have p2 : (L.map (·.2)).Perm ps := by
      have := pL.map (·.2)
      rwa [List.map_snd_zip (by omega)] at this
    have p1 : (L.map (·.1)).Perm as := by
      have := pL.map (·.1)
      rwa [List.map_fst_zip (by omega)] at this
    have srt : (L.map (·.2)).Pairwise (fun x y => TS.code B (num2 x) ≤ TS.code B (num2 y)) := by
      rw [← eL, List.pairwise_map] at o2
      rw [List.pairwise_map]
      refine List.Pairwise.imp_of_mem (fun {x y} hx hy h => ?_) o2
      have h3 : TS.code B (TS.intsOf h2 (.ref x.1)) ≤ TS.code B (TS.intsOf h2 (.ref y.1)) := h
      rwa [code_ x hx, code_ y hy] at h3
    have kF : ∀ b o, b ≠ h'.objs.size → h2.get? b = some o → (sortedHeap h2 h'.objs.size (as.map Value.ref) out).get? b = some o := fun b o hb e => (PyProof.Rows.sortedHeap_old hb (Heap.lt_size e)).trans e
    obtain ⟨eF, heF⟩ := PyProof.Rows.sortedHeap_at (vs := as.map Value.ref) (out := out) hob
    have I1 : Inv X pins σ H { s with heap := sortedHeap h2 h'.objs.size (as.map Value.ref) out, toks := tk } := I.kept (t' := tk) fun b o e => kF b o (ne0 _ _ (hk b o e)) (up _ _ (hk b o e))
    have hn0 : H h'.objs.size = none := I.hok.fresh (Nat.le_of_lt hlt)
    have hlen : (L.map fun z => V.ref z.1).length ≤ sizeLine := by
      have := p2.length_eq
      rw [List.length_map] at this
      rw [List.length_map, sizeLine_eq]
      omega
    have rv : Vals (L.map fun z => V.ref z.1) out.toList := by
      rw [← eL]
      exact vals_maps (fun z : Addr × (Nat × Nat) => V.ref z.1) (fun z => Value.ref z.1) L fun _ _ => rfl
    have I2 := I1.take (h' := sortedHeap h2 h'.objs.size (as.map Value.ref) out) (t' := tk) (it := h'.objs.size) (o := .lst (L.map fun z => V.ref z.1)) (fun b ob _ e => e) (I.fpOk (Nat.le_of_lt hlt) hn0) ⟨hlen, out.toList, eF, rv, heF⟩
    obtain ⟨H2, I3, g, qt⟩ := DX.takeT (P := fun b vs => ∃ (j : Nat) (q : Nat × Nat), as[j]? = some b ∧ ps[j]? = some q ∧ vs = [.int (q.1 : Nat), .int (q.2 : Nat)]) I as _ I2 nd fun b hb => by
      obtain ⟨j, hj⟩ := List.mem_iff_getElem?.mp hb
      obtain ⟨q, t1, t2, hq, hg⟩ := pr j b hj
      have hbl : s.heap.objs.size ≤ b := Nat.le_of_lt (hG.above b hb)
      exact ⟨hbl, by rw [upd_ne (ne0 _ _ hg)]; exact I.hok.fresh hbl, _, ⟨j, q, hj, hq, rfl⟩, fun H3 => ⟨by rw [sizeLine_eq]; show 2 ≤ 16777216; omega, _, .cons ⟨t1, rfl⟩ (.cons ⟨t2, rfl⟩ .nil), ⟨_, kF _ _ (ne0 _ _ hg) (up _ _ hg), rfl, 0, rfl⟩⟩⟩
    refine ⟨.ref h'.objs.size, H2, I3, rfl, q H2 _ L (fun b o e => g b o (by rw [upd_ne (ne_of_none e hn0)]; exact e)) p2 srt ((p1.nodup_iff).mpr nd) hn0 (g _ _ upd_same) fun z hz => ?_⟩
    obtain ⟨i, i1, i2⟩ := idx z hz
    obtain ⟨vs2, ⟨j, q2, j1, j2, rfl⟩, hH⟩ := qt z.1 (List.mem_of_getElem? i1)
    have eij : i = j := nd_ix nd i1 j1
    subst eij
    rw [i2] at j2
    cases j2
    exact ⟨I.hok.fresh (Nat.le_of_lt (hG.above _ (List.mem_of_getElem? i1))), hH⟩
end
end L2
namespace L2
open PySem PySem.Spec PyProof.Rows
section
variable {X : Cx} {o : Expr} {td : TE} {apos cpos : Pos}
def tItemsK (td : TE) : TE := fun σ H Q => td σ H fun x H1 => ∃ (a : Addr) (kvs : List (Key × V)), x = .ref a ∧ H1 a = some (.dK kvs) ∧ ∀ p, H1 p = none → Q (.ref p) (upd H1 p (DX.itemsO p a))
theorem pe_itemsK (ho : PE X o td) (hbase : attributeBase o "items" X.env (eval o X.env) = eval o X.env := by rfl) (hline : (apos.endLine == cpos.line) = true := by rfl) : PE X (.Call (.Attribute o "items" apos) [] [] cpos) (tItemsK td) := by
  refine ⟨fun pins s σ H Q I h => wpAny_Call_method0_late hbase hline (thn (ho.run pins s σ H _ I h) fun v s1 ⟨x, H1, I1, r1, a, kvs, ex, ha, q1⟩ => ?_)⟩
  subst ex
  obtain rfl : v = Value.ref a := r1
  obtain ⟨t1, t2, _⟩ := isD_at I1 (.inl ⟨kvs, .inl ha⟩)
  exact ⟨"dict", "dict.items", PySem.F.plainAttrs_dict, PySem.F.slot_dict_items, PySem.F.type_dict_items, t1, t2, Calls.callWith_builtin rfl (PySem.evalArgs_none (mt_itemsK pins s1 σ H1 (V.ref a) [] _ [] Q I1 (show RelV (V.ref a) (Value.ref a) from rfl) .nil ⟨a, kvs, rfl, rfl, ha, q1⟩))⟩
end
end L2
namespace SJ
open PySem PySem.Spec PyProof.Rows L2
section
variable {X : Cx} {Γ : List SD} {e : Expr} {pos p p2 q cpos apos np : Pos} {x : Str}
theorem bound2 : ∀ ps : List (Nat × Nat), ∃ B : Int, ∀ q ∈ ps, TS.Bd B (num2 q)
  | [] => ⟨0, fun _ m => by cases m⟩
  | r :: ps => by
    obtain ⟨B, h⟩ := bound2 ps
    refine ⟨max B (max (r.1 + 1) (r.2 + 1)), fun q m => ?_⟩
    rcases List.mem_cons.mp m with rfl | m
    · intro y hy
      rcases List.mem_cons.mp hy with rfl | hy
      · omega
      · rw [List.mem_singleton.mp hy]
        omega
    · intro y hy
      have := h q m y hy
      omega
open Classical in
theorem onlyO (H : Hp) (O : Addr → Prop) : ∃ Gx : Hp, Same Gx H ∧ (∀ a o, O a → H a = some o → Gx a = some o) ∧ ∀ a o, Gx a = some o → O a := by
  refine ⟨hole H fun a => ¬ O a, fun a o z => (hole_some z).2, fun a o m z => ?_, fun a o z => Classical.not_not.mp (hole_some z).1⟩
  rw [hole_out (fun n => n m)]
  exact z
/-- the tuples of a list, each with its numbers -/
theorem pairs_ks {K : PySem.W.Frag} {G : Hp} : ∀ {xs : List V} {ps : List (Nat × Nat)}, DqAll K G xs (ps.map prD2) → ∃ ks : List (Addr × List Int), xs = (ks.map fun z => V.ref z.1) ∧ ks.map (·.2) = ps.map num2 ∧ ∀ z ∈ ks, SqT K G z.1 (z.2.map V.int)
  | _, [], h => by cases h; exact ⟨[], rfl, rfl, fun _ m => by cases m⟩
  | _, q :: ps, h => by
    cases h with
    | cons h1 h2 =>
      obtain ⟨ks, rfl, e, z⟩ := pairs_ks h2
      obtain ⟨a, ys, rfl, w1, w2⟩ := h1.tupE
      obtain ⟨v, u, rfl, x1, x2⟩ := two w2
      rw [x1.intE, x2.intE] at w1
      refine ⟨(a, num2 q) :: ks, rfl, by rw [List.map_cons, List.map_cons, e], fun y m => ?_⟩
      rcases List.mem_cons.mp m with rfl | m
      · exact w1
      · exact z y m
/-- sorted(x.items()) -/
theorem f_sortedItems (i : Nat) {l : Addr} {ps ms : List (Nat × Nat)} (hm : X.mg "sorted" = none) (hn : (ps.map (·.1)).Nodup) (hl : ps.length ≤ 62) (h : ∀ ms' : List (Nat × Nat), ms'.Perm ps → ms'.Pairwise (fun a b => a.1 < b.1) → ms' = ms) (hΓ : Γ[i]? = some (.md l (kvI ps)) := by rfl) (hi : X.N[i]? = some x := by rfl) (hc : X.calm = true := by rfl) (hg : Gl X "sorted" := by rfl)
    (hv : Vis X.env.scope x := by first | exact Or.inl rfl | exact Or.inr (Or.inl rfl) | exact Or.inr (Or.inr rfl)) (hd1 : (x == ("__debug__" : Str)) = false := by decide) (hd2 : (x == ("__classdict__" : Str)) = false := by decide)
    (hbase : attributeBase (.Name x np) "items" X.env (eval (.Name x np) X.env) = eval (.Name x np) X.env := by rfl) (hline : (apos.endLine == cpos.line) = true := by rfl)
    (hs : starEach [.Call (.Attribute (.Name x np) "items" apos) [] [] cpos] X.env = (false, eval (.Call (.Attribute (.Name x np) "items" apos) [] [] cpos) X.env) :: starEach [] X.env := by rfl) (hpl : (backTo pos (starEach [] X.env)).any (·.1) = false := by rfl) :
    FE X Γ (.Call (.Name "sorted" p) [.Call (.Attribute (.Name x np) "items" apos) [] [] cpos] [] pos) (.list (ms.map prD2)) :=
  (pe_callB (cr_sortII hc) hg hm (by decide +kernel) (pa_cons (pe_itemsK (pe_var (i := i) hi hv hd1 hd2) hbase hline) pa_nil hs) (by decide) (by decide) hs hpl).imp fun σ H Q ⟨G, env, k⟩ => by
    obtain ⟨o, e1, e2, hG, ws, hH, ha⟩ := env.at_ i _ hΓ
    subst e2
    have hws : ws = kvV ps := by
      have kv : ∀ {ws : List (Key × V)} {ps : List (Nat × Nat)}, KvD X.K G ws (kvI ps) → ws = kvV ps := fun {ws ps} z => by
        induction ps generalizing ws with
        | nil => cases z; rfl
        | cons q ps ih =>
          cases z with
          | @cons p0 q0 ps0 qs0 r t =>
            obtain ⟨pk, pv⟩ := p0
            obtain ⟨r1, r2⟩ := r
            cases (show pk = Sum.inl (q.1 : Int) from r1)
            have r3 := Dq.intE (show Dq X.K G pv (.int (q.2 : Nat)) from r2)
            subst r3
            show _ = (Sum.inl (q.1 : Int), V.int (q.2 : Nat)) :: kvV ps
            rw [ih t]
      exact kv ha
    subst hws
    obtain ⟨B, hB⟩ := bound2 ps
    refine ⟨_, e1, l, kvV ps, rfl, hH, fun p hp => ⟨p, l, ps, B, rfl, upd_same, by rw [upd_ne (ne_of_none hH hp)]; exact hH, by omega, hB, fun H' r L g p2 srt nd hr0 hr hz => ?_⟩⟩
    have hms : L.map (·.2) = ms := by
      refine h _ p2 ?_
      have keys : ((L.map (·.2)).map (·.1)).Nodup := ((p2.map (·.1)).nodup_iff).mpr hn
      refine (List.pairwise_map.mp keys |>.and srt).imp_of_mem fun {a b} ma mb z => ?_
      have b1 := hB a (p2.mem_iff.mp ma)
      have b2 := hB b (p2.mem_iff.mp mb)
      have := code_first b1 b2 z.2
      have ne := z.1
      omega
    have hh : Same H H' := fun a o z => g a o (by rw [upd_ne (ne_of_none z hp)]; exact z)
    have free_ : ∀ {a}, upd H p (DX.itemsO p l) a = none → H a = none := fun {a} z => by
      cases q : H a with
      | none => rfl
      | some u =>
        rw [upd_ne (ne_of_none q hp), q] at z
        cases z
    -- the new things
    obtain ⟨Gx, x2, x3, x4⟩ := onlyO H' fun a => a = r ∨ a ∈ L.map (·.1)
    have fresh : ∀ a, (a = r ∨ a ∈ L.map (·.1)) → H a = none := fun a z => by
      rcases z with rfl | m
      · exact free_ hr0
      · obtain ⟨z, mz, rfl⟩ := List.mem_map.mp m
        exact free_ (hz z mz).1
    refine k Gx H' (.ref r) ⟨⟨fun _ _ z => (nomatch z), hh, x2, fun a o z _ => ?_⟩, .lst (x3 _ _ (.inl rfl) hr) ?_⟩
    · cases q : Gx a with
      | none => rfl
      | some u =>
        have := fresh a (x4 a u q)
        rw [z] at this
        cases this
    · rw [← hms]
      have all : ∀ L2 : List (Addr × (Nat × Nat)), (∀ z ∈ L2, z ∈ L) → DqAll X.K Gx (L2.map fun z => V.ref z.1) ((L2.map (·.2)).map prD2) := fun L2 hs => by
        induction L2 with
        | nil => exact .nil
        | cons z L2 ih =>
          have mz := hs z List.mem_cons_self
          exact .cons (.tup (.inl (.inl (x3 _ _ (.inr (List.mem_map.mpr ⟨z, mz, rfl⟩)) (hz z mz).2))) (.cons (.int _) (.cons (.int _) .nil))) (ih fun y m => hs y (List.mem_cons_of_mem _ m))
      exact all L fun _ m => m
/-- sorted(set(e)), e tuples of two numbers -/
theorem d_sortedSetP {ps ms : List (Nat × Nat)} (hm : X.mg "sorted" = none) (hm2 : X.mg "set" = none) (he : DE X Γ e (.list (ps.map prD2))) (hl : ps.length ≤ 62) (hu : X.A.units + 64 < cLine) (h : ∀ ms' : List (Nat × Nat), ms'.Nodup → (∀ q, q ∈ ms' ↔ q ∈ ps) → ms'.Pairwise (fun a b => a.1 < b.1 ∨ (a.1 = b.1 ∧ a.2 ≤ b.2)) → ms' = ms) (hc : X.calm = true := by rfl) (hg : Gl X "sorted" := by rfl) (hg2 : Gl X "set" := by rfl)
    (hs : starEach [e] X.env = (false, eval e X.env) :: starEach [] X.env := by rfl) (hs2 : starEach [.Call (.Name "set" p2) [e] [] q] X.env = (false, eval (.Call (.Name "set" p2) [e] [] q) X.env) :: starEach [] X.env := by rfl) (hpl : (backTo pos (starEach [] X.env)).any (·.1) = false := by rfl) (hpl2 : (backTo q (starEach [] X.env)).any (·.1) = false := by rfl) :
    DE X Γ (.Call (.Name "sorted" p) [.Call (.Name "set" p2) [e] [] q] [] pos) (.list (ms.map prD2)) :=
  (pe_callB (cr_sortedT hc) hg hm (by decide +kernel) (pa_cons (pe_callTy (cr_setOfT hc hu) hg2 hm2 (by decide +kernel) (da_cons he da_nil hs) (by decide) (by decide) hs hpl2) pa_nil hs2) (by decide) (by decide) hs2 hpl).imp fun σ H Q ⟨G, env, k⟩ => ⟨G, env, fun G1 H1 vs g1 q1 => by
    obtain ⟨v, rfl, qv⟩ := one q1
    obtain ⟨l, xs, rfl, h1, hx⟩ := qv.listE
    obtain ⟨ks, k1, k2, k3⟩ := pairs_ks hx
    obtain ⟨B, hB⟩ := bound2 ps
    refine ⟨l, ks, rfl, by rw [← k1]; exact g1.s.seq h1, fun z m => sqT_mono g1.s (k3 z m), by have := congrArg List.length k2; rw [List.length_map, List.length_map] at this; omega, fun a L ha s1 s2 => ?_⟩
    have ga : Gr G1 H1 G1 (upd H1 a (SetTO X.prog X.w a L)) := Gr.tmp g1.s ha
    have enc : ∀ z ∈ L, ∃ q ∈ ps, z.2 = num2 q := fun z m => by
      have : z.2 ∈ ps.map num2 := k2 ▸ List.mem_map.mpr ⟨z, s1 z m, rfl⟩
      obtain ⟨q, mq, e⟩ := List.mem_map.mp this
      exact ⟨q, mq, e.symm⟩
    refine ⟨a, L, 2, B, rfl, upd_same, fun z m => sqT_mono ga.s (k3 z (s1 z m)), by decide, fun z m => ?_, fun L' r p1 nd few srt hr => ?_⟩
    · obtain ⟨q, mq, e⟩ := enc z m
      rw [e]
      exact ⟨rfl, hB q mq⟩
    · have enc' : ∀ z ∈ L', ∃ q ∈ ps, z.2 = num2 q := fun z m => enc z (p1.mem_iff.mp m)
      obtain ⟨ms', m1⟩ : ∃ ms' : List (Nat × Nat), L'.map (·.2) = ms'.map num2 := by
        clear p1 nd srt hr few
        induction L' with
        | nil => exact ⟨[], rfl⟩
        | cons z L' ih =>
          obtain ⟨ms', e⟩ := ih fun y m => enc' y (List.mem_cons_of_mem _ m)
          obtain ⟨q, _, e2⟩ := enc' z List.mem_cons_self
          exact ⟨q :: ms', by rw [List.map_cons, List.map_cons, e, e2]⟩
      have inj : ∀ {x y : Nat × Nat}, num2 x = num2 y → x = y := fun {x y} e => by
        have a1 := (List.cons.inj e).1
        have a2 := (List.cons.inj (List.cons.inj e).2).1
        exact Prod.ext (by omega) (by omega)
      have memms : ∀ q, q ∈ ms' ↔ q ∈ ps := fun q => by
        constructor
        · intro m
          have : num2 q ∈ L'.map (·.2) := m1 ▸ List.mem_map.mpr ⟨q, m, rfl⟩
          obtain ⟨z, mz, e⟩ := List.mem_map.mp this
          obtain ⟨q2, mq2, e2⟩ := enc' z mz
          rw [inj (e.symm.trans e2)]
          exact mq2
        · intro m
          have : num2 q ∈ ks.map (·.2) := k2 ▸ List.mem_map.mpr ⟨q, m, rfl⟩
          obtain ⟨z, mz, e⟩ := List.mem_map.mp this
          have h3 := ((p1.map (·.2)).mem_iff).mpr (s2 z mz)
          rw [e, m1] at h3
          obtain ⟨q2, mq2, e2⟩ := List.mem_map.mp h3
          rw [← inj e2]
          exact mq2
      have hms : ms' = ms := by
        refine h ms' ?_ memms ?_
        · rw [m1] at nd
          exact List.Pairwise.of_map num2 (fun _ _ hne e => hne (congrArg num2 e)) nd
        · have srt2 : (ms'.map num2).Pairwise (fun x y => TS.code B x ≤ TS.code B y) := by
            rw [← m1, List.pairwise_map]
            exact srt
          rw [List.pairwise_map] at srt2
          refine srt2.imp_of_mem fun {x y} mx my z => ?_
          have := code_lex (hB x ((memms x).mp mx)) (hB y ((memms y).mp my)) z
          omega
      subst hms
      have gr : Gr (G1) (upd H1 a (SetTO X.prog X.w a L)) (upd G1 r (.lst (L'.map fun z => V.ref z.1))) (upd (upd H1 a (SetTO X.prog X.w a L)) r (.lst (L'.map fun z => V.ref z.1))) := Gr.new ga.s hr
      refine k _ _ _ ((g1.trans ga).trans gr) (.lst upd_same ?_)
      have all : ∀ (L2 : List (Addr × List Int)) (ms2 : List (Nat × Nat)), (∀ z ∈ L2, z ∈ L') → L2.map (·.2) = ms2.map num2 → DqAll X.K G1 (L2.map fun z => V.ref z.1) (ms2.map prD2) := fun L2 => by
        induction L2 with
        | nil => intro ms2 _ e; cases ms2 with
          | nil => exact .nil
          | cons => cases e
        | cons z L2 ih => intro ms2 hs e; cases ms2 with
          | nil => cases e
          | cons q ms2 =>
            rw [List.map_cons, List.map_cons] at e
            obtain ⟨e1, e2⟩ := List.cons.inj e
            have := k3 z (s1 z (p1.mem_iff.mp (hs z List.mem_cons_self)))
            rw [e1] at this
            exact .cons (.tup this (.cons (.int _) (.cons (.int _) .nil))) (ih ms2 (fun y m => hs y (List.mem_cons_of_mem _ m)) e2)
      exact (all L' ms' (fun _ m => m) m1).up gr.g⟩
end
end SJ
set_option maxRecDepth 100000
set_option maxHeartbeats 4000000
/-! WA: the kinds' methods. -/
namespace SJ
open PySem PySem.Spec PyProof.Rows L2
section
variable {P : Program} {w : World} {K : PySem.W.Frag} {mg : Str → Option Value} {base : Heap} {f : Addr} {fd : FuncData} {C : Addr} {k : Kd}
def Pre_isst (C : Addr) (k : Kd) : Addr × List El → List SD → Prop := fun (a, s) Γ => okSt k s ∧ Γ = [.st (.ref a) [(a, .ins C [])], .dat (stD s)]
abbrev M_stands (P : Program) (w : World) (K : PySem.W.Frag) (mg : Str → Option Value) (base : Heap) (C : Addr) (k : Kd) : Prop := MFn P w K mg base C "stands" 2 (SpF K (Pre_isst C k) (fun _ => .bool true))
abbrev M_isst (P : Program) (w : World) (K : PySem.W.Frag) (mg : Str → Option Value) (base : Heap) (C : Addr) (k : Kd) : Prop := MFn P w K mg base C "is_state" 3 (SpF K (Pre_isst C k) (fun _ => .bool true))
theorem okSt_len {s : List El} (h : okSt k s) : s.length ≤ 60 := by
  cases k with
  | map =>
    obtain ⟨ps, rfl, h1, _⟩ := h
    unfold parS
    rwa [List.length_map]
  | set => obtain ⟨ns, rfl, h1, _⟩ := h; unfold numS; rwa [List.length_map]
  | row => obtain ⟨ns, rfl, h1, _⟩ := h; unfold numS; rwa [List.length_map]
  | _ =>
    obtain ⟨ns, rfl, h1, _⟩ := h
    unfold numS
    rw [List.length_map]
    omega
theorem sc_Kind_stands : FnScope ["self", "some"] ["self", "some"] (defScope m_Kind_stands) := ⟨rfl, rfl, rfl, by decide +kernel, rfl, by decide +kernel, by decide +kernel⟩
theorem ok_Kind_stands (T : Tx K mg) (hk : k = .most ∨ k = .once) (F : FD K d_Most_stands f fd) : FnOk P w K mg base CX0 1 f fd ["self", "some"] (SpF K (Pre_isst C k) (fun _ => .bool true)) := by
  refine fn_fresh F sc_Kind_stands (fun (_, _) Γ h => by obtain ⟨_, rfl⟩ := h; rfl) fun cdv A outer s H E hr (a, st) Γ h => ?_
  obtain ⟨h, rfl⟩ := h
  have hl : st.length < 2 := by
    rcases hk with rfl | rfl <;> obtain ⟨ns, rfl, h1, _⟩ := h <;> unfold numS <;> rwa [List.length_map]
  exact ds_ret (d_is (d_cmp (d_lenL T.f_len (d_var 1 rfl)) d_int o_ltI) (congrArg PyData.bool (decide_eq_true (by rw [List.length_map]; omega)))) (.inl ⟨rfl, trivial⟩)
theorem sc_Set_stands : FnScope ["self", "some"] ["self", "some"] (defScope m_Set_stands) := ⟨rfl, rfl, rfl, by decide +kernel, rfl, by decide +kernel, by decide +kernel⟩
theorem stD_nums (ns : List Nat) : stD (numS ns) = .list (intsD ns) := by
  unfold stD numS intsD
  rw [List.map_map]
  rfl
theorem ok_Set_stands (g1 : G_is_rising P w K mg base) (F : FD K d_Set_stands f fd) : FnOk P w K mg base CX0 2 f fd ["self", "some"] (SpF K (Pre_isst C .set) (fun _ => .bool true)) := by
  refine fn_fresh F sc_Set_stands (fun (_, _) Γ h => by obtain ⟨_, rfl⟩ := h; rfl) fun cdv A outer s H E hr (a, st) Γ h => ?_
  obtain ⟨⟨ns, rfl, h1, h2, h3⟩, rfl⟩ := h
  rw [stD_nums]
  exact ds_ret (d_call g1 hr (da_cons (d_var 1 rfl) da_nil) ⟨ns, by omega, h2, rfl, rfl⟩) (.inl ⟨rfl, trivial⟩)
theorem sc_Row_stands : FnScope ["self", "some"] ["self", "some"] (defScope m_Row_stands) := ⟨rfl, rfl, rfl, by decide +kernel, rfl, by decide +kernel, by decide +kernel⟩
theorem ok_Row_stands (F : FD K d_Row_stands f fd) : FnOk P w K mg base CX0 1 f fd ["self", "some"] (SpF K (Pre_isst C .row) (fun _ => .bool true)) := by
  refine fn_fresh F sc_Row_stands (fun (_, _) Γ h => by obtain ⟨_, rfl⟩ := h; rfl) fun cdv A outer s H E hr (a, st) Γ h => ?_
  obtain ⟨h, rfl⟩ := h
  exact ds_ret d_bl (.inl ⟨rfl, trivial⟩)
theorem sc_Kind_is_state : FnScope ["self", "thing", "one"] ["self", "thing"] (defScope m_Kind_is_state) := ⟨rfl, rfl, rfl, by decide +kernel, rfl, by decide +kernel, by decide +kernel⟩
theorem st_lend {X : Cx} {Γ : List SD} {a C : Addr} {i : Nat} (e : Γ[i]? = some (.st (.ref a) [(a, .ins C [])])) : ∀ G H σ, EnvD X.K G H Γ σ → ∃ Gt, Same G Gt ∧ Same Gt H ∧ SOk X.K Gt H (.st (.ref a) [(a, .ins C [])]) (some (.ref a)) := fun G H σ env => by
  obtain ⟨o, _, z1, z2⟩ := env.at_ i _ e
  exact ⟨G, Same.refl _, env.s, rfl, z2⟩
theorem okSt_nums (hk : k ≠ .map) {s : List El} (h : okSt k s) : ∃ ns : List Nat, s = numS ns ∧ ∀ a ∈ ns, a < RND := by
  cases k with
  | map => exact absurd rfl hk
  | set => obtain ⟨ns, rfl, _, _, h3⟩ := h; exact ⟨ns, rfl, h3⟩
  | most => obtain ⟨ns, rfl, _, h3⟩ := h; exact ⟨ns, rfl, h3⟩
  | once => obtain ⟨ns, rfl, _, h3⟩ := h; exact ⟨ns, rfl, h3⟩
  | row => obtain ⟨ns, rfl, _, h3⟩ := h; exact ⟨ns, rfl, h3⟩
theorem ok_Kind_is_state (T : Tx K mg) (hk : k ≠ .map) (g1 : G_is_number P w K mg base) (g2 : M_stands P w K mg base C k) (F : FD K d_Most_is_state f fd) : FnOk P w K mg base CX0 3 f fd ["self", "thing"] (SpF K (Pre_isst C k) (fun _ => .bool true)) := by
  refine fn_fresh F sc_Kind_is_state (fun (_, _) Γ h => by obtain ⟨_, rfl⟩ := h; rfl) fun cdv A outer s H E hr (a, st) Γ h => ?_
  obtain ⟨h, rfl⟩ := h
  obtain ⟨ns, e, hn⟩ := okSt_nums hk h
  have hlen := okSt_len h
  refine ds_ret (d_and (d_isi T.f_isinstance (d_var 1 rfl) T.f_list (T := "list") (b := true) rfl) (d_and (d_is (d_all (bs := st.map fun _ => true) T.f_all (d_is (d_lcN 2 sc_Kind_is_state (fun _ => .bool true) (di_list (d_var 1 rfl)) (by decide +kernel) (by rw [List.length_map]; omega) (fun j d hd => ?_)) ?_)) (congrArg PyData.bool ?_))
    (d_one (fe_de (f_mcall (ix := (a, st)) (.st (.ref a) [(a, .ins C [])]) 0 0 (m_call g2 hr (re_var 0) (da_cons (d_var 1 rfl) da_nil)) (fun _ z => z) (st_lend (i := 0) rfl) ⟨h, rfl⟩ rfl rfl))))) (.inl ⟨rfl, trivial⟩)
  · rw [e] at hd
    unfold numS at hd
    rw [List.map_map, List.getElem?_map] at hd
    cases hx : ns[j]? with
    | none => rw [hx] at hd; cases hd
    | some n =>
      rw [hx] at hd
      cases hd
      exact fun _ _ _ _ _ => d_call g1 (hr.mono (by decide)) (da_cons (d_var 2 rfl) da_nil) ⟨n, hn n (List.mem_of_getElem? hx), rfl, rfl⟩
  · rw [List.map_map, List.map_map]
    rfl
  · rw [List.all_map]
    exact List.all_eq_true.mpr fun _ _ => rfl
theorem sc_Map_is_state : FnScope ["self", "thing", "one"] ["self", "thing"] (defScope m_Map_is_state) := ⟨rfl, rfl, rfl, by decide +kernel, rfl, by decide +kernel, by decide +kernel⟩
theorem ok_Map_is_state (T : Tx K mg) (g1 : G_is_pair P w K mg base) (g2 : G_is_rising P w K mg base) (F : FD K d_Map_is_state f fd) : FnOk P w K mg base CX0 3 f fd ["self", "thing"] (SpF K (Pre_isst C .map) (fun _ => .bool true)) := by
  refine fn_fresh F sc_Map_is_state (fun (_, _) Γ h => by obtain ⟨_, rfl⟩ := h; rfl) fun cdv A outer s H E hr (a, st) Γ h => ?_
  obtain ⟨⟨ps, rfl, h1, h2, h3⟩, rfl⟩ := h
  have hel : ∀ (j : Nat) d, ((parS ps).map El.d)[j]? = some d → ∃ q, ps[j]? = some q ∧ d = .tuple [.int (q.1 : Nat), .int (q.2 : Nat)] := fun j d hd => by
    unfold parS at hd
    rw [List.map_map, List.getElem?_map] at hd
    cases hx : ps[j]? with
    | none => rw [hx] at hd; cases hd
    | some q => rw [hx] at hd; cases hd; exact ⟨q, rfl, rfl⟩
  have hlen : ((parS ps).map El.d).length ≤ 100000 := by unfold parS; rw [List.length_map, List.length_map]; omega
  refine ds_skip (PW.pt (dw_or (dt_is (dt_not (dt_val (d_isi T.f_isinstance (d_var 1 rfl) T.f_list (T := "list") (b := true) rfl))) rfl) (dw_or1 (dt_is (dt_not (dt_val (d_is (d_all (bs := ps.map fun _ => true) T.f_all (d_is (d_lcN 2 sc_Map_is_state (fun _ => .bool true) (di_list (d_var 1 rfl)) (by decide +kernel) hlen (fun j d hd => ?_)) ?_)) (congrArg PyData.bool (List.all_eq_true.mpr ?_ : _ = true))))) rfl)))) ?_
  · obtain ⟨q, hq, rfl⟩ := hel j d hd
    obtain ⟨q1, q2⟩ := h3 q (List.mem_of_getElem? hq)
    exact fun _ _ _ _ _ => d_call g1 hr (da_cons (d_var 2 rfl) da_nil) ⟨q.1, q.2, q1, q2, rfl, rfl⟩
  · unfold parS
    rw [List.map_map, List.map_map, List.map_map]
    rfl
  · intro x hx
    obtain ⟨_, _, rfl⟩ := List.mem_map.mp hx
    rfl
  · refine ds_ret (d_call g2 (hr.mono (by decide)) (da_cons (d_is (d_lcN 2 sc_Map_is_state (fun d => match d with | .tuple [a, _] => a | _ => .none) (di_list (d_var 1 rfl)) (by decide +kernel) hlen (fun j d hd => ?_)) ?_) da_nil) ⟨ps.map (·.1), by rw [List.length_map]; omega, ?_, rfl, rfl⟩) (.inl ⟨rfl, trivial⟩)
    · obtain ⟨q, hq, rfl⟩ := hel j d hd
      exact fun _ _ _ _ _ => d_ixT (d_var 2 rfl) d_int at0
    · unfold parS intsD
      rw [List.map_map, List.map_map, List.map_map]
      rfl
    · exact List.pairwise_map.mpr h2
end
end SJ
set_option maxRecDepth 100000
set_option maxHeartbeats 4000000
/-! WB: joins. -/
namespace SJ
open PySem PySem.Spec PyProof.Rows L2
section
variable {P : Program} {w : World} {K : PySem.W.Frag} {mg : Str → Option Value} {base : Heap} {f : Addr} {fd : FuncData} {C : Addr} {k : Kd}
def Pre_join (C : Addr) (k : Kd) : Addr × List El × List El → List SD → Prop := fun (a, one, other) Γ => okSt k one ∧ okPut k other ∧ Γ = [.st (.ref a) [(a, .ins C [])], .dat (stD one), .dat (stD other)]
def out_join (k : Kd) : Addr × List El × List El → PyData := fun (_, one, other) => optD (joinK k one other)
abbrev M_join (P : Program) (w : World) (K : PySem.W.Frag) (mg : Str → Option Value) (base : Heap) (C : Addr) (k : Kd) : Prop := MFn P w K mg base C "joined" 1 (SpF K (Pre_join C k) (out_join k))
theorem sc_Most_joined : FnScope ["self", "one", "other"] ["self", "one", "other"] (defScope m_Most_joined) := ⟨rfl, rfl, rfl, by decide +kernel, rfl, by decide +kernel, by decide +kernel⟩
theorem scal_ints (ns : List Nat) : ∀ d ∈ intsD ns, scal1 d := fun d m => by
  obtain ⟨_, _, rfl⟩ := List.mem_map.mp m
  trivial
theorem ok_Most_joined (T : Tx K mg) (F : FD K d_Most_joined f fd) : FnOk P w K mg base CX0 1 f fd ["self", "one", "other"] (SpF K (Pre_join C .most) (out_join .most)) := by
  refine fn_fresh F sc_Most_joined (fun (_, _, _) Γ h => by obtain ⟨_, _, rfl⟩ := h; rfl) fun cdv A outer s H E hr (a, one, other) Γ h => ?_
  obtain ⟨⟨ns, rfl, h1, h2⟩, ⟨b, rfl, hb⟩, rfl⟩ := h
  match ns, h1, h2 with
  | [], _, _ =>
    refine ds_retF (d := .list [.int (b : Nat)]) (fe_is (f_slL (ds := [.int (b : Nat)]) (d_sortedI (ns := [(b : Int)]) (ms := [(b : Int)]) T.f_sorted (d_bin (d_var 1 rfl) (d_var 2 rfl) (o_catL (ds := []) (es := [.int (b : Nat)]) (by show 1 ≤ 100000; decide))) (fun ns' hp _ => List.perm_singleton.mp hp)) (do_some (d_neg d_int)) do_none (fun d m => by
      rw [List.mem_singleton.mp m]
      trivial)) rfl) fun Gx => .inr ⟨Gx, rfl⟩
  | [c], _, _ =>
    have hs : ∀ ns' : List Int, ns'.Perm [(c : Int), (b : Int)] → ns'.Pairwise (· ≤ ·) → ns' = [((min c b : Nat) : Int), ((max c b : Nat) : Int)] := fun ns' hp hw => by
      by_cases hcb : c ≤ b
      · refine List.Perm.eq_of_pairwise (le := fun (a b : Int) => a ≤ b) (fun a b _ _ h1 h2 => Int.le_antisymm h1 h2) hw ?_ ?_
        · simp; omega
        · rw [Nat.min_eq_left hcb, Nat.max_eq_right hcb]
          exact hp
      · refine List.Perm.eq_of_pairwise (le := fun (a b : Int) => a ≤ b) (fun a b _ _ h1 h2 => Int.le_antisymm h1 h2) hw ?_ ?_
        · simp; omega
        · rw [Nat.min_eq_right (by omega), Nat.max_eq_left (by omega)]
          exact hp.trans (List.Perm.swap ..)
    refine ds_retF (d := .list [.int ((max c b : Nat) : Nat)]) (fe_is (f_slL (ds := [.int ((min c b : Nat) : Nat), .int ((max c b : Nat) : Nat)]) (d_sortedI (ns := [(c : Int), (b : Int)]) (ms := [((min c b : Nat) : Int), ((max c b : Nat) : Int)]) T.f_sorted (d_bin (d_var 1 rfl) (d_var 2 rfl) (o_catL (ds := [.int (c : Nat)]) (es := [.int (b : Nat)]) (by show 2 ≤ 100000; decide))) hs) (do_some (d_neg d_int)) do_none (fun d m => by
      rcases List.mem_cons.mp m with rfl | m
      · trivial
      · rw [List.mem_singleton.mp m]
        trivial)) rfl) fun Gx => .inr ⟨Gx, rfl⟩
theorem sc_Set_joined : FnScope ["self", "one", "other"] ["self", "one", "other"] (defScope m_Set_joined) := ⟨rfl, rfl, rfl, by decide +kernel, rfl, by decide +kernel, by decide +kernel⟩
theorem insN_mem (b : Nat) : ∀ {ns : List Nat} {x : Nat}, x ∈ insN b ns ↔ x = b ∨ x ∈ ns
  | [], x => by unfold insN; simp
  | a :: r, x => by
    unfold insN
    split
    · simp
    · split
      · rename_i h
        subst h
        simp
      · rw [List.mem_cons, insN_mem b (ns := r), List.mem_cons]
        constructor
        · rintro (h | h | h)
          · exact .inr (.inl h)
          · exact .inl h
          · exact .inr (.inr h)
        · rintro (h | h | h)
          · exact .inr (.inl h)
          · exact .inl h
          · exact .inr (.inr h)
theorem insN_sorted (b : Nat) : ∀ {ns : List Nat}, ns.Pairwise (· < ·) → (insN b ns).Pairwise (· < ·)
  | [], _ => by unfold insN; simp
  | a :: r, h => by
    rw [List.pairwise_cons] at h
    unfold insN
    split
    · rename_i hb
      rw [List.pairwise_cons, List.pairwise_cons]
      refine ⟨fun x m => ?_, h⟩
      rcases List.mem_cons.mp m with rfl | m
      · exact hb
      · exact Nat.lt_trans hb (h.1 x m)
    · split
      · rw [List.pairwise_cons]
        exact h
      · rename_i h1 h2
        rw [List.pairwise_cons]
        refine ⟨fun x m => ?_, insN_sorted b h.2⟩
        rcases (insN_mem b).mp m with rfl | m
        · omega
        · exact h.1 x m
/-- rising numbers are told by what is among them -/
theorem rising_eq : ∀ {xs ys : List Int}, xs.Pairwise (· < ·) → ys.Pairwise (· < ·) → (∀ x, x ∈ xs ↔ x ∈ ys) → xs = ys
  | [], [], _, _, _ => rfl
  | [], y :: ys, _, _, h => by have := (h y).mpr List.mem_cons_self; cases this
  | x :: xs, [], _, _, h => by have := (h x).mp List.mem_cons_self; cases this
  | x :: xs, y :: ys, hx, hy, h => by
    rw [List.pairwise_cons] at hx hy
    have e : x = y := by
      rcases List.mem_cons.mp ((h x).mp List.mem_cons_self) with e | m1
      · exact e
      · rcases List.mem_cons.mp ((h y).mpr List.mem_cons_self) with e | m2
        · exact e.symm
        · have a1 := hy.1 x m1
          have a2 := hx.1 y m2
          omega
    subst e
    rw [rising_eq hx.2 hy.2 fun z => ⟨fun m => ?_, fun m => ?_⟩]
    · rcases List.mem_cons.mp ((h z).mp (List.mem_cons_of_mem _ m)) with e | m'
      · have := hx.1 z m
        omega
      · exact m'
    · rcases List.mem_cons.mp ((h z).mpr (List.mem_cons_of_mem _ m)) with e | m'
      · have := hy.1 z m
        omega
      · exact m'
theorem ints_int (ns : List Nat) : intsD ns = (ns.map fun n : Nat => (n : Int)).map PyData.int := by
  unfold intsD
  rw [List.map_map]
  rfl
theorem elN_numS (ns : List Nat) : (numS ns).map elN = ns := by
  unfold numS
  rw [List.map_map]
  exact List.map_id' ns
theorem insN_ms {ns : List Nat} (b : Nat) (h : ns.Pairwise (· < ·)) (ms' : List Int) (h1 : ms'.Pairwise (· < ·)) (h2 : ∀ x, x ∈ ms' ↔ x ∈ (ns ++ [b]).map fun n : Nat => (n : Int)) : ms' = (insN b ns).map fun n : Nat => (n : Int) := by
  refine rising_eq h1 (List.pairwise_map.mpr ((insN_sorted b h).imp fun h => by omega)) fun x => ?_
  rw [h2 x, List.mem_map, List.mem_map]
  constructor
  · rintro ⟨n, m, rfl⟩
    rw [List.mem_append, List.mem_singleton] at m
    exact ⟨n, (insN_mem b).mpr (m.elim .inr .inl), rfl⟩
  · rintro ⟨n, m, rfl⟩
    rw [insN_mem] at m
    exact ⟨n, List.mem_append.mpr (m.elim (fun e => .inr (List.mem_singleton.mpr e)) .inl), rfl⟩
theorem ok_Set_joined (T : Tx K mg) (F : FD K d_Set_joined f fd) : FnOk P w K mg base CX0 1 f fd ["self", "one", "other"] (SpF K (Pre_join C .set) (out_join .set)) := by
  refine fn_fresh F sc_Set_joined (fun (_, _, _) Γ h => by obtain ⟨_, _, rfl⟩ := h; rfl) fun cdv A outer s H E hr (a, one, other) Γ h => ?_
  obtain ⟨⟨ns, rfl, h1, h2, h3⟩, ⟨b, rfl, hb⟩, rfl⟩ := h
  have e1 : out_join .set (a, numS ns, [.n b]) = .list (((insN b ns).map fun n : Nat => (n : Int)).map PyData.int) := by
    show stD (numS (insN b ((numS ns).map elN))) = _
    rw [elN_numS, stD_nums, ints_int]
  rw [e1, stD_nums]
  refine ds_retF (f_sortedSetI (ns := (ns ++ [b]).map fun n : Nat => (n : Int)) T.f_sorted T.f_set (d_is (d_bin (d_var 1 rfl) (d_var 2 rfl) (o_catL (ds := intsD ns) (es := [.int (b : Nat)]) ?_)) ?_) ?_ (insN_ms b h2)) fun Gx => .inr ⟨Gx, rfl⟩
  · unfold intsD
    rw [List.length_map]
    show ns.length + 1 ≤ 100000
    omega
  · rw [ints_int, List.map_append, List.map_append]
    rfl
  · rw [List.length_map, List.length_append, List.length_singleton]
    omega
theorem El_lay : ∀ x : El, x.d.canLay0 = true
  | .n a => by simp [El.d, PyData.canLay0]
  | .p a b => by simp [El.d, PyData.canLay0, PyData.canLayAll0]
theorem El_depth : ∀ x : El, x.d.depth ≤ 1
  | .n a => by simp [El.d, PyData.depth]
  | .p a b => by simp [El.d, PyData.depth, PyData.depthAll]
theorem Els_lay : ∀ s : List El, PyData.canLayAll0 (s.map El.d) = true
  | [] => by simp [PyData.canLayAll0]
  | x :: s => by simp [PyData.canLayAll0, El_lay x, Els_lay s]
theorem Els_depth : ∀ s : List El, PyData.depthAll (s.map El.d) ≤ 1
  | [] => by simp [PyData.depthAll]
  | x :: s => by
    have h1 := Els_depth s
    have h2 := El_depth x
    simp only [List.map_cons, PyData.depthAll]
    omega
theorem st_shaped (s : List El) : SeqAt.shaped (stD s) = true := by
  have h1 := Els_depth s
  have h2 : (stD s).depth ≤ 64 := by
    unfold stD
    simp only [PyData.depth]
    omega
  show ((stD s).canLay0 && decide ((stD s).depth ≤ 64)) = true
  rw [Bool.and_eq_true]
  exact ⟨by unfold stD; simp only [PyData.canLay0]; exact Els_lay s, decide_eq_true h2⟩
theorem El_eqv : ∀ x y : El, PyData.eqv x.d y.d = decide (x = y)
  | .n a, .n b => by
    have e : PyData.eqv (El.n a).d (El.n b).d = ((a : Int) == (b : Int)) := by simp only [El.d, PyData.eqv]
    rw [e, Bool.eq_iff_iff]
    simp
    omega
  | .n a, .p b c => by
    have e : PyData.eqv (El.n a).d (El.p b c).d = false := by simp only [El.d, PyData.eqv]
    rw [e, decide_eq_false (fun z => nomatch z)]
  | .p b c, .n a => by
    have e : PyData.eqv (El.p b c).d (El.n a).d = false := by simp only [El.d, PyData.eqv]
    rw [e, decide_eq_false (fun z => nomatch z)]
  | .p a b, .p a' b' => by
    have e : PyData.eqv (El.p a b).d (El.p a' b').d = (((a : Int) == (a' : Int)) && (((b : Int) == (b' : Int)) && true)) := by simp only [El.d, PyData.eqv, PyData.eqvAll]
    rw [e, Bool.eq_iff_iff]
    simp
    omega
theorem Els_eqv : ∀ s t : List El, PyData.eqvAll (s.map El.d) (t.map El.d) = decide (s = t)
  | [], [] => by simp [PyData.eqvAll]
  | [], y :: t => by simp [PyData.eqvAll]
  | x :: s, [] => by simp [PyData.eqvAll]
  | x :: s, y :: t => by
    have e : PyData.eqvAll ((x :: s).map El.d) ((y :: t).map El.d) = (PyData.eqv x.d y.d && PyData.eqvAll (s.map El.d) (t.map El.d)) := by simp only [List.map_cons, PyData.eqvAll]
    rw [e, El_eqv, Els_eqv s t, Bool.eq_iff_iff]
    simp
theorem st_eqv (s t : List El) : PyData.eqv (stD s) (stD t) = decide (s = t) := by
  unfold stD
  have e : PyData.eqv (.list (s.map El.d)) (.list (t.map El.d)) = PyData.eqvAll (s.map El.d) (t.map El.d) := by simp only [PyData.eqv]
  rw [e, Els_eqv]
theorem scal_nums (ns : List Nat) : ∀ d ∈ (numS ns).map El.d, scal1 d := fun d m => by
  unfold numS at m
  rw [List.map_map] at m
  obtain ⟨_, _, rfl⟩ := List.mem_map.mp m
  trivial
theorem joinK_once (one other : List El) : joinK .once one other = if one = [] ∨ one = other then some other else none := rfl
theorem joinK_row (one other : List El) : joinK .row one other = if other.take one.length = one then some other else if one.take other.length = other then some one else none := rfl
theorem sc_Kind_joined : FnScope ["self", "one", "other"] ["self", "one", "other"] (defScope m_Kind_joined) := ⟨rfl, rfl, rfl, by decide +kernel, rfl, by decide +kernel, by decide +kernel⟩
theorem ok_Once_joined (T : Tx K mg) (F : FD K d_Once_joined f fd) : FnOk P w K mg base CX0 1 f fd ["self", "one", "other"] (SpF K (Pre_join C .once) (out_join .once)) := by
  refine fn_fresh F sc_Kind_joined (fun (_, _, _) Γ h => by obtain ⟨_, _, rfl⟩ := h; rfl) fun cdv A outer s H E hr (a, one, other) Γ h => ?_
  obtain ⟨⟨ns, rfl, h1, h2⟩, ⟨b, rfl, hb⟩, rfl⟩ := h
  match ns, h1 with
  | [], _ =>
    refine ds_ifT (PW.pt (dw_orT (dt_is (dt_cmp (d_lenL T.f_len (d_var 1 rfl)) d_int o_eqI) rfl))) ?_
    exact ds_retF (f_listOf T.f_list (d_var 2 rfl) (scal_nums [b])) fun Gx => .inr ⟨Gx, rfl⟩
  | [c], _ =>
    have hd := @st_eqv (numS [c]) [.n b]
    by_cases e : c = b
    · subst e
      refine ds_ifT (PW.pt (dw_or (dt_is (dt_cmp (d_lenL T.f_len (d_var 1 rfl)) d_int o_eqI) rfl) (dw_or1 (dt_is (dt_cmp (d_var 1 rfl) (d_var 2 rfl) (o_eqD hr.units (st_shaped _) (st_shaped _))) (hd.trans (decide_eq_true rfl)))))) ?_
      refine ds_retF (d := stD [.n c]) (f_listOf T.f_list (d_var 2 rfl) (scal_nums [c])) fun Gx => .inr ⟨Gx, ?_⟩
      show SD.od Gx _ = SD.od Gx (optD (joinK .once (numS [c]) [.n c]))
      rw [joinK_once, if_pos (.inr rfl)]
      rfl
    · refine ds_skip (PW.pt (dw_or (dt_is (dt_cmp (d_lenL T.f_len (d_var 1 rfl)) d_int o_eqI) rfl) (dw_or1 (dt_is (dt_cmp (d_var 1 rfl) (d_var 2 rfl) (o_eqD hr.units (st_shaped _) (st_shaped _))) (hd.trans (decide_eq_false fun z => e (El.n.inj (List.cons.inj z).1))))))) ?_
      refine ds_skip (dt_is (dt_cmp (d_lenL T.f_len (d_var 2 rfl)) d_int o_eqI) rfl) ?_
      have en : out_join .once (a, numS [c], [.n b]) = .none := by
        show optD (joinK .once (numS [c]) [.n b]) = _
        rw [joinK_once, if_neg]
        · rfl
        · rintro (z | z)
          · cases z
          · exact e (El.n.inj (List.cons.inj z).1)
      rw [en]
      exact ds_ret d_non (.inl ⟨rfl, trivial⟩)
theorem sc_Row_joined : FnScope ["self", "one", "other"] ["self", "one", "other"] (defScope m_Row_joined) := ⟨rfl, rfl, rfl, by decide +kernel, rfl, by decide +kernel, by decide +kernel⟩
theorem cut_take {α : Type} (xs : List α) (n : Nat) : cutA xs none (some (n : Nat)) = xs.take n := by
  have e0 : HT.sIx xs.length 0 none = 0 := rfl
  have e1 : HT.sIx xs.length xs.length (some ((n : Nat) : Int)) = min n xs.length := HT.sIx_nat _ _ _
  unfold cutA
  rw [e0, e1]
  simp [List.take_eq_take_iff]
theorem ok_Row_joined (T : Tx K mg) (F : FD K d_Row_joined f fd) : FnOk P w K mg base CX0 1 f fd ["self", "one", "other"] (SpF K (Pre_join C .row) (out_join .row)) := by
  refine fn_fresh F sc_Row_joined (fun (_, _, _) Γ h => by obtain ⟨_, _, rfl⟩ := h; rfl) fun cdv A outer s H E hr (a, one, other) Γ h => ?_
  obtain ⟨⟨ns, rfl, h1, h2⟩, ⟨ms, rfl, h3, h4, h5⟩, rfl⟩ := h
  have q1 : cutA ((numS ms).map El.d) none (some (((numS ns).map El.d).length : Nat)) = ((numS ms).take (numS ns).length).map El.d := by rw [cut_take, List.length_map, List.map_take]
  have q2 : cutA ((numS ns).map El.d) none (some (((numS ms).map El.d).length : Nat)) = ((numS ns).take (numS ms).length).map El.d := by rw [cut_take, List.length_map, List.map_take]
  by_cases e1 : (numS ms).take (numS ns).length = numS ns
  · refine ds_ifT (dt_is (dt_cmp (d_is (d_slL (d_var 2 rfl) do_none (do_some (d_lenL T.f_len (d_var 1 rfl)))) (congrArg PyData.list q1)) (d_var 1 rfl) (o_eqD hr.units (st_shaped _) (st_shaped _))) ((st_eqv _ _).trans (decide_eq_true e1))) ?_
    refine ds_retF (d := stD (numS ms)) (f_listOf T.f_list (d_var 2 rfl) (scal_nums ms)) fun Gx => .inr ⟨Gx, ?_⟩
    show SD.od Gx _ = SD.od Gx (optD (joinK .row (numS ns) (numS ms)))
    rw [joinK_row, if_pos e1]
    rfl
  · refine ds_skip (dt_is (dt_cmp (d_is (d_slL (d_var 2 rfl) do_none (do_some (d_lenL T.f_len (d_var 1 rfl)))) (congrArg PyData.list q1)) (d_var 1 rfl) (o_eqD hr.units (st_shaped _) (st_shaped _))) ((st_eqv _ _).trans (decide_eq_false e1))) ?_
    by_cases e2 : (numS ns).take (numS ms).length = numS ms
    · refine ds_ifT (dt_is (dt_cmp (d_is (d_slL (d_var 1 rfl) do_none (do_some (d_lenL T.f_len (d_var 2 rfl)))) (congrArg PyData.list q2)) (d_var 2 rfl) (o_eqD hr.units (st_shaped _) (st_shaped _))) ((st_eqv _ _).trans (decide_eq_true e2))) ?_
      refine ds_retF (d := stD (numS ns)) (f_listOf T.f_list (d_var 1 rfl) (scal_nums ns)) fun Gx => .inr ⟨Gx, ?_⟩
      show SD.od Gx _ = SD.od Gx (optD (joinK .row (numS ns) (numS ms)))
      rw [joinK_row, if_neg e1, if_pos e2]
      rfl
    · refine ds_skip (dt_is (dt_cmp (d_is (d_slL (d_var 1 rfl) do_none (do_some (d_lenL T.f_len (d_var 2 rfl)))) (congrArg PyData.list q2)) (d_var 2 rfl) (o_eqD hr.units (st_shaped _) (st_shaped _))) ((st_eqv _ _).trans (decide_eq_false e2))) ?_
      have en : out_join .row (a, numS ns, numS ms) = .none := by
        show optD (joinK .row (numS ns) (numS ms)) = _
        rw [joinK_row, if_neg e1, if_neg e2]
        rfl
      rw [en]
      exact ds_ret d_non (.inl ⟨rfl, trivial⟩)
end
end SJ
set_option maxRecDepth 100000
set_option maxHeartbeats 4000000
/-! WC: the join of maps. -/
namespace SJ
open PySem PySem.Spec PyProof.Rows L2
section
variable {P : Program} {w : World} {K : PySem.W.Frag} {mg : Str → Option Value} {base : Heap} {f : Addr} {fd : FuncData} {C : Addr} {k : Kd}
theorem stD_pars (ps : List (Nat × Nat)) : stD (parS ps) = .list (ps.map prD2) := by
  unfold stD parS
  rw [List.map_map]
  rfl
theorem elP_parS (ps : List (Nat × Nat)) : (parS ps).map elP = ps := by
  unfold parS
  rw [List.map_map]
  exact List.map_id' ps
theorem getD_kvI_none : ∀ {ps : List (Nat × Nat)} {a : Nat}, (∀ q ∈ ps, q.1 ≠ a) → getD (kvI ps) (.inl (a : Int)) = none
  | [], _, _ => rfl
  | q :: ps, a, h => by
    have h1 : ¬ (Sum.inl (q.1 : Int) : Key) = Sum.inl (a : Int) := fun e => h q List.mem_cons_self (by have := Sum.inl.inj e; omega)
    have ih := getD_kvI_none (ps := ps) (a := a) fun r m => h r (List.mem_cons_of_mem _ m)
    unfold getD kvI at ih ⊢
    rw [List.map_cons, List.find?_cons, decide_eq_false h1]
    exact ih
theorem getD_kvI : ∀ {ps : List (Nat × Nat)} {q : Nat × Nat}, (ps.map (·.1)).Nodup → q ∈ ps → getD (kvI ps) (.inl (q.1 : Int)) = some (.int (q.2 : Nat))
  | [], _, _, h => by cases h
  | r :: ps, q, hn, h => by
    rw [List.map_cons, List.nodup_cons] at hn
    rcases List.mem_cons.mp h with rfl | h
    · unfold getD kvI
      rw [List.map_cons, List.find?_cons, decide_eq_true rfl]
      rfl
    · have h1 : ¬ (Sum.inl (r.1 : Int) : Key) = Sum.inl (q.1 : Int) := fun e => hn.1 (by
        have e2 : r.1 = q.1 := by have := Sum.inl.inj e; omega
        rw [e2]
        exact List.mem_map.mpr ⟨q, h, rfl⟩)
      have ih := getD_kvI hn.2 h
      unfold getD kvI at ih ⊢
      rw [List.map_cons, List.find?_cons, decide_eq_false h1]
      exact ih
theorem rise_nodup {ps : List (Nat × Nat)} (h : ps.Pairwise (fun a b => a.1 < b.1)) : (ps.map (·.1)).Nodup :=
  List.pairwise_map.mpr (h.imp fun h => Nat.ne_of_lt h)
theorem insP_perm (q : Nat × Nat) : ∀ {ps : List (Nat × Nat)}, (∀ r ∈ ps, r.1 ≠ q.1) → (insP q ps).Perm (ps ++ [q])
  | [], _ => List.Perm.refl _
  | a :: r, h => by
    have h0 := h a List.mem_cons_self
    unfold insP
    split
    · exact (List.perm_append_comm (l₁ := [q]) (l₂ := a :: r))
    · rw [if_neg (fun e => h0 e.symm)]
      exact (insP_perm q fun x m => h x (List.mem_cons_of_mem _ m)).cons a
theorem insP_sorted (q : Nat × Nat) : ∀ {ps : List (Nat × Nat)}, ps.Pairwise (fun a b => a.1 < b.1) → (∀ r ∈ ps, r.1 ≠ q.1) → (insP q ps).Pairwise (fun a b => a.1 < b.1)
  | [], _, _ => by unfold insP; simp
  | a :: r, h, hn => by
    have h0 := hn a List.mem_cons_self
    rw [List.pairwise_cons] at h
    unfold insP
    split
    · rename_i hb
      rw [List.pairwise_cons, List.pairwise_cons]
      refine ⟨fun x m => ?_, h⟩
      rcases List.mem_cons.mp m with rfl | m
      · exact hb
      · exact Nat.lt_trans hb (h.1 x m)
    · rw [if_neg (fun e => h0 e.symm), List.pairwise_cons]
      refine ⟨fun x m => ?_, insP_sorted q h.2 fun x m => hn x (List.mem_cons_of_mem _ m)⟩
      have m2 := (insP_perm q fun x m => hn x (List.mem_cons_of_mem _ m)).mem_iff.mp m
      rcases List.mem_append.mp m2 with m2 | m2
      · exact h.1 x m2
      · rw [List.mem_singleton.mp m2]
        omega
theorem insP_same (q : Nat × Nat) : ∀ {ps : List (Nat × Nat)}, ps.Pairwise (fun a b => a.1 < b.1) → (∃ r ∈ ps, r.1 = q.1) → insP q ps = ps
  | [], _, ⟨_, h, _⟩ => by cases h
  | a :: r, h, ⟨x, m, e⟩ => by
    rw [List.pairwise_cons] at h
    unfold insP
    rcases List.mem_cons.mp m with rfl | m
    · rw [if_neg (by omega), if_pos e.symm]
    · have := h.1 x m
      rw [if_neg (by omega), if_neg (by omega), insP_same q h.2 ⟨x, m, e⟩]
/-- rising pairs are told by what is among them -/
theorem perm_rise {xs ys : List (Nat × Nat)} (hp : xs.Perm ys) (hx : xs.Pairwise (fun a b => a.1 < b.1)) (hy : ys.Pairwise (fun a b => a.1 < b.1)) : xs = ys :=
  List.Perm.eq_of_pairwise (le := fun a b => a.1 < b.1) (fun a b _ _ h1 h2 => absurd h1 (Nat.lt_asymm h2)) hx hy hp
theorem joinK_map (one : List El) (a b : Nat) : joinK .map one [.p a b] = if ((one.map elP).any fun q => q.1 == a && q.2 != b) then none else some (parS (insP (a, b) (one.map elP))) := rfl
theorem sc_Map_joined : FnScope ["self", "one", "other", "found", "key", "number"] ["self", "one", "other"] (defScope m_Map_joined) := ⟨rfl, rfl, rfl, by decide +kernel, rfl, by decide +kernel, by decide +kernel⟩
theorem ok_Map_joined (T : Tx K mg) (F : FD K d_Map_joined f fd) : FnOk P w K mg base CX0 1 f fd ["self", "one", "other"] (SpF K (Pre_join C .map) (out_join .map)) := by
  refine fn_fresh F sc_Map_joined (fun (_, _, _) Γ h => by obtain ⟨_, _, rfl⟩ := h; rfl) fun cdv A outer s H E hr (a0, one, other) Γ h => ?_
  obtain ⟨⟨ps, rfl, h1, h2, h3⟩, ⟨a, b, rfl, ha, hb⟩, rfl⟩ := h
  have hn := rise_nodup h2
  have hu := hu_of hr
  rw [stD_pars]
  have eo : out_join .map (a0, parS ps, [.p a b]) = optD (if (ps.any fun q => q.1 == a && q.2 != b) then none else some (parS (insP (a, b) ps))) := by
    show optD (joinK .map (parS ps) [.p a b]) = _
    rw [joinK_map, elP_parS]
  rw [eo]
  refine ds_dictOf 3 T.f_dict (d_var 1 rfl) hn h1 (fun l => ?_) sc_Map_joined.nd
  -- whether the key is there
  have hkey : (∃ r ∈ ps, r.1 = a) ∨ ∀ r ∈ ps, r.1 ≠ a := by
    by_cases h : ∃ r ∈ ps, r.1 = a
    · exact .inl h
    · exact .inr fun r m e => h ⟨r, m, e⟩
  refine ds_forP 4 5 (fun i Γ => ∃ x y, Γ = [.st (.ref a0) [(a0, .ins C [])], .dat (.list (ps.map prD2)), .dat (stD [.p a b]), .md l (kvI (if i = 0 then ps else if ps.any (fun r => r.1 == a) then ps else ps ++ [(a, b)])), x, y] ∧ (i = 0 ∨ (ps.any fun q => q.1 == a && q.2 != b) = false)) (di_list (d_var 2 rfl)) ⟨.un, .un, rfl, .inl rfl⟩ (fun i d Γ1 hd hi => ?_) (fun Γ1 hi => ?_) sc_Map_joined.nd
  · obtain ⟨x, y, rfl, _⟩ := hi
    cases i with
    | succ i => cases i <;> cases hd
    | zero =>
      cases hd
      refine ⟨.int (a : Nat), .int (b : Nat), rfl, ?_⟩
      have alln : (∀ r ∈ ps, r.1 ≠ a) → (ps.any fun r => r.1 == a) = false := fun h => by
        rw [Bool.eq_false_iff]
        intro z
        obtain ⟨r, m, e⟩ := List.any_eq_true.mp z
        exact h r m (by simpa using e)
      have bad : (∀ r ∈ ps, r.1 ≠ a) → (ps.any fun q => q.1 == a && q.2 != b) = false := fun h => by
        rw [Bool.eq_false_iff]
        intro z
        obtain ⟨r, m, e⟩ := List.any_eq_true.mp z
        rw [Bool.and_eq_true] at e
        exact h r m (by simpa using e.1)
      have uniq : ∀ r ∈ ps, r.1 = a → ∀ q ∈ ps, q.1 = a → q = r := fun r m e q m' e' => by
        have z1 := getD_kvI hn m
        have z2 := getD_kvI hn m'
        rw [e] at z1
        rw [e', z1] at z2
        have z3 := PyData.int.inj (Option.some.inj z2)
        exact Prod.ext (e'.trans e.symm) (by omega)
      refine ds_ifSetd 3 (l := l) (kvs := kvI ps) (k := (a : Nat)) (v := (b : Nat)) (d_var 4 rfl) (d_var 5 rfl) (fun c => d_var 5 rfl) hu (fun hg => ?_) (fun v' hg hne => ?_) (fun hg => ?_) (fun d hg => ?_) rfl rfl (by show (kvI ps).length < 100000; unfold kvI; rw [List.length_map]; omega) ⟨rfl, rfl, rfl, rfl⟩
      · rcases hkey with ⟨r, m, e⟩ | h
        · refine ds_nil ⟨.dat (.int (a : Nat)), .dat (.int (b : Nat)), ?_, .inr ?_⟩
          · rw [if_neg (Nat.succ_ne_zero 0), if_pos (List.any_eq_true.mpr ⟨r, m, by simpa using e⟩)]
            rfl
          · rw [Bool.eq_false_iff]
            intro z
            obtain ⟨q, m', e'⟩ := List.any_eq_true.mp z
            rw [Bool.and_eq_true] at e'
            have e1 : q.1 = a := by simpa using e'.1
            have := getD_kvI hn m'
            rw [e1, hg] at this
            have e2 := PyData.int.inj (Option.some.inj this)
            have e3 : q.2 ≠ b := by simpa using e'.2
            omega
        · rw [getD_kvI_none h] at hg
          cases hg
      · rcases hkey with ⟨r, m, e⟩ | h
        · have z := getD_kvI hn m
          rw [e, hg] at z
          have z2 := PyData.int.inj (Option.some.inj z)
          have en : (ps.any fun q => q.1 == a && q.2 != b) = true := List.any_eq_true.mpr ⟨r, m, by
            rw [Bool.and_eq_true]
            exact ⟨by simpa using e, by simp; omega⟩⟩
          rw [if_pos en]
          exact ds_ret d_non (.inl ⟨rfl, trivial⟩)
        · rw [getD_kvI_none h] at hg
          cases hg
      · rcases hkey with ⟨r, m, e⟩ | h
        · have z := getD_kvI hn m
          rw [e, hg] at z
          cases z
        · refine ds_nil ⟨.dat (.int (a : Nat)), .dat (.int (b : Nat)), ?_, .inr (bad h)⟩
          have e9 : (if (0 + 1 = 0) then ps else if (ps.any fun r => r.1 == a) = true then ps else ps ++ [(a, b)]) = ps ++ [(a, b)] := by rw [if_neg (Nat.succ_ne_zero 0), if_neg (by rw [alln h]; exact Bool.false_ne_true)]
          rw [e9]
          unfold kvI
          rw [List.map_append]
          rfl
      · rcases hkey with ⟨r, m, e⟩ | h
        · have z := getD_kvI hn m
          rw [e, hg] at z
          exact ⟨_, Option.some.inj z⟩
        · rw [getD_kvI_none h] at hg
          cases hg
  · obtain ⟨x, y, rfl, hb2⟩ := hi
    have hb3 : (ps.any fun q => q.1 == a && q.2 != b) = false := hb2.resolve_left (Nat.succ_ne_zero 0)
    have el : optD (if (ps.any fun q => q.1 == a && q.2 != b) = true then none else some (parS (insP (a, b) ps))) = .list ((insP (a, b) ps).map prD2) := by
      rw [if_neg (by rw [hb3]; exact Bool.false_ne_true)]
      exact stD_pars _
    rw [el]
    rcases hkey with ⟨r, m, e⟩ | h
    · have e1 : (if [El.p a b].length = 0 then ps else if (ps.any fun r => r.1 == a) = true then ps else ps ++ [(a, b)]) = ps := by
        rw [if_neg (show ¬ [El.p a b].length = 0 from Nat.succ_ne_zero 0), if_pos (List.any_eq_true.mpr ⟨r, m, by simpa using e⟩)]
      refine ds_retF (f_sortedItems 3 (l := l) (ps := ps) T.f_sorted hn (by omega) (fun ms' hp hs => ?_) ?_) fun Gx => .inr ⟨Gx, rfl⟩
      · rw [insP_same (a, b) h2 ⟨r, m, e⟩]
        exact perm_rise hp hs h2
      · exact congrArg (fun z => some (SD.md l (kvI z))) e1
    · have e1 : (if [El.p a b].length = 0 then ps else if (ps.any fun r => r.1 == a) = true then ps else ps ++ [(a, b)]) = ps ++ [(a, b)] := by
        rw [if_neg (show ¬ [El.p a b].length = 0 from Nat.succ_ne_zero 0), if_neg]
        intro z
        obtain ⟨r, m, e⟩ := List.any_eq_true.mp z
        exact h r m (by simpa using e)
      refine ds_retF (f_sortedItems 3 (l := l) (ps := ps ++ [(a, b)]) T.f_sorted ?_ (by rw [List.length_append, List.length_singleton]; omega) (fun ms' hp hs => ?_) ?_) fun Gx => .inr ⟨Gx, rfl⟩
      · rw [List.map_append, List.nodup_append]
        refine ⟨hn, by simp, fun x hx y hy => ?_⟩
        obtain ⟨r, m, rfl⟩ := List.mem_map.mp hx
        have : y = a := by simpa using hy
        rw [this]
        exact h r m
      · exact perm_rise (hp.trans (insP_perm (a, b) h).symm) hs (insP_sorted (a, b) h2 h)
      · exact congrArg (fun z => some (SD.md l (kvI z))) e1
end
end SJ
set_option maxRecDepth 100000
set_option maxHeartbeats 4000000
/-! WD: kind_of, copied, is_steps, first_states. -/
namespace SJ
open PySem PySem.Spec PyProof.Rows L2
/-- the kinds' classes -/
structure KdC (K : PySem.W.Frag) (mg : Str → Option Value) (CK : Kd → Addr) : Prop where
  mks : ∀ k, Mk0 K (CK k)
  most : mg "Most" = some (.ref (CK .most))
  set : mg "Set" = some (.ref (CK .set))
  once : mg "Once" = some (.ref (CK .once))
  row : mg "Row" = some (.ref (CK .row))
  map : mg "Map" = some (.ref (CK .map))
section
variable {P : Program} {w : World} {K : PySem.W.Frag} {mg : Str → Option Value} {base : Heap} {f : Addr} {fd : FuncData} {CK : Kd → Addr}
def Pre_kind_of : Kd → List SD → Prop := fun k Γ => Γ = [.dat (.str k.w)]
def Post_kind_of (CK : Kd → Addr) : Kd → List SD → SD → Prop := fun k _ c => ∃ a, c = .rg (.ref a) [(a, .ins (CK k) [])]
theorem sc_kind_of : FnScope ["word"] ["word"] (defScope s_kind_of) := ⟨rfl, rfl, rfl, by decide +kernel, rfl, by decide +kernel, by decide +kernel⟩
theorem ok_kind_of (C : KdC K mg CK) (F : FD K d_kind_of f fd) : FnOk P w K mg base CX0 1 f fd ["word"] (SpG K Pre_kind_of (Post_kind_of CK)) := by
  refine fn_slots F sc_kind_of (fun _ Γ (h : Γ = _) => by cases h; rfl) fun cdv A outer s H E hr k Γ (h : Γ = _) => ?_
  cases h
  cases k with
  | most =>
    refine ds_ifT (dt_is (dt_cmp (d_var 0 rfl) d_str o_eqS) (c' := true)) ?_
    exact ds_retMk (C.mks .most) C.most fun a => ⟨a, rfl⟩
  | set =>
    refine ds_skip (dt_is (dt_cmp (d_var 0 rfl) d_str o_eqS) (c' := false)) ?_
    refine ds_ifT (dt_is (dt_cmp (d_var 0 rfl) d_str o_eqS) (c' := true)) ?_
    exact ds_retMk (C.mks .set) C.set fun a => ⟨a, rfl⟩
  | once =>
    refine ds_skip (dt_is (dt_cmp (d_var 0 rfl) d_str o_eqS) (c' := false)) ?_
    refine ds_skip (dt_is (dt_cmp (d_var 0 rfl) d_str o_eqS) (c' := false)) ?_
    refine ds_ifT (dt_is (dt_cmp (d_var 0 rfl) d_str o_eqS) (c' := true)) ?_
    exact ds_retMk (C.mks .once) C.once fun a => ⟨a, rfl⟩
  | row =>
    refine ds_skip (dt_is (dt_cmp (d_var 0 rfl) d_str o_eqS) (c' := false)) ?_
    refine ds_skip (dt_is (dt_cmp (d_var 0 rfl) d_str o_eqS) (c' := false)) ?_
    refine ds_skip (dt_is (dt_cmp (d_var 0 rfl) d_str o_eqS) (c' := false)) ?_
    refine ds_ifT (dt_is (dt_cmp (d_var 0 rfl) d_str o_eqS) (c' := true)) ?_
    exact ds_retMk (C.mks .row) C.row fun a => ⟨a, rfl⟩
  | map =>
    refine ds_skip (dt_is (dt_cmp (d_var 0 rfl) d_str o_eqS) (c' := false)) ?_
    refine ds_skip (dt_is (dt_cmp (d_var 0 rfl) d_str o_eqS) (c' := false)) ?_
    refine ds_skip (dt_is (dt_cmp (d_var 0 rfl) d_str o_eqS) (c' := false)) ?_
    refine ds_skip (dt_is (dt_cmp (d_var 0 rfl) d_str o_eqS) (c' := false)) ?_
    exact ds_retMk (C.mks .map) C.map fun a => ⟨a, rfl⟩
abbrev G_kind_of (P : Program) (w : World) (K : PySem.W.Frag) (mg : Str → Option Value) (base : Heap) (CK : Kd → Addr) : Prop := GFn P w K mg base "kind_of" 1 (SpG K Pre_kind_of (Post_kind_of CK))
/-- kind_of(e) -/
theorem i_kindof {X : Cx} {Γ : List SD} {e : Expr} {pos p : Pos} {k : Kd} (F : G_kind_of X.prog X.w X.K X.mg X.base CK) (hr : Room 1 X.A) (he : DE X Γ e (.str k.w)) (hg : Gl X "kind_of" := by rfl) (hs : starEach [e] X.env = (false, eval e X.env) :: starEach [] X.env := by rfl) (hpl : (backTo pos (starEach [] X.env)).any (·.1) = false := by rfl) :
    IE X Γ (.Call (.Name "kind_of" p) [e] [] pos) (CK k) :=
  (g_call F hr (da_cons he da_nil hs) hg (by decide) hs hpl).imp fun σ H Q ⟨G, env, q⟩ => ⟨G, env, fun G1 H1 vs g1 q1 => by
    obtain ⟨v, rfl, qv⟩ := one q1
    show SpG X.K Pre_kind_of (Post_kind_of CK) ([v] ++ []) H1 _ E0
    rw [List.append_nil]
    have no : ∀ a, ¬ ownG [.dat (.str k.w)] a := fun a z => ownG_none (c0 := .dat (.str k.w)) (ds := []) (fun _ z => z) a z
    refine spG_of (ix := k) (Γa := [.dat (.str k.w)]) rfl (args_env (us := []) (Γx := []) g1.s ⟨v, rfl, qv⟩ rfl (fun i c e => by cases e) (fun i j c e a z => by cases z) fun i c a e => by cases e) fun G' H' Γ' σ' c r p1 s' hq fr => ?_
    obtain ⟨a, rfl⟩ := p1
    obtain ⟨e1, _, rg⟩ := hq
    obtain ⟨z1, u, z2, dx, ws, rfl, z3⟩ := rg _ List.mem_cons_self
    cases z3
    have ha : H1 a = none := (fr a List.mem_cons_self).1.resolve_left (no a)
    obtain ⟨t1, t2⟩ := Gr.take s'.env.s z2 z1
    cases e1
    refine q (upd G' a (.ins (CK k) dx [])) H' a dx (g1.trans ⟨s'.gr.g.trans t1, fun b o z => s'.gr.h b o (by rw [hole_out (no b)]; exact z), t2, fun b o z w => ?_⟩) upd_same
    rw [upd_ne (ne_of_none z ha)]
    exact s'.gr.fr b o (by rw [hole_out (no b)]; exact z) w⟩
def dpt : Nat → PyData → Prop
  | 0, d => scal1 d
  | n + 1, d => scal1 d ∨ ∃ ds, (d = .list ds ∨ d = .tuple ds) ∧ ds.length ≤ 10000 ∧ ∀ x ∈ ds, dpt n x
def Pre_cp (n : Nat) : PyData → List SD → Prop := fun d Γ => dpt n d ∧ Γ = [.dat d]
theorem sc_copied : FnScope ["thing", "part"] ["thing"] (defScope s_copied) := ⟨rfl, rfl, rfl, by decide +kernel, rfl, by decide +kernel, by decide +kernel⟩
theorem f_tupOf {X : Cx} {Γ : List SD} {e : Expr} {ds : List PyData} {pos p : Pos} (hm : X.mg "tuple" = none) (he : FE X Γ e (.list ds)) (hg : Gl X "tuple" := by rfl) (hs : starEach [e] X.env = (false, eval e X.env) :: starEach [] X.env := by rfl) (hpl : (backTo pos (starEach [] X.env)).any (·.1) = false := by rfl) : FE X Γ (.Call (.Name "tuple" p) [e] [] pos) (.tuple ds) :=
  (pe_callTy call_tuple_of hg hm (by decide +kernel) (pa_cons he pa_nil hs) (by decide) (by decide) hs hpl).imp fun σ H Q ⟨G, env, k⟩ => ⟨G, env, fun Gx H1 v fr => by
    obtain ⟨a, xs, rfl, hx, ha⟩ := fr.dq.listE
    refine ⟨a, xs, rfl, .inl ⟨fr.gr.s.seq hx, fun l hl => ?_⟩⟩
    have gn := fr.gr.trans (Gr.new (o := .tup xs) fr.gr.s hl)
    exact k _ _ _ ⟨gn, .tup (.inl (.inl upd_same)) (ha.up (Gr.new (o := .tup xs) fr.gr.s hl).g)⟩⟩
theorem scal_isi {d : PyData} (h : scal1 d) : kitB (tyD d) "list" = some false ∧ kitB (tyD d) "tuple" = some false := by
  cases d with
  | list ds => exact h.elim
  | tuple ds => exact h.elim
  | dict ds => exact h.elim
  | none => exact ⟨rfl, rfl⟩
  | bool b => exact ⟨rfl, rfl⟩
  | int i => exact ⟨rfl, rfl⟩
  | str s => exact ⟨rfl, rfl⟩
theorem ok_copied (T : Tx K mg) (F : FD K d_copied f fd) (hm : mg "copied" = some (.ref f)) (hk : PySem.W.keepIn K (.ref f) = true) (hb : Binds K fd ["thing"] []) : ∀ n : Nat, FnOk P w K mg base CX0 (n + 1) f fd ["thing"] (SpF K (Pre_cp n) id)
  | 0 => by
    refine fn_fresh F sc_copied (fun _ Γ h => by obtain ⟨_, rfl⟩ := h; rfl) fun cdv A outer s H E hr d Γ h => ?_
    obtain ⟨h, rfl⟩ := h
    refine ds_skip (dt_val (d_isi T.f_isinstance (d_var 0 rfl) T.f_list (T := "list") (scal_isi h).1)) ?_
    refine ds_skip (dt_val (d_isi T.f_isinstance (d_var 0 rfl) T.f_tuple (T := "tuple") (scal_isi h).2)) ?_
    exact ds_ret (d_var 0 rfl) (.inl ⟨rfl, h⟩)
  | n + 1 => by
    have ih : GFn P w K mg base "copied" (n + 1) (SpF K (Pre_cp n) id) := gfn_of (ok_copied T F hm hk hb n) hm hk hb
    refine fn_fresh F sc_copied (fun _ Γ h => by obtain ⟨_, rfl⟩ := h; rfl) fun cdv A outer s H E hr d Γ h => ?_
    obtain ⟨h | ⟨ds, h | h, hl, hall⟩, rfl⟩ := h
    · refine ds_skip (dt_val (d_isi T.f_isinstance (d_var 0 rfl) T.f_list (T := "list") (scal_isi h).1)) ?_
      refine ds_skip (dt_val (d_isi T.f_isinstance (d_var 0 rfl) T.f_tuple (T := "tuple") (scal_isi h).2)) ?_
      exact ds_ret (d_var 0 rfl) (.inl ⟨rfl, h⟩)
    · subst h
      refine ds_ifT (dt_val (d_isi T.f_isinstance (d_var 0 rfl) T.f_list (T := "list") (b := true) rfl)) ?_
      refine ds_retF (f_lcN 1 (rs := ds) sc_copied (di_list (d_var 0 rfl)) (by decide +kernel) rfl (by omega) (fun j d e h1 h2 => ?_)) fun Gx => .inr ⟨Gx, rfl⟩
      rw [h1] at h2
      cases h2
      exact fun _ _ _ _ _ => f_call ih hr (da_cons (d_var 1 rfl) da_nil) ⟨hall d (List.mem_of_getElem? h1), rfl⟩
    · subst h
      refine ds_skip (dt_val (d_isi T.f_isinstance (d_var 0 rfl) T.f_list (T := "list") (b := false) rfl)) ?_
      refine ds_ifT (dt_val (d_isi T.f_isinstance (d_var 0 rfl) T.f_tuple (T := "tuple") (b := true) rfl)) ?_
      refine ds_retF (f_tupOf T.f_tuple (f_lcN 1 (rs := ds) sc_copied (di_tup (d_var 0 rfl)) (by decide +kernel) rfl (by omega) (fun j d e h1 h2 => ?_))) fun Gx => .inr ⟨Gx, rfl⟩
      rw [h1] at h2
      cases h2
      exact fun _ _ _ _ _ => f_call ih hr (da_cons (d_var 1 rfl) da_nil) ⟨hall d (List.mem_of_getElem? h1), rfl⟩
abbrev G_copied (P : Program) (w : World) (K : PySem.W.Frag) (mg : Str → Option Value) (base : Heap) (n : Nat) : Prop := GFn P w K mg base "copied" (n + 1) (SpF K (Pre_cp n) id)
def R_is_steps : List PyData → PyData → Prop := fun ds d => ∃ n : Nat, n ≤ 400 ∧ ds = [.int (n : Nat)] ∧ d = .bool true
theorem sc_is_steps : FnScope ["thing"] ["thing"] (defScope s_is_steps) := ⟨rfl, rfl, rfl, by decide +kernel, rfl, by decide +kernel, by decide +kernel⟩
theorem ok_is_steps (T : Tx K mg) (F : FD K d_is_steps f fd) : FnOk P w K mg base CX0 1 f fd ["thing"] (SpD K R_is_steps) := by
  refine fn_data F sc_is_steps (fun ds d h => by obtain ⟨_, _, rfl, _⟩ := h; rfl) fun cdv A outer s H E hr ds d h => ?_
  obtain ⟨n, hn, rfl, rfl⟩ := h
  refine ds_ret (d_and (d_isi T.f_isinstance (d_var 0 rfl) T.f_int (T := "int") (b := true) rfl) (d_and (c := true) (d_is (d_not (d_isi T.f_isinstance (d_var 0 rfl) T.f_bool (T := "bool") (b := false) rfl)) rfl) (d_one (d_chainT d_int (d_var 0 rfl) (d_cst T.c_MOST_STEPS) ?_ ?_)))) rfl
  · have := @o_leI (cxD P w K mg base ["thing"] d_is_steps.qual d_is_steps.scope f cdv A outer s H E) 0 (n : Nat)
    rwa [decide_eq_true (show (0 : Int) ≤ (n : Nat) by omega)] at this
  · have := @o_leI (cxD P w K mg base ["thing"] d_is_steps.qual d_is_steps.scope f cdv A outer s H E) (n : Nat) 400
    rwa [decide_eq_true (show ((n : Nat) : Int) ≤ 400 by omega)] at this
abbrev G_is_steps (P : Program) (w : World) (K : PySem.W.Frag) (mg : Str → Option Value) (base : Heap) : Prop := GFn P w K mg base "is_steps" 1 (SpD K R_is_steps)
/-- boxes by their kinds -/
def kbD (b : Kd × Str) : PyData := .tuple [.str b.1.w, .str b.2]
def Pre_fs : List (Kd × Str) × Option (List (List El)) → List SD → Prop := fun (bs, o) Γ => bs.length ≤ 50 ∧ (match o with
  | none => Γ = [.dat (.list (bs.map kbD)), .dat .none]
  | some ss => ss.length = bs.length ∧ (∀ (i : Nat) b s, bs[i]? = some b → ss[i]? = some s → okSt b.1 s) ∧ Γ = [.dat (.list (bs.map kbD)), .dat (.list (ss.map stD))])
def out_fs : List (Kd × Str) × Option (List (List El)) → PyData := fun (bs, o) => match o with
  | none => .list (bs.map fun _ => stD [])
  | some ss => .list (ss.map stD)
theorem sc_first_states : FnScope ["rows", "boxes", "row", "state"] ["rows", "boxes"] (defScope s_first_states) := ⟨rfl, rfl, rfl, by decide +kernel, rfl, by decide +kernel, by decide +kernel⟩
theorem st_dpt (s : List El) (h : s.length ≤ 10000) : dpt 2 (stD s) := .inr ⟨_, .inl rfl, by rw [List.length_map]; exact h, fun x m => by
  obtain ⟨e, _, rfl⟩ := List.mem_map.mp m
  cases e with
  | n a => exact .inl trivial
  | p a b => exact .inr ⟨_, .inr rfl, by show 2 ≤ 10000; decide, fun y m => by
    rcases List.mem_cons.mp m with rfl | m
    · trivial
    · rw [List.mem_singleton.mp m]
      trivial⟩⟩
theorem ok_first_states (T : Tx K mg) (g1 : G_kind_of P w K mg base CK) (g2 : ∀ k, M_isst P w K mg base (CK k) k) (g3 : G_copied P w K mg base 3) (F : FD K d_first_states f fd) : FnOk P w K mg base CX0 5 f fd ["rows", "boxes"] (SpF K Pre_fs out_fs) := by
  refine fn_fresh F sc_first_states (fun (_, o) Γ h => by cases o <;> first | (obtain ⟨_, rfl⟩ := h; rfl) | (obtain ⟨_, _, _, rfl⟩ := h; rfl)) fun cdv A outer s H E hr (bs, o) Γ h => ?_
  cases o with
  | none =>
    obtain ⟨hb, rfl⟩ := h
    refine ds_ifT (dt_cmp (d_var 1 rfl) d_non o_isN) ?_
    refine ds_retF (f_lcN 2 (rs := bs.map fun _ => stD []) sc_first_states (di_list (d_var 0 rfl)) (by decide +kernel) (by rw [List.length_map, List.length_map]) (by rw [List.length_map]; omega) (fun j d e h1 h2 => ?_)) fun Gx => .inr ⟨Gx, rfl⟩
    rw [List.getElem?_map] at h2
    cases hx : bs[j]? with
    | none => rw [hx] at h2; cases h2
    | some b =>
      rw [hx] at h2
      cases h2
      exact fun _ _ _ _ _ => f_nil
  | some ss =>
    obtain ⟨hb, hl, hall, rfl⟩ := h
    refine ds_skip (dt_cmp (d_var 1 rfl) d_non o_isN) ?_
    refine ds_skip (PW.pt (dw_or (dt_is (dt_not (dt_val (d_isi T.f_isinstance (d_var 1 rfl) T.f_list (T := "list") (b := true) rfl))) rfl) (dw_or1 (dt_is (dt_cmp (d_lenL T.f_len (d_var 1 rfl)) (d_lenL T.f_len (d_var 0 rfl)) o_neI) (by rw [List.length_map, List.length_map, hl]; simp))))) ?_
    refine ds_forP 2 3 (fun i Γ => ∃ x y, Γ = [.dat (.list (bs.map kbD)), .dat (.list (ss.map stD)), x, y]) (di_zip T.f_zip (d_var 0 rfl) (d_var 1 rfl)) ⟨.un, .un, rfl⟩ (fun i d Γ1 hd hi => ?_) (fun Γ1 hi => ?_) sc_first_states.nd
    · obtain ⟨x, y, rfl⟩ := hi
      obtain ⟨da, db, e1, e2, rfl⟩ := zipD_get hd
      rw [List.getElem?_map] at e1 e2
      cases hb1 : bs[i]? with
      | none => rw [hb1] at e1; cases e1
      | some b =>
        cases hs1 : ss[i]? with
        | none => rw [hs1] at e2; cases e2
        | some st =>
          rw [hb1] at e1
          rw [hs1] at e2
          cases e1
          cases e2
          refine ⟨_, _, rfl, ?_⟩
          refine ds_skip (dt_is (dt_not (dt_val (fe_de (f_icall (d := .bool true) (fun a => (a, st)) (m_call (g2 b.1) (hr.mono (by decide)) (i_kindof (k := b.1) g1 (hr.mono (by decide)) (d_ixT (d_var 2 rfl) d_int at0)) (da_cons (d_var 3 rfl) da_nil)) (fun a => ⟨hall i b st hb1 hs1, rfl⟩) fun a => rfl)))) rfl) (ds_nil ⟨_, _, rfl⟩)
    · obtain ⟨x, y, rfl⟩ := hi
      refine ds_retF (f_call (ix := .list (ss.map stD)) g3 hr (da_cons (d_var 1 rfl) da_nil) ⟨.inr ⟨_, .inl rfl, by rw [List.length_map]; omega, fun d m => ?_⟩, rfl⟩) fun Gx => .inr ⟨Gx, rfl⟩
      obtain ⟨st, ms, rfl⟩ := List.mem_map.mp m
      obtain ⟨i, hi⟩ := List.mem_iff_getElem?.mp ms
      have hlt := (List.getElem?_eq_some_iff.mp hi).1
      exact st_dpt st (by have := okSt_len (hall i bs[i] st (List.getElem?_eq_getElem (by omega)) hi); omega)
abbrev G_first_states (P : Program) (w : World) (K : PySem.W.Frag) (mg : Str → Option Value) (base : Heap) : Prop := GFn P w K mg base "first_states" 5 (SpF K Pre_fs out_fs)
end
end SJ
set_option maxRecDepth 100000
set_option maxHeartbeats 4000000
/-! WE: rows, job_called, reckoned. -/
namespace SJ
open PySem PySem.Spec PyProof.Rows L2
section
variable {X : Cx} {Γ : List SD} {P : Po} {rest : List Stmt} {e1 e2 : Expr} {d1 : PyData} {ds0 : List PyData} {l : Addr} {f : Str} {p pos cpos : Pos} {k : Nat} {ι : Type} {Pre : ι → List SD → Prop} {Post : ι → List SD → SD → Prop} {ix : ι}
/-- f(e1, x), x a list of one's own that grows -/
theorem ds_call2M (i : Nat) (F : GFn X.prog X.w X.K X.mg X.base f k (SpG X.K Pre Post)) (hr : Room k X.A) (h1 : DE X Γ e1 d1) (h2 : RE X Γ e2 (.ref l)) (hΓ : Γ[i]? = some (.ml l ds0)) (pre : Pre ix [.dat d1, .ml l ds0]) (post : ∀ Γ' c, Post ix Γ' c → ∃ ds1, Γ'[1]? = some (.ml l ds1) ∧ DS X (Γ.set i (.ml l ds1)) rest P)
    (hg : Gl X f := by rfl) (hdb : (f == ("__debug__" : Str)) = false := by decide) (hs : starEach [e1, e2] X.env = (false, eval e1 X.env) :: starEach [e2] X.env := by rfl) (hs2 : starEach [e2] X.env = (false, eval e2 X.env) :: starEach [] X.env := by rfl)
    (hpl : (backTo cpos (starEach [e2] X.env)).any (·.1) = false := by rfl) (hsw : swapsWith (.Call (.Name f p) [e1, e2] [] cpos) none pos.line X.env = pure false := by rfl) : DS X Γ (.Expr (.Call (.Name f p) [e1, e2] [] cpos) pos :: rest) P :=
  ds_seq (N := fun Γ' => DS X Γ' rest P) ((ps_expr (g_call F hr (pa_cons h1 (pa_cons h2 pa_nil hs2) hs) hg hdb hs hpl) hsw).imp fun D σ H ⟨G0, H0, G, s, k⟩ => ⟨G, s.env, fun G1 H1 y g1 qy => ⟨G1, s.env.up g1, fun G2 H2 g2 => by
    have s2 := (s.up g1).up g2
    show SpG X.K Pre Post ([y, .ref l] ++ []) H2 _ E0
    rw [List.append_nil]
    obtain ⟨o, z1, z2⟩ := s2.env.at_ i _ hΓ
    have z3 := z2.1
    subst z3
    refine spG_of pre (args_env (v := y) (us := [.ref l]) (Γx := [.ml l ds0]) s2.env.s ⟨y, rfl, qy.up g2.g⟩ rfl (fun i c e => ?_) (fun i j c e a q1 q2 _ _ => ?_) fun i c a _ _ z => z) fun G' H' Γ' σ' c r q1 s' hq _ => ?_
    · cases i with
      | zero => cases e; exact ⟨_, rfl, z2⟩
      | succ i => cases e
    · cases i with
      | succ i => cases q1
      | zero =>
        cases j with
        | zero => rfl
        | succ j => cases q2
    · obtain ⟨ds1, e1, h⟩ := post Γ' c q1
      have own : ∀ {a}, ownG [.dat d1, .ml l ds0] a → a = l := fun {a} ⟨i, c, e, z⟩ => by
        match i with
        | 0 => cases e; exact z.elim
        | 1 => cases e; exact z
        | i + 2 => cases e
      obtain ⟨o2, y1, y2⟩ := s'.env.at_ 1 _ e1
      refine k.nx G' H' _ σ h ((g1.g.trans g2.g).trans s'.gr.g) (s2.stepO hΓ (· = l) (fun a z => ⟨s2.nw i _ a hΓ z, fun j e2 hj ej w => hj (s2.env.nd i j _ e2 a hΓ ej z w)⟩) s'.gr.g s'.env.s (fun a o z n => s'.gr.h a o (by rw [hole_out (fun w => n (own w))]; exact z)) (fun a o z n w => s'.gr.fr a o (by rw [hole_out (fun w => n (own w))]; exact z) w) (fun a z => .inr (.inl z)) fun o3 w1 _ => ?_)
      rw [z1] at w1
      cases w1
      exact ⟨rfl, y2.2⟩⟩⟩) fun _ h => h
end
section
variable {P : Program} {w : World} {K : PySem.W.Frag} {mg : Str → Option Value} {base : Heap} {f : Addr} {fd : FuncData}
def R_plain_row : List PyData → PyData → Prop := fun ds d => ∃ p : Put, ds = [p.d] ∧ d = p.d
theorem sc_plain_row : FnScope ["statement"] ["statement"] (defScope s_plain_row) := ⟨rfl, rfl, rfl, by decide +kernel, rfl, by decide +kernel, by decide +kernel⟩
theorem ok_plain_row (T : Tx K mg) (F : FD K d_plain_row f fd) : FnOk P w K mg base CX0 1 f fd ["statement"] (SpD K R_plain_row) := by
  refine fn_data F sc_plain_row (fun ds d h => by obtain ⟨_, rfl, _⟩ := h; rfl) fun cdv A outer s H E hr ds d h => ?_
  obtain ⟨p, rfl, rfl⟩ := h
  refine ds_ifT (dt_is (dt_cmp (d_ixT (d_var 0 rfl) d_int (d := .str "put") at0) d_str o_eqS)) ?_
  refine ds_ret (d_is (d_bin (d_slT (d_var 0 rfl) do_none (do_some d_int) ?_) (d_tup (da_cons (d_listOf T.f_list (d_ixT (d_var 0 rfl) d_int (d := .list (p.ns.map numE)) at3)) da_nil)) (o_catT (fun z => nomatch z) (fun z => nomatch z) (by show 4 ≤ 100000; decide))) rfl) rfl
  show ¬ ((0 : Nat) = 0 ∧ (3 : Nat) = 4)
  decide
abbrev G_plain_row (P : Program) (w : World) (K : PySem.W.Frag) (mg : Str → Option Value) (base : Heap) : Prop := GFn P w K mg base "plain_row" 1 (SpD K R_plain_row)
def Pre_straight : List Put × Addr → List SD → Prop := fun (ps, l) Γ => ps.length ≤ 1000 ∧ Γ = [.dat (.list (ps.map Put.d)), .ml l []]
def Post_straight : List Put × Addr → List SD → SD → Prop := fun (ps, l) Γ' c => c = .dat .none ∧ Γ'[1]? = some (.ml l (ps.map Put.d))
theorem sc_straight : FnScope ["statements", "rows", "statement"] ["statements", "rows"] (defScope s_straight) := ⟨rfl, rfl, rfl, by decide +kernel, rfl, by decide +kernel, by decide +kernel⟩
theorem ok_straight (g1 : G_plain_row P w K mg base) (F : FD K d_straight f fd) : FnOk P w K mg base CX0 2 f fd ["statements", "rows"] (SpG K Pre_straight Post_straight) := by
  refine fn_slots F sc_straight (fun (_, _) Γ h => by obtain ⟨_, rfl⟩ := h; rfl) fun cdv A outer s H E hr (ps, l) Γ h => ?_
  obtain ⟨hz, rfl⟩ := h
  refine ds_forN 2 (fun i Γ => ∃ x, Γ = [.dat (.list (ps.map Put.d)), .ml l ((ps.take i).map Put.d), x]) (di_list (d_var 0 rfl)) ⟨.un, rfl⟩ (fun i d Γ1 hd hi => ?_) (fun Γ1 hi => ?_) sc_straight.nd
  · obtain ⟨x, rfl⟩ := hi
    rw [List.getElem?_map] at hd
    cases hp : ps[i]? with
    | none => rw [hp] at hd; cases hd
    | some p =>
      rw [hp] at hd
      cases hd
      refine ds_ifF (dt_is (dt_cmp (d_ixT (d_var 2 rfl) d_int (d := .str "put") at0) d_str o_eqS)) ?_
      refine ds_ifF (dt_is (dt_cmp (d_ixT (d_var 2 rfl) d_int (d := .str "put") at0) d_str o_eqS)) ?_
      refine ds_app 1 (ds := (ps.take i).map Put.d) (d := p.d) (d_call g1 hr (da_cons (d_var 2 rfl) da_nil) ⟨p, rfl, rfl⟩) (ds_nil (ds_nil (ds_nil ⟨.dat p.d, ?_⟩))) (by rw [List.length_map, List.length_take]; omega)
      rw [List.take_succ, hp, List.map_append]
      rfl
  · obtain ⟨x, rfl⟩ := hi
    refine ds_nil ⟨rfl, ?_⟩
    rw [List.length_map, List.take_length]
    rfl
abbrev G_straight (P : Program) (w : World) (K : PySem.W.Frag) (mg : Str → Option Value) (base : Heap) : Prop := GFn P w K mg base "straight" 2 (SpG K Pre_straight Post_straight)
def R_made : List PyData → PyData → Prop := fun ds d => ∃ g : Pg, g.small ∧ ds = [g.job] ∧ d = .list (g.puts.map Put.d)
theorem sc_made : FnScope ["job", "rows"] ["job"] (defScope s_made) := ⟨rfl, rfl, rfl, by decide +kernel, rfl, by decide +kernel, by decide +kernel⟩
theorem ok_made (g1 : G_straight P w K mg base) (F : FD K d_made f fd) : FnOk P w K mg base CX0 3 f fd ["job"] (SpD K R_made) := by
  refine fn_data F sc_made (fun ds d h => by obtain ⟨_, _, rfl, _⟩ := h; rfl) fun cdv A outer s H E hr ds d h => ?_
  obtain ⟨g, hg, rfl, rfl⟩ := h
  refine ds_newL 1 (fun l => ?_) sc_made.nd
  refine ds_call2M (ix := (g.puts, l)) 1 g1 hr (d_ixT (d_var 0 rfl) d_int (d := .list (g.puts.map Put.d)) at2) (re_var 1) rfl ⟨hg.2.1, rfl⟩ fun Γ' c hp => ⟨_, hp.2, ?_⟩
  exact ds_freeze 1 (ds_ret (d_var 1 rfl) rfl)
abbrev G_made (P : Program) (w : World) (K : PySem.W.Frag) (mg : Str → Option Value) (base : Heap) : Prop := GFn P w K mg base "made" 3 (SpD K R_made)
def R_job_called : List PyData → PyData → Prop := fun ds d => ∃ g : Pg, ds = [g.d, .str "main"] ∧ d = g.job
theorem sc_job_called : FnScope ["program", "name", "job"] ["program", "name"] (defScope s_job_called) := ⟨rfl, rfl, rfl, by decide +kernel, rfl, by decide +kernel, by decide +kernel⟩
theorem ok_job_called (F : FD K d_job_called f fd) : FnOk P w K mg base CX0 1 f fd ["program", "name"] (SpD K R_job_called) := by
  refine fn_data F sc_job_called (fun ds d h => by obtain ⟨_, rfl, _⟩ := h; rfl) fun cdv A outer s H E hr ds d h => ?_
  obtain ⟨g, rfl, rfl⟩ := h
  refine ds_forN 2 (fun i Γ => i = 0 ∧ ∃ x, Γ = [.dat g.d, .dat (.str "main"), x]) (di_list (d_ixT (d_var 0 rfl) d_int (d := .list [g.job]) at1)) ⟨rfl, .un, rfl⟩ (fun i d Γ1 hd hi => ?_) (fun Γ1 hi => ?_) sc_job_called.nd
  · obtain ⟨rfl, x, rfl⟩ := hi
    cases hd
    refine ds_ifT (dt_is (dt_cmp (d_ixT (d_var 2 rfl) d_int (d := .str "main") at0) (d_var 1 rfl) o_eqS)) ?_
    exact ds_ret (d_var 2 rfl) rfl
  · obtain ⟨h, _⟩ := hi
    cases h
abbrev G_job_called (P : Program) (w : World) (K : PySem.W.Frag) (mg : Str → Option Value) (base : Heap) : Prop := GFn P w K mg base "job_called" 1 (SpD K R_job_called)
def Pre_reckoned : Nat × V × V → List SD → Prop := fun (n, v1, v2) Γ => Γ = [.dat (numE n), .raw v1, .raw v2]
theorem sc_reckoned : FnScope ["told", "names", "boxes", "word", "one", "other"] ["told", "names", "boxes"] (defScope s_reckoned) := ⟨rfl, rfl, rfl, by decide +kernel, rfl, by decide +kernel, by decide +kernel⟩
theorem ok_reckoned (F : FD K d_reckoned f fd) : FnOk P w K mg base CX0 1 f fd ["told", "names", "boxes"] (SpF K Pre_reckoned (fun z => .int (z.1 : Nat))) := by
  refine fn_fresh F sc_reckoned (fun (_, _, _) Γ (h : Γ = _) => by cases h; rfl) fun cdv A outer s H E hr (n, v1, v2) Γ (h : Γ = _) => ?_
  cases h
  refine ds_set 3 (d_ixT (d_var 0 rfl) d_int (d := .str "num") at0) ?_ sc_reckoned.nd
  refine ds_ifT (dt_is (dt_cmp (d_var 3 rfl) d_str o_eqS)) ?_
  exact ds_ret (d_ixT (d_var 0 rfl) d_int (d := .int (n : Nat)) at1) (.inl ⟨rfl, trivial⟩)
abbrev G_reckoned (P : Program) (w : World) (K : PySem.W.Frag) (mg : Str → Option Value) (base : Heap) : Prop := GFn P w K mg base "reckoned" 1 (SpF K Pre_reckoned (fun z => .int (z.1 : Nat)))
end
end SJ
set_option maxRecDepth 100000
set_option maxHeartbeats 4000000
/-! WF: threads. -/
namespace SJ
open PySem PySem.Spec PyProof.Rows L2
structure ThrS where
  (t kd nm sd : Addr) (g : Pg) (at_ left used : Nat) (fin : PyData)
def thrF (s : ThrS) : List (Str × Fv) :=
  [("job", .dat s.g.job), ("rows", .dat (.list (s.g.puts.map Put.d))), ("kinds", .raw (.ref s.kd)), ("names", .raw (.ref s.nm)), ("at", .dat (.int (s.at_ : Nat))), ("left", .dat (.int (s.left : Nat))), ("used", .dat (.int (s.used : Nat))), ("said", .raw (.ref s.sd)), ("begun", .dat (.int 0)), ("end", .dat s.fin)]
def thrC (CT : Addr) (s : ThrS) : List (Addr × Cell) := [(s.t, .ins CT (thrF s)), (s.kd, .dk (datK (kvB s.g.boxes))), (s.nm, .dk []), (s.sd, .lst [])]
section
variable {P : Program} {w : World} {K : PySem.W.Frag} {mg : Str → Option Value} {base : Heap} {f : Addr} {fd : FuncData} {CT : Addr}
structure ThrF (K : PySem.W.Frag) (CT : Addr) : Prop where
  job : Fd K CT "job"
  rows : Fd K CT "rows"
  kinds : Fd K CT "kinds"
  names : Fd K CT "names"
  at_ : Fd K CT "at"
  left : Fd K CT "left"
  used : Fd K CT "used"
  said : Fd K CT "said"
  begun : Fd K CT "begun"
  fin : Fd K CT "end"
/-- a thread that is read -/
abbrev thrR (CT : Addr) (s : ThrS) : SD := .st (.ref s.t) (thrC CT s)
theorem thr_lend {X : Cx} {Γ : List SD} {s : ThrS} {i : Nat} (e : Γ[i]? = some (thrR CT s)) : ∀ G H σ, EnvD X.K G H Γ σ → ∃ Gt, Same G Gt ∧ Same Gt H ∧ SOk X.K Gt H (thrR CT s) (some (.ref s.t)) := fun G H σ env => by
  obtain ⟨o, _, z1, z2⟩ := env.at_ i _ e
  exact ⟨G, Same.refl _, env.s, rfl, z2⟩
theorem thr_lendR {X : Cx} {Γ : List SD} {s : ThrS} {i : Nat} {v : V} {A : List (Addr × Cell)} (e : Γ[i]? = some (.rg v (A ++ thrC CT s))) : ∀ G H σ, EnvD X.K G H Γ σ → ∃ Gt, Same G Gt ∧ Same Gt H ∧ SOk X.K Gt H (thrR CT s) (some (.ref s.t)) := fun G H σ env => by
  obtain ⟨Gt, t1, t2, t3⟩ := env.lend e
  exact ⟨Gt, t1, t2, rfl, fun p m => t3 p (List.mem_append_right _ m)⟩
-- line
def Pre_line (CT : Addr) : ThrS × Put → List SD → Prop := fun (s, p) Γ => s.fin = .none ∧ s.g.puts[s.at_]? = some p ∧ Γ = [thrR CT s]
theorem rows_at {s : ThrS} {p : Put} (h : s.g.puts[s.at_]? = some p) : atI (s.g.puts.map Put.d) ((s.at_ : Nat) : Int) = some p.d := atI_nat (j := s.at_) (by rw [List.getElem?_map, h]; rfl)
theorem sc_line : FnScope ["self"] ["self"] (defScope m_Thread_line) := ⟨rfl, rfl, rfl, by decide +kernel, rfl, by decide +kernel, by decide +kernel⟩
theorem ok_line (B : ThrF K CT) (F : FD K d_Thread_line f fd) : FnOk P w K mg base CX0 1 f fd ["self"] (SpF K (Pre_line CT) (fun z => .int (z.2.line : Nat))) := by
  refine fn_fresh F sc_line (fun (_, _) Γ h => by obtain ⟨_, _, rfl⟩ := h; rfl) fun cdv A outer s0 H E hr (s, p) Γ h => ?_
  obtain ⟨h1, h2, rfl⟩ := h
  refine ds_skip (dt_is (dt_cmp (d_fld 0 0 (re_var 0) B.fin) d_non o_notN) (by rw [h1]; rfl)) ?_
  exact ds_ret (d_ixT (d_ixL (d_fld 0 0 (re_var 0) B.rows) (d_fld 0 0 (re_var 0) B.at_) (rows_at h2)) d_int (d := .int (p.line : Nat)) at1) (.inl ⟨rfl, trivial⟩)
abbrev M_line (P : Program) (w : World) (K : PySem.W.Frag) (mg : Str → Option Value) (base : Heap) (CT : Addr) : Prop := MFn P w K mg base CT "line" 1 (SpF K (Pre_line CT) (fun z => .int (z.2.line : Nat)))
-- number
def Pre_number (CT : Addr) : ThrS × Nat → List SD → Prop := fun (s, n) Γ => Γ = [thrR CT s, .dat (numE n)]
theorem sc_number : FnScope ["self", "expression"] ["self", "expression"] (defScope m_Thread_number) := ⟨rfl, rfl, rfl, by decide +kernel, rfl, by decide +kernel, by decide +kernel⟩
theorem ok_number (B : ThrF K CT) (g1 : G_reckoned P w K mg base) (F : FD K d_Thread_number f fd) : FnOk P w K mg base CX0 2 f fd ["self", "expression"] (SpF K (Pre_number CT) (fun z => .int (z.2 : Nat))) := by
  refine fn_fresh F sc_number (fun (_, _) Γ (h : Γ = _) => by cases h; rfl) fun cdv A outer s0 H E hr (s, n) Γ (h : Γ = _) => ?_
  cases h
  exact ds_ret (d := .int (n : Nat)) (fe_de (f_call3 (fun a => (n, V.ref s.nm, V.ref a)) g1 hr (d_var 1 rfl) (re_fld 0 0 (re_var 0) B.names) (fun a => rfl) fun a => rfl)) (.inl ⟨rfl, trivial⟩)
abbrev M_number (P : Program) (w : World) (K : PySem.W.Frag) (mg : Str → Option Value) (base : Heap) (CT : Addr) : Prop := MFn P w K mg base CT "number" 2 (SpF K (Pre_number CT) (fun z => .int (z.2 : Nat)))
-- wish
def Pre_wish (CT : Addr) : ThrS → List SD → Prop := fun s Γ => s.fin = .none ∧ (∃ p, s.g.puts[s.at_]? = some p) ∧ Γ = [thrR CT s]
theorem sc_wish : FnScope ["self", "row", "number"] ["self"] (defScope m_Thread_wish) := ⟨rfl, rfl, rfl, by decide +kernel, rfl, by decide +kernel, by decide +kernel⟩
theorem ok_wish (B : ThrF K CT) (F : FD K d_Thread_wish f fd) : FnOk P w K mg base CX0 1 f fd ["self"] (SpF K (Pre_wish CT) (fun _ => .none)) := by
  refine fn_fresh F sc_wish (fun _ Γ h => by obtain ⟨_, _, rfl⟩ := h; rfl) fun cdv A outer s0 H E hr s Γ h => ?_
  obtain ⟨h1, ⟨p, h2⟩, rfl⟩ := h
  refine ds_skip (dt_is (dt_cmp (d_fld 0 0 (re_var 0) B.fin) d_non o_notN) (by rw [h1]; rfl)) ?_
  refine ds_set 1 (d_ixL (d_fld 0 0 (re_var 0) B.rows) (d_fld 0 0 (re_var 0) B.at_) (rows_at h2)) ?_ sc_wish.nd
  refine ds_skip (PW.pt (dw_andF (dt_is (dt_cmp (d_ixT (d_var 1 rfl) d_int (d := .str "put") at0) d_str o_eqS)))) ?_
  refine ds_skip (dt_is (dt_cmp (d_ixT (d_var 1 rfl) d_int (d := .str "put") at0) d_str o_eqS)) ?_
  refine ds_skip (dt_is (dt_cmp (d_ixT (d_var 1 rfl) d_int (d := .str "put") at0) d_str o_eqS)) ?_
  exact ds_ret d_non (.inl ⟨rfl, trivial⟩)
abbrev M_wish (P : Program) (w : World) (K : PySem.W.Frag) (mg : Str → Option Value) (base : Heap) (CT : Addr) : Prop := MFn P w K mg base CT "wish" 1 (SpF K (Pre_wish CT) (fun _ => .none))
-- needed
def Pre_needed (CT : Addr) : ThrS × Put → List SD → Prop := fun (s, p) Γ => p.ns.length ≤ 1000 ∧ Γ = [thrR CT s, .dat p.d]
theorem sc_needed : FnScope ["self", "row", "part"] ["self", "row"] (defScope m_Thread_needed) := ⟨rfl, rfl, rfl, by decide +kernel, rfl, by decide +kernel, by decide +kernel⟩
theorem ok_needed (B : ThrF K CT) (g1 : M_number P w K mg base CT) (F : FD K d_Thread_needed f fd) : FnOk P w K mg base CX0 3 f fd ["self", "row"] (SpF K (Pre_needed CT) (fun z => .list (intsD z.2.ns))) := by
  refine fn_fresh F sc_needed (fun (_, _) Γ h => by obtain ⟨_, rfl⟩ := h; rfl) fun cdv A outer s0 H E hr (s, p) Γ h => ?_
  obtain ⟨hz, rfl⟩ := h
  refine ds_skip (dt_is (dt_cmp (d_ixT (d_var 1 rfl) d_int (d := .str "put") at0) d_str o_eqS)) ?_
  refine ds_ifT (dt_is (dt_cmp (d_ixT (d_var 1 rfl) d_int (d := .str "put") at0) d_str o_eqS)) ?_
  refine ds_retF (d := .list (intsD p.ns)) (f_lcN 2 sc_needed (di_list (d_ixT (d_var 1 rfl) d_int (d := .list (p.ns.map numE)) at3)) (by decide +kernel) (by unfold intsD; rw [List.length_map, List.length_map]) (by rw [List.length_map]; omega) (fun j d e h1 h2 => ?_)) fun Gx => .inr ⟨Gx, rfl⟩
  unfold intsD at h2
  rw [List.getElem?_map] at h1 h2
  cases hx : p.ns[j]? with
  | none => rw [hx] at h1; cases h1
  | some n =>
    rw [hx] at h1 h2
    cases h1
    cases h2
    exact fun _ _ _ _ _ => f_mcall (ix := (s, n)) (thrR CT s) 0 0 (m_call g1 hr (re_var 0) (da_cons (d_var 2 rfl) da_nil)) (fun _ z => z) (thr_lend (i := 0) rfl) rfl rfl rfl
abbrev M_needed (P : Program) (w : World) (K : PySem.W.Frag) (mg : Str → Option Value) (base : Heap) (CT : Addr) : Prop := MFn P w K mg base CT "needed" 3 (SpF K (Pre_needed CT) (fun z => .list (intsD z.2.ns)))
-- settle
def setS (s : ThrS) : ThrS := if s.at_ = s.g.puts.length then { s with fin := .tuple [.str "done", .int (s.g.last : Nat)] } else s
def Pre_settle (CT : Addr) : ThrS → List SD → Prop := fun s Γ => s.fin = .none ∧ s.at_ ≤ s.g.puts.length ∧ 1 ≤ s.left ∧ Γ = [.rg (.ref s.t) (thrC CT s)]
def Post_settle (CT : Addr) : ThrS → List SD → SD → Prop := fun s Γ' c => c = .dat .none ∧ Γ'[0]? = some (.rg (.ref s.t) (thrC CT (setS s)))
theorem sc_settle : FnScope ["self"] ["self"] (defScope m_Thread_settle) := ⟨rfl, rfl, rfl, by decide +kernel, rfl, by decide +kernel, by decide +kernel⟩
theorem ok_settle (T : Tx K mg) (B : ThrF K CT) (F : FD K d_Thread_settle f fd) : FnOk P w K mg base CX0 1 f fd ["self"] (SpG K (Pre_settle CT) (Post_settle CT)) := by
  refine fn_slots F sc_settle (fun _ Γ h => by obtain ⟨_, _, _, rfl⟩ := h; rfl) fun cdv A outer s0 H E hr s Γ h => ?_
  obtain ⟨h1, h2, h3, rfl⟩ := h
  have lt_ : ∀ (b : Bool), decide (((s.at_ : Nat) : Int) < ((s.g.puts.map Put.d).length : Nat)) = decide (s.at_ < s.g.puts.length) := fun _ => by
    rw [List.length_map, decide_eq_decide]
    omega
  refine ds_while (fun m Γ => Γ = [.rg (.ref s.t) (thrC CT s)]) 0 rfl (fun m Γ1 hi => ⟨false, ?_, fun z => (nomatch z), fun _ => ?_⟩)
  · subst hi
    by_cases hlt : s.at_ < s.g.puts.length
    · have hp : s.g.puts[s.at_]? = some s.g.puts[s.at_] := List.getElem?_eq_getElem hlt
      refine PW.pt (dw_and (dt_is (dt_cmp (d_fld 0 0 (re_var 0) B.at_) (d_lenL T.f_len (d_fld 0 0 (re_var 0) B.rows)) o_ltI) ((lt_ true).trans (decide_eq_true hlt))) (dw_and1 (dt_is (dt_cmp (d_ixT (d_ixL (d_fld 0 0 (re_var 0) B.rows) (d_fld 0 0 (re_var 0) B.at_) (rows_at hp)) d_int (d := .str "put") at0) d_str o_eqS) rfl)))
    · exact PW.pt (dw_andF (dt_is (dt_cmp (d_fld 0 0 (re_var 0) B.at_) (d_lenL T.f_len (d_fld 0 0 (re_var 0) B.rows)) o_ltI) ((lt_ true).trans (decide_eq_false hlt))))
  · subst hi
    refine ds_skip (dt_is (dt_cmp (d_fld 0 0 (re_var 0) B.fin) d_non o_notN) (by rw [h1]; rfl)) ?_
    by_cases he : s.at_ = s.g.puts.length
    · refine ds_ifT (dt_is (dt_cmp (d_fld 0 0 (re_var 0) B.at_) (d_lenL T.f_len (d_fld 0 0 (re_var 0) B.rows)) o_eqI) (by rw [List.length_map, he]; simp)) ?_
      refine ds_fset 0 0 (d_tup (da_cons d_str (da_cons (d_ixT (d_fld 0 0 (re_var 0) B.job) d_int (d := .int (s.g.last : Nat)) at4) da_nil))) (re_var 0) B.fin ?_
      refine ds_nil (ds_nil ⟨rfl, ?_⟩)
      unfold setS
      rw [if_pos he]
      rfl
    · refine ds_ifF (dt_is (dt_cmp (d_fld 0 0 (re_var 0) B.at_) (d_lenL T.f_len (d_fld 0 0 (re_var 0) B.rows)) o_eqI) (by rw [List.length_map, beq_eq_false_iff_ne]; omega)) ?_
      refine ds_skip (dt_is (dt_cmp (d_fld 0 0 (re_var 0) B.left) d_int o_eqI) (beq_eq_false_iff_ne.mpr (by omega))) ?_
      refine ds_nil (ds_nil ⟨rfl, ?_⟩)
      unfold setS
      rw [if_neg he]
      rfl
abbrev M_settle (P : Program) (w : World) (K : PySem.W.Frag) (mg : Str → Option Value) (base : Heap) (CT : Addr) : Prop := MFn P w K mg base CT "settle" 1 (SpG K (Pre_settle CT) (Post_settle CT))
end
end SJ
set_option maxRecDepth 100000
set_option maxHeartbeats 4000000
/-! WG: what threads do. -/
namespace SJ
open PySem PySem.Spec PyProof.Rows L2
/-- a deed: a put into a box, with its list -/
def deedC (t l : Addr) (nm : Str) (ds : List PyData) : SD := .rg (.ref t) [(t, .tup [.raw (.str "put"), .raw (.str nm), .raw (.ref l)]), (l, .lst (ds.map .dat))]
section
variable {X : Cx} {Γ : List SD} {P : Po} {rest : List Stmt} {e1 e2 call : Expr} {v : V} {p l C : Addr} {fs : List (Str × Fv)} {ds : List PyData} {nm m : Str} {pos tp : Pos} {kk : Nat} {B : List (Addr × Cell)} {ι : Type} {Pre : ι → List SD → Prop} {Post : ι → List SD → SD → Prop} {ix : ι}
theorem dats_fv {K : PySem.W.Frag} {G : Hp} : ∀ {vs : List V} {ds : List PyData}, DqAll K G vs ds → Paired (FvOk K G) vs (ds.map .dat)
  | _, _, .nil => .nil
  | _, _, .cons a t => .cons a (dats_fv t)
theorem ds_retDeed (j i : Nat) (h1 : DE X Γ e1 (.str "put")) (h2 : DE X Γ e2 (.str nm)) (hp : PE X call (tMeth C m (SpG X.K Pre Post) [] E0 (tR X.K Γ (.ref p)) (tCons (tD X.K Γ (.str nm)) (tCons (tR X.K Γ (.ref l)) tNil)))) (hj : Γ[j]? = some (.rg v B)) (hi : Γ[i]? = some (.ml l ds)) (hne : j ≠ i)
    (hc : cellAt Γ j 0 = some (p, .ins C fs)) (hm : fs.lookup m = none) (pre : Pre ix [.rg (.ref p) B, .dat (.str nm), .ml l ds])
    (post : ∀ Γ' c, Post ix Γ' c → ∃ B' l' es, Γ'[0]? = some (.rg (.ref p) B') ∧ c = .ml l' es ∧ ∀ t', P.rt ((Γ.set i .un).set j (.rg v B')) (deedC t' l' nm es))
    (hs1 : starEach [e1, e2, call] X.env = (false, eval e1 X.env) :: starEach [e2, call] X.env := by rfl) (hs2 : starEach [e2, call] X.env = (false, eval e2 X.env) :: starEach [call] X.env := by rfl) (hs3 : starEach [call] X.env = (false, eval call X.env) :: starEach [] X.env := by rfl) :
    DS X Γ (.Return (some (.Tuple [e1, e2, call] kk tp)) pos :: rest) P :=
  (pss_cons (ps_ret (pe_tup (pa_cons h1 (pa_cons h2 (pa_cons hp pa_nil hs3) hs2) hs1))) pss_never).imp fun D σ H ⟨G0, H0, G, s, k⟩ => ⟨G, s.env, fun G1 H1 v1 g1 q1 => ⟨G1, s.env.up g1, fun G2 H2 v2 g2 q2 => ⟨G2, (s.env.up g1).up g2, fun G3 H3 g3 => by
    have s3 := ((s.up g1).up g2).up g3
    obtain ⟨dx, ws, z1, z2⟩ := recv s3.env hc hm
    refine ⟨p, dx, ws, rfl, z1, z2, G3, s3.env, fun G4 H4 y g4 qy => ⟨G4, s3.env.up g4, fun G5 H5 g5 => ?_⟩⟩
    have s5 := (s3.up g4).up g5
    show SpG X.K Pre Post (V.ref p :: ([y, .ref l] ++ [])) H5 _ E0
    rw [List.append_nil]
    obtain ⟨o, w1, w2⟩ := s5.env.at_ i _ hi
    have w3 := w2.1
    subst w3
    have s6 := s5.known (c' := .un) hi (fun _ z => z) fun _ _ _ => trivial
    have hj6 : (Γ.set i .un)[j]? = some (.rg v ([] ++ B)) := by rw [List.getElem?_set_ne (Ne.symm hne)]; exact hj
    refine s6.mcall (us := [y, .ref l]) (Γx := [.dat (.str nm), .ml l ds]) hj6 rfl (fun n c e => ?_) (fun n n' c e a x1 x2 y1 y2 => ?_) (fun n c a e z => ?_) pre (fun Γ' c z => let ⟨B', _, _, h, _⟩ := post Γ' c z; ⟨B', h⟩) fun G' H' Γ' B' c r q hB sg st hq fr => ?_
    · match n with
      | 0 => cases e; exact ⟨y, rfl, y, rfl, qy.up g5.g⟩
      | 1 => cases e; exact ⟨_, rfl, w2⟩
      | n + 2 => cases e
    · match n, n' with
      | 0, _ => cases x1; exact y1.elim
      | 1, 0 => cases x2; exact y2.elim
      | 1, 1 => rfl
      | 1, n' + 2 => cases x2
      | n + 2, _ => cases x1
    · match n with
      | 0 => cases e; exact z.elim
      | 1 =>
        cases e
        refine ⟨s5.nw i _ a hi z, fun n2 e2 en w => ?_⟩
        rcases set_at en with ⟨_, rfl⟩ | ⟨hn, en⟩
        · exact w
        · exact hn (s5.env.nd i n2 _ e2 a hi en z w)
      | n + 2 => cases e
    · obtain ⟨B2, l', es, hB2, rfl, hrt⟩ := post Γ' c q
      rw [hB] at hB2
      cases hB2
      obtain ⟨e3, hGl, vs, hHl, hvs⟩ := hq
      cases e3
      refine ⟨by show 3 ≤ _; decide, fun t' ht' => ?_⟩
      have e4 := (q1.up g2.g).strE
      have e5 := q2.strE
      subst e4 e5
      have gt := Gr.tmp (o := .tup [.str "put", .str nm, .ref l']) st.env.s ht'
      refine k.rt G' _ _ σ _ _ (hrt t') (((((g1.g.trans g2.g).trans g3.g).trans g4.g).trans g5.g).trans sg) (st.up gt) ⟨rfl, ?_, fun p m => ?_⟩ fun a z => ?_
      · show [t', l'].Nodup
        rw [List.nodup_cons]
        refine ⟨fun m => ?_, by simp⟩
        have := List.mem_singleton.mp m
        rw [this, hHl] at ht'
        cases ht'
      · rcases List.mem_cons.mp m with rfl | m
        · exact ⟨st.env.s.free ht', _, upd_same, _, rfl, .cons rfl (.cons rfl (.cons rfl .nil))⟩
        · obtain rfl := List.mem_singleton.mp m
          refine ⟨hGl, _, ?_, vs, rfl, dats_fv hvs⟩
          rw [upd_ne (ne_of_none hHl ht')]
          exact hHl
      · have z : a ∈ [t', l'] := z
        rcases List.mem_cons.mp z with rfl | z
        · exact ⟨st.gr.h.free ht', fun n e en => st.none_ad ht' n e en⟩
        · obtain rfl := List.mem_singleton.mp z
          exact fr a rfl⟩⟩⟩
/-- x = o.m(e1, y), y a list of one's own that is handed over -/
theorem ds_msetM (i : Nat) {x : Str} {d1 : PyData} {pos' : Pos} (j i2 : Nat) (hp : PE X call (tMeth C m (SpG X.K Pre Post) [] E0 (tR X.K Γ (.ref p)) (tCons (tD X.K Γ d1) (tCons (tR X.K Γ (.ref l)) tNil)))) (hj : Γ[j]? = some (.rg v B)) (hi2 : Γ[i2]? = some (.ml l ds)) (hne : j ≠ i2)
    (hc : cellAt Γ j 0 = some (p, .ins C fs)) (hm : fs.lookup m = none) (pre : Pre ix [.rg (.ref p) B, .dat d1, .ml l ds])
    (post : ∀ Γ' c, Post ix Γ' c → ∃ B', Γ'[0]? = some (.rg (.ref p) B') ∧ DS X (((Γ.set i2 .un).set j (.rg v B')).set i c) rest P) (hN : X.N.Nodup) (hi : X.N[i]? = some x := by rfl) (hx : Loc X.env.scope x := by first | exact .inl rfl | exact .inr rfl)
    (hs : swapsWith call (some (.Name x pos')) pos.line X.env = pure false := by rfl) (hf : X.fn x = true ∨ X.env.scope.names.lookup x = some .local := by first | exact .inl rfl | exact .inr rfl) : DS X Γ (.Assign [.Name x pos'] call pos :: rest) P :=
  ds_seq (N := fun Γ' => DS X Γ' rest P) ((ps_set (i := i) hN hi hx hp hs hf).imp fun D σ H ⟨G0, H0, G, s, k⟩ => ⟨G, s.env, fun G3 H3 g3 => by
    have s3 := s.up g3
    obtain ⟨dx, ws, z1, z2⟩ := recv s3.env hc hm
    refine ⟨p, dx, ws, rfl, z1, z2, G3, s3.env, fun G4 H4 y g4 qy => ⟨G4, s3.env.up g4, fun G5 H5 g5 => ?_⟩⟩
    have s5 := (s3.up g4).up g5
    show SpG X.K Pre Post (V.ref p :: ([y, .ref l] ++ [])) H5 _ E0
    rw [List.append_nil]
    obtain ⟨o, w1, w2⟩ := s5.env.at_ i2 _ hi2
    have w3 := w2.1
    subst w3
    have s6 := s5.known (c' := .un) hi2 (fun _ z => z) fun _ _ _ => trivial
    have hj6 : (Γ.set i2 .un)[j]? = some (.rg v ([] ++ B)) := by rw [List.getElem?_set_ne (Ne.symm hne)]; exact hj
    refine s6.mcall (us := [y, .ref l]) (Γx := [.dat d1, .ml l ds]) hj6 rfl (fun n c e => ?_) (fun n n' c e a x1 x2 y1 y2 => ?_) (fun n c a e z => ?_) pre (fun Γ' c z => let ⟨B', h, _⟩ := post Γ' c z; ⟨B', h⟩) fun G' H' Γ' B' c r q hB sg st hq fr => ?_
    · match n with
      | 0 => cases e; exact ⟨y, rfl, y, rfl, qy.up g5.g⟩
      | 1 => cases e; exact ⟨_, rfl, w2⟩
      | n + 2 => cases e
    · match n, n' with
      | 0, _ => cases x1; exact y1.elim
      | 1, 0 => cases x2; exact y2.elim
      | 1, 1 => rfl
      | 1, n' + 2 => cases x2
      | n + 2, _ => cases x1
    · match n with
      | 0 => cases e; exact z.elim
      | 1 =>
        cases e
        refine ⟨s5.nw i2 _ a hi2 z, fun n2 e2 en w => ?_⟩
        rcases set_at en with ⟨_, rfl⟩ | ⟨hn, en⟩
        · exact w
        · exact hn (s5.env.nd i2 n2 _ e2 a hi2 en z w)
      | n + 2 => cases e
    · obtain ⟨B2, hB2, h2⟩ := post Γ' c q
      rw [hB] at hB2
      cases hB2
      exact k.nx G' H' _ _ h2 (((g3.g.trans g4.g).trans g5.g).trans sg) (st.put i hq fun a z => ⟨(fr a z).1, fun n e _ en => (fr a z).2 n e en⟩)⟩) fun _ h => h
end
/-- what a put joins, by its box's word -/
def putEl (kind : Str) (ns : List Nat) : List El := if kind = "map" then (match ns with
  | [a, b] => [.p a b]
  | _ => []) else numS ns
structure IxSt where
  (s : ThrS) (kind nm : Str) (ns : List Nat) (l : Addr)
section
variable {P : Program} {w : World} {K : PySem.W.Frag} {mg : Str → Option Value} {base : Heap} {f : Addr} {fd : FuncData} {CT : Addr}
def okIx : IxSt → Prop := fun ⟨s, kind, nm, ns, _⟩ => getD (kvB s.g.boxes) (.inr nm) = some (.str kind) ∧ (kind = "map" → ns.length = 2)
def Pre_state_of (CT : Addr) : IxSt → List SD → Prop := fun ⟨s, kind, nm, ns, l⟩ Γ => okIx ⟨s, kind, nm, ns, l⟩ ∧ Γ = [.rg (.ref s.t) (thrC CT s), .dat (.str nm), .ml l (intsD ns)]
def Post_state_of (CT : Addr) : IxSt → List SD → SD → Prop := fun ⟨s, kind, nm, ns, l⟩ Γ' c => Γ'[0]? = some (.rg (.ref s.t) (thrC CT s)) ∧ ∃ l', c = .ml l' ((putEl kind ns).map El.d)
theorem sc_state_of : FnScope ["self", "box", "numbers"] ["self", "box", "numbers"] (defScope m_Thread_state_of) := ⟨rfl, rfl, rfl, by decide +kernel, rfl, by decide +kernel, by decide +kernel⟩
theorem ok_state_of (B : ThrF K CT) (F : FD K d_Thread_state_of f fd) : FnOk P w K mg base CX0 1 f fd ["self", "box", "numbers"] (SpG K (Pre_state_of CT) (Post_state_of CT)) := by
  refine fn_slots F sc_state_of (fun ⟨_, _, _, _, _⟩ Γ h => by obtain ⟨_, rfl⟩ := h; rfl) fun cdv A outer s0 H E hr ⟨s, kind, nm, ns, l⟩ Γ h => ?_
  obtain ⟨⟨h1, h2⟩, rfl⟩ := h
  have hu := hu_of hr
  by_cases hk : kind = "map"
  · subst hk
    match ns, h2 rfl with
    | [a, b], _ =>
      refine ds_ifT (dt_is (dt_cmp (d_dk (k := .inr nm) (d := .str "map") 0 1 (re_fld 0 0 (re_var 0) B.kinds) (d_var 1 rfl) (getFv_datK h1) hu) d_str o_eqS) (by decide +kernel)) ?_
      exact ds_retML (da_cons (d_tup (da_cons (d_ixM 2 (re_var 2) rfl d_int (d := .int (a : Nat)) at0) (da_cons (d_ixM 2 (re_var 2) rfl d_int (d := .int (b : Nat)) at1) da_nil))) da_nil) (by show 1 ≤ 100000; decide) fun l' => ⟨rfl, l', rfl⟩
  · refine ds_skip (dt_is (dt_cmp (d_dk (k := .inr nm) (d := .str kind) 0 1 (re_fld 0 0 (re_var 0) B.kinds) (d_var 1 rfl) (getFv_datK h1) hu) d_str o_eqS) (beq_eq_false_iff_ne.mpr hk)) ?_
    refine ds_retM 2 (ds := intsD ns) (re_var 2) rfl ⟨rfl, l, ?_⟩
    unfold putEl
    rw [if_neg hk]
    have := stD_nums ns
    unfold stD at this
    rw [PyData.list.inj this]
abbrev M_state_of (P : Program) (w : World) (K : PySem.W.Frag) (mg : Str → Option Value) (base : Heap) (CT : Addr) : Prop := MFn P w K mg base CT "state_of" 1 (SpG K (Pre_state_of CT) (Post_state_of CT))
def Pre_plain (CT : Addr) : IxSt × Nat → List SD → Prop := fun (⟨s, kind, nm, ns, l⟩, ln) Γ => okIx ⟨s, kind, nm, ns, l⟩ ∧ Γ = [.rg (.ref s.t) (thrC CT s), .dat (Put.d ⟨ln, nm, ns⟩), .ml l (intsD ns)]
def Post_plain (CT : Addr) : IxSt × Nat → List SD → SD → Prop := fun (⟨s, kind, nm, ns, l⟩, ln) Γ' c => Γ'[0]? = some (.rg (.ref s.t) (thrC CT s)) ∧ ∃ t' l', c = deedC t' l' nm ((putEl kind ns).map El.d)
theorem sc_plain : FnScope ["self", "row", "numbers"] ["self", "row", "numbers"] (defScope m_Thread_plain) := ⟨rfl, rfl, rfl, by decide +kernel, rfl, by decide +kernel, by decide +kernel⟩
theorem ok_plain (B : ThrF K CT) (g1 : M_state_of P w K mg base CT) (F : FD K d_Thread_plain f fd) : FnOk P w K mg base CX0 2 f fd ["self", "row", "numbers"] (SpG K (Pre_plain CT) (Post_plain CT)) := by
  refine fn_slots F sc_plain (fun (⟨_, _, _, _, _⟩, _) Γ h => by obtain ⟨_, rfl⟩ := h; rfl) fun cdv A outer s0 H E hr (⟨s, kind, nm, ns, l⟩, ln) Γ h => ?_
  obtain ⟨h1, rfl⟩ := h
  refine ds_skip (dt_is (dt_cmp (d_ixT (d_var 1 rfl) d_int (d := .str "put") at0) d_str o_eqS)) ?_
  refine ds_ifT (dt_is (dt_cmp (d_ixT (d_var 1 rfl) d_int (d := .str "put") at0) d_str o_eqS)) ?_
  exact ds_retDeed (ix := ⟨s, kind, nm, ns, l⟩) 0 2 d_str (d_ixT (d_var 1 rfl) d_int (d := .str nm) at2) (m_call g1 hr (re_var 0) (pa_cons (d_ixT (d_var 1 rfl) d_int (d := .str nm) at2) (pa_cons (re_var 2) pa_nil))) rfl rfl (by decide) rfl rfl ⟨h1, rfl⟩ fun Γ' c ⟨q1, l', q2⟩ => ⟨_, l', _, q1, q2, fun t' => ⟨rfl, t', l', rfl⟩⟩
abbrev M_plain (P : Program) (w : World) (K : PySem.W.Frag) (mg : Str → Option Value) (base : Heap) (CT : Addr) : Prop := MFn P w K mg base CT "plain" 2 (SpG K (Pre_plain CT) (Post_plain CT))
abbrev stepS (s : ThrS) : ThrS := { s with at_ := s.at_ + 1, left := s.left - 1, used := s.used + 1 }
/-- one deed further -/
def nextS (s : ThrS) : ThrS := setS (stepS s)
def Pre_deed (CT : Addr) : ThrS × Put × Str → List SD → Prop := fun (s, p, kind) Γ => s.fin = .none ∧ s.g.puts[s.at_]? = some p ∧ 2 ≤ s.left ∧ p.ns.length ≤ 1000 ∧ getD (kvB s.g.boxes) (.inr p.nm) = some (.str kind) ∧ (kind = "map" → p.ns.length = 2) ∧ Γ = [.rg (.ref s.t) (thrC CT s), .dat .none]
def Post_deed (CT : Addr) : ThrS × Put × Str → List SD → SD → Prop := fun (s, p, kind) Γ' c => Γ'[0]? = some (.rg (.ref s.t) (thrC CT (nextS s))) ∧ ∃ t' l', c = deedC t' l' p.nm ((putEl kind p.ns).map El.d)
theorem sc_deed : FnScope ["self", "passed", "row", "wish", "numbers", "done"] ["self", "passed"] (defScope m_Thread_deed) := ⟨rfl, rfl, rfl, by decide +kernel, rfl, by decide +kernel, by decide +kernel⟩
theorem ok_deed (B : ThrF K CT) (g1 : M_wish P w K mg base CT) (g2 : M_needed P w K mg base CT) (g3 : M_plain P w K mg base CT) (g4 : M_settle P w K mg base CT) (F : FD K d_Thread_deed f fd) : FnOk P w K mg base CX0 4 f fd ["self", "passed"] (SpG K (Pre_deed CT) (Post_deed CT)) := by
  refine fn_slots F sc_deed (fun (_, _, _) Γ h => by obtain ⟨_, _, _, _, _, _, rfl⟩ := h; rfl) fun cdv A outer s0 H E hr (s, p, kind) Γ h => ?_
  obtain ⟨h1, h2, h3, h4, h5, h6, rfl⟩ := h
  refine ds_set 2 (d_ixL (d_fld 0 0 (re_var 0) B.rows) (d_fld 0 0 (re_var 0) B.at_) (rows_at h2)) ?_ sc_deed.nd
  refine ds_set 3 (d := .none) (fe_de (f_mcall (ix := s) (thrR CT s) 0 0 (mc0 (m_call0 g1 (hr.mono (by decide)) (re_var 0)) fun σ H Q Q' w h => tR_mono w h) (fun _ z => z) (thr_lendR (A := []) (i := 0) rfl) ⟨h1, ⟨p, h2⟩, rfl⟩ rfl rfl)) ?_ sc_deed.nd
  refine ds_faugA 0 0 (i := (s.used : Nat)) (i2 := 1) (re_var 0) d_int B.used rfl ?_ rfl rfl
  refine ds_faugS 0 0 (i := (s.left : Nat)) (i2 := 1) (re_var 0) d_int B.left rfl ?_ rfl rfl
  have e1 : (.int ((s.used : Nat) + 1) : PyData) = .int ((s.used + 1 : Nat) : Nat) := by congr 1
  have e2 : (.int ((s.left : Nat) - 1) : PyData) = .int ((s.left - 1 : Nat) : Nat) := by congr 1; omega
  have e3 : (.int ((s.at_ : Nat) + 1) : PyData) = .int ((s.at_ + 1 : Nat) : Nat) := by congr 1
  rw [e1, e2]
  refine ds_setFL 4 (ds := intsD p.ns) (f_mcall (ix := ({ s with left := s.left - 1, used := s.used + 1 }, p)) (thrR CT { s with left := s.left - 1, used := s.used + 1 }) 0 0 (m_call g2 hr (re_var 0) (da_cons (d_var 2 rfl) da_nil)) (fun _ z => z) (thr_lendR (A := []) (i := 0) rfl) ⟨h4, rfl⟩ rfl rfl) (scal_ints _) (fun l => ?_) sc_deed.nd
  refine ds_skip (dt_noneInM 4 (ns := p.ns.map fun n : Nat => (n : Int)) d_non (re_var 4) (by show some (SD.ml l (intsD p.ns)) = _; rw [ints_int])) ?_
  refine ds_faugA 0 0 (i := (s.at_ : Nat)) (i2 := 1) (re_var 0) d_int B.at_ rfl ?_ rfl rfl
  rw [e3]
  refine ds_ifF (dt_cmp (d_var 3 rfl) d_non o_notN) ?_
  refine ds_ifF (dt_is (dt_cmp (d_ixT (d_var 2 rfl) d_int (d := .str "put") at0) d_str o_eqS)) ?_
  refine ds_msetM (ix := (⟨{ s with at_ := s.at_ + 1, left := s.left - 1, used := s.used + 1 }, kind, p.nm, p.ns, l⟩, p.line)) 5 0 4 (m_call g3 (hr.mono (by decide)) (re_var 0) (pa_cons (d_var 2 rfl) (pa_cons (re_var 4) pa_nil))) rfl rfl (by decide) rfl rfl ⟨⟨h5, h6⟩, rfl⟩ (fun Γ' c ⟨q1, t', l', q2⟩ => ⟨_, q1, ?_⟩) sc_deed.nd
  subst q2
  refine ds_nil (ds_nil ?_)
  have hat := (List.getElem?_eq_some_iff.mp h2).1
  refine ds_mexpr (ix := stepS s) [] (thrC CT (stepS s)) 0 0 (mc0 (m_call0 g4 (hr.mono (by decide)) (re_var 0)) fun σ H Q Q' w h => tR_mono w h) (show Pre_settle CT (stepS s) _ from ⟨h1, hat, by show 1 ≤ s.left - 1; omega, rfl⟩) rfl rfl rfl fun Γ' c ⟨_, q⟩ => ⟨_, q, ?_⟩
  exact ds_retR 5 (re_var 5) rfl ⟨rfl, t', l', rfl⟩
abbrev M_deed (P : Program) (w : World) (K : PySem.W.Frag) (mg : Str → Option Value) (base : Heap) (CT : Addr) : Prop := MFn P w K mg base CT "deed" 4 (SpG K (Pre_deed CT) (Post_deed CT))
/-- a new thread -/
def newS (t kd nm sd : Addr) (g : Pg) (left : Nat) : ThrS := setS ⟨t, kd, nm, sd, g, 0, left, 0, .none⟩
def Pre_Thread (CT : Addr) : Addr × Pg × Nat → List SD → Prop := fun (t, g, n) Γ => g.good ∧ 1 ≤ n ∧ Γ = [.rg (.ref t) [(t, .ins CT [])], .dat g.d, .dat (.str "main"), .dat (.list []), .dat (.int (n : Nat))]
def Post_Thread (CT : Addr) : Addr × Pg × Nat → List SD → SD → Prop := fun (t, g, n) Γ' c => c = .dat .none ∧ ∃ kd nm sd, Γ'[0]? = some (.rg (.ref t) (thrC CT (newS t kd nm sd g n)))
theorem sc_Thread_init : FnScope ["self", "program", "name", "numbers", "steps", "kind", "box", "param", "number"] ["self", "program", "name", "numbers", "steps"] (defScope m_Thread_init) := ⟨rfl, rfl, rfl, by decide +kernel, rfl, by decide +kernel, by decide +kernel⟩
theorem kvD_take {bs : List (Str × Str)} {i : Nat} {b : Str × Str} (h : bs[i]? = some b) : datK (kvB (bs.take i)) ++ [(Sum.inr b.2, .dat (.str b.1))] = datK (kvB (bs.take (i + 1))) := by
  rw [← kvB_take h]
  unfold datK
  rw [List.map_append]
  rfl
theorem getFv_datK_none : ∀ {kvs : List (Key × PyData)} {k : Key}, getD kvs k = none → getFv (datK kvs) k = none
  | [], _, _ => rfl
  | q :: kvs, k, h => by
    by_cases e : q.1 = k
    · unfold getD at h
      rw [List.find?_cons, decide_eq_true e] at h
      cases h
    · have h2 : getD kvs k = none := by
        unfold getD at h ⊢
        rw [List.find?_cons, decide_eq_false e] at h
        exact h
      have ih := getFv_datK_none h2
      unfold getFv datK at ih ⊢
      rw [List.map_cons, List.find?_cons, decide_eq_false e]
      exact ih
theorem ok_Thread_init (T : Tx K mg) (B : ThrF K CT) (g1 : G_job_called P w K mg base) (g2 : G_made P w K mg base) (g3 : M_settle P w K mg base CT) (F : FD K d_Thread_init f fd) : FnOk P w K mg base CX0 4 f fd ["self", "program", "name", "numbers", "steps"] (SpG K (Pre_Thread CT) (Post_Thread CT)) := by
  refine fn_slots F sc_Thread_init (fun (_, _, _) Γ h => by obtain ⟨_, _, rfl⟩ := h; rfl) fun cdv A outer s0 H E hr (t, g, n) Γ h => ?_
  obtain ⟨hg, hn, rfl⟩ := h
  have hu := hu_of hr
  refine ds_fset 0 0 (d := g.job) (d_call g1 (hr.mono (by decide)) (da_cons (d_var 1 rfl) (da_cons (d_var 2 rfl) da_nil)) ⟨g, rfl, rfl⟩) (re_var 0) B.job ?_
  refine ds_fset 0 0 (d := .list (g.puts.map Put.d)) (d_call g2 hr (da_cons (d_fld 0 0 (re_var 0) B.job) da_nil) ⟨g, hg.small, rfl, rfl⟩) (re_var 0) B.rows ?_
  refine ds_fsetD 0 0 (re_var 0) B.kinds fun kd => ?_
  refine ds_forP 5 6 (fun i Γ => ∃ x y, Γ = [.rg (.ref t) [(t, .ins CT [("job", .dat g.job), ("rows", .dat (.list (g.puts.map Put.d))), ("kinds", .raw (.ref kd))]), (kd, .dk (datK (kvB (g.boxes.take i))))], .dat g.d, .dat (.str "main"), .dat (.list []), .dat (.int (n : Nat)), x, y, .un, .un]) (di_list (d_ixT (d_var 1 rfl) d_int (d := .list (g.boxes.map boxD)) at0)) ⟨.un, .un, rfl⟩ (fun i d Γ1 hd hi => ?_) (fun Γ' hi => ?_) sc_Thread_init.nd
  · obtain ⟨x, y, rfl⟩ := hi
    rw [List.getElem?_map] at hd
    cases hb : g.boxes[i]? with
    | none => rw [hb] at hd; cases hd
    | some bx =>
      rw [hb] at hd
      cases hd
      refine ⟨.str bx.1, .str bx.2, rfl, ?_⟩
      refine ds_cput 0 1 (k := .inr bx.2) (d := .str bx.1) (kvs := datK (kvB (g.boxes.take i))) (re_fld 0 0 (re_var 0) B.kinds) (d_var 6 rfl) (d_var 5 rfl) (getFv_datK_none (getD_kvB_none (notin_take hg.nd hb))) (ds_nil ⟨.dat (.str bx.1), .dat (.str bx.2), ?_⟩) ?_ hu rfl rfl
      · rw [kvD_take hb]
        rfl
      · unfold datK kvB
        rw [List.length_map, List.length_map, List.length_take]
        have := hg.small.1
        omega
  · obtain ⟨x, y, rfl⟩ := hi
    rw [show g.boxes.take (g.boxes.map boxD).length = g.boxes by rw [List.length_map, List.take_length]]
    refine ds_fsetD 0 0 (re_var 0) B.names fun nm => ?_
    refine ds_forP 7 8 (fun i Γ => i = 0 ∧ Γ = [.rg (.ref t) [(t, .ins CT [("job", .dat g.job), ("rows", .dat (.list (g.puts.map Put.d))), ("kinds", .raw (.ref kd)), ("names", .raw (.ref nm))]), (kd, .dk (datK (kvB g.boxes))), (nm, .dk [])], .dat g.d, .dat (.str "main"), .dat (.list []), .dat (.int (n : Nat)), x, y, .un, .un]) (di_zip T.f_zip (d_ixT (d_fld 0 0 (re_var 0) B.job) d_int (d := .list []) at1) (d_var 3 rfl)) ⟨rfl, rfl⟩ (fun i d Γ1 hd hi => by cases hd) (fun Γ' hi => ?_) sc_Thread_init.nd
    obtain ⟨_, rfl⟩ := hi
    refine ds_fset 0 0 d_int (re_var 0) B.at_ ?_
    refine ds_fset 0 0 (d_var 4 rfl) (re_var 0) B.left ?_
    refine ds_fset 0 0 d_int (re_var 0) B.used ?_
    refine ds_fsetL 0 0 (re_var 0) B.said fun sd => ?_
    refine ds_fset 0 0 d_int (re_var 0) B.begun ?_
    refine ds_fset 0 0 d_non (re_var 0) B.fin ?_
    refine ds_mexpr (ix := ⟨t, kd, nm, sd, g, 0, n, 0, .none⟩) [] (thrC CT ⟨t, kd, nm, sd, g, 0, n, 0, .none⟩) 0 0 (mc0 (m_call0 g3 (hr.mono (by decide)) (re_var 0)) fun σ H Q Q' w h => tR_mono w h) ⟨rfl, Nat.zero_le _, hn, rfl⟩ rfl rfl rfl fun Γ' c ⟨_, q⟩ => ⟨_, q, ?_⟩
    exact ds_nil ⟨rfl, kd, nm, sd, rfl⟩
abbrev M_Thread (P : Program) (w : World) (K : PySem.W.Frag) (mg : Str → Option Value) (base : Heap) (CT : Addr) : Prop := KFn P w K mg base "Thread" CT 4 (SpG K (Pre_Thread CT) (Post_Thread CT))
end
end SJ
set_option maxRecDepth 100000
set_option maxHeartbeats 4000000
/-! WH: houses that are read. -/
namespace SJ
open PySem PySem.Spec PyProof.Rows L2
structure BxS where
  (k : Kd) (nm : Str) (l : Addr) (st : List El) (es : List (PyData × PyData × List El))
def entD (e : PyData × PyData × List El) : PyData := .tuple [e.1, e.2.1, stD e.2.2]
structure HouS where
  (h sr hd pt pa : Addr) (g : Pg) (bx : List BxS) (torn : Fv) (th : ThrS)
def houF (s : HouS) : List (Str × Fv) := [("program", .dat s.g.d), ("sorts", .raw (.ref s.sr)), ("held", .raw (.ref s.hd)), ("puts", .raw (.ref s.pt)), ("parts", .raw (.ref s.pa)), ("torn", s.torn)]
def sortsK (CK : Kd → Addr) (bx : List BxS) : List (Key × Fv) := bx.map fun b => (Sum.inr b.nm, .inst (CK b.k))
def heldK (bx : List BxS) : List (Key × Fv) := bx.map fun b => (Sum.inr b.nm, .dat (stD b.st))
def putsK (bx : List BxS) : List (Key × Fv) := bx.map fun b => (Sum.inr b.nm, .raw (.ref b.l))
def putsC (bx : List BxS) : List (Addr × Cell) := bx.map fun b => (b.l, .lst ((b.es.map entD).map .dat))
def houA (CK : Kd → Addr) (CH : Addr) (s : HouS) : List (Addr × Cell) :=
  [(s.h, .ins CH (houF s)), (s.sr, .dk (sortsK CK s.bx)), (s.hd, .dk (heldK s.bx)), (s.pt, .dk (putsK s.bx)), (s.pa, .dt [([], .raw (.ref s.th.t))])] ++ putsC s.bx
def houC (CK : Kd → Addr) (CH CT : Addr) (s : HouS) : List (Addr × Cell) := houA CK CH s ++ thrC CT s.th
structure HouOk (s : HouS) : Prop where
  good : s.g.good
  boxes : s.g.boxes = s.bx.map fun b => (b.k.w, b.nm)
  st : ∀ b ∈ s.bx, okSt b.k b.st
  es : ∀ b ∈ s.bx, ∀ e ∈ b.es, okSt b.k e.2.2
  few : ∀ b ∈ s.bx, b.es.length ≤ 1000
  th : s.th.g = s.g
theorem hou_thr (CK : Kd → Addr) (CH CT : Addr) (s : HouS) : (houC CK CH CT s)[5 + s.bx.length]? = some (s.th.t, .ins CT (thrF s.th)) := by
  have e : (houA CK CH s).length = 5 + s.bx.length := by
    unfold houA putsC
    rw [List.length_append, List.length_map]
    rfl
  unfold houC
  rw [List.getElem?_append_right (by omega), e, Nat.sub_self]
  rfl
section
variable {bx : List BxS} {b : BxS}
theorem getFv_map {f : BxS → Fv} : ∀ {bx : List BxS} {b : BxS}, (bx.map (·.nm)).Nodup → b ∈ bx → getFv (bx.map fun b => (Sum.inr b.nm, f b)) (.inr b.nm) = some (f b)
  | [], b, _, h => by cases h
  | c :: bx, b, hn, h => by
    rw [List.map_cons, List.nodup_cons] at hn
    rcases List.mem_cons.mp h with rfl | h
    · unfold getFv
      rw [List.map_cons, List.find?_cons, decide_eq_true rfl]
      rfl
    · have h1 : ¬ (Sum.inr c.nm : Key) = Sum.inr b.nm := fun e => hn.1 (by rw [Sum.inr.inj e]; exact List.mem_map.mpr ⟨b, h, rfl⟩)
      have ih := getFv_map (f := f) hn.2 h
      unfold getFv at ih ⊢
      rw [List.map_cons, List.find?_cons, decide_eq_false h1]
      exact ih
end
theorem HouOk.nd {s : HouS} (h : HouOk s) : (s.bx.map (·.nm)).Nodup := by
  have := h.good.nd
  rw [h.boxes, List.map_map] at this
  exact this
section
variable {P : Program} {w : World} {K : PySem.W.Frag} {mg : Str → Option Value} {base : Heap} {f : Addr} {fd : FuncData} {CK : Kd → Addr} {CH CT : Addr}
structure HouFd (K : PySem.W.Frag) (CH : Addr) : Prop where
  program : Fd K CH "program"
  sorts : Fd K CH "sorts"
  held : Fd K CH "held"
  puts : Fd K CH "puts"
  parts : Fd K CH "parts"
  torn : Fd K CH "torn"
abbrev houR (CK : Kd → Addr) (CH CT : Addr) (s : HouS) : SD := .st (.ref s.h) (houC CK CH CT s)
theorem thr_of_hou {X : Cx} {Γ : List SD} {s : HouS} {i : Nat} (e : Γ[i]? = some (houR CK CH CT s)) : ∀ G H σ, EnvD X.K G H Γ σ → ∃ Gt, Same G Gt ∧ Same Gt H ∧ SOk X.K Gt H (thrR CT s.th) (some (.ref s.th.t)) := fun G H σ env => by
  obtain ⟨o, _, z1, z2⟩ := env.at_ i _ e
  exact ⟨G, Same.refl _, env.s, rfl, fun p m => z2 p (List.mem_append_right _ m)⟩
-- goes
def Pre_goes (CK : Kd → Addr) (CH CT : Addr) : HouS → List SD → Prop := fun s Γ => (s.th.fin = .none → ∃ p, s.th.g.puts[s.th.at_]? = some p) ∧ Γ = [houR CK CH CT s, .raw (.ref s.th.t)]
theorem sc_goes : FnScope ["self", "thread", "wish"] ["self", "thread"] (defScope m_House_goes) := ⟨rfl, rfl, rfl, by decide +kernel, rfl, by decide +kernel, by decide +kernel⟩
theorem ok_goes (B : ThrF K CT) (g1 : M_wish P w K mg base CT) (F : FD K d_House_goes f fd) : FnOk P w K mg base CX0 2 f fd ["self", "thread"] (SpF K (Pre_goes CK CH CT) (fun s => .bool (isNoneD s.th.fin))) := by
  refine fn_fresh F sc_goes (fun _ Γ h => by obtain ⟨_, rfl⟩ := h; rfl) fun cdv A outer s0 H E hr s Γ h => ?_
  obtain ⟨h1, rfl⟩ := h
  cases hf : isNoneD s.th.fin with
  | false =>
    refine ds_ifT (dt_is (dt_cmp (d_fld 0 (5 + s.bx.length) (re_var 1) B.fin (hou_thr CK CH CT s)) d_non o_notN) (by rw [hf]; rfl)) ?_
    exact ds_ret d_bl (.inl ⟨rfl, trivial⟩)
  | true =>
    have hn : s.th.fin = .none := by
      cases q : s.th.fin with
      | none => rfl
      | _ => rw [q] at hf; cases hf
    refine ds_skip (dt_is (dt_cmp (d_fld 0 (5 + s.bx.length) (re_var 1) B.fin (hou_thr CK CH CT s)) d_non o_notN) (by rw [hf]; rfl)) ?_
    refine ds_set 2 (d := .none) (fe_de (f_mcall (ix := s.th) (thrR CT s.th) 0 (5 + s.bx.length) (mc0 (m_call0 g1 hr (re_var 1)) fun σ H Q Q' w h => tR_mono w h) (fun _ z => z) (thr_of_hou (i := 0) rfl) ⟨hn, h1 hn, rfl⟩ (hou_thr CK CH CT s) rfl)) ?_ sc_goes.nd
    refine ds_ifT (dt_cmp (d_var 2 rfl) d_non o_isN) ?_
    exact ds_ret d_bl (.inl ⟨rfl, trivial⟩)
abbrev M_goes (P : Program) (w : World) (K : PySem.W.Frag) (mg : Str → Option Value) (base : Heap) (CK : Kd → Addr) (CH CT : Addr) : Prop := MFn P w K mg base CH "goes" 2 (SpF K (Pre_goes CK CH CT) (fun s => .bool (isNoneD s.th.fin)))
end
end SJ
set_option maxRecDepth 100000
set_option maxHeartbeats 4000000
/-! WI: against, clashed. -/
namespace SJ
open PySem PySem.Spec PyProof.Rows L2
theorem hou_put (CK : Kd → Addr) (CH CT : Addr) {s : HouS} {i : Nat} {b : BxS} (h : s.bx[i]? = some b) : (houC CK CH CT s)[5 + i]? = some (b.l, .lst ((b.es.map entD).map .dat)) := by
  have hlt := (List.getElem?_eq_some_iff.mp h).1
  have e : (houA CK CH s)[5 + i]? = some (b.l, .lst ((b.es.map entD).map .dat)) := by
    unfold houA putsC
    rw [List.getElem?_append_right (by show 5 ≤ 5 + i; omega), show 5 + i - _ = i by show 5 + i - 5 = i; omega, List.getElem?_map, h]
    rfl
  unfold houC
  rw [List.getElem?_append_left (List.getElem?_eq_some_iff.mp e).1]
  exact e
section
variable {P : Program} {w : World} {K : PySem.W.Frag} {mg : Str → Option Value} {base : Heap} {f : Addr} {fd : FuncData} {CK : Kd → Addr} {CH CT : Addr}
structure IxAg where
  (s : HouS) (i : Nat) (b : BxS) (other : List El)
def Pre_against (CK : Kd → Addr) (CH CT : Addr) : IxAg → List SD → Prop := fun ⟨s, i, b, other⟩ Γ => HouOk s ∧ s.bx[i]? = some b ∧ okPut b.k other ∧ Γ = [houR CK CH CT s, .dat (.str b.nm), .dat (stD other)]
def Post_against : IxAg → List SD → SD → Prop := fun _ _ c => ∃ q v1 v2, c = .rg (.ref q) [(q, .tup [.raw v1, .raw v2])]
theorem sc_against : FnScope ["self", "name", "state", "path", "line", "earlier"] ["self", "name", "state"] (defScope m_House_against) := ⟨rfl, rfl, rfl, by decide +kernel, rfl, by decide +kernel, by decide +kernel⟩
theorem ok_against (B : HouFd K CH) (g1 : ∀ k, M_join P w K mg base (CK k) k) (F : FD K d_House_against f fd) : FnOk P w K mg base CX0 2 f fd ["self", "name", "state"] (SpG K (Pre_against CK CH CT) Post_against) := by
  refine fn_slots F sc_against (fun ⟨_, _, _, _⟩ Γ h => by obtain ⟨_, _, _, rfl⟩ := h; rfl) fun cdv A outer s0 H E hr ⟨s, i, b, other⟩ Γ h => ?_
  obtain ⟨hs, hb, ho, rfl⟩ := h
  have hu := hu_of hr
  have hm := List.mem_of_getElem? hb
  refine ds_forT 3 4 5 (fun i Γ => ∃ x y z, Γ = [houR CK CH CT s, .dat (.str b.nm), .dat (stD other), x, y, z]) (di_listS (ds := b.es.map entD) 0 (5 + i) (re_dk (k := .inr b.nm) 0 3 (re_fld 0 0 (re_var 0) B.puts) (d_var 1 rfl) (getFv_map hs.nd hm) hu) rfl (hou_put CK CH CT hb)) ⟨.un, .un, .un, rfl⟩ (fun j d Γ1 hd hj => ?_) (fun Γ1 hj => ?_) sc_against.nd
  · obtain ⟨x, y, z, rfl⟩ := hj
    rw [List.getElem?_map] at hd
    cases he : b.es[j]? with
    | none => rw [he] at hd; cases hd
    | some e =>
      rw [he] at hd
      cases hd
      refine ⟨e.1, e.2.1, stD e.2.2, rfl, ?_⟩
      refine ds_if (dt_cmp (fe_de (f_icall (d := optD (joinK b.k e.2.2 other)) (fun a => (a, e.2.2, other)) (m_call (g1 b.k) hr (i_dk (k := .inr b.nm) 0 1 (re_fld 0 0 (re_var 0) B.sorts) (d_var 1 rfl) (getFv_map (f := fun b => .inst (CK b.k)) hs.nd hm) hu) (da_cons (d_var 5 rfl) (da_cons (d_var 2 rfl) da_nil))) (fun a => ⟨hs.es b hm e (List.mem_of_getElem? he), ho, rfl⟩) fun a => rfl)) d_non o_isN) (fun _ => ?_) fun _ => ?_
      · exact ds_retT2 (d_var 3 rfl) (d_var 4 rfl) fun q v1 v2 => ⟨q, v1, v2, rfl⟩
      · exact ds_nil (ds_nil ⟨_, _, _, rfl⟩)
  · obtain ⟨x, y, z, rfl⟩ := hj
    exact ds_retT2 d_non d_int fun q v1 v2 => ⟨q, v1, v2, rfl⟩
abbrev M_against (P : Program) (w : World) (K : PySem.W.Frag) (mg : Str → Option Value) (base : Heap) (CK : Kd → Addr) (CH CT : Addr) : Prop := MFn P w K mg base CH "against" 2 (SpG K (Pre_against CK CH CT) Post_against)
end
end SJ
set_option maxRecDepth 100000
set_option maxHeartbeats 4000000
/-! WJ: what is put joins. -/
namespace SJ
open PySem PySem.Spec PyProof.Rows L2
theorem map_set_same {α β : Type} {f : α → β} {xs : List α} {i : Nat} {b b' : α} (h : xs[i]? = some b) (e : f b' = f b) : (xs.set i b').map f = xs.map f := by
  refine List.ext_getElem? fun m => ?_
  rw [List.getElem?_map, List.getElem?_map]
  by_cases hm : i = m
  · subst hm
    rw [List.getElem?_set_self (List.getElem?_eq_some_iff.mp h).1, h]
    exact congrArg some e
  · rw [List.getElem?_set_ne hm]
def setB (s : HouS) (i : Nat) (b : BxS) : HouS := { s with bx := s.bx.set i b }
section
variable {CK : Kd → Addr} {CH CT : Addr} {s : HouS} {i : Nat} {b : BxS}
theorem nd_setB (hn : (s.bx.map (·.nm)).Nodup) (hb : s.bx[i]? = some b) {b' : BxS} (e : b'.nm = b.nm) : ((setB s i b').bx.map (·.nm)).Nodup := by
  rw [show (setB s i b').bx.map (·.nm) = s.bx.map (·.nm) from map_set_same hb e]
  exact hn
theorem held_set (hn : (s.bx.map (·.nm)).Nodup) (hb : s.bx[i]? = some b) (st : List El) : ((heldK s.bx).map fun q => if q.1 = Sum.inr b.nm then (q.1, .dat (stD st)) else q) = heldK (setB s i { b with st := st }).bx := by
  unfold heldK setB
  rw [List.map_map]
  refine List.ext_getElem? fun m => ?_
  rw [List.getElem?_map, List.getElem?_map]
  by_cases hm : i = m
  · subst hm
    rw [List.getElem?_set_self (List.getElem?_eq_some_iff.mp hb).1, hb]
    show some (if (Sum.inr b.nm : Key) = Sum.inr b.nm then _ else _) = _
    rw [if_pos rfl]
    rfl
  · rw [List.getElem?_set_ne hm]
    cases hx : s.bx[m]? with
    | none => rfl
    | some c =>
      show some (if (Sum.inr c.nm : Key) = Sum.inr b.nm then _ else _) = some _
      have ne : ¬ (Sum.inr c.nm : Key) = Sum.inr b.nm := fun z => by
        have z1 : (s.bx.map (·.nm))[i]? = some b.nm := by rw [List.getElem?_map, hb]; rfl
        have z2 : (s.bx.map (·.nm))[m]? = some b.nm := by rw [List.getElem?_map, hx, ← Sum.inr.inj z]; rfl
        exact hm (nd_ix hn z1 z2)
      rw [if_neg ne]
theorem hou_held (hn : (s.bx.map (·.nm)).Nodup) (hb : s.bx[i]? = some b) (st : List El) : (houC CK CH CT s).set 2 (s.hd, .dk ((heldK s.bx).map fun q => if q.1 = Sum.inr b.nm then (q.1, .dat (stD st)) else q)) = houC CK CH CT (setB s i { b with st := st }) := by
  rw [held_set hn hb st]
  have e1 : sortsK CK (setB s i { b with st := st }).bx = sortsK CK s.bx := map_set_same hb rfl
  have e2 : putsK (setB s i { b with st := st }).bx = putsK s.bx := map_set_same hb rfl
  have e3 : putsC (setB s i { b with st := st }).bx = putsC s.bx := map_set_same hb rfl
  unfold houC houA
  rw [e1, e2, e3]
  rfl
theorem hou_puts (hb : s.bx[i]? = some b) (e : PyData × PyData × List El) : (houC CK CH CT s).set (5 + i) (b.l, .lst ((b.es.map entD).map .dat ++ [.dat (entD e)])) = houC CK CH CT (setB s i { b with es := b.es ++ [e] }) := by
  have e1 : sortsK CK (setB s i { b with es := b.es ++ [e] }).bx = sortsK CK s.bx := map_set_same hb rfl
  have e2 : putsK (setB s i { b with es := b.es ++ [e] }).bx = putsK s.bx := map_set_same hb rfl
  have e3 : heldK (setB s i { b with es := b.es ++ [e] }).bx = heldK s.bx := map_set_same hb rfl
  have e4 : putsC (setB s i { b with es := b.es ++ [e] }).bx = (putsC s.bx).set i (b.l, .lst ((b.es.map entD).map .dat ++ [.dat (entD e)])) := by
    unfold putsC setB
    rw [List.map_set]
    simp only [List.map_append]
    rfl
  have hlt := (List.getElem?_eq_some_iff.mp hb).1
  unfold houC houA
  rw [e1, e2, e3, e4, List.set_append_left _ _ (by unfold putsC; rw [List.length_append, List.length_map]; show 5 + i < 5 + _; omega), List.set_append_right _ _ (by show 5 ≤ 5 + i; omega)]
  rw [show 5 + i - _ = i by show 5 + i - 5 = i; omega]
  rfl
end
structure IxJo where
  (s : HouS) (i : Nat) (b : BxS) (ln : Nat) (b0 t l : Addr) (other : List El)
section
variable {P : Program} {w : World} {K : PySem.W.Frag} {mg : Str → Option Value} {base : Heap} {f : Addr} {fd : FuncData} {CK : Kd → Addr} {CH CT : Addr}
/-- the house behind a put -/
def HouNext (s : HouS) (i : Nat) (b : BxS) (ln : Nat) (other : List El) (s' : HouS) : Prop := match joinK b.k b.st other with
  | none => ∃ q, s' = { s with torn := .raw (.ref q) }
  | some st => s' = setB s i { b with st := st, es := b.es ++ [(.tuple [], .int (ln : Nat), other)] }
def Pre_Hjoin (CK : Kd → Addr) (CH CT : Addr) : IxJo → List SD → Prop := fun ⟨s, i, b, ln, b0, t, l, other⟩ Γ => HouOk s ∧ s.bx[i]? = some b ∧ okPut b.k other ∧ Γ = [.rg (.ref s.h) (houC CK CH CT s), .st (.ref b0) [(b0, .tup [])], .dat (.int (ln : Nat)), deedC t l b.nm (other.map El.d)]
def Post_Hjoin (CK : Kd → Addr) (CH CT : Addr) : IxJo → List SD → SD → Prop := fun ⟨s, i, b, ln, b0, t, l, other⟩ Γ' c => c = .dat .none ∧ Γ'[3]? = some (deedC t l b.nm (other.map El.d)) ∧ ∃ s', HouNext s i b ln other s' ∧ Γ'[0]? = some (.rg (.ref s.h) (houC CK CH CT s'))
theorem sc_Hjoin : FnScope ["self", "path", "line", "deed", "name", "state"] ["self", "path", "line", "deed"] (defScope m_House_join) := ⟨rfl, rfl, rfl, by decide +kernel, rfl, by decide +kernel, by decide +kernel⟩
/-- the path () -/
theorem d_unit {X : Cx} {Γ : List SD} {b0 : Addr} {pos : Pos} (i : Nat) {x : Str} (hΓ : Γ[i]? = some (.st (.ref b0) [(b0, .tup [])])) (hN : X.N[i]? = some x := by rfl) (hv : Vis X.env.scope x := by first | exact Or.inl rfl | exact Or.inr (Or.inl rfl) | exact Or.inr (Or.inr rfl))
    (hd : (x == ("__debug__" : Str)) = false := by decide) (hcd : (x == ("__classdict__" : Str)) = false := by decide) : DE X Γ (.Name x pos) (.tuple []) :=
  (pe_var (i := i) hN hv hd hcd).imp fun σ H Q ⟨G, env, k⟩ => by
    obtain ⟨o, z1, z2, z3⟩ := env.at_ i _ hΓ
    subst z2
    obtain ⟨u, w1, ws, rfl, w2⟩ := z3 _ List.mem_cons_self
    cases w2
    exact ⟨_, z1, k G H _ (Gr.refl env.s) (.tup (.inl (.inl w1)) .nil)⟩
/-- self.against(name, deed[2]) -/
theorem e_against {X : Cx} {Γ : List SD} {call : Expr} {s : HouS} {i : Nat} {b : BxS} {l : Addr} {other : List El} (j n : Nat) (hp : PE X call (tMeth CH "against" (SpG X.K (Pre_against CK CH CT) Post_against) [] E0 (tR X.K Γ (.ref s.h)) (tCons (tD X.K Γ (.str b.nm)) (tCons (tR X.K Γ (.ref l)) tNil))))
    (h0 : Γ[0]? = some (.rg (.ref s.h) (houC CK CH CT s))) (hc : cellAt Γ j n = some (l, .lst ((other.map El.d).map .dat))) (hs : HouOk s) (hb : s.bx[i]? = some b) (ho : okPut b.k other) : PE X call (tT2 X.K Γ) :=
  hp.imp fun σ H Q ⟨G, env, k⟩ => ⟨G, env, fun G1 H1 g1 => by
    have env1 := env.up g1
    have c0 : cellAt Γ 0 0 = some (s.h, .ins CH (houF s)) := by unfold cellAt; rw [h0]; rfl
    obtain ⟨dx, ws0, z1, z2⟩ := recv env1 c0 (m := "against") rfl
    refine ⟨s.h, dx, ws0, rfl, z1, z2, G1, env1, fun G2 H2 y g2 qy => ⟨G2, env1.up g2, fun G3 H3 g3 => ?_⟩⟩
    have env3 := (env1.up g2).up g3
    obtain ⟨u, h1, ws, rfl, q⟩ := env3.cell hc
    obtain ⟨_, _, _, rg⟩ := env3.at_ 0 _ h0
    obtain ⟨Gt, t1, t2, t3⟩ := lendO env3.s fun a => a = l ∨ a ∈ (houC CK CH CT s).map (·.1)
    have dl : Dq X.K Gt (.ref l) (stD other) := .lst (t3 l _ (.inl rfl) h1) ((paired_dats q).up t1)
    have hd : DqAll X.K Gt [y, .ref l] [.str b.nm, stD other] := .cons (qy.up (g3.g.trans t1)) (.cons dl .nil)
    show SpG X.K (Pre_against CK CH CT) Post_against (V.ref s.h :: ([y, .ref l] ++ [])) H3 _ E0
    rw [List.append_nil]
    refine spG_of (ix := ⟨s, i, b, other⟩) (Γa := houR CK CH CT s :: [.str b.nm, stD other].map SD.dat) ⟨hs, hb, ho, rfl⟩ (args_env (us := [y, .ref l]) t2 ⟨rfl, fun p m => ?_⟩ rfl (dats_ok hd) dats_dis dats_dis0) fun G' H' Γ' σ' c r hq s' hs' _ => ?_
    · obtain ⟨_, u, w1, w2⟩ := rg.at_ p m
      exact ⟨u, t3 _ _ (.inr (List.mem_map.mpr ⟨p, m, rfl⟩)) w1, w2.up t1⟩
    · obtain ⟨q, v1, v2, rfl⟩ := hq
      obtain ⟨e1, rq⟩ := hs'
      cases e1
      obtain ⟨_, u, w1, ws, rfl, w2⟩ := rq.at_ _ List.mem_cons_self
      cases w2 with
      | cons a1 w2 => cases w2 with
        | cons a2 w2 =>
          cases w2
          cases (show _ = v1 from a1)
          cases (show _ = v2 from a2)
          have no : ∀ a, ¬ ownG (houR CK CH CT s :: [.str b.nm, stD other].map SD.dat) a := fun a z => ownG_none (c0 := houR CK CH CT s) (fun _ z => z) a z
          have hh : Same H H' := ((g1.h.trans g2.h).trans g3.h).trans fun a o z => s'.gr.h a o (by rw [hole_out (no a)]; exact z)
          exact k H' q _ _ ⟨Same.refl _, hh, env.s.trans hh, fun _ _ _ z => z⟩ w1⟩
theorem ok_Hjoin (T : Tx K mg) (B : HouFd K CH) (g1 : ∀ k, M_join P w K mg base (CK k) k) (g2 : M_against P w K mg base CK CH CT) (F : FD K d_House_join f fd) : FnOk P w K mg base CX0 3 f fd ["self", "path", "line", "deed"] (SpG K (Pre_Hjoin CK CH CT) (Post_Hjoin CK CH CT)) := by
  refine fn_slots F sc_Hjoin (fun ⟨_, _, _, _, _, _, _, _⟩ Γ h => by obtain ⟨_, _, _, rfl⟩ := h; rfl) fun cdv A outer s0 H E hr ⟨s, i, b, ln, b0, t, l, other⟩ Γ h => ?_
  obtain ⟨hs, hb, ho, rfl⟩ := h
  have hu := hu_of hr
  have hm := List.mem_of_getElem? hb
  have hlt := (List.getElem?_eq_some_iff.mp hb).1
  have hsmall : s.bx.length ≤ 50 := by
    have := hs.good.small.1
    rw [hs.boxes, List.length_map] at this
    exact this
  refine ds_set 4 (d := .str b.nm) (re_str (re_tupC (i := 1) 3 0 (re_var 3) d_int rfl rfl)) ?_ sc_Hjoin.nd
  cases hj : joinK b.k b.st other with
  | none =>
    refine ds_set 5 (d := .none) (fe_de (f_icall2 (d := .none) (fun a => (a, b.st, other)) 3 1 (m_call (g1 b.k) (hr.mono (by decide)) (i_dk (k := .inr b.nm) 0 1 (re_fld 0 0 (re_var 0) B.sorts) (d_var 4 rfl) (getFv_map (f := fun b => .inst (CK b.k)) hs.nd hm) hu) (pa_cons (d_dk (k := .inr b.nm) 0 2 (re_fld 0 0 (re_var 0) B.held) (d_var 4 rfl) (getFv_map (f := fun b => .dat (stD b.st)) hs.nd hm) hu) (pa_cons (re_tupC (i := 2) 3 0 (re_var 3) d_int rfl rfl) pa_nil))) rfl (fun a => ⟨hs.st b hm, ho, rfl⟩) fun a => by show optD (joinK b.k b.st other) = _; rw [hj]; rfl)) ?_ sc_Hjoin.nd
    refine ds_ifT (dt_cmp (d_var 5 rfl) d_non o_isN) ?_
    refine ds_fsetX 0 0 (e_cat5 (d_var 4 rfl) (e_against (i := i) 3 1 (m_call g2 hr (re_var 0) (pa_cons (d_var 4 rfl) (pa_cons (re_tupC (i := 2) 3 0 (re_var 3) d_int rfl rfl) pa_nil))) rfl rfl hs hb ho) (d_unit 1 rfl) (d_var 2 rfl)) (re_var 0) B.torn (fun q => ?_) rfl rfl
    refine ds_nil (ds_nil ⟨rfl, rfl, { s with torn := .raw (.ref q) }, ?_, rfl⟩)
    unfold HouNext
    rw [hj]
    exact ⟨q, rfl⟩
  | some st =>
    refine ds_setF 5 (d := stD st) (f_icall2 (d := stD st) (fun a => (a, b.st, other)) 3 1 (m_call (g1 b.k) (hr.mono (by decide)) (i_dk (k := .inr b.nm) 0 1 (re_fld 0 0 (re_var 0) B.sorts) (d_var 4 rfl) (getFv_map (f := fun b => .inst (CK b.k)) hs.nd hm) hu) (pa_cons (d_dk (k := .inr b.nm) 0 2 (re_fld 0 0 (re_var 0) B.held) (d_var 4 rfl) (getFv_map (f := fun b => .dat (stD b.st)) hs.nd hm) hu) (pa_cons (re_tupC (i := 2) 3 0 (re_var 3) d_int rfl rfl) pa_nil))) rfl (fun a => ⟨hs.st b hm, ho, rfl⟩) fun a => by show optD (joinK b.k b.st other) = _; rw [hj]; rfl) (fun Gx => ?_) sc_Hjoin.nd
    refine ds_absorb 5 ?_
    refine ds_ifF (dt_is (dt_cmp (d_var 5 rfl) d_non o_isN) rfl) ?_
    refine ds_cputE (kvs := heldK s.bx) (k := .inr b.nm) (d := stD st) 0 2 (re_fld 0 0 (re_var 0) B.held) (d_var 4 rfl) (d_var 5 rfl) (getFv_map (f := fun b => .dat (stD b.st)) hs.nd hm) ?_ (by unfold heldK; rw [List.length_map]; omega) hu rfl rfl
    rw [hou_held hs.nd hb st]
    have hb1 : (setB s i { b with st := st }).bx[i]? = some { b with st := st } := List.getElem?_set_self hlt
    have hn1 := nd_setB hs.nd hb (b' := { b with st := st }) rfl
    refine ds_capp 0 (5 + i) (xs := (b.es.map entD).map .dat) (d := entD (.tuple [], .int (ln : Nat), other)) (re_dk (k := .inr b.nm) 0 3 (re_fld 0 0 (re_var 0) B.puts) (d_var 4 rfl) (getFv_map (f := fun b => .raw (.ref b.l)) (b := { b with st := st }) hn1 (List.mem_of_getElem? hb1)) hu) (d_tup (da_cons (d_unit 1 rfl) (da_cons (d_var 2 rfl) (da_cons (d_listOfC (ds := other.map El.d) 3 1 T.f_list (re_tupC (i := 2) 3 0 (re_var 3) d_int rfl rfl) rfl) da_nil)))) ?_ ?_ rfl (hou_put CK CH CT (b := { b with st := st }) hb1)
    · rw [hou_puts hb1 (.tuple [], .int (ln : Nat), other)]
      refine ds_nil (ds_nil ⟨rfl, rfl, _, ?_, rfl⟩)
      unfold HouNext
      rw [hj]
      unfold setB
      rw [List.set_set]
    · rw [List.length_map, List.length_map]
      have := hs.few b hm
      omega
abbrev M_Hjoin (P : Program) (w : World) (K : PySem.W.Frag) (mg : Str → Option Value) (base : Heap) (CK : Kd → Addr) (CH CT : Addr) : Prop := MFn P w K mg base CH "join" 3 (SpG K (Pre_Hjoin CK CH CT) (Post_Hjoin CK CH CT))
end
end SJ
set_option maxRecDepth 100000
set_option maxHeartbeats 4000000
/-! WK: a turn. -/
namespace SJ
open PySem PySem.Spec PyProof.Rows L2
section
variable {X : Cx} {Γ : List SD} {P : Po} {rest : List Stmt} {e1 e2 e3 : Expr} {b0 t : Addr} {d1 : PyData} {pos tp : Pos} {kk : Nat} {csD : List (Addr × Cell)}
theorem ds_retEntry (i : Nat) (h1 : RE X Γ e1 (.ref b0)) (h2 : DE X Γ e2 d1) (h3 : RE X Γ e3 (.ref t)) (hi : Γ[i]? = some (.rg (.ref t) csD)) (hr : ∀ e, P.rt (Γ.set i .un) (.rg (.ref e) ((e, .tup [.raw (.ref b0), .dat d1, .raw (.ref t)]) :: csD)))
    (hs1 : starEach [e1, e2, e3] X.env = (false, eval e1 X.env) :: starEach [e2, e3] X.env := by rfl) (hs2 : starEach [e2, e3] X.env = (false, eval e2 X.env) :: starEach [e3] X.env := by rfl) (hs3 : starEach [e3] X.env = (false, eval e3 X.env) :: starEach [] X.env := by rfl) :
    DS X Γ (.Return (some (.Tuple [e1, e2, e3] kk tp)) pos :: rest) P :=
  (pss_cons (ps_ret (pe_tup (pa_cons h1 (pa_cons h2 (pa_cons h3 pa_nil hs3) hs2) hs1))) pss_never).imp fun D σ H ⟨G0, H0, G, s, k⟩ => ⟨G, s.env, fun G1 H1 g1 => ⟨G1, s.env.up g1, fun G2 H2 y g2 qy => ⟨G2, (s.env.up g1).up g2, fun G3 H3 g3 => by
    have s3 := ((s.up g1).up g2).up g3
    refine ⟨by show 3 ≤ _; decide, fun e he => ?_⟩
    have s4 := s3.up (Gr.tmp (o := .tup [.ref b0, y, .ref t]) s3.env.s he)
    obtain ⟨o, z1, z2⟩ := s4.env.at_ i _ hi
    have z3 := z2.1
    subst z3
    obtain ⟨_, _, _, r3⟩ := s3.env.at_ i _ hi
    have ne : ∀ a, a ∈ csD.map (·.1) → a ≠ e := fun a m w => by
      obtain ⟨q, hq, rfl⟩ := List.mem_map.mp m
      obtain ⟨_, u, x, _⟩ := r3.at_ q hq
      rw [w, he] at x
      cases x
    refine k.rt G3 _ _ σ _ _ (hr e) ((g1.g.trans g2.g).trans g3.g) (s4.known (c' := .un) hi (fun _ z => z) fun _ _ _ => trivial) ⟨rfl, ?_, fun q m => ?_⟩ fun a z => ?_
    · rw [List.map_cons, List.nodup_cons]
      exact ⟨fun m => ne _ m rfl, z2.2.nd⟩
    · rcases List.mem_cons.mp m with rfl | m
      · exact ⟨s3.env.s.free he, _, upd_same, _, rfl, .cons rfl (.cons (qy.up g3.g) (.cons rfl .nil))⟩
      · exact z2.2.at_ q m
    · have z : a ∈ e :: csD.map (·.1) := z
      rcases List.mem_cons.mp z with rfl | z
      · refine ⟨s3.gr.h.free he, fun j c ej w => ?_⟩
        rcases set_at ej with ⟨_, rfl⟩ | ⟨_, ej⟩
        · exact w
        · exact s3.none_ad he j c ej w
      · refine ⟨s3.nw i _ a hi z, fun j c ej w => ?_⟩
        rcases set_at ej with ⟨_, rfl⟩ | ⟨hj, ej⟩
        · exact w
        · exact hj (s3.env.nd i j _ c a hi ej z w)⟩⟩⟩
end
theorem setS_t (s : ThrS) : (setS s).t = s.t := by unfold setS; split <;> rfl
theorem setS_g (s : ThrS) : (setS s).g = s.g := by unfold setS; split <;> rfl
def stepH (s : HouS) : HouS := { s with th := nextS s.th }
structure IxTn where
  (s : HouS) (i : Nat) (b : BxS) (p : Put) (b0 : Addr) (other : List El)
section
variable {P : Program} {w : World} {K : PySem.W.Frag} {mg : Str → Option Value} {base : Heap} {f : Addr} {fd : FuncData} {CK : Kd → Addr} {CH CT : Addr}
def Pre_turn (CK : Kd → Addr) (CH CT : Addr) : IxTn → List SD → Prop := fun ⟨s, i, b, p, b0, other⟩ Γ => HouOk s ∧ s.torn = .dat .none ∧ s.th.fin = .none ∧ s.th.g.puts[s.th.at_]? = some p ∧ 2 ≤ s.th.left ∧ s.bx[i]? = some b ∧ b.nm = p.nm ∧ other = putEl b.k.w p.ns ∧ okPut b.k other ∧ p.ns.length ≤ 1000 ∧ (b.k.w = "map" → p.ns.length = 2) ∧ Γ = [.rg (.ref s.h) (houC CK CH CT s), .st (.ref b0) [(b0, .tup [])]]
def Post_turn (CK : Kd → Addr) (CH CT : Addr) : IxTn → List SD → SD → Prop := fun ⟨s, i, b, p, b0, other⟩ Γ' c => (∃ s', HouNext (stepH s) i b p.line other s' ∧ Γ'[0]? = some (.rg (.ref s.h) (houC CK CH CT s'))) ∧
  ∃ e t l, c = .rg (.ref e) [(e, .tup [.raw (.ref b0), .dat (.int (p.line : Nat)), .raw (.ref t)]), (t, .tup [.raw (.str "put"), .raw (.str p.nm), .raw (.ref l)]), (l, .lst ((other.map El.d).map .dat))]
theorem sc_turn : FnScope ["self", "path", "thread", "line", "wish", "passed", "deed"] ["self", "path"] (defScope m_House_turn) := ⟨rfl, rfl, rfl, by decide +kernel, rfl, by decide +kernel, by decide +kernel⟩
theorem hou_lend {X : Cx} {Γ : List SD} {s : HouS} {i : Nat} {v : V} (e : Γ[i]? = some (.rg v (houC CK CH CT s))) : ∀ G H σ, EnvD X.K G H Γ σ → ∃ Gt, Same G Gt ∧ Same Gt H ∧ SOk X.K Gt H (houR CK CH CT s) (some (.ref s.h)) := fun G H σ env => by
  obtain ⟨Gt, t1, t2, t3⟩ := env.lend e
  exact ⟨Gt, t1, t2, rfl, t3⟩
theorem hou_step (s : HouS) : houA CK CH s ++ thrC CT (nextS s.th) = houC CK CH CT (stepH s) := by
  have e : (nextS s.th).t = s.th.t := setS_t _
  unfold houC stepH houA
  rw [e]
  rfl
theorem ok_turn (B : HouFd K CH) (g1 : M_goes P w K mg base CK CH CT) (g2 : M_line P w K mg base CT) (g3 : M_wish P w K mg base CT) (g4 : M_deed P w K mg base CT) (g5 : M_Hjoin P w K mg base CK CH CT) (F : FD K d_House_turn f fd) : FnOk P w K mg base CX0 5 f fd ["self", "path"] (SpG K (Pre_turn CK CH CT) (Post_turn CK CH CT)) := by
  refine fn_slots F sc_turn (fun ⟨_, _, _, _, _, _⟩ Γ h => by obtain ⟨_, _, _, _, _, _, _, _, _, _, _, rfl⟩ := h; rfl) fun cdv A outer s0 H E hr ⟨s, i, b, p, b0, other⟩ Γ h => ?_
  obtain ⟨hs, ht, hf, hp, hl, hb, hn, ho, hput, hz, hmap, rfl⟩ := h
  have hu := hu_of hr
  have hm := List.mem_of_getElem? hb
  have hkv : getD (kvB s.th.g.boxes) (.inr p.nm) = some (.str b.k.w) := by
    rw [hs.th, ← hn]
    have hb2 : s.g.boxes[i]? = some (b.k.w, b.nm) := by rw [hs.boxes, List.getElem?_map, hb]; rfl
    exact getD_kvB hs.good.nd hb2
  have hpa : cellAt [SD.rg (.ref s.h) (houC CK CH CT s), .st (.ref b0) [(b0, .tup [])], .un, .un, .un, .un, .un] 0 4 = some (s.pa, .dt [([], .raw (.ref s.th.t))]) := rfl
  refine ds_skip (PW.pt (dw_or (dt_is (dt_cmp (d_fld (d := .none) 0 0 (re_var 0) B.torn rfl (by show some s.torn = _; rw [ht])) d_non o_notN) rfl) (dw_or (dt_dtnot 1 0 4 (re_fld 0 0 (re_var 0) B.parts) (re_var 1) rfl rfl hu)
    (dw_or1 (dt_is (dt_not (dt_val (fe_de (f_mcallR (d := .bool true) (ix := s) (houR CK CH CT s) 0 0 (m_call g1 (hr.mono (by decide)) (re_var 0) (pa_cons (re_dt 1 0 4 (re_fld 0 0 (re_var 0) B.parts) (re_var 1) rfl rfl hu) pa_nil)) (fun _ z => z) (hou_lend (i := 0) rfl) ⟨fun _ => ⟨p, hp⟩, rfl⟩ rfl rfl (by show PyData.bool (isNoneD s.th.fin) = _; rw [hf]; rfl))))) rfl))))) ?_
  refine ds_setR 2 (re_dt 1 0 4 (re_fld 0 0 (re_var 0) B.parts) (re_var 1) rfl rfl hu) ?_ sc_turn.nd
  refine ds_set 3 (d := .int (p.line : Nat)) (fe_de (f_mcall (ix := (s.th, p)) (thrR CT s.th) 0 (5 + s.bx.length) (mc0 (m_call0 g2 (hr.mono (by decide)) (re_var 2)) fun σ H Q Q' w h => tR_mono w h) (fun _ z => z) (thr_lendR (A := houA CK CH s) (i := 0) rfl) ⟨hf, hp, rfl⟩ (hou_thr CK CH CT s) rfl)) ?_ sc_turn.nd
  refine ds_set 4 (d := .none) (fe_de (f_mcall (ix := s.th) (thrR CT s.th) 0 (5 + s.bx.length) (mc0 (m_call0 g3 (hr.mono (by decide)) (re_var 2)) fun σ H Q Q' w h => tR_mono w h) (fun _ z => z) (thr_lendR (A := houA CK CH s) (i := 0) rfl) ⟨hf, ⟨p, hp⟩, rfl⟩ (hou_thr CK CH CT s) rfl)) ?_ sc_turn.nd
  refine ds_set 5 (d := .none) d_non ?_ sc_turn.nd
  refine ds_skip (dt_cmp (d_var 4 rfl) d_non o_notN) ?_
  refine ds_mset (ix := (s.th, p, b.k.w)) 6 (houA CK CH s) (thrC CT s.th) 0 (5 + s.bx.length) (m_call g4 hr (re_var 2) (da_cons (d_var 5 rfl) da_nil)) ⟨hf, hp, hl, hz, hkv, hmap, rfl⟩ rfl (hou_thr CK CH CT s) rfl (fun Γ' c ⟨q1, t, l, q2⟩ => ⟨_, q1, ?_⟩) sc_turn.nd
  subst q2
  rw [hou_step, ← ho, ← hn]
  refine ds_ifT (dt_is (dt_cmp (re_str (re_tupC (i := 0) 6 0 (re_var 6) d_int rfl rfl)) d_str o_eqS) (by decide +kernel)) ?_
  have hs2 : HouOk (stepH s) := ⟨hs.good, hs.boxes, hs.st, hs.es, hs.few, (setS_g _).trans hs.th⟩
  refine ds_mexpr3 (ix := IxJo.mk (stepH s) i b p.line b0 t l other) 0 6 (m_call g5 (hr.mono (by decide)) (re_var 0) (pa_cons (re_var 1) (pa_cons (d_var 3 rfl) (pa_cons (re_var 6) pa_nil)))) 1 rfl rfl rfl (by decide) rfl rfl ⟨hs2, hb, hput, rfl⟩ fun Γ' c ⟨q1, q2, s', q3, q4⟩ => ⟨_, q4, q2, ?_⟩
  refine ds_nil ?_
  refine ds_retEntry 6 (re_var 1) (d_var 3 rfl) (re_var 6) rfl fun e => ⟨⟨s', q3, rfl⟩, e, t, l, ?_⟩
  rw [hn]
abbrev M_turn (P : Program) (w : World) (K : PySem.W.Frag) (mg : Str → Option Value) (base : Heap) (CK : Kd → Addr) (CH CT : Addr) : Prop := MFn P w K mg base CH "turn" 5 (SpG K (Pre_turn CK CH CT) (Post_turn CK CH CT))
end
end SJ
set_option maxRecDepth 100000
set_option maxHeartbeats 4000000
/-! WL: clashed. -/
namespace SJ
open PySem PySem.Spec PyProof.Rows L2
theorem ds_retRaw {X : Cx} {Γ : List SD} {P : Po} {rest : List Stmt} {e : Expr} {w : V} {pos : Pos} (h : RE X Γ e w) (hr : P.rt Γ (.raw w)) : DS X Γ (.Return (some e) pos :: rest) P :=
  (pss_cons (ps_ret h) pss_never).imp fun D σ H ⟨G0, H0, G, s, k⟩ => ⟨G, s.env, fun G' H' g => k.rt G' H' Γ σ (.raw w) w hr g.g (s.up g) rfl fun _ (z : False) => z.elim⟩
section
variable {P : Program} {w : World} {K : PySem.W.Frag} {mg : Str → Option Value} {base : Heap} {f : Addr} {fd : FuncData} {CK : Kd → Addr} {CH CT : Addr}
def Pre_clashed (CK : Kd → Addr) (CH CT : Addr) : HouS → List SD → Prop := fun s Γ => (s.torn = .dat .none ∨ ∃ q, s.torn = .raw (.ref q)) ∧ Γ = [houR CK CH CT s]
def Post_clashed : HouS → List SD → SD → Prop := fun s _ c => (s.torn = .dat .none → c = .dat .none) ∧ ∀ q, s.torn = .raw (.ref q) → c = .raw (.ref q)
theorem sc_clashed : FnScope ["self"] ["self"] (defScope m_House_clashed) := ⟨rfl, rfl, rfl, by decide +kernel, rfl, by decide +kernel, by decide +kernel⟩
theorem ok_clashed (B : HouFd K CH) (F : FD K d_House_clashed f fd) : FnOk P w K mg base CX0 1 f fd ["self"] (SpG K (Pre_clashed CK CH CT) Post_clashed) := by
  refine fn_slots F sc_clashed (fun _ Γ h => by obtain ⟨_, rfl⟩ := h; rfl) fun cdv A outer s0 H E hr s Γ h => ?_
  obtain ⟨h, rfl⟩ := h
  rcases h with h | ⟨q, h⟩
  · exact ds_ret (d := .none) (d_fld 0 0 (re_var 0) B.torn rfl (by show some s.torn = _; rw [h])) ⟨fun _ => rfl, fun q z => by rw [h] at z; cases z⟩
  · exact ds_retRaw (re_fld (w := .ref q) 0 0 (re_var 0) B.torn rfl (by show some s.torn = _; rw [h])) ⟨fun z => (by rw [h] at z; cases z), fun q' z => by rw [h] at z; cases z; rfl⟩
abbrev M_clashed (P : Program) (w : World) (K : PySem.W.Frag) (mg : Str → Option Value) (base : Heap) (CK : Kd → Addr) (CH CT : Addr) : Prop := MFn P w K mg base CH "clashed" 1 (SpG K (Pre_clashed CK CH CT) Post_clashed)
end
end SJ
set_option maxRecDepth 100000
set_option maxHeartbeats 4000000
/-! DH: sorted(d) of a dict with one key (); lists of new lists. -/
namespace L2
open PySem PySem.Spec PyProof.Rows
section
variable {P : Program} {w : World} {A : Around} {E : Value → Shared → Prop} {s : Shared} {d : Addr} {od : Obj} {es : Array DictEntry} {ep : Nat}
/-- the keys of a dict as it stands, one after another -/
theorem walks_keysRaw (hh : A.handled = none) (I : Addr) (hne : d ≠ I) (hd : od.data = .dict es ep) :
    Walks P w A I [I, d] [I] es.size (fun i v => ∃ en, es[i]? = some en ∧ v = en.key) (fun i h => h.IsKeyIter I d i es.size ep ∧ h.get? d = some od) where
  sub := fun b hb => by rw [List.mem_singleton.mp hb]; exact List.mem_cons_self
  frame := fun _ _ _ st hk => ⟨st.1.at fun o e => hk I List.mem_cons_self o e, hk d (List.mem_cons_of_mem _ List.mem_cons_self) _ st.2⟩
  item := fun i s Q E hi st hQ => by
    have hx : es[i]? = some es[i] := Array.getElem?_eq_getElem hi
    exact next_key_item st.1 st.2 hd rfl hx fun h' hit' sb => hQ _ h' s.toks ⟨_, hx, rfl⟩ ⟨hit', sb.extBut d _ hne st.2⟩ fun b o hb e => sb.extBut b o (fun z => hb (by rw [z]; exact List.mem_cons_self)) e
  done := fun s Q E st hQ => next_key_end hh st.1 st.2 hd rfl (Nat.le_refl _) fun h' eb => hQ h' s.toks fun b o hb e => eb b o (fun z => hb (by rw [z]; exact List.mem_cons_self)) e
  self := fun _ _ _ _ st hQ => wpAny_pyIter_keyiter st.1 hQ
theorem src_keysRaw (lo : (d == sysModules) = false) (hx : od.ExactDict) (hd : od.data = .dict es ep) :
    PySem.W.KdlSrc P w "dict" d d es.size (fun i v => ∃ en, es[i]? = some en ∧ v = en.key) (fun h => h.get? d = some od) where
  type := fun _ ho => ⟨od, ho, hx.1⟩
  there := fun _ ho => ⟨Heap.lt_size ho, Heap.lt_size ho⟩
  keep := fun _ _ ho hk => hk d (.inl rfl) _ ho
  notList := by decide
  notTuple := by decide
  hint := fun _ _ s _ ho hq => PySem.W.kdl_hint_dict ⟨od, ho, hx.1⟩ hq
  iter := fun _ s hh ho => ⟨_, _, fun _ _ hq => iter_keys lo ho hx hd hq, walks_keysRaw hh _ (Nat.ne_of_lt (Heap.lt_size ho)) hd, ⟨⟨_, Heap.get?_push_size _ rfl, rfl, rfl⟩, Heap.get?_push_of_some _ ho⟩⟩
end
section
variable {X : Cx}
/-- sorted(d), d with the one key k -/
def rSort1 : List V → Hp → VK → Prop := fun xs H Q => ∃ (a : Addr) (k : List Key) (v : V), xs = [.ref a] ∧ H a = some (.dT [(k, v)]) ∧ ∀ q p, H q = some (.tup (k.map kV)) → H p = none → Q (.ref p) (upd H p (.lst [.ref q]))
theorem cr_sort1 (hc : X.calm = true) : CallR X (.builtin "sorted") rSort1 := by
  intro pins s σ H xs us Q I r h
  obtain ⟨a, k, v, rfl, ha, q⟩ := h
  obtain rfl := Vals.ref1 r
  obtain ⟨z, lo, xs', rel, od, es, ep, ho, hx, hd, hes, his, hn⟩ := dt_of I.hok ha
  cases rel with
  | @cons p x ps xr r1 rt =>
    cases rt
    obtain ⟨k1, q1, u1⟩ := x
    obtain ⟨e1, e2, e3⟩ := r1
    have e1 : k = k1 := e1
    subst e1
    have hsz : es.size = 1 := size_of_entries hes
    have hen : es[0]? = some (entryOfKey (tupleKind (mixKind X.prog X.w)) (k, q1, u1)) := entry_at hes 0
    refine Calls.call_function_entry PyProof.Rows.kind_sorted PyProof.Rows.plain_sorted PyProof.Rows.entry_sorted (PyProof.Rows.args_sorted1 _) ?_
    unfold Builtin.«sorted»
    refine wpAny_bind (m := checkCount "sorted" 1 1 _) (wpAny_pure ?_)
    refine wpAny_bind (PySem.W.kdu_collect (A := X.A.in1) (src_keysRaw lo hx hd) (I.ok.hd hc) ho (by rw [hsz, sizeLine_eq]; omega) fun h' tk acc hk hacc => ?_)
    have hacc1 : acc.toList = [Value.ref q1] := by
      have l1 : acc.toList.length = 1 := by rw [Array.length_toList, hacc.1, hsz]
      cases el : acc.toList with
      | nil => rw [el] at l1; cases l1
      | cons y ys =>
        cases ys with
        | cons y2 ys => rw [el] at l1; simp at l1
        | nil =>
          obtain ⟨en, f1, f2⟩ := hacc.2 0 y (by rw [← Array.getElem?_toList, el]; rfl)
          rw [hen] at f1
          cases f1
          rw [f2]
          rfl
    rw [hacc1]
    refine wpAny_bind (wpAny_newList ?_ (by rw [sizeLine_eq]; show 1 ≤ _; omega))
    have hoL : (h'.push (seqObj "list" [Value.ref q1].toArray 0)).get? h'.objs.size = some (seqObj "list" [Value.ref q1].toArray 0) := Heap.get?_push_size _ rfl
    show wpAny _ _ _ _ _ { s with heap := h'.push (seqObj "list" [Value.ref q1].toArray 0), toks := tk }
    refine wpAny_bind (wpAny_holding (wpAny_call_entry PyProof.Rows.slot_list_sort ⟨_, hoL, rfl⟩ PyProof.Rows.entry_list_sort
      (SK.plain_sort (s := { s with heap := h'.push (seqObj "list" [Value.ref q1].toArray 0), toks := tk }) (r := fun _ => 0) hoL (by show 1 < 64; omega) (fun h2 => absurd h2 (by show ¬ 2 ≤ 1; omega)) fun ps out o1 o2 o3 => ⟨.none, rfl, ?_⟩) (PyProof.Rows.args_list_sort _)))
    have hout : out.toList = [Value.ref q1] := by
      rw [o1, List.perm_singleton.mp o2]
      rfl
    obtain ⟨e', he'⟩ := PyProof.Rows.sortedHeap_at (vs := [Value.ref q1]) (out := out) hoL
    have I1 : Inv X pins σ H { s with heap := h', toks := tk } := I.kept hk
    refine wpAny_pure ⟨_, rfl, .ref h'.objs.size, upd H h'.objs.size (.lst [.ref q1]), I1.laid (t' := tk) (fun b u e => ?_) (Nat.le_refl _) ⟨by rw [sizeLine_eq]; show 1 ≤ _; omega, out.toList, e', by rw [hout]; exact .cons rfl .nil, he'⟩, rfl, q q1 _ e2 (I1.hok.fresh (Nat.le_refl _))⟩
    exact (PyProof.Rows.sortedHeap_old (Nat.ne_of_lt (Heap.lt_size e)) (by rw [Heap.size_push]; exact Nat.lt_succ_of_lt (Heap.lt_size e))).trans (Heap.get?_push_of_some _ e)
end
end L2
namespace SJ
open PySem PySem.Spec PyProof.Rows L2
section
variable {X : Cx} {Γ : List SD} {P : Po} {rest : List Stmt} {e c iter : Expr} {a : Addr} {w : V} {pos pos' np : Pos}
/-- a new list of a () -/
def tU (K : PySem.W.Frag) (Γ : List SD) : TE := fun σ H Q => ∃ G, EnvD K G H Γ σ ∧ ∀ H' l q, Gr G H G H' → H' l = some (.lst [.ref q]) → H' q = some (.tup []) → Q (.ref l) H'
theorem u_sorted (j n : Nat) (hm : X.mg "sorted" = none) (he : RE X Γ e (.ref a)) (hc : cellAt Γ j n = some (a, .dt [([], .raw w)])) (hcalm : X.calm = true := by rfl) (hg : Gl X "sorted" := by rfl) (hs : starEach [e] X.env = (false, eval e X.env) :: starEach [] X.env := by rfl) (hpl : (backTo pos (starEach [] X.env)).any (·.1) = false := by rfl) :
    PE X (.Call (.Name "sorted" np) [e] [] pos) (tU X.K Γ) :=
  (pe_callB (cr_sort1 hcalm) hg hm (by decide +kernel) (pa_cons he pa_nil hs) (by decide) (by decide) hs hpl).imp fun σ H Q ⟨G, env, k⟩ => ⟨G, env, fun G1 H1 g1 => by
    have env1 := env.up g1
    refine ⟨a, [], w, rfl, dt_at env1 hc, fun q p hq hp => ?_⟩
    have gp : Gr G1 H1 G1 (upd H1 p (.lst [.ref q])) := Gr.tmp env1.s hp
    have hh := g1.h.trans gp.h
    refine k _ p q ⟨Same.refl _, hh, env.s.trans hh, fun _ _ _ z => z⟩ upd_same ?_
    rw [upd_ne (ne_of_none hq hp)]
    exact hq⟩
/-- a wider pool, where nothing is one's own -/
theorem _root_.SJ.EnvD.wide {K : PySem.W.Frag} {G Gt H : Hp} {Γ : List SD} {σ : L2.St} (env : EnvD K G H Γ σ) (t1 : Same G Gt) (t2 : Same Gt H) (no : ∀ (i : Nat) c a, Γ[i]? = some c → ¬ c.ad a) : EnvD K Gt H Γ σ :=
  ⟨t2, env.len, fun i c e => let ⟨o, e1, q⟩ := env.at_ i c e; ⟨o, e1, q.keep t1 (fun a _ z _ => (no i c a e z).elim) fun a _ z _ _ => (no i c a e z).elim⟩, env.nd⟩
/-- [x for x in (one ()) if c], c false -/
theorem f_lcUnit (i : Nat) {x : Str} {xp : Pos} {N ps : List Str} {sc scope : Scope} (S : FnScope N ps sc) (hi : PE X iter (tU X.K Γ)) (no : ∀ (i : Nat) c a, Γ[i]? = some c → ¬ c.ad a) (hil : i < Γ.length) (ok : L2.blkC N sc scope [(x, i)] = true)
    (hc : ∀ (q : Addr) (s : Shared) (H : Hp) (C : Addr) (cl : List (Str × Addr)) (fp : List Addr), DT (X.blk s H scope (compEnvC scope cl C X.env) fp) (Γ.set i (.st (.ref q) [(q, .tup [])])) c false)
    (hNN : X.N = N := by rfl) (hsc : X.env.scope = sc := by rfl) (hx : X.N[i]? = some x := by rfl) (hlo : ∀ (s : Shared) (H : Hp) (C : Addr) (cl : List (Str × Addr)) (fp : List Addr), Loc (X.blk s H scope (compEnvC scope cl C X.env) fp).env.scope x := by exact fun _ _ _ _ _ => Or.inl rfl)
    (hfn : ∀ (s : Shared) (H : Hp) (C : Addr) (cl : List (Str × Addr)) (fp : List Addr), (X.blk s H scope (compEnvC scope cl C X.env) fp).fn x = true ∨ (X.blk s H scope (compEnvC scope cl C X.env) fp).env.scope.names.lookup x = some .local := by first | exact fun _ _ _ _ _ => Or.inr rfl | exact fun _ _ _ _ _ => Or.inl rfl)
    (hcalm : X.calm = true := by rfl) (hs : ∀ y, foldedSetIterable iter X.env y = pure y := by intro _; rfl) : FE X Γ (.ListComp e [⟨.Name x xp, iter, [c], 0⟩] scope pos) (.list []) := by
  have hN : X.N.Nodup := hNN ▸ S.nd
  subst hNN hsc
  refine (pe_lc hcalm hN (pi_list hi) (blkOk_by ok) (fun s H C cl fp => pg_name hN hx (hlo s H C cl fp) (hfn s H C cl fp)) (fun s H C cl fp => pts_one (PT.ex (R := fun _ : Addr => True) (t := fun q => tDT X.K (Γ.set i (.st (.ref q) [(q, .tup [])])) false) fun q _ => hc q s H C cl fp)) (te := fun _ _ _ => False) (fun _ _ _ _ _ => pe_never) hs).imp fun σ H Q ⟨G, env, k⟩ => ?_
  refine ⟨G, env, fun H1 l q g1 hl hq => ⟨l, rfl, ⟨_, SqL.of hl⟩, fun D hD => ?_⟩⟩
  have env1 := env.up g1
  have gD : Gr G H1 G (upd H1 D (.lst [])) := Gr.tmp env1.s hD
  refine ⟨fun i m H2 => ((i = 0 ∧ m = 1) ∨ (i = 1 ∧ m = 0)) ∧ Gr G H1 G H2 ∧ H2 D = some (.lst []), ⟨1, .inl ⟨rfl, rfl⟩, gD, upd_same⟩, ?_⟩
  rintro i2 m H2 ⟨hi2, g2, h2D⟩
  have h2l : SqL X.K H2 l [.ref q] := SqL.of (g2.h _ _ hl)
  rcases hi2 with ⟨rfl, rfl⟩ | ⟨rfl, rfl⟩
  · refine .inr ⟨⟨_, .ref q, h2l, rfl⟩, fun H' => Gr G H1 G H' ∧ H' D = some (.lst []), fun H' z => ⟨0, Nat.zero_lt_one, .inr ⟨rfl, rfl⟩, z⟩, fun x H3 y => ?_⟩
    obtain ⟨rfl, y⟩ := y
    have z := y _ h2l
    cases z
    have h2q := g2.h _ _ hq
    obtain ⟨Gt, t1, t2, t3⟩ := lendO (env1.up g2).s (· = q)
    have env2 := ((env1.up g2).wide t1 t2 no).un i
    have env3 := env2.set i (c := .st (.ref q) [(q, .tup [])]) (v := .ref q) ⟨rfl, fun p m => by
      obtain rfl := List.mem_singleton.mp m
      exact ⟨_, t3 _ _ rfl h2q, [], rfl, .nil⟩⟩ fun _ (z : False) => z.elim
    rw [List.set_set] at env3
    refine ⟨wipe_set _ _ _ |>.trans (wipe_idem σ [i]), ⟨q, trivial, Gt, env3, fun G4 H4 g4 => ?_⟩⟩
    refine iteF ?_
    exact ⟨⟨Same.refl _, g2.h.trans g4.h, env1.s.trans (g2.h.trans g4.h), fun _ _ _ z => z⟩, g4.h _ _ h2D⟩
  · refine .inl ⟨⟨_, h2l, Nat.le_refl _⟩, k (upd noH D (.lst [])) H2 (.ref D) ⟨⟨fun _ _ z => (nomatch z), g1.h.trans g2.h, fun a o z => ?_, fun a o z _ => ?_⟩, .lst upd_same .nil⟩⟩
    · by_cases e : a = D
      · subst e
        rw [upd_same] at z
        cases z
        exact h2D
      · rw [upd_ne e] at z
        cases z
    · rw [upd_ne (ne_of_none (g1.h a o z) hD)]
      rfl
end
/-! ### new lists -/
/-- a new list of one's own, of data -/
def tML (K : PySem.W.Frag) (Γ : List SD) (es : List PyData) : TE := fun σ H Q => ∃ G, EnvD K G H Γ σ ∧ ∀ G' H' D acc, Gr G H G' H' → H D = none → G' D = none → H' D = some (.lst acc) → DqAll K G' acc es → Q (.ref D) H'
abbrev LE (X : Cx) (Γ : List SD) (e : Expr) (es : List PyData) : Prop := PE X e (tML X.K Γ es)
/-- new lists of data -/
structure Lls (K : PySem.W.Frag) (H G' H' : Hp) (ls : List Addr) (ess : List (List PyData)) : Prop where
  len : ls.length = ess.length
  nd : ls.Nodup
  at_ : ∀ (i : Nat) l es, ls[i]? = some l → ess[i]? = some es → H l = none ∧ G' l = none ∧ ∃ acc, H' l = some (.lst acc) ∧ DqAll K G' acc es
/-- a new list of new lists of data -/
def tLL (K : PySem.W.Frag) (Γ : List SD) (ess : List (List PyData)) : TE := fun σ H Q => ∃ G, EnvD K G H Γ σ ∧ ∀ G' H' q ls, Gr G H G' H' → H q = none → G' q = none → H' q = some (.lst (ls.map V.ref)) → q ∉ ls → Lls K H G' H' ls ess → Q (.ref q) H'
section
variable {X : Cx} {Γ : List SD} {P : Po} {rest : List Stmt} {e elt tg iter : Expr} {scope : Scope} {ds es : List PyData} {ess : List (List PyData)} {pos pos' np : Pos}
theorem le_de (h : LE X Γ e es) : DE X Γ e (.list es) := h.imp fun σ H Q ⟨G, env, k⟩ => ⟨G, env, fun G' H' D acc gr h1 h2 h3 h4 => by
  obtain ⟨t1, t2⟩ := Gr.take gr.s h3 h2
  refine k _ _ _ ⟨gr.g.trans t1, gr.h, t2, fun a o z1 z2 => ?_⟩ (.lst upd_same (h4.up t1))
  rw [upd_ne (ne_of_none z1 h1)]
  exact gr.fr a o z1 z2⟩
theorem le_listOf (hm : X.mg "list" = none) (he : DE X Γ e (.list ds)) (hg : Gl X "list" := by rfl) (hs : starEach [e] X.env = (false, eval e X.env) :: starEach [] X.env := by rfl) (hpl : (backTo pos (starEach [] X.env)).any (·.1) = false := by rfl) : LE X Γ (.Call (.Name "list" np) [e] [] pos) ds :=
  (pe_callTy call_list_of hg hm (by decide +kernel) (da_cons he da_nil hs) (by decide) (by decide) hs hpl).imp fun σ H Q ⟨G, env, k⟩ => ⟨G, env, fun G1 H1 vs g1 q1 => by
    obtain ⟨v, rfl, qv⟩ := one q1
    obtain ⟨a, xs, rfl, hx, ha⟩ := qv.listE
    refine ⟨a, xs, rfl, .inl (g1.s.seq hx), fun l hl => ?_⟩
    have gl : Gr G1 H1 G1 (upd H1 l (.lst xs)) := Gr.tmp g1.s hl
    exact k G1 _ l xs (g1.trans gl) (g1.h.free hl) (g1.s.free hl) upd_same ha⟩
theorem le_nil {lp : Pos} : LE X Γ (.List [] lp) [] := (pe_lst pa_nil).imp fun σ H Q ⟨G, env, k⟩ => ⟨Nat.zero_le _, fun l hl => k G _ l [] (Gr.tmp env.s hl) hl (env.s.free hl) upd_same .nil⟩
theorem le_is {es' : List PyData} (h : LE X Γ e es) (q : es = es' := by first | rfl | assumption) : LE X Γ e es' := q ▸ h
/-- a + b, both lists -/
theorem le_cat {a b : Expr} (ha : DE X Γ a (.list ds)) (hb : DE X Γ b (.list es)) (h : ds.length + es.length ≤ 100000) : LE X Γ (.BinOp a .Add b pos) (ds ++ es) :=
  (pe_op op_cat ha hb).imp fun σ H Q ⟨G, env, k⟩ => ⟨G, env, fun G1 H1 x g1 q1 => ⟨G1, env.up g1, fun G2 H2 y g2 q2 => by
    obtain ⟨p, xs, rfl, hs, hx⟩ := (q1.up g2.g).listT
    obtain ⟨q, ys, rfl, ht, hy⟩ := q2.listT
    have s2 := g2.s
    refine ⟨p, q, xs, ys, rfl, rfl, s2 _ _ hs, s2 _ _ ht, ?_, fun r hr => ?_⟩
    · rw [hx.len, hy.len]
      exact Nat.le_trans h (by decide)
    · have gg := g1.trans g2
      exact k G2 _ r _ (gg.trans (Gr.tmp s2 hr)) (gg.h.free hr) (s2.free hr) upd_same (hx.app hy)⟩⟩
theorem le_ifT {c a b : Expr} (h : DT X Γ c true) (ha : LE X Γ a es) : LE X Γ (.IfExp c a b pos) es :=
  (pe_ifExp h ha pe_never).imp fun σ H Q ⟨G, env, k⟩ => ⟨G, env, fun G1 H1 g1 => by
    refine iteT ?_
    exact ⟨G1, env.up g1, fun G2 H2 D acc g2 h1 h2 h3 h4 => k G2 H2 D acc (g1.trans g2) (g1.h.free h1) h2 h3 h4⟩⟩
theorem le_ifF {c a b : Expr} (h : DT X Γ c false) (hb : LE X Γ b es) : LE X Γ (.IfExp c a b pos) es :=
  (pe_ifExp h pe_never hb).imp fun σ H Q ⟨G, env, k⟩ => ⟨G, env, fun G1 H1 g1 => by
    refine iteF ?_
    exact ⟨G1, env.up g1, fun G2 H2 D acc g2 h1 h2 h3 h4 => k G2 H2 D acc (g1.trans g2) (g1.h.free h1) h2 h3 h4⟩⟩
/-- x = e, a new list -/
theorem ds_setLE (i : Nat) {x : Str} (h : LE X Γ e es) (hr : ∀ l, DS X (Γ.set i (.ml l es)) rest P) (hN : X.N.Nodup) (hi : X.N[i]? = some x := by rfl) (hx : Loc X.env.scope x := by first | exact .inl rfl | exact .inr rfl)
    (hs : swapsWith e (some (.Name x pos')) pos.line X.env = pure false := by rfl) (hf : X.fn x = true ∨ X.env.scope.names.lookup x = some .local := by first | exact .inl rfl | exact .inr rfl) : DS X Γ (.Assign [.Name x pos'] e pos :: rest) P :=
  ds_seq (N := fun Γ' => ∃ l, Γ' = Γ.set i (.ml l es)) ((ps_set (i := i) hN hi hx h hs hf).imp fun D σ H ⟨G0, H0, G, s, k⟩ => ⟨G, s.env, fun G' H' l acc gr h1 h2 h3 h4 => by
    have s1 := s.up gr
    exact k.nx G' H' _ _ ⟨l, rfl⟩ gr.g (s1.put i ⟨rfl, h2, acc, h3, h4⟩ fun a z => by
      cases z
      exact ⟨s.gr.h.free h1, fun j e _ ej => s.none_ad h1 j e ej⟩)⟩) fun _ ⟨l, e⟩ => e ▸ hr l
/-! ### lists of new lists -/
def EltL (X : Cx) (scope : Scope) (elt : Expr) (Γ : List SD) (es : List PyData) : Prop := ∀ (s : Shared) (H : Hp) (C : Addr) (cl : List (Str × Addr)) (fp : List Addr), LE (X.blk s H scope (compEnvC scope cl C X.env) fp) Γ elt es
def tEltL (X : Cx) (scope : Scope) (elt : Expr) : TE := fun σ H Q => ∃ p : List SD × List PyData, EltL X scope elt p.1 p.2 ∧ tML X.K p.1 p.2 σ H Q
theorem Lls.snoc {K : PySem.W.Frag} {H G H' : Hp} {ls : List Addr} {l : Addr} {acc : List V} {es : List PyData} (h : Lls K H G H' ls ess) (h0 : H l = none) (hn : l ∉ ls) (hG : G l = none) (hH : H' l = some (.lst acc)) (hq : DqAll K G acc es) : Lls K H G H' (ls ++ [l]) (ess ++ [es]) := by
  refine ⟨by simp [h.len], ?_, fun i l2 es2 e1 e2 => ?_⟩
  · rw [List.nodup_append]
    refine ⟨h.nd, by simp, fun x hx y hy e => ?_⟩
    rw [List.mem_singleton.mp hy] at e
    exact hn (e ▸ hx)
  · by_cases hi : i < ls.length
    · rw [List.getElem?_append_left hi] at e1
      rw [List.getElem?_append_left (by rw [← h.len]; exact hi)] at e2
      exact h.at_ i l2 es2 e1 e2
    · have hi2 : i = ls.length := by
        have := (List.getElem?_eq_some_iff.mp e1).1
        rw [List.length_append, List.length_singleton] at this
        omega
      subst hi2
      rw [List.getElem?_append_right (Nat.le_refl _), Nat.sub_self] at e1
      rw [h.len, List.getElem?_append_right (Nat.le_refl _), Nat.sub_self] at e2
      cases e1
      cases e2
      exact ⟨h0, hG, acc, hH, hq⟩
theorem Lls.up {K : PySem.W.Frag} {H G H' G2 H2 : Hp} {ls : List Addr} (h : Lls K H G H' ls ess) (g : Gr G H' G2 H2) : Lls K H G2 H2 ls ess :=
  ⟨h.len, h.nd, fun i l es e1 e2 => let ⟨a, b, acc, c, d⟩ := h.at_ i l es e1 e2; ⟨a, g.fr _ _ c b, acc, g.h _ _ c, d.up g.g⟩⟩
theorem Lls.there {K : PySem.W.Frag} {H G H' : Hp} {ls : List Addr} (h : Lls K H G H' ls ess) {l : Addr} (m : l ∈ ls) : H l = none ∧ G l = none ∧ ∃ acc, H' l = some (.lst acc) := by
  obtain ⟨i, hi⟩ := List.mem_iff_getElem?.mp m
  have hlt := (List.getElem?_eq_some_iff.mp hi).1
  obtain ⟨a, b, acc, c, _⟩ := h.at_ i l (ess[i]'(by rw [← h.len]; exact hlt)) hi (List.getElem?_eq_getElem _)
  exact ⟨a, b, acc, c⟩
theorem tLc_LL {K : PySem.W.Frag} {vs : List Nat} {te : TE} {σ : L2.St} {H : Hp} {Q : VK} {f : PyData → List SD → Option (List SD)} {g : TG} (ht : TgS K g vs f) (hl : ess.length = ds.length) (hn : ds.length ≤ 100000)
    (he : ∀ (i : Nat) d es, ds[i]? = some d → ess[i]? = some es → ∃ Γ2, f d (wipeS Γ vs) = some Γ2 ∧ ∀ σ H Q, tML K Γ2 es σ H Q → te σ H Q) (h : tLL K Γ ess σ H Q) : tLc (tDI K Γ ds) g tYes te vs σ H Q := by
  obtain ⟨G, env, k⟩ := h
  refine ⟨G, env, fun G1 H1 J g1 wk D hD => ?_⟩
  have env1 := env.up g1
  refine ⟨fun i m H2 => m = ds.length - i ∧ i ≤ ds.length ∧ ∃ G2 ls, Gr G1 H1 G2 H2 ∧ G2 D = none ∧ H2 D = some (.lst (ls.map V.ref)) ∧ D ∉ ls ∧ Lls K H1 G2 H2 ls (ess.take i), ⟨ds.length, rfl, Nat.zero_le _, G1, [], Gr.tmp g1.s hD, g1.s.free hD, upd_same, by simp, ⟨rfl, by simp, fun i l es e => by cases e⟩⟩, ?_⟩
  rintro i m H2 ⟨rfl, hi, G2, ls, g2, hG, hH, hDl, ha⟩
  obtain ⟨w1, w2⟩ := wk G2 H2 g2.g g2.s
  by_cases hlt : i < ds.length
  · have hd : ds[i]? = some ds[i] := List.getElem?_eq_getElem hlt
    have hie : i < ess.length := by omega
    have hse : ess[i]? = some ess[i] := List.getElem?_eq_getElem hie
    obtain ⟨go, yl⟩ := w1 i _ hd
    obtain ⟨Γ2, hf, hte⟩ := he i _ _ hd hse
    refine .inr ⟨go, fun H' => ∃ G2 ls, Gr G1 H1 G2 H' ∧ G2 D = none ∧ H' D = some (.lst (ls.map V.ref)) ∧ D ∉ ls ∧ Lls K H1 G2 H' ls (ess.take (i + 1)), fun H' q => ⟨ds.length - (i + 1), by omega, rfl, hlt, q⟩, fun x H3 y => ?_⟩
    obtain ⟨G3, g3, qx⟩ := yl x H3 y
    have env3 := ((env1.up g2).up g3).wipe vs
    refine ht G3 H3 _ _ x _ Γ2 _ hf env3 qx fun σ2 hw env4 => ⟨hw.trans ?_, ?_⟩
    · exact wipe_idem σ vs
    · refine hte σ2 H3 _ ⟨G3, env4, fun G4 H4 l acc g4 f1 f2 f3 f4 => ?_⟩
      have h3D := g3.h _ _ hH
      have h4D := g4.h _ _ h3D
      have g4D : G4 D = none := g4.fr _ _ h3D (g3.fr _ _ hH hG)
      have gg := (g2.trans g3).trans g4
      have lD : l ≠ D := fun z => by rw [z, h3D] at f1; cases f1
      have ha4 := (ha.up g3).up g4
      have lnot : l ∉ ls := fun m => by
        obtain ⟨_, _, a2, z⟩ := (ha.up g3).there m
        rw [f1] at z
        cases z
      have h1l : H1 l = none := (g2.h.trans g3.h).free f1
      have la : ls.length = i := by rw [ha.len, List.length_take]; omega
      have keepU : ∀ b, b ≠ D → upd H4 D (.lst (ls.map V.ref ++ [.ref l])) b = H4 b := fun b hb => upd_ne hb
      refine ⟨_, h4D, by rw [List.length_map, la]; exact Nat.lt_of_lt_of_le hlt (Nat.le_trans hn (by decide)), G4, ls ++ [l], ⟨gg.g, same_upd gg.h hD, same_upd gg.s g4D, gg.fr⟩, g4D, by rw [upd_same, List.map_append]; rfl, ?_, ?_⟩
      · rw [List.mem_append, List.mem_singleton]
        rintro (m | m)
        · exact hDl m
        · exact lD m.symm
      · have e2 : ess.take (i + 1) = ess.take i ++ [ess[i]] := by rw [List.take_succ, hse]; rfl
        rw [e2]
        have h5 : Lls K H1 G4 (upd H4 D (.lst (ls.map V.ref ++ [.ref l]))) ls (ess.take i) := ⟨ha4.len, ha4.nd, fun j l2 es2 z1 z2 => by
          obtain ⟨a1, a2, acc2, a3, a4⟩ := ha4.at_ j l2 es2 z1 z2
          exact ⟨a1, a2, acc2, by rw [keepU _ (fun z => hDl (z ▸ List.mem_of_getElem? z1))]; exact a3, a4⟩⟩
        exact h5.snoc h1l lnot f2 (by rw [keepU _ lD]; exact f3) f4
  · have e : i = ds.length := by omega
    subst e
    rw [List.take_of_length_le (by omega)] at ha
    refine .inl ⟨w2, k _ _ D ls (g1.trans g2) (g1.h.free hD) hG hH hDl ⟨ha.len, ha.nd, fun j l es z1 z2 => ?_⟩⟩
    obtain ⟨a1, a2, a3⟩ := ha.at_ j l es z1 z2
    exact ⟨g1.h.free a1, a2, a3⟩
/-- the cells of new lists -/
def llC (ls : List Addr) (ess : List (List PyData)) : List (Addr × Cell) := List.zipWith (fun l es => (l, Cell.lst (es.map Fv.dat))) ls ess
theorem llC_get {ls : List Addr} {ess : List (List PyData)} {i : Nat} {p : Addr × Cell} (h : (llC ls ess)[i]? = some p) : ∃ l es, ls[i]? = some l ∧ ess[i]? = some es ∧ p = (l, .lst (es.map .dat)) := by
  unfold llC at h
  obtain ⟨l, es, h1, h2, h3⟩ := List.getElem?_zipWith_eq_some.mp h
  exact ⟨l, es, h1, h2, h3.symm⟩
theorem llC_ad : ∀ {ls : List Addr} {ess : List (List PyData)}, ls.length = ess.length → (llC ls ess).map (·.1) = ls
  | [], [], _ => rfl
  | [], _ :: _, h => by cases h
  | _ :: _, [], h => by cases h
  | l :: ls, es :: ess, h => by
    have ih := llC_ad (ls := ls) (ess := ess) (by simpa using h)
    unfold llC at ih ⊢
    rw [List.zipWith_cons_cons, List.map_cons, ih]
theorem refs_raw {K : PySem.W.Frag} {G : Hp} : ∀ ls : List Addr, Paired (FvOk K G) (ls.map V.ref) (ls.map fun l => Fv.raw (.ref l))
  | [] => .nil
  | _ :: ls => .cons rfl (refs_raw ls)
theorem dats_fvD {K : PySem.W.Frag} {G : Hp} : ∀ {vs : List V} {ds : List PyData}, DqAll K G vs ds → Paired (FvOk K G) vs (ds.map .dat)
  | _, _, .nil => .nil
  | _, _, .cons a t => .cons a (dats_fvD t)
/-- return [elt for x in iter], new lists -/
theorem ds_retLL (i : Nat) {x : Str} {xp : Pos} {N ps : List Str} {sc : Scope} (S : FnScope N ps sc) (hi : PID X (.Name x xp) Γ iter ds) (ok : L2.blkC N sc scope [(x, i)] = true) (hl : ess.length = ds.length) (hn : ds.length ≤ 100000)
    (he : ∀ (j : Nat) d es, ds[j]? = some d → ess[j]? = some es → EltL X scope elt ((Γ.set i .un).set i (.dat d)) es) (hr : ∀ q ls, ls.length = ess.length → P.rt Γ (.rg (.ref q) ((q, .lst (ls.map fun l => .raw (.ref l))) :: llC ls ess)))
    (hNN : X.N = N := by rfl) (hsc : X.env.scope = sc := by rfl) (hx : X.N[i]? = some x := by rfl) (hlo : ∀ (s : Shared) (H : Hp) (C : Addr) (cl : List (Str × Addr)) (fp : List Addr), Loc (X.blk s H scope (compEnvC scope cl C X.env) fp).env.scope x := by exact fun _ _ _ _ _ => Or.inl rfl)
    (hfn : ∀ (s : Shared) (H : Hp) (C : Addr) (cl : List (Str × Addr)) (fp : List Addr), (X.blk s H scope (compEnvC scope cl C X.env) fp).fn x = true ∨ (X.blk s H scope (compEnvC scope cl C X.env) fp).env.scope.names.lookup x = some .local := by first | exact fun _ _ _ _ _ => Or.inr rfl | exact fun _ _ _ _ _ => Or.inl rfl)
    (hc : X.calm = true := by rfl) (hs : ∀ y, foldedSetIterable iter X.env y = pure y := by intro _; rfl) : DS X Γ (.Return (some (.ListComp elt [⟨.Name x xp, iter, [], 0⟩] scope pos)) pos' :: rest) P := by
  have hN : X.N.Nodup := hNN ▸ S.nd
  subst hNN hsc
  refine (pss_cons (ps_ret (pe_lc hc hN hi (blkOk_by ok) (fun s H C cl fp => pg_name hN hx (hlo s H C cl fp) (hfn s H C cl fp)) (fun _ _ _ _ _ => pts_nil) (te := tEltL X scope elt) (fun s H C cl fp => PE.ex (R := fun p : List SD × List PyData => EltL X scope elt p.1 p.2) (t := fun p => tML X.K p.1 p.2) fun p hp => hp s H C cl fp) hs)) pss_never).imp fun D σ H ⟨G0, H0, G, s, k⟩ => ?_
  refine tLc_LL (tg_nm i) hl hn (fun j d e h1 h2 => ⟨_, rfl, fun σ H Q q => ⟨(_, e), he j d e h1 h2, q⟩⟩) ⟨G, s.env, fun G' H' q ls g h1 h2 h3 h4 h5 => ?_⟩
  have ad : ((q, Cell.lst (ls.map fun l => Fv.raw (.ref l))) :: llC ls ess).map (·.1) = q :: ls := by rw [List.map_cons, llC_ad h5.len]
  refine k.rt G' H' Γ σ _ _ (hr q ls h5.len) g.g (s.up g) ⟨rfl, by rw [ad]; exact List.nodup_cons.mpr ⟨h4, h5.nd⟩, fun p m => ?_⟩ fun a z => ?_
  · rcases List.mem_cons.mp m with rfl | m
    · refine ⟨h2, _, h3, _, rfl, ?_⟩
      exact refs_raw ls
    · obtain ⟨j, hj⟩ := List.mem_iff_getElem?.mp m
      obtain ⟨l, es, e1, e2, rfl⟩ := llC_get hj
      obtain ⟨a1, a2, acc, a3, a4⟩ := h5.at_ j l es e1 e2
      exact ⟨a2, _, a3, acc, rfl, dats_fvD a4⟩
  · have z : a ∈ ((q, Cell.lst (ls.map fun l => Fv.raw (.ref l))) :: llC ls ess).map (·.1) := z
    rw [ad] at z
    have hn : H a = none := by
      rcases List.mem_cons.mp z with rfl | z
      · exact h1
      · exact (h5.there z).1
    exact ⟨s.gr.h.free hn, fun j e ej => s.none_ad hn j e ej⟩
end
end SJ
set_option maxRecDepth 100000
set_option maxHeartbeats 4000000
/-! WM: states, ready. -/
namespace SJ
open PySem PySem.Spec PyProof.Rows L2
section
variable {P : Program} {w : World} {K : PySem.W.Frag} {mg : Str → Option Value} {base : Heap} {f : Addr} {fd : FuncData} {CK : Kd → Addr} {CH CT : Addr}
/-- what the boxes hold, as data -/
def bxL' (bx : List BxS) : List (List PyData) := bx.map fun b => b.st.map El.d
def stsC (q : Addr) (ls : List Addr) (bx : List BxS) : List (Addr × Cell) := (q, .lst (ls.map fun l => .raw (.ref l))) :: llC ls (bxL' bx)
def Pre_states (CK : Kd → Addr) (CH CT : Addr) : HouS → List SD → Prop := fun s Γ => HouOk s ∧ Γ = [houR CK CH CT s]
def Post_states : HouS → List SD → SD → Prop := fun s _ c => ∃ q ls, ls.length = s.bx.length ∧ c = .rg (.ref q) (stsC q ls s.bx)
theorem sc_states : FnScope ["self", "row"] ["self"] (defScope m_House_states) := ⟨rfl, rfl, rfl, by decide +kernel, rfl, by decide +kernel, by decide +kernel⟩
theorem ok_states (T : Tx K mg) (B : HouFd K CH) (F : FD K d_House_states f fd) : FnOk P w K mg base CX0 1 f fd ["self"] (SpG K (Pre_states CK CH CT) Post_states) := by
  refine fn_slots F sc_states (fun _ Γ h => by obtain ⟨_, rfl⟩ := h; rfl) fun cdv A outer s0 H E hr s Γ h => ?_
  obtain ⟨hs, rfl⟩ := h
  have hu := hu_of hr
  refine ds_retLL 1 (ess := bxL' s.bx) sc_states (di_list (d_ixT (d_fld 0 0 (re_var 0) B.program) d_int (d := .list (s.g.boxes.map boxD)) at0)) (by decide +kernel) ?_ ?_ (fun j d es h1 h2 => ?_) fun q ls hl => ⟨q, ls, by rw [hl]; unfold bxL'; rw [List.length_map], rfl⟩
  · unfold bxL'
    rw [List.length_map, List.length_map, hs.boxes, List.length_map]
  · rw [List.length_map]
    have := hs.good.small.1
    omega
  · rw [hs.boxes, List.map_map, List.getElem?_map] at h1
    unfold bxL' at h2
    rw [List.getElem?_map] at h2
    cases hb : s.bx[j]? with
    | none => rw [hb] at h1; cases h1
    | some b =>
      rw [hb] at h1 h2
      cases h1
      cases h2
      exact fun _ _ _ _ _ => le_listOf T.f_list (d_dk (k := .inr b.nm) (d := stD b.st) 0 2 (re_fld 0 0 (re_var 0) B.held) (d_ixT (d_var 1 rfl) d_int (d := .str b.nm) at1) (getFv_map (f := fun b => .dat (stD b.st)) hs.nd (List.mem_of_getElem? hb)) hu)
abbrev M_states (P : Program) (w : World) (K : PySem.W.Frag) (mg : Str → Option Value) (base : Heap) (CK : Kd → Addr) (CH CT : Addr) : Prop := MFn P w K mg base CH "states" 1 (SpG K (Pre_states CK CH CT) Post_states)
def Pre_ready (CK : Kd → Addr) (CH CT : Addr) : HouS → List SD → Prop := fun s Γ => ((∃ q, s.torn = .raw (.ref q)) ∨ (s.torn = .dat .none ∧ isNoneD s.th.fin = false)) ∧ Γ = [houR CK CH CT s]
theorem sc_ready : FnScope ["self", "path"] ["self"] (defScope m_House_ready) := ⟨rfl, rfl, rfl, by decide +kernel, rfl, by decide +kernel, by decide +kernel⟩
theorem dt_rawNot {X : Cx} {Γ : List SD} {e n : Expr} {q : Addr} {pos : Pos} (h : RE X Γ e (.ref q)) (hn : DE X Γ n .none) (hm : behindInMarks .IsNot n = false := by first | rfl | exact nomark _) : DT X Γ (.Compare e [.IsNot] [n] pos) true :=
  (pt_cmpR op_notN h hn hm).imp fun σ H Q ⟨G, env, k⟩ => ⟨G, env, fun G1 H1 g1 => ⟨G1, env.up g1, fun G2 H2 y g2 q2 => ⟨q2.noneE, true, rfl, k G2 H2 (g1.trans g2)⟩⟩⟩
theorem ok_ready (T : Tx K mg) (B : HouFd K CH) (g1 : M_goes P w K mg base CK CH CT) (F : FD K d_House_ready f fd) : FnOk P w K mg base CX0 3 f fd ["self"] (SpF K (Pre_ready CK CH CT) (fun _ => .list [])) := by
  refine fn_fresh F sc_ready (fun _ Γ h => by obtain ⟨_, rfl⟩ := h; rfl) fun cdv A outer s0 H E hr s Γ h => ?_
  obtain ⟨h, rfl⟩ := h
  have hu := hu_of hr
  rcases h with ⟨q, h⟩ | ⟨h1, h2⟩
  · refine ds_ifT (dt_rawNot (re_fld (w := .ref q) 0 0 (re_var 0) B.torn rfl (by show some s.torn = _; rw [h])) d_non) ?_
    exact ds_retF f_nil fun Gx => .inr ⟨Gx, rfl⟩
  · refine ds_skip (dt_cmp (d_fld (d := .none) 0 0 (re_var 0) B.torn rfl (by show some s.torn = _; rw [h1])) d_non o_notN) ?_
    refine ds_retF (f_lcUnit 1 sc_ready (u_sorted 0 4 T.f_sorted (re_fld 0 0 (re_var 0) B.parts) (w := .ref s.th.t) rfl) ?_ (Nat.lt_succ_self 1) (by decide +kernel) fun q _ _ _ _ _ => ?_) fun Gx => .inr ⟨Gx, rfl⟩
    · intro i c a e z
      match i with
      | 0 => cases e; exact z
      | 1 => cases e; exact z
      | i + 2 => cases e
    · exact dt_val (fe_de (f_mcallR (d := .bool false) (ix := s) (houR CK CH CT s) 0 0 (m_call g1 hr (re_var 0) (pa_cons (re_dt 1 0 4 (re_fld 0 0 (re_var 0) B.parts) (re_var 1) rfl rfl hu) pa_nil)) (fun _ z => z) (fun G H σ env => by
        obtain ⟨o, _, z1, z2⟩ := env.at_ 0 _ rfl
        exact ⟨G, Same.refl _, env.s, rfl, z2⟩) (⟨fun z => (by rw [z] at h2; cases h2), rfl⟩) rfl rfl (by show PyData.bool (isNoneD s.th.fin) = _; rw [h2])))
abbrev M_ready (P : Program) (w : World) (K : PySem.W.Frag) (mg : Str → Option Value) (base : Heap) (CK : Kd → Addr) (CH CT : Addr) : Prop := MFn P w K mg base CH "ready" 3 (SpF K (Pre_ready CK CH CT) (fun _ => .list []))
end
end SJ
set_option maxRecDepth 100000
set_option maxHeartbeats 4000000
/-! DI: an __init__ that keeps nothing of what it is handed; dicts of one's own; {(): C(..)}. -/
namespace L2
open PySem PySem.Spec PyProof.Rows
section
variable {X : Cx} {pos : Pos} {ke ve : Expr} {tk tv : TE}
/-- {k: v}, the key a tuple -/
def tDisp1 (tk tv : TE) : TE := fun σ H Q => ∀ p, H p = none → tk σ (upd H p (.dT [])) fun x H1 => tv σ H1 fun y H2 => ∃ (b : Addr) (k : List Key), x = .ref b ∧ H2 b = some (.tup (k.map kV)) ∧ H2 p = some (.dT []) ∧ Q (.ref p) (upd H2 p (.dT [(k, y)]))
theorem pe_disp1 (hu : X.A.units + 1 < cLine) (hk : PE X ke tk) (hv : PE X ve tv) : PE X (.Dict [some ke] [ve] pos) (tDisp1 tk tv) := by
  refine ⟨fun pins s σ H Q I q => ?_⟩
  have hn := I.hok.fresh (Nat.le_refl s.heap.objs.size)
  have I1 := I.laid (a := s.heap.objs.size) (o := .dT []) (h' := s.heap.push { cls := .type "dict", data := .dict #[] }) (t' := s.toks) (fun _ _ z => Heap.get?_push_of_some _ z) (Nat.le_refl _) (dt_empty s.heap I.big)
  rw [arm_eval_Dict, zip_pairTrees [some ke] [ve] X.env pos rfl rfl, dictDisplay_pairs _ (by intro z; cases z) (by show 1 < 17; decide)]
  refine wpAny_bind (wpAny_standAt (wpAny_bind ?_))
  unfold subDict
  refine wpAny_bind (wpAny_alloc (wpAny_bind (wpAny_holding ?_)))
  rw [if_pos (by show 1 ≤ 15; decide)]
  refine wpAny_bind (pairTrees_cons_walk (thn (hk.run pins _ σ _ _ I1 (q _ hn)) fun u s1 ⟨x, H1, I2, rx, q1⟩ => thn (hv.run pins s1 σ H1 _ I2 q1) fun r s2 ⟨y, H2, I3, ry, b, k, ex, hb, hp, q2⟩ => pairTrees_nil_walk ?_))
  subst ex
  obtain rfl : u = Value.ref b := rx
  refine wpAny_holding ?_
  rw [List.forIn_cons]
  obtain ⟨z, hd, xs, rel, dd⟩ := dt_of I3.hok hp
  cases rel
  refine wpAny_bind (wpAny_bind ?_)
  show wpAny (model X.prog X.w) X.A (do dictSet s.heap.objs.size (Value.ref b) r; pure (ForInStep.yield PUnit.unit)) _ _ _
  refine wpAny_bind (wpAny_dictSet_heap (knd := tupleKind (mixKind X.prog X.w)) (k := k) (hsz := Nat.zero_le _) (Nat.lt_trans (Nat.lt_succ_self _) hu) (key_of I3.hok hb) dd fun h' dd' hs => ?_)
  refine wpAny_pure ?_
  show wpAny (model X.prog X.w) X.A (forIn [] _ _) _ _ _
  rw [List.forIn_nil]
  refine wpAny_pure (wpAny_pure (wpAny_pure (wpAny_pure ⟨.ref s.heap.objs.size, _, ?_, rfl, q2⟩)))
  obtain ⟨ob, es, ep, hq, h2, h3, h4, _, h5⟩ := dd'
  refine d_write I3 (by rw [hp]; exact True.intro) hs ⟨ob, hq⟩ ⟨by show 1 ≤ sizeLine; decide, hd, _, ?_, ob, es, ep, hq, h2, h3, h4, h5⟩
  have := (KT.put (H := H2) (kvs := []) .nil k hb ry).keeps (H' := upd H2 s.heap.objs.size (.dT [(k, y)])) fun c ys ec => by
    rw [upd_ne (ne_of ec hp (fun z => nomatch z))]
    exact ec
  exact this
end
end L2

namespace SJ
open PySem PySem.Spec PyProof.Rows L2
/-! ### nothing of the arguments is kept -/
/-- the pool may hold the arguments; behind it only what is new counts -/
def tD2 (K : PySem.W.Frag) (Γ : List SD) (P : Po) : TS := fun D σ H => ∃ G0 H0 G, St0 K G0 H0 G H Γ σ ∧ EndsOk K P D noH H0 noH
section
variable {X : Cx} {Γ : List SD} {P : Po} {rest a : List Stmt} {e oe c : Expr} {d : PyData} {v : V} {p C : Addr} {f : Str} {pos pos' : Pos} {x : Str}
theorem s2_skip (hc : DT X Γ c false) (hr : PSs X rest (tD2 X.K Γ P)) : PSs X (.If c a [] pos :: rest) (tD2 X.K Γ P) :=
  (pss_cons (ps_if hc pss_never pss_nil) hr).imp fun D σ H ⟨G0, H0, G, s, k⟩ => ⟨G, s.env, fun G1 H1 g1 => iteF ⟨G0, H0, G1, s.up g1, k⟩⟩
/-- x = e, fresh -/
theorem s2_setF (i : Nat) (h : FE X Γ e d) (hr : ∀ Gx, PSs X rest (tD2 X.K (Γ.set i (.od Gx d)) P)) (hN : X.N.Nodup) (hi : X.N[i]? = some x := by rfl) (hx : Loc X.env.scope x := by first | exact .inl rfl | exact .inr rfl)
    (hs : swapsWith e (some (.Name x pos')) pos.line X.env = pure false := by rfl) (hf : X.fn x = true ∨ X.env.scope.names.lookup x = some .local := by first | exact .inl rfl | exact .inr rfl) : PSs X (.Assign [.Name x pos'] e pos :: rest) (tD2 X.K Γ P) :=
  (pss_cons (ps_set (i := i) hN hi hx h hs hf) (PSs.ex (R := fun _ : Hp => True) (t := fun Gx => tD2 X.K (Γ.set i (.od Gx d)) P) fun Gx _ => hr Gx)).imp fun D σ H ⟨G0, H0, G, s, k⟩ => ⟨G, s.env, fun Gx H' v f => by
    have g := f.gr.aside s.env.s
    exact ⟨Gx, trivial, G0, H0, G, (s.up g).put i ⟨⟨v, rfl, f.dq⟩, f.gr.s, fun a o z => s.env.s.free (f.gr.fresh z)⟩ fun a ⟨o, z⟩ => ⟨s.gr.h.free (f.gr.fresh z), fun j e _ ej => s.none_ad (f.gr.fresh z) j e ej⟩, k⟩⟩
/-- o.f = e, fresh; from here on the arguments are no part of the pool -/
theorem s2_switch (he : FE X Γ e d) (ho : RE X Γ oe (.ref p)) (F : Fd X.K C f) {Γ2 : List SD} (h0 : Γ[0]? = some (.rg (.ref p) [(p, .ins C [])])) (hl : Γ2.length = Γ.length) (h2 : Γ2[0]? = some (.rg (.ref p) [(p, .ins C [(f, .dat d)])]))
    (hw : ∀ (i : Nat) c, Γ2[i]? = some c → c = .un ∨ i = 0 ∨ (Γ[i]? = some c ∧ ((∃ v, c = .raw v) ∨ (∃ n : Int, c = .dat (.int n)) ∨ ∃ Gs d, c = .od Gs d))) (hr : DS X Γ2 rest P)
    (hs : swapsWith e (some (.Attribute oe f pos')) pos.line X.env = pure false := by rfl) : PSs X (.Assign [.Attribute oe f pos'] e pos :: rest) (tD2 X.K Γ P) :=
  (pss_cons (ps_fld ho he hs) hr).imp fun D σ H ⟨G0, H0, G, s, k⟩ => ⟨G, s.env, fun Gp H1 y fr => by
    have g1 := fr.gr.aside s.env.s
    have s1 := s.up g1
    refine ⟨G, s1.env, fun G2 H2 g2 => ?_⟩
    have s2 := s1.up g2
    obtain ⟨_, _, _, r0⟩ := s.env.at_ 0 _ h0
    obtain ⟨_, u0, z0, dx0, ws0, rfl, z0'⟩ := r0.at_ _ List.mem_cons_self
    obtain ⟨o, eo, _, r⟩ := s2.env.at_ 0 _ h0
    obtain ⟨_, u, z1, dx, ws, rfl, z2⟩ := r.at_ _ List.mem_cons_self
    cases z2
    have hp0 : H0 p = none := s.nw 0 _ p h0 (List.mem_singleton.mpr rfl)
    have gpp : Gp p = none := fr.gr.fr p _ z0 rfl
    have hh : Same H H2 := fr.gr.h.trans g2.h
    refine ⟨p, C, dx, [], rfl, z1, F.cls, F.na, by show 0 < 1000; decide, noH, H0, Gp, ⟨⟨fun _ _ z => (nomatch z), fun a o z => ?_, fun a o z => ?_, fun a o z _ => fr.gr.fr a o (s.gr.h a o z) rfl⟩, fun i c l ei ad => ?_, fun a o z => ?_, ?_, fun i c ei => ?_, fun i j c c' l ei ej a1 a2 => ?_⟩, k.up fun _ _ z => (nomatch z)⟩
    · rw [upd_ne (fun w : a = p => by rw [w, hp0] at z; cases z)]
      exact hh a o (s.gr.h a o z)
    · rw [upd_ne (fun w : a = p => by rw [w, gpp] at z; cases z)]
      exact g2.h _ _ (fr.gr.s a o z)
    · rcases hw i c ei with rfl | rfl | ⟨e2, _⟩
      · exact (show False from ad).elim
      · rw [h2] at ei
        cases ei
        rw [List.mem_singleton.mp (show l ∈ [p] from ad)]
        exact hp0
      · exact s.nw i c l e2 ad
    · rw [upd_ne (fun w : a = p => by rw [w, gpp] at z; cases z)]
      exact g2.h _ _ (fr.gr.s a o z)
    · rw [hl]
      exact s2.env.len
    · rcases hw i c ei with rfl | rfl | ⟨e2, h⟩
      · have hi : i < σ.length := by
          rw [s2.env.len, ← hl]
          exact (List.getElem?_eq_some_iff.mp ei).1
        exact ⟨σ[i], List.getElem?_eq_getElem hi, trivial⟩
      · rw [h2] at ei
        cases ei
        refine ⟨o, eo, ‹_›, by simp, fun q m => ?_⟩
        obtain rfl := List.mem_singleton.mp m
        exact ⟨gpp, _, upd_same, dx, _, rfl, .cons ⟨rfl, fr.dq⟩ .nil⟩
      · obtain ⟨o2, e3, q⟩ := s2.env.at_ i c e2
        refine ⟨o2, e3, ?_⟩
        rcases h with ⟨v, rfl⟩ | ⟨n, rfl⟩ | ⟨Gs, d', rfl⟩
        · exact q
        · obtain ⟨v, e4, q4⟩ := q
          exact ⟨v, e4, q4.scal trivial⟩
        · obtain ⟨_, _, _, sG, _⟩ := s.env.at_ i _ e2
          refine ⟨q.1, fun a o z => ?_, fun a o z => fr.gr.fr a o (sG a o z) rfl⟩
          rw [upd_ne (fun w : a = p => ?_)]
          · exact hh a o (sG a o z)
          · have := s.env.nd i 0 _ _ a e2 h0 ⟨o, z⟩ (by rw [w]; exact List.mem_singleton.mpr rfl)
            rcases hw i _ ei with h | h | ⟨_, h⟩
            · cases h
            · rw [this, h2] at ei
              cases ei
            · rw [this, h2] at ei
              cases ei
    · have own : ∀ {i : Nat} {c : SD}, Γ2[i]? = some c → c.ad l → ∃ c0 : SD, Γ[i]? = some c0 ∧ c0.ad l := fun {i c} ei ad => by
        rcases hw i c ei with rfl | rfl | ⟨e2, _⟩
        · exact (show False from ad).elim
        · rw [h2] at ei
          cases ei
          exact ⟨_, h0, ad⟩
        · exact ⟨_, e2, ad⟩
      obtain ⟨c1, f1, f2⟩ := own ei a1
      obtain ⟨c2, f3, f4⟩ := own ej a2
      exact s.env.nd i j c1 c2 l f1 f3 f2 f4⟩
end
/-- an __init__ that keeps nothing of what it is handed -/
def SpI {ι : Type} (K : PySem.W.Frag) (C : Addr) (Pre : ι → List SD → Prop) (Post : ι → Addr → List (Addr × Cell) → Prop) : Sp := fun vs H Q _ => ∃ G x us Γ ix, vs = .ref x :: us ∧ Pre ix Γ ∧ EnvD K G H (.rg (.ref x) [(x, .ins C [])] :: Γ) ((V.ref x :: us).map some) ∧ (∀ (i : Nat) c a, Γ[i]? = some c → ¬ c.ad a) ∧
  ∀ Gf H' B, Post ix x B → RgOk K Gf H' B → Gr noH (hole H (· = x)) Gf H' → (∀ a, a ∈ B.map (·.1) → hole H (· = x) a = none) → Q .non H'
section
variable {P : Program} {w : World} {K : PySem.W.Frag} {mg : Str → Option Value} {base : Heap} {x qual : Str} {params : Arguments} {body : List Stmt} {scope : Scope} {dvs : List V} {kws : List (Str × V)} {f : Addr} {fd : FuncData}
theorem fn_init {N ps : List Str} {k : Nat} {ι : Type} {C : Addr} {Pre : ι → List SD → Prop} {Post : ι → Addr → List (Addr × Cell) → Prop} (F : FunD K x qual params body scope dvs kws f fd) (S : FnScope N ps scope) (hl : ∀ ix Γ, Pre ix Γ → Γ.length + 1 = ps.length)
    (hb : ∀ (cdv : Value) (A : Around) (outer : List Env) (s : Shared) (H : Hp) (E : XK), Room k (cxD P w K mg base N qual scope f cdv A outer s H E).A → ∀ ix Γ (y : Addr), Pre ix Γ →
      PSs (cxD P w K mg base N qual scope f cdv A outer s H E) body (tD2 K (startG N (.rg (.ref y) [(y, .ins C [])] :: Γ)) ⟨fun Γ' => ∃ B, Γ'[0]? = some (.rg (.ref y) B) ∧ Post ix y B, fun _ _ => False, fun _ => False, fun _ => False⟩)) : FnOk P w K mg base CX0 (k + 1) f fd ps (SpI K C Pre Post) := by
  refine F.ok S (fun vs H Q E ⟨G, y, us, Γ, ix, e, pre, env, _⟩ => by
    have := env.len
    rw [List.length_map, List.length_cons, List.length_cons] at this
    rw [← hl ix Γ pre, e, List.length_cons]
    omega) fun cdv A outer s H vs Q E hr ⟨G, y, us, Γ, ix, e, pre, env, no, q⟩ => ?_
  subst e
  have hown : ∀ a, ownG (.rg (.ref y) [(y, .ins C [])] :: Γ) a → a = y := fun a ⟨i, c, ei, z⟩ => by
    cases i with
    | zero => cases ei; exact List.mem_singleton.mp (show a ∈ [y] from z)
    | succ i => exact (no i c a (by simpa using ei) z).elim
  have st : St0 K G (hole H (· = y)) G H (.rg (.ref y) [(y, .ins C [])] :: Γ) ((V.ref y :: us).map some) :=
    ⟨⟨Same.refl _, fun a o z => (hole_some z).2, env.s, fun _ _ _ z => z⟩, fun i c l e a => hole_in (hown l ⟨i, c, e, a⟩), env⟩
  refine ⟨_, (hb cdv A outer s H E hr ix Γ y pre).nox, G, hole H (· = y), G, startG_st st, ⟨?_, ?_, ?_, ?_⟩⟩
  · intro G' H' Γ' σ' ⟨B, hB, hP⟩ _ s'
    obtain ⟨_, _, _, rB⟩ := s'.env.at_ 0 _ hB
    exact q G' H' B hP rB s'.gr fun a m => s'.nw 0 _ a hB m
  · intro _ _ _ _ _ _ z
    exact z.elim
  · intro _ _ _ _ z
    exact z.elim
  · intro _ _ _ _ z
    exact z.elim
end
section
variable {X : Cx} {Γ : List SD} {P : Po} {rest : List Stmt} {e oe ke : Expr} {es : List Expr} {d : PyData} {ds : List PyData} {v : V} {p a C : Addr} {fs : List (Str × Fv)} {kvs : List (Key × Fv)} {cs cs' : List (Addr × Cell)} {f : Str} {pos pos' sp lp : Pos} {k : Key}
/-- the cells in another order -/
theorem St0.permC {K : PySem.W.Frag} {G0 H0 G H : Hp} {σ : L2.St} {j : Nat} (s : St0 K G0 H0 G H Γ σ) (hj : Γ[j]? = some (.rg v cs)) (hp : cs'.Perm cs) : St0 K G0 H0 G H (Γ.set j (.rg v cs')) σ :=
  s.step hj (Same.refl _) s.env.s (fun _ _ z _ => z) (fun _ _ _ _ z => z) (fun a z => .inl ((hp.map (·.1)).mem_iff.mp z)) fun o _ w => ⟨w.1, ((hp.map (·.1)).nodup_iff).mpr w.2.nd, fun p m => w.2.at_ p (hp.mem_iff.mp m)⟩
theorem ds_permC (j : Nat) (cs' : List (Addr × Cell)) (hp : cs'.Perm cs) (h : DS X (Γ.set j (.rg v cs')) rest P) (hj : Γ[j]? = some (.rg v cs) := by rfl) : DS X Γ rest P := ds_as h fun G0 H0 G H σ s => ⟨G, Same.refl _, s.permC hj hp⟩
/-- o[k] = e, a dict's cell, the key new, a bare instance -/
theorem ds_cputI (j n : Nat) (ho : RE X Γ oe (.ref a)) (hk : DE X Γ ke (kD k)) (he : IE X Γ e C) (hn : getFv kvs k = none) (hr : DS X (Γ.set j (.rg v (cs.set n (a, .dk (kvs ++ [(k, .inst C)]))))) rest P) (hz : kvs.length < 100000) (hu : X.A.units + 1 < cLine) (hj : Γ[j]? = some (.rg v cs)) (hc : cs[n]? = some (a, .dk kvs))
    (hsw : swapsWith e (some (.Subscript oe ke sp)) pos.line X.env = pure false := by rfl) : DS X Γ (.Assign [.Subscript oe ke sp] e pos :: rest) P :=
  ds_seq (N := (· = Γ.set j (.rg v (cs.set n (a, .dk (kvs ++ [(k, .inst C)])))))) ((ps_dput hu ho hk he hsw).imp fun D σ H ⟨G0, H0, G, s, ke0⟩ => ⟨G, s.env, fun G1 H1 y dx g1 qy => ⟨G1, s.env.up g1, fun G2 H2 g2 => ⟨G2, (s.env.up g1).up g2, fun G3 H3 u g3 qu => by
    have s3 := ((s.up g1).up g2).up g3
    obtain ⟨_, _, _, r⟩ := s3.env.at_ j _ hj
    obtain ⟨_, o, z1, ws, rfl, z2⟩ := r.at_ _ (List.mem_of_getElem? hc)
    have hnone : valV ws k = none := by
      rcases z2.get (k := k) with z | ⟨_, _, _, z, _⟩
      · exact z.1
      · rw [hn] at z
        cases z
    refine ⟨a, _, rfl, ?_, ke0.nx G3 _ _ σ rfl ((g1.g.trans g2.g).trans g3.g) (s3.setC hj hc (o := .dK (putK ws k (.ref y))) ⟨_, rfl, ?_⟩)⟩
    · rw [kd_V qu]
      exact DPut.k z1 (by rw [Paired.length z2]; exact Nat.lt_of_lt_of_le hz (by decide))
    · rw [putK_new _ hnone]
      exact valV_put (d := .inst C) ⟨y, dx, rfl, (g2.g.trans g3.g) _ _ qy⟩ z2⟩⟩⟩) fun _ e => e ▸ hr
/-- o[k] = [..], a dict's cell, the key new, a new list -/
theorem ds_cputL (j n : Nat) (ho : RE X Γ oe (.ref a)) (hk : DE X Γ ke (kD k)) (he : DA X Γ es ds) (hl : ds.length ≤ 100000) (hn : getFv kvs k = none) (hr : ∀ l, DS X (Γ.set j (.rg v (cs.set n (a, .dk (kvs ++ [(k, .raw (.ref l))])) ++ [(l, .lst (ds.map .dat))]))) rest P) (hz : kvs.length < 100000) (hu : X.A.units + 1 < cLine) (hj : Γ[j]? = some (.rg v cs)) (hc : cs[n]? = some (a, .dk kvs))
    (hsw : swapsWith (.List es lp) (some (.Subscript oe ke sp)) pos.line X.env = pure false := by rfl) : DS X Γ (.Assign [.Subscript oe ke sp] (.List es lp) pos :: rest) P :=
  ds_seq (N := fun Γ' => ∃ l, Γ' = Γ.set j (.rg v (cs.set n (a, .dk (kvs ++ [(k, .raw (.ref l))])) ++ [(l, .lst (ds.map .dat))]))) ((ps_dput hu ho hk (pe_lst he) hsw).imp fun D σ H ⟨G0, H0, G, s, ke0⟩ => ⟨G, s.env, fun G1 H1 vs g1 q1 => ⟨by rw [q1.len]; exact Nat.le_trans hl (by decide), fun l hl0 => by
    have hj' : j < Γ.length := (List.getElem?_eq_some_iff.mp hj).1
    have hn' : n < cs.length := (List.getElem?_eq_some_iff.mp hc).1
    have s1 := (s.up g1).addC hj hl0 (o := .lst vs) (c := .lst (ds.map .dat)) ⟨_, rfl, dats_fvD q1⟩
    have gl : Gr G1 H1 G1 (upd H1 l (.lst vs)) := Gr.tmp g1.s hl0
    refine ⟨G1, (s.env.up g1).up gl, fun G2 H2 g2 => ⟨G2, ((s.env.up g1).up gl).up g2, fun G3 H3 u g3 qu => ?_⟩⟩
    have s3 := (s1.up g2).up g3
    have hj2 : (Γ.set j (.rg v (cs ++ [(l, .lst (ds.map .dat))])))[j]? = some (.rg v (cs ++ [(l, .lst (ds.map .dat))])) := List.getElem?_set_self hj'
    have hc2 : (cs ++ [(l, Cell.lst (ds.map .dat))])[n]? = some (a, .dk kvs) := by rw [List.getElem?_append_left hn']; exact hc
    obtain ⟨_, _, _, r⟩ := s3.env.at_ j _ hj2
    obtain ⟨_, o, z1, ws, rfl, z2⟩ := r.at_ _ (List.mem_of_getElem? hc2)
    have hnone : valV ws k = none := by
      rcases z2.get (k := k) with z | ⟨_, _, _, z, _⟩
      · exact z.1
      · rw [hn] at z
        cases z
    have s4 := s3.setC hj2 hc2 (o := .dK (putK ws k (.ref l))) (c' := .dk (kvs ++ [(k, .raw (.ref l))])) ⟨_, rfl, by
      rw [putK_new _ hnone]
      exact valV_put (d := .raw (.ref l)) rfl z2⟩
    rw [List.set_set, List.set_append_left _ _ hn'] at s4
    refine ⟨a, _, rfl, ?_, ke0.nx G3 _ _ σ ⟨l, rfl⟩ ((g1.g.trans g2.g).trans g3.g) s4⟩
    rw [kd_V qu]
    exact DPut.k z1 (by rw [Paired.length z2]; exact Nat.lt_of_lt_of_le hz (by decide))⟩⟩) fun _ ⟨l, e⟩ => e ▸ hr l
end
section
variable {X : Cx} {Γ : List SD} {P : Po} {rest : List Stmt} {oe call ke : Expr} {ds : List PyData} {v : V} {p C C2 : Addr} {fs : List (Str × Fv)} {cs : List (Addr × Cell)} {f : Str} {pos pos' dp tp : Pos} {kk : Nat} {ι : Type} {Pre : ι → List SD → Prop} {Post : ι → List SD → SD → Prop}
/-- o.f = {(): C(..)} -/
theorem ds_parts (j n : Nat) (ixf : Addr → ι) (hu : X.A.units + 1 < cLine) (hp : PE X call (tMake C2 (SpG X.K Pre Post) [] E0 (tDA X.K Γ ds))) (ho : RE X Γ oe (.ref p)) (F : Fd X.K C f) (pre : ∀ a, Pre (ixf a) (.rg (.ref a) [(a, .ins C2 [])] :: ds.map .dat)) (hj : Γ[j]? = some (.rg v cs)) (hc : cs[n]? = some (p, .ins C fs)) (hl : fs.length < 1000)
    (post : ∀ t Γ' c, Post (ixf t) Γ' c → c = .dat .none ∧ ∃ B, Γ'[0]? = some (.rg (.ref t) B) ∧ ∀ q, DS X (Γ.set j (.rg v (cs.set n (p, .ins C (putFv f (.raw (.ref q)) fs)) ++ (q, .dt [([], .raw (.ref t))]) :: B))) rest P)
    (hs : swapsWith (.Dict [some (.Tuple [] kk tp)] [call] dp) (some (.Attribute oe f pos')) pos.line X.env = pure false := by rfl) : DS X Γ (.Assign [.Attribute oe f pos'] (.Dict [some (.Tuple [] kk tp)] [call] dp) pos :: rest) P :=
  ds_seq (N := fun Γ' => DS X Γ' rest P) ((ps_fld ho (pe_disp1 hu (pe_tup pa_nil) hp) hs).imp fun D σ H ⟨G0, H0, G, s, k⟩ q hq => ⟨Nat.zero_le _, fun b hb => by
    have hj' : j < Γ.length := (List.getElem?_eq_some_iff.mp hj).1
    have hn : n < cs.length := (List.getElem?_eq_some_iff.mp hc).1
    have g1 : Gr G H G (upd (upd H q (.dT [])) b (.tup [])) := (Gr.tmp s.env.s hq).trans (Gr.tmp (same_upd s.env.s (s.env.s.free hq)) hb)
    have bq : b ≠ q := fun w => by rw [w, upd_same] at hb; cases hb
    have sq := s.addC hj hq (o := .dT []) (c := .dt []) ⟨_, rfl, .nil⟩
    have sb := sq.addC (List.getElem?_set_self hj') hb (o := .tup []) (c := .tup []) ⟨_, rfl, .nil⟩
    rw [List.set_set] at sb
    refine ⟨G, (s.up g1).env, fun G2 H2 us g2 qu t dx ht hdx hne => ?_⟩
    show SpG X.K Pre Post (V.ref t :: (us ++ [])) _ _ E0
    rw [List.append_nil]
    have s2 := sb.up g2
    refine s2.make (E := E0) (Q := fun y H2 => ∃ (b1 : Addr) (k : List Key), V.ref b = .ref b1 ∧ H2 b1 = some (.tup (k.map kV)) ∧ H2 q = some (.dT []) ∧ tR X.K Γ (.ref p) σ (upd H2 q (.dT [(k, y)])) fun x H3 => ∃ a C dx fs, x = .ref a ∧ H3 a = some (.ins C dx fs) ∧ Cls X.K C ∧ NoAttr X.K C f ∧ fs.length < 1000 ∧ D.nx σ (upd H3 a (.ins C dx (putF f (.ref q) fs)))) ht hdx hne qu (pre t) (fun Γ' c z => ⟨(post t Γ' c z).1, (post t Γ' c z).2.imp fun _ w => w.1⟩) fun G' H' Γ' B hP hB sg st rB fr => ?_
    obtain ⟨_, B2, e2, h2⟩ := post t Γ' _ hP
    rw [hB] at e2
    cases e2
    have hj1 : (Γ.set j (.rg v (cs ++ [(q, Cell.dt [])] ++ [(b, Cell.tup [])])))[j]? = some (.rg v (cs ++ [(q, Cell.dt [])] ++ [(b, Cell.tup [])])) := List.getElem?_set_self hj'
    have s3 := st.absorb hj1 rB fr
    rw [List.set_set] at s3
    have hj2 : (Γ.set j (.rg v (cs ++ [(q, Cell.dt [])] ++ [(b, Cell.tup [])] ++ B)))[j]? = some (.rg v (cs ++ [(q, Cell.dt [])] ++ [(b, Cell.tup [])] ++ B)) := List.getElem?_set_self hj'
    have hcq : (cs ++ [(q, Cell.dt [])] ++ [(b, Cell.tup [])] ++ B)[cs.length]? = some (q, .dt []) := by
      rw [List.append_assoc, List.append_assoc, List.getElem?_append_right (Nat.le_refl _), Nat.sub_self]
      rfl
    have hcb : (cs ++ [(q, Cell.dt [])] ++ [(b, Cell.tup [])] ++ B)[cs.length + 1]? = some (b, .tup []) := by
      rw [List.append_assoc, List.append_assoc, List.getElem?_append_right (Nat.le_succ _), show cs.length + 1 - cs.length = 1 by omega]
      rfl
    obtain ⟨_, _, _, r⟩ := s3.env.at_ j _ hj2
    obtain ⟨_, uq, y1, wq, rfl, y2⟩ := r.at_ _ (List.mem_of_getElem? hcq)
    obtain ⟨_, ub, y3, wb, rfl, y4⟩ := r.at_ _ (List.mem_of_getElem? hcb)
    cases y2
    cases y4
    refine ⟨b, [], rfl, y3, y1, ?_⟩
    have s4 := s3.setC hj2 hcq (o := .dT [([], .ref t)]) (c' := .dt [([], .raw (.ref t))]) ⟨_, rfl, .cons ⟨rfl, rfl⟩ .nil⟩
    rw [List.set_set] at s4
    have hset : (cs ++ [(q, Cell.dt [])] ++ [(b, Cell.tup [])] ++ B).set cs.length (q, .dt [([], .raw (.ref t))]) = cs ++ ((q, .dt [([], .raw (.ref t))]) :: (b, .tup []) :: B) := by
      rw [List.append_assoc, List.append_assoc, List.set_append_right _ _ (Nat.le_refl _), Nat.sub_self]
      rfl
    rw [hset] at s4
    have hj4 : (Γ.set j (.rg v (cs ++ ((q, .dt [([], .raw (.ref t))]) :: (b, .tup []) :: B))))[j]? = some (.rg v (cs ++ ((q, .dt [([], .raw (.ref t))]) :: (b, .tup []) :: B))) := List.getElem?_set_self hj'
    have s5 := s4.fewer hj4 (List.sublist_append_left cs _)
    rw [List.set_set] at s5
    have same : Γ.set j (.rg v cs) = Γ := by
      refine List.ext_getElem? fun m => ?_
      by_cases hm : j = m
      · subst hm
        rw [List.getElem?_set_self hj', hj]
      · rw [List.getElem?_set_ne hm]
    rw [same] at s5
    refine ⟨G', s5.env, fun G6 H6 g6 => ?_⟩
    have s6 := s4.up g6
    have hcp : (cs ++ ((q, .dt [([], .raw (.ref t))]) :: (b, .tup []) :: B))[n]? = some (p, .ins C fs) := by rw [List.getElem?_append_left hn]; exact hc
    obtain ⟨_, _, _, r6⟩ := s6.env.at_ j _ hj4
    obtain ⟨_, u, z1, dx6, ws, rfl, z2⟩ := r6.at_ _ (List.mem_of_getElem? hcp)
    have s7 := s6.setC hj4 hcp (o := .ins C dx6 (putF f (.ref q) ws)) (c' := .ins C (putFv f (.raw (.ref q)) fs)) ⟨dx6, _, rfl, z2.put (x := .raw (.ref q)) rfl⟩
    rw [List.set_set, List.set_append_left _ _ hn] at s7
    have hj7 : (Γ.set j (.rg v (cs.set n (p, .ins C (putFv f (.raw (.ref q)) fs)) ++ ((q, .dt [([], .raw (.ref t))]) :: (b, .tup []) :: B))))[j]? = some (.rg v (cs.set n (p, .ins C (putFv f (.raw (.ref q)) fs)) ++ ((q, .dt [([], .raw (.ref t))]) :: (b, .tup []) :: B))) := List.getElem?_set_self hj'
    have s8 := s7.fewer hj7 (cs' := cs.set n (p, .ins C (putFv f (.raw (.ref q)) fs)) ++ ((q, .dt [([], .raw (.ref t))]) :: B)) ((List.Sublist.refl _).append ((List.sublist_cons_self _ _).cons₂ _))
    rw [List.set_set] at s8
    exact ⟨p, C, dx6, ws, rfl, z1, F.cls, F.na, by rw [Paired.length z2]; exact hl, k.nx G6 _ _ σ (h2 q) ((g2.g.trans sg).trans g6.g) s8⟩⟩) fun _ h => h
end
end SJ
set_option maxRecDepth 100000
set_option maxHeartbeats 4000000
/-! WN: a house is made. -/
namespace SJ
open PySem PySem.Spec PyProof.Rows L2
section
variable {P : Program} {w : World} {K : PySem.W.Frag} {mg : Str → Option Value} {base : Heap} {f : Addr} {fd : FuncData} {CK : Kd → Addr} {CH CT : Addr}
structure IxH where
  (g : Pg) (bs : List (Kd × Str)) (o : Option (List (List El))) (n : Nat)
/-- the states at first -/
def stsOf (bs : List (Kd × Str)) : Option (List (List El)) → List (List El)
  | none => bs.map fun _ => []
  | some ss => ss
theorem out_fs_eq (bs : List (Kd × Str)) (o : Option (List (List El))) : out_fs (bs, o) = .list ((stsOf bs o).map stD) := by
  cases o with
  | none => show PyData.list _ = PyData.list ((bs.map fun _ => []).map stD); rw [List.map_map]; rfl
  | some ss => rfl
def Pre_House : IxH → List SD → Prop := fun ⟨g, bs, o, n⟩ Γ => g.good ∧ g.boxes = (bs.map fun b => (b.1.w, b.2)) ∧ 1 ≤ n ∧ n ≤ 400 ∧ (stsOf bs o).length = bs.length ∧ (∀ (i : Nat) b s, bs[i]? = some b → (stsOf bs o)[i]? = some s → okSt b.1 s) ∧
  Γ = [.dat g.d, .dat (.int (n : Nat)), .dat (match o with | none => .none | some ss => .list (ss.map stD))]
def Post_House (CK : Kd → Addr) (CH CT : Addr) : IxH → Addr → List (Addr × Cell) → Prop := fun ⟨g, bs, o, n⟩ y B => ∃ s : HouS, B = houC CK CH CT s ∧ s.h = y ∧ s.g = g ∧ (s.bx.map fun b => (b.k, b.nm)) = bs ∧ s.bx.map (·.st) = stsOf bs o ∧ (∀ b ∈ s.bx, b.es = [(.none, .int 0, b.st)]) ∧ s.torn = .dat .none ∧ ∃ t kd nm sd, s.th = newS t kd nm sd g n
theorem sc_House_init : FnScope ["self", "program", "steps", "boxes", "states", "row", "state"] ["self", "program", "steps", "boxes"] (defScope m_House_init) := ⟨rfl, rfl, rfl, by decide +kernel, rfl, by decide +kernel, by decide +kernel⟩
theorem dpt_scal : ∀ (n : Nat) {d : PyData}, scal1 d → dpt n d
  | 0, _, h => h
  | _ + 1, _, h => .inl h
theorem dpt_num (n k : Nat) : dpt (n + 1) (numE k) := .inr ⟨_, .inr rfl, by show 2 ≤ 10000; decide, fun x m => by
  rcases List.mem_cons.mp m with rfl | m
  · exact dpt_scal n trivial
  · rw [List.mem_singleton.mp m]
    exact dpt_scal n trivial⟩
theorem dpt_put (n : Nat) (p : Put) (h : p.ns.length ≤ 1000) : dpt (n + 3) p.d := .inr ⟨_, .inr rfl, by show 4 ≤ 10000; decide, fun x m => by
  rcases List.mem_cons.mp m with rfl | m
  · exact dpt_scal _ trivial
  rcases List.mem_cons.mp m with rfl | m
  · exact dpt_scal _ trivial
  rcases List.mem_cons.mp m with rfl | m
  · exact dpt_scal _ trivial
  rw [List.mem_singleton.mp m]
  refine .inr ⟨_, .inl rfl, by rw [List.length_map]; omega, fun y m => ?_⟩
  obtain ⟨k, _, rfl⟩ := List.mem_map.mp m
  exact dpt_num n k⟩
theorem dpt_pg (g : Pg) (h : g.small) : dpt 7 g.d := .inr ⟨_, .inr rfl, by show 3 ≤ 10000; decide, fun x m => by
  rcases List.mem_cons.mp m with rfl | m
  · refine .inr ⟨_, .inl rfl, by rw [List.length_map]; have := h.1; omega, fun y m => ?_⟩
    obtain ⟨b, _, rfl⟩ := List.mem_map.mp m
    refine .inr ⟨_, .inr rfl, by show 2 ≤ 10000; decide, fun z m => ?_⟩
    rcases List.mem_cons.mp m with rfl | m
    · exact dpt_scal _ trivial
    · rw [List.mem_singleton.mp m]
      exact dpt_scal _ trivial
  rcases List.mem_cons.mp m with rfl | m
  · refine .inr ⟨_, .inl rfl, by show 1 ≤ 10000; decide, fun y m => ?_⟩
    rw [List.mem_singleton.mp m]
    refine .inr ⟨_, .inr rfl, by show 5 ≤ 10000; decide, fun z m => ?_⟩
    rcases List.mem_cons.mp m with rfl | m
    · exact dpt_scal _ trivial
    rcases List.mem_cons.mp m with rfl | m
    · exact .inr ⟨[], .inl rfl, by decide, fun z m => by cases m⟩
    rcases List.mem_cons.mp m with rfl | m
    · refine .inr ⟨_, .inl rfl, by rw [List.length_map]; have := h.2.1; omega, fun z m => ?_⟩
      obtain ⟨p, mp, rfl⟩ := List.mem_map.mp m
      exact dpt_put 0 p (h.2.2 p mp)
    rcases List.mem_cons.mp m with rfl | m
    · exact dpt_scal _ trivial
    rw [List.mem_singleton.mp m]
    exact dpt_scal _ trivial
  rw [List.mem_singleton.mp m]
  exact .inr ⟨[], .inl rfl, by decide, fun z m => by cases m⟩⟩
theorem getFv_noneB {f : BxS → Fv} {x : Str} : ∀ {bx : List BxS}, (∀ c ∈ bx, c.nm ≠ x) → getFv (bx.map fun b => (Sum.inr b.nm, f b)) (.inr x) = none
  | [], _ => rfl
  | c :: bx, h => by
    have h1 : ¬ (Sum.inr c.nm : Key) = Sum.inr x := fun e => h c List.mem_cons_self (Sum.inr.inj e)
    have ih := getFv_noneB (f := f) (bx := bx) fun d m => h d (List.mem_cons_of_mem _ m)
    unfold getFv at ih ⊢
    rw [List.map_cons, List.find?_cons, decide_eq_false h1]
    exact ih
theorem snocK {α : Type} {β : Type} (f : β → α) (xs : List β) (x : β) : xs.map f ++ [f x] = (xs ++ [x]).map f := by rw [List.map_append]; rfl
theorem ok_House_init (T : Tx K mg) (B : HouFd K CH) (g1 : G_is_let P w K mg base) (g2 : G_is_steps P w K mg base) (g3 : G_first_states P w K mg base) (g4 : G_copied P w K mg base 7) (g5 : G_kind_of P w K mg base CK) (g6 : M_Thread P w K mg base CT) (F : FD K d_House_init f fd) :
    FnOk P w K mg base CX0 9 f fd ["self", "program", "steps", "boxes"] (SpI K CH Pre_House (Post_House CK CH CT)) := by
  refine fn_init F sc_House_init (fun ⟨_, _, _, _⟩ Γ h => by obtain ⟨_, _, _, _, _, _, rfl⟩ := h; rfl) fun cdv A outer s0 H E hr ⟨g, bs, o, n⟩ Γ y h => ?_
  obtain ⟨hg, hbs, hn1, hn2, hlen, hok, rfl⟩ := h
  have hu := hu_of hr
  have hb50 : bs.length ≤ 50 := by
    have := hg.small.1
    rw [hbs, List.length_map] at this
    exact this
  have hbd : (g.boxes.map boxD) = bs.map kbD := by
    rw [hbs, List.map_map]
    rfl
  refine s2_skip (dt_is (dt_not (dt_val (d_call g1 (hr.mono (by decide)) (da_cons (d_var 1 rfl) da_nil) ⟨g, hg.small, rfl, rfl⟩))) rfl) ?_
  refine s2_skip (dt_is (dt_not (dt_val (d_call g2 (hr.mono (by decide)) (da_cons (d_var 2 rfl) da_nil) ⟨n, hn2, rfl, rfl⟩))) rfl) ?_
  refine s2_setF 4 (d := .list ((stsOf bs o).map stD)) (f_call (ix := (bs, o)) g3 (hr.mono (by decide)) (da_cons (d_ixT (d_var 1 rfl) d_int (d := .list (g.boxes.map boxD)) at0) (da_cons (d_var 3 rfl) da_nil)) ?_ (out_fs_eq bs o)) (fun Gs => ?_) sc_House_init.nd
  · rw [hbd]
    cases o with
    | none => exact ⟨hb50, rfl⟩
    | some ss => exact ⟨hb50, hlen, hok, rfl⟩
  refine s2_switch (Γ2 := [.rg (.ref y) [(y, .ins CH [("program", .dat g.d)])], .un, .dat (.int (n : Nat)), .un, .od Gs (.list ((stsOf bs o).map stD)), .un, .un]) (f_call (ix := g.d) g4 hr (da_cons (d_var 1 rfl) da_nil) ⟨dpt_pg g hg.small, rfl⟩) (re_var 0) B.program rfl rfl rfl (fun i c e => ?_) ?_
  · match i with
    | 0 => exact .inr (.inl rfl)
    | 1 => cases e; exact .inl rfl
    | 2 => cases e; exact .inr (.inr ⟨rfl, .inr (.inl ⟨_, rfl⟩)⟩)
    | 3 => cases e; exact .inl rfl
    | 4 => cases e; exact .inr (.inr ⟨rfl, .inr (.inr ⟨_, _, rfl⟩)⟩)
    | 5 => cases e; exact .inl rfl
    | 6 => cases e; exact .inl rfl
    | i + 7 => cases e
  refine ds_absorb 4 ?_
  refine ds_fsetD 0 0 (re_var 0) B.sorts fun sr => ?_
  refine ds_fsetD 0 0 (re_var 0) B.held fun hd => ?_
  refine ds_fsetD 0 0 (re_var 0) B.puts fun pt => ?_
  refine ds_forP 5 6 (fun i Γ => ∃ (bx : List BxS) (a b : SD), (a = .un ∨ ∃ d, a = .dat d) ∧ (b = .un ∨ ∃ d, b = .dat d) ∧ (bx.map fun b => (b.k, b.nm)) = bs.take i ∧ bx.map (·.st) = (stsOf bs o).take i ∧ (∀ b ∈ bx, b.es = [(.none, .int 0, b.st)]) ∧
    Γ = [.rg (.ref y) ([(y, .ins CH [("program", .dat g.d), ("sorts", .raw (.ref sr)), ("held", .raw (.ref hd)), ("puts", .raw (.ref pt))]), (sr, .dk (sortsK CK bx)), (hd, .dk (heldK bx)), (pt, .dk (putsK bx))] ++ putsC bx), .un, .dat (.int (n : Nat)), .un, .dat (.list ((stsOf bs o).map stD)), a, b])
    (di_zip T.f_zip (d_ixT (d_fld (d := g.d) 0 0 (re_var 0) B.program) d_int (d := .list (g.boxes.map boxD)) at0) (d_var 4 rfl)) ⟨[], .un, .un, .inl rfl, .inl rfl, rfl, rfl, (fun _ m => by cases m), rfl⟩ (fun i d Γ1 hd1 hi => ?_) (fun Γ1 hi => ?_) sc_House_init.nd
  · obtain ⟨bx, a, b, ha, hb, e1, e2, e3, rfl⟩ := hi
    obtain ⟨da, db, f1, f2, rfl⟩ := zipD_get hd1
    rw [hbd, List.getElem?_map] at f1
    rw [List.getElem?_map] at f2
    cases hb1 : bs[i]? with
    | none => rw [hb1] at f1; cases f1
    | some bb =>
      cases hs1 : (stsOf bs o)[i]? with
      | none => rw [hs1] at f2; cases f2
      | some st =>
        rw [hb1] at f1
        rw [hs1] at f2
        cases f1
        cases f2
        refine ⟨_, _, rfl, ?_⟩
        have hbl : bx.length ≤ 50 := by
          have := congrArg List.length e1
          rw [List.length_map, List.length_take] at this
          omega
        have hne : ∀ c ∈ bx, c.nm ≠ bb.2 := fun c m e => by
          have m2 : (c.k, c.nm) ∈ bs.take i := e1 ▸ List.mem_map.mpr ⟨c, m, rfl⟩
          obtain ⟨j, hj⟩ := List.mem_iff_getElem?.mp m2
          have hji : j < i := by
            have := (List.getElem?_eq_some_iff.mp hj).1
            rw [List.length_take] at this
            omega
          rw [List.getElem?_take_of_lt hji] at hj
          have nd := hg.nd
          rw [hbs, List.map_map] at nd
          have w1 : (bs.map ((fun b => b.2) ∘ fun b : Kd × Str => (b.1.w, b.2)))[j]? = some bb.2 := by rw [List.getElem?_map, hj, ← e]; rfl
          have w2 : (bs.map ((fun b => b.2) ∘ fun b : Kd × Str => (b.1.w, b.2)))[i]? = some bb.2 := by rw [List.getElem?_map, hb1]; rfl
          have := nd_ix nd w1 w2
          omega
        have hm : ∀ f : BxS → Fv, (bx.map fun b => ((Sum.inr b.nm : Key), f b)).length < 100000 := fun f => by rw [List.length_map]; omega
        refine ds_cputI 0 1 (k := .inr bb.2) (kvs := sortsK CK bx) (re_fld 0 0 (re_var 0) B.sorts) (d_ixT (d_var 5 rfl) d_int (d := .str bb.2) at1) (i_kindof (k := bb.1) g5 (hr.mono (by decide)) (d_ixT (d_var 5 rfl) d_int at0)) (getFv_noneB hne) ?_ (hm _) hu rfl rfl
        refine ds_cput 0 2 (k := .inr bb.2) (kvs := heldK bx) (d := stD st) (re_fld 0 0 (re_var 0) B.held) (d_ixT (d_var 5 rfl) d_int (d := .str bb.2) at1) (d_var 6 rfl) (getFv_noneB hne) ?_ (hm _) hu rfl rfl
        refine ds_cputL 0 3 (k := .inr bb.2) (kvs := putsK bx) (ds := [entD (.none, .int 0, st)]) (re_fld 0 0 (re_var 0) B.puts) (d_ixT (d_var 5 rfl) d_int (d := .str bb.2) at1) (da_cons (d_tup (da_cons d_non (da_cons d_int (da_cons (d_listOf (ds := st.map El.d) T.f_list (d_var 6 rfl)) da_nil)))) da_nil) (by show 1 ≤ 100000; decide) (getFv_noneB hne) (fun l => ?_) (hm _) hu rfl rfl
        refine ds_nil ⟨bx ++ [⟨bb.1, bb.2, l, st, [(.none, .int 0, st)]⟩], .dat (kbD bb), .dat (stD st), .inr ⟨_, rfl⟩, .inr ⟨_, rfl⟩, ?_, ?_, fun c m => ?_, ?_⟩
        · rw [List.map_append, e1, List.take_succ, hb1]
          rfl
        · rw [List.map_append, e2, List.take_succ, hs1]
          rfl
        · rcases List.mem_append.mp m with m | m
          · exact e3 c m
          · rw [List.mem_singleton.mp m]
        · have q1 : sortsK CK (bx ++ [⟨bb.1, bb.2, l, st, [(.none, .int 0, st)]⟩]) = sortsK CK bx ++ [(Sum.inr bb.2, .inst (CK bb.1))] := (snocK _ _ _).symm
          have q2 : heldK (bx ++ [⟨bb.1, bb.2, l, st, [(.none, .int 0, st)]⟩]) = heldK bx ++ [(Sum.inr bb.2, .dat (stD st))] := (snocK _ _ _).symm
          have q3 : putsK (bx ++ [⟨bb.1, bb.2, l, st, [(.none, .int 0, st)]⟩]) = putsK bx ++ [(Sum.inr bb.2, .raw (.ref l))] := (snocK _ _ _).symm
          have q4 : putsC (bx ++ [⟨bb.1, bb.2, l, st, [(.none, .int 0, st)]⟩]) = putsC bx ++ [(l, .lst ([entD (.none, .int 0, st)].map .dat))] := (snocK _ _ _).symm
          rw [q1, q2, q3, q4]
          rfl
  · obtain ⟨bx, a, b, ha, hb, e1, e2, e3, rfl⟩ := hi
    have hz : bs.length ≤ (zipD (g.boxes.map boxD) ((stsOf bs o).map stD)).length := by
      rcases zipD_len (ds := g.boxes.map boxD) (es := (stsOf bs o).map stD) with h | h
      · rw [hbd, List.length_map] at h
        rw [hbd]
        exact h
      · rw [List.length_map, hlen] at h
        exact h
    rw [List.take_of_length_le hz] at e1
    rw [List.take_of_length_le (by rw [hlen]; exact hz)] at e2
    refine ds_parts 0 0 (fun t => (t, g, n)) hu (g_make g6 (hr.mono (by decide)) (da_cons (d_fld (d := g.d) 0 0 (re_var 0) B.program) (da_cons d_str (da_cons (d_lst da_nil) (da_cons (d_var 2 rfl) da_nil))))) (re_var 0) B.parts (fun t => ⟨hg, hn1, rfl⟩) rfl rfl (by show 4 < 1000; decide) fun t Γ' c ⟨z1, kd, nm, sd, z2⟩ => ⟨z1, _, z2, fun q => ?_⟩
    refine ds_fset 0 0 d_non (re_var 0) B.torn ?_ rfl rfl (by show 5 < 1000; decide)
    refine ds_permC 0 (houC CK CH CT ⟨y, sr, hd, pt, q, g, bx, .dat .none, newS t kd nm sd g n⟩) ?_ (ds_nil ⟨_, rfl, _, rfl, rfl, rfl, e1, e2, e3, rfl, t, kd, nm, sd, rfl⟩)
    have ht : (newS t kd nm sd g n).t = t := setS_t _
    unfold houC houA
    rw [ht]
    refine (List.Perm.cons _ (List.Perm.cons _ (List.Perm.cons _ (List.Perm.cons _ ?_))))
    exact (List.perm_middle (a := (q, Cell.dt [([], Fv.raw (.ref t))])) (l₁ := putsC bx) (l₂ := thrC CT (newS t kd nm sd g n))).symm
abbrev M_House (P : Program) (w : World) (K : PySem.W.Frag) (mg : Str → Option Value) (base : Heap) (CK : Kd → Addr) (CH CT : Addr) : Prop := KFn P w K mg base "House" CH 9 (SpI K CH Pre_House (Post_House CK CH CT))
end
end SJ
set_option maxRecDepth 100000
set_option maxHeartbeats 4000000
/-! X1: the law's numbers. -/
namespace SJ
open PySem PySem.Spec PyProof.Rows L2
def spr1 (c k : Int) : Int := (c % 10 ^ (15 : Int).toNat + 7 * k + 3) % 2147483629
def spr2 (c k : Int) : Int := spr1 c k * spr1 c k + 1103 * spr1 c k
def spr3 (c k : Int) : Int := (spr2 c k + 12345 * k * k + 1) % 2147483647
/-- the law's spread -/
def spr (c k : Int) : Int := (spr3 c k * (spr3 c k / 1024) + 31 * spr3 c k) % 1000000007
theorem spr_nn (c k : Int) : 0 ≤ spr c k := Int.emod_nonneg _ (by decide)
theorem spr_lt (c k : Int) : spr c k < 1000000007 := Int.emod_lt_of_pos _ (by decide)
section
variable {P : Program} {w : World} {K : PySem.W.Frag} {mg : Str → Option Value} {base : Heap} {f : Addr} {fd : FuncData}
def R_spread : List PyData → PyData → Prop := fun ds d => ∃ c k : Int, 0 ≤ k ∧ k ≤ 1000 ∧ ds = [.int c, .int k] ∧ d = .int (spr c k)
theorem sc_spread : FnScope ["_law_cell", "_law_k", "_law_number_here"] ["_law_cell", "_law_k"] (defScope s_law_spread) := ⟨rfl, rfl, rfl, by decide +kernel, rfl, by decide +kernel, by decide +kernel⟩
theorem ok_spread (F : FD K d_law_spread f fd) : FnOk P w K mg base CX0 1 f fd ["_law_cell", "_law_k"] (SpD K R_spread) := by
  refine fn_data F sc_spread (fun ds d h => by obtain ⟨_, _, _, _, rfl, _⟩ := h; rfl) fun cdv A outer s H E hr ds d h => ?_
  obtain ⟨c, k, h0, h1, rfl, rfl⟩ := h
  have a0 : 0 ≤ spr1 c k := Int.emod_nonneg _ (by decide)
  have a1 : spr1 c k < 2147483629 := Int.emod_lt_of_pos _ (by decide)
  have b0 : 0 ≤ spr3 c k := Int.emod_nonneg _ (by decide)
  have b1 : spr3 c k < 2147483647 := Int.emod_lt_of_pos _ (by decide)
  refine ds_set 2 (d := .int (spr1 c k)) (d_bin (d_bin (d_bin (d_bin (d_var 0 rfl) (d_bin d_int d_int (o_powI ⟨by decide, by decide, by decide⟩)) (o_modI (by decide))) (d_bin d_int (d_var 1 rfl) (o_mulI (.inl (by decide)))) o_addI) d_int o_addI) d_int (o_modI (by decide))) ?_ sc_spread.nd
  refine ds_set 2 (d := .int (spr2 c k)) (d_bin (d_bin (d_var 2 rfl) (d_var 2 rfl) (o_mulI (.inl ⟨by omega, by omega⟩))) (d_bin d_int (d_var 2 rfl) (o_mulI (.inl (by decide)))) o_addI) ?_ sc_spread.nd
  refine ds_set 2 (d := .int (spr3 c k)) (d_bin (d_bin (d_bin (d_var 2 rfl) (d_bin (d_bin d_int (d_var 1 rfl) (o_mulI (.inl (by decide)))) (d_var 1 rfl) (o_mulI (.inr ⟨by omega, by omega⟩))) o_addI) d_int o_addI) d_int (o_modI (by decide))) ?_ sc_spread.nd
  exact ds_ret (d_bin (d_bin (d_bin (d_var 2 rfl) (d_bin (d_var 2 rfl) d_int (o_divI ⟨by decide, by decide⟩)) (o_mulI (.inl ⟨by omega, by omega⟩))) (d_bin d_int (d_var 2 rfl) (o_mulI (.inl (by decide)))) o_addI) d_int (o_modI (by decide))) rfl
abbrev G_spread (P : Program) (w : World) (K : PySem.W.Frag) (mg : Str → Option Value) (base : Heap) : Prop := GFn P w K mg base "_law_spread" 1 (SpD K R_spread)
/-- the law's number -/
def numL (n : Int) : Int := if n % 2 = 0 then n / 2 % 6 else n / 2 * 17 % 1000000000
theorem numL_nn (n : Int) : 0 ≤ numL n := by unfold numL; split <;> exact Int.emod_nonneg _ (by decide)
theorem numL_lt (n : Int) : numL n < 1000000000 := by
  unfold numL
  split
  · exact Int.lt_trans (Int.emod_lt_of_pos _ (by decide)) (by decide)
  · exact Int.emod_lt_of_pos _ (by decide)
def R_numL : List PyData → PyData → Prop := fun ds d => ∃ n : Int, 0 ≤ n ∧ n < 1000000007 ∧ ds = [.int n] ∧ d = .int (numL n)
theorem sc_numL : FnScope ["_law_n"] ["_law_n"] (defScope s_law_number) := ⟨rfl, rfl, rfl, by decide +kernel, rfl, by decide +kernel, by decide +kernel⟩
theorem ok_numL (F : FD K d_law_number f fd) : FnOk P w K mg base CX0 1 f fd ["_law_n"] (SpD K R_numL) := by
  refine fn_data F sc_numL (fun ds d h => by obtain ⟨_, _, _, rfl, _⟩ := h; rfl) fun cdv A outer s H E hr ds d h => ?_
  obtain ⟨n, h0, h1, rfl, rfl⟩ := h
  by_cases e : n % 2 = 0
  · refine ds_ifT (dt_is (dt_cmp (d_bin (d_var 0 rfl) d_int (o_modI (by decide))) d_int o_eqI) (by simp [e])) ?_
    refine ds_ret (d_is (d_bin (d_bin (d_var 0 rfl) d_int (o_divI ⟨by decide, by decide⟩)) d_int (o_modI (by decide))) ?_) rfl
    unfold numL
    rw [if_pos e]
  · refine ds_skip (dt_is (dt_cmp (d_bin (d_var 0 rfl) d_int (o_modI (by decide))) d_int o_eqI) (by simp [e])) ?_
    refine ds_ret (d_is (d_bin (d_bin (d_bin (d_var 0 rfl) d_int (o_divI ⟨by decide, by decide⟩)) d_int (o_mulI (.inr (by decide)))) d_int (o_modI (by decide))) ?_) rfl
    unfold numL
    rw [if_neg e]
abbrev G_numL (P : Program) (w : World) (K : PySem.W.Frag) (mg : Str → Option Value) (base : Heap) : Prop := GFn P w K mg base "_law_number" 1 (SpD K R_numL)
end
end SJ
set_option maxRecDepth 100000
set_option maxHeartbeats 4000000
/-! X2: the law's cells, boxes, puts. -/
namespace SJ
open PySem PySem.Spec PyProof.Rows L2
section
variable {X : Cx} {Γ : List SD} {e ie : Expr} {a : Addr} {xs : List V} {ns : List Int} {pos p np : Pos}
theorem d_lenQ (j : Nat) (hm : X.mg "len" = none) (he : RE X Γ e (.ref a)) (hj : Γ[j]? = some (.sq a xs)) (hg : Gl X "len" := by rfl) (hs : starEach [e] X.env = (false, eval e X.env) :: starEach [] X.env := by rfl) (hpl : (backTo pos (starEach [] X.env)).any (·.1) = false := by rfl) : DE X Γ (.Call (.Name "len" np) [e] [] pos) (.int (xs.length : Nat)) :=
  (pe_callB call_len_seq hg hm (by decide +kernel) (pa_cons he pa_nil hs) (by decide) (by decide) hs hpl).imp fun σ H Q ⟨G, env, k⟩ => ⟨G, env, fun G1 H1 g1 => by
    obtain ⟨o, _, _, q⟩ := (env.up g1).at_ j _ hj
    exact ⟨a, xs, rfl, .inl (g1.s.seq q), k G1 H1 _ g1 (.int _)⟩⟩
theorem d_ixQ (j : Nat) {i : Int} {n : Int} (he : RE X Γ e (.ref a)) (hj : Γ[j]? = some (.sq a (ns.map V.int))) (hi : DE X Γ ie (.int i)) (h : atI ns i = some n) (hs : PlainIx ie := by exact fun _ _ => rfl) : DE X Γ (.Subscript e ie pos) (.int n) :=
  (pe_ix ix_list he hi hs).imp fun σ H Q ⟨G, env, k⟩ => ⟨G, env, fun G1 H1 g1 => ⟨G1, env.up g1, fun G2 H2 y g2 q2 => by
    obtain ⟨o, _, _, q⟩ := ((env.up g1).up g2).at_ j _ hj
    have h2 : atI (ns.map V.int) i = some (.int n) := by
      unfold atI at h ⊢
      rw [List.length_map]
      cases hx : ixN ns.length i with
      | none => rw [hx] at h; cases h
      | some m =>
        rw [hx] at h
        show (ns.map V.int)[m]? = _
        rw [List.getElem?_map, show ns[m]? = some n from h]
        rfl
    exact ⟨a, _, i, .int n, rfl, q2.intE, g2.s.seq q, h2, k G2 H2 _ (g1.trans g2) (.int n)⟩⟩⟩
end
section
variable {P : Program} {w : World} {K : PySem.W.Frag} {mg : Str → Option Value} {base : Heap} {f : Addr} {fd : FuncData}
def cellL (ns : List Int) (k : Nat) : Int := (ns[k]?).getD 0
def Pre_cell : Addr × List Int × Nat → List SD → Prop := fun (a, ns, k) Γ => Γ = [.sq a (ns.map V.int), .dat (.int (k : Nat))]
theorem sc_cell : FnScope ["_law_script", "_law_k"] ["_law_script", "_law_k"] (defScope s_law_cell_at) := ⟨rfl, rfl, rfl, by decide +kernel, rfl, by decide +kernel, by decide +kernel⟩
theorem ok_cell (T : Tx K mg) (F : FD K d_law_cell_at f fd) : FnOk P w K mg base CX0 1 f fd ["_law_script", "_law_k"] (SpF K Pre_cell (fun z => .int (cellL z.2.1 z.2.2))) := by
  refine fn_fresh F sc_cell (fun (_, _, _) Γ (h : Γ = _) => by cases h; rfl) fun cdv A outer s H E hr (a, ns, k) Γ (h : Γ = _) => ?_
  cases h
  by_cases hk : k < ns.length
  · refine ds_ifT (dt_is (dt_cmp (d_var 1 rfl) (d_lenQ 0 T.f_len (re_var 0) rfl) o_ltI) (decide_eq_true (by show ((k : Nat) : Int) < ((ns.map V.int).length : Nat); rw [List.length_map]; omega))) ?_
    refine ds_ret (d := .int (cellL ns k)) (d_ixQ 0 (re_var 0) rfl (d_var 1 rfl) (atI_nat (j := k) ?_)) (.inl ⟨rfl, trivial⟩)
    unfold cellL
    rw [List.getElem?_eq_getElem hk]
    rfl
  · refine ds_skip (dt_is (dt_cmp (d_var 1 rfl) (d_lenQ 0 T.f_len (re_var 0) rfl) o_ltI) (decide_eq_false (by show ¬ ((k : Nat) : Int) < ((ns.map V.int).length : Nat); rw [List.length_map]; omega))) ?_
    have e : cellL ns k = 0 := by
      unfold cellL
      rw [List.getElem?_eq_none (by omega)]
      rfl
    show DS _ _ _ ⟨fun _ => PyData.int (cellL ns k) = .none, fun _ c => FrR c (.int (cellL ns k)), fun _ => False, fun _ => False⟩
    rw [e]
    exact ds_ret d_int (.inl ⟨rfl, trivial⟩)
abbrev G_cell (P : Program) (w : World) (K : PySem.W.Frag) (mg : Str → Option Value) (base : Heap) : Prop := GFn P w K mg base "_law_cell_at" 1 (SpF K Pre_cell (fun z => .int (cellL z.2.1 z.2.2)))
/-- the law's put -/
def putLaw (kind : Str) (n : Int) : List Int :=
  if kind = "row" then (if n % 5 > 0 then ([8, 999999999, 8, 0] : List Int).take (1 + n / 5 % 4).toNat else (List.range (1 + n / 5 % 4).toNat).map fun k => numL (spr n (k : Nat)))
  else if kind = "once" ∧ n % 5 > 0 then [4]
  else if kind = "map" then (if n % 5 > 0 then [n / 5 % 6, 1000 * (n / 5 % 6) + 7] else [n / 5 % 6, numL (n / 30)])
  else [numL n]
def R_putLaw : List PyData → PyData → Prop := fun ds d => ∃ (kind : Str) (c : Int), ds = [.str kind, .int c] ∧ d = .list ((putLaw kind (spr c 20)).map .int)
theorem sc_putLaw : FnScope ["_law_kind", "_law_cell", "_law_n", "_law_k", "_law_key"] ["_law_kind", "_law_cell"] (defScope s_law_put) := ⟨rfl, rfl, rfl, by decide +kernel, rfl, by decide +kernel, by decide +kernel⟩
theorem ok_putLaw (T : Tx K mg) (g1 : G_spread P w K mg base) (g2 : G_numL P w K mg base) (F : FD K d_law_put f fd) : FnOk P w K mg base CX0 2 f fd ["_law_kind", "_law_cell"] (SpD K R_putLaw) := by
  refine fn_data F sc_putLaw (fun ds d h => by obtain ⟨_, _, rfl, _⟩ := h; rfl) fun cdv A outer s H E hr ds d h => ?_
  obtain ⟨kind, c, rfl, rfl⟩ := h
  refine ds_set 2 (d_call g1 hr (da_cons (d_var 1 rfl) (da_cons d_int da_nil)) ⟨c, 20, by decide, by decide, rfl, rfl⟩) ?_ sc_putLaw.nd
  have hn0 := spr_nn c 20
  have hn1 := spr_lt c 20
  generalize hn : spr c 20 = n at hn0 hn1 ⊢
  have hq0 : 0 ≤ n / 5 % 4 := Int.emod_nonneg _ (by decide)
  have hq1 : n / 5 % 4 < 4 := Int.emod_lt_of_pos _ (by decide)
  unfold putLaw
  by_cases h1 : kind = "row"
  · subst h1
    rw [if_pos rfl]
    refine ds_ifT (dt_is (dt_cmp (d_var 0 rfl) d_str o_eqS) (by decide +kernel)) ?_
    by_cases h5 : n % 5 > 0
    · rw [if_pos h5]
      refine ds_ifT (dt_is (dt_cmp (d_bin (d_var 2 rfl) d_int (o_modI (by decide))) d_int o_gtI) (decide_eq_true h5)) ?_
      refine ds_ret (d_is (d_slL (d_lst (da_cons d_int (da_cons d_int (da_cons d_int (da_cons d_int da_nil))))) do_none (do_some (d_bin d_int (d_bin (d_bin (d_var 2 rfl) d_int (o_divI ⟨by decide, by decide⟩)) d_int (o_modI (by decide))) o_addI))) ?_) rfl
      have e : (1 + n / 5 % 4 : Int) = (((1 + n / 5 % 4).toNat : Nat) : Int) := by omega
      rw [e, cut_take, Int.toNat_natCast, List.map_take]
      rfl
    · rw [if_neg h5]
      refine ds_skip (dt_is (dt_cmp (d_bin (d_var 2 rfl) d_int (o_modI (by decide))) d_int o_gtI) (decide_eq_false h5)) ?_
      refine ds_ret (d_lcE 3 (es := ((List.range (1 + n / 5 % 4).toNat).map fun k => numL (spr n (k : Nat))).map .int) sc_putLaw (di_range1 T.f_range (d_bin d_int (d_bin (d_bin (d_var 2 rfl) d_int (o_divI ⟨by decide, by decide⟩)) d_int (o_modI (by decide))) o_addI) (by omega) (by omega)) (by decide +kernel) ?_ ?_ (fun j d e hd he => ?_)) rfl
      · unfold rangeD
        rw [List.length_map, List.length_map, List.length_map]
      · unfold rangeD
        rw [List.length_map, List.length_range]
        omega
      · unfold rangeD at hd
        rw [List.getElem?_map] at hd
        rw [List.map_map, List.getElem?_map] at he
        cases hx : (List.range (1 + n / 5 % 4).toNat)[j]? with
        | none => rw [hx] at hd; cases hd
        | some m =>
          rw [hx] at hd he
          cases hd
          cases he
          have hm := (List.getElem?_eq_some_iff.mp hx).1
          have hm2 := (List.getElem?_eq_some_iff.mp hx).2
          rw [List.length_range] at hm
          rw [List.getElem_range] at hm2
          have z : (0 + (m : Nat) : Int) = (m : Nat) := by omega
          show EltD _ _ _ (List.set _ 3 (SD.dat (PyData.int (0 + ((m : Nat) : Int))))) (PyData.int (numL (spr n (m : Nat))))
          rw [z]
          exact fun _ _ _ _ _ => d_call g2 hr (da_cons (d_call g1 hr (da_cons (d_var 2 rfl) (da_cons (d_var 3 rfl) da_nil)) ⟨n, (m : Nat), by omega, by omega, rfl, rfl⟩) da_nil) ⟨_, spr_nn _ _, spr_lt _ _, rfl, rfl⟩
  · rw [if_neg h1]
    refine ds_skip (dt_is (dt_cmp (d_var 0 rfl) d_str o_eqS) (beq_eq_false_iff_ne.mpr h1)) ?_
    by_cases h2 : kind = "once" ∧ n % 5 > 0
    · rw [if_pos h2]
      refine ds_ifT (PW.pt (dw_and (dt_is (dt_cmp (d_var 0 rfl) d_str o_eqS) (by rw [h2.1]; decide +kernel)) (dw_and1 (dt_is (dt_cmp (d_bin (d_var 2 rfl) d_int (o_modI (by decide))) d_int o_gtI) (decide_eq_true h2.2))))) ?_
      exact ds_ret (d_lst (da_cons d_int da_nil)) rfl
    · rw [if_neg h2]
      have key : kind = "once" → ¬ n % 5 > 0 := fun e z => h2 ⟨e, z⟩
      refine ds_skip (PW.pt (dw_and' (dt_cmp (d_var 0 rfl) d_str o_eqS) fun _ => dw_and1 (dt_cmp (d_bin (d_var 2 rfl) d_int (o_modI (by decide))) d_int o_gtI)) |> fun z => dt_is z ?_) ?_
      · by_cases e : kind = "once"
        · rw [decide_eq_false (key e), Bool.and_false]
        · rw [beq_eq_false_iff_ne.mpr e, Bool.false_and]
      by_cases h3 : kind = "map"
      · rw [if_pos h3]
        refine ds_ifT (dt_is (dt_cmp (d_var 0 rfl) d_str o_eqS) (by rw [h3]; decide +kernel)) ?_
        refine ds_set 4 (d := .int (n / 5 % 6)) (d_bin (d_bin (d_var 2 rfl) d_int (o_divI ⟨by decide, by decide⟩)) d_int (o_modI (by decide))) ?_ sc_putLaw.nd
        by_cases h5 : n % 5 > 0
        · rw [if_pos h5]
          refine ds_ifT (dt_is (dt_cmp (d_bin (d_var 2 rfl) d_int (o_modI (by decide))) d_int o_gtI) (decide_eq_true h5)) ?_
          exact ds_ret (d_lst (da_cons (d_var 4 rfl) (da_cons (d_bin (d_bin d_int (d_var 4 rfl) (o_mulI (.inl (by decide)))) d_int o_addI) da_nil))) rfl
        · rw [if_neg h5]
          refine ds_skip (dt_is (dt_cmp (d_bin (d_var 2 rfl) d_int (o_modI (by decide))) d_int o_gtI) (decide_eq_false h5)) ?_
          exact ds_ret (d_lst (da_cons (d_var 4 rfl) (da_cons (d_call g2 hr (da_cons (d_bin (d_var 2 rfl) d_int (o_divI ⟨by decide, by decide⟩)) da_nil) ⟨_, by omega, by omega, rfl, rfl⟩) da_nil))) rfl
      · rw [if_neg h3]
        refine ds_skip (dt_is (dt_cmp (d_var 0 rfl) d_str o_eqS) (beq_eq_false_iff_ne.mpr h3)) ?_
        exact ds_ret (d_lst (da_cons (d_call g2 hr (da_cons (d_var 2 rfl) da_nil) ⟨n, hn0, hn1, rfl, rfl⟩) da_nil)) rfl
abbrev G_putLaw (P : Program) (w : World) (K : PySem.W.Frag) (mg : Str → Option Value) (base : Heap) : Prop := GFn P w K mg base "_law_put" 2 (SpD K R_putLaw)
end
end SJ
set_option maxRecDepth 100000
set_option maxHeartbeats 4000000
/-! X3: the law's boxes. -/
namespace SJ
open PySem PySem.Spec PyProof.Rows L2
/-- a letter -/
def ltr (i : Int) : Str := ⟨#[97 + i.toNat]⟩
theorem ltr_at {i : Int} (h0 : 0 ≤ i) (h1 : i < 26) : atI (("abcdefghijklmnopqrstuvwxyz" : Str)).cps.toList i = some (97 + i.toNat) := by
  have e : ∀ k : Nat, k < 26 → (("abcdefghijklmnopqrstuvwxyz" : Str)).cps.toList[k]? = some (97 + k) := by decide +kernel
  have z : i = ((i.toNat : Nat) : Int) := by omega
  rw [z]
  refine atI_nat ?_
  rw [e i.toNat (by omega), Int.toNat_natCast]
def kdAt (n : Nat) : Kd := match n with
  | 0 => .most
  | 1 => .set
  | 2 => .once
  | 3 => .row
  | _ => .map
def lt1 (c : Int) : Str := ltr (spr c 1 % 26)
def lt2 (c : Int) : Str := ltr (spr c 2 % 26)
def ltk (c : Int) (k : Nat) : Str := ltr ((spr c 4 + (k : Nat)) % 26)
def nmL (c : Int) (k : Nat) : Str := (if c % 2 = 0 then ltk c k ++ (lt1 c ++ lt2 c) else (lt1 c ++ ltk c k) ++ lt2 c) ++ "qq"
def bxL (c : Int) : List (Kd × Str) := (List.range (1 + spr c 3 % 4).toNat).map fun k => (kdAt (spr c (5 + (k : Nat)) % 5).toNat, nmL c k)
section
variable {P : Program} {w : World} {K : PySem.W.Frag} {mg : Str → Option Value} {base : Heap} {f : Addr} {fd : FuncData}
def R_boxesL : List PyData → PyData → Prop := fun ds d => ∃ c : Int, ds = [.int c] ∧ d = .list ((bxL c).map kbD)
theorem sc_boxesL : FnScope ["_law_cell", "_law_letters", "_law_kinds", "_law_base", "_law_boxes_here", "_law_k", "_law_name"] ["_law_cell"] (defScope s_law_boxes) := ⟨rfl, rfl, rfl, by decide +kernel, rfl, by decide +kernel, by decide +kernel⟩
theorem kinds_at {n : Int} (h0 : 0 ≤ n) (h1 : n < 5) : atI ([.str "most", .str "set", .str "once", .str "row", .str "map"] : List PyData) n = some (.str (kdAt n.toNat).w) := by
  have z : n = ((n.toNat : Nat) : Int) := by omega
  rw [z]
  refine atI_nat ?_
  rw [Int.toNat_natCast]
  have hk : n.toNat < 5 := by omega
  match n.toNat, hk with
  | 0, _ => rfl
  | 1, _ => rfl
  | 2, _ => rfl
  | 3, _ => rfl
  | 4, _ => rfl
theorem ok_boxesL (T : Tx K mg) (g1 : G_spread P w K mg base) (F : FD K d_law_boxes f fd) : FnOk P w K mg base CX0 2 f fd ["_law_cell"] (SpD K R_boxesL) := by
  refine fn_data F sc_boxesL (fun ds d h => by obtain ⟨_, rfl, _⟩ := h; rfl) fun cdv A outer s H E hr ds d h => ?_
  obtain ⟨c, rfl, rfl⟩ := h
  have m0 : ∀ (n m : Int), 0 < m → 0 ≤ n % m := fun n m h => Int.emod_nonneg _ (by omega)
  have m1 : ∀ (n m : Int), 0 < m → n % m < m := fun n m h => Int.emod_lt_of_pos _ h
  have hL : (("abcdefghijklmnopqrstuvwxyz" : Str)).length ≤ sizeLine := by decide +kernel
  refine ds_set 1 (d := .str "abcdefghijklmnopqrstuvwxyz") d_str ?_ sc_boxesL.nd
  refine ds_set 2 (d := .list [.str "most", .str "set", .str "once", .str "row", .str "map"]) (d_lst (da_cons d_str (da_cons d_str (da_cons d_str (da_cons d_str (da_cons d_str da_nil)))))) ?_ sc_boxesL.nd
  refine ds_set 3 (d := .str (lt1 c)) (d_ixS (d_var 1 rfl) (d_bin (d_call g1 hr (da_cons (d_var 0 rfl) (da_cons d_int da_nil)) ⟨c, 1, by decide, by decide, rfl, rfl⟩) d_int (o_modI (by decide))) (ltr_at (m0 _ _ (by decide)) (m1 _ _ (by decide))) hL) ?_ sc_boxesL.nd
  refine ds_set 3 (d := .str (lt1 c ++ lt2 c)) (d_bin (d_var 3 rfl) (d_ixS (d_var 1 rfl) (d_bin (d_call g1 hr (da_cons (d_var 0 rfl) (da_cons d_int da_nil)) ⟨c, 2, by decide, by decide, rfl, rfl⟩) d_int (o_modI (by decide))) (ltr_at (m0 _ _ (by decide)) (m1 _ _ (by decide))) hL) (o_addS (by show 1 + 1 ≤ sizeLine; decide))) ?_ sc_boxesL.nd
  refine ds_newL 4 (fun l => ?_) sc_boxesL.nd
  have h30 : 0 ≤ spr c 3 % 4 := m0 _ _ (by decide)
  have h31 : spr c 3 % 4 < 4 := m1 _ _ (by decide)
  refine ds_forN 5 (fun i Γ => ∃ x y, Γ = [.dat (.int c), .dat (.str "abcdefghijklmnopqrstuvwxyz"), .dat (.list [.str "most", .str "set", .str "once", .str "row", .str "map"]), .dat (.str (lt1 c ++ lt2 c)), .ml l (((List.range i).map fun k => (kdAt (spr c (5 + (k : Nat)) % 5).toNat, nmL c k)).map kbD), x, y])
    (di_range1 T.f_range (d_bin d_int (d_bin (d_call g1 hr (da_cons (d_var 0 rfl) (da_cons d_int da_nil)) ⟨c, 3, by decide, by decide, rfl, rfl⟩) d_int (o_modI (by decide))) o_addI) (by omega) (by omega)) ⟨.un, .un, rfl⟩ (fun i d Γ1 hd hi => ?_) (fun Γ1 hi => ?_) sc_boxesL.nd
  · obtain ⟨x, y, rfl⟩ := hi
    unfold rangeD at hd
    rw [List.getElem?_map] at hd
    cases hx : (List.range (1 + spr c 3 % 4).toNat)[i]? with
    | none => rw [hx] at hd; cases hd
    | some m =>
      rw [hx] at hd
      cases hd
      have hm := (List.getElem?_eq_some_iff.mp hx).1
      have hm2 := (List.getElem?_eq_some_iff.mp hx).2
      rw [List.length_range] at hm
      rw [List.getElem_range] at hm2
      subst hm2
      have z : (PyData.int (0 + ((i : Nat) : Int)) : PyData) = .int ((i : Nat) : Int) := by congr 1; omega
      show DS _ (List.set _ 5 (SD.dat (PyData.int (0 + ((i : Nat) : Int))))) _ _
      rw [z]
      have hi4 : i < 4 := by omega
      have e2 : ((List.range i).map fun k => (kdAt (spr c (5 + (k : Nat)) % 5).toNat, nmL c k)).map kbD ++ [kbD (kdAt (spr c (5 + (i : Nat)) % 5).toNat, nmL c i)] = ((List.range (i + 1)).map fun k => (kdAt (spr c (5 + (k : Nat)) % 5).toNat, nmL c k)).map kbD := by
        rw [List.range_succ, List.map_append, List.map_append]
        rfl
      refine ds_set 6 (d := .str ((lt1 c ++ ltk c i) ++ lt2 c)) (d_bin (d_bin (d_ixS (c := 97 + (spr c 1 % 26).toNat) (d_var 3 rfl) d_int (atI_nat (j := 0) rfl) (by show 2 ≤ sizeLine; decide)) (d_ixS (d_var 1 rfl) (d_bin (d_bin (d_call g1 hr (da_cons (d_var 0 rfl) (da_cons d_int da_nil)) ⟨c, 4, by decide, by decide, rfl, rfl⟩) (d_var 5 rfl) o_addI) d_int (o_modI (by decide))) (ltr_at (m0 _ _ (by decide)) (m1 _ _ (by decide))) hL) (o_addS (by show 1 + 1 ≤ sizeLine; decide))) (d_ixS (c := 97 + (spr c 2 % 26).toNat) (d_var 3 rfl) d_int (atI_nat (j := 1) rfl) (by show 2 ≤ sizeLine; decide)) (o_addS (by show 2 + 1 ≤ sizeLine; decide))) ?_ sc_boxesL.nd
      have hki := kinds_at (m0 (spr c (5 + (i : Nat))) 5 (by decide)) (m1 (spr c (5 + (i : Nat))) 5 (by decide))
      have hlen : (((List.range i).map fun k => (kdAt (spr c (5 + (k : Nat)) % 5).toNat, nmL c k)).map kbD).length < 100000 := by
        rw [List.length_map, List.length_map, List.length_range]
        omega
      by_cases e : c % 2 = 0
      · refine ds_ifT (dt_is (dt_cmp (d_bin (d_var 0 rfl) d_int (o_modI (by decide))) d_int o_eqI) (by simp [e])) ?_
        refine ds_set 6 (d := .str (ltk c i ++ (lt1 c ++ lt2 c))) (d_bin (d_ixS (d_var 1 rfl) (d_bin (d_bin (d_call g1 hr (da_cons (d_var 0 rfl) (da_cons d_int da_nil)) ⟨c, 4, by decide, by decide, rfl, rfl⟩) (d_var 5 rfl) o_addI) d_int (o_modI (by decide))) (ltr_at (m0 _ _ (by decide)) (m1 _ _ (by decide))) hL) (d_var 3 rfl) (o_addS (by show 1 + 2 ≤ sizeLine; decide))) (ds_nil ?_) sc_boxesL.nd
        refine ds_app 4 (d := kbD (kdAt (spr c (5 + (i : Nat)) % 5).toNat, nmL c i)) (d_is (d_tup (da_cons (d_ixL (d_var 2 rfl) (d_bin (d_call g1 hr (da_cons (d_var 0 rfl) (da_cons (d_bin d_int (d_var 5 rfl) o_addI) da_nil)) ⟨c, 5 + (i : Nat), by omega, by omega, rfl, rfl⟩) d_int (o_modI (by decide))) hki) (da_cons (d_bin (d_var 6 rfl) d_str (o_addS (by show 3 + 2 ≤ sizeLine; decide))) da_nil))) ?_) (ds_nil ⟨.dat (.int (i : Nat)), .dat (.str (ltk c i ++ (lt1 c ++ lt2 c))), ?_⟩) hlen
        · unfold kbD nmL
          rw [if_pos e]
        · rw [← e2]
          rfl
      · refine ds_skip (dt_is (dt_cmp (d_bin (d_var 0 rfl) d_int (o_modI (by decide))) d_int o_eqI) (by simp [e])) ?_
        refine ds_app 4 (d := kbD (kdAt (spr c (5 + (i : Nat)) % 5).toNat, nmL c i)) (d_is (d_tup (da_cons (d_ixL (d_var 2 rfl) (d_bin (d_call g1 hr (da_cons (d_var 0 rfl) (da_cons (d_bin d_int (d_var 5 rfl) o_addI) da_nil)) ⟨c, 5 + (i : Nat), by omega, by omega, rfl, rfl⟩) d_int (o_modI (by decide))) hki) (da_cons (d_bin (d_var 6 rfl) d_str (o_addS (by show 3 + 2 ≤ sizeLine; decide))) da_nil))) ?_) (ds_nil ⟨.dat (.int (i : Nat)), .dat (.str ((lt1 c ++ ltk c i) ++ lt2 c)), ?_⟩) hlen
        · unfold kbD nmL
          rw [if_neg e]
        · rw [← e2]
          rfl
  · obtain ⟨x, y, rfl⟩ := hi
    refine ds_freeze 4 (ds_ret (d_var 4 rfl) ?_)
    unfold rangeD bxL
    rw [List.length_map, List.length_range]
end
end SJ
set_option maxRecDepth 100000
set_option maxHeartbeats 4000000
/-! Y1: the law's join. -/
namespace SJ
open PySem PySem.Spec PyProof.Rows L2
theorem rising_eqP : ∀ {xs ys : List (Nat × Nat)}, xs.Pairwise (fun a b => a.1 < b.1) → ys.Pairwise (fun a b => a.1 < b.1) → (∀ x, x ∈ xs ↔ x ∈ ys) → xs = ys
  | [], [], _, _, _ => rfl
  | [], y :: ys, _, _, h => by have := (h y).mpr List.mem_cons_self; cases this
  | x :: xs, [], _, _, h => by have := (h x).mp List.mem_cons_self; cases this
  | x :: xs, y :: ys, hx, hy, h => by
    rw [List.pairwise_cons] at hx hy
    have e : x = y := by
      rcases List.mem_cons.mp ((h x).mp List.mem_cons_self) with e | m1
      · exact e
      · rcases List.mem_cons.mp ((h y).mpr List.mem_cons_self) with e | m2
        · exact e.symm
        · have a1 := hy.1 x m1
          have a2 := hx.1 y m2
          omega
    subst e
    rw [rising_eqP hx.2 hy.2 fun z => ⟨fun m => ?_, fun m => ?_⟩]
    · rcases List.mem_cons.mp ((h z).mp (List.mem_cons_of_mem _ m)) with e | m'
      · have := hx.1 z m
        rw [e] at this
        omega
      · exact m'
    · rcases List.mem_cons.mp ((h z).mpr (List.mem_cons_of_mem _ m)) with e | m'
      · have := hy.1 z m
        rw [e] at this
        omega
      · exact m'
theorem insP_mem {a b : Nat} {ps : List (Nat × Nat)} (h : ps.Pairwise (fun a b => a.1 < b.1)) (hb : ∀ q ∈ ps, q.1 = a → q.2 = b) : (insP (a, b) ps).Pairwise (fun a b => a.1 < b.1) ∧ ∀ x, x ∈ insP (a, b) ps ↔ x ∈ ps ∨ x = (a, b) := by
  by_cases hk : ∃ r ∈ ps, r.1 = a
  · rw [insP_same (a, b) h hk]
    refine ⟨h, fun x => ⟨.inl, fun m => ?_⟩⟩
    rcases m with m | rfl
    · exact m
    · obtain ⟨r, m, e⟩ := hk
      have := hb r m e
      have e2 : r = (a, b) := Prod.ext e this
      exact e2 ▸ m
  · have hn : ∀ r ∈ ps, r.1 ≠ (a, b).1 := fun r m e => hk ⟨r, m, e⟩
    refine ⟨insP_sorted (a, b) h hn, fun x => ?_⟩
    rw [(insP_perm (a, b) hn).mem_iff, List.mem_append, List.mem_singleton]
theorem insP_ms {a b : Nat} {ps : List (Nat × Nat)} (h : ps.Pairwise (fun a b => a.1 < b.1)) (hb : ∀ q ∈ ps, q.1 = a → q.2 = b) (ms' : List (Nat × Nat)) (h1 : ms'.Nodup) (h2 : ∀ q, q ∈ ms' ↔ q ∈ ps ++ [(a, b)]) (h3 : ms'.Pairwise (fun a b => a.1 < b.1 ∨ (a.1 = b.1 ∧ a.2 ≤ b.2))) : ms' = insP (a, b) ps := by
  obtain ⟨i1, i2⟩ := insP_mem h hb
  have mm : ∀ x, x ∈ ms' ↔ x ∈ insP (a, b) ps := fun x => by rw [h2 x, i2 x, List.mem_append, List.mem_singleton]
  have uniq : ∀ x ∈ insP (a, b) ps, ∀ y ∈ insP (a, b) ps, x.1 = y.1 → x = y := fun x mx y my e => by
    obtain ⟨i, hi⟩ := List.mem_iff_getElem?.mp mx
    obtain ⟨j, hj⟩ := List.mem_iff_getElem?.mp my
    have w1 : ((insP (a, b) ps).map (·.1))[i]? = some x.1 := by rw [List.getElem?_map, hi]; rfl
    have w2 : ((insP (a, b) ps).map (·.1))[j]? = some x.1 := by rw [List.getElem?_map, hj, e]; rfl
    have := nd_ix (rise_nodup i1) w1 w2
    subst this
    rw [hi] at hj
    exact Option.some.inj hj
  refine rising_eqP ?_ i1 mm
  refine (h3.and h1).imp_of_mem fun {x y} mx my z => ?_
  rcases z.1 with z1 | ⟨z1, _⟩
  · exact z1
  · exact absurd (uniq x ((mm x).mp mx) y ((mm y).mp my) z1) z.2
/-- the law's way to join what is read from the beginning -/
def preJ (one other : List El) : Option (List El) := if one.take (min one.length other.length) = other.take (min one.length other.length) then some (one ++ other.drop (min one.length other.length)) else none
theorem preJ_row (one other : List El) : preJ one other = joinK .row one other := by
  rw [joinK_row]
  unfold preJ
  by_cases h : one.length ≤ other.length
  · rw [Nat.min_eq_left h, List.take_length]
    by_cases e : other.take one.length = one
    · rw [if_pos e.symm, if_pos e]
      have : one ++ other.drop one.length = other := by
        have := List.take_append_drop one.length other
        rwa [e] at this
      rw [this]
    · rw [if_neg (fun z => e z.symm), if_neg e, if_neg]
      intro z
      rw [List.take_of_length_le h] at z
      exact e (by rw [z]; exact List.take_length)
  · have h2 : other.length ≤ one.length := by omega
    rw [Nat.min_eq_right h2, List.take_length, List.drop_length, List.append_nil]
    have e : ¬ other.take one.length = one := fun z => by
      rw [List.take_of_length_le h2] at z
      rw [z] at h
      exact h (Nat.le_refl _)
    rw [if_neg e]
theorem cut_drop {α : Type} (xs : List α) (n : Nat) : cutA xs (some (n : Nat)) none = xs.drop n := by
  have e0 : HT.sIx xs.length xs.length none = xs.length := rfl
  have e1 : HT.sIx xs.length 0 (some ((n : Nat) : Int)) = min n xs.length := HT.sIx_nat _ _ _
  unfold cutA
  rw [e0, e1]
  by_cases h : n ≤ xs.length
  · rw [Nat.min_eq_left h]
    exact List.take_of_length_le (by rw [List.length_drop]; omega)
  · rw [Nat.min_eq_right (by omega), List.drop_length, List.drop_eq_nil_of_le (by omega)]
    exact List.take_nil
section
variable {P : Program} {w : World} {K : PySem.W.Frag} {mg : Str → Option Value} {base : Heap} {f : Addr} {fd : FuncData}
def R_joinedL : List PyData → PyData → Prop := fun ds d => ∃ k one other, okSt k one ∧ okPut k other ∧ ds = [.str k.w, stD one, stD other] ∧ d = optD (joinK k one other)
theorem sc_joinedL : FnScope ["_law_kind", "_law_one", "_law_other", "_law_key", "_law_number_here", "_law_few"] ["_law_kind", "_law_one", "_law_other"] (defScope s_law_joined) := ⟨rfl, rfl, rfl, by decide +kernel, rfl, by decide +kernel, by decide +kernel⟩
theorem okPut_len {k : Kd} {s : List El} (h : okPut k s) : s.length ≤ 4 := by
  cases k with
  | row => obtain ⟨ns, rfl, _, h2, _⟩ := h; unfold numS; rwa [List.length_map]
  | map => obtain ⟨a, b, rfl, _⟩ := h; exact Nat.succ_le_succ (Nat.zero_le _)
  | most => obtain ⟨a, rfl, _⟩ := h; exact Nat.succ_le_succ (Nat.zero_le _)
  | set => obtain ⟨a, rfl, _⟩ := h; exact Nat.succ_le_succ (Nat.zero_le _)
  | once => obtain ⟨a, rfl, _⟩ := h; exact Nat.succ_le_succ (Nat.zero_le _)
theorem ok_joinedL (T : Tx K mg) (F : FD K d_law_joined f fd) : FnOk P w K mg base CX0 1 f fd ["_law_kind", "_law_one", "_law_other"] (SpD K R_joinedL) := by
  refine fn_data F sc_joinedL (fun ds d h => by obtain ⟨_, _, _, _, _, rfl, _⟩ := h; rfl) fun cdv A outer s H E hr ds d h => ?_
  obtain ⟨k, one, other, h1, h2, rfl, rfl⟩ := h
  have l1 := okSt_len h1
  have l2 := okPut_len h2
  have hu := hr.units
  -- what is read from the beginning
  have pre : ∀ kd, optD (joinK k one other) = optD (preJ one other) → DS (cxD P w K mg base ["_law_kind", "_law_one", "_law_other", "_law_key", "_law_number_here", "_law_few"] d_law_joined.qual d_law_joined.scope f cdv A outer s H E) [.dat kd, .dat (stD one), .dat (stD other), .un, .un, .un] ((defBody s_law_joined).drop 4) ⟨fun _ => optD (joinK k one other) = .none, fun _ c => c = .dat (optD (joinK k one other)), fun _ => False, fun _ => False⟩ := fun kd e => by
    rw [e]
    have em : (if (((other.map El.d).length : Nat) : Int) < (((one.map El.d).length : Nat) : Int) then (((other.map El.d).length : Nat) : Int) else (((one.map El.d).length : Nat) : Int)) = ((min one.length other.length : Nat) : Int) := by
      rw [List.length_map, List.length_map]
      split <;> omega
    refine ds_set 5 (d := .int ((min one.length other.length : Nat) : Nat)) (d_is (d_min2 T.f_min (d_lenL (ds := one.map El.d) T.f_len (d_var 1 rfl)) (d_lenL (ds := other.map El.d) T.f_len (d_var 2 rfl))) (congrArg PyData.int em)) ?_ sc_joinedL.nd
    have c1 : cutA (one.map El.d) none (some ((min one.length other.length : Nat) : Int)) = (one.take (min one.length other.length)).map El.d := by rw [cut_take, List.map_take]
    have c2 : cutA (other.map El.d) none (some ((min one.length other.length : Nat) : Int)) = (other.take (min one.length other.length)).map El.d := by rw [cut_take, List.map_take]
    have c3 : cutA (other.map El.d) (some ((min one.length other.length : Nat) : Int)) none = (other.drop (min one.length other.length)).map El.d := by rw [cut_drop, List.map_drop]
    by_cases q : one.take (min one.length other.length) = other.take (min one.length other.length)
    · refine ds_skip (dt_is (dt_cmp (d_is (d_slL (d_var 1 rfl) do_none (do_some (d_var 5 rfl))) (congrArg PyData.list c1)) (d_is (d_slL (d_var 2 rfl) do_none (do_some (d_var 5 rfl))) (congrArg PyData.list c2)) (o_neD hu (st_shaped _) (st_shaped _))) (congrArg (! ·) ((st_eqv _ _).trans (decide_eq_true q)))) ?_
      refine ds_ret (d := stD (one ++ other.drop (min one.length other.length))) (d_is (d_bin (d_var 1 rfl) (d_is (d_slL (d_var 2 rfl) (do_some (d_var 5 rfl)) do_none) (congrArg PyData.list c3)) (o_catL (ds := one.map El.d) (by rw [List.length_map, List.length_map, List.length_drop]; omega))) (by unfold stD; rw [List.map_append])) ?_
      unfold preJ
      rw [if_pos q]
      rfl
    · refine ds_ifT (dt_is (dt_cmp (d_is (d_slL (d_var 1 rfl) do_none (do_some (d_var 5 rfl))) (congrArg PyData.list c1)) (d_is (d_slL (d_var 2 rfl) do_none (do_some (d_var 5 rfl))) (congrArg PyData.list c2)) (o_neD hu (st_shaped _) (st_shaped _))) (congrArg (! ·) ((st_eqv _ _).trans (decide_eq_false q)))) ?_
      refine ds_ret d_non ?_
      unfold preJ
      rw [if_neg q]
      rfl
  cases k with
  | most =>
    obtain ⟨ns, rfl, h3, h4⟩ := h1
    obtain ⟨b, rfl, hb⟩ := h2
    refine ds_ifT (dt_is (dt_cmp (d_var 0 rfl) d_str o_eqS) (c' := true)) ?_
    match ns, h3 with
    | [], _ =>
      exact ds_ret (d := .list [.int (b : Nat)]) (d_lst (da_cons (d_maxOf (ns := [(b : Int)]) T.f_max (d_bin (d_var 1 rfl) (d_var 2 rfl) (o_catL (ds := []) (es := [.int (b : Nat)]) (by show 1 ≤ 100000; decide))) List.mem_cons_self (fun y m => by rw [List.mem_singleton.mp m]; exact Int.le_refl _)) da_nil)) rfl
    | [c], _ =>
      exact ds_ret (d := .list [.int ((max c b : Nat) : Nat)]) (d_lst (da_cons (d_maxOf (ns := [(c : Int), (b : Int)]) T.f_max (d_bin (d_var 1 rfl) (d_var 2 rfl) (o_catL (ds := [.int (c : Nat)]) (es := [.int (b : Nat)]) (by show 2 ≤ 100000; decide))) (by simp; omega) (fun y m => by simp at m; omega)) da_nil)) rfl
  | set =>
    obtain ⟨ns, rfl, h3, h4, h5⟩ := h1
    obtain ⟨b, rfl, hb⟩ := h2
    refine ds_skip (dt_is (dt_cmp (d_var 0 rfl) d_str o_eqS) (c' := false)) ?_
    refine ds_ifT (dt_is (dt_cmp (d_var 0 rfl) d_str o_eqS) (c' := true)) ?_
    refine ds_ret (fe_de (f_sortedSetI (ns := (ns ++ [b]).map fun n : Nat => (n : Int)) T.f_sorted T.f_set (d_is (d_bin (d_is (d_var 1 rfl) (stD_nums ns)) (d_var 2 rfl) (o_catL (ds := intsD ns) (es := [.int (b : Nat)]) ?_)) ?_) ?_ (insN_ms b h4))) ?_
    · unfold intsD
      rw [List.length_map]
      show ns.length + 1 ≤ 100000
      omega
    · rw [ints_int, List.map_append, List.map_append]
      rfl
    · rw [List.length_map, List.length_append, List.length_singleton]
      omega
    · show SD.dat _ = SD.dat (stD (numS (insN b ((numS ns).map elN))))
      rw [elN_numS, stD_nums, ints_int]
  | once =>
    refine ds_skip (dt_is (dt_cmp (d_var 0 rfl) d_str o_eqS) (c' := false)) ?_
    refine ds_skip (dt_is (dt_cmp (d_var 0 rfl) d_str o_eqS) (c' := false)) ?_
    cases one with
    | nil =>
      refine ds_skip (PW.pt (dw_and (dt_is (dt_cmp (d_var 0 rfl) d_str o_eqS) (c' := true)) (dw_and1 (dt_is (dt_cmp (d_lenL (ds := []) T.f_len (d_var 1 rfl)) d_int o_gtI) rfl)))) ?_
      refine ds_skip (dt_is (dt_cmp (d_var 0 rfl) d_str o_eqS) (c' := false)) ?_
      refine pre _ ?_
      rw [joinK_once, if_pos (.inl rfl)]
      unfold preJ
      rw [List.length_nil, Nat.zero_min, List.take_zero, List.take_zero, if_pos rfl]
      rfl
    | cons x r =>
      refine ds_ifT (PW.pt (dw_and (dt_is (dt_cmp (d_var 0 rfl) d_str o_eqS) (c' := true)) (dw_and1 (dt_is (dt_cmp (d_lenL (ds := (x :: r).map El.d) T.f_len (d_var 1 rfl)) d_int o_gtI) (decide_eq_true (by show (0 : Int) < ((r.map El.d).length + 1 : Nat); omega)))))) ?_
      by_cases e : x :: r = other
      · subst e
        refine ds_ret (d := stD (x :: r)) (d_ifT (dt_is (dt_cmp (d_var 1 rfl) (d_var 2 rfl) (o_eqD hu (st_shaped _) (st_shaped _))) ((st_eqv _ _).trans (decide_eq_true rfl))) (d_listOf (ds := (x :: r).map El.d) T.f_list (d_var 1 rfl))) ?_
        rw [joinK_once, if_pos (.inr rfl)]
        rfl
      · refine ds_ret (d := .none) (d_ifF (dt_is (dt_cmp (d_var 1 rfl) (d_var 2 rfl) (o_eqD hu (st_shaped _) (st_shaped _))) ((st_eqv _ _).trans (decide_eq_false e))) d_non) ?_
        rw [joinK_once, if_neg]
        · rfl
        · rintro (z | z)
          · cases z
          · exact e z
  | row =>
    refine ds_skip (dt_is (dt_cmp (d_var 0 rfl) d_str o_eqS) (c' := false)) ?_
    refine ds_skip (dt_is (dt_cmp (d_var 0 rfl) d_str o_eqS) (c' := false)) ?_
    refine ds_skip (PW.pt (dw_andF (dt_is (dt_cmp (d_var 0 rfl) d_str o_eqS) (c' := false)))) ?_
    refine ds_skip (dt_is (dt_cmp (d_var 0 rfl) d_str o_eqS) (c' := false)) ?_
    exact pre _ (by rw [preJ_row])
  | map =>
    obtain ⟨ps, rfl, h3, h4, h5⟩ := h1
    obtain ⟨a, b, rfl, ha, hb⟩ := h2
    have eo : optD (joinK .map (parS ps) [.p a b]) = optD (if (ps.any fun q => q.1 == a && q.2 != b) then none else some (parS (insP (a, b) ps))) := by rw [joinK_map, elP_parS]
    rw [eo]
    refine ds_skip (dt_is (dt_cmp (d_var 0 rfl) d_str o_eqS) (c' := false)) ?_
    refine ds_skip (dt_is (dt_cmp (d_var 0 rfl) d_str o_eqS) (c' := false)) ?_
    refine ds_skip (PW.pt (dw_andF (dt_is (dt_cmp (d_var 0 rfl) d_str o_eqS) (c' := false)))) ?_
    refine ds_ifT (dt_is (dt_cmp (d_var 0 rfl) d_str o_eqS) (c' := true)) ?_
    refine ds_forP 3 4 (fun i Γ => (∀ q ∈ ps.take i, q.1 = a → q.2 = b) ∧ ∃ x y, Γ = [.dat (.str "map"), .dat (stD (parS ps)), .dat (stD [.p a b]), x, y, .un]) (di_list (ds := ps.map prD2) (d_is (d_var 1 rfl) (stD_pars ps))) ⟨(fun q m => by cases m), .un, .un, rfl⟩ (fun i d Γ1 hd hi => ?_) (fun Γ1 hi => ?_) sc_joinedL.nd
    · obtain ⟨hi, x, y, rfl⟩ := hi
      rw [List.getElem?_map] at hd
      cases hq : ps[i]? with
      | none => rw [hq] at hd; cases hd
      | some q =>
        rw [hq] at hd
        cases hd
        refine ⟨.int (q.1 : Nat), .int (q.2 : Nat), rfl, ?_⟩
        refine ds_if (t := (((q.1 : Nat) : Int) == ((a : Nat) : Int)) && !(((q.2 : Nat) : Int) == ((b : Nat) : Int))) (PW.pt (dw_and' (dt_cmp (d_var 3 rfl) (d_ixT (d_ixL (d_var 2 rfl) d_int (d := .tuple [.int (a : Nat), .int (b : Nat)]) at0) d_int (d := .int (a : Nat)) at0) o_eqI) fun _ => dw_and1 (dt_cmp (d_var 4 rfl) (d_ixT (d_ixL (d_var 2 rfl) d_int (d := .tuple [.int (a : Nat), .int (b : Nat)]) at0) d_int (d := .int (b : Nat)) at1) o_neI))) (fun ht => ?_) fun ht => ?_
        · refine ds_ret d_non ?_
          have e : (ps.any fun q => q.1 == a && q.2 != b) = true := List.any_eq_true.mpr ⟨q, List.mem_of_getElem? hq, by
            simp at ht ⊢
            omega⟩
          rw [if_pos e]
          rfl
        · refine ds_nil (ds_nil ⟨fun r m => ?_, _, _, rfl⟩)
          rw [List.take_succ, hq] at m
          rcases List.mem_append.mp m with m | m
          · exact hi r m
          · obtain rfl : r = q := by simpa using m
            intro e
            simp at ht
            have := ht (by omega)
            omega
    · obtain ⟨hi, x, y, rfl⟩ := hi
      rw [List.length_map, List.take_length] at hi
      have e : (ps.any fun q => q.1 == a && q.2 != b) = false := by
        rw [Bool.eq_false_iff]
        intro z
        obtain ⟨r, m, e⟩ := List.any_eq_true.mp z
        simp at e
        exact e.2 (hi r m e.1)
      rw [if_neg (by rw [e]; exact Bool.false_ne_true)]
      refine ds_ret (d_sortedSetP (ps := ps ++ [(a, b)]) T.f_sorted T.f_set (d_is (d_bin (d_var 1 rfl) (d_var 2 rfl) (o_catL (ds := (parS ps).map El.d) (es := [.tuple [.int (a : Nat), .int (b : Nat)]]) ?_)) ?_) ?_ hu (insP_ms h4 hi)) ?_
      · unfold parS
        rw [List.length_map, List.length_map]
        show ps.length + 1 ≤ 100000
        omega
      · have := stD_pars ps
        unfold stD at this
        rw [PyData.list.inj this, List.map_append]
        rfl
      · rw [List.length_append]
        show ps.length + 1 ≤ 62
        omega
      · show SD.dat _ = SD.dat (stD (parS (insP (a, b) ps)))
        rw [stD_pars]
abbrev G_joinedL (P : Program) (w : World) (K : PySem.W.Frag) (mg : Str → Option Value) (base : Heap) : Prop := GFn P w K mg base "_law_joined" 1 (SpD K R_joinedL)
end
end SJ
set_option maxRecDepth 100000
set_option maxHeartbeats 4000000
/-! DJ: displays of dicts of new lists; lists of very values; more calls. -/
namespace SJ
open PySem PySem.Spec PyProof.Rows L2
section
variable {X : Cx} {Γ : List SD} {P : Po} {rest : List Stmt} {e elt tg iter : Expr} {es : List Expr} {ds : List PyData} {v : V} {p : Addr} {cs : List (Addr × Cell)} {pos pos' np cpos : Pos} {x : Str}
/-! ### {k: [..], ..} -/
def pairsT (K : PySem.W.Frag) (Γ : List SD) (kes : List (Str × List PyData)) : List (TE × TE) := kes.map fun z => (tD K Γ (.str z.1), tML K Γ z.2)
theorem tPairs_L {K : PySem.W.Frag} {σ : L2.St} : ∀ (kes : List (Str × List PyData)) (G H : Hp) (R : List (V × V) → Hp → Prop), EnvD K G H Γ σ →
    (∀ G' H' ls, Gr G H G' H' → Lls K H G' H' ls (kes.map (·.2)) → R (List.zipWith (fun z l => (V.str z.1, V.ref l)) kes ls) H') → tPairs (pairsT K Γ kes) σ H R
  | [], G, H, R, env, k => k G H [] (Gr.refl env.s) ⟨rfl, by simp, fun i l es e => by cases e⟩
  | z :: kes, G, H, R, env, k => ⟨G, env, fun G1 H1 v g1 q => by
    have := q.strE
    subst this
    refine ⟨G1, env.up g1, fun G2 H2 D acc g2 h1 h2 h3 h4 => ?_⟩
    refine tPairs_L kes G2 H2 _ ((env.up g1).up g2) fun G3 H3 ls g3 hl => ?_
    have nD : D ∉ ls := fun m => by
      obtain ⟨a, _⟩ := hl.there m
      rw [h3] at a
      cases a
    refine k G3 H3 (D :: ls) ((g1.trans g2).trans g3) ⟨congrArg Nat.succ hl.len, List.nodup_cons.mpr ⟨nD, hl.nd⟩, fun i l es e1 e2 => ?_⟩
    cases i with
    | zero =>
      cases e1
      cases e2
      exact ⟨g1.h.free h1, g3.fr _ _ h3 h2, acc, g3.h _ _ h3, h4.up g3.g⟩
    | succ i =>
      obtain ⟨a, b, c⟩ := hl.at_ i l es (by simpa using e1) (by simpa using e2)
      exact ⟨(g1.h.trans g2.h).free a, b, c⟩⟩
/-- the keys, each with its list -/
def kvL (ks : List Str) (ls : List Addr) : List (Key × V) := List.zipWith (fun k l => (Sum.inr k, V.ref l)) ks ls
def kvR (ks : List Str) (ls : List Addr) : List (Key × Fv) := List.zipWith (fun k l => (Sum.inr k, Fv.raw (.ref l))) ks ls
theorem kvLR {K : PySem.W.Frag} {G : Hp} : ∀ (ks : List Str) (ls : List Addr), NvOk K G (kvL ks ls) (kvR ks ls)
  | [], _ => .nil
  | _ :: _, [] => .nil
  | _ :: ks, _ :: ls => .cons ⟨rfl, rfl⟩ (kvLR ks ls)
theorem merge_kvL : ∀ (ks : List Str) (ls : List Addr) (acc : List (Key × V)), (∀ k ∈ ks, valV acc (.inr k) = none) → ks.Nodup → mergeK acc (kvL ks ls) = acc ++ kvL ks ls
  | [], _, acc, _, _ => (List.append_nil _).symm
  | _ :: _, [], acc, _, _ => (List.append_nil _).symm
  | k :: ks, l :: ls, acc, h, nd => by
    rw [List.nodup_cons] at nd
    show mergeK (putK acc (Sum.inr k) (V.ref l)) (kvL ks ls) = _
    rw [putK_new _ (h k List.mem_cons_self), merge_kvL ks ls _ (fun k2 m => ?_) nd.2, List.append_assoc]
    · rfl
    · have h2 := h k2 (List.mem_cons_of_mem _ m)
      have ne : ¬ (Sum.inr k : Key) = Sum.inr k2 := fun e => nd.1 (Sum.inr.inj e ▸ m)
      clear h nd merge_kvL
      induction acc with
      | nil => exact valV_neg ne
      | cons q acc ih =>
        by_cases e : q.1 = Sum.inr k2
        · rw [valV_pos e] at h2
          cases h2
        · rw [valV_neg e] at h2
          rw [List.cons_append, valV_neg e]
          exact ih h2
theorem zip_kvL : ∀ (kes : List (Str × List PyData)) (ls : List Addr), List.zipWith (fun (z : Str × List PyData) l => (V.str z.1, V.ref l)) kes ls = (kvL (kes.map (·.1)) ls).map fun kv => (kV kv.1, kv.2)
  | [], _ => rfl
  | _ :: _, [] => rfl
  | z :: kes, l :: ls => congrArg ((V.str z.1, V.ref l) :: ·) (zip_kvL kes ls)
theorem raws_ok {K : PySem.W.Frag} {G : Hp} : ∀ rs : List V, Paired (FvOk K G) rs (rs.map .raw)
  | [] => .nil
  | _ :: rs => .cons rfl (raws_ok rs)
/-- x = {k: [..], ..} -/
theorem ds_setDL (i : Nat) {keys : List (Option Expr)} {values : List Expr} (kes : List (Str × List PyData)) (hp : PPs X cpos keys values (pairsT X.K Γ kes)) (hall : keys.all (·.isSome) = true) (hl : keys.length = values.length) (h0 : keys ≠ []) (h15 : keys.length ≤ 15) (hk : kes.length ≤ 15) (nd : (kes.map (·.1)).Nodup)
    (hr : ∀ q ls, ls.length = kes.length → DS X (Γ.set i (.rg (.ref q) ((q, .dk (kvR (kes.map (·.1)) ls)) :: llC ls (kes.map (·.2))))) rest P) (hN : X.N.Nodup) (hi : X.N[i]? = some x := by rfl) (hx : Loc X.env.scope x := by first | exact .inl rfl | exact .inr rfl)
    (hs : swapsWith (.Dict keys values cpos) (some (.Name x pos')) pos.line X.env = pure false := by rfl) (hf : X.fn x = true ∨ X.env.scope.names.lookup x = some .local := by first | exact .inl rfl | exact .inr rfl) : DS X Γ (.Assign [.Name x pos'] (.Dict keys values cpos) pos :: rest) P :=
  ds_seq (N := fun Γ' => ∃ q ls, ls.length = kes.length ∧ Γ' = Γ.set i (.rg (.ref q) ((q, .dk (kvR (kes.map (·.1)) ls)) :: llC ls (kes.map (·.2))))) ((ps_set (i := i) hN hi hx (pe_disp hp hall hl h0 h15) hs hf).imp fun D σ H ⟨G0, H0, G, s, k⟩ q hq => by
    have g1 : Gr G H G (upd H q (.dK [])) := Gr.tmp s.env.s hq
    refine tPairs_L kes G _ _ (s.env.up g1) fun G' H' ls g hls => ?_
    have hlen : ls.length = kes.length := by rw [hls.len, List.length_map]
    have h'q : H' q = some (.dK []) := g.h _ _ upd_same
    have hGq : G' q = none := g.fr _ _ upd_same (s.env.s.free hq)
    have e1 : List.zipWith (fun (z : Str × List PyData) l => (V.str z.1, V.ref l)) kes ls = (kvL (kes.map (·.1)) ls).map fun kv => (kV kv.1, kv.2) := by
      exact zip_kvL kes ls
    refine ⟨h'q, kvL (kes.map (·.1)) ls, e1, ?_, ?_⟩
    · unfold kvL
      rw [List.length_zipWith, List.length_map]
      omega
    · rw [merge_kvL _ _ [] (fun _ _ => rfl) nd, List.nil_append]
      have nq : q ∉ ls := fun m => by
        obtain ⟨a, _⟩ := hls.there m
        rw [upd_same] at a
        cases a
      have gg := g1.trans g
      have ad : ((q, Cell.dk (kvR (kes.map (·.1)) ls)) :: llC ls (kes.map (·.2))).map (·.1) = q :: ls := by rw [List.map_cons, llC_ad hls.len]
      have g2 : Gr G H G' (upd H' q (.dK (kvL (kes.map (·.1)) ls))) := ⟨gg.g, same_upd gg.h hq, same_upd gg.s hGq, gg.fr⟩
      refine k.nx G' _ _ _ ⟨q, ls, hlen, rfl⟩ g2.g ((s.up g2).put i ⟨rfl, by rw [ad]; exact List.nodup_cons.mpr ⟨nq, hls.nd⟩, fun c m => ?_⟩ fun a z => ?_)
      · rcases List.mem_cons.mp m with rfl | m
        · exact ⟨hGq, _, upd_same, _, rfl, kvLR _ _⟩
        · obtain ⟨j, hj⟩ := List.mem_iff_getElem?.mp m
          obtain ⟨l, es, e1, e2, rfl⟩ := llC_get hj
          obtain ⟨a1, a2, acc, a3, a4⟩ := hls.at_ j l es e1 e2
          exact ⟨a2, _, by rw [upd_ne (fun w : l = q => nq (by rw [← w]; exact List.mem_of_getElem? e1))]; exact a3, acc, rfl, dats_fvD a4⟩
      · have z : a ∈ ((q, Cell.dk (kvR (kes.map (·.1)) ls)) :: llC ls (kes.map (·.2))).map (·.1) := z
        rw [ad] at z
        have hn : H a = none := by
          rcases List.mem_cons.mp z with rfl | z
          · exact hq
          · exact g1.h.free (hls.there z).1
        exact ⟨s.gr.h.free hn, fun j e _ ej => s.none_ad hn j e ej⟩) fun _ ⟨q, ls, h, e⟩ => e ▸ hr q ls h
theorem le_lst {lp : Pos} (h : DA X Γ es ds) (hl : ds.length ≤ 100000 := by first | (simp only [List.length_cons, List.length_nil]; decide) | assumption) : LE X Γ (.List es lp) ds :=
  (pe_lst h).imp fun σ H Q ⟨G, env, k⟩ => ⟨G, env, fun G1 H1 vs g1 q1 => ⟨by rw [q1.len]; exact Nat.le_trans hl (by decide), fun p hp => k G1 _ p vs (g1.trans (Gr.tmp g1.s hp)) (g1.h.free hp) (g1.s.free hp) upd_same q1⟩⟩
/-! ### lists of very values -/
def EltR (X : Cx) (scope : Scope) (elt : Expr) (Γ : List SD) (v : V) : Prop := ∀ (s : Shared) (H : Hp) (C : Addr) (cl : List (Str × Addr)) (fp : List Addr), RE (X.blk s H scope (compEnvC scope cl C X.env) fp) Γ elt v
def tEltR (X : Cx) (scope : Scope) (elt : Expr) : TE := fun σ H Q => ∃ p : List SD × V, EltR X scope elt p.1 p.2 ∧ tR X.K p.1 p.2 σ H Q
theorem tLc_R {K : PySem.W.Frag} {vs : List Nat} {te : TE} {σ : L2.St} {H : Hp} {Q : VK} {f : PyData → List SD → Option (List SD)} {g : TG} {rs : List V} (ht : TgS K g vs f) (hl : rs.length = ds.length) (hn : ds.length ≤ 100000)
    (he : ∀ (i : Nat) d r, ds[i]? = some d → rs[i]? = some r → ∃ Γ2, f d (wipeS Γ vs) = some Γ2 ∧ ∀ σ H Q, tR K Γ2 r σ H Q → te σ H Q) (h : ∃ G, EnvD K G H Γ σ ∧ ∀ G' H' D, Gr G H G' H' → H D = none → G' D = none → H' D = some (.lst rs) → Q (.ref D) H') : tLc (tDI K Γ ds) g tYes te vs σ H Q := by
  obtain ⟨G, env, k⟩ := h
  refine ⟨G, env, fun G1 H1 J g1 wk D hD => ?_⟩
  have env1 := env.up g1
  refine ⟨fun i m H2 => m = ds.length - i ∧ i ≤ ds.length ∧ ∃ G2, Gr G1 H1 G2 H2 ∧ G2 D = none ∧ H2 D = some (.lst (rs.take i)), ⟨ds.length, rfl, Nat.zero_le _, G1, Gr.tmp g1.s hD, g1.s.free hD, upd_same⟩, ?_⟩
  rintro i m H2 ⟨rfl, hi, G2, g2, hG, hH⟩
  obtain ⟨w1, w2⟩ := wk G2 H2 g2.g g2.s
  by_cases hlt : i < ds.length
  · have hd : ds[i]? = some ds[i] := List.getElem?_eq_getElem hlt
    have hie : i < rs.length := by omega
    have hse : rs[i]? = some rs[i] := List.getElem?_eq_getElem hie
    obtain ⟨go, yl⟩ := w1 i _ hd
    obtain ⟨Γ2, hf, hte⟩ := he i _ _ hd hse
    refine .inr ⟨go, fun H' => ∃ G2, Gr G1 H1 G2 H' ∧ G2 D = none ∧ H' D = some (.lst (rs.take (i + 1))), fun H' q => ⟨ds.length - (i + 1), by omega, rfl, hlt, q⟩, fun x H3 y => ?_⟩
    obtain ⟨G3, g3, qx⟩ := yl x H3 y
    refine ht G3 H3 _ _ x _ Γ2 _ hf (((env1.up g2).up g3).wipe vs) qx fun σ2 hw env4 => ⟨hw.trans (wipe_idem σ vs), hte σ2 H3 _ ⟨G3, env4, fun G4 H4 g4 => ?_⟩⟩
    have h3D := g3.h _ _ hH
    have g4D : G4 D = none := g4.fr _ _ h3D (g3.fr _ _ hH hG)
    have gg := (g2.trans g3).trans g4
    refine ⟨_, g4.h _ _ h3D, by rw [List.length_take]; exact Nat.lt_of_lt_of_le (Nat.lt_of_le_of_lt (Nat.min_le_left _ _) hlt) (Nat.le_trans hn (by decide)), G4, ⟨gg.g, same_upd gg.h hD, same_upd gg.s g4D, gg.fr⟩, g4D, ?_⟩
    rw [upd_same, List.take_succ, hse]
    rfl
  · have e : i = ds.length := by omega
    subst e
    rw [List.take_of_length_le (by omega)] at hH
    exact .inl ⟨w2, k _ _ D (g1.trans g2) (g1.h.free hD) hG hH⟩
/-- return [t[..] for x, y in iter], t a dict of one's own whose lists go along -/
theorem ds_retLcT (j i1 i2 : Nat) {n1 n2 : Str} {q1 q2 tp : Pos} {kk : Nat} {N ps : List Str} {sc scope : Scope} {rs : List V} {d0 : Addr × Cell} (S : FnScope N ps sc) (hj : Γ[j]? = some (.rg v (d0 :: cs))) (hi : PID X (.Tuple [.Name n1 q1, .Name n2 q2] kk tp) Γ iter ds) (ok : L2.blkC N sc scope [(n1, i1), (n2, i2)] = true) (hl : rs.length = ds.length) (hn : ds.length ≤ 100000)
    (he : ∀ (m : Nat) d r, ds[m]? = some d → rs[m]? = some r → ∃ a b, d = .tuple [a, b] ∧ EltR X scope elt (((wipeS Γ [i1, i2]).set i1 (.dat a)).set i2 (.dat b)) r) (hr : ∀ q, P.rt (Γ.set j .un) (.rg (.ref q) ((q, .lst (rs.map .raw)) :: cs)))
    (hNN : X.N = N := by rfl) (hsc : X.env.scope = sc := by rfl) (hx : X.N[i1]? = some n1 := by rfl) (hy : X.N[i2]? = some n2 := by rfl)
    (hpg : ∀ (s : Shared) (H : Hp) (C : Addr) (cl : List (Str × Addr)) (fp : List Addr), PG (X.blk s H scope (compEnvC scope cl C X.env) fp) (.Tuple [.Name n1 q1, .Name n2 q2] kk tp) (gTup X.K 2 (gCons (gName i1) (gCons (gName i2) gNil))))
    (hc : X.calm = true := by rfl) (hs : ∀ y, foldedSetIterable iter X.env y = pure y := by intro _; rfl) : DS X Γ (.Return (some (.ListComp elt [⟨.Tuple [.Name n1 q1, .Name n2 q2] kk tp, iter, [], 0⟩] scope pos)) pos' :: rest) P := by
  have hN : X.N.Nodup := hNN ▸ S.nd
  subst hNN hsc
  refine (pss_cons (ps_ret (pe_lc hc hN hi (blkOk_by ok) hpg (fun _ _ _ _ _ => pts_nil) (te := tEltR X scope elt) (fun s H C cl fp => PE.ex (R := fun p : List SD × V => EltR X scope elt p.1 p.2) (t := fun p => tR X.K p.1 p.2) fun p hp => hp s H C cl fp) hs)) pss_never).imp fun D σ H ⟨G0, H0, G, s, k⟩ => ?_
  refine tLc_R (tg_pr i1 i2) hl hn (fun m d r h1 h2 => ?_) ⟨G, s.env, fun G' H' q g h1 h2 h3 => ?_⟩
  · obtain ⟨a, b, rfl, h⟩ := he m d r h1 h2
    exact ⟨_, rfl, fun σ H Q z => ⟨(_, r), h, z⟩⟩
  · have s1 := s.up g
    obtain ⟨o, _, z2⟩ := s1.env.at_ j _ hj
    obtain ⟨o0, _, z0⟩ := s.env.at_ j _ hj
    have nd := z2.2.nd
    rw [List.map_cons, List.nodup_cons] at nd
    have qn : q ∉ cs.map (·.1) := fun m => by
      obtain ⟨c, mc, rfl⟩ := List.mem_map.mp m
      obtain ⟨_, u, y, _⟩ := z0.2.at_ c (List.mem_cons_of_mem _ mc)
      rw [h1] at y
      cases y
    refine k.rt G' H' _ σ _ _ (hr q) g.g (s1.known (c' := .un) hj (fun _ z => z) fun _ _ _ => trivial) ⟨rfl, by rw [List.map_cons]; exact List.nodup_cons.mpr ⟨qn, nd.2⟩, fun c m => ?_⟩ fun a z => ?_
    · rcases List.mem_cons.mp m with rfl | m
      · refine ⟨h2, _, h3, rs, rfl, ?_⟩
        exact raws_ok rs
      · exact z2.2.at_ c (List.mem_cons_of_mem _ m)
    · have z : a ∈ q :: cs.map (·.1) := z
      rcases List.mem_cons.mp z with rfl | z
      · refine ⟨s.gr.h.free h1, fun m e em w => ?_⟩
        rcases set_at em with ⟨_, rfl⟩ | ⟨_, em⟩
        · exact w
        · exact s.none_ad h1 m e em w
      · have ad : SD.ad (.rg v (d0 :: cs)) a := List.mem_cons_of_mem _ z
        refine ⟨s1.nw j _ a hj ad, fun m e em w => ?_⟩
        rcases set_at em with ⟨_, rfl⟩ | ⟨hm, em⟩
        · exact w
        · exact hm (s1.env.nd j m _ e a hj em ad w)
end
section
variable {X : Cx} {Γ : List SD} {P : Po} {rest : List Stmt} {e : Expr} {es : List Expr} {ds : List PyData} {pos pos' np cpos : Pos} {f x : Str} {k : Nat} {ι : Type} {Pre : ι → List SD → Prop} {Post : ι → List SD → SD → Prop} {ix : ι}
/-- x = f(..), things of one's own back -/
theorem ds_gset (i : Nat) (F : GFn X.prog X.w X.K X.mg X.base f k (SpG X.K Pre Post)) (hr : Room k X.A) (ha : DA X Γ (e :: es) ds) (pre : Pre ix (ds.map .dat)) (post : ∀ Γ' c, Post ix Γ' c → DS X (Γ.set i c) rest P) (hN : X.N.Nodup) (hi : X.N[i]? = some x := by rfl) (hx : Loc X.env.scope x := by first | exact .inl rfl | exact .inr rfl)
    (hg : Gl X f := by rfl) (hdb : (f == ("__debug__" : Str)) = false := by decide) (he : starEach (e :: es) X.env = (false, eval e X.env) :: starEach es X.env := by rfl) (hpl : (backTo cpos (starEach es X.env)).any (·.1) = false := by rfl)
    (hs : swapsWith (.Call (.Name f np) (e :: es) [] cpos) (some (.Name x pos')) pos.line X.env = pure false := by rfl) (hf : X.fn x = true ∨ X.env.scope.names.lookup x = some .local := by first | exact .inl rfl | exact .inr rfl) : DS X Γ (.Assign [.Name x pos'] (.Call (.Name f np) (e :: es) [] cpos) pos :: rest) P :=
  ds_seq (N := fun Γ' => DS X Γ' rest P) ((ps_set (i := i) hN hi hx (g_call F hr ha hg hdb he hpl) hs hf).imp fun D σ H ⟨G0, H0, G, s, kk⟩ => ⟨G, s.env, fun G1 H1 vs g1 q1 => by
    show SpG X.K Pre Post (vs ++ []) H1 _ E0
    rw [List.append_nil]
    have s1 := s.up g1
    have no : ∀ a, ¬ ownG (ds.map SD.dat) a := fun a ⟨i, c, e, z⟩ => by
      obtain ⟨d, _, rfl⟩ := List.mem_map.mp (List.mem_of_getElem? e)
      exact z
    have env : EnvD X.K G1 H1 (ds.map SD.dat) (vs.map some) := ⟨s1.env.s, by simp [q1.len], fun i c ei => by
      obtain ⟨u, z1, z2⟩ := dats_ok (H := H1) q1 i c ei
      exact ⟨some u, by rw [List.getElem?_map, z1]; rfl, z2⟩, fun i j c e a z1 _ w1 _ => (no a ⟨i, c, z1, w1⟩).elim⟩
    refine spG_of pre env fun G' H' Γ' σ' c r p s' hq fr => ?_
    have g2 : Gr G1 H1 G' H' := ⟨s'.gr.g, fun a o z => s'.gr.h a o (by rw [hole_out (no a)]; exact z), s'.env.s, fun a o z => s'.gr.fr a o (by rw [hole_out (no a)]; exact z)⟩
    refine kk.nx G' H' _ _ (post Γ' c p) (g1.g.trans g2.g) ((s1.up g2).put i hq fun a z => ?_)
    have hn := (fr a z).1.resolve_left (no a)
    exact ⟨s1.gr.h.free hn, fun j e _ ej => s1.none_ad hn j e ej⟩⟩) fun _ h => h
end
end SJ
set_option maxRecDepth 100000
set_option maxHeartbeats 4000000
/-! Y2: the law's states, what is alike. -/
namespace SJ
open PySem PySem.Spec PyProof.Rows L2
def Kd.ix : Kd → Nat
  | .most => 0
  | .set => 1
  | .once => 2
  | .row => 3
  | .map => 4
def kds : List Kd := [.most, .set, .once, .row, .map]
/-- the states that the law hands in -/
def toldS (m : Nat) : Kd → List El
  | .most => [.n (m % 9)]
  | .set => [.n (m % 5), .n 7]
  | .once => [.n 4]
  | .row => [.n 8]
  | .map => [.p 1 1007, .p 9 (m % 9)]
theorem toldS_ok (m : Nat) : ∀ k, okSt k (toldS m k)
  | .most => ⟨[m % 9], rfl, Nat.lt_succ_self 1, fun a h => by have := Nat.mod_lt m (show 0 < 9 by decide); rw [List.mem_singleton.mp h]; show _ < 1000000000; omega⟩
  | .set => ⟨[m % 5, 7], rfl, by show 2 ≤ 60; decide, by
      have := Nat.mod_lt m (show 0 < 5 by decide)
      simp
      omega, fun a h => by
      have := Nat.mod_lt m (show 0 < 5 by decide)
      show _ < 1000000000
      rcases List.mem_cons.mp h with rfl | h
      · omega
      · rw [List.mem_singleton.mp h]; omega⟩
  | .once => ⟨[4], rfl, by decide, fun a h => by rw [List.mem_singleton.mp h]; decide⟩
  | .row => ⟨[8], rfl, by decide, fun a h => by rw [List.mem_singleton.mp h]; decide⟩
  | .map => ⟨[(1, 1007), (9, m % 9)], rfl, by show 2 ≤ 60; decide, by simp, fun a h => by
      have := Nat.mod_lt m (show 0 < 9 by decide)
      rcases List.mem_cons.mp h with rfl | h
      · exact ⟨by decide, by decide⟩
      · rw [List.mem_singleton.mp h]
        refine ⟨(by decide : 9 < 1000000000), ?_⟩
        show _ < 1000000000
        omega⟩
def lkOf (ls : List Addr) (k : Kd) : Addr := (ls[k.ix]?).getD 0
/-- what the law hands in: a list of the kinds' lists -/
def hndC (q : Addr) (ls : List Addr) (bs : List (Kd × Str)) (f : Kd → List PyData) : List (Addr × Cell) := (q, .lst ((bs.map fun b => V.ref (lkOf ls b.1)).map .raw)) :: llC ls (kds.map f)
section
variable {P : Program} {w : World} {K : PySem.W.Frag} {mg : Str → Option Value} {base : Heap} {f : Addr} {fd : FuncData}
def Pre_statesL : List (Kd × Str) × Nat → List SD → Prop := fun (bs, n) Γ => bs.length ≤ 50 ∧ Γ = [.dat (.list (bs.map kbD)), .dat (.int (n : Nat))]
def Post_statesL : List (Kd × Str) × Nat → List SD → SD → Prop := fun (bs, n) _ c => (n % 3 > 0 → c = .dat .none) ∧ (¬ n % 3 > 0 → ∃ q ls, ls.length = 5 ∧ c = .rg (.ref q) (hndC q ls bs fun k => (toldS (n / 3) k).map El.d))
theorem sc_statesL : FnScope ["_law_boxes_here", "_law_n", "_law_told", "_law_kind", "_law_box"] ["_law_boxes_here", "_law_n"] (defScope s_law_states) := ⟨rfl, rfl, rfl, by decide +kernel, rfl, by decide +kernel, by decide +kernel⟩
theorem ok_statesL (F : FD K d_law_states f fd) : FnOk P w K mg base CX0 1 f fd ["_law_boxes_here", "_law_n"] (SpG K Pre_statesL Post_statesL) := by
  refine fn_slots F sc_statesL (fun (_, _) Γ h => by obtain ⟨_, rfl⟩ := h; rfl) fun cdv A outer s H E hr (bs, n) Γ h => ?_
  obtain ⟨hb, rfl⟩ := h
  have hu := hu_of hr
  by_cases h3 : n % 3 > 0
  · refine ds_ifT (dt_is (dt_cmp (d_bin (d_var 1 rfl) d_int (o_modI (by decide))) d_int o_gtI) (decide_eq_true (by omega))) ?_
    exact ds_ret d_non ⟨fun _ => rfl, fun z => absurd h3 z⟩
  · refine ds_skip (dt_is (dt_cmp (d_bin (d_var 1 rfl) d_int (o_modI (by decide))) d_int o_gtI) (decide_eq_false (by omega))) ?_
    have m9 : (PyData.int (((n : Nat) : Int) / 3 % 9) : PyData) = .int ((n / 3 % 9 : Nat) : Nat) := by congr 1
    have m5 : (PyData.int (((n : Nat) : Int) / 3 % 5) : PyData) = .int ((n / 3 % 5 : Nat) : Nat) := by congr 1
    refine ds_setDL 2 [("most", (toldS (n / 3) .most).map El.d), ("set", (toldS (n / 3) .set).map El.d), ("once", (toldS (n / 3) .once).map El.d), ("row", (toldS (n / 3) .row).map El.d), ("map", (toldS (n / 3) .map).map El.d)]
      (pps_cons d_str (le_lst (da_cons (d_is (d_bin (d_bin (d_var 1 rfl) d_int (o_divI ⟨by decide, by decide⟩)) d_int (o_modI (by decide))) m9) da_nil) (by show 1 ≤ 100000; decide))
        (pps_cons d_str (le_lst (da_cons (d_is (d_bin (d_bin (d_var 1 rfl) d_int (o_divI ⟨by decide, by decide⟩)) d_int (o_modI (by decide))) m5) (da_cons d_int da_nil)) (by show 2 ≤ 100000; decide))
          (pps_cons d_str (le_lst (da_cons d_int da_nil) (by show 1 ≤ 100000; decide)) (pps_cons d_str (le_lst (da_cons d_int da_nil) (by show 1 ≤ 100000; decide))
            (pps_cons d_str (le_lst (da_cons (d_tup (da_cons d_int (da_cons d_int da_nil))) (da_cons (d_tup (da_cons d_int (da_cons (d_is (d_bin (d_bin (d_var 1 rfl) d_int (o_divI ⟨by decide, by decide⟩)) d_int (o_modI (by decide))) m9) da_nil))) da_nil)) (by show 2 ≤ 100000; decide)) pps_nil)))))
      rfl rfl (by intro z; cases z) (by decide) (by show 5 ≤ 15; decide) (by show (["most", "set", "once", "row", "map"] : List Str).Nodup; decide +kernel) (fun q ls hl => ?_) sc_statesL.nd
    match ls, hl with
    | [l0, l1, l2, l3, l4], _ =>
      refine ds_retLcT (rs := bs.map fun b => V.ref (lkOf [l0, l1, l2, l3, l4] b.1)) 2 3 4 sc_statesL rfl (di_list (d_var 0 rfl)) (by decide +kernel) (by rw [List.length_map, List.length_map]) (by rw [List.length_map]; omega) (fun m d r h1 h2 => ?_) (fun q2 => ?_) rfl rfl rfl rfl (fun s H C cl fp => pg_pr rfl sc_statesL.nd rfl rfl (Or.inl rfl) (Or.inl rfl) (Or.inr rfl) (Or.inr rfl))
      · rw [List.getElem?_map] at h1 h2
        cases hx : bs[m]? with
        | none => rw [hx] at h1; cases h1
        | some b =>
          rw [hx] at h1 h2
          cases h1
          cases h2
          obtain ⟨k, nm⟩ := b
          refine ⟨.str k.w, .str nm, rfl, fun _ _ _ _ _ => ?_⟩
          refine re_dk (k := .inr k.w) (a := q) (kvs := kvR ["most", "set", "once", "row", "map"] [l0, l1, l2, l3, l4]) 2 0 (re_var 2) (d_var 3 rfl) ?_ hu rfl
          cases k <;> rfl
      · refine ⟨fun z => absurd z h3, fun _ => ⟨q2, [l0, l1, l2, l3, l4], rfl, rfl⟩⟩
abbrev G_statesL (P : Program) (w : World) (K : PySem.W.Frag) (mg : Str → Option Value) (base : Heap) : Prop := GFn P w K mg base "_law_states" 1 (SpG K Pre_statesL Post_statesL)
def Pre_alike : List (List El) → List SD → Prop := fun sts Γ => sts.length ≤ 50 ∧ Γ = [.dat (.list (sts.map stD)), .dat (.list (sts.map stD))]
theorem sc_alike : FnScope ["_law_found", "_law_due", "_law_k"] ["_law_found", "_law_due"] (defScope s_law_alike) := ⟨rfl, rfl, rfl, by decide +kernel, rfl, by decide +kernel, by decide +kernel⟩
theorem ok_alike (T : Tx K mg) (F : FD K d_law_alike f fd) : FnOk P w K mg base CX0 1 f fd ["_law_found", "_law_due"] (SpF K Pre_alike (fun _ => .bool true)) := by
  refine fn_fresh F sc_alike (fun _ Γ h => by obtain ⟨_, rfl⟩ := h; rfl) fun cdv A outer s H E hr sts Γ h => ?_
  obtain ⟨hz, rfl⟩ := h
  have hu := hr.units
  refine ds_skip (PW.pt (dw_or (dt_is (dt_not (dt_val (d_isi T.f_isinstance (d_var 0 rfl) T.f_list (T := "list") (b := true) rfl))) rfl) (dw_or1 (dt_is (dt_cmp (d_lenL T.f_len (d_var 0 rfl)) (d_lenL T.f_len (d_var 1 rfl)) o_neI) (by simp))))) ?_
  refine ds_forN 2 (fun i Γ => ∃ x, Γ = [.dat (.list (sts.map stD)), .dat (.list (sts.map stD)), x]) (di_range1 T.f_range (d_lenL T.f_len (d_var 1 rfl)) (by rw [List.length_map]; omega) (by rw [List.length_map]; omega)) ⟨.un, rfl⟩ (fun i d Γ1 hd hi => ?_) (fun Γ1 hi => ?_) sc_alike.nd
  · obtain ⟨x, rfl⟩ := hi
    unfold rangeD at hd
    rw [List.getElem?_map] at hd
    cases hx : (List.range (((sts.map stD).length : Nat) : Int).toNat)[i]? with
    | none => rw [hx] at hd; cases hd
    | some k =>
      rw [hx] at hd
      cases hd
      obtain ⟨h1, h2⟩ := List.getElem?_eq_some_iff.mp hx
      rw [List.getElem_range] at h2
      rw [List.length_range, List.length_map] at h1
      subst h2
      have hi : i < sts.length := by omega
      have e1 : atI (sts.map stD) (0 + (i : Nat) : Int) = some (stD sts[i]) := by
        rw [show (0 + (i : Nat) : Int) = ((i : Nat) : Int) by omega]
        exact atI_nat (j := i) (by rw [List.getElem?_map, List.getElem?_eq_getElem hi]; rfl)
      refine ds_skip (PW.pt (dw_or (dt_is (dt_not (dt_val (d_isi T.f_isinstance (d_ixL (d_var 0 rfl) (d_var 2 rfl) e1) T.f_list (T := "list") (b := true) rfl))) rfl) (dw_or1 (dt_is (dt_cmp (d_ixL (d_var 0 rfl) (d_var 2 rfl) e1) (d_ixL (d_var 1 rfl) (d_var 2 rfl) e1) (o_neD hu (st_shaped _) (st_shaped _))) (congrArg (! ·) ((st_eqv _ _).trans (decide_eq_true rfl))))))) (ds_nil ⟨_, rfl⟩)
  · obtain ⟨x, rfl⟩ := hi
    exact ds_ret d_bl (.inl ⟨rfl, trivial⟩)
abbrev G_alike (P : Program) (w : World) (K : PySem.W.Frag) (mg : Str → Option Value) (base : Heap) : Prop := GFn P w K mg base "_law_alike" 1 (SpF K Pre_alike (fun _ => .bool true))
end
end SJ
set_option maxRecDepth 100000
set_option maxHeartbeats 4000000
/-! YD: states that are told and changed; a turn of the path (). -/
namespace SJ
open PySem PySem.Spec PyProof.Rows L2
section
variable {K : PySem.W.Frag} {G H G' H' G0 H0 : Hp} {Γ : List SD} {σ : L2.St}
/-- something that is nobody's changes -/
theorem St0.junk (s : St0 K G0 H0 G H Γ σ) {l : Addr} {o : HO} (h0 : H0 l = none) (hG : G l = none) (hn : ∀ (i : Nat) e, Γ[i]? = some e → ¬ e.ad l) : St0 K G0 H0 G (upd H l o) Γ σ := by
  refine ⟨⟨s.gr.g, fun a u z => ?_, same_upd s.env.s hG, s.gr.fr⟩, s.nw, same_upd s.env.s hG, s.env.len, fun i c e => ?_, s.env.nd⟩
  · rw [upd_ne (fun w : a = l => by rw [w, h0] at z; cases z)]
    exact s.gr.h a u z
  · obtain ⟨v, e1, q⟩ := s.env.at_ i c e
    refine ⟨v, e1, q.keep (Same.refl _) (fun a u ad z => ?_) fun _ _ _ _ z => z⟩
    rw [upd_ne (fun w : a = l => hn i c e (w ▸ ad))]
    exact z
end
section
variable {X : Cx} {Γ : List SD} {P : Po} {rest : List Stmt} {e call ie oe : Expr} {es : List Expr} {ds : List PyData} {v : V} {p l : Addr} {pos pos' apos cpos : Pos} {x : Str} {CK : Kd → Addr} {CH CT : Addr}
/-- new lists, to be changed -/
def tSts (K : PySem.W.Frag) (Γ : List SD) (n : Nat) : TE := fun σ H Q => ∃ G, EnvD K G H Γ σ ∧ ∀ (H' : Hp) (q : Addr) (ls : List Addr), Gr G H G H' → ls.length = n → H q = none → H' q = some (.lst (ls.map V.ref)) → (∀ l ∈ ls, H l = none ∧ ∃ xs, H' l = some (.lst xs) ∧ xs.length < 100000) → Q (.ref q) H'
theorem st_call {s : HouS} (j : Nat) (hs : HouOk s) (hj : Γ[j]? = some (.rg (.ref s.h) (houC CK CH CT s))) (hp : PE X call (tMeth CH "states" (SpG X.K (Pre_states CK CH CT) Post_states) [] E0 (tR X.K Γ (.ref s.h)) tNil)) : PE X call (tSts X.K Γ s.bx.length) :=
  hp.imp fun σ H Q ⟨G, env, k⟩ => ⟨G, env, fun G1 H1 g1 => by
    have env1 := env.up g1
    have hc : cellAt Γ j 0 = some (s.h, .ins CH (houF s)) := by unfold cellAt; rw [hj]; rfl
    obtain ⟨dx, ws0, z1, z2⟩ := recv env1 hc (m := "states") rfl
    obtain ⟨Gt, t1, t2, t3⟩ := env1.lend hj
    refine ⟨s.h, dx, ws0, rfl, z1, z2, ?_⟩
    show SpG X.K (Pre_states CK CH CT) Post_states (V.ref s.h :: ([] ++ [])) H1 _ E0
    have no : ∀ a, ¬ ownG [houR CK CH CT s] a := fun a z => ownG_none (c0 := houR CK CH CT s) (ds := []) (fun _ z => z) a z
    refine spG_of (ix := s) (Γa := [houR CK CH CT s]) ⟨hs, rfl⟩ (args_env (us := []) (Γx := []) t2 ⟨rfl, t3⟩ rfl (fun i c e => by cases e) (fun i j c e a z => by cases z) fun i c a e => by cases e) fun G' H' Γ' σ' c r hq s' hr fr => ?_
    obtain ⟨q, ls, hl, rfl⟩ := hq
    obtain ⟨e1, rg⟩ := hr
    cases e1
    have hh : Same H1 H' := fun a o z => s'.gr.h a o (by rw [hole_out (no a)]; exact z)
    have hH := g1.h.trans hh
    have free_ : ∀ a, a ∈ (stsC q ls s.bx).map (·.1) → H a = none := fun a m => g1.h.free ((fr a m).1.resolve_left (no a))
    obtain ⟨_, u, y1, ws, rfl, y2⟩ := rg.at_ _ List.mem_cons_self
    have hws : ws = ls.map V.ref := by
      have : ∀ (ws : List V) (ls : List Addr), Paired (FvOk X.K G') ws (ls.map fun l => Fv.raw (.ref l)) → ws = ls.map V.ref := fun ws ls => by
        induction ls generalizing ws with
        | nil => intro z; cases z; rfl
        | cons l ls ih =>
          intro z
          cases z with
          | cons a b =>
            rw [ih _ b]
            exact congrArg (· :: ls.map V.ref) a
      exact this ws ls y2
    subst hws
    have hlen : ls.length = (bxL' s.bx).length := by unfold bxL'; rw [List.length_map]; exact hl
    refine k H' q ls ⟨Same.refl _, hH, env.s.trans hH, fun _ _ _ z => z⟩ hl (free_ q List.mem_cons_self) y1 fun l m => ?_
    obtain ⟨i, hi⟩ := List.mem_iff_getElem?.mp m
    have hil : i < (bxL' s.bx).length := by rw [← hlen]; exact (List.getElem?_eq_some_iff.mp hi).1
    have hce : (llC ls (bxL' s.bx))[i]? = some (l, .lst (((bxL' s.bx)[i]).map .dat)) := by
      unfold llC
      rw [List.getElem?_zipWith, hi, List.getElem?_eq_getElem hil]
    have mc : (l, Cell.lst (((bxL' s.bx)[i]).map .dat)) ∈ stsC q ls s.bx := List.mem_cons_of_mem _ (List.mem_of_getElem? hce)
    obtain ⟨_, u2, y3, ws2, rfl, y4⟩ := rg.at_ _ mc
    refine ⟨free_ l (List.mem_map.mpr ⟨_, mc, rfl⟩), ws2, y3, ?_⟩
    rw [Paired.length y4, List.length_map]
    have hib : i < s.bx.length := by rw [← hl]; exact (List.getElem?_eq_some_iff.mp hi).1
    have e2 : (bxL' s.bx)[i] = s.bx[i].st.map El.d := by unfold bxL'; exact List.getElem_map ..
    rw [e2, List.length_map]
    have := okSt_len (hs.st s.bx[i] (List.getElem_mem hib))
    omega⟩
/-- states()[0].append(e) -/
theorem ds_stApp {n : Nat} {i : Int} {j : Nat} {p1 p2 : Pos} (hp : PE X call (tSts X.K Γ n)) (hn : 0 < n) (hr : DS X Γ rest P)
    (hbase : attributeBase (.Subscript call (.Constant (.int 0) j p1) p2) "append" X.env (eval (.Subscript call (.Constant (.int 0) j p1) p2) X.env) = eval (.Subscript call (.Constant (.int 0) j p1) p2) X.env := by rfl) {j2 : Nat} {p3 : Pos}
    (hfew : ((backTo cpos (starEach [.Constant (.int i) j2 p3] X.env)).all (fun x => !x.1) && (backToKw cpos (keywordEach [] X.env)).all (fun x => x.1.isSome) && decide (([.Constant (.int i) j2 p3] : List Expr).length + ([] : List Keyword).length + (if ([] : List Keyword).isEmpty then 0 else 1) < 30)) = true := by rfl)
    (hline : (apos.endLine == cpos.line) = true := by rfl) (hs : starEach [.Constant (.int i) j2 p3] X.env = (false, eval (.Constant (.int i) j2 p3) X.env) :: starEach [] X.env := by rfl) (hplain : (backTo cpos (starEach [] X.env)).any (·.1) = false := by rfl)
    (hsw : swapsWith (.Call (.Attribute (.Subscript call (.Constant (.int 0) j p1) p2) "append" apos) [.Constant (.int i) j2 p3] [] cpos) none pos.line X.env = pure false := by rfl) : DS X Γ (.Expr (.Call (.Attribute (.Subscript call (.Constant (.int 0) j p1) p2) "append" apos) [.Constant (.int i) j2 p3] [] cpos) pos :: rest) P :=
  ds_seq (N := (· = Γ)) ((ps_expr (pe_bm PySem.F.plainAttrs_list PySem.F.slot_list_append PySem.F.type_list_append mt_append (pe_ix ix_list hp pe_int (fun _ _ => rfl)) (pa_cons pe_int pa_nil hs) hbase hfew hline hs hplain) hsw).imp fun D σ H ⟨G0, H0, G, s, k⟩ => ⟨G, s.env, fun H' q ls g hl hq hq' hls => by
    cases ls with
    | nil => rw [← hl] at hn; cases hn
    | cons l ls =>
      obtain ⟨l1, xs, l2, l3⟩ := hls l List.mem_cons_self
      refine ⟨q, _, 0, .ref l, rfl, rfl, SqL.of hq', atI_nat (j := 0) rfl, .inl ⟨rfl, _, SqL.of l2⟩, l, xs, .int i, rfl, rfl, l2, ?_, ?_⟩
      · exact Nat.lt_of_lt_of_le l3 (by decide)
      · exact k.nx G _ Γ σ rfl (Same.refl _) ((s.up g).junk (s.gr.h.free l1) (s.env.s.free l1) fun m e em => s.none_ad l1 m e em)⟩) fun _ e => e ▸ hr
/-- states().append([]) -/
theorem ds_stApp2 {n : Nat} {lp : Pos} (hp : PE X call (tSts X.K Γ n)) (hn : n < 1000) (hr : DS X Γ rest P)
    (hbase : attributeBase call "append" X.env (eval call X.env) = eval call X.env := by rfl)
    (hfew : ((backTo cpos (starEach [.List [] lp] X.env)).all (fun x => !x.1) && (backToKw cpos (keywordEach [] X.env)).all (fun x => x.1.isSome) && decide (([.List [] lp] : List Expr).length + ([] : List Keyword).length + (if ([] : List Keyword).isEmpty then 0 else 1) < 30)) = true := by rfl)
    (hline : (apos.endLine == cpos.line) = true := by rfl) (hs : starEach [.List [] lp] X.env = (false, eval (.List [] lp) X.env) :: starEach [] X.env := by rfl) (hplain : (backTo cpos (starEach [] X.env)).any (·.1) = false := by rfl)
    (hsw : swapsWith (.Call (.Attribute call "append" apos) [.List [] lp] [] cpos) none pos.line X.env = pure false := by rfl) : DS X Γ (.Expr (.Call (.Attribute call "append" apos) [.List [] lp] [] cpos) pos :: rest) P :=
  ds_seq (N := (· = Γ)) ((ps_expr (pe_bm PySem.F.plainAttrs_list PySem.F.slot_list_append PySem.F.type_list_append mt_append hp (pa_cons (pe_lst pa_nil) pa_nil hs) hbase hfew hline hs hplain) hsw).imp fun D σ H ⟨G0, H0, G, s, k⟩ => ⟨G, s.env, fun H' q ls g hl hq hq' hls => by
    refine ⟨.inl ⟨rfl, _, SqL.of hq'⟩, Nat.zero_le _, fun b hb => ⟨q, ls.map V.ref, .ref b, rfl, rfl, ?_, ?_, ?_⟩⟩
    · rw [upd_ne (ne_of_none hq' hb)]
      exact hq'
    · rw [List.length_map, hl]
      exact Nat.lt_of_lt_of_le hn (by decide)
    · have s1 := (s.up g).up (Gr.tmp (o := .lst []) (s.up g).env.s hb)
      exact k.nx G _ Γ σ rfl (Same.refl _) (s1.junk (s.gr.h.free hq) (s.env.s.free hq) fun m e em => s.none_ad hq m e em)⟩) fun _ e => e ▸ hr
end
section
variable {X : Cx} {Γ : List SD} {P : Po} {rest : List Stmt} {e call ie oe be : Expr} {es : List Expr} {ds : List PyData} {v : V} {t l : Addr} {pos pos' apos cpos np : Pos} {x nm : Str} {CK : Kd → Addr} {CH CT : Addr} {ln : Nat}
/-- an entry of a log -/
def entC (e t l : Addr) (ln : Nat) (nm : Str) (ds : List PyData) : List (Addr × Cell) := [(e, .tup [.dat (.tuple []), .dat (.int (ln : Nat)), .raw (.ref t)]), (t, .tup [.raw (.str "put"), .raw (.str nm), .raw (.ref l)]), (l, .lst (ds.map .dat))]
def entV (ln : Nat) (nm : Str) (ds : List PyData) : PyData := .tuple [.tuple [], .int (ln : Nat), .tuple [.str "put", .str nm, .list ds]]
/-- x = house.turn(()) -/
theorem ds_turn (i : Nat) {ix : Addr → IxTn} {k : Nat} {nmj : Str} {tp npj : Pos} {kk : Nat} (j : Nat) (F : MFn X.prog X.w X.K X.mg X.base CH "turn" k (SpG X.K (Pre_turn CK CH CT) (Post_turn CK CH CT))) (hr : Room k X.A) {s : HouS} {ib : Nat} {b : BxS} {p : Put} {other : List El} (hix : ∀ b0, ix b0 = ⟨s, ib, b, p, b0, other⟩) (pre : ∀ b0, Pre_turn CK CH CT (ix b0) [.rg (.ref s.h) (houC CK CH CT s), .st (.ref b0) [(b0, .tup [])]])
    (hj : Γ[j]? = some (.rg (.ref s.h) (houC CK CH CT s))) (hjn : X.N[j]? = some nmj) (hjv : Vis X.env.scope nmj) (hd1 : (nmj == ("__debug__" : Str)) = false) (hd2 : (nmj == ("__classdict__" : Str)) = false)
    (post : ∀ s' e t l, HouNext (stepH s) ib b p.line other s' → DS X ((Γ.set j (.rg (.ref s.h) (houC CK CH CT s'))).set i (.rg (.ref e) (entC e t l p.line p.nm (other.map El.d)))) rest P) (hN : X.N.Nodup) (hi : X.N[i]? = some x := by rfl) (hx : Loc X.env.scope x := by first | exact .inl rfl | exact .inr rfl)
    (hs1 : starEach [.Tuple [] kk tp] X.env = (false, eval (.Tuple [] kk tp) X.env) :: starEach [] X.env := by rfl) (hpl : (backTo cpos (starEach [] X.env)).any (·.1) = false := by rfl) {pl : Sem Bool}
    (ht : eval (.Call (.Attribute (.Name nmj npj) "turn" apos) [.Tuple [] kk tp] [] cpos) X.env = (do
      let ov ← eval (.Name nmj npj) X.env
      standAt apos.atName
      let (f, first) ← holding [ov] (getMethod ov "turn" pl)
      callWith cpos f first (backTo cpos (starEach [.Tuple [] kk tp] X.env)) (backToKw cpos (keywordEach [] X.env))) := by rfl)
    (hs : swapsWith (.Call (.Attribute (.Name nmj npj) "turn" apos) [.Tuple [] kk tp] [] cpos) (some (.Name x pos')) pos.line X.env = pure false := by rfl) (hf : X.fn x = true ∨ X.env.scope.names.lookup x = some .local := by first | exact .inl rfl | exact .inr rfl) : DS X Γ (.Assign [.Name x pos'] (.Call (.Attribute (.Name nmj npj) "turn" apos) [.Tuple [] kk tp] [] cpos) pos :: rest) P :=
  ds_seq (N := fun Γ' => DS X Γ' rest P) ((ps_set (i := i) hN hi hx (m_call F hr (re_var (v := .ref s.h) (Γ := Γ) j (by rw [hj]; rfl) hjn hjv hd1 hd2) (pa_cons (pe_tup pa_nil) pa_nil hs1) hs1 hpl ht) hs hf).imp fun D σ H ⟨G0, H0, G, s0, k⟩ => ⟨G, s0.env, fun G1 H1 g1 => by
    have s1 := s0.up g1
    have hc : cellAt Γ j 0 = some (s.h, .ins CH (houF s)) := by unfold cellAt; rw [hj]; rfl
    obtain ⟨dx, ws, z1, z2⟩ := recv s1.env hc (m := "turn") rfl
    refine ⟨s.h, dx, ws, rfl, z1, z2, Nat.zero_le _, fun b0 hb0 => ?_⟩
    show SpG X.K (Pre_turn CK CH CT) (Post_turn CK CH CT) (V.ref s.h :: ([.ref b0] ++ [])) _ _ E0
    have gb : Gr G1 H1 (upd G1 b0 (.tup [])) (upd H1 b0 (.tup [])) := Gr.new s1.env.s hb0
    have s2 := s1.up gb
    refine s2.mcall (A := []) (us := [.ref b0]) (Γx := [.st (.ref b0) [(b0, .tup [])]]) (ix := ix b0) hj rfl (fun n c e => ?_) (fun n n' c e a x1 x2 y1 y2 => ?_) (fun n c a e z => ?_) (pre b0) (fun Γ' c z => ?_) fun G' H' Γ' B' c r q hB sg st hq fr => ?_
    · match n with
      | 0 => cases e; exact ⟨_, rfl, rfl, fun p m => by
          obtain rfl := List.mem_singleton.mp m
          exact ⟨_, upd_same, [], rfl, .nil⟩⟩
      | n + 1 => cases e
    · match n with
      | 0 => cases x1; exact y1.elim
      | n + 1 => cases x1
    · match n with
      | 0 => cases e; exact z.elim
      | n + 1 => cases e
    · rw [hix b0] at z
      obtain ⟨⟨s', _, h⟩, _⟩ := z
      exact ⟨_, h⟩
    · rw [hix b0] at q
      obtain ⟨⟨s', hn, h⟩, e, t, l, rfl⟩ := q
      rw [h] at hB
      cases hB
      have hb0' : G' b0 = some (.tup []) := sg _ _ upd_same
      refine k.nx G' H' _ _ (post s' e t l hn) ((g1.g.trans gb.g).trans sg) (st.put i ?_ fun a z => ⟨(fr a z).1, fun m c _ em => (fr a z).2 m c em⟩)
      refine ⟨hq.1, hq.2.nd, fun c m => ?_⟩
      rcases List.mem_cons.mp m with rfl | m
      · obtain ⟨y1, u, y2, ws, rfl, y3⟩ := hq.2.at_ _ List.mem_cons_self
        refine ⟨y1, _, y2, ws, rfl, ?_⟩
        cases y3 with
        | cons a1 y3 =>
          refine .cons ?_ y3
          cases (show _ = V.ref b0 from a1)
          exact .tup (.inl (.inl hb0')) .nil
      · exact hq.2.at_ c (List.mem_cons_of_mem _ m)⟩) fun _ h => h
/-- an entry is data -/
theorem ent_dp {G H : Hp} {σ : L2.St} {i : Nat} {e : Addr} (env : EnvD X.K G H Γ σ) (hi : Γ[i]? = some (.rg (.ref e) (entC e t l ln nm ds))) : Dp X.K H (.ref e) (entV ln nm ds) := by
  obtain ⟨_, _, _, r⟩ := env.at_ i _ hi
  obtain ⟨_, u1, y1, w1, rfl, z1⟩ := r.at_ _ List.mem_cons_self
  obtain ⟨_, u2, y2, w2, rfl, z2⟩ := r.at_ _ (List.mem_cons_of_mem _ List.mem_cons_self)
  obtain ⟨_, u3, y3, w3, rfl, z3⟩ := r.at_ _ (List.mem_cons_of_mem _ (List.mem_cons_of_mem _ List.mem_cons_self))
  refine Dq.dp _ _ (show Dq X.K H (.ref e) (entV ln nm ds) from ?_)
  cases z1 with
  | cons a1 z1 => cases z1 with
    | cons a2 z1 => cases z1 with
      | cons a3 z1 =>
        cases z1
        cases z2 with
        | cons b1 z2 => cases z2 with
          | cons b2 z2 => cases z2 with
            | cons b3 z2 =>
              cases z2
              cases (show _ = V.ref t from a3)
              cases (show _ = V.str "put" from b1)
              cases (show _ = V.str nm from b2)
              cases (show _ = V.ref l from b3)
              exact .tup (.inl (.inl y1)) (.cons (Dq.up a1 env.s) (.cons (Dq.up a2 env.s) (.cons (.tup (.inl (.inl y2)) (.cons (.str _) (.cons (.str _) (.cons (.lst y3 ((paired_dats z3).up env.s)) .nil)))) .nil)))
/-- entry != e -/
theorem dt_neEnt (i : Nat) {e : Addr} {d : PyData} (ha : RE X Γ oe (.ref e)) (hb : DE X Γ be d) (hu : X.A.units + 64 < cLine) (hi : Γ[i]? = some (.rg (.ref e) (entC e t l ln nm ds))) (hd : SeqAt.shaped (entV ln nm ds) = true) (he : SeqAt.shaped d = true) (hm : behindInMarks .NotEq be = false := by first | rfl | exact nomark _) : DT X Γ (.Compare oe [.NotEq] [be] pos) (!PyData.eqv (entV ln nm ds) d) :=
  (pt_cmpR (op_neD hu) ha hb hm).imp fun σ H Q ⟨G, env, k⟩ => ⟨G, env, fun G1 H1 g1 => ⟨G1, env.up g1, fun G2 H2 y g2 q2 =>
    ⟨_, d, ent_dp ((env.up g1).up g2) hi, Dq.dp _ _ (q2.up g2.s), hd, he, _, rfl, k G2 H2 (g1.trans g2)⟩⟩⟩
/-- isinstance(e, list), e a list's cell -/
theorem d_isiC (j n : Nat) {xs : List Fv} {p q2 : Pos} (hm : X.mg "isinstance" = none) (he : RE X Γ oe (.ref l)) (hT : X.mg "list" = none) (hc : cellAt Γ j n = some (l, .lst xs)) (hg : Gl X "isinstance" := by rfl) (hg' : Gl X "list" := by rfl)
    (hs : starEach [oe, .Name "list" q2] X.env = (false, eval oe X.env) :: starEach [.Name "list" q2] X.env := by rfl) (hs2 : starEach [.Name "list" q2] X.env = (false, eval (.Name "list" q2) X.env) :: starEach [] X.env := by rfl) (hpl : (backTo pos (starEach [.Name "list" q2] X.env)).any (·.1) = false := by rfl) :
    DE X Γ (.Call (.Name "isinstance" p) [oe, .Name "list" q2] [] pos) (.bool true) :=
  (pe_callB call_isi hg hm (by decide +kernel) (pa_cons he (pa_cons (pe_bltn (v := .ty "list") hg' hT (by decide +kernel) rfl (by decide) (by decide)) pa_nil hs2) hs) (by decide) (by decide) hs hpl).imp fun σ H Q ⟨G, env, k⟩ => ⟨G, env, fun G1 H1 g1 => by
    obtain ⟨u, h1, ws, rfl, _⟩ := (env.up g1).cell hc
    exact ⟨_, .ty "list", .type "list", .type "list", true, rfl, .ty "list", .base (.lst h1), kit_ty (by decide), k G1 H1 _ g1 (.bl true)⟩⟩
end
end SJ
set_option maxRecDepth 100000
set_option maxHeartbeats 4000000
/-! Y3: a turn is right. -/
namespace SJ
open PySem PySem.Spec PyProof.Rows L2
theorem okPut_st {k : Kd} {s : List El} (h : okPut k s) : okSt k s := by
  cases k with
  | row => obtain ⟨ns, rfl, _, h2, h3⟩ := h; exact ⟨ns, rfl, by omega, h3⟩
  | map => obtain ⟨a, b, rfl, h1, h2⟩ := h; exact ⟨[(a, b)], rfl, by show 1 ≤ 60; decide, by simp, fun q m => by rw [List.mem_singleton.mp m]; exact ⟨h1, h2⟩⟩
  | most => obtain ⟨a, rfl, h1⟩ := h; exact ⟨[a], rfl, by show 1 < 2; decide, fun q m => by rw [List.mem_singleton.mp m]; exact h1⟩
  | set => obtain ⟨a, rfl, h1⟩ := h; exact ⟨[a], rfl, by show 1 ≤ 60; decide, by simp, fun q m => by rw [List.mem_singleton.mp m]; exact h1⟩
  | once => obtain ⟨a, rfl, h1⟩ := h; exact ⟨[a], rfl, by show 1 < 2; decide, fun q m => by rw [List.mem_singleton.mp m]; exact h1⟩
theorem insN_len (b : Nat) : ∀ ns : List Nat, (insN b ns).length ≤ ns.length + 1
  | [] => Nat.le_refl _
  | a :: r => by
    unfold insN
    split
    · exact Nat.le_refl _
    · split
      · exact Nat.le_succ _
      · exact Nat.succ_le_succ (insN_len b r)
theorem insP_len (q : Nat × Nat) : ∀ ps : List (Nat × Nat), (insP q ps).length ≤ ps.length + 1
  | [] => Nat.le_refl _
  | a :: r => by
    unfold insP
    split
    · exact Nat.le_refl _
    · split
      · exact Nat.le_succ _
      · exact Nat.succ_le_succ (insP_len q r)
/-- a join is a state, not much longer -/
theorem join_ok {k : Kd} {one other st : List El} (h1 : okSt k one) (h2 : okPut k other) (hl : one.length ≤ 50) (h : joinK k one other = some st) : okSt k st ∧ st.length ≤ max 4 (one.length + 1) := by
  have l2 := okPut_len h2
  cases k with
  | most =>
    obtain ⟨ns, rfl, a1, a2⟩ := h1
    obtain ⟨b, rfl, hb⟩ := h2
    match ns, a1 with
    | [], _ => cases h; exact ⟨⟨[b], rfl, Nat.lt_succ_self 1, fun x m => by rw [List.mem_singleton.mp m]; exact hb⟩, by show 1 ≤ max 4 _; omega⟩
    | [c], _ =>
      cases h
      have hc := a2 c List.mem_cons_self
      exact ⟨⟨[max c b], rfl, Nat.lt_succ_self 1, fun x m => by rw [List.mem_singleton.mp m]; exact Nat.max_lt.mpr ⟨hc, hb⟩⟩, by show 1 ≤ max 4 _; omega⟩
  | set =>
    obtain ⟨ns, rfl, a1, a2, a3⟩ := h1
    obtain ⟨b, rfl, hb⟩ := h2
    have h : some (numS (insN b ((numS ns).map elN))) = some st := h
    rw [elN_numS] at h
    cases h
    have hlen : ns.length ≤ 50 := by unfold numS at hl; rwa [List.length_map] at hl
    have := insN_len b ns
    refine ⟨⟨_, rfl, by omega, insN_sorted b a2, fun x m => ?_⟩, ?_⟩
    · rcases (insN_mem b).mp m with rfl | m
      · exact hb
      · exact a3 x m
    · unfold numS
      rw [List.length_map, List.length_map]
      omega
  | once =>
    rw [joinK_once] at h
    split at h
    · cases h
      exact ⟨okPut_st h2, by omega⟩
    · cases h
  | row =>
    rw [joinK_row] at h
    split at h
    · cases h
      exact ⟨okPut_st h2, by omega⟩
    · split at h
      · cases h
        exact ⟨h1, by omega⟩
      · cases h
  | map =>
    obtain ⟨ps, rfl, a1, a2, a3⟩ := h1
    obtain ⟨a, b, rfl, ha, hb⟩ := h2
    rw [joinK_map, elP_parS] at h
    split at h
    · cases h
    · rename_i hno
      cases h
      have hlen : ps.length ≤ 50 := by unfold parS at hl; rwa [List.length_map] at hl
      have := insP_len (a, b) ps
      have hb2 : ∀ q ∈ ps, q.1 = a → q.2 = b := fun q m e => by
        by_cases e2 : q.2 = b
        · exact e2
        · refine absurd (List.any_eq_true.mpr ⟨q, m, ?_⟩) hno
          simp [e, e2]
      obtain ⟨i1, i2⟩ := insP_mem a2 hb2
      refine ⟨⟨_, rfl, by omega, i1, fun x m => ?_⟩, ?_⟩
      · rcases (i2 x).mp m with m | rfl
        · exact a3 x m
        · exact ⟨ha, hb⟩
      · unfold parS
        rw [List.length_map, List.length_map]
        omega
/-- a house behind j puts -/
structure HouAt (s : HouS) (j : Nat) : Prop where
  ok : HouOk s
  len : ∀ b ∈ s.bx, b.st.length ≤ 4 + j
  es : ∀ b ∈ s.bx, b.es.length ≤ 1 + j
theorem step_ok {s : HouS} (h : HouOk s) : HouOk (stepH s) := ⟨h.good, h.boxes, h.st, h.es, h.few, (setS_g _).trans h.th⟩
theorem mem_set {α : Type} {xs : List α} {i : Nat} {a x : α} (h : x ∈ xs.set i a) : x = a ∨ x ∈ xs := by
  rcases List.mem_or_eq_of_mem_set h with h | h
  · exact .inr h
  · exact .inl h
theorem next_at {s s' : HouS} {j i ln : Nat} {b : BxS} {other : List El} (h : HouAt s j) (hj : j ≤ 40) (hb : s.bx[i]? = some b) (ho : okPut b.k other) (hn : HouNext (stepH s) i b ln other s') : HouAt s' (j + 1) := by
  have hm := List.mem_of_getElem? hb
  have hs := step_ok h.ok
  unfold HouNext at hn
  cases hq : joinK b.k b.st other with
  | none =>
    rw [hq] at hn
    obtain ⟨q, rfl⟩ := hn
    exact ⟨⟨hs.good, hs.boxes, hs.st, hs.es, hs.few, hs.th⟩, fun c m => by have := h.len c m; omega, fun c m => by have := h.es c m; omega⟩
  | some st =>
    rw [hq] at hn
    have hn : s' = setB (stepH s) i { b with st := st, es := b.es ++ [(.tuple [], .int (ln : Nat), other)] } := hn
    subst hn
    have hl := h.len b hm
    have hes := h.es b hm
    obtain ⟨k1, k2⟩ := join_ok (hs.st b hm) ho (by omega) hq
    refine ⟨⟨hs.good, ?_, fun c m => ?_, fun c m e me => ?_, fun c m => ?_, hs.th⟩, fun c m => ?_, fun c m => ?_⟩
    · show s.g.boxes = _
      rw [h.ok.boxes]
      exact (map_set_same hb (f := fun b : BxS => (b.k.w, b.nm)) (b' := { b with st := st, es := b.es ++ [(.tuple [], .int (ln : Nat), other)] }) rfl).symm
    · rcases mem_set m with rfl | m
      · exact k1
      · exact hs.st c m
    · rcases mem_set m with rfl | m
      · rcases List.mem_append.mp me with me | me
        · exact hs.es b hm e me
        · rw [List.mem_singleton.mp me]
          exact okPut_st ho
      · exact hs.es c m e me
    · rcases mem_set m with rfl | m
      · show (b.es ++ [_]).length ≤ 1000
        rw [List.length_append, List.length_singleton]
        omega
      · exact hs.few c m
    · rcases mem_set m with rfl | m
      · show st.length ≤ _
        omega
      · have := h.len c m
        omega
    · rcases mem_set m with rfl | m
      · show (b.es ++ [_]).length ≤ _
        rw [List.length_append, List.length_singleton]
        omega
      · have := h.es c m
        omega
theorem next_bx {s s' : HouS} {i ln : Nat} {b : BxS} {other : List El} (hn : HouNext (stepH s) i b ln other s') : s'.bx.length = s.bx.length ∧ s'.h = s.h := by
  unfold HouNext at hn
  split at hn
  · obtain ⟨q, rfl⟩ := hn
    exact ⟨rfl, rfl⟩
  · subst hn
    exact ⟨List.length_set .., rfl⟩
structure IxTr where
  (s : HouS) (i : Nat) (b : BxS) (p : Put) (other : List El) (j : Nat)
section
variable {P : Program} {w : World} {K : PySem.W.Frag} {mg : Str → Option Value} {base : Heap} {f : Addr} {fd : FuncData} {CK : Kd → Addr} {CH CT : Addr}
def Pre_tr (CK : Kd → Addr) (CH CT : Addr) : IxTr → List SD → Prop := fun ⟨s, i, b, p, other, j⟩ Γ => HouAt s j ∧ j ≤ 40 ∧ s.torn = .dat .none ∧ s.th.fin = .none ∧ s.th.g.puts[s.th.at_]? = some p ∧ 2 ≤ s.th.left ∧ s.bx[i]? = some b ∧ b.nm = p.nm ∧ other = putEl b.k.w p.ns ∧ okPut b.k other ∧ p.ns.length ≤ 1000 ∧ (b.k.w = "map" → p.ns.length = 2) ∧ PyData.strOk p.nm = true ∧
  Γ = [.rg (.ref s.h) (houC CK CH CT s), .dat (.int (p.line : Nat)), .dat (.str b.k.w), .dat (.str p.nm), .dat (.list (intsD p.ns))]
def Post_tr (CK : Kd → Addr) (CH CT : Addr) : IxTr → List SD → SD → Prop := fun ⟨s, i, b, p, other, j⟩ Γ' c => c = .dat (.bool true) ∧ ∃ s', HouNext (stepH s) i b p.line other s' ∧ Γ'[0]? = some (.rg (.ref s.h) (houC CK CH CT s'))
theorem sc_tr : FnScope ["_law_house", "_law_line", "_law_kind", "_law_box", "_law_numbers", "_law_state", "_law_entry"] ["_law_house", "_law_line", "_law_kind", "_law_box", "_law_numbers"] (defScope s_law_turn_right) := ⟨rfl, rfl, rfl, by decide +kernel, rfl, by decide +kernel, by decide +kernel⟩
theorem ent_shaped (ln : Nat) (nm : Str) (st : List El) (hnm : PyData.strOk nm = true) : SeqAt.shaped (entV ln nm (st.map El.d)) = true := by
  have h1 := Els_depth st
  have h2 : (entV ln nm (st.map El.d)).depth ≤ 64 := by
    unfold entV
    simp only [PyData.depth, PyData.depthAll]
    omega
  show ((entV ln nm (st.map El.d)).canLay0 && decide ((entV ln nm (st.map El.d)).depth ≤ 64)) = true
  rw [Bool.and_eq_true]
  refine ⟨?_, decide_eq_true h2⟩
  unfold entV
  simp [PyData.canLay0, PyData.canLayAll0, Els_lay st, hnm, show PyData.strOk (Str.ofString "put") = true from by decide +kernel]
theorem ent_eqv (ln : Nat) (nm : Str) (st : List El) : PyData.eqv (entV ln nm (st.map El.d)) (.tuple [.tuple [], .int (ln : Nat), .tuple [.str "put", .str nm, stD st]]) = true := by
  unfold entV stD
  simp [PyData.eqv, PyData.eqvAll, Els_eqv]
theorem ok_tr (T : Tx K mg) (g1 : M_turn P w K mg base CK CH CT) (g2 : M_states P w K mg base CK CH CT) (F : FD K d_law_turn_right f fd) : FnOk P w K mg base CX0 6 f fd ["_law_house", "_law_line", "_law_kind", "_law_box", "_law_numbers"] (SpG K (Pre_tr CK CH CT) (Post_tr CK CH CT)) := by
  refine fn_slots F sc_tr (fun ⟨_, _, _, _, _, _⟩ Γ h => by obtain ⟨_, _, _, _, _, _, _, _, _, _, _, _, _, rfl⟩ := h; rfl) fun cdv A outer s0 H E hr ⟨s, i, b, p, other, j⟩ Γ h => ?_
  obtain ⟨hs, hj, ht, hf, hp, hl, hb, hn, ho, hput, hz, hmap, hsk, rfl⟩ := h
  have hu := hr.units
  -- the state that is due
  have rest : DS (cxD P w K mg base ["_law_house", "_law_line", "_law_kind", "_law_box", "_law_numbers", "_law_state", "_law_entry"] d_law_turn_right.qual d_law_turn_right.scope f cdv A outer s0 H E)
      [.rg (.ref s.h) (houC CK CH CT s), .dat (.int (p.line : Nat)), .dat (.str b.k.w), .dat (.str p.nm), .dat (.list (intsD p.ns)), .dat (stD other), .un] ((defBody s_law_turn_right).drop 2) ⟨fun Γ' => Post_tr CK CH CT ⟨s, i, b, p, other, j⟩ Γ' (.dat .none), Post_tr CK CH CT ⟨s, i, b, p, other, j⟩, fun _ => False, fun _ => False⟩ := by
    refine ds_turn 6 (ix := fun b0 => ⟨s, i, b, p, b0, other⟩) 0 g1 (hr.mono (by decide)) (fun _ => rfl) (fun b0 => ⟨hs.ok, ht, hf, hp, hl, hb, hn, ho, hput, hz, hmap, rfl⟩) rfl rfl (.inl rfl) (by decide) (by decide) (fun s' e t l hnx => ?_) sc_tr.nd
    have hs' := next_at hs hj hb hput hnx
    obtain ⟨hlen, hh⟩ := next_bx hnx
    have h0 : 0 < s'.bx.length := by
      rw [hlen]
      exact Nat.lt_of_le_of_lt (Nat.zero_le i) (List.getElem?_eq_some_iff.mp hb).1
    have h50 : s'.bx.length < 1000 := by
      have := hs'.ok.good.small.1
      rw [hs'.ok.boxes, List.length_map] at this
      omega
    refine ds_skip (PW.pt (dw_or (dt_is (dt_neEnt 6 (re_var 6) (d_tup (da_cons (d_tup da_nil) (da_cons (d_var 1 rfl) (da_cons (d_tup (da_cons d_str (da_cons (d_var 3 rfl) (da_cons (d_var 5 rfl) da_nil)))) da_nil)))) hu rfl (ent_shaped _ _ _ hsk) (ent_shaped _ _ _ hsk)) (congrArg (! ·) (ent_eqv _ _ _))) (dw_or1 (dt_is (dt_not (dt_val (d_isiC 6 2 T.f_isinstance (re_tupC (i := 2) 6 1 (re_tupC (i := 2) 6 0 (re_var 6) d_int rfl rfl) d_int rfl rfl) T.f_list rfl))) rfl)))) ?_
    refine ds_capp 6 2 (re_tupC (i := 2) 6 1 (re_tupC (i := 2) 6 0 (re_var 6) d_int rfl rfl) d_int rfl rfl) d_int ?_ (by rw [List.length_map, List.length_map]; have := okPut_len hput; omega) rfl rfl
    refine ds_stApp (st_call (CK := CK) (CH := CH) (CT := CT) (s := s') 0 hs'.ok (by rw [hh]; rfl) (m_call0 g2 (hr.mono (by decide)) (re_var (v := .ref s'.h) 0 (by rw [hh]; rfl)))) h0 ?_
    refine ds_stApp2 (st_call (CK := CK) (CH := CH) (CT := CT) (s := s') 0 hs'.ok (by rw [hh]; rfl) (m_call0 g2 (hr.mono (by decide)) (re_var (v := .ref s'.h) 0 (by rw [hh]; rfl)))) h50 ?_
    exact ds_ret d_bl ⟨rfl, s', hnx, rfl⟩
  by_cases hk : b.k.w = "map"
  · obtain ⟨a, c, hac⟩ : ∃ a c, p.ns = [a, c] := by
      have := hmap hk
      match h2 : p.ns, this with
      | [a, c], _ => exact ⟨a, c, rfl⟩
    have ho2 : stD other = .list [.tuple [.int (a : Nat), .int (c : Nat)]] := by
      rw [ho, hk, hac]
      rfl
    rw [ho2] at rest
    rw [hac] at rest ⊢
    refine ds_set 5 (d_listOf T.f_list (d_var 4 rfl)) ?_ sc_tr.nd
    refine ds_ifT (dt_is (dt_cmp (d_var 2 rfl) d_str o_eqS) (by rw [hk]; rfl)) ?_
    refine ds_set 5 (d_lst (da_cons (d_tup (da_cons (d_ixL (d_var 4 rfl) d_int rfl) (da_cons (d_ixL (d_var 4 rfl) d_int rfl) da_nil))) da_nil)) ?_ sc_tr.nd
    exact ds_nil rest
  · have ho2 : stD other = .list (intsD p.ns) := by
      rw [ho]
      unfold putEl
      rw [if_neg hk]
      exact stD_nums _
    rw [ho2] at rest
    refine ds_set 5 (d_listOf T.f_list (d_var 4 rfl)) ?_ sc_tr.nd
    exact ds_skip (dt_is (dt_cmp (d_var 2 rfl) d_str o_eqS) (by simp [hk])) rest
abbrev G_tr (P : Program) (w : World) (K : PySem.W.Frag) (mg : Str → Option Value) (base : Heap) (CK : Kd → Addr) (CH CT : Addr) : Prop := GFn P w K mg base "_law_turn_right" 6 (SpG K (Pre_tr CK CH CT) (Post_tr CK CH CT))
end
end SJ
set_option maxRecDepth 100000
set_option maxHeartbeats 4000000
/-! YE: rules for the law's body. -/
namespace SJ
open PySem PySem.Spec PyProof.Rows L2
section
variable {X : Cx} {Γ : List SD} {P : Po} {rest : List Stmt} {e e1 e2 e3 ie elt iter : Expr} {es : List Expr} {a q : Addr} {xs : List V} {ns : List Int} {d d2 : PyData} {ds es' : List PyData} {pos pos' p np cpos : Pos} {f x : Str} {k : Nat} {ι : Type} {Pre : ι → List SD → Prop} {out : ι → PyData} {ix : ι}
/-- f(e1, e2), the first a list that is read -/
theorem f_callQ (j : Nat) (F : GFn X.prog X.w X.K X.mg X.base f k (SpF X.K Pre out)) (hr : Room k X.A) (h1 : RE X Γ e1 (.ref a)) (hj : Γ[j]? = some (.sq a xs)) (h2 : DE X Γ e2 d2) (pre : Pre ix [.sq a xs, .dat d2]) (ho : out ix = d := by rfl) (hg : Gl X f := by rfl) (hdb : (f == ("__debug__" : Str)) = false := by decide)
    (hs : starEach [e1, e2] X.env = (false, eval e1 X.env) :: starEach [e2] X.env := by rfl) (hs2 : starEach [e2] X.env = (false, eval e2 X.env) :: starEach [] X.env := by rfl) (hpl : (backTo pos (starEach [e2] X.env)).any (·.1) = false := by rfl) : FE X Γ (.Call (.Name f p) [e1, e2] [] pos) d :=
  ho ▸ (g_call F hr (pa_cons h1 (pa_cons h2 pa_nil hs2) hs) hg hdb hs hpl).imp fun σ H Q ⟨G, env, kk⟩ => ⟨G, env, fun G1 H1 g1 => ⟨G1, env.up g1, fun G2 H2 y g2 qy => by
    have env2 := (env.up g1).up g2
    obtain ⟨o, _, _, qa⟩ := env2.at_ j _ hj
    show SpF X.K Pre out ([.ref a, y] ++ []) H2 _ E0
    rw [List.append_nil]
    refine ⟨G2, _, ix, pre, args_env (v := .ref a) (us := [y]) (Γx := [.dat d2]) env2.s ⟨rfl, qa⟩ rfl (fun i c e => ?_) (fun i j c e a z1 _ w1 _ => ?_) (fun i c a _ _ z => z), fun i c a ei z => ?_, fun Gx H' r fr => kk Gx H' r (fr.since (g1.h.trans g2.h))⟩
    · match i with
      | 0 => cases e; exact ⟨y, rfl, y, rfl, qy⟩
      | i + 1 => cases e
    · match i with
      | 0 => cases z1; exact w1.elim
      | i + 1 => cases z1
    · match i with
      | 0 => cases ei; exact z
      | 1 => cases ei; exact z
      | i + 2 => cases ei⟩⟩
theorem cut_ints (ns : List Int) (l h : Option Int) : cutV (ns.map V.int) l h = (cutA ns l h).map V.int := by
  unfold cutV cutA
  rw [List.length_map, List.map_take, List.map_drop]
/-- s[lo:hi], s a list that is read -/
theorem d_slQ (j : Nat) {lo hi : Option Expr} {l h : Option Int} {p2 : Pos} (he : RE X Γ e (.ref a)) (hj : Γ[j]? = some (.sq a (ns.map V.int))) (hl : DO X Γ lo l) (hh : DO X Γ hi h) : DE X Γ (.Subscript e (.Slice lo hi none p2) pos) (.list ((cutA ns l h).map .int)) :=
  (pe_slice sl_list he hl hh).imp fun σ H Q ⟨G, env, k⟩ => ⟨G, env, fun G1 H1 g1 => ⟨G1, env.up g1, fun G2 H2 g2 => ⟨G2, (env.up g1).up g2, fun G3 H3 g3 => by
    obtain ⟨o, _, _, q⟩ := (((env.up g1).up g2).up g3).at_ j _ hj
    refine ⟨a, _, rfl, g3.s.seq q, fun r hr => k _ _ _ (((g1.trans g2).trans g3).trans (Gr.new g3.s hr)) (.lst upd_same ?_)⟩
    rw [cut_ints]
    exact DqAll.ofInts _⟩⟩⟩
/-- f(..), data handed on, fresh data back -/
theorem f_callD {R : List PyData → PyData → Prop} (F : GFn X.prog X.w X.K X.mg X.base f k (SpD X.K R)) (hr : Room k X.A) (ha : DA X Γ (e :: es) ds) (sc : ∀ d ∈ ds, scal1 d) (h : R ds d) (hg : Gl X f := by rfl) (hdb : (f == ("__debug__" : Str)) = false := by decide)
    (he : starEach (e :: es) X.env = (false, eval e X.env) :: starEach es X.env := by rfl) (hpl : (backTo pos (starEach es X.env)).any (·.1) = false := by rfl) : FE X Γ (.Call (.Name f np) (e :: es) [] pos) d :=
  (g_call F hr ha hg hdb he hpl).imp fun σ H Q ⟨G, env, q⟩ => ⟨G, env, fun G1 H1 vs g1 q1 => by
    show SpD X.K R (vs ++ []) H1 _ E0
    rw [List.append_nil]
    exact ⟨noH, ds, d, h, q1.scal sc, fun _ _ z => (nomatch z), fun G' H' v g2 qv => q G' H' v ⟨g2.since g1.h, qv⟩⟩⟩
/-- [elt for x in iter], a list of one's own -/
theorem le_lcE (i : Nat) {xp : Pos} {N ps : List Str} {sc scope : Scope} {es : List PyData} (S : FnScope N ps sc) (hi : PID X (.Name x xp) Γ iter ds) (ok : L2.blkC N sc scope [(x, i)] = true) (hl : es.length = ds.length) (hn : ds.length ≤ 100000)
    (he : ∀ (j : Nat) d e, ds[j]? = some d → es[j]? = some e → EltD X scope elt ((Γ.set i .un).set i (.dat d)) e) (hNN : X.N = N := by rfl) (hsc : X.env.scope = sc := by rfl) (hx : X.N[i]? = some x := by rfl) (hlo : ∀ (s : Shared) (H : Hp) (C : Addr) (cl : List (Str × Addr)) (fp : List Addr), Loc (X.blk s H scope (compEnvC scope cl C X.env) fp).env.scope x := by exact fun _ _ _ _ _ => Or.inl rfl)
    (hfn : ∀ (s : Shared) (H : Hp) (C : Addr) (cl : List (Str × Addr)) (fp : List Addr), (X.blk s H scope (compEnvC scope cl C X.env) fp).fn x = true ∨ (X.blk s H scope (compEnvC scope cl C X.env) fp).env.scope.names.lookup x = some .local := by first | exact fun _ _ _ _ _ => Or.inr rfl | exact fun _ _ _ _ _ => Or.inl rfl)
    (hc : X.calm = true := by rfl) (hs : ∀ y, foldedSetIterable iter X.env y = pure y := by intro _; rfl) : LE X Γ (.ListComp elt [⟨.Name x xp, iter, [], 0⟩] scope pos) es := by
  have hN : X.N.Nodup := hNN ▸ S.nd
  subst hNN hsc
  exact (pe_lc hc hN hi (blkOk_by ok) (fun s H C cl fp => pg_name hN hx (hlo s H C cl fp) (hfn s H C cl fp)) (fun _ _ _ _ _ => pts_nil) (te := tElt X scope elt) (fun s H C cl fp => PE.ex (R := fun p : List SD × PyData => EltD X scope elt p.1 p.2) (t := fun p => tD X.K p.1 p.2) fun p hp => hp s H C cl fp) hs).imp fun σ H Q h =>
    tLc_M (f := fNm i) (vs := [i]) (tg_nm i) hl hn (fun j d e h1 h2 => ⟨_, rfl, fun σ H Q q => ⟨(_, e), he j d e h1 h2, q⟩⟩) h
/-- [elt for x, y in iter] -/
theorem d_lcP (i1 i2 : Nat) {n1 n2 : Str} {q1 q2 tp : Pos} {kk : Nat} {N ps : List Str} {sc scope : Scope} {es : List PyData} (S : FnScope N ps sc) (hi : PID X (.Tuple [.Name n1 q1, .Name n2 q2] kk tp) Γ iter ds) (ok : L2.blkC N sc scope [(n1, i1), (n2, i2)] = true) (hl : es.length = ds.length) (hn : ds.length ≤ 100000)
    (he : ∀ (m : Nat) d e, ds[m]? = some d → es[m]? = some e → ∃ a b, d = .tuple [a, b] ∧ EltD X scope elt (((wipeS Γ [i1, i2]).set i1 (.dat a)).set i2 (.dat b)) e)
    (hNN : X.N = N := by rfl) (hsc : X.env.scope = sc := by rfl) (hx : X.N[i1]? = some n1 := by rfl) (hy : X.N[i2]? = some n2 := by rfl)
    (hpg : ∀ (s : Shared) (H : Hp) (C : Addr) (cl : List (Str × Addr)) (fp : List Addr), PG (X.blk s H scope (compEnvC scope cl C X.env) fp) (.Tuple [.Name n1 q1, .Name n2 q2] kk tp) (gTup X.K 2 (gCons (gName i1) (gCons (gName i2) gNil))))
    (hc : X.calm = true := by rfl) (hs : ∀ y, foldedSetIterable iter X.env y = pure y := by intro _; rfl) : DE X Γ (.ListComp elt [⟨.Tuple [.Name n1 q1, .Name n2 q2] kk tp, iter, [], 0⟩] scope pos) (.list es) := by
  have hN : X.N.Nodup := hNN ▸ S.nd
  subst hNN hsc
  exact d_lc (own := [(n1, i1), (n2, i2)]) (f := fPr i1 i2) hi (blkOk_by ok) hpg (tg_pr i1 i2) hl hn (fun m d e h1 h2 => by
    obtain ⟨a, b, rfl, h⟩ := he m d e h1 h2
    exact ⟨_, rfl, h⟩) hN hc hs
theorem raws_eq {K : PySem.W.Frag} {G : Hp} : ∀ {ws rs : List V}, Paired (FvOk K G) ws (rs.map .raw) → ws = rs
  | [], [], _ => rfl
  | [], _ :: _, h => by cases h
  | _ :: _, [], h => by cases h
  | w :: ws, r :: rs, h => by
    cases h with
    | cons a b =>
      rw [raws_eq b]
      exact congrArg (· :: rs) a
theorem EnvD.cellR {K : PySem.W.Frag} {G H : Hp} {σ : L2.St} {j n : Nat} {rs : List V} (env : EnvD K G H Γ σ) (hc : cellAt Γ j n = some (q, .lst (rs.map .raw))) : H q = some (.lst rs) := by
  obtain ⟨u, h1, ws, rfl, z⟩ := env.cell hc
  rw [raws_eq z] at h1
  exact h1
/-- [elt for x in l], l a cell of very values; a list of one's own -/
theorem le_lcW (i j : Nat) {xp : Pos} {N ps : List Str} {sc scope : Scope} {rs : List V} {es : List PyData} (S : FnScope N ps sc) (he : RE X Γ iter (.ref q)) (hc0 : cellAt Γ j 0 = some (q, .lst (rs.map .raw))) (ok : L2.blkC N sc scope [(x, i)] = true) (hl : es.length = rs.length) (hn : rs.length ≤ 100000)
    (helt : ∀ (m : Nat) r e, rs[m]? = some r → es[m]? = some e → EltD X scope elt ((Γ.set i .un).set i (.raw r)) e) (hNN : X.N = N := by rfl) (hsc : X.env.scope = sc := by rfl) (hx : X.N[i]? = some x := by rfl) (hlo : ∀ (s : Shared) (H : Hp) (C : Addr) (cl : List (Str × Addr)) (fp : List Addr), Loc (X.blk s H scope (compEnvC scope cl C X.env) fp).env.scope x := by exact fun _ _ _ _ _ => Or.inl rfl)
    (hfn : ∀ (s : Shared) (H : Hp) (C : Addr) (cl : List (Str × Addr)) (fp : List Addr), (X.blk s H scope (compEnvC scope cl C X.env) fp).fn x = true ∨ (X.blk s H scope (compEnvC scope cl C X.env) fp).env.scope.names.lookup x = some .local := by first | exact fun _ _ _ _ _ => Or.inr rfl | exact fun _ _ _ _ _ => Or.inl rfl)
    (hc : X.calm = true := by rfl) (hs : ∀ y, foldedSetIterable iter X.env y = pure y := by intro _; rfl) : LE X Γ (.ListComp elt [⟨.Name x xp, iter, [], 0⟩] scope pos) es := by
  have hN : X.N.Nodup := hNN ▸ S.nd
  subst hNN hsc
  refine (pe_lc hc hN (pi_list he) (blkOk_by ok) (fun s H C cl fp => pg_name hN hx (hlo s H C cl fp) (hfn s H C cl fp)) (fun _ _ _ _ _ => pts_nil) (te := tElt X scope elt) (fun s H C cl fp => PE.ex (R := fun p : List SD × PyData => EltD X scope elt p.1 p.2) (t := fun p => tD X.K p.1 p.2) fun p hp => hp s H C cl fp) hs).imp fun σ H Q ⟨G, env, k⟩ => ?_
  refine ⟨G, env, fun G1 H1 g1 => ⟨q, rfl, ⟨rs, SqL.of ((env.up g1).cellR hc0)⟩, fun D hD => ?_⟩⟩
  have env1 := env.up g1
  refine ⟨fun i m H2 => m = rs.length - i ∧ i ≤ rs.length ∧ ∃ G2 acc, Gr G1 H1 G2 H2 ∧ G2 D = none ∧ H2 D = some (.lst acc) ∧ DqAll X.K G2 acc (es.take i), ⟨rs.length, rfl, Nat.zero_le _, G1, [], Gr.tmp g1.s hD, g1.s.free hD, upd_same, .nil⟩, ?_⟩
  rintro m n H2 ⟨rfl, hi, G2, acc, g2, hG, hH, ha⟩
  have hq2 := (env1.up g2).cellR hc0
  by_cases hlt : m < rs.length
  · have hd : rs[m]? = some rs[m] := List.getElem?_eq_getElem hlt
    have hie : m < es.length := by omega
    have hse : es[m]? = some es[m] := List.getElem?_eq_getElem hie
    refine .inr ⟨⟨rs, _, SqL.of hq2, hd⟩, fun H' => ∃ G2 acc, Gr G1 H1 G2 H' ∧ G2 D = none ∧ H' D = some (.lst acc) ∧ DqAll X.K G2 acc (es.take (m + 1)), fun H' q => ⟨rs.length - (m + 1), by omega, rfl, hlt, q⟩, fun x H3 y => ?_⟩
    obtain ⟨rfl, y⟩ := y
    have yx := y rs (SqL.of hq2)
    rw [hd] at yx
    cases yx
    have env3 := ((env1.up g2).wipe [i]).set (c := .raw rs[m]) i (v := rs[m]) rfl fun _ (z : False) => z.elim
    refine ⟨(by show ((σ.set i none).set i _).set i none = σ.set i none; rw [List.set_set, List.set_set]), (_, es[m]), helt m _ _ hd hse, G2, env3, fun G4 H4 y g4 qy => ?_⟩
    have h4D : H4 D = some (.lst acc) := g4.h _ _ hH
    have g4D : G4 D = none := g4.fr _ _ hH hG
    have gg := g2.trans g4
    have la : acc.length = m := by rw [ha.len, List.length_take]; omega
    refine ⟨acc, h4D, by rw [la]; exact Nat.lt_of_lt_of_le hlt (Nat.le_trans hn (by decide)), G4, acc ++ [y], ⟨gg.g, same_upd gg.h hD, same_upd gg.s g4D, gg.fr⟩, g4D, upd_same, ?_⟩
    have e2 : es.take (m + 1) = es.take m ++ [es[m]] := by rw [List.take_succ, hse]; rfl
    rw [e2]
    exact (ha.up g4.g).app (.one qy)
  · have e : m = rs.length := by omega
    subst e
    rw [List.take_of_length_le (by omega)] at ha
    exact .inl ⟨⟨rs, SqL.of hq2, Nat.le_refl _⟩, k _ _ _ _ (g1.trans g2) (Same.free g1.h hD) hG hH ha⟩
/-- for x in l: body, l a cell of very values -/
theorem ds_forW (i j : Nat) {body : List Stmt} {xp : Pos} {rs : List V} (Inv : Nat → List SD → Prop) (he : RE X Γ iter (.ref q)) (hcell : ∀ (m : Nat) Γ1, Inv m Γ1 → cellAt Γ1 j 0 = some (q, .lst (rs.map .raw)))
    (h0 : Inv 0 Γ) (hs : ∀ (m : Nat) r Γ1, rs[m]? = some r → Inv m Γ1 → DS X (Γ1.set i (.raw r)) body ⟨Inv (m + 1), P.rt, fun Γ' => DS X Γ' rest P, Inv (m + 1)⟩) (hd : ∀ Γ', Inv rs.length Γ' → DS X Γ' rest P) (hN : X.N.Nodup)
    (hx : X.N[i]? = some x := by rfl) (hl : Loc X.env.scope x := by first | exact .inl rfl | exact .inr rfl) (hfn : X.fn x = true ∨ X.env.scope.names.lookup x = some .local := by first | exact .inl rfl | exact .inr rfl)
    (hp : PassesOwn (model X.prog X.w) X.A X.env X.xe := by exact PassesOwn.never) (hc : X.calm = true := by rfl) (hfs : ∀ x, foldedSetIterable iter X.env x = pure x := by intro _; rfl) : DS X Γ (.For (.Name x xp) iter body [] pos :: rest) P := by
  refine (pss_cons (ps_for hp hc (pi_list he) (pg_name hN hx hl hfn) (pss_blk (sts := body)) hfs) (pss_blk (sts := rest))).imp fun D σ H ⟨G0, H0, G, s, k⟩ => ?_
  refine ⟨G, s.env, fun G1 H1 g1 => ⟨q, rfl, ⟨rs, SqL.of ((s.env.up g1).cellR (hcell 0 Γ h0))⟩, fun m n σ H => n = rs.length - m ∧ m ≤ rs.length ∧ ∃ G2 Γ2, Inv m Γ2 ∧ St0 X.K G0 H0 G2 H Γ2 σ ∧ Same G1 G2, ⟨_, rfl, Nat.zero_le _, G1, Γ, h0, s.up g1, Same.refl _⟩, ?_⟩⟩
  have rest_ : ∀ {Γ' : List SD} {G2 H2 : Hp} {σ2 : L2.St}, DS X Γ' rest P → Same G1 G2 → St0 X.K G0 H0 G2 H2 Γ' σ2 → tBlk X rest D σ2 H2 := fun {Γ' G2 H2 σ2} h sg s2 =>
    ⟨(Γ', P), h, G0, H0, G2, s2, k.up (g1.g.trans sg)⟩
  rintro m n σ2 H2 ⟨rfl, hile, G2, Γ2, iv, s2, sg⟩
  have hq2 := s2.env.cellR (hcell m Γ2 iv)
  by_cases hlt : m < rs.length
  · have hdi : rs[m]? = some rs[m] := List.getElem?_eq_getElem hlt
    refine .inr ⟨⟨rs, _, SqL.of hq2, hdi⟩, fun σ' H' => ∃ G3 Γ3, Inv (m + 1) Γ3 ∧ St0 X.K G0 H0 G3 H' Γ3 σ' ∧ Same G1 G3, fun σ' H' q => ⟨rs.length - (m + 1), by omega, rfl, hlt, q⟩, fun x H3 y => ?_⟩
    obtain ⟨rfl, y⟩ := y
    have yx := y rs (SqL.of hq2)
    rw [hdi] at yx
    cases yx
    refine ⟨(_, ⟨Inv (m + 1), P.rt, fun Γ' => DS X Γ' rest P, Inv (m + 1)⟩), hs m _ Γ2 hdi iv, G0, H0, G2, s2.put i (c := .raw rs[m]) rfl (fun _ (z : False) => z.elim), ⟨?_, (k.up (g1.g.trans sg)).rt, ?_, ?_⟩⟩
    · exact fun G' H' Γ' σ' n e s' => ⟨G', Γ', n, s', sg.trans e⟩
    · exact fun G' H' Γ' σ' n e s' => rest_ n (sg.trans e) s'
    · exact fun G' H' Γ' σ' n e s' => ⟨G', Γ', n, s', sg.trans e⟩
  · have e : m = rs.length := by omega
    subst e
    exact .inl ⟨⟨rs, SqL.of hq2, Nat.le_refl _⟩, rest_ (hd Γ2 iv) sg s2⟩
/-- e is None, e a thing -/
theorem dt_rawIs {n : Expr} (h : RE X Γ e (.ref q)) (hn : DE X Γ n .none) (hm : behindInMarks .Is n = false := by first | rfl | exact nomark _) : DT X Γ (.Compare e [.Is] [n] pos) false :=
  (pt_cmpR op_isN h hn hm).imp fun σ H Q ⟨G, env, k⟩ => ⟨G, env, fun G1 H1 g1 => ⟨G1, env.up g1, fun G2 H2 y g2 q2 => ⟨q2.noneE, false, rfl, k G2 H2 (g1.trans g2)⟩⟩⟩
theorem dq_set {K : PySem.W.Frag} {G : Hp} {v : V} (hv : Dq K G v d) : ∀ {vs : List V} {ds : List PyData} (n : Nat), DqAll K G vs ds → DqAll K G (vs.set n v) (ds.set n d)
  | _, _, _, .nil => .nil
  | _, _, 0, .cons _ hr => .cons hv hr
  | _, _, n + 1, .cons h1 hr => .cons h1 (dq_set hv n hr)
/-- l[i] = e, l a list of one's own -/
theorem ds_mlset (i : Nat) {oe : Expr} {l : Addr} {n : Nat} {ip : Pos} (he : DE X Γ e d) (ho : RE X Γ oe (.ref l)) (hi : DE X Γ ie (.int (n : Nat))) (hΓ : Γ[i]? = some (.ml l ds)) (hn : n < ds.length) (hr : DS X (Γ.set i (.ml l (ds.set n d))) rest P)
    (hs : swapsWithSole [.Subscript oe ie ip] e pos.line X.env = pure false := by rfl) (hw : swappedStores [.Subscript oe ie ip] e X.env = pure none := by rfl) (h1 : (assignEach [.Subscript oe ie ip] X.env).map (·.2) = [assign (.Subscript oe ie ip) X.env] := by rfl)
    (ha : ∀ v, assign (.Subscript oe ie ip) X.env v = (do
      let ov ← holding [v] (eval oe X.env)
      let iv ← holding [v, ov] (eval ie X.env)
      standAt ip
      holding [v, ov, iv] (setItem ov iv v)
      release [v, ov, iv] []) := by intro _; rfl) : DS X Γ (.Assign [.Subscript oe ie ip] e pos :: rest) P :=
  ds_seq (N := (· = Γ.set i (.ml l (ds.set n d)))) ((ps_asg he (pg_sub ho hi set_list ha) hs hw h1).imp fun D σ H ⟨G0, H0, G, s, k⟩ => ⟨G, s.env, fun G1 H1 v g1 qv => ⟨G1, s.env.up g1, fun G2 H2 g2 => ⟨G2, (s.env.up g1).up g2, fun G3 H3 y g3 qy => by
    have s3 := ((s.up g1).up g2).up g3
    obtain ⟨o, e1, e2, hG, vs, hH, hx⟩ := s3.env.at_ i _ hΓ
    subst e2
    refine ⟨l, vs, (n : Nat), n, rfl, qy.intE, hH, ?_, k.nx G3 _ _ σ rfl ((g1.g.trans g2.g).trans g3.g) (s3.mut hΓ rfl (fun _ z => z) hG e1 ⟨rfl, hG, _, upd_same, ?_⟩)⟩
    · unfold ixN
      have := hx.len
      rw [if_pos (by omega), if_pos (by omega)]
      rfl
    · exact dq_set (qv.up (g2.g.trans g3.g)) n hx⟩⟩⟩) fun _ e => e ▸ hr
end
end SJ
set_option maxRecDepth 100000
set_option maxHeartbeats 4000000
/-! YF: more rules for the law's body: the house. -/
namespace SJ
open PySem PySem.Spec PyProof.Rows L2
section
variable {X : Cx} {Γ : List SD} {P : Po} {rest body : List Stmt} {e e1 e2 e3 ie call : Expr} {es : List Expr} {a q C : Addr} {d d2 dp dst d3 : PyData} {ds as bs : List PyData} {pos pos' p np cpos : Pos} {f x : Str} {k : Nat} {ι : Type} {CK : Kd → Addr} {CH CT : Addr}
/-- house.states(), to be read -/
def tStD (K : PySem.W.Frag) (Γ : List SD) (ds : List PyData) : TE := fun σ H Q => ∃ G, EnvD K G H Γ σ ∧ ∀ (H' : Hp) (v : V), Gr G H G H' → Dq K H' v (.list ds) → Q v H'
theorem ll_dq {K : PySem.W.Frag} {H : Hp} : ∀ {ls : List Addr} {ess : List (List PyData)}, (∀ (i : Nat) l es, ls[i]? = some l → ess[i]? = some es → ∃ vs, H l = some (.lst vs) ∧ DqAll K H vs es) → ls.length = ess.length → DqAll K H (ls.map V.ref) (ess.map .list)
  | [], [], _, _ => .nil
  | l :: ls, es :: ess, h, hl => by
    obtain ⟨vs, h1, h2⟩ := h 0 l es rfl rfl
    exact .cons (.lst h1 h2) (ll_dq (fun i l es e1 e2 => h (i + 1) l es e1 e2) (Nat.succ.inj hl))
theorem st_callD {s : HouS} (j : Nat) (hs : HouOk s) (hj : Γ[j]? = some (.rg (.ref s.h) (houC CK CH CT s))) (hp : PE X call (tMeth CH "states" (SpG X.K (Pre_states CK CH CT) Post_states) [] E0 (tR X.K Γ (.ref s.h)) tNil)) : PE X call (tStD X.K Γ (s.bx.map fun b => stD b.st)) :=
  hp.imp fun σ H Q ⟨G, env, k⟩ => ⟨G, env, fun G1 H1 g1 => by
    have env1 := env.up g1
    have hc : cellAt Γ j 0 = some (s.h, .ins CH (houF s)) := by unfold cellAt; rw [hj]; rfl
    obtain ⟨dx, ws0, z1, z2⟩ := recv env1 hc (m := "states") rfl
    obtain ⟨Gt, t1, t2, t3⟩ := env1.lend hj
    refine ⟨s.h, dx, ws0, rfl, z1, z2, ?_⟩
    show SpG X.K (Pre_states CK CH CT) Post_states (V.ref s.h :: ([] ++ [])) H1 _ E0
    have no : ∀ a, ¬ ownG [houR CK CH CT s] a := fun a z => ownG_none (c0 := houR CK CH CT s) (ds := []) (fun _ z => z) a z
    refine spG_of (ix := s) (Γa := [houR CK CH CT s]) ⟨hs, rfl⟩ (args_env (us := []) (Γx := []) t2 ⟨rfl, t3⟩ rfl (fun i c e => by cases e) (fun i j c e a z => by cases z) fun i c a e => by cases e) fun G' H' Γ' σ' c r hq s' hr fr => ?_
    obtain ⟨q, ls, hl, rfl⟩ := hq
    obtain ⟨e1, rg⟩ := hr
    cases e1
    have hh : Same H1 H' := fun a o z => s'.gr.h a o (by rw [hole_out (no a)]; exact z)
    have hH := g1.h.trans hh
    obtain ⟨_, u, y1, ws, rfl, y2⟩ := rg.at_ _ List.mem_cons_self
    have hws : ws = ls.map V.ref := by
      refine raws_eq (K := X.K) (G := G') ?_
      rw [List.map_map]
      exact y2
    subst hws
    have hlen : ls.length = (bxL' s.bx).length := by unfold bxL'; rw [List.length_map]; exact hl
    refine k H' _ ⟨Same.refl _, hH, env.s.trans hH, fun _ _ _ z => z⟩ (.lst y1 ?_)
    have e : (s.bx.map fun b => stD b.st) = (bxL' s.bx).map .list := by unfold bxL'; rw [List.map_map]; rfl
    rw [e]
    refine ll_dq (fun i l es hi he => ?_) hlen
    have hce : (llC ls (bxL' s.bx))[i]? = some (l, .lst (es.map .dat)) := by
      unfold llC
      rw [List.getElem?_zipWith, hi, he]
    have mc : (l, Cell.lst (es.map .dat)) ∈ stsC q ls s.bx := List.mem_cons_of_mem _ (List.mem_of_getElem? hce)
    obtain ⟨_, u2, y3, ws2, rfl, y4⟩ := rg.at_ _ mc
    exact ⟨ws2, y3, (paired_dats y4).up s'.env.s⟩⟩
/-- f(house.states(), due) -/
theorem d_alike (i : Nat) {l : Addr} {sts : List (List El)} (F : GFn X.prog X.w X.K X.mg X.base f k (SpF X.K Pre_alike (fun _ => .bool true))) (hr : Room k X.A) (h1 : PE X e1 (tStD X.K Γ (sts.map stD))) (h2 : RE X Γ e2 (.ref l)) (hi : Γ[i]? = some (.ml l (sts.map stD))) (h50 : sts.length ≤ 50) (hg : Gl X f := by rfl) (hdb : (f == ("__debug__" : Str)) = false := by decide)
    (hs : starEach [e1, e2] X.env = (false, eval e1 X.env) :: starEach [e2] X.env := by rfl) (hs2 : starEach [e2] X.env = (false, eval e2 X.env) :: starEach [] X.env := by rfl) (hpl : (backTo pos (starEach [e2] X.env)).any (·.1) = false := by rfl) : DE X Γ (.Call (.Name f p) [e1, e2] [] pos) (.bool true) :=
  (g_call F hr (pa_cons h1 (pa_cons h2 pa_nil hs2) hs) hg hdb hs hpl).imp fun σ H Q ⟨G, env, kk⟩ => ⟨G, env, fun H1 v g1 qv => ⟨G, env.up g1, fun G2 H2 g2 => by
    have env2 := (env.up g1).up g2
    obtain ⟨o, _, _, _, vs, hl, hx⟩ := env2.at_ i _ hi
    show SpF X.K Pre_alike (fun _ => .bool true) ([v, .ref l] ++ []) H2 _ E0
    rw [List.append_nil]
    refine ⟨H2, [.dat (.list (sts.map stD)), .dat (.list (sts.map stD))], sts, ⟨h50, rfl⟩, args_env (v := v) (us := [.ref l]) (Γx := [.dat (.list (sts.map stD))]) (Same.refl _) ⟨v, rfl, qv.up g2.h⟩ rfl (fun i c e => ?_) (fun i j c e a z1 _ w1 _ => ?_) (fun i c a _ _ z => z), fun i c a ei z => ?_, fun Gx H' r fr => ?_⟩
    · match i with
      | 0 => cases e; exact ⟨.ref l, rfl, .ref l, rfl, .lst hl (hx.up env2.s)⟩
      | i + 1 => cases e
    · match i with
      | 0 => cases z1; exact w1.elim
      | i + 1 => cases z1
    · match i with
      | 0 => cases ei; exact z
      | 1 => cases ei; exact z
      | i + 2 => cases ei
    · rw [fr.dq.boolE]
      exact kk G2 H' _ ((g1.trans g2).trans (Gr.aside env2.s fr.gr)) (.bl true)⟩⟩
/-- house.clashed() is not None -/
theorem dt_clashed {s : HouS} {n : Expr} {b : Bool} (j : Nat) (hj : Γ[j]? = some (.rg (.ref s.h) (houC CK CH CT s))) (ht : (s.torn = .dat .none ∧ b = false) ∨ ((∃ q, s.torn = .raw (.ref q)) ∧ b = true)) (hp : PE X call (tMeth CH "clashed" (SpG X.K (Pre_clashed CK CH CT) Post_clashed) [] E0 (tR X.K Γ (.ref s.h)) tNil)) (hn : DE X Γ n .none) (hm : behindInMarks .IsNot n = false := by first | rfl | exact nomark _) : DT X Γ (.Compare call [.IsNot] [n] pos) b :=
  (pt_cmpR op_notN hp hn hm).imp fun σ H Q ⟨G, env, k⟩ => ⟨G, env, fun G1 H1 g1 => by
    have env1 := env.up g1
    have hc : cellAt Γ j 0 = some (s.h, .ins CH (houF s)) := by unfold cellAt; rw [hj]; rfl
    obtain ⟨dx, ws0, z1, z2⟩ := recv env1 hc (m := "clashed") rfl
    obtain ⟨Gt, t1, t2, t3⟩ := env1.lend hj
    refine ⟨s.h, dx, ws0, rfl, z1, z2, ?_⟩
    show SpG X.K (Pre_clashed CK CH CT) Post_clashed (V.ref s.h :: ([] ++ [])) H1 _ E0
    have no : ∀ a, ¬ ownG [houR CK CH CT s] a := fun a z => ownG_none (c0 := houR CK CH CT s) (ds := []) (fun _ z => z) a z
    refine spG_of (ix := s) (Γa := [houR CK CH CT s]) ⟨ht.elim (fun h => .inl h.1) (fun h => .inr h.1), rfl⟩ (args_env (us := []) (Γx := []) t2 ⟨rfl, t3⟩ rfl (fun i c e => by cases e) (fun i j c e a z => by cases z) fun i c a e => by cases e) fun G' H' Γ' σ' c r hq s' hr fr => ?_
    have hh : Same H1 H' := fun a o z => s'.gr.h a o (by rw [hole_out (no a)]; exact z)
    have hH := g1.h.trans hh
    have gg : Gr G H G H' := ⟨Same.refl _, hH, env.s.trans hH, fun _ _ _ z => z⟩
    refine ⟨G, env.up gg, fun G2 H2 y g2 q2 => ⟨q2.noneE, ?_⟩⟩
    have fin : ∀ c : Bool, c = b → ∃ k, V.bl c = V.bl k ∧ Q k H2 := fun c e => ⟨c, rfl, e ▸ k G2 H2 (gg.trans g2)⟩
    rcases ht with ⟨h1, h2⟩ | ⟨⟨q, h1⟩, h2⟩
    · have := hq.1 h1
      subst this
      obtain ⟨_, e1, e2⟩ := hr
      cases e1
      cases e2
      exact fin _ h2.symm
    · have := hq.2 q h1
      subst this
      cases (show some r = some (.ref q) from hr)
      exact fin _ h2.symm⟩
/-- house.ready() -/
theorem d_ready {s : HouS} (j : Nat) (hj : Γ[j]? = some (.rg (.ref s.h) (houC CK CH CT s))) (ht : (∃ q, s.torn = .raw (.ref q)) ∨ (s.torn = .dat .none ∧ isNoneD s.th.fin = false)) (hp : PE X call (tMeth CH "ready" (SpF X.K (Pre_ready CK CH CT) (fun _ => .list [])) [] E0 (tR X.K Γ (.ref s.h)) tNil)) : DE X Γ call (.list []) :=
  fe_de (f_mcall (ix := s) (houR CK CH CT s) j 0 (mc0 hp fun σ H Q Q' w h => tR_mono w h) (fun _ z => z) (fun G H σ env => by
    obtain ⟨Gt, t1, t2, t3⟩ := env.lend hj
    exact ⟨Gt, t1, t2, rfl, t3⟩) ⟨ht, rfl⟩ (by unfold cellAt; rw [hj]; rfl) rfl)
/-- if not f(house, ..): .. -/
theorem ds_ifTR (j : Nat) {ix : IxTr} {s : HouS} {ib : Nat} {b : BxS} {pt : Put} {other : List El} {n : Nat} (F : GFn X.prog X.w X.K X.mg X.base f k (SpG X.K (Pre_tr CK CH CT) (Post_tr CK CH CT))) (hr : Room k X.A) (h0 : RE X Γ e1 (.ref s.h)) (hj : Γ[j]? = some (.rg (.ref s.h) (houC CK CH CT s))) (ha : DA X Γ es ds) (hix : ix = ⟨s, ib, b, pt, other, n⟩) (pre : Pre_tr CK CH CT ix (.rg (.ref s.h) (houC CK CH CT s) :: ds.map .dat))
    (post : ∀ s', HouNext (stepH s) ib b pt.line other s' → DS X (Γ.set j (.rg (.ref s.h) (houC CK CH CT s'))) rest P) (hg : Gl X f := by rfl) (hdb : (f == ("__debug__" : Str)) = false := by decide)
    (hs : starEach (e1 :: es) X.env = (false, eval e1 X.env) :: starEach es X.env := by rfl) (hpl : (backTo cpos (starEach es X.env)).any (·.1) = false := by rfl)
    (he : ∀ whole, isTrue (.Call (.Name f np) (e1 :: es) [] cpos) X.env whole = (do let v ← whole; standAt (Expr.Call (.Name f np) (e1 :: es) [] cpos).pos; holding [v] (truthy v)) := by intro _; rfl) : DS X Γ (.If (.UnaryOp .Not (.Call (.Name f np) (e1 :: es) [] cpos) p) body [] pos :: rest) P :=
  ds_seq (N := fun Γ' => DS X Γ' rest P) ((ps_if (t := tNever) (pt_not (pt_val (g_call F hr (pa_cons h0 ha hs) hg hdb hs hpl) he)) pss_never pss_nil).imp fun D σ H ⟨G0, H0, G, s0, k⟩ => ⟨G, s0.env, fun G1 H1 g1 => ⟨G1, s0.env.up g1, fun G2 H2 us g2 qu => by
    have s1 := (s0.up g1).up g2
    show SpG X.K (Pre_tr CK CH CT) (Post_tr CK CH CT) (V.ref s.h :: (us ++ [])) H2 _ E0
    rw [List.append_nil]
    refine s1.mcall (A := []) (B := houC CK CH CT s) (ix := ix) hj (by rw [qu.len, List.length_map]) (dats_ok qu) dats_dis dats_own pre (fun Γ' c z => ?_) fun G' H' Γ' B' c r q hB sg st hq fr => ?_
    · rw [hix] at z
      obtain ⟨_, s', _, h⟩ := z
      exact ⟨_, h⟩
    · rw [hix] at q
      obtain ⟨rfl, s', hn, h⟩ := q
      rw [h] at hB
      cases hB
      obtain ⟨_, e1, e2⟩ := hq
      cases e1
      cases e2
      refine ⟨true, rfl, ?_⟩
      show if (!true) = true then _ else _
      rw [if_neg (by decide)]
      exact k.nx G' H' _ _ (post s' hn) ((g1.g.trans g2.g).trans sg) st⟩⟩) fun _ h => h
/-- x = C(program, n, states), nothing of the arguments kept -/
theorem ds_house (i jp js : Nat) {Gx : Hp} {n : Int} {cst : SD} {n1 n2 : Str} {q1 q2 : Pos} {Pre : ι → List SD → Prop} {Post : ι → Addr → List (Addr × Cell) → Prop} {ix : ι} (F : KFn X.prog X.w X.K X.mg X.base f C k (SpI X.K C Pre Post)) (hr : Room (k + 1) X.A) (h2 : DE X Γ e2 (.int n)) (hjp : Γ[jp]? = some (.od Gx dp)) (hjs : Γ[js]? = some cst)
    (hst : ∀ G H o, Same G H → SOk X.K G H cst o → ∃ v, o = some v ∧ Dq X.K H v dst) (pre : Pre ix [.dat dp, .dat (.int n), .dat dst]) (post : ∀ q B, Post ix q B → DS X (Γ.set i (.rg (.ref q) B)) rest P)
    (hN : X.N.Nodup) (hi : X.N[i]? = some x := by rfl) (hx : Loc X.env.scope x := by first | exact .inl rfl | exact .inr rfl) (hi1 : X.N[jp]? = some n1 := by rfl) (hv1 : Vis X.env.scope n1 := by first | exact Or.inl rfl | exact Or.inr (Or.inl rfl) | exact Or.inr (Or.inr rfl)) (hi2 : X.N[js]? = some n2 := by rfl) (hv2 : Vis X.env.scope n2 := by first | exact Or.inl rfl | exact Or.inr (Or.inl rfl) | exact Or.inr (Or.inr rfl))
    (hd1 : (n1 == ("__debug__" : Str)) = false := by decide) (hd2 : (n1 == ("__classdict__" : Str)) = false := by decide) (hd3 : (n2 == ("__debug__" : Str)) = false := by decide) (hd4 : (n2 == ("__classdict__" : Str)) = false := by decide)
    (hg : Gl X f := by rfl) (hdb : (f == ("__debug__" : Str)) = false := by decide)
    (hs1 : starEach [.Name n1 q1, e2, .Name n2 q2] X.env = (false, eval (.Name n1 q1) X.env) :: starEach [e2, .Name n2 q2] X.env := by rfl) (hs2 : starEach [e2, .Name n2 q2] X.env = (false, eval e2 X.env) :: starEach [.Name n2 q2] X.env := by rfl) (hs3 : starEach [.Name n2 q2] X.env = (false, eval (.Name n2 q2) X.env) :: starEach [] X.env := by rfl)
    (hpl : (backTo cpos (starEach [e2, .Name n2 q2] X.env)).any (·.1) = false := by rfl)
    (hs : swapsWith (.Call (.Name f np) [.Name n1 q1, e2, .Name n2 q2] [] cpos) (some (.Name x pos')) pos.line X.env = pure false := by rfl) (hf : X.fn x = true ∨ X.env.scope.names.lookup x = some .local := by first | exact .inl rfl | exact .inr rfl) : DS X Γ (.Assign [.Name x pos'] (.Call (.Name f np) [.Name n1 q1, e2, .Name n2 q2] [] cpos) pos :: rest) P :=
  ds_seq (N := fun Γ' => DS X Γ' rest P) ((ps_set (i := i) hN hi hx (g_make F hr (pa_cons (pe_var (i := jp) hi1 hv1 hd1 hd2) (pa_cons h2 (pa_cons (pe_var (i := js) hi2 hv2 hd3 hd4) pa_nil hs3) hs2) hs1) hg hdb hs1 hpl) hs hf).imp fun D σ H ⟨G0, H0, G, s, k⟩ => by
    obtain ⟨o, e1, ⟨vp, rfl, qp⟩, sx, nx⟩ := s.env.at_ jp _ hjp
    refine ⟨vp, e1, G, s.env, fun G1 H1 y g1 qy => ?_⟩
    have s1 := s.up g1
    obtain ⟨o2, e2, q2⟩ := s1.env.at_ js _ hjs
    obtain ⟨vs, rfl, qs⟩ := hst G1 H1 o2 s1.env.s q2
    refine ⟨vs, e2, fun a dx ha hdx hne => ?_⟩
    have hs12 : Same H1 (upd (upd H1 dx (.own a)) a (.ins C dx [])) := fun b u z => by
      rw [upd_ne (ne_of_none z ha), upd_ne (ne_of_none z hdx)]
      exact z
    have hs13 : Same H1 (hole (upd (upd H1 dx (.own a)) a (.ins C dx [])) (· = a)) := fun b u z => by
      rw [hole_out (O := fun x => x = a) (a := b) (fun w : b = a => by rw [w, ha] at z; cases z)]
      exact hs12 b u z
    show SpI X.K C Pre Post (V.ref a :: ([vp, y, vs] ++ [])) _ _ E0
    refine ⟨H1, a, [vp, y, vs], _, ix, rfl, pre, args_env (v := .ref a) (us := [vp, y, vs]) (Γx := [.dat dp, .dat (.int n), .dat dst]) hs12 ⟨rfl, by simp, fun p m => ?_⟩ rfl (fun i c e => ?_) (fun i j c e b z1 _ w1 _ => ?_) (fun i c b ei z => ?_), fun i c b ei z => ?_, fun Gf H' B hB rB gr fr => ⟨rfl, ?_⟩⟩
    · obtain rfl := List.mem_singleton.mp m
      exact ⟨ha, _, upd_same, dx, [], rfl, .nil⟩
    · match i with
      | 0 => cases e; exact ⟨vp, rfl, vp, rfl, qp.up (sx.trans g1.h)⟩
      | 1 => cases e; exact ⟨y, rfl, y, rfl, qy.up g1.s⟩
      | 2 => cases e; exact ⟨vs, rfl, vs, rfl, qs⟩
      | i + 3 => cases e
    · match i with
      | 0 => cases z1; exact w1.elim
      | 1 => cases z1; exact w1.elim
      | 2 => cases z1; exact w1.elim
      | i + 3 => cases z1
    · match i with
      | 0 => cases ei; exact z.elim
      | 1 => cases ei; exact z.elim
      | 2 => cases ei; exact z.elim
      | i + 3 => cases ei
    · match i with
      | 0 => cases ei; exact z
      | 1 => cases ei; exact z
      | 2 => cases ei; exact z
      | i + 3 => cases ei
    · obtain ⟨u1, u2⟩ := (gr.since hs13).union s1.env.s
      have free_ : ∀ b, b ∈ B.map (·.1) → H1 b = none := fun b m => by
        cases z : H1 b with
        | none => rfl
        | some u =>
          have := fr b m
          rw [hs13 b u z] at this
          cases this
      refine k.nx (uH Gf G1) H' _ _ (post a B hB) (g1.g.trans u1.g) ((s1.up u1).put i ⟨rfl, rB.nd, fun p m => ?_⟩ fun b z => ?_)
      · obtain ⟨z1, u, z2, z3⟩ := rB.at_ p m
        refine ⟨?_, u, z2, z3.up u2⟩
        rw [uH_r z1]
        exact s1.env.s.free (free_ _ (List.mem_map.mpr ⟨p, m, rfl⟩))
      · exact ⟨s1.gr.h.free (free_ b z), fun j e _ ej => s1.none_ad (free_ b z) j e ej⟩) fun _ h => h
theorem sqT_other {K : PySem.W.Frag} {H : Hp} {p l : Addr} {xs : List V} {ys : List V} {o : HO} (h : SqT K H p xs) (hl : H l = some (.lst ys)) : SqT K (upd H l o) p xs := by
  rcases h with (h | ⟨z, h⟩) | h
  · refine .inl (.inl ?_)
    rw [upd_ne (fun w : p = l => by rw [w, hl] at h; cases h)]
    exact h
  · refine .inl (.inr ⟨z, ?_⟩)
    rw [upd_ne (fun w : p = l => by rw [w, hl] at h; cases h)]
    exact h
  · exact .inr h
/-- x[0].clear(); x[1].clear() -/
theorem ds_clear2 (i : Nat) {Gx : Hp} {np1 np2 p1 p2 c1 c2 a1 a2 o1 o2 s1 s2 : Pos} {k1 k2 : Nat} (hj : Γ[i]? = some (.od Gx (.tuple [.list as, .list bs, d3]))) (hr : DS X (Γ.set i .un) rest P) (hN : X.N[i]? = some x := by rfl) (hv : Vis X.env.scope x := by first | exact Or.inl rfl | exact Or.inr (Or.inl rfl) | exact Or.inr (Or.inr rfl))
    (hd1 : (x == ("__debug__" : Str)) = false := by decide) (hd2 : (x == ("__classdict__" : Str)) = false := by decide)
    (hb1 : attributeBase (.Subscript (.Name x np1) (.Constant (.int 0) k1 p1) c1) "clear" X.env (eval (.Subscript (.Name x np1) (.Constant (.int 0) k1 p1) c1) X.env) = eval (.Subscript (.Name x np1) (.Constant (.int 0) k1 p1) c1) X.env := by rfl) (hl1 : (a1.endLine == o1.line) = true := by rfl)
    (hb2 : attributeBase (.Subscript (.Name x np2) (.Constant (.int 1) k2 p2) c2) "clear" X.env (eval (.Subscript (.Name x np2) (.Constant (.int 1) k2 p2) c2) X.env) = eval (.Subscript (.Name x np2) (.Constant (.int 1) k2 p2) c2) X.env := by rfl) (hl2 : (a2.endLine == o2.line) = true := by rfl)
    (hsw1 : swapsWith (.Call (.Attribute (.Subscript (.Name x np1) (.Constant (.int 0) k1 p1) c1) "clear" a1) [] [] o1) none s1.line X.env = pure false := by rfl) (hsw2 : swapsWith (.Call (.Attribute (.Subscript (.Name x np2) (.Constant (.int 1) k2 p2) c2) "clear" a2) [] [] o2) none s2.line X.env = pure false := by rfl) :
    DS X Γ (.Expr (.Call (.Attribute (.Subscript (.Name x np1) (.Constant (.int 0) k1 p1) c1) "clear" a1) [] [] o1) s1 :: .Expr (.Call (.Attribute (.Subscript (.Name x np2) (.Constant (.int 1) k2 p2) c2) "clear" a2) [] [] o2) s2 :: rest) P :=
  (pss_cons (ps_expr (pe_bm0 PySem.F.plainAttrs_list PySem.F.slot_list_clear PySem.F.type_list_clear mt_clear (pe_ix ix_tup (pe_var (i := i) hN hv hd1 hd2) pe_int (fun _ _ => rfl)) hb1 hl1) hsw1)
    (pss_cons (ps_expr (pe_bm0 PySem.F.plainAttrs_list PySem.F.slot_list_clear PySem.F.type_list_clear mt_clear (pe_ix ix_tup (pe_var (i := i) hN hv hd1 hd2) pe_int (fun _ _ => rfl)) hb2 hl2) hsw2) hr)).imp fun D σ H ⟨G0, H0, G, s, k⟩ => by
    obtain ⟨o, e1, ⟨v, rfl, qp⟩, sx, nx⟩ := s.env.at_ i _ hj
    obtain ⟨p, xs, rfl, hs, hx⟩ := qp.tupE
    cases hx with
    | cons q1 hx => cases hx with
      | cons q2 hx =>
        obtain ⟨l1, ys1, rfl, g1, _⟩ := q1.listT
        obtain ⟨l2, ys2, rfl, g2, _⟩ := q2.listT
        have hsH := sqT_mono sx hs
        have h1 := sx _ _ g1
        have h2 := sx _ _ g2
        refine ⟨.ref p, e1, p, _, 0, .ref l1, rfl, rfl, hsH, at0, .inl ⟨rfl, _, SqL.of h1⟩, l1, ys1, rfl, rfl, h1, ?_⟩
        have hz : ∃ zs, upd H l1 (.lst []) l2 = some (.lst zs) := by
          by_cases e : l2 = l1
          · rw [e]; exact ⟨_, upd_same⟩
          · rw [upd_ne e]; exact ⟨_, h2⟩
        obtain ⟨zs, hz⟩ := hz
        refine ⟨.ref p, e1, p, _, 1, .ref l2, rfl, rfl, sqT_other hsH h1, at1, .inl ⟨rfl, _, SqL.of hz⟩, l2, zs, rfl, rfl, hz, G0, H0, G, ?_, k⟩
        refine s.step hj (Same.refl _) ?_ (fun b u z n => ?_) (fun _ _ _ _ z => z) (fun b z => z.elim) fun o z _ => trivial
        · exact same_upd (same_upd s.env.s (nx _ _ g1)) (nx _ _ g2)
        · rw [upd_ne (fun w : b = l2 => n (w ▸ ⟨_, g2⟩)), upd_ne (fun w : b = l1 => n (w ▸ ⟨_, g1⟩))]
          exact z
end
end SJ
set_option maxRecDepth 100000
set_option maxHeartbeats 4000000
/-! Y4: the law's boxes, puts and lines, in plain Lean. -/
namespace SJ
open PySem PySem.Spec PyProof.Rows L2
open TL (tl tl_append tl_join joinL ext_tl len_tl split_join join_eq)
/-! ### words -/
/-- letters or figures -/
def okW (x : Str) : Prop := ∀ c ∈ tl x, 48 ≤ c ∧ c ≤ 122
theorem okW_nT (n : Nat) : okW (nT n) := fun c h => by
  have := nT_digit h
  omega
theorem okW_kd : ∀ k : Kd, okW k.w
  | .most => by unfold okW; decide +kernel
  | .set => by unfold okW; decide +kernel
  | .once => by unfold okW; decide +kernel
  | .row => by unfold okW; decide +kernel
  | .map => by unfold okW; decide +kernel
theorem mem_joinL {S : List Nat} {c : Nat} : ∀ {ps : List (List Nat)}, c ∈ joinL S ps → c ∈ S ∨ ∃ p ∈ ps, c ∈ p
  | [], h => by cases h
  | [p], h => .inr ⟨p, List.mem_cons_self, h⟩
  | p :: q :: r, h => by
    have h : c ∈ p ++ (S ++ joinL S (q :: r)) := h
    rcases List.mem_append.mp h with h | h
    · exact .inr ⟨p, List.mem_cons_self, h⟩
    · rcases List.mem_append.mp h with h | h
      · exact .inl h
      · rcases mem_joinL h with h | ⟨z, m, h⟩
        · exact .inl h
        · exact .inr ⟨z, List.mem_cons_of_mem _ m, h⟩
theorem len_joinL (S : List Nat) (b : Nat) : ∀ ps : List (List Nat), (∀ p ∈ ps, p.length ≤ b) → (joinL S ps).length ≤ ps.length * (b + S.length)
  | [], _ => Nat.zero_le _
  | [p], h => by
    have := h p List.mem_cons_self
    show p.length ≤ 1 * (b + S.length)
    omega
  | p :: q :: r, h => by
    show (p ++ (S ++ joinL S (q :: r))).length ≤ ((q :: r).length + 1) * (b + S.length)
    have h1 := h p List.mem_cons_self
    have h2 := len_joinL S b (q :: r) fun z m => h z (List.mem_cons_of_mem _ m)
    rw [List.length_append, List.length_append, Nat.add_mul]
    omega
theorem mem_join {y : Str} {c : Nat} {ps : List Str} (h : c ∈ tl (Txt.join y ps)) : c ∈ tl y ∨ ∃ p ∈ ps, c ∈ tl p := by
  rw [join_eq, tl_join] at h
  rcases mem_joinL h with h | ⟨p, m, h⟩
  · exact .inl h
  · obtain ⟨z, mz, rfl⟩ := List.mem_map.mp m
    exact .inr ⟨z, mz, h⟩
theorem len_join {y : Str} {b : Nat} {ps : List Str} (h : ∀ p ∈ ps, p.length ≤ b) : (Txt.join y ps).length ≤ ps.length * (b + y.length) := by
  have := len_joinL (tl y) b (ps.map tl) fun p m => by
    obtain ⟨z, mz, rfl⟩ := List.mem_map.mp m
    rw [← len_tl]
    exact h z mz
  rw [len_tl, join_eq, tl_join, len_tl y]
  rwa [List.length_map] at this
/-- a line of words -/
def lineW (ws : List Str) : Str := Txt.join " " ws
theorem split_line {ws : List Str} (hne : ws ≠ []) (h : ∀ w ∈ ws, okW w) : Txt.split (lineW ws) " " = ws :=
  split_join (s := 32) (S := []) (by decide +kernel) (by decide +kernel) hne fun p m hm => by
    have := (h p m 32 hm).1
    omega
theorem line_sign {ws : List Str} (h : ∀ w ∈ ws, okW w) : 10 ∉ tl (lineW ws) := fun m => by
  rcases mem_join m with m | ⟨p, mp, m⟩
  · have e : ∀ c ∈ tl (" " : Str), c = 32 := by decide +kernel
    have := e _ m
    omega
  · have := (h p mp 10 m).1
    omega
theorem line2 (a b : Str) : a ++ " " ++ b = lineW [a, b] := by
  refine ext_tl ?_
  unfold lineW
  rw [join_eq, tl_join, tl_append, tl_append, List.append_assoc]
  rfl
/-! ### the boxes -/
theorem bxL_len (c : Int) : 1 ≤ (bxL c).length ∧ (bxL c).length ≤ 4 := by
  unfold bxL
  rw [List.length_map, List.length_range]
  have h0 : 0 ≤ spr c 3 % 4 := Int.emod_nonneg _ (by decide)
  have h1 : spr c 3 % 4 < 4 := Int.emod_lt_of_pos _ (by decide)
  omega
theorem nmL_signs (c : Int) (k : Nat) : ∃ x y z : Nat, tl (nmL c k) = [97 + x, 97 + y, 97 + z, 113, 113] ∧ x < 26 ∧ y < 26 ∧ z < 26 ∧
    (if c % 2 = 0 then (x = ((spr c 4 + (k : Nat)) % 26).toNat ∧ y = (spr c 1 % 26).toNat ∧ z = (spr c 2 % 26).toNat) else (x = (spr c 1 % 26).toNat ∧ y = ((spr c 4 + (k : Nat)) % 26).toNat ∧ z = (spr c 2 % 26).toNat)) := by
  have m0 : ∀ n : Int, 0 ≤ n % 26 := fun n => Int.emod_nonneg _ (by decide)
  have m1 : ∀ n : Int, n % 26 < 26 := fun n => Int.emod_lt_of_pos _ (by decide)
  have b : ∀ n : Int, (n % 26).toNat < 26 := fun n => by have := m0 n; have := m1 n; omega
  have q : tl ("qq" : Str) = [113, 113] := by decide +kernel
  unfold nmL
  by_cases e : c % 2 = 0
  · rw [if_pos e]
    refine ⟨_, _, _, ?_, b (spr c 4 + (k : Nat)), b (spr c 1), b (spr c 2), by rw [if_pos e]; exact ⟨rfl, rfl, rfl⟩⟩
    rw [tl_append, tl_append, tl_append, q]
    rfl
  · rw [if_neg e]
    refine ⟨_, _, _, ?_, b (spr c 1), b (spr c 4 + (k : Nat)), b (spr c 2), by rw [if_neg e]; exact ⟨rfl, rfl, rfl⟩⟩
    rw [tl_append, tl_append, tl_append, q]
    rfl
theorem nmL_inj {c : Int} {i j : Nat} (hi : i < 4) (hj : j < 4) (e : nmL c i = nmL c j) : i = j := by
  obtain ⟨x, y, z, h1, _, _, _, h2⟩ := nmL_signs c i
  obtain ⟨x', y', z', h3, _, _, _, h4⟩ := nmL_signs c j
  rw [e, h3] at h1
  have e1 : x' = x := by injection h1 with a b; omega
  have e2 : y' = y := by injection h1 with a b; injection b with a b; omega
  have nn : ∀ n : Int, 0 ≤ n % 26 := fun n => Int.emod_nonneg _ (by decide)
  have n1 := nn (spr c 4 + (i : Nat))
  have n2 := nn (spr c 4 + (j : Nat))
  by_cases e : c % 2 = 0
  · rw [if_pos e] at h2 h4
    have := h2.1
    have := h4.1
    omega
  · rw [if_neg e] at h2 h4
    have := h2.2.1
    have := h4.2.1
    omega
/-- a word with another end -/
def noQ (s : Str) : Bool := match tl s with
  | [_, _, _, a, b] => !(a == 113 && b == 113)
  | _ => true
theorem not_kw {t : Str} {x y z : Nat} (h : tl t = [x, y, z, 113, 113]) : kwB t = false := by
  have key : ∀ ss : List Str, ss.all noQ = true → ss.any (· == t) = false := fun ss hs => by
    refine Bool.eq_false_iff.mpr fun h2 => ?_
    obtain ⟨s, m, e⟩ := List.any_eq_true.mp h2
    have e := eq_of_beq e
    have h3 := List.all_eq_true.mp hs s m
    unfold noQ at h3
    rw [e, h] at h3
    cases h3
  unfold kwB
  rw [key _ (by decide +kernel), key _ (by decide +kernel), key _ (by decide +kernel)]
  rfl
theorem nmL_nm (c : Int) (k : Nat) : isNm (nmL c k) = true := by
  obtain ⟨x, y, z, h1, h2, h3, h4, _⟩ := nmL_signs c k
  unfold isNm
  rw [not_kw h1]
  unfold madeOf
  have hl : (nmL c k).length = 5 := by rw [len_tl, h1]; rfl
  have all : ∀ n, n < 26 → (97 + n) ∈ (("abcdefghijklmnopqrstuvwxyz" : Str)).cps.toList := by decide +kernel
  rw [hl, show (nmL c k).cps.toList = _ from h1]
  simp only [List.all_cons, List.all_nil, Bool.and_true]
  rw [decide_eq_true (all x h2), decide_eq_true (all y h3), decide_eq_true (all z h4), decide_eq_true (show (113 : Nat) ∈ _ from all 16 (by decide))]
  rfl
theorem nmL_len (c : Int) (k : Nat) : (nmL c k).length = 5 := by
  obtain ⟨x, y, z, h1, _⟩ := nmL_signs c k
  rw [len_tl, h1]
  rfl
theorem nmL_okW (c : Int) (k : Nat) : okW (nmL c k) := fun s m => by
  obtain ⟨x, y, z, h1, h2, h3, h4, _⟩ := nmL_signs c k
  rw [h1] at m
  simp only [List.mem_cons, List.not_mem_nil, or_false] at m
  omega
theorem okW_strOk {x : Str} (h : okW x) : PyData.strOk x = true := by
  unfold PyData.strOk
  rw [← Array.all_toList]
  refine List.all_eq_true.mpr fun c m => decide_eq_true ?_
  have := (h c m).2
  omega
/-- a box of the law -/
structure okB (b : Kd × Str) : Prop where
  nm : isNm b.2 = true
  len : b.2.length = 5
  w : okW b.2
theorem bxL_ok {c : Int} {b : Kd × Str} (h : b ∈ bxL c) : okB b := by
  unfold bxL at h
  obtain ⟨k, _, rfl⟩ := List.mem_map.mp h
  exact ⟨nmL_nm c k, nmL_len c k, nmL_okW c k⟩
theorem bxL_nd (c : Int) : ((bxL c).map (·.2)).Nodup := by
  have h4 := (bxL_len c).2
  unfold bxL at h4 ⊢
  rw [List.length_map, List.length_range] at h4
  rw [List.map_map]
  refine List.pairwise_map.mpr (List.Pairwise.imp_of_mem (fun {a b} ma mb ne e => ?_) List.nodup_range)
  rw [List.mem_range] at ma mb
  exact ne (nmL_inj (by omega) (by omega) e)
/-! ### the puts -/
theorem putLaw_ok (k : Kd) (n : Int) (h0 : 0 ≤ n) (h1 : n < 1000000007) : ∃ ns : List Nat, putLaw k.w n = ns.map (fun m : Nat => (m : Int)) ∧ (∀ a ∈ ns, a < RND) ∧ 1 ≤ ns.length ∧ ns.length ≤ 4 ∧ (k = .map → ns.length = 2) ∧ (k ≠ .row → k ≠ .map → ns.length = 1) := by
  have num1 : ∀ m : Int, numL m = ((numL m).toNat : Nat) ∧ (numL m).toNat < RND := fun m => by
    have := numL_nn m
    have := numL_lt m
    exact ⟨by omega, by show _ < 1000000000; omega⟩
  have one : ∀ m : Int, ∃ ns : List Nat, [numL m] = ns.map (fun m : Nat => (m : Int)) ∧ (∀ a ∈ ns, a < RND) ∧ ns.length = 1 := fun m =>
    ⟨[(numL m).toNat], by rw [List.map_cons, ← (num1 m).1]; rfl, fun a h => by rw [List.mem_singleton.mp h]; exact (num1 m).2, rfl⟩
  have q0 : 0 ≤ n / 5 % 4 := Int.emod_nonneg _ (by decide)
  have q1 : n / 5 % 4 < 4 := Int.emod_lt_of_pos _ (by decide)
  have r0 : 0 ≤ n / 5 % 6 := Int.emod_nonneg _ (by decide)
  have r1 : n / 5 % 6 < 6 := Int.emod_lt_of_pos _ (by decide)
  cases k with
  | row =>
    unfold putLaw
    rw [if_pos (show Kd.row.w = "row" from rfl)]
    by_cases h5 : n % 5 > 0
    · rw [if_pos h5]
      refine ⟨([8, 999999999, 8, 0] : List Nat).take (1 + n / 5 % 4).toNat, by rw [List.map_take]; rfl, fun a h => ?_, ?_, ?_, fun e => (by cases e), fun e => absurd rfl e⟩
      · have := List.mem_of_mem_take h
        have all : ∀ a ∈ ([8, 999999999, 8, 0] : List Nat), a < RND := by decide +kernel
        exact all a this
      · rw [List.length_take]; show 1 ≤ min _ 4; omega
      · rw [List.length_take]; show min _ 4 ≤ 4; omega
    · rw [if_neg h5]
      refine ⟨(List.range (1 + n / 5 % 4).toNat).map fun k => (numL (spr n (k : Nat))).toNat, ?_, fun a h => ?_, ?_, ?_, fun e => (by cases e), fun e => absurd rfl e⟩
      · rw [List.map_map]
        exact List.map_congr_left fun k _ => (num1 _).1
      · obtain ⟨k, _, rfl⟩ := List.mem_map.mp h
        exact (num1 _).2
      · rw [List.length_map, List.length_range]; omega
      · rw [List.length_map, List.length_range]; omega
  | once =>
    unfold putLaw
    rw [if_neg (show ¬ Kd.once.w = "row" by decide)]
    by_cases h5 : n % 5 > 0
    · rw [if_pos ⟨rfl, h5⟩]
      exact ⟨[4], rfl, fun a h => by rw [List.mem_singleton.mp h]; show 4 < 1000000000; decide, by decide, by decide, fun e => (by cases e), fun _ _ => rfl⟩
    · rw [if_neg (fun z => h5 z.2), if_neg (show ¬ Kd.once.w = "map" by decide)]
      obtain ⟨ns, a, b, c⟩ := one n
      exact ⟨ns, a, b, by omega, by omega, fun e => (by cases e), fun _ _ => c⟩
  | map =>
    unfold putLaw
    rw [if_neg (show ¬ Kd.map.w = "row" by decide), if_neg (fun z => absurd z.1 (by decide)), if_pos (show Kd.map.w = "map" from rfl)]
    by_cases h5 : n % 5 > 0
    · rw [if_pos h5]
      refine ⟨[(n / 5 % 6).toNat, (1000 * (n / 5 % 6) + 7).toNat], ?_, fun a h => ?_, (by show 1 ≤ 2; decide), (by show 2 ≤ 4; decide), fun _ => rfl, fun _ e => absurd rfl e⟩
      · rw [List.map_cons, List.map_cons, List.map_nil]
        congr 1
        · omega
        · congr 1; omega
      · show a < 1000000000
        simp only [List.mem_cons, List.not_mem_nil, or_false] at h
        omega
    · rw [if_neg h5]
      refine ⟨[(n / 5 % 6).toNat, (numL (n / 30)).toNat], ?_, fun a h => ?_, (by show 1 ≤ 2; decide), (by show 2 ≤ 4; decide), fun _ => rfl, fun _ e => absurd rfl e⟩
      · rw [List.map_cons, List.map_cons, List.map_nil, ← (num1 (n / 30)).1]
        congr 1
        omega
      · have := (num1 (n / 30)).2
        simp only [List.mem_cons, List.not_mem_nil, or_false] at h
        rcases h with rfl | rfl
        · show _ < 1000000000; omega
        · exact this
  | most =>
    unfold putLaw
    rw [if_neg (show ¬ Kd.most.w = "row" by decide), if_neg (fun z => absurd z.1 (by decide)), if_neg (show ¬ Kd.most.w = "map" by decide)]
    obtain ⟨ns, a, b, c⟩ := one n
    exact ⟨ns, a, b, by omega, by omega, fun e => (by cases e), fun _ _ => c⟩
  | set =>
    unfold putLaw
    rw [if_neg (show ¬ Kd.set.w = "row" by decide), if_neg (fun z => absurd z.1 (by decide)), if_neg (show ¬ Kd.set.w = "map" by decide)]
    obtain ⟨ns, a, b, c⟩ := one n
    exact ⟨ns, a, b, by omega, by omega, fun e => (by cases e), fun _ _ => c⟩
/-- a put of the law -/
structure Pt where
  (at_ : Nat) (b : Kd × Str) (ns : List Nat)
def ptD (p : Pt) : PyData := .tuple [.int (p.at_ : Nat), .list (intsD p.ns)]
structure okPt (bs : List (Kd × Str)) (p : Pt) : Prop where
  box : bs[p.at_]? = some p.b
  num : ∀ a ∈ p.ns, a < RND
  lo : 1 ≤ p.ns.length
  hi : p.ns.length ≤ 4
  two : p.b.1 = .map → p.ns.length = 2
  one : p.b.1 ≠ .row → p.b.1 ≠ .map → p.ns.length = 1
def ptL (bs : List (Kd × Str)) (c : Int) : Pt :=
  let a := (spr c 19 % (bs.length : Nat)).toNat
  let b := (bs[a]?).getD (.most, "")
  ⟨a, b, (putLaw b.1.w (spr c 20)).map Int.toNat⟩
theorem ptL_ok {bs : List (Kd × Str)} (h : 1 ≤ bs.length) (c : Int) : okPt bs (ptL bs c) ∧ ((ptL bs c).at_ : Int) = spr c 19 % (bs.length : Nat) ∧ (putLaw (ptL bs c).b.1.w (spr c 20)).map PyData.int = intsD (ptL bs c).ns := by
  have a0 : 0 ≤ spr c 19 % (bs.length : Nat) := Int.emod_nonneg _ (by omega)
  have a1 : spr c 19 % (bs.length : Nat) < (bs.length : Nat) := Int.emod_lt_of_pos _ (by omega)
  have ha : (spr c 19 % (bs.length : Nat)).toNat < bs.length := by omega
  obtain ⟨ns, e, h1, h2, h3, h4, h5⟩ := putLaw_ok ((bs[(spr c 19 % (bs.length : Nat)).toNat]?).getD (.most, "")).1 (spr c 20) (spr_nn _ _) (spr_lt _ _)
  have en : (ptL bs c).ns = ns := by
    refine (congrArg (List.map Int.toNat) (show putLaw (ptL bs c).b.1.w (spr c 20) = _ from e)).trans ?_
    rw [List.map_map]
    exact (List.map_congr_left fun m _ => by simp).trans (List.map_id ns)
  refine ⟨⟨?_, ?_, ?_, ?_, ?_, ?_⟩, by show (((spr c 19 % (bs.length : Nat)).toNat : Nat) : Int) = _; omega, ?_⟩
  · show bs[(spr c 19 % (bs.length : Nat)).toNat]? = some ((bs[(spr c 19 % (bs.length : Nat)).toNat]?).getD (.most, ""))
    rw [List.getElem?_eq_getElem ha]
    rfl
  · rw [en]; exact h1
  · rw [en]; exact h2
  · rw [en]; exact h3
  · rw [en]; exact h4
  · rw [en]; exact h5
  · rw [en]
    refine (congrArg (List.map PyData.int) (show putLaw (ptL bs c).b.1.w (spr c 20) = _ from e)).trans ?_
    rw [List.map_map]
    rfl
theorem okPt.put {bs : List (Kd × Str)} {p : Pt} (h : okPt bs p) : okPut p.b.1 (putEl p.b.1.w p.ns) := by
  have h1 := h.num
  have h2 := h.lo
  have h3 := h.hi
  have h4 := h.two
  have h5 := h.one
  unfold putEl
  obtain ⟨at_, ⟨k, nm⟩, ns⟩ := p
  have single : ∀ k' : Kd, k' ≠ .row → k' ≠ .map → ns.length = 1 → okPut k' (numS ns) := fun k' a b e => by
    match ns, e with
    | [m], _ =>
      have := h1 m List.mem_cons_self
      cases k' with
      | row => exact absurd rfl a
      | map => exact absurd rfl b
      | most => exact ⟨m, rfl, this⟩
      | set => exact ⟨m, rfl, this⟩
      | once => exact ⟨m, rfl, this⟩
  cases k with
  | row => exact ⟨ns, if_neg (show ¬ (Kd.row).w = "map" by decide), h2, h3, h1⟩
  | map =>
    match ns, h4 rfl with
    | [a, b], _ => exact ⟨a, b, rfl, h1 a List.mem_cons_self, h1 b (List.mem_cons_of_mem _ List.mem_cons_self)⟩
  | most => rw [if_neg (show ¬ (Kd.most).w = "map" by decide)]; exact single .most (by decide) (by decide) (h5 (fun e => by cases e) (fun e => by cases e))
  | set => rw [if_neg (show ¬ (Kd.set).w = "map" by decide)]; exact single .set (by decide) (by decide) (h5 (fun e => by cases e) (fun e => by cases e))
  | once => rw [if_neg (show ¬ (Kd.once).w = "map" by decide)]; exact single .once (by decide) (by decide) (h5 (fun e => by cases e) (fun e => by cases e))
end SJ
set_option maxRecDepth 100000
set_option maxHeartbeats 4000000
/-! Y5: the law's program, and its text. -/
namespace SJ
open PySem PySem.Spec PyProof.Rows L2
open TL (tl tl_append tl_join joinL ext_tl len_tl split_join join_eq)
def putsL : Nat → List Pt → List Put
  | _, [] => []
  | i, p :: ps => ⟨i, p.b.2, p.ns⟩ :: putsL (i + 1) ps
theorem putsL_len : ∀ (i : Nat) (ps : List Pt), (putsL i ps).length = ps.length
  | _, [] => rfl
  | i, _ :: ps => congrArg Nat.succ (putsL_len (i + 1) ps)
theorem putsL_get : ∀ (i m : Nat) (ps : List Pt), (putsL i ps)[m]? = (ps[m]?).map fun p => ⟨i + m, p.b.2, p.ns⟩
  | _, _, [] => rfl
  | i, 0, _ :: ps => rfl
  | i, m + 1, _ :: ps => by
    show (putsL (i + 1) ps)[m]? = _
    rw [putsL_get (i + 1) m ps]
    show _ = (ps[m]?).map _
    rw [show i + 1 + m = i + (m + 1) by omega]
theorem putsL_mem {q : Put} : ∀ {ps : List Pt} {i : Nat}, q ∈ putsL i ps → ∃ p ∈ ps, q.nm = p.b.2 ∧ q.ns = p.ns
  | p :: ps, i, h => by
    rcases List.mem_cons.mp h with rfl | h
    · exact ⟨p, List.mem_cons_self, rfl, rfl⟩
    · obtain ⟨p2, m, e⟩ := putsL_mem (ps := ps) h
      exact ⟨p2, List.mem_cons_of_mem _ m, e⟩
theorem putsL_map {α : Type} (f : Str → List Nat → α) : ∀ (i : Nat) (ps : List Pt), ((putsL i ps).map fun q => f q.nm q.ns) = ps.map fun p => f p.b.2 p.ns
  | _, [] => rfl
  | i, p :: ps => congrArg (f p.b.2 p.ns :: ·) (putsL_map f (i + 1) ps)
/-- the law's program -/
def pgL (bs : List (Kd × Str)) (ps : List Pt) : Pg := ⟨bs.map fun b => (b.1.w, b.2), putsL (bs.length + 2) ps, bs.length + 1, bs.length + ps.length + 2⟩
/-- what the law makes of a script -/
structure Inp (bs : List (Kd × Str)) (ps : List Pt) : Prop where
  lo : 1 ≤ bs.length
  hi : bs.length ≤ 4
  ok : ∀ b ∈ bs, okB b
  nd : (bs.map (·.2)).Nodup
  few : ps.length ≤ 38
  put : ∀ p ∈ ps, okPt bs p
theorem pgL_good {bs : List (Kd × Str)} {ps : List Pt} (h : Inp bs ps) : (pgL bs ps).good := by
  refine ⟨⟨?_, ?_, fun q m => ?_⟩, ?_, fun q m => ?_⟩
  · show (bs.map _).length ≤ 50
    rw [List.length_map]
    have := h.hi
    omega
  · show (putsL _ ps).length ≤ 1000
    rw [putsL_len]
    have := h.few
    omega
  · obtain ⟨p, mp, _, e⟩ := putsL_mem m
    have := (h.put p mp).hi
    rw [e]
    omega
  · show ((bs.map _).map _).Nodup
    rw [List.map_map]
    exact h.nd
  · obtain ⟨p, mp, e1, e2⟩ := putsL_mem m
    have hp := h.put p mp
    have mb := List.mem_of_getElem? hp.box
    refine ⟨(p.b.1.w, p.b.2), List.mem_map.mpr ⟨p.b, mb, rfl⟩, e1.symm, ?_⟩
    rw [e2]
    have h1 := hp.one
    have h2 := hp.two
    cases hk : p.b.1 with
    | row => exact .inl rfl
    | map => exact .inr (.inr ⟨h2 hk, rfl⟩)
    | most => exact .inr (.inl ⟨h1 (by rw [hk]; intro e; cases e) (by rw [hk]; intro e; cases e), by show ¬ (Kd.most).w = "map"; decide⟩)
    | set => exact .inr (.inl ⟨h1 (by rw [hk]; intro e; cases e) (by rw [hk]; intro e; cases e), by show ¬ (Kd.set).w = "map"; decide⟩)
    | once => exact .inr (.inl ⟨h1 (by rw [hk]; intro e; cases e) (by rw [hk]; intro e; cases e), by show ¬ (Kd.once).w = "map"; decide⟩)
theorem pgL_lined (bs : List (Kd × Str)) (ps : List Pt) : (pgL bs ps).lined := by
  have e : (pgL bs ps).boxes.length = bs.length := List.length_map _
  refine ⟨?_, ?_, fun i p hp => ?_⟩
  · rw [e]; rfl
  · rw [e]
    show bs.length + ps.length + 2 = bs.length + (putsL _ ps).length + 2
    rw [putsL_len]
  · have hp : (putsL (bs.length + 2) ps)[i]? = some p := hp
    rw [putsL_get] at hp
    cases hx : ps[i]? with
    | none => rw [hx] at hp; cases hp
    | some q =>
      rw [hx] at hp
      cases hp
      rw [e]
/-! ### the lines -/
def lnB (b : Kd × Str) : Str := b.1.w ++ " " ++ b.2
def lnP (p : Pt) : Str := lineW (putW p.b.2 p.ns)
def lnsL (bs : List (Kd × Str)) (ps : List Pt) : List Str := (bs.map lnB ++ ([("job main" : Str)] : List Str)) ++ ps.map lnP ++ ([("end" : Str)] : List Str)
theorem len9_kd : ∀ k : Kd, k.w.length ≤ 9
  | .most => by decide +kernel
  | .set => by decide +kernel
  | .once => by decide +kernel
  | .row => by decide +kernel
  | .map => by decide +kernel
theorem jobm : ("job main" : Str) = lineW ["job", "main"] := by
  refine ext_tl ?_
  unfold lineW
  rw [join_eq, tl_join]
  decide +kernel
theorem endm : ("end" : Str) = lineW ["end"] := by
  refine ext_tl ?_
  unfold lineW
  rw [join_eq, tl_join]
  decide +kernel
theorem wordsP {bs : List (Kd × Str)} {ps : List Pt} (h : Inp bs ps) {p : Pt} (m : p ∈ ps) : ∀ w ∈ putW p.b.2 p.ns, okW w ∧ w.length ≤ 9 := fun w mw => by
  have hp := h.put p m
  have hb := h.ok p.b (List.mem_of_getElem? hp.box)
  rcases List.mem_append.mp mw with mw | mw
  · rcases List.mem_cons.mp mw with rfl | mw
    · exact ⟨by unfold okW; decide +kernel, by decide +kernel⟩
    · rw [List.mem_singleton.mp mw]
      exact ⟨hb.w, by rw [hb.len]; decide⟩
  · obtain ⟨n, mn, rfl⟩ := List.mem_map.mp mw
    exact ⟨okW_nT n, (nT_len (hp.num n mn)).2⟩
/-- each line is of words -/
theorem lnsL_words {bs : List (Kd × Str)} {ps : List Pt} (h : Inp bs ps) {x : Str} (m : x ∈ lnsL bs ps) : ∃ ws : List Str, x = lineW ws ∧ ws ≠ [] ∧ ws.length ≤ 6 ∧ ∀ w ∈ ws, okW w ∧ w.length ≤ 9 := by
  unfold lnsL at m
  rcases List.mem_append.mp m with m | m
  · rcases List.mem_append.mp m with m | m
    · rcases List.mem_append.mp m with m | m
      · obtain ⟨b, mb, rfl⟩ := List.mem_map.mp m
        have hb := h.ok b mb
        refine ⟨[b.1.w, b.2], line2 _ _, by simp, by show 2 ≤ 6; decide, fun w mw => ?_⟩
        rcases List.mem_cons.mp mw with rfl | mw
        · exact ⟨okW_kd _, len9_kd _⟩
        · rw [List.mem_singleton.mp mw]
          exact ⟨hb.w, by rw [hb.len]; decide⟩
      · rw [List.mem_singleton.mp m]
        refine ⟨["job", "main"], jobm, by simp, by show 2 ≤ 6; decide, fun w mw => ?_⟩
        rcases List.mem_cons.mp mw with rfl | mw
        · exact ⟨by unfold okW; decide +kernel, by decide +kernel⟩
        · rw [List.mem_singleton.mp mw]
          exact ⟨by unfold okW; decide +kernel, by decide +kernel⟩
    · obtain ⟨p, mp, rfl⟩ := List.mem_map.mp m
      refine ⟨_, rfl, by simp, ?_, wordsP h mp⟩
      have := (h.put p mp).hi
      show (([("put" : Str), p.b.2] : List Str) ++ p.ns.map nT).length ≤ 6
      rw [List.length_append, List.length_map]
      show 2 + _ ≤ 6
      omega
  · rw [List.mem_singleton.mp m]
    refine ⟨["end"], endm, by simp, by show 1 ≤ 6; decide, fun w mw => ?_⟩
    rw [List.mem_singleton.mp mw]
    exact ⟨by unfold okW; decide +kernel, by decide +kernel⟩
theorem lnsL_len {bs : List (Kd × Str)} {ps : List Pt} (h : Inp bs ps) : (lnsL bs ps).length = bs.length + ps.length + 2 ∧ (lnsL bs ps).length ≤ 44 := by
  unfold lnsL
  simp only [List.length_append, List.length_map, List.length_cons, List.length_nil]
  have := h.hi
  have := h.few
  omega
theorem len_line {ws : List Str} (h6 : ws.length ≤ 6) (h : ∀ w ∈ ws, w.length ≤ 9) : (lineW ws).length ≤ 60 := by
  have := len_join (y := " ") (b := 9) (ps := ws) h
  have e : (" " : Str).length = 1 := by decide +kernel
  rw [e] at this
  show (Txt.join " " ws).length ≤ 60
  omega
theorem lnsL_short {bs : List (Kd × Str)} {ps : List Pt} (h : Inp bs ps) {x : Str} (m : x ∈ lnsL bs ps) : x.length ≤ 60 := by
  obtain ⟨ws, rfl, _, h6, hw⟩ := lnsL_words h m
  exact len_line h6 fun w mw => (hw w mw).2
def txtL (bs : List (Kd × Str)) (ps : List Pt) : Str := Txt.join "\n" (lnsL bs ps)
theorem txtL_len {bs : List (Kd × Str)} {ps : List Pt} (h : Inp bs ps) : (txtL bs ps).length ≤ 100000 := by
  have := len_join (y := "\n") (b := 60) (ps := lnsL bs ps) fun p m => lnsL_short h m
  have e : ("\n" : Str).length = 1 := by decide +kernel
  have l := (lnsL_len h).2
  rw [e] at this
  show (Txt.join "\n" _).length ≤ 100000
  omega
theorem txtL_split {bs : List (Kd × Str)} {ps : List Pt} (h : Inp bs ps) : Txt.split (txtL bs ps) "\n" = lnsL bs ps :=
  split_join (s := 10) (S := []) (by decide +kernel) (by decide +kernel) (by unfold lnsL; simp) fun p m => by
    obtain ⟨ws, rfl, _, _, hw⟩ := lnsL_words h m
    exact line_sign fun w mw => (hw w mw).1
theorem paired_mapM {α β γ : Type} {R : β → γ → Prop} {f : α → β} {g : α → γ} : ∀ (l : List α), (∀ a ∈ l, R (f a) (g a)) → Paired R (l.map f) (l.map g)
  | [], _ => .nil
  | a :: l, h => .cons (h a List.mem_cons_self) (paired_mapM l fun b m => h b (List.mem_cons_of_mem _ m))
theorem lines_read {bs : List (Kd × Str)} {ps : List Pt} (h : Inp bs ps) : Paired (fun x d => R_read_line [.str x] d) (lnsL bs ps) (linesD (pgL bs ps)) := by
  have e1 : linesD (pgL bs ps) = (bs.map (fun b => boxS (b.1.w, b.2)) ++ [jobS]) ++ ps.map (fun p => putS p.b.2 (.list (p.ns.map numE))) ++ [endS] := by
    have e2 : (pgL bs ps).puts.map (fun p => putS p.nm (.list (p.ns.map numE))) = ps.map (fun p => putS p.b.2 (.list (p.ns.map numE))) := putsL_map (fun nm ns => putS nm (.list (ns.map numE))) _ ps
    have e3 : (pgL bs ps).boxes.map boxS = bs.map (fun b => boxS (b.1.w, b.2)) := List.map_map
    unfold linesD
    rw [e2, e3]
    simp only [List.append_assoc, List.singleton_append, List.cons_append, List.nil_append]
  have short : ∀ {x : Str}, x ∈ lnsL bs ps → x.length ≤ 100000 := fun m => Nat.le_trans (lnsL_short h m) (by decide)
  rw [e1]
  have inB : ∀ {b : Kd × Str}, b ∈ bs → lnB b ∈ lnsL bs ps := fun m => List.mem_append_left _ (List.mem_append_left _ (List.mem_append_left _ (List.mem_map.mpr ⟨_, m, rfl⟩)))
  have inJ : ("job main" : Str) ∈ lnsL bs ps := List.mem_append_left _ (List.mem_append_left _ (List.mem_append_right _ List.mem_cons_self))
  have inP : ∀ {p : Pt}, p ∈ ps → lnP p ∈ lnsL bs ps := fun m => List.mem_append_left _ (List.mem_append_right _ (List.mem_map.mpr ⟨_, m, rfl⟩))
  have inE : ("end" : Str) ∈ lnsL bs ps := List.mem_append_right _ List.mem_cons_self
  refine paired_app (paired_app (paired_app (paired_mapM bs fun b m => ?_) (.cons ?_ .nil)) (paired_mapM ps fun p m => ?_)) (.cons ?_ .nil)
  · have hb := h.ok b m
    refine ⟨lnB b, [b.1.w, b.2], short (inB m), ?_, rfl, .inl ⟨b.1.w, b.2, rfl, ?_, by rw [hb.len]; decide, hb.nm, rfl⟩⟩
    · rw [show lnB b = lineW [b.1.w, b.2] from line2 _ _]
      refine split_line (by simp) fun w mw => ?_
      rcases List.mem_cons.mp mw with rfl | mw
      · exact okW_kd _
      · rw [List.mem_singleton.mp mw]
        exact hb.w
    · cases b.1 <;> decide +kernel
  · refine ⟨"job main", ["job", "main"], short inJ, ?_, rfl, .inr (.inl ⟨rfl, rfl⟩)⟩
    rw [jobm]
    refine split_line (by simp) fun w mw => ?_
    rcases List.mem_cons.mp mw with rfl | mw
    · unfold okW; decide +kernel
    · rw [List.mem_singleton.mp mw]
      unfold okW; decide +kernel
  · have hp := h.put p m
    have hb := h.ok p.b (List.mem_of_getElem? hp.box)
    refine ⟨lnP p, putW p.b.2 p.ns, short (inP m), split_line (by simp) fun w mw => (wordsP h m w mw).1, rfl, .inr (.inr (.inl ⟨p.b.2, p.ns, rfl, by rw [hb.len]; decide, hb.nm, hp.num, hp.lo, hp.hi, rfl⟩))⟩
  · refine ⟨"end", ["end"], short inE, ?_, rfl, .inr (.inr (.inr ⟨rfl, rfl⟩))⟩
    rw [endm]
    refine split_line (by simp) fun w mw => ?_
    rw [List.mem_singleton.mp mw]
    unfold okW; decide +kernel
theorem read_ok {bs : List (Kd × Str)} {ps : List Pt} (h : Inp bs ps) : R_read [.str (txtL bs ps)] (pgL bs ps).d := by
  have hp := lines_read h
  have hl := lnsL_len h
  refine ⟨pgL bs ps, txtL bs ps, lnsL bs ps, pgL_good h, pgL_lined bs ps, txtL_len h, txtL_split h, Paired.length hp, by omega, fun i x d h1 h2 => ?_, rfl, rfl⟩
  obtain ⟨y, e, r⟩ := paired_get hp h2
  rw [h1] at e
  cases e
  exact r
end SJ
set_option maxRecDepth 100000
set_option maxHeartbeats 4000000
/-! Y6: the house through the law's turns, in plain Lean. -/
namespace SJ
open PySem PySem.Spec PyProof.Rows L2
/-- the house before the law's put k -/
structure LawAt (bs : List (Kd × Str)) (ps : List Pt) (s : HouS) (k : Nat) : Prop where
  at_ : HouAt s k
  torn : s.torn = .dat .none
  bx : s.bx.map (fun b => (b.k, b.nm)) = bs
  g : s.g = pgL bs ps
  ix : s.th.at_ = k
  left : s.th.left + k = ps.length + 3
  fin : k < ps.length → s.th.fin = .none
  fin2 : k = ps.length → isNoneD s.th.fin = false
/-- the states that the house is handed -/
def toldO (bs : List (Kd × Str)) (n : Nat) : Option (List (List El)) := if n % 3 > 0 then none else some (bs.map fun b => toldS (n / 3) b.1)
theorem toldO_len (bs : List (Kd × Str)) (n : Nat) : (stsOf bs (toldO bs n)).length = bs.length := by
  unfold toldO
  split
  · exact List.length_map _
  · exact List.length_map _
theorem okSt_nil : ∀ k, okSt k []
  | .most => ⟨[], rfl, by show 0 < 2; decide, fun a m => by cases m⟩
  | .set => ⟨[], rfl, by show 0 ≤ 60; decide, .nil, fun a m => by cases m⟩
  | .once => ⟨[], rfl, by show 0 < 2; decide, fun a m => by cases m⟩
  | .row => ⟨[], rfl, by show 0 ≤ 60; decide, fun a m => by cases m⟩
  | .map => ⟨[], rfl, by show 0 ≤ 60; decide, .nil, fun a m => by cases m⟩
theorem toldS_len (m : Nat) : ∀ k, (toldS m k).length ≤ 2
  | .most => by show 1 ≤ 2; decide
  | .set => by show 2 ≤ 2; decide
  | .once => by show 1 ≤ 2; decide
  | .row => by show 1 ≤ 2; decide
  | .map => by show 2 ≤ 2; decide
theorem toldO_st {bs : List (Kd × Str)} {n i : Nat} {b : Kd × Str} {s : List El} (hb : bs[i]? = some b) (hs : (stsOf bs (toldO bs n))[i]? = some s) : okSt b.1 s ∧ s.length ≤ 4 := by
  unfold toldO at hs
  split at hs
  · have hs : (bs.map fun _ => ([] : List El))[i]? = some s := hs
    rw [List.getElem?_map, hb] at hs
    cases hs
    exact ⟨okSt_nil _, Nat.zero_le _⟩
  · have hs : (bs.map fun b => toldS (n / 3) b.1)[i]? = some s := hs
    rw [List.getElem?_map, hb] at hs
    cases hs
    exact ⟨toldS_ok _ _, Nat.le_trans (toldS_len _ _) (by decide)⟩
theorem pre_house {bs : List (Kd × Str)} {ps : List Pt} (h : Inp bs ps) (n : Nat) : Pre_House ⟨pgL bs ps, bs, toldO bs n, ps.length + 3⟩ [.dat (pgL bs ps).d, .dat (.int ((ps.length + 3 : Nat) : Int)), .dat (match toldO bs n with | none => .none | some ss => .list (ss.map stD))] := by
  have := h.few
  exact ⟨pgL_good h, rfl, by omega, by omega, toldO_len bs n, fun i b s e1 e2 => (toldO_st e1 e2).1, rfl⟩
theorem law_start {bs : List (Kd × Str)} {ps : List Pt} (h : Inp bs ps) {n : Nat} {CK : Kd → Addr} {CH CT y : Addr} {B : List (Addr × Cell)} (hp : Post_House CK CH CT ⟨pgL bs ps, bs, toldO bs n, ps.length + 3⟩ y B) : ∃ s : HouS, B = houC CK CH CT s ∧ s.h = y ∧ LawAt bs ps s 0 ∧ s.bx.map (·.st) = stsOf bs (toldO bs n) := by
  obtain ⟨s, e1, e2, e3, e4, e5, e6, e7, t, kd, nm, sd, e8⟩ := hp
  have hst : ∀ b ∈ s.bx, okSt b.k b.st ∧ b.st.length ≤ 4 := fun b m => by
    obtain ⟨i, hi⟩ := List.mem_iff_getElem?.mp m
    have h1 : bs[i]? = some (b.k, b.nm) := by rw [← e4, List.getElem?_map, hi]; rfl
    have h2 : (stsOf bs (toldO bs n))[i]? = some b.st := by rw [← e5, List.getElem?_map, hi]; rfl
    exact toldO_st h1 h2
  have hg : (newS t kd nm sd (pgL bs ps) (ps.length + 3)).g = pgL bs ps := setS_g _
  have hlen : (pgL bs ps).puts.length = ps.length := putsL_len _ _
  refine ⟨s, e1, e2, ⟨⟨⟨?_, ?_, fun b m => (hst b m).1, fun b m e me => ?_, fun b m => ?_, ?_⟩, fun b m => (hst b m).2, fun b m => ?_⟩, e7, e4, e3, ?_, ?_, fun hk => ?_, fun hk => ?_⟩, e5⟩
  · rw [e3]; exact pgL_good h
  · rw [e3, ← e4]
    show (List.map _ (s.bx.map _)) = _
    rw [List.map_map]
    rfl
  · rw [e6 b m] at me
    rw [List.mem_singleton.mp me]
    exact (hst b m).1
  · rw [e6 b m]; show 1 ≤ 1000; decide
  · rw [e8, e3]; exact hg
  · rw [e6 b m]; show 1 ≤ 1 + 0; decide
  · rw [e8]; unfold newS setS; split <;> rfl
  · rw [e8]; unfold newS setS; split <;> rfl
  · rw [e8]; unfold newS setS
    rw [if_neg (show ¬ (0 : Nat) = (pgL bs ps).puts.length by omega)]
  · rw [e8]; unfold newS setS
    rw [if_pos (show (0 : Nat) = (pgL bs ps).puts.length by omega)]
    rfl
theorem law_box {bs : List (Kd × Str)} {ps : List Pt} {s : HouS} {k : Nat} (h : LawAt bs ps s k) {i : Nat} {b : Kd × Str} (hb : bs[i]? = some b) : ∃ x, s.bx[i]? = some x ∧ x.k = b.1 ∧ x.nm = b.2 := by
  rw [← h.bx, List.getElem?_map] at hb
  cases hx : s.bx[i]? with
  | none => rw [hx] at hb; cases hb
  | some x =>
    rw [hx] at hb
    cases hb
    exact ⟨x, rfl, rfl, rfl⟩
/-- a turn of the law: what it asks of the house -/
theorem law_pre {bs : List (Kd × Str)} {ps : List Pt} (h : Inp bs ps) {s : HouS} {k : Nat} (hs : LawAt bs ps s k) {p : Pt} (hp : ps[k]? = some p) {x : BxS} (hx : s.bx[p.at_]? = some x) (ek : x.k = p.b.1) (en : x.nm = p.b.2) {CK : Kd → Addr} {CH CT : Addr} :
    Pre_tr CK CH CT ⟨s, p.at_, x, ⟨bs.length + 2 + k, p.b.2, p.ns⟩, putEl x.k.w p.ns, k⟩ [.rg (.ref s.h) (houC CK CH CT s), .dat (.int ((bs.length + 2 + k : Nat) : Int)), .dat (.str p.b.1.w), .dat (.str p.b.2), .dat (.list (intsD p.ns))] := by
  have hm := List.mem_of_getElem? hp
  have hpt := h.put p hm
  have hlt := (List.getElem?_eq_some_iff.mp hp).1
  have hfew := h.few
  refine ⟨hs.at_, by omega, hs.torn, hs.fin hlt, ?_, ?_, hx, en, rfl, ?_, ?_, ?_, ?_, ?_⟩
  · rw [hs.at_.ok.th, hs.g, hs.ix]
    show (putsL _ ps)[k]? = _
    rw [putsL_get, hp]
    rfl
  · have := hs.left
    omega
  · rw [ek]; exact hpt.put
  · have := hpt.hi
    show p.ns.length ≤ 1000
    omega
  · rw [ek]
    intro e
    refine hpt.two ?_
    cases hk : p.b.1 with
    | map => rfl
    | most => rw [hk] at e; exact absurd e (by decide)
    | set => rw [hk] at e; exact absurd e (by decide)
    | once => rw [hk] at e; exact absurd e (by decide)
    | row => rw [hk] at e; exact absurd e (by decide)
  · exact okW_strOk (h.ok p.b (List.mem_of_getElem? hpt.box)).w
  · rw [ek]
theorem stepS_at (s : ThrS) : (nextS s).at_ = s.at_ + 1 ∧ (nextS s).left = s.left - 1 ∧ (nextS s).g = s.g ∧ ((nextS s).at_ = s.g.puts.length → isNoneD (nextS s).fin = false) ∧ ((nextS s).at_ ≠ s.g.puts.length → (nextS s).fin = s.fin) := by
  unfold nextS setS
  by_cases h : (stepS s).at_ = (stepS s).g.puts.length
  · rw [if_pos h]
    exact ⟨rfl, rfl, rfl, fun _ => rfl, fun e => absurd h e⟩
  · rw [if_neg h]
    exact ⟨rfl, rfl, rfl, fun e => absurd e h, fun _ => rfl⟩
theorem law_next {bs : List (Kd × Str)} {ps : List Pt} (h : Inp bs ps) {s s' : HouS} {k : Nat} (hs : LawAt bs ps s k) {p : Pt} (hp : ps[k]? = some p) {x : BxS} (hx : s.bx[p.at_]? = some x) (ek : x.k = p.b.1) (en : x.nm = p.b.2) {st : List El} (hj : joinK x.k x.st (putEl x.k.w p.ns) = some st) {ln : Nat} (hn : HouNext (stepH s) p.at_ x ln (putEl x.k.w p.ns) s') :
    LawAt bs ps s' (k + 1) ∧ s'.bx.map (·.st) = (s.bx.map (·.st)).set p.at_ st ∧ s'.h = s.h := by
  have hm := List.mem_of_getElem? hp
  have hpt := h.put p hm
  have hlt := (List.getElem?_eq_some_iff.mp hp).1
  have hfew := h.few
  have hput : okPut x.k (putEl x.k.w p.ns) := by rw [ek]; exact hpt.put
  have hat := next_at hs.at_ (by omega) hx hput hn
  have hsh := (next_bx hn).2
  unfold HouNext at hn
  rw [hj] at hn
  have hn : s' = setB (stepH s) p.at_ { x with st := st, es := x.es ++ [(.tuple [], .int (ln : Nat), putEl x.k.w p.ns)] } := hn
  obtain ⟨z1, z2, z3, z4, z5⟩ := stepS_at s.th
  have hth : s'.th = nextS s.th := by rw [hn]; rfl
  have hpl : s.th.g.puts.length = ps.length := by
    rw [hs.at_.ok.th, hs.g]
    exact putsL_len _ _
  refine ⟨⟨hat, by rw [hn]; exact hs.torn, ?_, by rw [hn]; exact hs.g, ?_, ?_, fun hk => ?_, fun hk => ?_⟩, ?_, hsh⟩
  · rw [hn, ← hs.bx]
    exact map_set_same (f := fun b : BxS => (b.k, b.nm)) (b' := { x with st := st, es := x.es ++ [(.tuple [], .int (ln : Nat), putEl x.k.w p.ns)] }) hx rfl
  · rw [hth, z1, hs.ix]
  · rw [hth, z2]
    have := hs.left
    omega
  · rw [hth, z5 (by rw [z1, hs.ix, hpl]; omega)]
    exact hs.fin hlt
  · rw [hth]
    exact z4 (by rw [z1, hs.ix, hpl]; omega)
  · rw [hn]
    exact List.map_set
theorem law_torn {s s' : HouS} {i : Nat} {x : BxS} {ln : Nat} {other : List El} (hok : HouOk s) (hj : joinK x.k x.st other = none) (hn : HouNext (stepH s) i x ln other s') : (∃ q, s'.torn = .raw (.ref q)) ∧ s'.bx = s.bx ∧ s'.h = s.h ∧ HouOk s' := by
  unfold HouNext at hn
  rw [hj] at hn
  obtain ⟨q, rfl⟩ := hn
  have := step_ok hok
  exact ⟨⟨q, rfl⟩, rfl, rfl, this.good, this.boxes, this.st, this.es, this.few, this.th⟩
end SJ
set_option maxRecDepth 100000
set_option maxHeartbeats 4000000
/-! Y7: the law's turns. -/
namespace SJ
open PySem PySem.Spec PyProof.Rows L2
section
variable {X : Cx} {Γ : List SD} {call : Expr} {pos : Pos} {CK : Kd → Addr} {CH CT : Addr}
theorem d_clashed {s : HouS} {n : Expr} {b : Bool} (j : Nat) (hj : Γ[j]? = some (.rg (.ref s.h) (houC CK CH CT s))) (ht : (s.torn = .dat .none ∧ b = false) ∨ ((∃ q, s.torn = .raw (.ref q)) ∧ b = true)) (hp : PE X call (tMeth CH "clashed" (SpG X.K (Pre_clashed CK CH CT) Post_clashed) [] E0 (tR X.K Γ (.ref s.h)) tNil)) (hn : DE X Γ n .none) (hm : behindInMarks .IsNot n = false := by first | rfl | exact nomark _) : DE X Γ (.Compare call [.IsNot] [n] pos) (.bool b) :=
  (pe_cmpR op_notN hp hn hm).imp fun σ H Q ⟨G, env, k⟩ => ⟨G, env, fun G1 H1 g1 => by
    have env1 := env.up g1
    have hc : cellAt Γ j 0 = some (s.h, .ins CH (houF s)) := by unfold cellAt; rw [hj]; rfl
    obtain ⟨dx, ws0, z1, z2⟩ := recv env1 hc (m := "clashed") rfl
    obtain ⟨Gt, t1, t2, t3⟩ := env1.lend hj
    refine ⟨s.h, dx, ws0, rfl, z1, z2, ?_⟩
    show SpG X.K (Pre_clashed CK CH CT) Post_clashed (V.ref s.h :: ([] ++ [])) H1 _ E0
    have no : ∀ a, ¬ ownG [houR CK CH CT s] a := fun a z => ownG_none (c0 := houR CK CH CT s) (ds := []) (fun _ z => z) a z
    refine spG_of (ix := s) (Γa := [houR CK CH CT s]) ⟨ht.elim (fun h => .inl h.1) (fun h => .inr h.1), rfl⟩ (args_env (us := []) (Γx := []) t2 ⟨rfl, t3⟩ rfl (fun i c e => by cases e) (fun i j c e a z => by cases z) fun i c a e => by cases e) fun G' H' Γ' σ' c r hq s' hr fr => ?_
    have hh : Same H1 H' := fun a o z => s'.gr.h a o (by rw [hole_out (no a)]; exact z)
    have hH := g1.h.trans hh
    have gg : Gr G H G H' := ⟨Same.refl _, hH, env.s.trans hH, fun _ _ _ z => z⟩
    refine ⟨G, env.up gg, fun G2 H2 y g2 q2 => ⟨q2.noneE, ?_⟩⟩
    have fin : ∀ c : Bool, c = b → Q (.bl c) H2 := fun c e => e ▸ k G2 H2 _ (gg.trans g2) (.bl _)
    rcases ht with ⟨h1, h2⟩ | ⟨⟨q, h1⟩, h2⟩
    · have := hq.1 h1
      subst this
      obtain ⟨_, e1, e2⟩ := hr
      cases e1
      cases e2
      exact fin _ h2.symm
    · have := hq.2 q h1
      subst this
      cases (show some r = some (.ref q) from hr)
      exact fin _ h2.symm⟩
theorem st_callS {s : HouS} (j : Nat) (hs : HouOk s) (hj : Γ[j]? = some (.rg (.ref s.h) (houC CK CH CT s))) (hp : PE X call (tMeth CH "states" (SpG X.K (Pre_states CK CH CT) Post_states) [] E0 (tR X.K Γ (.ref s.h)) tNil)) : PE X call (tStD X.K Γ ((s.bx.map (·.st)).map stD)) := by
  rw [List.map_map]
  exact st_callD j hs hj hp
end
section
variable {P : Program} {w : World} {K : PySem.W.Frag} {mg : Str → Option Value} {base : Heap} {f : Addr} {fd : FuncData} {CK : Kd → Addr} {CH CT : Addr}
abbrev G_boxesL (P : Program) (w : World) (K : PySem.W.Frag) (mg : Str → Option Value) (base : Heap) : Prop := GFn P w K mg base "_law_boxes" 2 (SpD K R_boxesL)
structure LawG (P : Program) (w : World) (K : PySem.W.Frag) (mg : Str → Option Value) (base : Heap) (CK : Kd → Addr) (CH CT : Addr) : Prop where
  T : Tx K mg
  cell : G_cell P w K mg base
  spread : G_spread P w K mg base
  boxes : G_boxesL P w K mg base
  put : G_putLaw P w K mg base
  states : G_statesL P w K mg base
  read : G_read P w K mg base
  house : M_House P w K mg base CK CH CT
  tr : G_tr P w K mg base CK CH CT
  joined : G_joinedL P w K mg base
  alike : G_alike P w K mg base
  mstates : M_states P w K mg base CK CH CT
  clashed : M_clashed P w K mg base CK CH CT
  ready : M_ready P w K mg base CK CH CT
abbrev NL : List Str := ["_law_script", "_law_boxes_here", "_law_states_here", "_law_puts", "_law_cell", "_law_at", "_law_kind", "_law_box", "_law_lines", "_law_numbers", "_law_number_here", "_law_state", "_law_due", "_law_program", "_law_house", "_law_k", "_law_joined_here"]
theorem sc_law : FnScope NL ["_law_script"] (defScope s_law) := ⟨rfl, rfl, rfl, by decide +kernel, rfl, by decide +kernel, by decide +kernel⟩
abbrev cxL (P : Program) (w : World) (K : PySem.W.Frag) (mg : Str → Option Value) (base : Heap) (f : Addr) (cdv : Value) (A : Around) (outer : List Env) (s0 : Shared) (H : Hp) (E : XK) : Cx := cxD P w K mg base NL d_law.qual d_law.scope f cdv A outer s0 H E
/-- the law's ends -/
abbrev PoL : Po := ⟨fun _ => PyData.bool true = .none, fun _ c => FrR c (.bool true), fun _ => False, fun _ => False⟩
/-- the slots in the law's turns -/
abbrev ΓL (CK : Kd → Addr) (CH CT : Addr) (c0 c2 c4 c5 c6 c7 c8 c9 c10 c11 c13 c15 c16 : SD) (bs : List (Kd × Str)) (ps : List Pt) (l : Addr) (due : List (List El)) (s : HouS) : List SD :=
  [c0, .dat (.list (bs.map kbD)), c2, .dat (.list (ps.map ptD)), c4, c5, c6, c7, c8, c9, c10, c11, .ml l (due.map stD), c13, .rg (.ref s.h) (houC CK CH CT s), c15, c16]
theorem law_loop (L : LawG P w K mg base CK CH CT) {cdv : Value} {A : Around} {outer : List Env} {s0 : Shared} {H : Hp} {E : XK} (hr : Room 10 (cxL P w K mg base f cdv A outer s0 H E).A) {bs : List (Kd × Str)} {ps : List Pt} (h : Inp bs ps) {c0 c2 c4 c5 c6 c7 c8 c9 c10 c11 c13 c15 c16 : SD} {l : Addr} {s : HouS} (hs : LawAt bs ps s 0) :
    DS (cxL P w K mg base f cdv A outer s0 H E) (ΓL CK CH CT c0 c2 c4 c5 c6 c7 c8 c9 c10 c11 c13 c15 c16 bs ps l (s.bx.map (·.st)) s) ((defBody s_law).drop 12) PoL := by
  have hu := hr.units
  have hbl : bs.length ≤ 4 := h.hi
  have bxl : ∀ {s : HouS} {k : Nat}, LawAt bs ps s k → s.bx.length = bs.length := fun hs => by rw [← hs.bx, List.length_map]
  have hj14 : ∀ {s : HouS} {c5 c6 c7 c9 c11 c15 c16 : SD}, (ΓL CK CH CT c0 c2 c4 c5 c6 c7 c8 c9 c10 c11 c13 c15 c16 bs ps l (s.bx.map (·.st)) s)[14]? = some (.rg (.ref s.h) (houC CK CH CT s)) := rfl
  refine ds_forN 15 (fun i Γ => ∃ s c5 c6 c7 c9 c11 c15 c16, Γ = ΓL CK CH CT c0 c2 c4 c5 c6 c7 c8 c9 c10 c11 c13 c15 c16 bs ps l (s.bx.map (·.st)) s ∧ LawAt bs ps s i) (di_range1 L.T.f_range (d_lenL L.T.f_len (d_var 3 rfl)) (by rw [List.length_map]; omega) (by rw [List.length_map]; have := h.few; omega)) ⟨s, _, _, _, _, _, _, _, rfl, hs⟩ (fun k d Γ1 hd hi => ?_) (fun Γ1 hi => ?_) sc_law.nd
  · obtain ⟨s, c5, c6, c7, c9, c11, c15, c16, rfl, hs⟩ := hi
    unfold rangeD at hd
    rw [List.getElem?_map] at hd
    cases hx : (List.range (((ps.map ptD).length : Nat) : Int).toNat)[k]? with
    | none => rw [hx] at hd; cases hd
    | some m =>
      rw [hx] at hd
      cases hd
      obtain ⟨h1, h2⟩ := List.getElem?_eq_some_iff.mp hx
      rw [List.getElem_range] at h2
      rw [List.length_range, List.length_map] at h1
      subst h2
      have hk : k < ps.length := by omega
      have hp : ps[k]? = some ps[k] := List.getElem?_eq_getElem hk
      obtain ⟨p, hpe⟩ : ∃ p, p = ps[k] := ⟨_, rfl⟩
      rw [← hpe] at hp
      have hpt := h.put p (List.mem_of_getElem? hp)
      obtain ⟨x, hx, ek, en⟩ := law_box hs hpt.box
      have z : (PyData.int (0 + ((k : Nat) : Int)) : PyData) = .int ((k : Nat) : Int) := by congr 1; omega
      show DS _ (List.set _ 15 (SD.dat (PyData.int (0 + ((k : Nat) : Int))))) _ _
      rw [z]
      refine ds_asg (d := ptD p) (d_ixL (d_var 3 rfl) (d_var 15 rfl) (atI_nat (j := k) (by rw [List.getElem?_map, hp]; rfl))) (pg_pr (i := 5) (j := 9) rfl sc_law.nd rfl rfl (Or.inl rfl) (Or.inl rfl) (Or.inl rfl) (Or.inl rfl)) (tg_pr 5 9) (pr_ad 5 9) rfl ?_
      refine ds_asg (d := kbD p.b) (d_ixL (d_var 1 rfl) (d_var 5 rfl) (atI_nat (j := p.at_) (by rw [List.getElem?_map, hpt.box]; rfl))) (pg_pr (i := 6) (j := 7) rfl sc_law.nd rfl rfl (Or.inl rfl) (Or.inl rfl) (Or.inl rfl) (Or.inl rfl)) (tg_pr 6 7) (pr_ad 6 7) rfl ?_
      refine ds_ifTR (ix := ⟨s, p.at_, x, ⟨bs.length + 2 + k, p.b.2, p.ns⟩, putEl x.k.w p.ns, k⟩) 14 L.tr (hr.mono (by decide)) (re_var (v := .ref s.h) 14) rfl (da_cons (d_is (d_bin (d_bin (d_lenL L.T.f_len (d_var 1 rfl)) d_int o_addI) (d_var 15 rfl) o_addI) (d' := .int ((bs.length + 2 + k : Nat) : Int)) (by rw [List.length_map]; congr 1)) (da_cons (d_var 6 rfl) (da_cons (d_var 7 rfl) (da_cons (d_var 9 rfl) da_nil)))) rfl (law_pre h hs hp hx ek en) (fun s' hn => ?_)
      have hput : okPut p.b.1 (putEl p.b.1.w p.ns) := hpt.put
      have hxm := List.mem_of_getElem? hx
      have hst : okSt p.b.1 x.st := ek ▸ hs.at_.ok.st x hxm
      have hxat : ((s.bx.map (·.st)).map stD)[p.at_]? = some (stD x.st) := by rw [List.getElem?_map, List.getElem?_map, hx]; rfl
      have hat : p.at_ < ((s.bx.map (·.st)).map stD).length := (List.getElem?_eq_some_iff.mp hxat).1
      have hh := (next_bx hn).2
      rw [← hh]
      show DS (cxL P w K mg base f cdv A outer s0 H E) (ΓL CK CH CT c0 c2 c4 (.dat (.int (p.at_ : Nat))) (.dat (.str p.b.1.w)) (.dat (.str p.b.2)) c8 (.dat (.list (intsD p.ns))) c10 c11 c13 (.dat (.int ((k : Nat) : Int))) c16 bs ps l (s.bx.map (·.st)) s') _ _
      refine ds_set 11 (d := stD (putEl p.b.1.w p.ns)) ?_ ?_ sc_law.nd
      · by_cases hm : p.b.1.w = "map"
        · have hmk : p.b.1 = .map := by
            cases hk : p.b.1 with
            | map => rfl
            | most => rw [hk] at hm; exact absurd hm (by decide)
            | set => rw [hk] at hm; exact absurd hm (by decide)
            | once => rw [hk] at hm; exact absurd hm (by decide)
            | row => rw [hk] at hm; exact absurd hm (by decide)
          obtain ⟨a, c, hac⟩ : ∃ a c, p.ns = [a, c] := by
            have := hpt.two hmk
            match h2 : p.ns, this with
            | [a, c], _ => exact ⟨a, c, rfl⟩
          rw [hac, hm]
          exact d_ifT (dt_is (dt_cmp (d_var 6 rfl) d_str o_eqS) (by simp)) (d_is (d_lst (da_cons (d_tup (da_cons (d_ixL (d_var 9 rfl) d_int (d := .int (a : Nat)) rfl) (da_cons (d_ixL (d_var 9 rfl) d_int (d := .int (c : Nat)) rfl) da_nil))) da_nil)) rfl)
        · have e : stD (putEl p.b.1.w p.ns) = .list (intsD p.ns) := by
            unfold putEl
            rw [if_neg hm]
            exact stD_nums _
          rw [e]
          exact d_ifF (dt_is (dt_cmp (d_var 6 rfl) d_str o_eqS) (by simp [hm])) (d_var 9 rfl)
      refine ds_set 16 (d := optD (joinK p.b.1 x.st (putEl p.b.1.w p.ns))) (d_call L.joined (hr.mono (by decide)) (da_cons (d_var 6 rfl) (da_cons (d_ixM 12 (re_var (v := .ref l) 12) rfl (d_var 5 rfl) (atI_nat (j := p.at_) hxat)) (da_cons (d_var 11 rfl) da_nil))) ⟨p.b.1, x.st, _, hst, hput, rfl, rfl⟩) ?_ sc_law.nd
      cases hj : joinK p.b.1 x.st (putEl p.b.1.w p.ns) with
      | none =>
        obtain ⟨t1, t2, t3, t4⟩ := law_torn hs.at_.ok (by rw [ek]; exact hj) hn
        refine ds_ifT (dt_is (dt_cmp (d_var 16 rfl) d_non o_isN) rfl) ?_
        rw [← t2]
        have hl : s'.bx.length = bs.length := by rw [t2]; exact bxl hs
        exact ds_ret (d_is (d_and (d_clashed (s := s') 14 rfl (.inr ⟨t1, rfl⟩) (m_call0 L.clashed (hr.mono (by decide)) (re_var (v := .ref s'.h) 14)) d_non) (d_and (c := true) (d_alike (l := l) (sts := s'.bx.map (·.st)) 12 L.alike (hr.mono (by decide)) (st_callS (s := s') 14 t4 rfl (m_call0 L.mstates (hr.mono (by decide)) (re_var (v := .ref s'.h) 14))) (re_var (v := .ref l) 12) rfl (by rw [List.length_map]; omega)) (d_one (d_is (d_cmp (d_ready (s := s') 14 rfl (.inl t1) (m_call0 L.ready (hr.mono (by decide)) (re_var (v := .ref s'.h) 14))) (d_lst da_nil) (o_eqD hu rfl rfl)) rfl)))) rfl) (.inl ⟨rfl, trivial⟩)
      | some st =>
        obtain ⟨hs', hbx, _⟩ := law_next h hs hp hx ek en (st := st) (by rw [ek]; exact hj) hn
        have hl := bxl hs'
        refine ds_skip (dt_is (dt_cmp (d_var 16 rfl) d_non o_isN) rfl) ?_
        refine ds_mlset 12 (n := p.at_) (d_var 16 rfl) (re_var (v := .ref l) 12) (d_var 5 rfl) rfl hat ?_
        have e : ((s.bx.map (·.st)).map stD).set p.at_ (stD st) = (s'.bx.map (·.st)).map stD := by rw [hbx, List.map_set]
        show DS _ (List.set _ 12 (.ml l (((s.bx.map (·.st)).map stD).set p.at_ (stD st)))) _ _
        rw [e]
        exact ds_skip (PW.pt (dw_or (dt_clashed (s := s') 14 rfl (.inl ⟨hs'.torn, rfl⟩) (m_call0 L.clashed (hr.mono (by decide)) (re_var (v := .ref s'.h) 14)) d_non) (dw_or1 (dt_is (dt_not (dt_val (d_alike (l := l) (sts := s'.bx.map (·.st)) 12 L.alike (hr.mono (by decide)) (st_callS (s := s') 14 hs'.at_.ok rfl (m_call0 L.mstates (hr.mono (by decide)) (re_var (v := .ref s'.h) 14))) (re_var (v := .ref l) 12) rfl (by rw [List.length_map]; omega)))) rfl)))) (ds_nil ⟨s', _, _, _, _, _, _, _, rfl, hs'⟩)
  · obtain ⟨s, c5, c6, c7, c9, c11, c15, c16, rfl, hs⟩ := hi
    unfold rangeD at hs
    rw [List.length_map, List.length_range, List.length_map] at hs
    have hs : LawAt bs ps s ps.length := hs
    have hl := bxl hs
    refine ds_ret (d_is (d_and (d_is (d_cmp (d_ready 14 rfl (.inr ⟨hs.torn, hs.fin2 rfl⟩) (m_call0 L.ready (hr.mono (by decide)) (re_var (v := .ref s.h) 14))) (d_lst da_nil) (o_eqD hu rfl rfl)) rfl) (d_one (d_alike (l := l) (sts := s.bx.map (·.st)) 12 L.alike (hr.mono (by decide)) (st_callS 14 hs.at_.ok rfl (m_call0 L.mstates (hr.mono (by decide)) (re_var (v := .ref s.h) 14))) (re_var (v := .ref l) 12) rfl (by rw [List.length_map]; omega)))) rfl) (.inl ⟨rfl, trivial⟩)
end
end SJ
set_option maxRecDepth 100000
set_option maxHeartbeats 4000000
/-! Y8: the law makes the house, and changes what it handed in. -/
namespace SJ
open PySem PySem.Spec PyProof.Rows L2
/-- what the law hands in -/
def Told (bs : List (Kd × Str)) (n : Nat) (c : SD) : Prop := (n % 3 > 0 ∧ c = .dat .none) ∨ (¬ n % 3 > 0 ∧ ∃ q ls, ls.length = 5 ∧ c = .rg (.ref q) (hndC q ls bs fun k => (toldS (n / 3) k).map El.d))
def toldD (bs : List (Kd × Str)) (n : Nat) : PyData := match toldO bs n with
  | none => .none
  | some ss => .list (ss.map stD)
theorem lk_at {q : Addr} {ls : List Addr} {bs : List (Kd × Str)} {ess : List (List PyData)} (hl : ls.length = 5) (he : ess.length = 5) (k : Kd) : ∃ es, ess[k.ix]? = some es ∧ (llC ls ess)[k.ix]? = some (lkOf ls k, .lst (es.map .dat)) := by
  match ls, hl, ess, he with
  | [l0, l1, l2, l3, l4], _, [e0, e1, e2, e3, e4], _ => cases k <;> exact ⟨_, rfl, rfl⟩
theorem ll_set {q : Addr} {c : Cell} {ls : List Addr} {ess : List (List PyData)} (hl : ls.length = 5) (he : ess.length = 5) {k : Kd} {es : List PyData} {d : PyData} (e1 : ess[k.ix]? = some es) : ((q, c) :: llC ls ess).set (1 + k.ix) (lkOf ls k, .lst (es.map .dat ++ [.dat d])) = (q, c) :: llC ls (ess.set k.ix (es ++ [d])) := by
  have e2 : es.map Fv.dat ++ [Fv.dat d] = (es ++ [d]).map Fv.dat := by rw [List.map_append]; rfl
  rw [e2]
  match ls, hl, ess, he with
  | [l0, l1, l2, l3, l4], _, [e0, e1, e2, e3, e4], _ => cases k <;> rfl
theorem all_dq {K : PySem.W.Frag} {H : Hp} {ls : List Addr} {f : Kd → List PyData} (h : ∀ k : Kd, Dq K H (.ref (lkOf ls k)) (.list (f k))) : ∀ bs : List (Kd × Str), DqAll K H (bs.map fun b => V.ref (lkOf ls b.1)) (bs.map fun b => .list (f b.1))
  | [] => .nil
  | b :: bs => .cons (h b.1) (all_dq h bs)
theorem hnd_dq {K : PySem.W.Frag} {G H : Hp} {q : Addr} {ls : List Addr} {bs : List (Kd × Str)} {f : Kd → List PyData} (s : Same G H) (hl : ls.length = 5) (r : RgOk K G H (hndC q ls bs f)) : Dq K H (.ref q) (.list (bs.map fun b => .list (f b.1))) := by
  obtain ⟨_, u, h1, ws, rfl, h2⟩ := r.at_ _ List.mem_cons_self
  have e := raws_eq h2
  subst e
  refine .lst h1 ?_
  have at_ : ∀ k : Kd, Dq K H (.ref (lkOf ls k)) (.list (f k)) := fun k => by
    obtain ⟨es, e1, e2⟩ := lk_at (q := q) (bs := bs) hl (show (kds.map f).length = 5 from rfl) k
    have e3 : es = f k := by
      rw [List.getElem?_map] at e1
      cases k <;> (cases e1; rfl)
    subst e3
    obtain ⟨_, u, h3, ws, rfl, h4⟩ := r.at_ _ (List.mem_cons_of_mem _ (List.mem_of_getElem? e2))
    exact .lst h3 ((paired_dats h4).up s)
  exact all_dq at_ bs
theorem told_dq {K : PySem.W.Frag} {bs : List (Kd × Str)} {n : Nat} {c : SD} (h : Told bs n c) : ∀ G H o, Same G H → SOk K G H c o → ∃ v, o = some v ∧ Dq K H v (toldD bs n) := fun G H o s z => by
  rcases h with ⟨h1, rfl⟩ | ⟨h1, q, ls, hl, rfl⟩
  · obtain ⟨v, e, d⟩ := z
    refine ⟨v, e, ?_⟩
    unfold toldD toldO
    rw [if_pos h1]
    exact d.up s
  · obtain ⟨e, r⟩ := z
    refine ⟨_, e, ?_⟩
    unfold toldD toldO
    rw [if_neg h1]
    show Dq K H (.ref q) (.list ((bs.map fun b => toldS (n / 3) b.1).map stD))
    rw [List.map_map]
    exact hnd_dq s hl r
section
variable {P : Program} {w : World} {K : PySem.W.Frag} {mg : Str → Option Value} {base : Heap} {f : Addr} {fd : FuncData} {CK : Kd → Addr} {CH CT : Addr}
theorem law_change (L : LawG P w K mg base CK CH CT) {cdv : Value} {A : Around} {outer : List Env} {s0 : Shared} {H : Hp} {E : XK} (hr : Room 10 (cxL P w K mg base f cdv A outer s0 H E).A) {bs : List (Kd × Str)} {ps : List Pt} (h : Inp bs ps) {c0 c2 c4 c5 c6 c7 c8 c9 c10 c11 c13 c15 c16 : SD} {l : Addr} {s : HouS} (hs : LawAt bs ps s 0) {n : Nat} (ht : Told bs n c2) :
    DS (cxL P w K mg base f cdv A outer s0 H E) (ΓL CK CH CT c0 c2 c4 c5 c6 c7 c8 c9 c10 c11 c13 c15 c16 bs ps l (s.bx.map (·.st)) s) ((defBody s_law).drop 11) PoL := by
  rcases ht with ⟨h1, rfl⟩ | ⟨h1, q, ls, hl, rfl⟩
  · exact ds_skip (dt_is (dt_cmp (d_var 2 rfl) d_non o_notN) rfl) (law_loop L hr h hs)
  · refine ds_ifT (dt_rawNot (re_var (v := .ref q) 2) d_non) ?_
    have h4 := h.hi
    refine ds_forW (q := q) 11 2 (rs := bs.map fun b => V.ref (lkOf ls b.1)) (fun m Γ => ∃ ess c11, ess.length = 5 ∧ (∀ es ∈ ess, es.length ≤ 2 + m) ∧ Γ = ΓL CK CH CT c0 (.rg (.ref q) ((q, .lst ((bs.map fun b => V.ref (lkOf ls b.1)).map .raw)) :: llC ls ess)) c4 c5 c6 c7 c8 c9 c10 c11 c13 c15 c16 bs ps l (s.bx.map (·.st)) s) (re_var (v := .ref q) 2) (fun m Γ1 hi => ?_) ⟨_, c11, rfl, fun es m => ?_, rfl⟩ (fun m r Γ1 hr1 hi => ?_) (fun Γ1 hi => ?_) sc_law.nd
    · obtain ⟨ess, c11, _, _, rfl⟩ := hi
      rfl
    · obtain ⟨k, _, rfl⟩ := List.mem_map.mp m
      rw [List.length_map]
      exact toldS_len _ _
    · obtain ⟨ess, c11, h5, h6, rfl⟩ := hi
      rw [List.getElem?_map] at hr1
      cases hb : bs[m]? with
      | none => rw [hb] at hr1; cases hr1
      | some b =>
        rw [hb] at hr1
        cases hr1
        obtain ⟨es, e1, e2⟩ := lk_at (q := q) (bs := bs) hl h5 b.1
        have hm : m < bs.length := (List.getElem?_eq_some_iff.mp hb).1
        have h7 := h6 es (List.mem_of_getElem? e1)
        refine ds_capp 2 (1 + b.1.ix) (a := lkOf ls b.1) (xs := es.map .dat) (re_var (v := .ref (lkOf ls b.1)) 11) d_int ?_ (by rw [List.length_map]; omega) rfl (by rw [Nat.add_comm]; exact e2)
        refine ds_nil ⟨ess.set b.1.ix (es ++ [.int 999999998]), .raw (.ref (lkOf ls b.1)), by rw [List.length_set]; exact h5, fun x mx => ?_, ?_⟩
        · rcases mem_set mx with rfl | mx
          · rw [List.length_append, List.length_singleton]; omega
          · have := h6 x mx; omega
        · have e3 : ((q, Cell.lst ((bs.map fun b => V.ref (lkOf ls b.1)).map .raw)) :: llC ls ess).set (1 + b.1.ix) (lkOf ls b.1, .lst (es.map .dat ++ [.dat (.int 999999998)])) = (q, Cell.lst ((bs.map fun b => V.ref (lkOf ls b.1)).map .raw)) :: llC ls (ess.set b.1.ix (es ++ [.int 999999998])) := by
            exact ll_set hl h5 e1
          show ΓL CK CH CT c0 (.rg (.ref q) (((q, Cell.lst ((bs.map fun b => V.ref (lkOf ls b.1)).map .raw)) :: llC ls ess).set (1 + b.1.ix) (lkOf ls b.1, .lst (es.map .dat ++ [.dat (.int 999999998)])))) c4 c5 c6 c7 c8 c9 c10 (.raw (.ref (lkOf ls b.1))) c13 c15 c16 bs ps l (s.bx.map (·.st)) s = _
          rw [e3]
    · obtain ⟨ess, c11, _, _, rfl⟩ := hi
      exact ds_nil (law_loop L hr h hs)
/-- the house -/
theorem law_house (L : LawG P w K mg base CK CH CT) {cdv : Value} {A : Around} {outer : List Env} {s0 : Shared} {H : Hp} {E : XK} (hr : Room 10 (cxL P w K mg base f cdv A outer s0 H E).A) {bs : List (Kd × Str)} {ps : List Pt} (h : Inp bs ps) {c0 c2 c4 c5 c6 c7 c8 c9 c10 c11 c14 c15 c16 : SD} {l : Addr} {Gx : Hp} {n : Nat} (ht : Told bs n c2) :
    DS (cxL P w K mg base f cdv A outer s0 H E) [c0, .dat (.list (bs.map kbD)), c2, .dat (.list (ps.map ptD)), c4, c5, c6, c7, c8, c9, c10, c11, .ml l ((stsOf bs (toldO bs n)).map stD), .od Gx (pgL bs ps).d, c14, c15, c16] ((defBody s_law).drop 8) PoL := by
  refine ds_house 14 13 2 (dst := toldD bs n) L.house hr (d_is (d_bin (d_lenL L.T.f_len (d_var 3 rfl)) d_int o_addI) (d' := .int ((ps.length + 3 : Nat) : Int)) (by rw [List.length_map]; congr 1)) rfl rfl (told_dq ht) (pre_house h n) (fun y B hB => ?_) sc_law.nd
  obtain ⟨s, rfl, rfl, hs, e⟩ := law_start h hB
  rw [← e]
  refine ds_clear2 13 rfl ?_
  exact law_change L hr h hs ht
end
end SJ
set_option maxRecDepth 100000
set_option maxHeartbeats 4000000
/-! Y9: the law. -/
namespace SJ
open PySem PySem.Spec PyProof.Rows L2
theorem sum_le {b : Nat} : ∀ {ws : List Str}, (∀ w ∈ ws, w.length ≤ b) → (ws.map (·.length)).sum ≤ ws.length * b
  | [], _ => Nat.zero_le _
  | w :: ws, h => by
    have h1 := h w List.mem_cons_self
    have h2 := sum_le (ws := ws) fun x m => h x (List.mem_cons_of_mem _ m)
    rw [List.map_cons, List.sum_cons, List.length_cons, Nat.add_mul]
    omega
theorem cut_few (ns : List Int) : (cutA ns (some 2) (some 40)).length ≤ 38 := by
  unfold cutA
  have e1 : HT.sIx ns.length 0 (some ((2 : Nat) : Int)) = min 2 ns.length := HT.sIx_nat _ _ _
  have e2 : HT.sIx ns.length ns.length (some ((40 : Nat) : Int)) = min 40 ns.length := HT.sIx_nat _ _ _
  rw [List.length_take, show HT.sIx ns.length 0 (some 2) = _ from e1, show HT.sIx ns.length ns.length (some 40) = _ from e2]
  omega
def psL (ns : List Int) : List Pt := (cutA ns (some 2) (some 40)).map (ptL (bxL (cellL ns 0)))
theorem law_inp (ns : List Int) : Inp (bxL (cellL ns 0)) (psL ns) := by
  have h := bxL_len (cellL ns 0)
  refine ⟨h.1, h.2, fun b m => bxL_ok m, bxL_nd _, ?_, fun p m => ?_⟩
  · unfold psL
    rw [List.length_map]
    exact cut_few ns
  · obtain ⟨c, _, rfl⟩ := List.mem_map.mp m
    exact (ptL_ok h.1 c).1
section
variable {P : Program} {w : World} {K : PySem.W.Frag} {mg : Str → Option Value} {base : Heap} {f : Addr} {fd : FuncData} {CK : Kd → Addr} {CH CT : Addr}
/-- the due states and what is read -/
theorem law_due (L : LawG P w K mg base CK CH CT) {cdv : Value} {A : Around} {outer : List Env} {s0 : Shared} {H : Hp} {E : XK} (hr : Room 10 (cxL P w K mg base f cdv A outer s0 H E).A) {bs : List (Kd × Str)} {ps : List Pt} (h : Inp bs ps) {c0 c2 c4 c5 c6 c7 c9 c10 c11 c12 c13 c14 c15 c16 : SD} {n : Nat} (ht : Told bs n c2) :
    DS (cxL P w K mg base f cdv A outer s0 H E) [c0, .dat (.list (bs.map kbD)), c2, .dat (.list (ps.map ptD)), c4, c5, c6, c7, .dat (.list (((bs.map lnB ++ ([("job main" : Str)] : List Str)) ++ ps.map lnP).map .str)), c9, c10, c11, c12, c13, c14, c15, c16] ((defBody s_law).drop 6) PoL := by
  have h4 := h.hi
  have hl := lnsL_len h
  have rest : ∀ {l : Addr}, DS (cxL P w K mg base f cdv A outer s0 H E) [c0, .dat (.list (bs.map kbD)), c2, .dat (.list (ps.map ptD)), c4, c5, c6, c7, .dat (.list (((bs.map lnB ++ ([("job main" : Str)] : List Str)) ++ ps.map lnP).map .str)), c9, c10, c11, .ml l ((stsOf bs (toldO bs n)).map stD), c13, c14, c15, c16] ((defBody s_law).drop 7) PoL := fun {l} => by
    refine ds_setF 13 (f_callD L.read (hr.mono (by decide)) (da_cons (d_join (ys := lnsL bs ps) d_str (d_is (d_bin (d_var 8 rfl) (d_lst (da_cons d_str da_nil)) (o_catL (by simp only [List.length_map, List.length_append, List.length_cons, List.length_nil]; have := h.few; omega))) (congrArg PyData.list ?_)) ?_) da_nil) (fun d m => by rw [List.mem_singleton.mp m]; trivial) (read_ok h)) (fun Gx => ?_) sc_law.nd
    · unfold lnsL
      rw [List.map_append (l₂ := ([("end" : Str)] : List Str))]
      rfl
    · have z := sum_le (b := 60) (ws := lnsL bs ps) fun x m => lnsL_short h m
      have e : ("\n" : Str).length = 1 := by decide +kernel
      rw [e]
      omega
    · exact law_house L hr h ht
  rcases ht with ⟨h1, rfl⟩ | ⟨h1, q, ls, hls, rfl⟩
  · have e : stsOf bs (toldO bs n) = bs.map fun _ => [] := by unfold toldO; rw [if_pos h1]; rfl
    rw [e] at rest
    refine ds_setLE 12 (le_ifT (dt_is (dt_cmp (d_var 2 rfl) d_non o_isN) rfl) (le_lcE (es := (bs.map fun _ => ([] : List El)).map stD) 7 sc_law (di_list (d_var 1 rfl)) (by decide +kernel) (by simp only [List.length_map]) (by rw [List.length_map]; omega) fun j d e h1 h2 _ _ _ _ _ => ?_)) (fun l => rest) sc_law.nd
    rw [List.getElem?_map, List.getElem?_map] at h2
    cases hb : bs[j]? with
    | none => rw [hb] at h2; cases h2
    | some b =>
      rw [hb] at h2
      cases h2
      exact d_lst da_nil
  · have e : stsOf bs (toldO bs n) = bs.map fun b => toldS (n / 3) b.1 := by unfold toldO; rw [if_neg h1]; rfl
    rw [e] at rest
    refine ds_setLE 12 (le_ifF (dt_rawIs (re_var (v := .ref q) 2) d_non) (le_lcW (q := q) (es := (bs.map fun b : Kd × Str => toldS (n / 3) b.1).map stD) 11 2 (rs := bs.map fun b => V.ref (lkOf ls b.1)) sc_law (re_var (v := .ref q) 2) rfl (by decide +kernel) (by simp only [List.length_map]) (by rw [List.length_map]; omega) fun j r e h1 h2 _ _ _ _ _ => ?_)) (fun l => rest) sc_law.nd
    rw [List.getElem?_map] at h1
    rw [List.getElem?_map, List.getElem?_map] at h2
    cases hb : bs[j]? with
    | none => rw [hb] at h2; cases h2
    | some b =>
      rw [hb] at h1 h2
      cases h1
      cases h2
      obtain ⟨es, e1, e2⟩ := lk_at (q := q) (bs := bs) hls (show (kds.map fun k => (toldS (n / 3) k).map El.d).length = 5 from rfl) b.1
      have e3 : es = (toldS (n / 3) b.1).map El.d := by
        rw [List.getElem?_map] at e1
        revert e1
        cases b.1 <;> (intro e1; cases e1; rfl)
      subst e3
      exact d_listOfC 2 (1 + b.1.ix) L.T.f_list (re_var (v := .ref (lkOf ls b.1)) 11) (by show (_ :: llC ls _)[1 + b.1.ix]? = _; rw [Nat.add_comm]; exact e2)
/-- the lines of the puts -/
theorem law_lines (L : LawG P w K mg base CK CH CT) {cdv : Value} {A : Around} {outer : List Env} {s0 : Shared} {H : Hp} {E : XK} (hr : Room 10 (cxL P w K mg base f cdv A outer s0 H E).A) {bs : List (Kd × Str)} {ps : List Pt} (h : Inp bs ps) {c0 c2 c4 c5 c6 c7 c8 c9 c10 c11 c12 c13 c14 c15 c16 : SD} {n : Nat} (ht : Told bs n c2) :
    DS (cxL P w K mg base f cdv A outer s0 H E) [c0, .dat (.list (bs.map kbD)), c2, .dat (.list (ps.map ptD)), c4, c5, c6, c7, c8, c9, c10, c11, c12, c13, c14, c15, c16] ((defBody s_law).drop 4) PoL := by
  have h4 := h.hi
  have h38 := h.few
  refine ds_setLE 8 (es := (bs.map lnB ++ ([("job main" : Str)] : List Str)).map .str) (le_is (le_cat (d_lcP (es := bs.map fun b => .str (lnB b)) 6 7 sc_law (di_list (d_var 1 rfl)) (by decide +kernel) (by simp only [List.length_map]) (by rw [List.length_map]; omega) (fun m d e h1 h2 => ?_) rfl rfl rfl rfl (fun s H C cl fp => pg_pr rfl sc_law.nd rfl rfl (Or.inl rfl) (Or.inl rfl) (Or.inr rfl) (Or.inr rfl))) (d_lst (da_cons d_str da_nil)) (by simp only [List.length_map, List.length_cons, List.length_nil]; omega)) ?_) (fun l => ?_) sc_law.nd
  · rw [List.getElem?_map] at h1 h2
    cases hb : bs[m]? with
    | none => rw [hb] at h2; cases h2
    | some b =>
      rw [hb] at h1 h2
      cases h1
      cases h2
      have hk := len9_kd b.1
      have hn := (h.ok b (List.mem_of_getElem? hb)).len
      have e1 : (" " : Str).length = 1 := by decide +kernel
      have e2 : (b.1.w ++ " ").length = b.1.w.length + 1 := by
        rw [TL.len_tl, TL.tl_append, List.length_append, ← TL.len_tl, ← TL.len_tl, e1]
      refine ⟨.str b.1.w, .str b.2, rfl, fun _ _ _ _ _ => ?_⟩
      exact d_bin (d_bin (d_var 6 rfl) d_str (o_addS (by rw [e1]; exact Nat.le_trans (Nat.add_le_add_right hk 1) (by decide)))) (d_var 7 rfl) (o_addS (by rw [e2, hn]; exact Nat.le_trans (Nat.add_le_add_right (Nat.add_le_add_right hk 1) 5) (by decide)))
  · rw [List.map_append, List.map_map]
    rfl
  · refine ds_forP 5 9 (fun i Γ => ∃ c5 c9, Γ = [c0, .dat (.list (bs.map kbD)), c2, .dat (.list (ps.map ptD)), c4, c5, c6, c7, .ml l (((bs.map lnB ++ ([("job main" : Str)] : List Str)) ++ (ps.take i).map lnP).map .str), c9, c10, c11, c12, c13, c14, c15, c16]) (di_list (d_var 3 rfl)) ⟨c5, c9, by rw [List.take_zero, List.map_nil, List.append_nil]; rfl⟩ (fun i d Γ1 hd hi => ?_) (fun Γ1 hi => ?_) sc_law.nd
    · obtain ⟨c5, c9, rfl⟩ := hi
      rw [List.getElem?_map] at hd
      cases hp : ps[i]? with
      | none => rw [hp] at hd; cases hd
      | some p =>
        rw [hp] at hd
        cases hd
        have hm := List.mem_of_getElem? hp
        have hpt := h.put p hm
        refine ⟨_, _, rfl, ?_⟩
        refine ds_app 8 (ds := ((bs.map lnB ++ ([("job main" : Str)] : List Str)) ++ (ps.take i).map lnP).map .str) (d := .str (lnP p)) (d_join (ys := putW p.b.2 p.ns) d_str (d_is (d_bin (d_lst (da_cons d_str (da_cons (d_ixT (d_ixL (d_var 1 rfl) (d_var 5 rfl) (d := kbD p.b) (atI_nat (j := p.at_) (by rw [List.getElem?_map, hpt.box]; rfl))) d_int (d := .str p.b.2) at1) da_nil))) (d_lcE (es := p.ns.map fun n => .str (nT n)) 10 sc_law (di_list (d_var 9 rfl)) (by decide +kernel) (by show (p.ns.map _).length = (p.ns.map _).length; rw [List.length_map, List.length_map]) (by unfold intsD; rw [List.length_map]; have := hpt.hi; omega) fun j d e h1 h2 _ _ _ _ _ => ?_) (o_catL (by rw [List.length_map]; have := hpt.hi; show 2 + _ ≤ 100000; omega))) ?_) ?_) (ds_nil ⟨.dat (.int (p.at_ : Nat)), .dat (.list (intsD p.ns)), ?_⟩) (by simp only [List.length_map, List.length_append, List.length_cons, List.length_nil, List.length_take]; omega)
        · unfold intsD at h1
          rw [List.getElem?_map] at h1 h2
          cases hx : p.ns[j]? with
          | none => rw [hx] at h1; cases h1
          | some n =>
            rw [hx] at h1 h2
            cases h1
            cases h2
            have hn := hpt.num n (List.mem_of_getElem? hx)
            refine d_strOf L.T.f_str (d_var 10 rfl) ?_
            show Nat.log2 n < 1920
            have h9 : n < 1000000000 := hn
            by_cases h0 : n = 0
            · subst h0; decide
            · exact Nat.lt_of_lt_of_le ((Nat.log2_lt h0).mpr (Nat.lt_trans h9 (by decide : 1000000000 < 2 ^ 30))) (by decide)
        · show PyData.list _ = PyData.list ((([("put" : Str), p.b.2] : List Str) ++ p.ns.map nT).map .str)
          rw [List.map_append, List.map_map]
          rfl
        · have z := sum_le (b := 9) (ws := putW p.b.2 p.ns) fun x m => (wordsP h hm x m).2
          have zl : (putW p.b.2 p.ns).length ≤ 6 := by
            show (([("put" : Str), p.b.2] : List Str) ++ p.ns.map nT).length ≤ 6
            rw [List.length_append, List.length_map]
            have := hpt.hi
            show 2 + _ ≤ 6
            omega
          have e : (" " : Str).length = 1 := by decide +kernel
          rw [e]
          omega
        · have e : (((bs.map lnB ++ ([("job main" : Str)] : List Str)) ++ (ps.take i).map lnP).map PyData.str) ++ [.str (lnP p)] = ((bs.map lnB ++ ([("job main" : Str)] : List Str)) ++ (ps.take (i + 1)).map lnP).map .str := by
            rw [List.take_succ, hp]
            simp only [List.map_append, List.append_assoc]
            rfl
          rw [← e]
          rfl
    · obtain ⟨c5, c9, rfl⟩ := hi
      rw [List.length_map, List.take_length]
      exact ds_freeze 8 (law_due L hr h ht)
def Pre_law : Addr × List Int → List SD → Prop := fun (a, ns) Γ => ns.length ≤ 63 ∧ Γ = [.sq a (ns.map V.int)]
theorem ok_law (L : LawG P w K mg base CK CH CT) (F : FD K d_law f fd) : FnOk P w K mg base CX0 11 f fd ["_law_script"] (SpF K Pre_law (fun _ => .bool true)) := by
  refine fn_fresh F sc_law (fun (_, _) Γ h => by obtain ⟨_, rfl⟩ := h; rfl) fun cdv A outer s0 H E hr (a, ns) Γ h => ?_
  obtain ⟨hz, rfl⟩ := h
  have hb := bxL_len (cellL ns 0)
  have hi := law_inp ns
  have h38 := hi.few
  refine ds_set 1 (d := .list ((bxL (cellL ns 0)).map kbD)) (d_call L.boxes (hr.mono (by decide)) (da_cons (fe_de (f_callQ (ix := (a, ns, 0)) 0 L.cell (hr.mono (by decide)) (re_var (v := .ref a) 0) rfl d_int rfl)) da_nil) ⟨_, rfl, rfl⟩) ?_ sc_law.nd
  have e9 : (spr (cellL ns 1) 9) = (((spr (cellL ns 1) 9).toNat : Nat) : Int) := (Int.toNat_of_nonneg (spr_nn _ _)).symm
  refine ds_gset (ix := (bxL (cellL ns 0), (spr (cellL ns 1) 9).toNat)) 2 L.states (hr.mono (by decide)) (da_cons (d_var 1 rfl) (da_cons (d_is (d_call L.spread (hr.mono (by decide)) (da_cons (fe_de (f_callQ (ix := (a, ns, 1)) 0 L.cell (hr.mono (by decide)) (re_var (v := .ref a) 0) rfl d_int rfl)) (da_cons d_int da_nil)) ⟨cellL ns 1, 9, by decide, by decide, rfl, rfl⟩) (congrArg PyData.int e9)) da_nil)) ⟨by omega, rfl⟩ (fun Γ' c2 hp => ?_) sc_law.nd
  have ht : Told (bxL (cellL ns 0)) (spr (cellL ns 1) 9).toNat c2 := by
    by_cases h3 : (spr (cellL ns 1) 9).toNat % 3 > 0
    · exact .inl ⟨h3, hp.1 h3⟩
    · exact .inr ⟨h3, hp.2 h3⟩
  refine ds_newL 3 (fun l => ?_) sc_law.nd
  refine ds_forN 4 (fun i Γ => ∃ c4 c5, Γ = [.sq a (ns.map V.int), .dat (.list ((bxL (cellL ns 0)).map kbD)), c2, .ml l (((psL ns).take i).map ptD), c4, c5, .un, .un, .un, .un, .un, .un, .un, .un, .un, .un, .un]) (di_list (d_slQ 0 (re_var (v := .ref a) 0) rfl (do_some d_int) (do_some d_int))) ⟨.un, .un, rfl⟩ (fun i d Γ1 hd hi2 => ?_) (fun Γ1 hi2 => ?_) sc_law.nd
  · obtain ⟨c4, c5, rfl⟩ := hi2
    rw [List.getElem?_map] at hd
    cases hx : (cutA ns (some 2) (some 40))[i]? with
    | none => rw [hx] at hd; cases hd
    | some c =>
      rw [hx] at hd
      cases hd
      obtain ⟨q1, q2, q3⟩ := ptL_ok hb.1 c
      have hps : (psL ns)[i]? = some (ptL (bxL (cellL ns 0)) c) := by unfold psL; rw [List.getElem?_map, hx]; rfl
      refine ds_set 5 (d := .int ((ptL (bxL (cellL ns 0)) c).at_ : Nat)) (d_is (d_bin (d_call L.spread (hr.mono (by decide)) (da_cons (d_var 4 rfl) (da_cons d_int da_nil)) ⟨c, 19, by decide, by decide, rfl, rfl⟩) (d_lenL L.T.f_len (d_var 1 rfl)) (o_modI (by rw [List.length_map]; omega))) (by rw [List.length_map, q2])) ?_ sc_law.nd
      refine ds_app 3 (ds := ((psL ns).take i).map ptD) (d := ptD (ptL (bxL (cellL ns 0)) c)) (d_is (d_tup (da_cons (d_var 5 rfl) (da_cons (d_call L.put (hr.mono (by decide)) (da_cons (d_ixT (d_ixL (d_var 1 rfl) (d_var 5 rfl) (d := kbD (ptL (bxL (cellL ns 0)) c).b) (atI_nat (j := (ptL (bxL (cellL ns 0)) c).at_) (by rw [List.getElem?_map, q1.box]; rfl))) d_int (d := .str (ptL (bxL (cellL ns 0)) c).b.1.w) at0) (da_cons (d_var 4 rfl) da_nil)) ⟨_, c, rfl, rfl⟩) da_nil))) (by rw [q3]; rfl)) (ds_nil ⟨.dat (.int c), .dat (.int ((ptL (bxL (cellL ns 0)) c).at_ : Nat)), ?_⟩) (by rw [List.length_map, List.length_take]; omega)
      have e : ((psL ns).take i).map ptD ++ [ptD (ptL (bxL (cellL ns 0)) c)] = ((psL ns).take (i + 1)).map ptD := by
        rw [List.take_succ, hps, List.map_append]
        rfl
      rw [← e]
      rfl
  · obtain ⟨c4, c5, rfl⟩ := hi2
    have e : ((cutA ns (some 2) (some 40)).map PyData.int).length = (psL ns).length := by unfold psL; rw [List.length_map, List.length_map]
    rw [e, List.take_length]
    exact ds_freeze 3 (law_lines L hr hi ht)
end
end SJ
set_option maxRecDepth 100000
set_option maxHeartbeats 4000000
/-! FA: from what the head says to every def's promise (printed by genFA.py). -/
namespace SJ
open PySem PySem.Spec PyProof.Rows L2
def kn : Kd → Str
  | .most => "Most"
  | .set => "Set"
  | .once => "Once"
  | .row => "Row"
  | .map => "Map"
section
variable {P : Program} {w : World} {K : PySem.W.Frag} {mg : Str → Option Value} {base h : Heap}
theorem mfn_of {C f : Addr} {fd : FuncData} {ps : List Str} {k : Nat} {sp : Sp} {m : Str} (cl : Cls K C) (me : Meth K C m f) (F : FnOk P w K mg base CX0 k f fd ps sp) (b : Binds K fd ps []) : MFn P w K mg base C m k sp := ⟨⟨f, fd, ps, cl, me, F, b⟩⟩
theorem kfn_of {C f : Addr} {fd : FuncData} {ps : List Str} {k : Nat} {sp : Sp} {x : Str} (cl : Cls K C) (mk : Mk K C f) (hm : mg x = some (.ref C)) (F : FnOk P w K mg base CX0 k f fd ps sp) (b : Binds K fd ps []) : KFn P w K mg base x C k sp := ⟨⟨f, fd, ps, cl, mk, hm, F, b⟩⟩
theorem tx_ok (X : K.In h) (G : h.Ns mainGlobals mg) (c : SaysS faA fnA bsA K) : Tx K mg where
  f_len := (He.free_ok X G (c.d.fact 65 (f := .free "len") rfl))
  f_isinstance := (He.free_ok X G (c.d.fact 66 (f := .free "isinstance") rfl))
  f_all := (He.free_ok X G (c.d.fact 67 (f := .free "all") rfl))
  f_min := (He.free_ok X G (c.d.fact 68 (f := .free "min") rfl))
  f_max := (He.free_ok X G (c.d.fact 69 (f := .free "max") rfl))
  f_sorted := (He.free_ok X G (c.d.fact 70 (f := .free "sorted") rfl))
  f_set := (He.free_ok X G (c.d.fact 71 (f := .free "set") rfl))
  f_dict := (He.free_ok X G (c.d.fact 72 (f := .free "dict") rfl))
  f_list := (He.free_ok X G (c.d.fact 73 (f := .free "list") rfl))
  f_tuple := (He.free_ok X G (c.d.fact 74 (f := .free "tuple") rfl))
  f_range := (He.free_ok X G (c.d.fact 75 (f := .free "range") rfl))
  f_zip := (He.free_ok X G (c.d.fact 76 (f := .free "zip") rfl))
  f_enumerate := (He.free_ok X G (c.d.fact 77 (f := .free "enumerate") rfl))
  f_str := (He.free_ok X G (c.d.fact 78 (f := .free "str") rfl))
  f_int := (He.free_ok X G (c.d.fact 79 (f := .free "int") rfl))
  f_bool := (He.free_ok X G (c.d.fact 80 (f := .free "bool") rfl))
  c_ROUND := cst_int X G (c.d.fact 81 (f := .int "ROUND" 1000000000) rfl)
  c_MOST_STEPS := cst_int X G (c.d.fact 82 (f := .int "MOST_STEPS" 400) rfl)
  c_MOST_PARAMS := cst_int X G (c.d.fact 83 (f := .int "MOST_PARAMS" 4) rfl)
  c_MOST_LINES := cst_int X G (c.d.fact 84 (f := .int "MOST_LINES" 150) rfl)
  c_LETTERS := cst_str X G (c.d.fact 85 (f := .str "LETTERS" "abcdefghijklmnopqrstuvwxyz") rfl)
  c_FIGURES := cst_str X G (c.d.fact 86 (f := .str "FIGURES" "0123456789") rfl)
  c_BOXES_words := cst_tab X G (c.b 0) (He.eqO_ok (c.d.fact 55 (f := .glo "BOXES_words") rfl))
  c_DEEDS := cst_tab X G (c.b 1) (He.eqO_ok (c.d.fact 56 (f := .glo "DEEDS") rfl))
  c_ASKED := cst_tab X G (c.b 2) (He.eqO_ok (c.d.fact 57 (f := .glo "ASKED") rfl))
  c_WORKINGS := cst_tab X G (c.b 3) (He.eqO_ok (c.d.fact 58 (f := .glo "WORKINGS") rfl))
  c_BARE_LOOKS := cst_tab X G (c.b 4) (He.eqO_ok (c.d.fact 59 (f := .glo "BARE_LOOKS") rfl))
  c_LOOKS_words := cst_tab X G (c.b 5) (He.eqO_ok (c.d.fact 60 (f := .glo "LOOKS_words") rfl))
  c_BOXES_lines := cst_tab X G (c.b 6) (He.eqO_ok (c.d.fact 61 (f := .glo "BOXES_lines") rfl))
  c_WITH_ONE := cst_tab X G (c.b 7) (He.eqO_ok (c.d.fact 62 (f := .glo "WITH_ONE") rfl))
  c_ALONE := cst_tab X G (c.b 8) (He.eqO_ok (c.d.fact 63 (f := .glo "ALONE") rfl))
  c_LOOKS_statements := cst_tab X G (c.b 9) (He.eqO_ok (c.d.fact 64 (f := .glo "LOOKS_statements") rfl))
theorem BlockF_ok (c : SaysS faA fnA bsA K) : BlockF K (He.ga K "Block") where
  opened := ⟨(He.cls_ok (c.d.fact 94 (f := .cls "Block") rfl)), He.noat_ok (c.d.fact 146 (f := .noat "Block" "opened") rfl)⟩
  said := ⟨(He.cls_ok (c.d.fact 94 (f := .cls "Block") rfl)), He.noat_ok (c.d.fact 147 (f := .noat "Block" "said") rfl)⟩
  first := ⟨(He.cls_ok (c.d.fact 94 (f := .cls "Block") rfl)), He.noat_ok (c.d.fact 148 (f := .noat "Block" "first") rfl)⟩
  later := ⟨(He.cls_ok (c.d.fact 94 (f := .cls "Block") rfl)), He.noat_ok (c.d.fact 149 (f := .noat "Block" "later") rfl)⟩
theorem PileF_ok (c : SaysS faA fnA bsA K) : PileF K (He.ga K "Pile") where
  boxes := ⟨(He.cls_ok (c.d.fact 95 (f := .cls "Pile") rfl)), He.noat_ok (c.d.fact 154 (f := .noat "Pile" "boxes") rfl)⟩
  jobs := ⟨(He.cls_ok (c.d.fact 95 (f := .cls "Pile") rfl)), He.noat_ok (c.d.fact 155 (f := .noat "Pile" "jobs") rfl)⟩
  asks := ⟨(He.cls_ok (c.d.fact 95 (f := .cls "Pile") rfl)), He.noat_ok (c.d.fact 156 (f := .noat "Pile" "asks") rfl)⟩
  blocks := ⟨(He.cls_ok (c.d.fact 95 (f := .cls "Pile") rfl)), He.noat_ok (c.d.fact 157 (f := .noat "Pile" "blocks") rfl)⟩
theorem ThrF_ok (c : SaysS faA fnA bsA K) : ThrF K (He.ga K "Thread") where
  job := ⟨(He.cls_ok (c.d.fact 92 (f := .cls "Thread") rfl)), He.noat_ok (c.d.fact 119 (f := .noat "Thread" "job") rfl)⟩
  rows := ⟨(He.cls_ok (c.d.fact 92 (f := .cls "Thread") rfl)), He.noat_ok (c.d.fact 120 (f := .noat "Thread" "rows") rfl)⟩
  kinds := ⟨(He.cls_ok (c.d.fact 92 (f := .cls "Thread") rfl)), He.noat_ok (c.d.fact 121 (f := .noat "Thread" "kinds") rfl)⟩
  names := ⟨(He.cls_ok (c.d.fact 92 (f := .cls "Thread") rfl)), He.noat_ok (c.d.fact 122 (f := .noat "Thread" "names") rfl)⟩
  at_ := ⟨(He.cls_ok (c.d.fact 92 (f := .cls "Thread") rfl)), He.noat_ok (c.d.fact 123 (f := .noat "Thread" "at") rfl)⟩
  left := ⟨(He.cls_ok (c.d.fact 92 (f := .cls "Thread") rfl)), He.noat_ok (c.d.fact 124 (f := .noat "Thread" "left") rfl)⟩
  used := ⟨(He.cls_ok (c.d.fact 92 (f := .cls "Thread") rfl)), He.noat_ok (c.d.fact 125 (f := .noat "Thread" "used") rfl)⟩
  said := ⟨(He.cls_ok (c.d.fact 92 (f := .cls "Thread") rfl)), He.noat_ok (c.d.fact 126 (f := .noat "Thread" "said") rfl)⟩
  begun := ⟨(He.cls_ok (c.d.fact 92 (f := .cls "Thread") rfl)), He.noat_ok (c.d.fact 127 (f := .noat "Thread" "begun") rfl)⟩
  fin := ⟨(He.cls_ok (c.d.fact 92 (f := .cls "Thread") rfl)), He.noat_ok (c.d.fact 128 (f := .noat "Thread" "end") rfl)⟩
theorem HouFd_ok (c : SaysS faA fnA bsA K) : HouFd K (He.ga K "House") where
  program := ⟨(He.cls_ok (c.d.fact 93 (f := .cls "House") rfl)), He.noat_ok (c.d.fact 137 (f := .noat "House" "program") rfl)⟩
  sorts := ⟨(He.cls_ok (c.d.fact 93 (f := .cls "House") rfl)), He.noat_ok (c.d.fact 138 (f := .noat "House" "sorts") rfl)⟩
  held := ⟨(He.cls_ok (c.d.fact 93 (f := .cls "House") rfl)), He.noat_ok (c.d.fact 139 (f := .noat "House" "held") rfl)⟩
  puts := ⟨(He.cls_ok (c.d.fact 93 (f := .cls "House") rfl)), He.noat_ok (c.d.fact 140 (f := .noat "House" "puts") rfl)⟩
  parts := ⟨(He.cls_ok (c.d.fact 93 (f := .cls "House") rfl)), He.noat_ok (c.d.fact 141 (f := .noat "House" "parts") rfl)⟩
  torn := ⟨(He.cls_ok (c.d.fact 93 (f := .cls "House") rfl)), He.noat_ok (c.d.fact 142 (f := .noat "House" "torn") rfl)⟩
abbrev CKA (K : PySem.W.Frag) : Kd → Addr := fun k => He.ga K (kn k)
theorem kdC_ok (X : K.In h) (G : h.Ns mainGlobals mg) (c : SaysS faA fnA bsA K) : KdC K mg (CKA K) where
  mks := fun k => by
    cases k with
    | most => exact mk0_ok (c.b 10)
    | set => exact mk0_ok (c.b 11)
    | once => exact mk0_ok (c.b 12)
    | row => exact mk0_ok (c.b 13)
    | map => exact mk0_ok (c.b 14)
  most := (He.glo_ok X G (c.d.fact 46 (f := .glo "Most") rfl))
  set := (He.glo_ok X G (c.d.fact 47 (f := .glo "Set") rfl))
  once := (He.glo_ok X G (c.d.fact 48 (f := .glo "Once") rfl))
  row := (He.glo_ok X G (c.d.fact 49 (f := .glo "Row") rfl))
  map := (He.glo_ok X G (c.d.fact 50 (f := .glo "Map") rfl))
variable (X : K.In h) (G : h.Ns mainGlobals mg) (c : SaysS faA fnA bsA K)
include X G c
theorem zg_is_number  : G_is_number P w K mg base := by
  obtain ⟨fd, F⟩ := c.d.def_ 0 (d := d_is_number) rfl
  exact gfn_of (ok_is_number (tx_ok X G c) F) (He.glo_ok X G (c.d.fact 0 (f := .glo "is_number") rfl)) F.kp (F.bindsN fun _ _ _ _ _ _ us hl => match us, hl with | [_], _ => rfl)
theorem zg_is_pair  : G_is_pair P w K mg base := by
  obtain ⟨fd, F⟩ := c.d.def_ 1 (d := d_is_pair) rfl
  exact gfn_of (ok_is_pair (tx_ok X G c) (zg_is_number (P := P) (w := w) (base := base) X G c) F) (He.glo_ok X G (c.d.fact 1 (f := .glo "is_pair") rfl)) F.kp (F.bindsN fun _ _ _ _ _ _ us hl => match us, hl with | [_], _ => rfl)
theorem zg_is_rising  : G_is_rising P w K mg base := by
  obtain ⟨fd, F⟩ := c.d.def_ 2 (d := d_is_rising) rfl
  exact gfn_of (ok_is_rising (tx_ok X G c) F) (He.glo_ok X G (c.d.fact 2 (f := .glo "is_rising") rfl)) F.kp (F.bindsN fun _ _ _ _ _ _ us hl => match us, hl with | [_], _ => rfl)
theorem zg_made_of  : G_made_of P w K mg base := by
  obtain ⟨fd, F⟩ := c.d.def_ 24 (d := d_made_of) rfl
  exact gfn_of (ok_made_of (tx_ok X G c) F) (He.glo_ok X G (c.d.fact 24 (f := .glo "made_of") rfl)) F.kp (F.bindsN fun _ _ _ _ _ _ us hl => match us, hl with | [_, _, _], _ => rfl)
theorem zg_is_name  : G_is_name P w K mg base := by
  obtain ⟨fd, F⟩ := c.d.def_ 25 (d := d_is_name) rfl
  exact gfn_of (ok_is_name (tx_ok X G c) (zg_made_of (P := P) (w := w) (base := base) X G c) F) (He.glo_ok X G (c.d.fact 25 (f := .glo "is_name") rfl)) F.kp (F.bindsN fun _ _ _ _ _ _ us hl => match us, hl with | [_], _ => rfl)
theorem zg_read_number  : G_read_number P w K mg base := by
  obtain ⟨fd, F⟩ := c.d.def_ 26 (d := d_read_number) rfl
  exact gfn_of (ok_read_number (tx_ok X G c) (zg_made_of (P := P) (w := w) (base := base) X G c) F) (He.glo_ok X G (c.d.fact 26 (f := .glo "read_number") rfl)) F.kp (F.bindsN fun _ _ _ _ _ _ us hl => match us, hl with | [_], _ => rfl)
theorem zg_leaf_of  : G_leaf_of P w K mg base := by
  obtain ⟨fd, F⟩ := c.d.def_ 27 (d := d_leaf_of) rfl
  exact gfn_of (ok_leaf_of (zg_is_name (P := P) (w := w) (base := base) X G c) (zg_read_number (P := P) (w := w) (base := base) X G c) F) (He.glo_ok X G (c.d.fact 27 (f := .glo "leaf_of") rfl)) F.kp (F.bindsN fun _ _ _ _ _ _ us hl => match us, hl with | [_], _ => rfl)
theorem zg_expression_at : G_expression_at P w K mg base := by
  obtain ⟨fd, F⟩ := c.d.def_ 28 (d := d_expression_at) rfl
  obtain ⟨ds, hv, b⟩ := F.binds1 (ps := ["words", "at", "room"]) 2 0 (by intro e; cases e) rfl fun _ _ _ _ _ _ _ us its hl hl2 => match us, hl, its, hl2 with | [_, _], _, [_], _ => ⟨_, rfl, rfl⟩
  exact ⟨_, fd, _, ds, ok_expression_at (tx_ok X G c) (zg_leaf_of (P := P) (w := w) (base := base) X G c) F, (He.glo_ok X G (c.d.fact 28 (f := .glo "expression_at") rfl)), F.kp, b, hv⟩
theorem zg_expressions_from  : G_expressions_from P w K mg base := by
  obtain ⟨fd, F⟩ := c.d.def_ 29 (d := d_expressions_from) rfl
  exact gfn_of (ok_expressions_from (tx_ok X G c) (zg_expression_at (P := P) (w := w) (base := base) X G c) F) (He.glo_ok X G (c.d.fact 29 (f := .glo "expressions_from") rfl)) F.kp (F.bindsN fun _ _ _ _ _ _ us hl => match us, hl with | [_, _], _ => rfl)
theorem zg_between  : G_between P w K mg base := by
  obtain ⟨fd, F⟩ := c.d.def_ 30 (d := d_between) rfl
  exact gfn_of (ok_between (tx_ok X G c) F) (He.glo_ok X G (c.d.fact 30 (f := .glo "between") rfl)) F.kp (F.bindsN fun _ _ _ _ _ _ us hl => match us, hl with | [_, _, _], _ => rfl)
theorem zg_names_from  : G_names_from P w K mg base := by
  obtain ⟨fd, F⟩ := c.d.def_ 31 (d := d_names_from) rfl
  exact gfn_of (ok_names_from (tx_ok X G c) (zg_between (P := P) (w := w) (base := base) X G c) (zg_is_name (P := P) (w := w) (base := base) X G c) F) (He.glo_ok X G (c.d.fact 31 (f := .glo "names_from") rfl)) F.kp (F.bindsN fun _ _ _ _ _ _ us hl => match us, hl with | [_, _, _], _ => rfl)
theorem zg_read_named  : G_read_named P w K mg base := by
  obtain ⟨fd, F⟩ := c.d.def_ 32 (d := d_read_named) rfl
  exact gfn_of (ok_read_named (tx_ok X G c) (zg_names_from (P := P) (w := w) (base := base) X G c) (zg_expressions_from (P := P) (w := w) (base := base) X G c) (zg_between (P := P) (w := w) (base := base) X G c) F) (He.glo_ok X G (c.d.fact 32 (f := .glo "read_named") rfl)) F.kp (F.bindsN fun _ _ _ _ _ _ us hl => match us, hl with | [_], _ => rfl)
theorem zg_read_line  : G_read_line P w K mg base := by
  obtain ⟨fd, F⟩ := c.d.def_ 33 (d := d_read_line) rfl
  exact gfn_of (ok_read_line (tx_ok X G c) (zg_names_from (P := P) (w := w) (base := base) X G c) (zg_read_named (P := P) (w := w) (base := base) X G c) (zg_between (P := P) (w := w) (base := base) X G c) F) (He.glo_ok X G (c.d.fact 33 (f := .glo "read_line") rfl)) F.kp (F.bindsN fun _ _ _ _ _ _ us hl => match us, hl with | [_], _ => rfl)
theorem zg_all_of  : G_all_of P w K mg base := by
  obtain ⟨fd, F⟩ := c.d.def_ 4 (d := d_all_of) rfl
  exact gfn_of (ok_all_of F) (He.glo_ok X G (c.d.fact 4 (f := .glo "all_of") rfl)) F.kp (F.bindsN fun _ _ _ _ _ _ us hl => match us, hl with | [_], _ => rfl)
theorem zg_expressions_of  : G_expressions_of P w K mg base := by
  obtain ⟨fd, F⟩ := c.d.def_ 5 (d := d_expressions_of) rfl
  exact gfn_of (ok_expressions_of (tx_ok X G c) F) (He.glo_ok X G (c.d.fact 5 (f := .glo "expressions_of") rfl)) F.kp (F.bindsN fun _ _ _ _ _ _ us hl => match us, hl with | [_], _ => rfl)
theorem zg_looks_in  : G_looks_in P w K mg base := by
  obtain ⟨fd, F⟩ := c.d.def_ 6 (d := d_looks_in) rfl
  exact gfn_of (ok_looks_in F) (He.glo_ok X G (c.d.fact 6 (f := .glo "looks_in") rfl)) F.kp (F.bindsN fun _ _ _ _ _ _ us hl => match us, hl with | [_], _ => rfl)
theorem zg_looks_of  : G_looks_of P w K mg base := by
  obtain ⟨fd, F⟩ := c.d.def_ 7 (d := d_looks_of) rfl
  exact gfn_of (ok_looks_of (zg_expressions_of (P := P) (w := w) (base := base) X G c) (zg_looks_in (P := P) (w := w) (base := base) X G c) F) (He.glo_ok X G (c.d.fact 7 (f := .glo "looks_of") rfl)) F.kp (F.bindsN fun _ _ _ _ _ _ us hl => match us, hl with | [_], _ => rfl)
theorem zg_looks  : G_looks P w K mg base := by
  obtain ⟨fd, F⟩ := c.d.def_ 8 (d := d_looks) rfl
  exact gfn_of (ok_looks (zg_all_of (P := P) (w := w) (base := base) X G c) (zg_looks_of (P := P) (w := w) (base := base) X G c) F) (He.glo_ok X G (c.d.fact 8 (f := .glo "looks") rfl)) F.kp (F.bindsN fun _ _ _ _ _ _ us hl => match us, hl with | [_], _ => rfl)
theorem zg_is_let  : G_is_let P w K mg base := by
  obtain ⟨fd, F⟩ := c.d.def_ 9 (d := d_is_let) rfl
  exact gfn_of (ok_is_let (zg_looks (P := P) (w := w) (base := base) X G c) F) (He.glo_ok X G (c.d.fact 9 (f := .glo "is_let") rfl)) F.kp (F.bindsN fun _ _ _ _ _ _ us hl => match us, hl with | [_], _ => rfl)
theorem zg_unlike  : G_unlike P w K mg base := by
  obtain ⟨fd, F⟩ := c.d.def_ 18 (d := d_unlike) rfl
  exact gfn_of (ok_unlike (tx_ok X G c) F) (He.glo_ok X G (c.d.fact 18 (f := .glo "unlike") rfl)) F.kp (F.bindsN fun _ _ _ _ _ _ us hl => match us, hl with | [_], _ => rfl)
theorem zg_all_looks  : G_all_looks P w K mg base := by
  obtain ⟨fd, F⟩ := c.d.def_ 19 (d := d_all_looks) rfl
  exact gfn_of (ok_all_looks (zg_all_of (P := P) (w := w) (base := base) X G c) (zg_looks_of (P := P) (w := w) (base := base) X G c) F) (He.glo_ok X G (c.d.fact 19 (f := .glo "all_looks") rfl)) F.kp (F.bindsN fun _ _ _ _ _ _ us hl => match us, hl with | [_], _ => rfl)
theorem zg_boxes_named  : G_boxes_named P w K mg base := by
  obtain ⟨fd, F⟩ := c.d.def_ 20 (d := d_boxes_named) rfl
  exact gfn_of (ok_boxes_named F) (He.glo_ok X G (c.d.fact 20 (f := .glo "boxes_named") rfl)) F.kp (F.bindsN fun _ _ _ _ _ _ us hl => match us, hl with | [_], _ => rfl)
theorem zg_check_names  : G_check_names P w K mg base := by
  obtain ⟨fd, F⟩ := c.d.def_ 21 (d := d_check_names) rfl
  exact gfn_of (ok_check_names (tx_ok X G c) (zg_unlike (P := P) (w := w) (base := base) X G c) (zg_all_looks (P := P) (w := w) (base := base) X G c) (zg_all_of (P := P) (w := w) (base := base) X G c) (zg_boxes_named (P := P) (w := w) (base := base) X G c) F) (He.glo_ok X G (c.d.fact 21 (f := .glo "check_names") rfl)) F.kp (F.bindsN fun _ _ _ _ _ _ us hl => match us, hl with | [_], _ => rfl)
theorem zk_Block  : M_Block_init P w K mg base (He.ga K "Block") := by
  obtain ⟨fd, F⟩ := c.d.def_ 77 (d := d_Block_init) rfl
  exact kfn_of (He.cls_ok (c.d.fact 94 (f := .cls "Block") rfl)) (He.mkr_ok (c.d.fact 145 (f := .mkr "Block") rfl)) (He.glo_ok X G (c.d.fact 53 (f := .glo "Block") rfl)) (ok_Block_init (BlockF_ok c) F) (F.bindsN fun _ _ _ _ _ _ us hl => match us, hl with | [_, _, _], _ => rfl)
theorem zm_Block_add  : M_Block_add P w K mg base (He.ga K "Block") := by
  obtain ⟨fd, F⟩ := c.d.def_ 78 (d := d_Block_add) rfl
  exact mfn_of (He.cls_ok (c.d.fact 94 (f := .cls "Block") rfl)) (He.meth_ok (c.d.fact 143 (f := .meth "Block" "add") rfl)) (ok_Block_add (BlockF_ok c) F) (F.bindsN fun _ _ _ _ _ _ us hl => match us, hl with | [_, _], _ => rfl)
theorem zm_Block_whole  : M_Block_whole P w K mg base (He.ga K "Block") := by
  obtain ⟨fd, F⟩ := c.d.def_ 79 (d := d_Block_whole) rfl
  exact mfn_of (He.cls_ok (c.d.fact 94 (f := .cls "Block") rfl)) (He.meth_ok (c.d.fact 144 (f := .meth "Block" "whole") rfl)) (ok_Block_whole (BlockF_ok c) F) (F.bindsN fun _ _ _ _ _ _ us hl => match us, hl with | [_, _], _ => rfl)
theorem zk_Pile  : M_Pile_init P w K mg base (He.ga K "Pile") := by
  obtain ⟨fd, F⟩ := c.d.def_ 80 (d := d_Pile_init) rfl
  exact kfn_of (He.cls_ok (c.d.fact 95 (f := .cls "Pile") rfl)) (He.mkr_ok (c.d.fact 153 (f := .mkr "Pile") rfl)) (He.glo_ok X G (c.d.fact 54 (f := .glo "Pile") rfl)) (ok_Pile_init (PileF_ok c) F) (F.bindsN fun _ _ _ _ _ _ us hl => match us, hl with | [_], _ => rfl)
theorem zm_outer  : M_outer P w K mg base (He.ga K "Pile") (He.ga K "Block") := by
  obtain ⟨fd, F⟩ := c.d.def_ 81 (d := d_Pile_takes_outer) rfl
  exact mfn_of (He.cls_ok (c.d.fact 95 (f := .cls "Pile") rfl)) (He.meth_ok (c.d.fact 150 (f := .meth "Pile" "takes_outer") rfl)) (ok_outer (PileF_ok c) (zk_Block (P := P) (w := w) (base := base) X G c) F) (F.bindsN fun _ _ _ _ _ _ us hl => match us, hl with | [_, _, _], _ => rfl)
theorem zm_closes  : M_closes P w K mg base (He.ga K "Pile") (He.ga K "Block") := by
  obtain ⟨fd, F⟩ := c.d.def_ 82 (d := d_Pile_closes) rfl
  exact mfn_of (He.cls_ok (c.d.fact 95 (f := .cls "Pile") rfl)) (He.meth_ok (c.d.fact 151 (f := .meth "Pile" "closes") rfl)) (ok_closes (PileF_ok c) (zm_Block_whole (P := P) (w := w) (base := base) X G c) F) (F.bindsN fun _ _ _ _ _ _ us hl => match us, hl with | [_, _], _ => rfl)
theorem zm_takes  : M_takes P w K mg base (He.ga K "Pile") (He.ga K "Block") := by
  obtain ⟨fd, F⟩ := c.d.def_ 83 (d := d_Pile_takes) rfl
  exact mfn_of (He.cls_ok (c.d.fact 95 (f := .cls "Pile") rfl)) (He.meth_ok (c.d.fact 152 (f := .meth "Pile" "takes") rfl)) (ok_takes (PileF_ok c) (zm_outer (P := P) (w := w) (base := base) X G c) (zm_closes (P := P) (w := w) (base := base) X G c) (zm_Block_add (P := P) (w := w) (base := base) X G c) F) (F.bindsN fun _ _ _ _ _ _ us hl => match us, hl with | [_, _, _], _ => rfl)
theorem zg_nested  : G_nested P w K mg base := by
  obtain ⟨fd, F⟩ := c.d.def_ 34 (d := d_nested) rfl
  exact gfn_of (ok_nested (He.free_ok X G (c.d.fact 77 (f := .free "enumerate") rfl)) (PileF_ok c) (zk_Pile (P := P) (w := w) (base := base) X G c) (zm_takes (P := P) (w := w) (base := base) X G c) F) (He.glo_ok X G (c.d.fact 34 (f := .glo "nested") rfl)) F.kp (F.bindsN fun _ _ _ _ _ _ us hl => match us, hl with | [_], _ => rfl)
theorem zg_fits  : G_fits P w K mg base := by
  obtain ⟨fd, F⟩ := c.d.def_ 22 (d := d_fits) rfl
  exact gfn_of (ok_fits (tx_ok X G c) F) (He.glo_ok X G (c.d.fact 22 (f := .glo "fits") rfl)) F.kp (F.bindsN fun _ _ _ _ _ _ us hl => match us, hl with | [_, _], _ => rfl)
theorem zg_check_kinds  : G_check_kinds P w K mg base := by
  obtain ⟨fd, F⟩ := c.d.def_ 23 (d := d_check_kinds) rfl
  exact gfn_of (ok_check_kinds (zg_fits (P := P) (w := w) (base := base) X G c) (zg_all_looks (P := P) (w := w) (base := base) X G c) (zg_all_of (P := P) (w := w) (base := base) X G c) F) (He.glo_ok X G (c.d.fact 23 (f := .glo "check_kinds") rfl)) F.kp (F.bindsN fun _ _ _ _ _ _ us hl => match us, hl with | [_], _ => rfl)
theorem zg_read  : G_read P w K mg base := by
  obtain ⟨fd, F⟩ := c.d.def_ 35 (d := d_read) rfl
  exact gfn_of (ok_read (tx_ok X G c) (zg_read_line (P := P) (w := w) (base := base) X G c) (zg_nested (P := P) (w := w) (base := base) X G c) (zg_check_names (P := P) (w := w) (base := base) X G c) (zg_check_kinds (P := P) (w := w) (base := base) X G c) F) (He.glo_ok X G (c.d.fact 35 (f := .glo "read") rfl)) F.kp (F.bindsN fun _ _ _ _ _ _ us hl => match us, hl with | [_], _ => rfl)
theorem zm_Most_stands  : M_stands P w K mg base (He.ga K "Most") .most := by
  obtain ⟨fd, F⟩ := c.d.def_ 47 (d := d_Most_stands) rfl
  exact mfn_of (He.cls_ok (c.d.fact 87 (f := .cls "Most") rfl)) (He.meth_ok (c.d.fact 97 (f := .meth "Most" "stands") rfl)) ((ok_Kind_stands (tx_ok X G c) (.inl rfl) F).mono (by decide)) (F.bindsN fun _ _ _ _ _ _ us hl => match us, hl with | [_, _], _ => rfl)
theorem zm_Once_stands  : M_stands P w K mg base (He.ga K "Once") .once := by
  obtain ⟨fd, F⟩ := c.d.def_ 53 (d := d_Once_stands) rfl
  exact mfn_of (He.cls_ok (c.d.fact 89 (f := .cls "Once") rfl)) (He.meth_ok (c.d.fact 103 (f := .meth "Once" "stands") rfl)) ((ok_Kind_stands (tx_ok X G c) (.inr rfl) F).mono (by decide)) (F.bindsN fun _ _ _ _ _ _ us hl => match us, hl with | [_, _], _ => rfl)
theorem zm_Set_stands  : M_stands P w K mg base (He.ga K "Set") .set := by
  obtain ⟨fd, F⟩ := c.d.def_ 50 (d := d_Set_stands) rfl
  exact mfn_of (He.cls_ok (c.d.fact 88 (f := .cls "Set") rfl)) (He.meth_ok (c.d.fact 100 (f := .meth "Set" "stands") rfl)) (ok_Set_stands (zg_is_rising (P := P) (w := w) (base := base) X G c) F) (F.bindsN fun _ _ _ _ _ _ us hl => match us, hl with | [_, _], _ => rfl)
theorem zm_Row_stands  : M_stands P w K mg base (He.ga K "Row") .row := by
  obtain ⟨fd, F⟩ := c.d.def_ 56 (d := d_Row_stands) rfl
  exact mfn_of (He.cls_ok (c.d.fact 90 (f := .cls "Row") rfl)) (He.meth_ok (c.d.fact 106 (f := .meth "Row" "stands") rfl)) ((ok_Row_stands F).mono (by decide)) (F.bindsN fun _ _ _ _ _ _ us hl => match us, hl with | [_, _], _ => rfl)
theorem zm_Most_isst  : M_isst P w K mg base (He.ga K "Most") .most := by
  obtain ⟨fd, F⟩ := c.d.def_ 46 (d := d_Most_is_state) rfl
  exact mfn_of (He.cls_ok (c.d.fact 87 (f := .cls "Most") rfl)) (He.meth_ok (c.d.fact 96 (f := .meth "Most" "is_state") rfl)) (ok_Kind_is_state (tx_ok X G c) (by decide) (zg_is_number (P := P) (w := w) (base := base) X G c) (zm_Most_stands (P := P) (w := w) (base := base) X G c) F) (F.bindsN fun _ _ _ _ _ _ us hl => match us, hl with | [_, _], _ => rfl)
theorem zm_Set_isst  : M_isst P w K mg base (He.ga K "Set") .set := by
  obtain ⟨fd, F⟩ := c.d.def_ 49 (d := d_Set_is_state) rfl
  exact mfn_of (He.cls_ok (c.d.fact 88 (f := .cls "Set") rfl)) (He.meth_ok (c.d.fact 99 (f := .meth "Set" "is_state") rfl)) (ok_Kind_is_state (tx_ok X G c) (by decide) (zg_is_number (P := P) (w := w) (base := base) X G c) (zm_Set_stands (P := P) (w := w) (base := base) X G c) F) (F.bindsN fun _ _ _ _ _ _ us hl => match us, hl with | [_, _], _ => rfl)
theorem zm_Once_isst  : M_isst P w K mg base (He.ga K "Once") .once := by
  obtain ⟨fd, F⟩ := c.d.def_ 52 (d := d_Once_is_state) rfl
  exact mfn_of (He.cls_ok (c.d.fact 89 (f := .cls "Once") rfl)) (He.meth_ok (c.d.fact 102 (f := .meth "Once" "is_state") rfl)) (ok_Kind_is_state (tx_ok X G c) (by decide) (zg_is_number (P := P) (w := w) (base := base) X G c) (zm_Once_stands (P := P) (w := w) (base := base) X G c) F) (F.bindsN fun _ _ _ _ _ _ us hl => match us, hl with | [_, _], _ => rfl)
theorem zm_Row_isst  : M_isst P w K mg base (He.ga K "Row") .row := by
  obtain ⟨fd, F⟩ := c.d.def_ 55 (d := d_Row_is_state) rfl
  exact mfn_of (He.cls_ok (c.d.fact 90 (f := .cls "Row") rfl)) (He.meth_ok (c.d.fact 105 (f := .meth "Row" "is_state") rfl)) (ok_Kind_is_state (tx_ok X G c) (by decide) (zg_is_number (P := P) (w := w) (base := base) X G c) (zm_Row_stands (P := P) (w := w) (base := base) X G c) F) (F.bindsN fun _ _ _ _ _ _ us hl => match us, hl with | [_, _], _ => rfl)
theorem zm_Map_isst  : M_isst P w K mg base (He.ga K "Map") .map := by
  obtain ⟨fd, F⟩ := c.d.def_ 58 (d := d_Map_is_state) rfl
  exact mfn_of (He.cls_ok (c.d.fact 91 (f := .cls "Map") rfl)) (He.meth_ok (c.d.fact 108 (f := .meth "Map" "is_state") rfl)) (ok_Map_is_state (tx_ok X G c) (zg_is_pair (P := P) (w := w) (base := base) X G c) (zg_is_rising (P := P) (w := w) (base := base) X G c) F) (F.bindsN fun _ _ _ _ _ _ us hl => match us, hl with | [_, _], _ => rfl)
theorem zm_Most_joined  : M_join P w K mg base (He.ga K "Most") .most := by
  obtain ⟨fd, F⟩ := c.d.def_ 48 (d := d_Most_joined) rfl
  exact mfn_of (He.cls_ok (c.d.fact 87 (f := .cls "Most") rfl)) (He.meth_ok (c.d.fact 98 (f := .meth "Most" "joined") rfl)) (ok_Most_joined (tx_ok X G c) F) (F.bindsN fun _ _ _ _ _ _ us hl => match us, hl with | [_, _, _], _ => rfl)
theorem zm_Set_joined  : M_join P w K mg base (He.ga K "Set") .set := by
  obtain ⟨fd, F⟩ := c.d.def_ 51 (d := d_Set_joined) rfl
  exact mfn_of (He.cls_ok (c.d.fact 88 (f := .cls "Set") rfl)) (He.meth_ok (c.d.fact 101 (f := .meth "Set" "joined") rfl)) (ok_Set_joined (tx_ok X G c) F) (F.bindsN fun _ _ _ _ _ _ us hl => match us, hl with | [_, _, _], _ => rfl)
theorem zm_Once_joined  : M_join P w K mg base (He.ga K "Once") .once := by
  obtain ⟨fd, F⟩ := c.d.def_ 54 (d := d_Once_joined) rfl
  exact mfn_of (He.cls_ok (c.d.fact 89 (f := .cls "Once") rfl)) (He.meth_ok (c.d.fact 104 (f := .meth "Once" "joined") rfl)) (ok_Once_joined (tx_ok X G c) F) (F.bindsN fun _ _ _ _ _ _ us hl => match us, hl with | [_, _, _], _ => rfl)
theorem zm_Row_joined  : M_join P w K mg base (He.ga K "Row") .row := by
  obtain ⟨fd, F⟩ := c.d.def_ 57 (d := d_Row_joined) rfl
  exact mfn_of (He.cls_ok (c.d.fact 90 (f := .cls "Row") rfl)) (He.meth_ok (c.d.fact 107 (f := .meth "Row" "joined") rfl)) (ok_Row_joined (tx_ok X G c) F) (F.bindsN fun _ _ _ _ _ _ us hl => match us, hl with | [_, _, _], _ => rfl)
theorem zm_Map_joined  : M_join P w K mg base (He.ga K "Map") .map := by
  obtain ⟨fd, F⟩ := c.d.def_ 59 (d := d_Map_joined) rfl
  exact mfn_of (He.cls_ok (c.d.fact 91 (f := .cls "Map") rfl)) (He.meth_ok (c.d.fact 109 (f := .meth "Map" "joined") rfl)) (ok_Map_joined (tx_ok X G c) F) (F.bindsN fun _ _ _ _ _ _ us hl => match us, hl with | [_, _, _], _ => rfl)
theorem zm_isst (k : Kd) : M_isst P w K mg base (CKA K k) k := by
  cases k with
  | most => exact (zm_Most_isst (P := P) (w := w) (base := base) X G c)
  | set => exact (zm_Set_isst (P := P) (w := w) (base := base) X G c)
  | once => exact (zm_Once_isst (P := P) (w := w) (base := base) X G c)
  | row => exact (zm_Row_isst (P := P) (w := w) (base := base) X G c)
  | map => exact (zm_Map_isst (P := P) (w := w) (base := base) X G c)
theorem zm_join (k : Kd) : M_join P w K mg base (CKA K k) k := by
  cases k with
  | most => exact (zm_Most_joined (P := P) (w := w) (base := base) X G c)
  | set => exact (zm_Set_joined (P := P) (w := w) (base := base) X G c)
  | once => exact (zm_Once_joined (P := P) (w := w) (base := base) X G c)
  | row => exact (zm_Row_joined (P := P) (w := w) (base := base) X G c)
  | map => exact (zm_Map_joined (P := P) (w := w) (base := base) X G c)
theorem zg_kind_of  : G_kind_of P w K mg base (CKA K) := by
  obtain ⟨fd, F⟩ := c.d.def_ 3 (d := d_kind_of) rfl
  exact gfn_of (ok_kind_of (kdC_ok X G c) F) (He.glo_ok X G (c.d.fact 3 (f := .glo "kind_of") rfl)) F.kp (F.bindsN fun _ _ _ _ _ _ us hl => match us, hl with | [_], _ => rfl)
theorem zg_copied (n : Nat) : G_copied P w K mg base n := by
  obtain ⟨fd, F⟩ := c.d.def_ 15 (d := d_copied) rfl
  have b := F.bindsN (ps := ["thing"]) fun _ _ _ _ _ _ us hl => match us, hl with | [_], _ => rfl
  exact gfn_of (ok_copied (tx_ok X G c) F (He.glo_ok X G (c.d.fact 15 (f := .glo "copied") rfl)) F.kp b n) (He.glo_ok X G (c.d.fact 15 (f := .glo "copied") rfl)) F.kp b
theorem zg_is_steps  : G_is_steps P w K mg base := by
  obtain ⟨fd, F⟩ := c.d.def_ 16 (d := d_is_steps) rfl
  exact gfn_of (ok_is_steps (tx_ok X G c) F) (He.glo_ok X G (c.d.fact 16 (f := .glo "is_steps") rfl)) F.kp (F.bindsN fun _ _ _ _ _ _ us hl => match us, hl with | [_], _ => rfl)
theorem zg_first_states  : G_first_states P w K mg base := by
  obtain ⟨fd, F⟩ := c.d.def_ 17 (d := d_first_states) rfl
  exact gfn_of (ok_first_states (tx_ok X G c) (zg_kind_of (P := P) (w := w) (base := base) X G c) (zm_isst (P := P) (w := w) (base := base) X G c) (zg_copied (P := P) (w := w) (base := base) X G c 3) F) (He.glo_ok X G (c.d.fact 17 (f := .glo "first_states") rfl)) F.kp (F.bindsN fun _ _ _ _ _ _ us hl => match us, hl with | [_, _], _ => rfl)
theorem zg_plain_row  : G_plain_row P w K mg base := by
  obtain ⟨fd, F⟩ := c.d.def_ 11 (d := d_plain_row) rfl
  exact gfn_of (ok_plain_row (tx_ok X G c) F) (He.glo_ok X G (c.d.fact 11 (f := .glo "plain_row") rfl)) F.kp (F.bindsN fun _ _ _ _ _ _ us hl => match us, hl with | [_], _ => rfl)
theorem zg_straight  : G_straight P w K mg base := by
  obtain ⟨fd, F⟩ := c.d.def_ 12 (d := d_straight) rfl
  exact gfn_of (ok_straight (zg_plain_row (P := P) (w := w) (base := base) X G c) F) (He.glo_ok X G (c.d.fact 12 (f := .glo "straight") rfl)) F.kp (F.bindsN fun _ _ _ _ _ _ us hl => match us, hl with | [_, _], _ => rfl)
theorem zg_made  : G_made P w K mg base := by
  obtain ⟨fd, F⟩ := c.d.def_ 13 (d := d_made) rfl
  exact gfn_of (ok_made (zg_straight (P := P) (w := w) (base := base) X G c) F) (He.glo_ok X G (c.d.fact 13 (f := .glo "made") rfl)) F.kp (F.bindsN fun _ _ _ _ _ _ us hl => match us, hl with | [_], _ => rfl)
theorem zg_job_called  : G_job_called P w K mg base := by
  obtain ⟨fd, F⟩ := c.d.def_ 14 (d := d_job_called) rfl
  exact gfn_of (ok_job_called F) (He.glo_ok X G (c.d.fact 14 (f := .glo "job_called") rfl)) F.kp (F.bindsN fun _ _ _ _ _ _ us hl => match us, hl with | [_, _], _ => rfl)
theorem zg_reckoned  : G_reckoned P w K mg base := by
  obtain ⟨fd, F⟩ := c.d.def_ 10 (d := d_reckoned) rfl
  exact gfn_of (ok_reckoned F) (He.glo_ok X G (c.d.fact 10 (f := .glo "reckoned") rfl)) F.kp (F.bindsN fun _ _ _ _ _ _ us hl => match us, hl with | [_, _, _], _ => rfl)
theorem zm_line  : M_line P w K mg base (He.ga K "Thread") := by
  obtain ⟨fd, F⟩ := c.d.def_ 62 (d := d_Thread_line) rfl
  exact mfn_of (He.cls_ok (c.d.fact 92 (f := .cls "Thread") rfl)) (He.meth_ok (c.d.fact 111 (f := .meth "Thread" "line") rfl)) (ok_line (ThrF_ok c) F) (F.bindsN fun _ _ _ _ _ _ us hl => match us, hl with | [_], _ => rfl)
theorem zm_number  : M_number P w K mg base (He.ga K "Thread") := by
  obtain ⟨fd, F⟩ := c.d.def_ 63 (d := d_Thread_number) rfl
  exact mfn_of (He.cls_ok (c.d.fact 92 (f := .cls "Thread") rfl)) (He.meth_ok (c.d.fact 112 (f := .meth "Thread" "number") rfl)) (ok_number (ThrF_ok c) (zg_reckoned (P := P) (w := w) (base := base) X G c) F) (F.bindsN fun _ _ _ _ _ _ us hl => match us, hl with | [_, _], _ => rfl)
theorem zm_wish  : M_wish P w K mg base (He.ga K "Thread") := by
  obtain ⟨fd, F⟩ := c.d.def_ 64 (d := d_Thread_wish) rfl
  exact mfn_of (He.cls_ok (c.d.fact 92 (f := .cls "Thread") rfl)) (He.meth_ok (c.d.fact 113 (f := .meth "Thread" "wish") rfl)) (ok_wish (ThrF_ok c) F) (F.bindsN fun _ _ _ _ _ _ us hl => match us, hl with | [_], _ => rfl)
theorem zm_needed  : M_needed P w K mg base (He.ga K "Thread") := by
  obtain ⟨fd, F⟩ := c.d.def_ 66 (d := d_Thread_needed) rfl
  exact mfn_of (He.cls_ok (c.d.fact 92 (f := .cls "Thread") rfl)) (He.meth_ok (c.d.fact 115 (f := .meth "Thread" "needed") rfl)) (ok_needed (ThrF_ok c) (zm_number (P := P) (w := w) (base := base) X G c) F) (F.bindsN fun _ _ _ _ _ _ us hl => match us, hl with | [_, _], _ => rfl)
theorem zm_settle  : M_settle P w K mg base (He.ga K "Thread") := by
  obtain ⟨fd, F⟩ := c.d.def_ 61 (d := d_Thread_settle) rfl
  exact mfn_of (He.cls_ok (c.d.fact 92 (f := .cls "Thread") rfl)) (He.meth_ok (c.d.fact 110 (f := .meth "Thread" "settle") rfl)) (ok_settle (tx_ok X G c) (ThrF_ok c) F) (F.bindsN fun _ _ _ _ _ _ us hl => match us, hl with | [_], _ => rfl)
theorem zm_state_of  : M_state_of P w K mg base (He.ga K "Thread") := by
  obtain ⟨fd, F⟩ := c.d.def_ 68 (d := d_Thread_state_of) rfl
  exact mfn_of (He.cls_ok (c.d.fact 92 (f := .cls "Thread") rfl)) (He.meth_ok (c.d.fact 117 (f := .meth "Thread" "state_of") rfl)) (ok_state_of (ThrF_ok c) F) (F.bindsN fun _ _ _ _ _ _ us hl => match us, hl with | [_, _, _], _ => rfl)
theorem zm_plain  : M_plain P w K mg base (He.ga K "Thread") := by
  obtain ⟨fd, F⟩ := c.d.def_ 67 (d := d_Thread_plain) rfl
  exact mfn_of (He.cls_ok (c.d.fact 92 (f := .cls "Thread") rfl)) (He.meth_ok (c.d.fact 116 (f := .meth "Thread" "plain") rfl)) (ok_plain (ThrF_ok c) (zm_state_of (P := P) (w := w) (base := base) X G c) F) (F.bindsN fun _ _ _ _ _ _ us hl => match us, hl with | [_, _, _], _ => rfl)
theorem zm_deed  : M_deed P w K mg base (He.ga K "Thread") := by
  obtain ⟨fd, F⟩ := c.d.def_ 65 (d := d_Thread_deed) rfl
  exact mfn_of (He.cls_ok (c.d.fact 92 (f := .cls "Thread") rfl)) (He.meth_ok (c.d.fact 114 (f := .meth "Thread" "deed") rfl)) (ok_deed (ThrF_ok c) (zm_wish (P := P) (w := w) (base := base) X G c) (zm_needed (P := P) (w := w) (base := base) X G c) (zm_plain (P := P) (w := w) (base := base) X G c) (zm_settle (P := P) (w := w) (base := base) X G c) F) (F.bindsN fun _ _ _ _ _ _ us hl => match us, hl with | [_, _], _ => rfl)
theorem zk_Thread  : M_Thread P w K mg base (He.ga K "Thread") := by
  obtain ⟨fd, F⟩ := c.d.def_ 60 (d := d_Thread_init) rfl
  exact kfn_of (He.cls_ok (c.d.fact 92 (f := .cls "Thread") rfl)) (He.mkr_ok (c.d.fact 118 (f := .mkr "Thread") rfl)) (He.glo_ok X G (c.d.fact 51 (f := .glo "Thread") rfl)) (ok_Thread_init (tx_ok X G c) (ThrF_ok c) (zg_job_called (P := P) (w := w) (base := base) X G c) (zg_made (P := P) (w := w) (base := base) X G c) (zm_settle (P := P) (w := w) (base := base) X G c) F) (F.bindsN fun _ _ _ _ _ _ us hl => match us, hl with | [_, _, _, _, _], _ => rfl)
theorem zm_goes  : M_goes P w K mg base (CKA K) (He.ga K "House") (He.ga K "Thread") := by
  obtain ⟨fd, F⟩ := c.d.def_ 70 (d := d_House_goes) rfl
  exact mfn_of (He.cls_ok (c.d.fact 93 (f := .cls "House") rfl)) (He.meth_ok (c.d.fact 129 (f := .meth "House" "goes") rfl)) (ok_goes (ThrF_ok c) (zm_wish (P := P) (w := w) (base := base) X G c) F) (F.bindsN fun _ _ _ _ _ _ us hl => match us, hl with | [_, _], _ => rfl)
theorem zm_against  : M_against P w K mg base (CKA K) (He.ga K "House") (He.ga K "Thread") := by
  obtain ⟨fd, F⟩ := c.d.def_ 74 (d := d_House_against) rfl
  exact mfn_of (He.cls_ok (c.d.fact 93 (f := .cls "House") rfl)) (He.meth_ok (c.d.fact 133 (f := .meth "House" "against") rfl)) (ok_against (HouFd_ok c) (zm_join (P := P) (w := w) (base := base) X G c) F) (F.bindsN fun _ _ _ _ _ _ us hl => match us, hl with | [_, _, _], _ => rfl)
theorem zm_Hjoin  : M_Hjoin P w K mg base (CKA K) (He.ga K "House") (He.ga K "Thread") := by
  obtain ⟨fd, F⟩ := c.d.def_ 73 (d := d_House_join) rfl
  exact mfn_of (He.cls_ok (c.d.fact 93 (f := .cls "House") rfl)) (He.meth_ok (c.d.fact 132 (f := .meth "House" "join") rfl)) (ok_Hjoin (tx_ok X G c) (HouFd_ok c) (zm_join (P := P) (w := w) (base := base) X G c) (zm_against (P := P) (w := w) (base := base) X G c) F) (F.bindsN fun _ _ _ _ _ _ us hl => match us, hl with | [_, _, _, _], _ => rfl)
theorem zm_turn  : M_turn P w K mg base (CKA K) (He.ga K "House") (He.ga K "Thread") := by
  obtain ⟨fd, F⟩ := c.d.def_ 72 (d := d_House_turn) rfl
  exact mfn_of (He.cls_ok (c.d.fact 93 (f := .cls "House") rfl)) (He.meth_ok (c.d.fact 131 (f := .meth "House" "turn") rfl)) (ok_turn (HouFd_ok c) (zm_goes (P := P) (w := w) (base := base) X G c) (zm_line (P := P) (w := w) (base := base) X G c) (zm_wish (P := P) (w := w) (base := base) X G c) (zm_deed (P := P) (w := w) (base := base) X G c) (zm_Hjoin (P := P) (w := w) (base := base) X G c) F) (F.bindsN fun _ _ _ _ _ _ us hl => match us, hl with | [_, _], _ => rfl)
theorem zm_clashed  : M_clashed P w K mg base (CKA K) (He.ga K "House") (He.ga K "Thread") := by
  obtain ⟨fd, F⟩ := c.d.def_ 76 (d := d_House_clashed) rfl
  exact mfn_of (He.cls_ok (c.d.fact 93 (f := .cls "House") rfl)) (He.meth_ok (c.d.fact 135 (f := .meth "House" "clashed") rfl)) (ok_clashed (HouFd_ok c) F) (F.bindsN fun _ _ _ _ _ _ us hl => match us, hl with | [_], _ => rfl)
theorem zm_states  : M_states P w K mg base (CKA K) (He.ga K "House") (He.ga K "Thread") := by
  obtain ⟨fd, F⟩ := c.d.def_ 75 (d := d_House_states) rfl
  exact mfn_of (He.cls_ok (c.d.fact 93 (f := .cls "House") rfl)) (He.meth_ok (c.d.fact 134 (f := .meth "House" "states") rfl)) (ok_states (tx_ok X G c) (HouFd_ok c) F) (F.bindsN fun _ _ _ _ _ _ us hl => match us, hl with | [_], _ => rfl)
theorem zm_ready  : M_ready P w K mg base (CKA K) (He.ga K "House") (He.ga K "Thread") := by
  obtain ⟨fd, F⟩ := c.d.def_ 71 (d := d_House_ready) rfl
  exact mfn_of (He.cls_ok (c.d.fact 93 (f := .cls "House") rfl)) (He.meth_ok (c.d.fact 130 (f := .meth "House" "ready") rfl)) (ok_ready (tx_ok X G c) (HouFd_ok c) (zm_goes (P := P) (w := w) (base := base) X G c) F) (F.bindsN fun _ _ _ _ _ _ us hl => match us, hl with | [_], _ => rfl)
theorem zk_House : M_House P w K mg base (CKA K) (He.ga K "House") (He.ga K "Thread") := by
  obtain ⟨fd, F⟩ := c.d.def_ 69 (d := d_House_init) rfl
  obtain ⟨ds, hv, b⟩ := F.binds1 (ps := ["self", "program", "steps", "boxes"]) 4 1 (by intro e; cases e) rfl fun _ _ _ _ _ _ _ us its hl hl2 => match us, hl, its, hl2 with | [_, _, _, _], _, [_], _ => ⟨_, rfl, rfl⟩
  cases hv
  exact kfn_of (He.cls_ok (c.d.fact 93 (f := .cls "House") rfl)) (He.mkr_ok (c.d.fact 136 (f := .mkr "House") rfl)) (He.glo_ok X G (c.d.fact 52 (f := .glo "House") rfl)) (ok_House_init (tx_ok X G c) (HouFd_ok c) (zg_is_let (P := P) (w := w) (base := base) X G c) (zg_is_steps (P := P) (w := w) (base := base) X G c) (zg_first_states (P := P) (w := w) (base := base) X G c) (zg_copied (P := P) (w := w) (base := base) X G c 7) (zg_kind_of (P := P) (w := w) (base := base) X G c) (zk_Thread (P := P) (w := w) (base := base) X G c) F) b
theorem zl_spread  : G_spread P w K mg base := by
  obtain ⟨fd, F⟩ := c.d.def_ 37 (d := d_law_spread) rfl
  exact gfn_of (ok_spread F) (He.glo_ok X G (c.d.fact 37 (f := .glo "_law_spread") rfl)) F.kp (F.bindsN fun _ _ _ _ _ _ us hl => match us, hl with | [_, _], _ => rfl)
theorem zl_numL  : G_numL P w K mg base := by
  obtain ⟨fd, F⟩ := c.d.def_ 39 (d := d_law_number) rfl
  exact gfn_of (ok_numL F) (He.glo_ok X G (c.d.fact 39 (f := .glo "_law_number") rfl)) F.kp (F.bindsN fun _ _ _ _ _ _ us hl => match us, hl with | [_], _ => rfl)
theorem zl_cell  : G_cell P w K mg base := by
  obtain ⟨fd, F⟩ := c.d.def_ 36 (d := d_law_cell_at) rfl
  exact gfn_of (ok_cell (tx_ok X G c) F) (He.glo_ok X G (c.d.fact 36 (f := .glo "_law_cell_at") rfl)) F.kp (F.bindsN fun _ _ _ _ _ _ us hl => match us, hl with | [_, _], _ => rfl)
theorem zl_put  : G_putLaw P w K mg base := by
  obtain ⟨fd, F⟩ := c.d.def_ 40 (d := d_law_put) rfl
  exact gfn_of (ok_putLaw (tx_ok X G c) (zl_spread (P := P) (w := w) (base := base) X G c) (zl_numL (P := P) (w := w) (base := base) X G c) F) (He.glo_ok X G (c.d.fact 40 (f := .glo "_law_put") rfl)) F.kp (F.bindsN fun _ _ _ _ _ _ us hl => match us, hl with | [_, _], _ => rfl)
theorem zl_boxes  : G_boxesL P w K mg base := by
  obtain ⟨fd, F⟩ := c.d.def_ 38 (d := d_law_boxes) rfl
  exact gfn_of (ok_boxesL (tx_ok X G c) (zl_spread (P := P) (w := w) (base := base) X G c) F) (He.glo_ok X G (c.d.fact 38 (f := .glo "_law_boxes") rfl)) F.kp (F.bindsN fun _ _ _ _ _ _ us hl => match us, hl with | [_], _ => rfl)
theorem zl_joined  : G_joinedL P w K mg base := by
  obtain ⟨fd, F⟩ := c.d.def_ 41 (d := d_law_joined) rfl
  exact gfn_of (ok_joinedL (tx_ok X G c) F) (He.glo_ok X G (c.d.fact 41 (f := .glo "_law_joined") rfl)) F.kp (F.bindsN fun _ _ _ _ _ _ us hl => match us, hl with | [_, _, _], _ => rfl)
theorem zl_states  : G_statesL P w K mg base := by
  obtain ⟨fd, F⟩ := c.d.def_ 42 (d := d_law_states) rfl
  exact gfn_of (ok_statesL F) (He.glo_ok X G (c.d.fact 42 (f := .glo "_law_states") rfl)) F.kp (F.bindsN fun _ _ _ _ _ _ us hl => match us, hl with | [_, _], _ => rfl)
theorem zl_alike  : G_alike P w K mg base := by
  obtain ⟨fd, F⟩ := c.d.def_ 43 (d := d_law_alike) rfl
  exact gfn_of (ok_alike (tx_ok X G c) F) (He.glo_ok X G (c.d.fact 43 (f := .glo "_law_alike") rfl)) F.kp (F.bindsN fun _ _ _ _ _ _ us hl => match us, hl with | [_, _], _ => rfl)
theorem zl_tr  : G_tr P w K mg base (CKA K) (He.ga K "House") (He.ga K "Thread") := by
  obtain ⟨fd, F⟩ := c.d.def_ 44 (d := d_law_turn_right) rfl
  exact gfn_of (ok_tr (tx_ok X G c) (zm_turn (P := P) (w := w) (base := base) X G c) (zm_states (P := P) (w := w) (base := base) X G c) F) (He.glo_ok X G (c.d.fact 44 (f := .glo "_law_turn_right") rfl)) F.kp (F.bindsN fun _ _ _ _ _ _ us hl => match us, hl with | [_, _, _, _, _], _ => rfl)
theorem lawG : LawG P w K mg base (CKA K) (He.ga K "House") (He.ga K "Thread") := ⟨(tx_ok X G c), (zl_cell (P := P) (w := w) (base := base) X G c), (zl_spread (P := P) (w := w) (base := base) X G c), (zl_boxes (P := P) (w := w) (base := base) X G c), (zl_put (P := P) (w := w) (base := base) X G c), (zl_states (P := P) (w := w) (base := base) X G c), (zg_read (P := P) (w := w) (base := base) X G c), (zk_House (P := P) (w := w) (base := base) X G c), (zl_tr (P := P) (w := w) (base := base) X G c), (zl_joined (P := P) (w := w) (base := base) X G c), (zl_alike (P := P) (w := w) (base := base) X G c), (zm_states (P := P) (w := w) (base := base) X G c), (zm_clashed (P := P) (w := w) (base := base) X G c), (zm_ready (P := P) (w := w) (base := base) X G c)⟩
end
end SJ
set_option maxRecDepth 100000
set_option maxHeartbeats 4000000
/-! FB: the law's def, by what the head says. -/
namespace SJ
open PySem PySem.Spec PyProof.Rows L2
theorem facts {P : Program} {w : World} {K : PySem.W.Frag} {h : Heap} {mg : Str → Option Value} {f : Addr} (X : K.In h) (G : h.Ns mainGlobals mg) (hfa : mg ("law" : Str) = some (.ref f)) (c : SaysS faA fnA bsA K) :
    ∃ fd : FuncData, (∀ (s : Shared) (v : Value), BindsTo s fd ⟨[v], []⟩ [("_law_script", v)]) ∧ ∀ base : Heap, K.In base → base.Ns mainGlobals mg → FnOk P w K mg base CX0 11 f fd ["_law_script"] (SpF K Pre_law (fun _ => .bool true)) := by
  obtain ⟨fd, F⟩ := c.d.def_ 45 (d := d_law) rfl
  have e := hfa.symm.trans (He.glo_ok X G (c.d.fact 45 (f := .glo "law") rfl))
  cases e
  have b := FunD.bindsA (ps := ["_law_script"]) F fun _ _ _ _ _ _ us hl => match us, hl with | [_], _ => rfl
  exact ⟨fd, fun s v => b s [v] rfl, fun base _ _ => ok_law (lawG (base := base) X G c) F⟩
theorem law_sp {K : PySem.W.Frag} {H : Hp} {a : Addr} {ns : List Int} (hl : ns.length ≤ 63) (hS : SqL K H a (ns.map V.int)) : SpF K Pre_law (fun _ => .bool true) [.ref a] H (fun v _ => v = .bl true) fun _ _ _ => False :=
  ⟨H, [.sq a (ns.map V.int)], (a, ns), ⟨hl, rfl⟩, args_env (v := .ref a) (us := []) (Γx := []) (Same.refl _) ⟨rfl, hS⟩ rfl (fun i c e => by cases e) (fun i j c e a z => by cases z) (fun i c a e => by cases e), (fun i c a e z => by
    match i with
    | 0 => cases e; exact z
    | i + 1 => cases e), fun Gx H' v fr => fr.dq.boolE⟩
end SJ
set_option maxRecDepth 100000
set_option maxHeartbeats 0
/-! FC: the law holds, if the top runs as HR says. -/
namespace SJ
open PySem PySem.Spec PyProof.Rows L2
theorem obA_eq (s : PySem.W.SharedT) : obA s = hkA.obs s.abs := obsSG_eq (HandSHeadRun.getT_eq s)
abbrev RunA : Prop := ∀ w : World, HandSHeadRun.RunEq R (PySem.W.view R.prog [111]) hkA obA 12000 loose w
end SJ
open PySem PySem.W PySem.Calls PyProof.Rows
theorem SJ.holds_of (run : SJ.RunA) : PySem.Challenge.rw_surejoin_k43_boxes_join.Holds := by
  w_on; o_law
  refine HandSHeadRun.head_any (r := OpenLaw.row PySem.Challenge.rw_surejoin_k43_boxes_join) (q := view (OpenLaw.row PySem.Challenge.rw_surejoin_k43_boxes_join).prog [111]) (H := SJ.hkA) (ob := SJ.obA) (M := 12000) (loose := SJ.loose) (d := HandSHeadRun.topDef (OpenLaw.row PySem.Challenge.rw_surejoin_k43_boxes_join).prog 111) (kwd := []) SJ.obA_eq
    (by kernel_rfl) (fun s => by kernel_rfl) run (by kernel_rfl) (by kernel_rfl) (by kernel_rfl) (by rfl) (by first | assumption | decide +kernel) (by decide +kernel) ⟨rfl, rfl, rfl, rfl, rfl, by decide +kernel⟩ ?hw ?hc
  case hw => w_witness2
  case hc =>
    refine L2.walk_ofE (l := PySem.Challenge.rw_surejoin_k43_boxes_join) (n := 63) (k := 11) (x := "_law_script") (CX := L2.CX0) rfl (by decide) (by kernel_rfl) ⟨rfl, by decide, by decide⟩ ?F (fun _ _ _ _ z => z)
    intro w mg fa h Y G hmg0
    obtain ⟨K, KX, c⟩ := Y
    have hmg : mg ("law" : PySem.Str) = some (.ref fa) := by
      have e : (HandSHeadRun.topDef (OpenLaw.row PySem.Challenge.rw_surejoin_k43_boxes_join).prog 111).name = ("law" : PySem.Str) := by kernel_rfl
      rw [← e]
      exact hmg0
    obtain ⟨fd, hb, hF⟩ := SJ.facts (P := (PySem.Challenge.rw_surejoin_k43_boxes_join).prog) (w := w) KX G hmg c
    exact ⟨K, fd, SJ.SpF K SJ.Pre_law (fun _ => .bool true), KX, hb, fun H a ns hl _ hS => SJ.law_sp hl hS, hF⟩
theorem PySem.Challenge.cw_surejoin_k43_boxes_join_holds : PySem.Challenge.rw_surejoin_k43_boxes_join.Holds :=
  SJ.holds_of SJ.runA
